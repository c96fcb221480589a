/-
  The statement BillTotals of this chapter holds for every input, as its tied card says; no conditions.
-/
import Derived.Test.YtojkjhaobjidlaaDoorMb2
import Derived.Test.YtojkjhaobjidlaaDoorMb3
import Derived.Test.YtojkjhaobjidlaaDoorQBillTotals2
import Derived.Test.YtojkjhaobjidlaaDoorQBillTotals3
import Derived.Test.YtojkjhaobjidlaaDoorTie
import Derived.Test.YtojkjhaobjidlaaDoorCards
import Derived.WalkKit
import Derived.ProofKit
import Derived.OpenShut
import Derived.ShutString
import Derived.ChangeOld
import Derived.Below
import Derived.Carry
import Derived.SizedLaws
import Derived.Stop.Joined
import Derived.SevenTiedAt
import Derived.LaidMore
namespace Go.Proofs.YtojkjhaobjidlaaDoor.P
open Go.RowKit Go.Proofs.YtojkjhaobjidlaaDoorW.PrintWords Go.Proofs.YtojkjhaobjidlaaDoorW.PrintLast Go.Proofs.YtojkjhaobjidlaaDoorW.PrintMore
attribute [local go_sem] qbG qbH qbO qbP qbC qbD qbI qbJ
attribute [local go_sem] qbB
set_option linter.unusedVariables false
set_option linter.unusedSimpArgs false
def sawmilllaw50_BillTotals.f (k:Nat) (l0_0:List (S53)) (l0_1:List (S35)) (l0_2:List (S56)):Option (Bool):=(sawmilllaw50_small.f k l0_0 l0_1 l0_2).bind fun t102=>(if t102=true then ((bill_Total.f k l0_0 l0_1 l0_2).bind fun bt104=>((sawmilllaw50_items.f k l0_1).bind fun t106=>((sawmilllaw50_tiers.f k l0_2).bind fun t109=>((sawmillref50_Total.f k l0_0 t106 t109).bind fun bt112=>((bill_Text.f k l0_0 l0_1 l0_2).bind fun bt114=>((sawmilllaw50_items.f k l0_1).bind fun t116=>((sawmilllaw50_tiers.f k l0_2).bind fun t119=>((sawmillref50_Text.f k l0_0 t116 t119).bind fun bt122=>(if bt104.1=bt112.1 then (if bt104.2=bt112.2 then (if bt114.1.toList=bt122.1.toList then (if bt114.2=bt122.2 then ((sawmilllaw50_awake.f k).bind fun t124=>(some t124)) else (some false)) else (some false)) else (some false)) else (some false)))))))))) else ((sawmilllaw50_awake.f k).bind fun t103=>(some t103)))
def sawmilllaw50_BillTotals.T4:Bool × List (List Nat × List Nat):=(true,[([],[]),([0],[0]),([],[]),([2],[2]),([3],[3]),([],[]),([5],[5]),([6,4],[6]),([1,4,7,7],[1,4,7]),([8],[8]),([9],[9]),([9],[9]),([10,8,0,1,2,3,4,5,6,7,8,9,10],[10]),([11,12,0,1,2,3,4,5,6,7,8,9,10,11,12],[11])])
def sawmilllaw50_BillTotals.B4:List Nat:=[0,1,0,4,12,0,32,124,255,511,1023,1023,2047,8191]
theorem sawmilllaw50_BillTotals.tab4:rtab .any (opsOf Tryd.f6 4)=sawmilllaw50_BillTotals.T4:=by kernel_rfl
theorem sawmilllaw50_BillTotals.bits4:waitsOk sawmilllaw50_BillTotals.T4.2 sawmilllaw50_BillTotals.B4=true:=by kernel_rfl
def sawmilllaw50_BillTotals.T6:Bool × List (List Nat × List Nat):=(true,[([],[]),([0],[0]),([],[]),([2],[2]),([3],[3]),([],[]),([5],[5]),([6,4],[6]),([1,4,7,7],[1,4,7]),([8],[8]),([9],[9]),([9],[9]),([10,8,0,1,2,3,4,5,6,7,8,9,10],[10]),([11,12,0,1,2,3,4,5,6,7,8,9,10,11,12],[11])])
def sawmilllaw50_BillTotals.B6:List Nat:=[0,1,0,4,12,0,32,124,255,511,1023,1023,2047,8191]
theorem sawmilllaw50_BillTotals.tab6:rtab .any (opsOf Tryd.f6 6)=sawmilllaw50_BillTotals.T6:=by kernel_rfl
theorem sawmilllaw50_BillTotals.bits6:waitsOk sawmilllaw50_BillTotals.T6.2 sawmilllaw50_BillTotals.B6=true:=by kernel_rfl
set_option maxHeartbeats 8000000 in
set_option maxRecDepth 100000 in
theorem sawmilllaw50_BillTotals.calls (k:Nat) (A0_0:Option Addr) (c0_0:Nat) (l0_0:List (S53)) (A0_1:Option Addr) (c0_1:Nat) (l0_1:List (S35)) (A0_2:Option Addr) (c0_2:Nat) (l0_2:List (S56)) (r:Bool) (w:World) (hr0_0:Kd.C k53 w A0_0 l0_0.length l0_0) (hc0_0:l0_0.length≤c0_0) (hr0_1:Kd.C k35 w A0_1 l0_1.length l0_1) (hc0_1:l0_1.length≤c0_1) (hr0_2:Kd.C k56 w A0_2 l0_2.length l0_2) (hc0_2:l0_2.length≤c0_2) (h:sawmilllaw50_BillTotals.f k l0_0 l0_1 l0_2=some r) (HG_:Aside0 (Glob w)) :
  Calls Tryd.prog 6 #[.agg #[.slice A0_0 l0_0.length c0_0,.slice A0_1 l0_1.length c0_1,.slice A0_2 l0_2.length c0_2]] w fun e w'=>e=.returned (.bool r)∧Below w.heap.size w w':=by
 have hu26:=Tryd.underlying26
 have HR0_0:=Aside0.mk hr0_0
 have HC0_0:=Aside0.mk hc0_0
 clear hr0_0 hc0_0
 have HR0_1:=Aside0.mk hr0_1
 have HC0_1:=Aside0.mk hc0_1
 clear hr0_1 hc0_1
 have HR0_2:=Aside0.mk hr0_2
 have HC0_2:=Aside0.mk hc0_2
 clear hr0_2 hc0_2
 have HB:=Aside0.mk (Below.refl w.heap.size w)
 have H:((sawmilllaw50_small.f k l0_0 l0_1 l0_2).bind fun t102=>(if t102=true then ((bill_Total.f k l0_0 l0_1 l0_2).bind fun bt104=>((sawmilllaw50_items.f k l0_1).bind fun t106=>((sawmilllaw50_tiers.f k l0_2).bind fun t109=>((sawmillref50_Total.f k l0_0 t106 t109).bind fun bt112=>((bill_Text.f k l0_0 l0_1 l0_2).bind fun bt114=>((sawmilllaw50_items.f k l0_1).bind fun t116=>((sawmilllaw50_tiers.f k l0_2).bind fun t119=>((sawmillref50_Text.f k l0_0 t116 t119).bind fun bt122=>(if bt104.1=bt112.1 then (if bt104.2=bt112.2 then (if bt114.1.toList=bt122.1.toList then (if bt114.2=bt122.2 then ((sawmilllaw50_awake.f k).bind fun t124=>(some t124)) else (some false)) else (some false)) else (some false)) else (some false)))))))))) else ((sawmilllaw50_awake.f k).bind fun t103=>(some t103))))=some r:=h
 clear h
 replace H:=Option.bind_eq_some_iff.mp H
 obtain ⟨t102,A20,H⟩:=H
 replace H:(if t102=true then ((bill_Total.f k l0_0 l0_1 l0_2).bind fun bt104=>((sawmilllaw50_items.f k l0_1).bind fun t106=>((sawmilllaw50_tiers.f k l0_2).bind fun t109=>((sawmillref50_Total.f k l0_0 t106 t109).bind fun bt112=>((bill_Text.f k l0_0 l0_1 l0_2).bind fun bt114=>((sawmilllaw50_items.f k l0_1).bind fun t116=>((sawmilllaw50_tiers.f k l0_2).bind fun t119=>((sawmillref50_Text.f k l0_0 t116 t119).bind fun bt122=>(if bt104.1=bt112.1 then (if bt104.2=bt112.2 then (if bt114.1.toList=bt122.1.toList then (if bt114.2=bt122.2 then ((sawmilllaw50_awake.f k).bind fun t124=>(some t124)) else (some false)) else (some false)) else (some false)) else (some false)))))))))) else ((sawmilllaw50_awake.f k).bind fun t103=>(some t103)))=some r:=H
 have A2:=Aside0.mk A20
 clear A20
 by_cases c3:t102=true
 ·subst c3
  have H1:((bill_Total.f k l0_0 l0_1 l0_2).bind fun bt104=>((sawmilllaw50_items.f k l0_1).bind fun t106=>((sawmilllaw50_tiers.f k l0_2).bind fun t109=>((sawmillref50_Total.f k l0_0 t106 t109).bind fun bt112=>((bill_Text.f k l0_0 l0_1 l0_2).bind fun bt114=>((sawmilllaw50_items.f k l0_1).bind fun t116=>((sawmilllaw50_tiers.f k l0_2).bind fun t119=>((sawmillref50_Text.f k l0_0 t116 t119).bind fun bt122=>(if bt104.1=bt112.1 then (if bt104.2=bt112.2 then (if bt114.1.toList=bt122.1.toList then (if bt114.2=bt122.2 then ((sawmilllaw50_awake.f k).bind fun t124=>(some t124)) else (some false)) else (some false)) else (some false)) else (some false))))))))))=some r:=by rw [if_pos rfl] at H;exact H
  clear H
  have H:=H1
  clear H1
  replace H:=Option.bind_eq_some_iff.mp H
  obtain ⟨⟨t104,t105⟩,A40,H⟩:=H
  replace H:((sawmilllaw50_items.f k l0_1).bind fun t106=>((sawmilllaw50_tiers.f k l0_2).bind fun t109=>((sawmillref50_Total.f k l0_0 t106 t109).bind fun bt112=>((bill_Text.f k l0_0 l0_1 l0_2).bind fun bt114=>((sawmilllaw50_items.f k l0_1).bind fun t116=>((sawmilllaw50_tiers.f k l0_2).bind fun t119=>((sawmillref50_Text.f k l0_0 t116 t119).bind fun bt122=>(if t104=bt112.1 then (if t105=bt112.2 then (if bt114.1.toList=bt122.1.toList then (if bt114.2=bt122.2 then ((sawmilllaw50_awake.f k).bind fun t124=>(some t124)) else (some false)) else (some false)) else (some false)) else (some false)))))))))=some r:=H
  have A4:=Aside0.mk A40
  clear A40
  replace H:=Option.bind_eq_some_iff.mp H
  obtain ⟨t106,A50,H⟩:=H
  replace H:((sawmilllaw50_tiers.f k l0_2).bind fun t109=>((sawmillref50_Total.f k l0_0 t106 t109).bind fun bt112=>((bill_Text.f k l0_0 l0_1 l0_2).bind fun bt114=>((sawmilllaw50_items.f k l0_1).bind fun t116=>((sawmilllaw50_tiers.f k l0_2).bind fun t119=>((sawmillref50_Text.f k l0_0 t116 t119).bind fun bt122=>(if t104=bt112.1 then (if t105=bt112.2 then (if bt114.1.toList=bt122.1.toList then (if bt114.2=bt122.2 then ((sawmilllaw50_awake.f k).bind fun t124=>(some t124)) else (some false)) else (some false)) else (some false)) else (some false))))))))=some r:=H
  have A5:=Aside0.mk A50
  clear A50
  replace H:=Option.bind_eq_some_iff.mp H
  obtain ⟨t109,A60,H⟩:=H
  replace H:((sawmillref50_Total.f k l0_0 t106 t109).bind fun bt112=>((bill_Text.f k l0_0 l0_1 l0_2).bind fun bt114=>((sawmilllaw50_items.f k l0_1).bind fun t116=>((sawmilllaw50_tiers.f k l0_2).bind fun t119=>((sawmillref50_Text.f k l0_0 t116 t119).bind fun bt122=>(if t104=bt112.1 then (if t105=bt112.2 then (if bt114.1.toList=bt122.1.toList then (if bt114.2=bt122.2 then ((sawmilllaw50_awake.f k).bind fun t124=>(some t124)) else (some false)) else (some false)) else (some false)) else (some false)))))))=some r:=H
  have A6:=Aside0.mk A60
  clear A60
  replace H:=Option.bind_eq_some_iff.mp H
  obtain ⟨⟨t112,t113⟩,A70,H⟩:=H
  replace H:((bill_Text.f k l0_0 l0_1 l0_2).bind fun bt114=>((sawmilllaw50_items.f k l0_1).bind fun t116=>((sawmilllaw50_tiers.f k l0_2).bind fun t119=>((sawmillref50_Text.f k l0_0 t116 t119).bind fun bt122=>(if t104=t112 then (if t105=t113 then (if bt114.1.toList=bt122.1.toList then (if bt114.2=bt122.2 then ((sawmilllaw50_awake.f k).bind fun t124=>(some t124)) else (some false)) else (some false)) else (some false)) else (some false))))))=some r:=H
  have A7:=Aside0.mk A70
  clear A70
  replace H:=Option.bind_eq_some_iff.mp H
  obtain ⟨⟨t114,t115⟩,A80,H⟩:=H
  replace H:((sawmilllaw50_items.f k l0_1).bind fun t116=>((sawmilllaw50_tiers.f k l0_2).bind fun t119=>((sawmillref50_Text.f k l0_0 t116 t119).bind fun bt122=>(if t104=t112 then (if t105=t113 then (if t114.toList=bt122.1.toList then (if t115=bt122.2 then ((sawmilllaw50_awake.f k).bind fun t124=>(some t124)) else (some false)) else (some false)) else (some false)) else (some false)))))=some r:=H
  have A8:=Aside0.mk A80
  clear A80
  replace H:=Option.bind_eq_some_iff.mp H
  obtain ⟨t116,A90,H⟩:=H
  replace H:((sawmilllaw50_tiers.f k l0_2).bind fun t119=>((sawmillref50_Text.f k l0_0 t116 t119).bind fun bt122=>(if t104=t112 then (if t105=t113 then (if t114.toList=bt122.1.toList then (if t115=bt122.2 then ((sawmilllaw50_awake.f k).bind fun t124=>(some t124)) else (some false)) else (some false)) else (some false)) else (some false))))=some r:=H
  have A9:=Aside0.mk A90
  clear A90
  replace H:=Option.bind_eq_some_iff.mp H
  obtain ⟨t119,A100,H⟩:=H
  replace H:((sawmillref50_Text.f k l0_0 t116 t119).bind fun bt122=>(if t104=t112 then (if t105=t113 then (if t114.toList=bt122.1.toList then (if t115=bt122.2 then ((sawmilllaw50_awake.f k).bind fun t124=>(some t124)) else (some false)) else (some false)) else (some false)) else (some false)))=some r:=H
  have A10:=Aside0.mk A100
  clear A100
  replace H:=Option.bind_eq_some_iff.mp H
  obtain ⟨⟨t122,t123⟩,A110,H⟩:=H
  replace H:(if t104=t112 then (if t105=t113 then (if t114.toList=t122.toList then (if t115=t123 then ((sawmilllaw50_awake.f k).bind fun t124=>(some t124)) else (some false)) else (some false)) else (some false)) else (some false))=some r:=H
  have A11:=Aside0.mk A110
  clear A110
  by_cases c12:t104=t112
  ·rw [if_pos c12] at H
   have c12b0:(t104 == t112)=true:=beq_iff_eq.mpr c12
   have c12b1:(t104 != t112)=false:=bne_eq_false_iff_eq.mpr c12
   clear c12
   by_cases c13:t105=t113
   ·rw [if_pos c13] at H
    have c13b0:(t105 == t113)=true:=beq_iff_eq.mpr c13
    have c13b1:(t105 != t113)=false:=bne_eq_false_iff_eq.mpr c13
    clear c13
    by_cases c14:t114.toList=t122.toList
    ·rw [if_pos c14] at H
     have c14b0:(t114.toList == t122.toList)=true:=beq_iff_eq.mpr c14
     have c14b1:(t114.toList != t122.toList)=false:=bne_eq_false_iff_eq.mpr c14
     clear c14
     by_cases c15:t115=t123
     ·rw [if_pos c15] at H
      have c15b0:(t115 == t123)=true:=beq_iff_eq.mpr c15
      have c15b1:(t115 != t123)=false:=bne_eq_false_iff_eq.mpr c15
      clear c15
      replace H:=Option.bind_eq_some_iff.mp H
      obtain ⟨t124,A160,H⟩:=H
      replace H:(some t124)=some r:=H
      have A16:=Aside0.mk A160
      clear A160
      obtain rfl:=Option.some.inj H
      go_enter Tryd.func6,Tryd.ntmps6
      try go_wp2_with (first|((with_reducible refine qaV (N:=1) rfl ?_);refine qaT ?hg (N:=1) ?hd (cs:=#[.slice A0_0 l0_0.length c0_0,.slice A0_1 l0_1.length c0_1,.slice A0_2 l0_2.length c0_2]) (t:=26) ?hr ?_;(case hd=>rfl);(case hg=>rfl);(case hr=>first|(go_simp;done)|(go_simp;rfl));intro gb101 hg w17 hbox hb;have n0_:=Aside0.mk (qaH (by repeat (first|(with_reducible first|exact HB.out|apply qaD|apply qaB|apply qaE)|exact HB.out)) hb);have n1_:=Aside0.mk (hbox);have n2_:=Aside0.mk ((by rw [hg];exact (qaN (by repeat (first|(with_reducible first|exact HB.out|apply qaD|apply qaB|apply qaE)|exact HB.out))):w.heap.size≤gb101));have n3_:=Aside0.mk ((by rw [hg];exact (qaN (by repeat (first|(with_reducible first|exact HB.out|apply qaD|apply qaB|apply qaE)|exact HB.out))):w.heap.size≤gb101));clear HB;have HB:=n0_;have BK101:=n1_;have GW101:=n2_;have GE101:=n3_;clear n0_ n1_ n2_ n3_;clear hb hbox hg;have hcz18_0:w17.cell? ⟨gb101,0,none⟩=some (.slice A0_0 l0_0.length c0_0):=(qaC BK101.out 0).trans rfl;have hcz18_1:w17.cell? ⟨gb101,1,none⟩=some (.slice A0_1 l0_1.length c0_1):=(qaC BK101.out 1).trans rfl;have hcz18_2:w17.cell? ⟨gb101,2,none⟩=some (.slice A0_2 l0_2.length c0_2):=(qaC BK101.out 2).trans rfl;have hfz18_0:=qaA BK101.out 0;have hfz18_1:=qaA BK101.out 1;have hfz18_2:=qaA BK101.out 2)|((with_reducible refine qaS (f:=10) rfl ?_);refine qbE (some 12) rfl rfl Tryd.func10 (by kernel_rfl) rfl #[.agg #[.slice A0_0 l0_0.length c0_0,.slice A0_1 l0_1.length c0_1,.slice A0_2 l0_2.length c0_2]] rfl (by (try simp only [List.map_toArray,List.map_cons,List.map_nil]);first|done|rfl|(simp only [List.length_drop,List.length_take];rfl)) ?_;(with_reducible refine (sawmilllaw50_small.calls k _ _ l0_0 _ _ l0_1 _ _ l0_2 true _ ?side1 ?side2 ?side3 ?side4 ?side5 ?side6 A2.out).mono ?_);(case side1=>repeat (first|exact (Kd.C_below HR0_0.out HB.out)|(with_reducible refine Kd.C_alloc ?_ _)|(with_reducible refine Kd.C_drewN ?_ _)|(with_reducible refine Kd.C_drew ?_)));(case side2=>exact HC0_0.out);(case side3=>repeat (first|exact (Kd.C_below HR0_1.out HB.out)|(with_reducible refine Kd.C_alloc ?_ _)|(with_reducible refine Kd.C_drewN ?_ _)|(with_reducible refine Kd.C_drew ?_)));(case side4=>exact HC0_1.out);(case side5=>repeat (first|exact (Kd.C_below HR0_2.out HB.out)|(with_reducible refine Kd.C_alloc ?_ _)|(with_reducible refine Kd.C_drewN ?_ _)|(with_reducible refine Kd.C_drew ?_)));(case side6=>exact HC0_2.out);rintro e w19 ⟨rfl,hb⟩;refine ⟨_,rfl,?_⟩;have n0_:=Aside0.mk (qaQ (g:=gb101) (o:=.cells #[.slice A0_0 l0_0.length c0_0,.slice A0_1 l0_1.length c0_1,.slice A0_2 l0_2.length c0_2] 26 (0,0)) (by (with_reducible repeat (first|refine qaJ ?_ _|refine qaK ?_|refine qaI ?_ _));exact BK101.out) hb);have n1_:=Aside0.mk (qaH (by repeat (first|(with_reducible first|exact HB.out|apply qaD|apply qaB|apply qaE|refine qaG ?_ GE101.out)|exact HB.out)) hb);clear BK101;clear HB;have BK101:=n0_;have HB:=n1_;clear n0_ n1_;(try clear hb);(try clear hb2);(try clear hk);(try clear hi);have hcz20_0:w19.cell? ⟨gb101,0,none⟩=some (.slice A0_0 l0_0.length c0_0):=(qaC BK101.out 0).trans rfl;have hcz20_1:w19.cell? ⟨gb101,1,none⟩=some (.slice A0_1 l0_1.length c0_1):=(qaC BK101.out 1).trans rfl;have hcz20_2:w19.cell? ⟨gb101,2,none⟩=some (.slice A0_2 l0_2.length c0_2):=(qaC BK101.out 2).trans rfl;have hfz20_0:=qaA BK101.out 0;have hfz20_1:=qaA BK101.out 1;have hfz20_2:=qaA BK101.out 2)|((with_reducible refine qaS (f:=12) rfl ?_);refine qbE (some 22) rfl rfl Tryd.func12 (by kernel_rfl) rfl #[.slice A0_0 l0_0.length c0_0,.slice A0_1 l0_1.length c0_1,.slice A0_2 l0_2.length c0_2] rfl (by (try simp only [List.map_toArray,List.map_cons,List.map_nil]);first|done|rfl|(simp only [List.length_drop,List.length_take];rfl)) ?_;(with_reducible refine (bill_Total.calls k _ _ l0_0 _ _ l0_1 _ _ l0_2 t104 t105 _ ?side1 ?side2 ?side3 ?side4 ?side5 ?side6 A4.out).mono ?_);(case side1=>repeat (first|exact (Kd.C_below HR0_0.out HB.out)|(with_reducible refine Kd.C_alloc ?_ _)|(with_reducible refine Kd.C_drewN ?_ _)|(with_reducible refine Kd.C_drew ?_)));(case side2=>exact HC0_0.out);(case side3=>repeat (first|exact (Kd.C_below HR0_1.out HB.out)|(with_reducible refine Kd.C_alloc ?_ _)|(with_reducible refine Kd.C_drewN ?_ _)|(with_reducible refine Kd.C_drew ?_)));(case side4=>exact HC0_1.out);(case side5=>repeat (first|exact (Kd.C_below HR0_2.out HB.out)|(with_reducible refine Kd.C_alloc ?_ _)|(with_reducible refine Kd.C_drewN ?_ _)|(with_reducible refine Kd.C_drew ?_)));(case side6=>exact HC0_2.out);rintro e w21 ⟨rfl,hb⟩;refine ⟨_,rfl,?_⟩;have n0_:=Aside0.mk (qaQ (g:=gb101) (o:=.cells #[.slice A0_0 l0_0.length c0_0,.slice A0_1 l0_1.length c0_1,.slice A0_2 l0_2.length c0_2] 26 (0,0)) (by (with_reducible repeat (first|refine qaJ ?_ _|refine qaK ?_|refine qaI ?_ _));exact BK101.out) hb);have n1_:=Aside0.mk (qaH (by repeat (first|(with_reducible first|exact HB.out|apply qaD|apply qaB|apply qaE|refine qaG ?_ GE101.out)|exact HB.out)) hb);clear BK101;clear HB;have BK101:=n0_;have HB:=n1_;clear n0_ n1_;(try clear hb);(try clear hb2);(try clear hk);(try clear hi)))
      have n0_:=Aside0.mk (qaK BK101.out)
      have n1_:=Aside0.mk (qaE HB.out)
      clear BK101
      clear HB
      have BK101:=n0_
      have HB:=n1_
      clear n0_ n1_
      refine start_ (n:=14) (S:=fun w'=>w'.cell? ⟨gb101,0,none⟩=some (.slice A0_0 l0_0.length c0_0)∧w'.cell? ⟨gb101,1,none⟩=some (.slice A0_1 l0_1.length c0_1)∧w'.cell? ⟨gb101,2,none⟩=some (.slice A0_2 l0_2.length c0_2)) (ds:=[]) (bitsA 14 0) (by kernel_rfl) rfl rfl ⟨(qaC BK101.out 0).trans rfl,(qaC BK101.out 1).trans rfl,(qaC BK101.out 2).trans rfl⟩ (fun hHeld=>?_);refine qbN sawmilllaw50_BillTotals.tab4 sawmilllaw50_BillTotals.bits4 (fun HT_ HW_=>?_)
      generalize w21.drew=w22 at BK101 HB hHeld ⊢
      refine qaU (i:=0) (N:=some 26) (v:=?_) (a':=?_) #[true,false,false,false,false,false,false,false,false,false,false,false,false,false] rfl rfl (qaR HT_.out (by kernel_rfl)) (fun _ _ _ h=>h) (Or.inl ⟨by rfl,?_⟩) ?_ ?_
      rotate_left;(intro w';go_simp;with_reducible rfl);rotate_left;(simp only [Act.put,List.setIfInBounds_toArray,List.set_cons_zero,List.set_cons_succ,qaO,qaP];rfl)
      refine qaU (i:=2) (N:=some 28) (v:=?_) (a':=?_) #[true,false,true,false,false,false,false,false,false,false,false,false,false,false] rfl rfl (qaR HT_.out (by kernel_rfl)) (fun _ _ _ h=>h) (Or.inl ⟨by rfl,?_⟩) ?_ ?_
      rotate_left;(intro w';go_simp;with_reducible rfl);rotate_left;(simp only [Act.put,List.setIfInBounds_toArray,List.set_cons_zero,List.set_cons_succ,qaO,qaP];rfl)
      refine qaU (i:=5) (N:=some 31) (v:=?_) (a':=?_) #[true,false,true,false,false,true,false,false,false,false,false,false,false,false] rfl rfl (qaR HT_.out (by kernel_rfl)) (fun _ _ _ h=>h) (Or.inl ⟨by rfl,?_⟩) ?_ ?_
      rotate_left;(intro w';go_simp;with_reducible rfl);rotate_left;(simp only [Act.put,List.setIfInBounds_toArray,List.set_cons_zero,List.set_cons_succ,qaO,qaP];rfl)
      refine take_ (i:=1) (N:=some 27) (v:=?_) (a':=?_) (bitsA 14 39) rfl rfl (qaX HT_.out HW_.out (by kernel_rfl)) (fun _ _ _ h=>h) (Or.inl ⟨by rfl,?_⟩) hHeld ?_ ?_
      rotate_left;(rintro w' ⟨s0,s1,s2⟩;go_simp;with_reducible rfl);rotate_left;(simp only [Act.put,List.setIfInBounds_toArray,List.set_cons_zero,List.set_cons_succ,qaO,qaP];rfl)
      refine take_ (i:=3) (N:=some 29) (v:=?_) (a':=?_) (bitsA 14 47) rfl rfl (qaX HT_.out HW_.out (by kernel_rfl)) (fun _ _ _ h=>h) (Or.inl ⟨by rfl,?_⟩) hHeld ?_ ?_
      rotate_left;(rintro w' ⟨s0,s1,s2⟩;go_simp;with_reducible rfl);rotate_left;(simp only [Act.put,List.setIfInBounds_toArray,List.set_cons_zero,List.set_cons_succ,qaO,qaP];rfl)
      refine take_ (i:=6) (N:=some 32) (v:=?_) (a':=?_) (bitsA 14 111) rfl rfl (qaX HT_.out HW_.out (by kernel_rfl)) (fun _ _ _ h=>h) (Or.inl ⟨by rfl,?_⟩) hHeld ?_ ?_
      rotate_left;(rintro w' ⟨s0,s1,s2⟩;go_simp;with_reducible rfl);rotate_left;(simp only [Act.put,List.setIfInBounds_toArray,List.set_cons_zero,List.set_cons_succ,qaO,qaP];rfl)
      refine one_ (i:=4) (N:=some 30) (bitsA 14 127) rfl rfl (qbM HT_.out (by kernel_rfl)) (by decide) (fun K hK=>?_)
      refine goes_ Tryd.func20 (by kernel_rfl) rfl #[.slice A0_1 l0_1.length c0_1] (by rfl) rfl rfl (by (try simp only [List.map_toArray,List.map_cons,List.map_nil]);first|done|rfl|(simp only [List.length_drop,List.length_take];rfl)) ?_
      with_reducible refine (sawmilllaw50_items.calls k _ _ l0_1 t106 _ ?side1 ?side2 A5.out).mono ?_
      (case side1=>repeat (first|exact (Kd.C_below HR0_1.out HB.out)|(with_reducible refine Kd.C_alloc ?_ _)|(with_reducible refine Kd.C_drewN ?_ _)|(with_reducible refine Kd.C_drew ?_)))
      (case side2=>exact HC0_1.out)
      rintro e w23 ⟨v107,rfl,ho0,hb⟩
      refine ⟨_,rfl,?_⟩
      have n0_:=Aside0.mk (Kd.R_lower ho0 (qaN (by repeat (first|(with_reducible first|exact HB.out|apply qaD|apply qaB|apply qaE|refine qaG ?_ GE101.out)|exact HB.out))))
      have n1_:=Aside0.mk (qaQ (g:=gb101) (o:=.cells #[.slice A0_0 l0_0.length c0_0,.slice A0_1 l0_1.length c0_1,.slice A0_2 l0_2.length c0_2] 26 (0,0)) (by (with_reducible repeat (first|refine qaJ ?_ _|refine qaK ?_|refine qaI ?_ _));exact BK101.out) hb)
      have n2_:=Aside0.mk (qaH (by repeat (first|(with_reducible first|exact HB.out|apply qaD|apply qaB|apply qaE|refine qaG ?_ GE101.out)|exact HB.out)) hb)
      clear BK101
      clear HB
      have HO108:=n0_
      have BK101:=n1_
      have HB:=n2_
      clear n0_ n1_ n2_
      (try clear hb)
      (try clear hb2)
      (try clear hk)
      (try clear hi)
      (try clear ho0)
      refine hK.out _ _ ⟨(qaC BK101.out 0).trans rfl,(qaC BK101.out 1).trans rfl,(qaC BK101.out 2).trans rfl⟩ (fun hHeld=>?_)
      clear hK K
      refine norm_ (a':=?_) ?_ ?_
      rotate_left
      ·show Act.put _ (some 30) _=_
       simp only [Act.put,List.setIfInBounds_toArray,List.set_cons_zero,List.set_cons_succ,qaO,qaP]
       rfl
      refine one_ (i:=7) (N:=some 33) (bitsA 14 255) rfl rfl (qbM HT_.out (by kernel_rfl)) (by decide) (fun K hK=>?_)
      refine goes_ Tryd.func18 (by kernel_rfl) rfl #[.slice A0_2 l0_2.length c0_2] (by rfl) rfl rfl (by (try simp only [List.map_toArray,List.map_cons,List.map_nil]);first|done|rfl|(simp only [List.length_drop,List.length_take];rfl)) ?_
      with_reducible refine (sawmilllaw50_tiers.calls k _ _ l0_2 t109 _ ?side1 ?side2 A6.out).mono ?_
      (case side1=>repeat (first|exact (Kd.C_below HR0_2.out HB.out)|(with_reducible refine Kd.C_alloc ?_ _)|(with_reducible refine Kd.C_drewN ?_ _)|(with_reducible refine Kd.C_drew ?_)))
      (case side2=>exact HC0_2.out)
      rintro e w24 ⟨v110,rfl,ho0,hb⟩
      refine ⟨_,rfl,?_⟩
      have n0_:=Aside0.mk (Kd.R_below (by (with_reducible repeat (first|apply Kd.R_alloc|apply Kd.R_drewN|apply Kd.R_drew));exact HO108.out) hb)
      have n1_:=Aside0.mk (Kd.R_lower ho0 (qaN (by repeat (first|(with_reducible first|exact HB.out|apply qaD|apply qaB|apply qaE|refine qaG ?_ GE101.out)|exact HB.out))))
      have n2_:=Aside0.mk (qaQ (g:=gb101) (o:=.cells #[.slice A0_0 l0_0.length c0_0,.slice A0_1 l0_1.length c0_1,.slice A0_2 l0_2.length c0_2] 26 (0,0)) (by (with_reducible repeat (first|refine qaJ ?_ _|refine qaK ?_|refine qaI ?_ _));exact BK101.out) hb)
      have n3_:=Aside0.mk (qaH (by repeat (first|(with_reducible first|exact HB.out|apply qaD|apply qaB|apply qaE|refine qaG ?_ GE101.out)|exact HB.out)) hb)
      clear HO108
      clear BK101
      clear HB
      have HO108:=n0_
      have HO111:=n1_
      have BK101:=n2_
      have HB:=n3_
      clear n0_ n1_ n2_ n3_
      (try clear hb)
      (try clear hb2)
      (try clear hk)
      (try clear hi)
      (try clear ho0)
      obtain ⟨Ao25,co25,eo25⟩:=Kd.R_slice HO108.out
      (first|subst eo25|(injection eo25 with f1_ f2_ f3_;have f4_:=f1_.symm;have f5_:=f3_.symm;clear f1_ f2_ f3_;subst f4_;subst f5_))
      obtain ⟨Ao26,co26,eo26⟩:=Kd.R_slice HO111.out
      (first|subst eo26|(injection eo26 with f1_ f2_ f3_;have f4_:=f1_.symm;have f5_:=f3_.symm;clear f1_ f2_ f3_;subst f4_;subst f5_))
      refine hK.out _ _ ⟨(qaC BK101.out 0).trans rfl,(qaC BK101.out 1).trans rfl,(qaC BK101.out 2).trans rfl⟩ (fun hHeld=>?_)
      clear hK K
      refine norm_ (a':=?_) ?_ ?_
      rotate_left
      ·show Act.put _ (some 33) _=_
       simp only [Act.put,List.setIfInBounds_toArray,List.set_cons_zero,List.set_cons_succ,qaO,qaP]
       rfl
      refine one_ (i:=8) (N:=some 34) (bitsA 14 511) rfl rfl (qbM HT_.out (by kernel_rfl)) (by decide) (fun K hK=>?_)
      refine goes_ Tryd.func19 (by kernel_rfl) rfl #[.slice A0_0 l0_0.length c0_0,.slice Ao25 t106.length co25,.slice Ao26 t109.length co26] (by rfl) rfl rfl (by (try simp only [List.map_toArray,List.map_cons,List.map_nil]);first|done|rfl|(simp only [List.length_drop,List.length_take];rfl)) ?_
      with_reducible refine (sawmillref50_Total.calls k _ _ l0_0 _ _ t106 _ _ t109 t112 t113 _ ?side1 ?side2 ?side3 ?side4 ?side5 ?side6 A7.out).mono ?_
      (case side1=>repeat (first|exact (Kd.C_below HR0_0.out HB.out)|(with_reducible refine Kd.C_alloc ?_ _)|(with_reducible refine Kd.C_drewN ?_ _)|(with_reducible refine Kd.C_drew ?_)))
      (case side2=>exact HC0_0.out)
      (case side3=>repeat (first|exact (Kd.R_reads' HO108.out).2.2|(with_reducible refine Kd.C_alloc ?_ _)|(with_reducible refine Kd.C_drewN ?_ _)|(with_reducible refine Kd.C_drew ?_)))
      (case side4=>exact (Kd.R_reads' HO108.out).2.1)
      (case side5=>repeat (first|exact (Kd.R_reads' HO111.out).2.2|(with_reducible refine Kd.C_alloc ?_ _)|(with_reducible refine Kd.C_drewN ?_ _)|(with_reducible refine Kd.C_drew ?_)))
      (case side6=>exact (Kd.R_reads' HO111.out).2.1)
      rintro e w27 ⟨rfl,hb⟩
      refine ⟨_,rfl,?_⟩
      have n0_:=Aside0.mk (Kd.R_below (by (with_reducible repeat (first|apply Kd.R_alloc|apply Kd.R_drewN|apply Kd.R_drew));exact HO108.out) hb)
      have n1_:=Aside0.mk (Kd.R_below (by (with_reducible repeat (first|apply Kd.R_alloc|apply Kd.R_drewN|apply Kd.R_drew));exact HO111.out) hb)
      have n2_:=Aside0.mk (qaQ (g:=gb101) (o:=.cells #[.slice A0_0 l0_0.length c0_0,.slice A0_1 l0_1.length c0_1,.slice A0_2 l0_2.length c0_2] 26 (0,0)) (by (with_reducible repeat (first|refine qaJ ?_ _|refine qaK ?_|refine qaI ?_ _));exact BK101.out) hb)
      have n3_:=Aside0.mk (qaH (by repeat (first|(with_reducible first|exact HB.out|apply qaD|apply qaB|apply qaE|refine qaG ?_ GE101.out)|exact HB.out)) hb)
      clear HO108
      clear HO111
      clear BK101
      clear HB
      have HO108:=n0_
      have HO111:=n1_
      have BK101:=n2_
      have HB:=n3_
      clear n0_ n1_ n2_ n3_
      (try clear hb)
      (try clear hb2)
      (try clear hk)
      (try clear hi)
      refine hK.out _ _ ⟨(qaC BK101.out 0).trans rfl,(qaC BK101.out 1).trans rfl,(qaC BK101.out 2).trans rfl⟩ (fun hHeld=>?_)
      clear hK K
      refine norm_ (a':=?_) ?_ ?_
      rotate_left
      ·show Act.put _ (some 34) _=_
       simp only [Act.put,List.setIfInBounds_toArray,List.set_cons_zero,List.set_cons_succ,qaO,qaP]
       rfl
      refine qaU (i:=9) (N:=some 25) (v:=?_) (a':=?_) #[true,true,true,true,true,true,true,true,true,true,false,false,false,false] rfl rfl (qaR HT_.out (by kernel_rfl)) (fun _ _ _ h=>h) (Or.inl ⟨by rfl,?_⟩) ?_ ?_
      rotate_left;(intro w';go_simp;with_reducible rfl);rotate_left;(simp only [Act.put,List.setIfInBounds_toArray,List.set_cons_zero,List.set_cons_succ,qaO,qaP];rfl)
      refine qaU (i:=10) (N:=some 35) (v:=?_) (a':=?_) #[true,true,true,true,true,true,true,true,true,true,true,false,false,false] rfl rfl (qaR HT_.out (by kernel_rfl)) (fun _ _ _ h=>h) (Or.inl ⟨by rfl,?_⟩) ?_ ?_
      rotate_left;(intro w';go_simp;with_reducible rfl);rotate_left;(simp only [Act.put,List.setIfInBounds_toArray,List.set_cons_zero,List.set_cons_succ,qaO,qaP];rfl)
      refine qaU (i:=11) (N:=some 36) (v:=?_) (a':=?_) #[true,true,true,true,true,true,true,true,true,true,true,true,false,false] rfl rfl (qaR HT_.out (by kernel_rfl)) (fun _ _ _ h=>h) (Or.inl ⟨by rfl,?_⟩) ?_ ?_
      rotate_left;(intro w';go_simp;with_reducible rfl);rotate_left;(simp only [Act.put,List.setIfInBounds_toArray,List.set_cons_zero,List.set_cons_succ,qaO,qaP];rfl)
      refine qaU (i:=12) (N:=some 5) (v:=?_) (a':=?_) #[true,true,true,true,true,true,true,true,true,true,true,true,true,false] rfl rfl (qaR HT_.out (by kernel_rfl)) (fun _ _ _ h=>h) (Or.inl ⟨by rfl,?_⟩) ?_ ?_
      rotate_left;(intro w';go_simp;with_reducible rfl);rotate_left;(simp only [Act.put,List.setIfInBounds_toArray,List.set_cons_zero,List.set_cons_succ,qaO,qaP];rfl)
      refine qaU (i:=13) (N:=some 6) (v:=?_) (a':=?_) #[true,true,true,true,true,true,true,true,true,true,true,true,true,true] rfl rfl (qaR HT_.out (by kernel_rfl)) (fun _ _ _ h=>h) (Or.inl ⟨by rfl,?_⟩) ?_ ?_
      rotate_left;(intro w';go_simp;with_reducible rfl);rotate_left;(simp only [Act.put,List.setIfInBounds_toArray,List.set_cons_zero,List.set_cons_succ,qaO,qaP];rfl)
      refine done_ (done_of HT_.out (by kernel_rfl)) ?_
      have hcz28_0:w27.cell? ⟨gb101,0,none⟩=some (.slice A0_0 l0_0.length c0_0):=(qaC BK101.out 0).trans rfl
      have hcz28_1:w27.cell? ⟨gb101,1,none⟩=some (.slice A0_1 l0_1.length c0_1):=(qaC BK101.out 1).trans rfl
      have hcz28_2:w27.cell? ⟨gb101,2,none⟩=some (.slice A0_2 l0_2.length c0_2):=(qaC BK101.out 2).trans rfl
      have hfz28_0:=qaA BK101.out 0
      have hfz28_1:=qaA BK101.out 1
      have hfz28_2:=qaA BK101.out 2
      try go_wp2_with (first|((with_reducible refine qaS (f:=13) rfl ?_);refine qbE (some 44) rfl rfl Tryd.func13 (by kernel_rfl) rfl #[.slice A0_0 l0_0.length c0_0,.slice A0_1 l0_1.length c0_1,.slice A0_2 l0_2.length c0_2] rfl (by (try simp only [List.map_toArray,List.map_cons,List.map_nil]);first|done|rfl|(simp only [List.length_drop,List.length_take];rfl)) ?_;(with_reducible refine (bill_Text.calls k _ _ l0_0 _ _ l0_1 _ _ l0_2 t114 t115 _ ?side1 ?side2 ?side3 ?side4 ?side5 ?side6 A8.out (glob_at HG_ (by repeat (first|(with_reducible first|exact HB.out|apply qaD|apply qaB|apply qaE|refine qaG ?_ (Aside0.out (by assumption)))|exact HB.out)))).mono ?_);(case side1=>repeat (first|exact (Kd.C_below HR0_0.out HB.out)|(with_reducible refine Kd.C_alloc ?_ _)|(with_reducible refine Kd.C_drewN ?_ _)|(with_reducible refine Kd.C_drew ?_)));(case side2=>exact HC0_0.out);(case side3=>repeat (first|exact (Kd.C_below HR0_1.out HB.out)|(with_reducible refine Kd.C_alloc ?_ _)|(with_reducible refine Kd.C_drewN ?_ _)|(with_reducible refine Kd.C_drew ?_)));(case side4=>exact HC0_1.out);(case side5=>repeat (first|exact (Kd.C_below HR0_2.out HB.out)|(with_reducible refine Kd.C_alloc ?_ _)|(with_reducible refine Kd.C_drewN ?_ _)|(with_reducible refine Kd.C_drew ?_)));(case side6=>exact HC0_2.out);rintro e w29 ⟨rfl,hb⟩;refine ⟨_,rfl,?_⟩;have n0_:=Aside0.mk (Kd.R_below (by (with_reducible repeat (first|apply Kd.R_alloc|apply Kd.R_drewN|apply Kd.R_drew));exact HO108.out) hb);have n1_:=Aside0.mk (Kd.R_below (by (with_reducible repeat (first|apply Kd.R_alloc|apply Kd.R_drewN|apply Kd.R_drew));exact HO111.out) hb);have n2_:=Aside0.mk (qaQ (g:=gb101) (o:=.cells #[.slice A0_0 l0_0.length c0_0,.slice A0_1 l0_1.length c0_1,.slice A0_2 l0_2.length c0_2] 26 (0,0)) (by (with_reducible repeat (first|refine qaJ ?_ _|refine qaK ?_|refine qaI ?_ _));exact BK101.out) hb);have n3_:=Aside0.mk (qaH (by repeat (first|(with_reducible first|exact HB.out|apply qaD|apply qaB|apply qaE|refine qaG ?_ GE101.out)|exact HB.out)) hb);clear HO108;clear HO111;clear BK101;clear HB;have HO108:=n0_;have HO111:=n1_;have BK101:=n2_;have HB:=n3_;clear n0_ n1_ n2_ n3_;(try clear hb);(try clear hb2);(try clear hk);(try clear hi)))
      have n0_:=Aside0.mk (Kd.R_drew HO108.out)
      have n1_:=Aside0.mk (Kd.R_drew HO111.out)
      have n2_:=Aside0.mk (qaK BK101.out)
      have n3_:=Aside0.mk (qaE HB.out)
      clear HO108
      clear HO111
      clear BK101
      clear HB
      have HO108:=n0_
      have HO111:=n1_
      have BK101:=n2_
      have HB:=n3_
      clear n0_ n1_ n2_ n3_
      refine start_ (n:=14) (S:=fun w'=>w'.cell? ⟨gb101,0,none⟩=some (.slice A0_0 l0_0.length c0_0)∧w'.cell? ⟨gb101,1,none⟩=some (.slice A0_1 l0_1.length c0_1)∧w'.cell? ⟨gb101,2,none⟩=some (.slice A0_2 l0_2.length c0_2)) (ds:=[]) (bitsA 14 0) (by kernel_rfl) rfl rfl ⟨(qaC BK101.out 0).trans rfl,(qaC BK101.out 1).trans rfl,(qaC BK101.out 2).trans rfl⟩ (fun hHeld=>?_);refine qbN sawmilllaw50_BillTotals.tab6 sawmilllaw50_BillTotals.bits6 (fun HT_ HW_=>?_)
      generalize w29.drew=w30 at HO108 HO111 BK101 HB hHeld ⊢
      refine qaU (i:=0) (N:=some 48) (v:=?_) (a':=?_) #[true,false,false,false,false,false,false,false,false,false,false,false,false,false] rfl rfl (qaR HT_.out (by kernel_rfl)) (fun _ _ _ h=>h) (Or.inl ⟨by rfl,?_⟩) ?_ ?_
      rotate_left;(intro w';go_simp;with_reducible rfl);rotate_left;(simp only [Act.put,List.setIfInBounds_toArray,List.set_cons_zero,List.set_cons_succ,qaO,qaP];rfl)
      refine qaU (i:=2) (N:=some 50) (v:=?_) (a':=?_) #[true,false,true,false,false,false,false,false,false,false,false,false,false,false] rfl rfl (qaR HT_.out (by kernel_rfl)) (fun _ _ _ h=>h) (Or.inl ⟨by rfl,?_⟩) ?_ ?_
      rotate_left;(intro w';go_simp;with_reducible rfl);rotate_left;(simp only [Act.put,List.setIfInBounds_toArray,List.set_cons_zero,List.set_cons_succ,qaO,qaP];rfl)
      refine qaU (i:=5) (N:=some 53) (v:=?_) (a':=?_) #[true,false,true,false,false,true,false,false,false,false,false,false,false,false] rfl rfl (qaR HT_.out (by kernel_rfl)) (fun _ _ _ h=>h) (Or.inl ⟨by rfl,?_⟩) ?_ ?_
      rotate_left;(intro w';go_simp;with_reducible rfl);rotate_left;(simp only [Act.put,List.setIfInBounds_toArray,List.set_cons_zero,List.set_cons_succ,qaO,qaP];rfl)
      refine take_ (i:=1) (N:=some 49) (v:=?_) (a':=?_) (bitsA 14 39) rfl rfl (qaX HT_.out HW_.out (by kernel_rfl)) (fun _ _ _ h=>h) (Or.inl ⟨by rfl,?_⟩) hHeld ?_ ?_
      rotate_left;(rintro w' ⟨s0,s1,s2⟩;go_simp;with_reducible rfl);rotate_left;(simp only [Act.put,List.setIfInBounds_toArray,List.set_cons_zero,List.set_cons_succ,qaO,qaP];rfl)
      refine take_ (i:=3) (N:=some 51) (v:=?_) (a':=?_) (bitsA 14 47) rfl rfl (qaX HT_.out HW_.out (by kernel_rfl)) (fun _ _ _ h=>h) (Or.inl ⟨by rfl,?_⟩) hHeld ?_ ?_
      rotate_left;(rintro w' ⟨s0,s1,s2⟩;go_simp;with_reducible rfl);rotate_left;(simp only [Act.put,List.setIfInBounds_toArray,List.set_cons_zero,List.set_cons_succ,qaO,qaP];rfl)
      refine take_ (i:=6) (N:=some 54) (v:=?_) (a':=?_) (bitsA 14 111) rfl rfl (qaX HT_.out HW_.out (by kernel_rfl)) (fun _ _ _ h=>h) (Or.inl ⟨by rfl,?_⟩) hHeld ?_ ?_
      rotate_left;(rintro w' ⟨s0,s1,s2⟩;go_simp;with_reducible rfl);rotate_left;(simp only [Act.put,List.setIfInBounds_toArray,List.set_cons_zero,List.set_cons_succ,qaO,qaP];rfl)
      refine one_ (i:=4) (N:=some 52) (bitsA 14 127) rfl rfl (qbM HT_.out (by kernel_rfl)) (by decide) (fun K hK=>?_)
      refine goes_ Tryd.func20 (by kernel_rfl) rfl #[.slice A0_1 l0_1.length c0_1] (by rfl) rfl rfl (by (try simp only [List.map_toArray,List.map_cons,List.map_nil]);first|done|rfl|(simp only [List.length_drop,List.length_take];rfl)) ?_
      with_reducible refine (sawmilllaw50_items.calls k _ _ l0_1 t116 _ ?side1 ?side2 A9.out).mono ?_
      (case side1=>repeat (first|exact (Kd.C_below HR0_1.out HB.out)|(with_reducible refine Kd.C_alloc ?_ _)|(with_reducible refine Kd.C_drewN ?_ _)|(with_reducible refine Kd.C_drew ?_)))
      (case side2=>exact HC0_1.out)
      rintro e w31 ⟨v117,rfl,ho0,hb⟩
      refine ⟨_,rfl,?_⟩
      have n0_:=Aside0.mk (Kd.R_elder' (by (with_reducible repeat (first|apply Kd.R_alloc|apply Kd.R_drewN|apply Kd.R_drew));exact HO108.out) (Kd.R_base ho0) hb)
      have n1_:=Aside0.mk (Kd.R_below (by (with_reducible repeat (first|apply Kd.R_alloc|apply Kd.R_drewN|apply Kd.R_drew));exact HO111.out) hb)
      have n2_:=Aside0.mk (Kd.R_lower (Kd.R_new' ho0 (Kd.R_lt (by (with_reducible repeat (first|apply Kd.R_alloc|apply Kd.R_drewN|apply Kd.R_drew));exact HO108.out))) (qaN (by repeat (first|(with_reducible first|exact HB.out|apply qaD|apply qaB|apply qaE|refine qaG ?_ GE101.out)|exact HB.out))))
      have n3_:=Aside0.mk (qaQ (g:=gb101) (o:=.cells #[.slice A0_0 l0_0.length c0_0,.slice A0_1 l0_1.length c0_1,.slice A0_2 l0_2.length c0_2] 26 (0,0)) (by (with_reducible repeat (first|refine qaJ ?_ _|refine qaK ?_|refine qaI ?_ _));exact BK101.out) hb)
      have n4_:=Aside0.mk (qaH (by repeat (first|(with_reducible first|exact HB.out|apply qaD|apply qaB|apply qaE|refine qaG ?_ GE101.out)|exact HB.out)) hb)
      clear HO108
      clear HO111
      clear BK101
      clear HB
      have HO108:=n0_
      have HO111:=n1_
      have HO118:=n2_
      have BK101:=n3_
      have HB:=n4_
      clear n0_ n1_ n2_ n3_ n4_
      (try clear hb)
      (try clear hb2)
      (try clear hk)
      (try clear hi)
      (try clear ho0)
      refine hK.out _ _ ⟨(qaC BK101.out 0).trans rfl,(qaC BK101.out 1).trans rfl,(qaC BK101.out 2).trans rfl⟩ (fun hHeld=>?_)
      clear hK K
      refine norm_ (a':=?_) ?_ ?_
      rotate_left
      ·show Act.put _ (some 52) _=_
       simp only [Act.put,List.setIfInBounds_toArray,List.set_cons_zero,List.set_cons_succ,qaO,qaP]
       rfl
      refine one_ (i:=7) (N:=some 55) (bitsA 14 255) rfl rfl (qbM HT_.out (by kernel_rfl)) (by decide) (fun K hK=>?_)
      refine goes_ Tryd.func18 (by kernel_rfl) rfl #[.slice A0_2 l0_2.length c0_2] (by rfl) rfl rfl (by (try simp only [List.map_toArray,List.map_cons,List.map_nil]);first|done|rfl|(simp only [List.length_drop,List.length_take];rfl)) ?_
      with_reducible refine (sawmilllaw50_tiers.calls k _ _ l0_2 t119 _ ?side1 ?side2 A10.out).mono ?_
      (case side1=>repeat (first|exact (Kd.C_below HR0_2.out HB.out)|(with_reducible refine Kd.C_alloc ?_ _)|(with_reducible refine Kd.C_drewN ?_ _)|(with_reducible refine Kd.C_drew ?_)))
      (case side2=>exact HC0_2.out)
      rintro e w32 ⟨v120,rfl,ho0,hb⟩
      refine ⟨_,rfl,?_⟩
      have n0_:=Aside0.mk (Kd.R_below (by (with_reducible repeat (first|apply Kd.R_alloc|apply Kd.R_drewN|apply Kd.R_drew));exact HO108.out) hb)
      have n1_:=Aside0.mk (Kd.R_elder' (by (with_reducible repeat (first|apply Kd.R_alloc|apply Kd.R_drewN|apply Kd.R_drew));exact HO111.out) (Kd.R_base ho0) hb)
      have n2_:=Aside0.mk (Kd.R_below (by (with_reducible repeat (first|apply Kd.R_alloc|apply Kd.R_drewN|apply Kd.R_drew));exact HO118.out) hb)
      have n3_:=Aside0.mk (Kd.R_lower (Kd.R_new' ho0 (Kd.R_lt (by (with_reducible repeat (first|apply Kd.R_alloc|apply Kd.R_drewN|apply Kd.R_drew));exact HO111.out))) (qaN (by repeat (first|(with_reducible first|exact HB.out|apply qaD|apply qaB|apply qaE|refine qaG ?_ GE101.out)|exact HB.out))))
      have n4_:=Aside0.mk (qaQ (g:=gb101) (o:=.cells #[.slice A0_0 l0_0.length c0_0,.slice A0_1 l0_1.length c0_1,.slice A0_2 l0_2.length c0_2] 26 (0,0)) (by (with_reducible repeat (first|refine qaJ ?_ _|refine qaK ?_|refine qaI ?_ _));exact BK101.out) hb)
      have n5_:=Aside0.mk (qaH (by repeat (first|(with_reducible first|exact HB.out|apply qaD|apply qaB|apply qaE|refine qaG ?_ GE101.out)|exact HB.out)) hb)
      clear HO108
      clear HO111
      clear HO118
      clear BK101
      clear HB
      have HO108:=n0_
      have HO111:=n1_
      have HO118:=n2_
      have HO121:=n3_
      have BK101:=n4_
      have HB:=n5_
      clear n0_ n1_ n2_ n3_ n4_ n5_
      (try clear hb)
      (try clear hb2)
      (try clear hk)
      (try clear hi)
      (try clear ho0)
      obtain ⟨Ao33,co33,eo33⟩:=Kd.R_slice HO118.out
      (first|subst eo33|(injection eo33 with f1_ f2_ f3_;have f4_:=f1_.symm;have f5_:=f3_.symm;clear f1_ f2_ f3_;subst f4_;subst f5_))
      obtain ⟨Ao34,co34,eo34⟩:=Kd.R_slice HO121.out
      (first|subst eo34|(injection eo34 with f1_ f2_ f3_;have f4_:=f1_.symm;have f5_:=f3_.symm;clear f1_ f2_ f3_;subst f4_;subst f5_))
      refine hK.out _ _ ⟨(qaC BK101.out 0).trans rfl,(qaC BK101.out 1).trans rfl,(qaC BK101.out 2).trans rfl⟩ (fun hHeld=>?_)
      clear hK K
      refine norm_ (a':=?_) ?_ ?_
      rotate_left
      ·show Act.put _ (some 55) _=_
       simp only [Act.put,List.setIfInBounds_toArray,List.set_cons_zero,List.set_cons_succ,qaO,qaP]
       rfl
      refine one_ (i:=8) (N:=some 56) (bitsA 14 511) rfl rfl (qbM HT_.out (by kernel_rfl)) (by decide) (fun K hK=>?_)
      refine goes_ Tryd.func21 (by kernel_rfl) rfl #[.slice A0_0 l0_0.length c0_0,.slice Ao33 t116.length co33,.slice Ao34 t119.length co34] (by rfl) rfl rfl (by (try simp only [List.map_toArray,List.map_cons,List.map_nil]);first|done|rfl|(simp only [List.length_drop,List.length_take];rfl)) ?_
      with_reducible refine (sawmillref50_Text.calls k _ _ l0_0 _ _ t116 _ _ t119 t122 t123 _ ?side1 ?side2 ?side3 ?side4 ?side5 ?side6 A11.out).mono ?_
      (case side1=>repeat (first|exact (Kd.C_below HR0_0.out HB.out)|(with_reducible refine Kd.C_alloc ?_ _)|(with_reducible refine Kd.C_drewN ?_ _)|(with_reducible refine Kd.C_drew ?_)))
      (case side2=>exact HC0_0.out)
      (case side3=>repeat (first|exact (Kd.R_reads' HO118.out).2.2|(with_reducible refine Kd.C_alloc ?_ _)|(with_reducible refine Kd.C_drewN ?_ _)|(with_reducible refine Kd.C_drew ?_)))
      (case side4=>exact (Kd.R_reads' HO118.out).2.1)
      (case side5=>repeat (first|exact (Kd.R_reads' HO121.out).2.2|(with_reducible refine Kd.C_alloc ?_ _)|(with_reducible refine Kd.C_drewN ?_ _)|(with_reducible refine Kd.C_drew ?_)))
      (case side6=>exact (Kd.R_reads' HO121.out).2.1)
      rintro e w35 ⟨rfl,hb⟩
      refine ⟨_,rfl,?_⟩
      have n0_:=Aside0.mk (Kd.R_below (by (with_reducible repeat (first|apply Kd.R_alloc|apply Kd.R_drewN|apply Kd.R_drew));exact HO108.out) hb)
      have n1_:=Aside0.mk (Kd.R_below (by (with_reducible repeat (first|apply Kd.R_alloc|apply Kd.R_drewN|apply Kd.R_drew));exact HO111.out) hb)
      have n2_:=Aside0.mk (Kd.R_below (by (with_reducible repeat (first|apply Kd.R_alloc|apply Kd.R_drewN|apply Kd.R_drew));exact HO118.out) hb)
      have n3_:=Aside0.mk (Kd.R_below (by (with_reducible repeat (first|apply Kd.R_alloc|apply Kd.R_drewN|apply Kd.R_drew));exact HO121.out) hb)
      have n4_:=Aside0.mk (qaQ (g:=gb101) (o:=.cells #[.slice A0_0 l0_0.length c0_0,.slice A0_1 l0_1.length c0_1,.slice A0_2 l0_2.length c0_2] 26 (0,0)) (by (with_reducible repeat (first|refine qaJ ?_ _|refine qaK ?_|refine qaI ?_ _));exact BK101.out) hb)
      have n5_:=Aside0.mk (qaH (by repeat (first|(with_reducible first|exact HB.out|apply qaD|apply qaB|apply qaE|refine qaG ?_ GE101.out)|exact HB.out)) hb)
      clear HO108
      clear HO111
      clear HO118
      clear HO121
      clear BK101
      clear HB
      have HO108:=n0_
      have HO111:=n1_
      have HO118:=n2_
      have HO121:=n3_
      have BK101:=n4_
      have HB:=n5_
      clear n0_ n1_ n2_ n3_ n4_ n5_
      (try clear hb)
      (try clear hb2)
      (try clear hk)
      (try clear hi)
      refine hK.out _ _ ⟨(qaC BK101.out 0).trans rfl,(qaC BK101.out 1).trans rfl,(qaC BK101.out 2).trans rfl⟩ (fun hHeld=>?_)
      clear hK K
      refine norm_ (a':=?_) ?_ ?_
      rotate_left
      ·show Act.put _ (some 56) _=_
       simp only [Act.put,List.setIfInBounds_toArray,List.set_cons_zero,List.set_cons_succ,qaO,qaP]
       rfl
      refine qaU (i:=9) (N:=some 47) (v:=?_) (a':=?_) #[true,true,true,true,true,true,true,true,true,true,false,false,false,false] rfl rfl (qaR HT_.out (by kernel_rfl)) (fun _ _ _ h=>h) (Or.inl ⟨by rfl,?_⟩) ?_ ?_
      rotate_left;(intro w';go_simp;with_reducible rfl);rotate_left;(simp only [Act.put,List.setIfInBounds_toArray,List.set_cons_zero,List.set_cons_succ,qaO,qaP];rfl)
      refine qaU (i:=10) (N:=some 57) (v:=?_) (a':=?_) #[true,true,true,true,true,true,true,true,true,true,true,false,false,false] rfl rfl (qaR HT_.out (by kernel_rfl)) (fun _ _ _ h=>h) (Or.inl ⟨by rfl,?_⟩) ?_ ?_
      rotate_left;(intro w';go_simp;with_reducible rfl);rotate_left;(simp only [Act.put,List.setIfInBounds_toArray,List.set_cons_zero,List.set_cons_succ,qaO,qaP];rfl)
      refine qaU (i:=11) (N:=some 58) (v:=?_) (a':=?_) #[true,true,true,true,true,true,true,true,true,true,true,true,false,false] rfl rfl (qaR HT_.out (by kernel_rfl)) (fun _ _ _ h=>h) (Or.inl ⟨by rfl,?_⟩) ?_ ?_
      rotate_left;(intro w';go_simp;with_reducible rfl);rotate_left;(simp only [Act.put,List.setIfInBounds_toArray,List.set_cons_zero,List.set_cons_succ,qaO,qaP];rfl)
      refine qaU (i:=12) (N:=some 9) (v:=?_) (a':=?_) #[true,true,true,true,true,true,true,true,true,true,true,true,true,false] rfl rfl (qaR HT_.out (by kernel_rfl)) (fun _ _ _ h=>h) (Or.inl ⟨by rfl,?_⟩) ?_ ?_
      rotate_left;(intro w';go_simp;with_reducible rfl);rotate_left;(simp only [Act.put,List.setIfInBounds_toArray,List.set_cons_zero,List.set_cons_succ,qaO,qaP];rfl)
      refine qaU (i:=13) (N:=some 10) (v:=?_) (a':=?_) #[true,true,true,true,true,true,true,true,true,true,true,true,true,true] rfl rfl (qaR HT_.out (by kernel_rfl)) (fun _ _ _ h=>h) (Or.inl ⟨by rfl,?_⟩) ?_ ?_
      rotate_left;(intro w';go_simp;with_reducible rfl);rotate_left;(simp only [Act.put,List.setIfInBounds_toArray,List.set_cons_zero,List.set_cons_succ,qaO,qaP];rfl)
      refine done_ (done_of HT_.out (by kernel_rfl)) ?_
      try go_wp2_with (first|(go_at_call 11;(with_reducible refine (sawmilllaw50_awake.calls k  t124 _ A16.out (glob_at HG_ (by repeat (first|(with_reducible first|exact HB.out|apply qaD|apply qaB|apply qaE|refine qaG ?_ (Aside0.out (by assumption)))|exact HB.out)))).mono ?_);rintro e w36 ⟨rfl,hb⟩;have n0_:=Aside0.mk (Kd.R_below (by (with_reducible repeat (first|apply Kd.R_alloc|apply Kd.R_drewN|apply Kd.R_drew));exact HO108.out) hb);have n1_:=Aside0.mk (Kd.R_below (by (with_reducible repeat (first|apply Kd.R_alloc|apply Kd.R_drewN|apply Kd.R_drew));exact HO111.out) hb);have n2_:=Aside0.mk (Kd.R_below (by (with_reducible repeat (first|apply Kd.R_alloc|apply Kd.R_drewN|apply Kd.R_drew));exact HO118.out) hb);have n3_:=Aside0.mk (Kd.R_below (by (with_reducible repeat (first|apply Kd.R_alloc|apply Kd.R_drewN|apply Kd.R_drew));exact HO121.out) hb);have n4_:=Aside0.mk (qaQ (g:=gb101) (o:=.cells #[.slice A0_0 l0_0.length c0_0,.slice A0_1 l0_1.length c0_1,.slice A0_2 l0_2.length c0_2] 26 (0,0)) (by (with_reducible repeat (first|refine qaJ ?_ _|refine qaK ?_|refine qaI ?_ _));exact BK101.out) hb);have n5_:=Aside0.mk (qaH (by repeat (first|(with_reducible first|exact HB.out|apply qaD|apply qaB|apply qaE|refine qaG ?_ GE101.out)|exact HB.out)) hb);clear HO108;clear HO111;clear HO118;clear HO121;clear BK101;clear HB;have HO108:=n0_;have HO111:=n1_;have HO118:=n2_;have HO121:=n3_;have BK101:=n4_;have HB:=n5_;clear n0_ n1_ n2_ n3_ n4_ n5_;(try clear hb);(try clear hb2);(try clear hk);(try clear hi)))
      go_ret
      exact ⟨by first|rfl|(simp [qaL,qaM]<;>rfl)|(simp [*,qaL,qaM]<;>rfl),by repeat (first|(with_reducible first|exact HB.out|apply qaD|apply qaB|apply qaE|refine qaG ?_ GE101.out)|exact HB.out)⟩
     ·rw [if_neg c15] at H
      have c15b0:(t115 == t123)=false:=beq_eq_false_iff_ne.mpr c15
      have c15b1:(t115 != t123)=true:=bne_iff_ne.mpr c15
      obtain rfl:=Option.some.inj H
      go_enter Tryd.func6,Tryd.ntmps6
      try go_wp2_with (first|((with_reducible refine qaV (N:=1) rfl ?_);refine qaT ?hg (N:=1) ?hd (cs:=#[.slice A0_0 l0_0.length c0_0,.slice A0_1 l0_1.length c0_1,.slice A0_2 l0_2.length c0_2]) (t:=26) ?hr ?_;(case hd=>rfl);(case hg=>rfl);(case hr=>first|(go_simp;done)|(go_simp;rfl));intro gb101 hg w37 hbox hb;have n0_:=Aside0.mk (qaH (by repeat (first|(with_reducible first|exact HB.out|apply qaD|apply qaB|apply qaE)|exact HB.out)) hb);have n1_:=Aside0.mk (hbox);have n2_:=Aside0.mk ((by rw [hg];exact (qaN (by repeat (first|(with_reducible first|exact HB.out|apply qaD|apply qaB|apply qaE)|exact HB.out))):w.heap.size≤gb101));have n3_:=Aside0.mk ((by rw [hg];exact (qaN (by repeat (first|(with_reducible first|exact HB.out|apply qaD|apply qaB|apply qaE)|exact HB.out))):w.heap.size≤gb101));clear HB;have HB:=n0_;have BK101:=n1_;have GW101:=n2_;have GE101:=n3_;clear n0_ n1_ n2_ n3_;clear hb hbox hg;have hcz38_0:w37.cell? ⟨gb101,0,none⟩=some (.slice A0_0 l0_0.length c0_0):=(qaC BK101.out 0).trans rfl;have hcz38_1:w37.cell? ⟨gb101,1,none⟩=some (.slice A0_1 l0_1.length c0_1):=(qaC BK101.out 1).trans rfl;have hcz38_2:w37.cell? ⟨gb101,2,none⟩=some (.slice A0_2 l0_2.length c0_2):=(qaC BK101.out 2).trans rfl;have hfz38_0:=qaA BK101.out 0;have hfz38_1:=qaA BK101.out 1;have hfz38_2:=qaA BK101.out 2)|((with_reducible refine qaS (f:=10) rfl ?_);refine qbE (some 12) rfl rfl Tryd.func10 (by kernel_rfl) rfl #[.agg #[.slice A0_0 l0_0.length c0_0,.slice A0_1 l0_1.length c0_1,.slice A0_2 l0_2.length c0_2]] rfl (by (try simp only [List.map_toArray,List.map_cons,List.map_nil]);first|done|rfl|(simp only [List.length_drop,List.length_take];rfl)) ?_;(with_reducible refine (sawmilllaw50_small.calls k _ _ l0_0 _ _ l0_1 _ _ l0_2 true _ ?side1 ?side2 ?side3 ?side4 ?side5 ?side6 A2.out).mono ?_);(case side1=>repeat (first|exact (Kd.C_below HR0_0.out HB.out)|(with_reducible refine Kd.C_alloc ?_ _)|(with_reducible refine Kd.C_drewN ?_ _)|(with_reducible refine Kd.C_drew ?_)));(case side2=>exact HC0_0.out);(case side3=>repeat (first|exact (Kd.C_below HR0_1.out HB.out)|(with_reducible refine Kd.C_alloc ?_ _)|(with_reducible refine Kd.C_drewN ?_ _)|(with_reducible refine Kd.C_drew ?_)));(case side4=>exact HC0_1.out);(case side5=>repeat (first|exact (Kd.C_below HR0_2.out HB.out)|(with_reducible refine Kd.C_alloc ?_ _)|(with_reducible refine Kd.C_drewN ?_ _)|(with_reducible refine Kd.C_drew ?_)));(case side6=>exact HC0_2.out);rintro e w39 ⟨rfl,hb⟩;refine ⟨_,rfl,?_⟩;have n0_:=Aside0.mk (qaQ (g:=gb101) (o:=.cells #[.slice A0_0 l0_0.length c0_0,.slice A0_1 l0_1.length c0_1,.slice A0_2 l0_2.length c0_2] 26 (0,0)) (by (with_reducible repeat (first|refine qaJ ?_ _|refine qaK ?_|refine qaI ?_ _));exact BK101.out) hb);have n1_:=Aside0.mk (qaH (by repeat (first|(with_reducible first|exact HB.out|apply qaD|apply qaB|apply qaE|refine qaG ?_ GE101.out)|exact HB.out)) hb);clear BK101;clear HB;have BK101:=n0_;have HB:=n1_;clear n0_ n1_;(try clear hb);(try clear hb2);(try clear hk);(try clear hi);have hcz40_0:w39.cell? ⟨gb101,0,none⟩=some (.slice A0_0 l0_0.length c0_0):=(qaC BK101.out 0).trans rfl;have hcz40_1:w39.cell? ⟨gb101,1,none⟩=some (.slice A0_1 l0_1.length c0_1):=(qaC BK101.out 1).trans rfl;have hcz40_2:w39.cell? ⟨gb101,2,none⟩=some (.slice A0_2 l0_2.length c0_2):=(qaC BK101.out 2).trans rfl;have hfz40_0:=qaA BK101.out 0;have hfz40_1:=qaA BK101.out 1;have hfz40_2:=qaA BK101.out 2)|((with_reducible refine qaS (f:=12) rfl ?_);refine qbE (some 22) rfl rfl Tryd.func12 (by kernel_rfl) rfl #[.slice A0_0 l0_0.length c0_0,.slice A0_1 l0_1.length c0_1,.slice A0_2 l0_2.length c0_2] rfl (by (try simp only [List.map_toArray,List.map_cons,List.map_nil]);first|done|rfl|(simp only [List.length_drop,List.length_take];rfl)) ?_;(with_reducible refine (bill_Total.calls k _ _ l0_0 _ _ l0_1 _ _ l0_2 t104 t105 _ ?side1 ?side2 ?side3 ?side4 ?side5 ?side6 A4.out).mono ?_);(case side1=>repeat (first|exact (Kd.C_below HR0_0.out HB.out)|(with_reducible refine Kd.C_alloc ?_ _)|(with_reducible refine Kd.C_drewN ?_ _)|(with_reducible refine Kd.C_drew ?_)));(case side2=>exact HC0_0.out);(case side3=>repeat (first|exact (Kd.C_below HR0_1.out HB.out)|(with_reducible refine Kd.C_alloc ?_ _)|(with_reducible refine Kd.C_drewN ?_ _)|(with_reducible refine Kd.C_drew ?_)));(case side4=>exact HC0_1.out);(case side5=>repeat (first|exact (Kd.C_below HR0_2.out HB.out)|(with_reducible refine Kd.C_alloc ?_ _)|(with_reducible refine Kd.C_drewN ?_ _)|(with_reducible refine Kd.C_drew ?_)));(case side6=>exact HC0_2.out);rintro e w41 ⟨rfl,hb⟩;refine ⟨_,rfl,?_⟩;have n0_:=Aside0.mk (qaQ (g:=gb101) (o:=.cells #[.slice A0_0 l0_0.length c0_0,.slice A0_1 l0_1.length c0_1,.slice A0_2 l0_2.length c0_2] 26 (0,0)) (by (with_reducible repeat (first|refine qaJ ?_ _|refine qaK ?_|refine qaI ?_ _));exact BK101.out) hb);have n1_:=Aside0.mk (qaH (by repeat (first|(with_reducible first|exact HB.out|apply qaD|apply qaB|apply qaE|refine qaG ?_ GE101.out)|exact HB.out)) hb);clear BK101;clear HB;have BK101:=n0_;have HB:=n1_;clear n0_ n1_;(try clear hb);(try clear hb2);(try clear hk);(try clear hi)))
      have n0_:=Aside0.mk (qaK BK101.out)
      have n1_:=Aside0.mk (qaE HB.out)
      clear BK101
      clear HB
      have BK101:=n0_
      have HB:=n1_
      clear n0_ n1_
      refine start_ (n:=14) (S:=fun w'=>w'.cell? ⟨gb101,0,none⟩=some (.slice A0_0 l0_0.length c0_0)∧w'.cell? ⟨gb101,1,none⟩=some (.slice A0_1 l0_1.length c0_1)∧w'.cell? ⟨gb101,2,none⟩=some (.slice A0_2 l0_2.length c0_2)) (ds:=[]) (bitsA 14 0) (by kernel_rfl) rfl rfl ⟨(qaC BK101.out 0).trans rfl,(qaC BK101.out 1).trans rfl,(qaC BK101.out 2).trans rfl⟩ (fun hHeld=>?_);refine qbN sawmilllaw50_BillTotals.tab4 sawmilllaw50_BillTotals.bits4 (fun HT_ HW_=>?_)
      generalize w41.drew=w42 at BK101 HB hHeld ⊢
      refine qaU (i:=0) (N:=some 26) (v:=?_) (a':=?_) #[true,false,false,false,false,false,false,false,false,false,false,false,false,false] rfl rfl (qaR HT_.out (by kernel_rfl)) (fun _ _ _ h=>h) (Or.inl ⟨by rfl,?_⟩) ?_ ?_
      rotate_left;(intro w';go_simp;with_reducible rfl);rotate_left;(simp only [Act.put,List.setIfInBounds_toArray,List.set_cons_zero,List.set_cons_succ,qaO,qaP];rfl)
      refine qaU (i:=2) (N:=some 28) (v:=?_) (a':=?_) #[true,false,true,false,false,false,false,false,false,false,false,false,false,false] rfl rfl (qaR HT_.out (by kernel_rfl)) (fun _ _ _ h=>h) (Or.inl ⟨by rfl,?_⟩) ?_ ?_
      rotate_left;(intro w';go_simp;with_reducible rfl);rotate_left;(simp only [Act.put,List.setIfInBounds_toArray,List.set_cons_zero,List.set_cons_succ,qaO,qaP];rfl)
      refine qaU (i:=5) (N:=some 31) (v:=?_) (a':=?_) #[true,false,true,false,false,true,false,false,false,false,false,false,false,false] rfl rfl (qaR HT_.out (by kernel_rfl)) (fun _ _ _ h=>h) (Or.inl ⟨by rfl,?_⟩) ?_ ?_
      rotate_left;(intro w';go_simp;with_reducible rfl);rotate_left;(simp only [Act.put,List.setIfInBounds_toArray,List.set_cons_zero,List.set_cons_succ,qaO,qaP];rfl)
      refine take_ (i:=1) (N:=some 27) (v:=?_) (a':=?_) (bitsA 14 39) rfl rfl (qaX HT_.out HW_.out (by kernel_rfl)) (fun _ _ _ h=>h) (Or.inl ⟨by rfl,?_⟩) hHeld ?_ ?_
      rotate_left;(rintro w' ⟨s0,s1,s2⟩;go_simp;with_reducible rfl);rotate_left;(simp only [Act.put,List.setIfInBounds_toArray,List.set_cons_zero,List.set_cons_succ,qaO,qaP];rfl)
      refine take_ (i:=3) (N:=some 29) (v:=?_) (a':=?_) (bitsA 14 47) rfl rfl (qaX HT_.out HW_.out (by kernel_rfl)) (fun _ _ _ h=>h) (Or.inl ⟨by rfl,?_⟩) hHeld ?_ ?_
      rotate_left;(rintro w' ⟨s0,s1,s2⟩;go_simp;with_reducible rfl);rotate_left;(simp only [Act.put,List.setIfInBounds_toArray,List.set_cons_zero,List.set_cons_succ,qaO,qaP];rfl)
      refine take_ (i:=6) (N:=some 32) (v:=?_) (a':=?_) (bitsA 14 111) rfl rfl (qaX HT_.out HW_.out (by kernel_rfl)) (fun _ _ _ h=>h) (Or.inl ⟨by rfl,?_⟩) hHeld ?_ ?_
      rotate_left;(rintro w' ⟨s0,s1,s2⟩;go_simp;with_reducible rfl);rotate_left;(simp only [Act.put,List.setIfInBounds_toArray,List.set_cons_zero,List.set_cons_succ,qaO,qaP];rfl)
      refine one_ (i:=4) (N:=some 30) (bitsA 14 127) rfl rfl (qbM HT_.out (by kernel_rfl)) (by decide) (fun K hK=>?_)
      refine goes_ Tryd.func20 (by kernel_rfl) rfl #[.slice A0_1 l0_1.length c0_1] (by rfl) rfl rfl (by (try simp only [List.map_toArray,List.map_cons,List.map_nil]);first|done|rfl|(simp only [List.length_drop,List.length_take];rfl)) ?_
      with_reducible refine (sawmilllaw50_items.calls k _ _ l0_1 t106 _ ?side1 ?side2 A5.out).mono ?_
      (case side1=>repeat (first|exact (Kd.C_below HR0_1.out HB.out)|(with_reducible refine Kd.C_alloc ?_ _)|(with_reducible refine Kd.C_drewN ?_ _)|(with_reducible refine Kd.C_drew ?_)))
      (case side2=>exact HC0_1.out)
      rintro e w43 ⟨v107,rfl,ho0,hb⟩
      refine ⟨_,rfl,?_⟩
      have n0_:=Aside0.mk (Kd.R_lower ho0 (qaN (by repeat (first|(with_reducible first|exact HB.out|apply qaD|apply qaB|apply qaE|refine qaG ?_ GE101.out)|exact HB.out))))
      have n1_:=Aside0.mk (qaQ (g:=gb101) (o:=.cells #[.slice A0_0 l0_0.length c0_0,.slice A0_1 l0_1.length c0_1,.slice A0_2 l0_2.length c0_2] 26 (0,0)) (by (with_reducible repeat (first|refine qaJ ?_ _|refine qaK ?_|refine qaI ?_ _));exact BK101.out) hb)
      have n2_:=Aside0.mk (qaH (by repeat (first|(with_reducible first|exact HB.out|apply qaD|apply qaB|apply qaE|refine qaG ?_ GE101.out)|exact HB.out)) hb)
      clear BK101
      clear HB
      have HO108:=n0_
      have BK101:=n1_
      have HB:=n2_
      clear n0_ n1_ n2_
      (try clear hb)
      (try clear hb2)
      (try clear hk)
      (try clear hi)
      (try clear ho0)
      refine hK.out _ _ ⟨(qaC BK101.out 0).trans rfl,(qaC BK101.out 1).trans rfl,(qaC BK101.out 2).trans rfl⟩ (fun hHeld=>?_)
      clear hK K
      refine norm_ (a':=?_) ?_ ?_
      rotate_left
      ·show Act.put _ (some 30) _=_
       simp only [Act.put,List.setIfInBounds_toArray,List.set_cons_zero,List.set_cons_succ,qaO,qaP]
       rfl
      refine one_ (i:=7) (N:=some 33) (bitsA 14 255) rfl rfl (qbM HT_.out (by kernel_rfl)) (by decide) (fun K hK=>?_)
      refine goes_ Tryd.func18 (by kernel_rfl) rfl #[.slice A0_2 l0_2.length c0_2] (by rfl) rfl rfl (by (try simp only [List.map_toArray,List.map_cons,List.map_nil]);first|done|rfl|(simp only [List.length_drop,List.length_take];rfl)) ?_
      with_reducible refine (sawmilllaw50_tiers.calls k _ _ l0_2 t109 _ ?side1 ?side2 A6.out).mono ?_
      (case side1=>repeat (first|exact (Kd.C_below HR0_2.out HB.out)|(with_reducible refine Kd.C_alloc ?_ _)|(with_reducible refine Kd.C_drewN ?_ _)|(with_reducible refine Kd.C_drew ?_)))
      (case side2=>exact HC0_2.out)
      rintro e w44 ⟨v110,rfl,ho0,hb⟩
      refine ⟨_,rfl,?_⟩
      have n0_:=Aside0.mk (Kd.R_below (by (with_reducible repeat (first|apply Kd.R_alloc|apply Kd.R_drewN|apply Kd.R_drew));exact HO108.out) hb)
      have n1_:=Aside0.mk (Kd.R_lower ho0 (qaN (by repeat (first|(with_reducible first|exact HB.out|apply qaD|apply qaB|apply qaE|refine qaG ?_ GE101.out)|exact HB.out))))
      have n2_:=Aside0.mk (qaQ (g:=gb101) (o:=.cells #[.slice A0_0 l0_0.length c0_0,.slice A0_1 l0_1.length c0_1,.slice A0_2 l0_2.length c0_2] 26 (0,0)) (by (with_reducible repeat (first|refine qaJ ?_ _|refine qaK ?_|refine qaI ?_ _));exact BK101.out) hb)
      have n3_:=Aside0.mk (qaH (by repeat (first|(with_reducible first|exact HB.out|apply qaD|apply qaB|apply qaE|refine qaG ?_ GE101.out)|exact HB.out)) hb)
      clear HO108
      clear BK101
      clear HB
      have HO108:=n0_
      have HO111:=n1_
      have BK101:=n2_
      have HB:=n3_
      clear n0_ n1_ n2_ n3_
      (try clear hb)
      (try clear hb2)
      (try clear hk)
      (try clear hi)
      (try clear ho0)
      obtain ⟨Ao45,co45,eo45⟩:=Kd.R_slice HO108.out
      (first|subst eo45|(injection eo45 with f1_ f2_ f3_;have f4_:=f1_.symm;have f5_:=f3_.symm;clear f1_ f2_ f3_;subst f4_;subst f5_))
      obtain ⟨Ao46,co46,eo46⟩:=Kd.R_slice HO111.out
      (first|subst eo46|(injection eo46 with f1_ f2_ f3_;have f4_:=f1_.symm;have f5_:=f3_.symm;clear f1_ f2_ f3_;subst f4_;subst f5_))
      refine hK.out _ _ ⟨(qaC BK101.out 0).trans rfl,(qaC BK101.out 1).trans rfl,(qaC BK101.out 2).trans rfl⟩ (fun hHeld=>?_)
      clear hK K
      refine norm_ (a':=?_) ?_ ?_
      rotate_left
      ·show Act.put _ (some 33) _=_
       simp only [Act.put,List.setIfInBounds_toArray,List.set_cons_zero,List.set_cons_succ,qaO,qaP]
       rfl
      refine one_ (i:=8) (N:=some 34) (bitsA 14 511) rfl rfl (qbM HT_.out (by kernel_rfl)) (by decide) (fun K hK=>?_)
      refine goes_ Tryd.func19 (by kernel_rfl) rfl #[.slice A0_0 l0_0.length c0_0,.slice Ao45 t106.length co45,.slice Ao46 t109.length co46] (by rfl) rfl rfl (by (try simp only [List.map_toArray,List.map_cons,List.map_nil]);first|done|rfl|(simp only [List.length_drop,List.length_take];rfl)) ?_
      with_reducible refine (sawmillref50_Total.calls k _ _ l0_0 _ _ t106 _ _ t109 t112 t113 _ ?side1 ?side2 ?side3 ?side4 ?side5 ?side6 A7.out).mono ?_
      (case side1=>repeat (first|exact (Kd.C_below HR0_0.out HB.out)|(with_reducible refine Kd.C_alloc ?_ _)|(with_reducible refine Kd.C_drewN ?_ _)|(with_reducible refine Kd.C_drew ?_)))
      (case side2=>exact HC0_0.out)
      (case side3=>repeat (first|exact (Kd.R_reads' HO108.out).2.2|(with_reducible refine Kd.C_alloc ?_ _)|(with_reducible refine Kd.C_drewN ?_ _)|(with_reducible refine Kd.C_drew ?_)))
      (case side4=>exact (Kd.R_reads' HO108.out).2.1)
      (case side5=>repeat (first|exact (Kd.R_reads' HO111.out).2.2|(with_reducible refine Kd.C_alloc ?_ _)|(with_reducible refine Kd.C_drewN ?_ _)|(with_reducible refine Kd.C_drew ?_)))
      (case side6=>exact (Kd.R_reads' HO111.out).2.1)
      rintro e w47 ⟨rfl,hb⟩
      refine ⟨_,rfl,?_⟩
      have n0_:=Aside0.mk (Kd.R_below (by (with_reducible repeat (first|apply Kd.R_alloc|apply Kd.R_drewN|apply Kd.R_drew));exact HO108.out) hb)
      have n1_:=Aside0.mk (Kd.R_below (by (with_reducible repeat (first|apply Kd.R_alloc|apply Kd.R_drewN|apply Kd.R_drew));exact HO111.out) hb)
      have n2_:=Aside0.mk (qaQ (g:=gb101) (o:=.cells #[.slice A0_0 l0_0.length c0_0,.slice A0_1 l0_1.length c0_1,.slice A0_2 l0_2.length c0_2] 26 (0,0)) (by (with_reducible repeat (first|refine qaJ ?_ _|refine qaK ?_|refine qaI ?_ _));exact BK101.out) hb)
      have n3_:=Aside0.mk (qaH (by repeat (first|(with_reducible first|exact HB.out|apply qaD|apply qaB|apply qaE|refine qaG ?_ GE101.out)|exact HB.out)) hb)
      clear HO108
      clear HO111
      clear BK101
      clear HB
      have HO108:=n0_
      have HO111:=n1_
      have BK101:=n2_
      have HB:=n3_
      clear n0_ n1_ n2_ n3_
      (try clear hb)
      (try clear hb2)
      (try clear hk)
      (try clear hi)
      refine hK.out _ _ ⟨(qaC BK101.out 0).trans rfl,(qaC BK101.out 1).trans rfl,(qaC BK101.out 2).trans rfl⟩ (fun hHeld=>?_)
      clear hK K
      refine norm_ (a':=?_) ?_ ?_
      rotate_left
      ·show Act.put _ (some 34) _=_
       simp only [Act.put,List.setIfInBounds_toArray,List.set_cons_zero,List.set_cons_succ,qaO,qaP]
       rfl
      refine qaU (i:=9) (N:=some 25) (v:=?_) (a':=?_) #[true,true,true,true,true,true,true,true,true,true,false,false,false,false] rfl rfl (qaR HT_.out (by kernel_rfl)) (fun _ _ _ h=>h) (Or.inl ⟨by rfl,?_⟩) ?_ ?_
      rotate_left;(intro w';go_simp;with_reducible rfl);rotate_left;(simp only [Act.put,List.setIfInBounds_toArray,List.set_cons_zero,List.set_cons_succ,qaO,qaP];rfl)
      refine qaU (i:=10) (N:=some 35) (v:=?_) (a':=?_) #[true,true,true,true,true,true,true,true,true,true,true,false,false,false] rfl rfl (qaR HT_.out (by kernel_rfl)) (fun _ _ _ h=>h) (Or.inl ⟨by rfl,?_⟩) ?_ ?_
      rotate_left;(intro w';go_simp;with_reducible rfl);rotate_left;(simp only [Act.put,List.setIfInBounds_toArray,List.set_cons_zero,List.set_cons_succ,qaO,qaP];rfl)
      refine qaU (i:=11) (N:=some 36) (v:=?_) (a':=?_) #[true,true,true,true,true,true,true,true,true,true,true,true,false,false] rfl rfl (qaR HT_.out (by kernel_rfl)) (fun _ _ _ h=>h) (Or.inl ⟨by rfl,?_⟩) ?_ ?_
      rotate_left;(intro w';go_simp;with_reducible rfl);rotate_left;(simp only [Act.put,List.setIfInBounds_toArray,List.set_cons_zero,List.set_cons_succ,qaO,qaP];rfl)
      refine qaU (i:=12) (N:=some 5) (v:=?_) (a':=?_) #[true,true,true,true,true,true,true,true,true,true,true,true,true,false] rfl rfl (qaR HT_.out (by kernel_rfl)) (fun _ _ _ h=>h) (Or.inl ⟨by rfl,?_⟩) ?_ ?_
      rotate_left;(intro w';go_simp;with_reducible rfl);rotate_left;(simp only [Act.put,List.setIfInBounds_toArray,List.set_cons_zero,List.set_cons_succ,qaO,qaP];rfl)
      refine qaU (i:=13) (N:=some 6) (v:=?_) (a':=?_) #[true,true,true,true,true,true,true,true,true,true,true,true,true,true] rfl rfl (qaR HT_.out (by kernel_rfl)) (fun _ _ _ h=>h) (Or.inl ⟨by rfl,?_⟩) ?_ ?_
      rotate_left;(intro w';go_simp;with_reducible rfl);rotate_left;(simp only [Act.put,List.setIfInBounds_toArray,List.set_cons_zero,List.set_cons_succ,qaO,qaP];rfl)
      refine done_ (done_of HT_.out (by kernel_rfl)) ?_
      have hcz48_0:w47.cell? ⟨gb101,0,none⟩=some (.slice A0_0 l0_0.length c0_0):=(qaC BK101.out 0).trans rfl
      have hcz48_1:w47.cell? ⟨gb101,1,none⟩=some (.slice A0_1 l0_1.length c0_1):=(qaC BK101.out 1).trans rfl
      have hcz48_2:w47.cell? ⟨gb101,2,none⟩=some (.slice A0_2 l0_2.length c0_2):=(qaC BK101.out 2).trans rfl
      have hfz48_0:=qaA BK101.out 0
      have hfz48_1:=qaA BK101.out 1
      have hfz48_2:=qaA BK101.out 2
      try go_wp2_with (first|((with_reducible refine qaS (f:=13) rfl ?_);refine qbE (some 44) rfl rfl Tryd.func13 (by kernel_rfl) rfl #[.slice A0_0 l0_0.length c0_0,.slice A0_1 l0_1.length c0_1,.slice A0_2 l0_2.length c0_2] rfl (by (try simp only [List.map_toArray,List.map_cons,List.map_nil]);first|done|rfl|(simp only [List.length_drop,List.length_take];rfl)) ?_;(with_reducible refine (bill_Text.calls k _ _ l0_0 _ _ l0_1 _ _ l0_2 t114 t115 _ ?side1 ?side2 ?side3 ?side4 ?side5 ?side6 A8.out (glob_at HG_ (by repeat (first|(with_reducible first|exact HB.out|apply qaD|apply qaB|apply qaE|refine qaG ?_ (Aside0.out (by assumption)))|exact HB.out)))).mono ?_);(case side1=>repeat (first|exact (Kd.C_below HR0_0.out HB.out)|(with_reducible refine Kd.C_alloc ?_ _)|(with_reducible refine Kd.C_drewN ?_ _)|(with_reducible refine Kd.C_drew ?_)));(case side2=>exact HC0_0.out);(case side3=>repeat (first|exact (Kd.C_below HR0_1.out HB.out)|(with_reducible refine Kd.C_alloc ?_ _)|(with_reducible refine Kd.C_drewN ?_ _)|(with_reducible refine Kd.C_drew ?_)));(case side4=>exact HC0_1.out);(case side5=>repeat (first|exact (Kd.C_below HR0_2.out HB.out)|(with_reducible refine Kd.C_alloc ?_ _)|(with_reducible refine Kd.C_drewN ?_ _)|(with_reducible refine Kd.C_drew ?_)));(case side6=>exact HC0_2.out);rintro e w49 ⟨rfl,hb⟩;refine ⟨_,rfl,?_⟩;have n0_:=Aside0.mk (Kd.R_below (by (with_reducible repeat (first|apply Kd.R_alloc|apply Kd.R_drewN|apply Kd.R_drew));exact HO108.out) hb);have n1_:=Aside0.mk (Kd.R_below (by (with_reducible repeat (first|apply Kd.R_alloc|apply Kd.R_drewN|apply Kd.R_drew));exact HO111.out) hb);have n2_:=Aside0.mk (qaQ (g:=gb101) (o:=.cells #[.slice A0_0 l0_0.length c0_0,.slice A0_1 l0_1.length c0_1,.slice A0_2 l0_2.length c0_2] 26 (0,0)) (by (with_reducible repeat (first|refine qaJ ?_ _|refine qaK ?_|refine qaI ?_ _));exact BK101.out) hb);have n3_:=Aside0.mk (qaH (by repeat (first|(with_reducible first|exact HB.out|apply qaD|apply qaB|apply qaE|refine qaG ?_ GE101.out)|exact HB.out)) hb);clear HO108;clear HO111;clear BK101;clear HB;have HO108:=n0_;have HO111:=n1_;have BK101:=n2_;have HB:=n3_;clear n0_ n1_ n2_ n3_;(try clear hb);(try clear hb2);(try clear hk);(try clear hi)))
      have n0_:=Aside0.mk (Kd.R_drew HO108.out)
      have n1_:=Aside0.mk (Kd.R_drew HO111.out)
      have n2_:=Aside0.mk (qaK BK101.out)
      have n3_:=Aside0.mk (qaE HB.out)
      clear HO108
      clear HO111
      clear BK101
      clear HB
      have HO108:=n0_
      have HO111:=n1_
      have BK101:=n2_
      have HB:=n3_
      clear n0_ n1_ n2_ n3_
      refine start_ (n:=14) (S:=fun w'=>w'.cell? ⟨gb101,0,none⟩=some (.slice A0_0 l0_0.length c0_0)∧w'.cell? ⟨gb101,1,none⟩=some (.slice A0_1 l0_1.length c0_1)∧w'.cell? ⟨gb101,2,none⟩=some (.slice A0_2 l0_2.length c0_2)) (ds:=[]) (bitsA 14 0) (by kernel_rfl) rfl rfl ⟨(qaC BK101.out 0).trans rfl,(qaC BK101.out 1).trans rfl,(qaC BK101.out 2).trans rfl⟩ (fun hHeld=>?_);refine qbN sawmilllaw50_BillTotals.tab6 sawmilllaw50_BillTotals.bits6 (fun HT_ HW_=>?_)
      generalize w49.drew=w50 at HO108 HO111 BK101 HB hHeld ⊢
      refine qaU (i:=0) (N:=some 48) (v:=?_) (a':=?_) #[true,false,false,false,false,false,false,false,false,false,false,false,false,false] rfl rfl (qaR HT_.out (by kernel_rfl)) (fun _ _ _ h=>h) (Or.inl ⟨by rfl,?_⟩) ?_ ?_
      rotate_left;(intro w';go_simp;with_reducible rfl);rotate_left;(simp only [Act.put,List.setIfInBounds_toArray,List.set_cons_zero,List.set_cons_succ,qaO,qaP];rfl)
      refine qaU (i:=2) (N:=some 50) (v:=?_) (a':=?_) #[true,false,true,false,false,false,false,false,false,false,false,false,false,false] rfl rfl (qaR HT_.out (by kernel_rfl)) (fun _ _ _ h=>h) (Or.inl ⟨by rfl,?_⟩) ?_ ?_
      rotate_left;(intro w';go_simp;with_reducible rfl);rotate_left;(simp only [Act.put,List.setIfInBounds_toArray,List.set_cons_zero,List.set_cons_succ,qaO,qaP];rfl)
      refine qaU (i:=5) (N:=some 53) (v:=?_) (a':=?_) #[true,false,true,false,false,true,false,false,false,false,false,false,false,false] rfl rfl (qaR HT_.out (by kernel_rfl)) (fun _ _ _ h=>h) (Or.inl ⟨by rfl,?_⟩) ?_ ?_
      rotate_left;(intro w';go_simp;with_reducible rfl);rotate_left;(simp only [Act.put,List.setIfInBounds_toArray,List.set_cons_zero,List.set_cons_succ,qaO,qaP];rfl)
      refine take_ (i:=1) (N:=some 49) (v:=?_) (a':=?_) (bitsA 14 39) rfl rfl (qaX HT_.out HW_.out (by kernel_rfl)) (fun _ _ _ h=>h) (Or.inl ⟨by rfl,?_⟩) hHeld ?_ ?_
      rotate_left;(rintro w' ⟨s0,s1,s2⟩;go_simp;with_reducible rfl);rotate_left;(simp only [Act.put,List.setIfInBounds_toArray,List.set_cons_zero,List.set_cons_succ,qaO,qaP];rfl)
      refine take_ (i:=3) (N:=some 51) (v:=?_) (a':=?_) (bitsA 14 47) rfl rfl (qaX HT_.out HW_.out (by kernel_rfl)) (fun _ _ _ h=>h) (Or.inl ⟨by rfl,?_⟩) hHeld ?_ ?_
      rotate_left;(rintro w' ⟨s0,s1,s2⟩;go_simp;with_reducible rfl);rotate_left;(simp only [Act.put,List.setIfInBounds_toArray,List.set_cons_zero,List.set_cons_succ,qaO,qaP];rfl)
      refine take_ (i:=6) (N:=some 54) (v:=?_) (a':=?_) (bitsA 14 111) rfl rfl (qaX HT_.out HW_.out (by kernel_rfl)) (fun _ _ _ h=>h) (Or.inl ⟨by rfl,?_⟩) hHeld ?_ ?_
      rotate_left;(rintro w' ⟨s0,s1,s2⟩;go_simp;with_reducible rfl);rotate_left;(simp only [Act.put,List.setIfInBounds_toArray,List.set_cons_zero,List.set_cons_succ,qaO,qaP];rfl)
      refine one_ (i:=4) (N:=some 52) (bitsA 14 127) rfl rfl (qbM HT_.out (by kernel_rfl)) (by decide) (fun K hK=>?_)
      refine goes_ Tryd.func20 (by kernel_rfl) rfl #[.slice A0_1 l0_1.length c0_1] (by rfl) rfl rfl (by (try simp only [List.map_toArray,List.map_cons,List.map_nil]);first|done|rfl|(simp only [List.length_drop,List.length_take];rfl)) ?_
      with_reducible refine (sawmilllaw50_items.calls k _ _ l0_1 t116 _ ?side1 ?side2 A9.out).mono ?_
      (case side1=>repeat (first|exact (Kd.C_below HR0_1.out HB.out)|(with_reducible refine Kd.C_alloc ?_ _)|(with_reducible refine Kd.C_drewN ?_ _)|(with_reducible refine Kd.C_drew ?_)))
      (case side2=>exact HC0_1.out)
      rintro e w51 ⟨v117,rfl,ho0,hb⟩
      refine ⟨_,rfl,?_⟩
      have n0_:=Aside0.mk (Kd.R_elder' (by (with_reducible repeat (first|apply Kd.R_alloc|apply Kd.R_drewN|apply Kd.R_drew));exact HO108.out) (Kd.R_base ho0) hb)
      have n1_:=Aside0.mk (Kd.R_below (by (with_reducible repeat (first|apply Kd.R_alloc|apply Kd.R_drewN|apply Kd.R_drew));exact HO111.out) hb)
      have n2_:=Aside0.mk (Kd.R_lower (Kd.R_new' ho0 (Kd.R_lt (by (with_reducible repeat (first|apply Kd.R_alloc|apply Kd.R_drewN|apply Kd.R_drew));exact HO108.out))) (qaN (by repeat (first|(with_reducible first|exact HB.out|apply qaD|apply qaB|apply qaE|refine qaG ?_ GE101.out)|exact HB.out))))
      have n3_:=Aside0.mk (qaQ (g:=gb101) (o:=.cells #[.slice A0_0 l0_0.length c0_0,.slice A0_1 l0_1.length c0_1,.slice A0_2 l0_2.length c0_2] 26 (0,0)) (by (with_reducible repeat (first|refine qaJ ?_ _|refine qaK ?_|refine qaI ?_ _));exact BK101.out) hb)
      have n4_:=Aside0.mk (qaH (by repeat (first|(with_reducible first|exact HB.out|apply qaD|apply qaB|apply qaE|refine qaG ?_ GE101.out)|exact HB.out)) hb)
      clear HO108
      clear HO111
      clear BK101
      clear HB
      have HO108:=n0_
      have HO111:=n1_
      have HO118:=n2_
      have BK101:=n3_
      have HB:=n4_
      clear n0_ n1_ n2_ n3_ n4_
      (try clear hb)
      (try clear hb2)
      (try clear hk)
      (try clear hi)
      (try clear ho0)
      refine hK.out _ _ ⟨(qaC BK101.out 0).trans rfl,(qaC BK101.out 1).trans rfl,(qaC BK101.out 2).trans rfl⟩ (fun hHeld=>?_)
      clear hK K
      refine norm_ (a':=?_) ?_ ?_
      rotate_left
      ·show Act.put _ (some 52) _=_
       simp only [Act.put,List.setIfInBounds_toArray,List.set_cons_zero,List.set_cons_succ,qaO,qaP]
       rfl
      refine one_ (i:=7) (N:=some 55) (bitsA 14 255) rfl rfl (qbM HT_.out (by kernel_rfl)) (by decide) (fun K hK=>?_)
      refine goes_ Tryd.func18 (by kernel_rfl) rfl #[.slice A0_2 l0_2.length c0_2] (by rfl) rfl rfl (by (try simp only [List.map_toArray,List.map_cons,List.map_nil]);first|done|rfl|(simp only [List.length_drop,List.length_take];rfl)) ?_
      with_reducible refine (sawmilllaw50_tiers.calls k _ _ l0_2 t119 _ ?side1 ?side2 A10.out).mono ?_
      (case side1=>repeat (first|exact (Kd.C_below HR0_2.out HB.out)|(with_reducible refine Kd.C_alloc ?_ _)|(with_reducible refine Kd.C_drewN ?_ _)|(with_reducible refine Kd.C_drew ?_)))
      (case side2=>exact HC0_2.out)
      rintro e w52 ⟨v120,rfl,ho0,hb⟩
      refine ⟨_,rfl,?_⟩
      have n0_:=Aside0.mk (Kd.R_below (by (with_reducible repeat (first|apply Kd.R_alloc|apply Kd.R_drewN|apply Kd.R_drew));exact HO108.out) hb)
      have n1_:=Aside0.mk (Kd.R_elder' (by (with_reducible repeat (first|apply Kd.R_alloc|apply Kd.R_drewN|apply Kd.R_drew));exact HO111.out) (Kd.R_base ho0) hb)
      have n2_:=Aside0.mk (Kd.R_below (by (with_reducible repeat (first|apply Kd.R_alloc|apply Kd.R_drewN|apply Kd.R_drew));exact HO118.out) hb)
      have n3_:=Aside0.mk (Kd.R_lower (Kd.R_new' ho0 (Kd.R_lt (by (with_reducible repeat (first|apply Kd.R_alloc|apply Kd.R_drewN|apply Kd.R_drew));exact HO111.out))) (qaN (by repeat (first|(with_reducible first|exact HB.out|apply qaD|apply qaB|apply qaE|refine qaG ?_ GE101.out)|exact HB.out))))
      have n4_:=Aside0.mk (qaQ (g:=gb101) (o:=.cells #[.slice A0_0 l0_0.length c0_0,.slice A0_1 l0_1.length c0_1,.slice A0_2 l0_2.length c0_2] 26 (0,0)) (by (with_reducible repeat (first|refine qaJ ?_ _|refine qaK ?_|refine qaI ?_ _));exact BK101.out) hb)
      have n5_:=Aside0.mk (qaH (by repeat (first|(with_reducible first|exact HB.out|apply qaD|apply qaB|apply qaE|refine qaG ?_ GE101.out)|exact HB.out)) hb)
      clear HO108
      clear HO111
      clear HO118
      clear BK101
      clear HB
      have HO108:=n0_
      have HO111:=n1_
      have HO118:=n2_
      have HO121:=n3_
      have BK101:=n4_
      have HB:=n5_
      clear n0_ n1_ n2_ n3_ n4_ n5_
      (try clear hb)
      (try clear hb2)
      (try clear hk)
      (try clear hi)
      (try clear ho0)
      obtain ⟨Ao53,co53,eo53⟩:=Kd.R_slice HO118.out
      (first|subst eo53|(injection eo53 with f1_ f2_ f3_;have f4_:=f1_.symm;have f5_:=f3_.symm;clear f1_ f2_ f3_;subst f4_;subst f5_))
      obtain ⟨Ao54,co54,eo54⟩:=Kd.R_slice HO121.out
      (first|subst eo54|(injection eo54 with f1_ f2_ f3_;have f4_:=f1_.symm;have f5_:=f3_.symm;clear f1_ f2_ f3_;subst f4_;subst f5_))
      refine hK.out _ _ ⟨(qaC BK101.out 0).trans rfl,(qaC BK101.out 1).trans rfl,(qaC BK101.out 2).trans rfl⟩ (fun hHeld=>?_)
      clear hK K
      refine norm_ (a':=?_) ?_ ?_
      rotate_left
      ·show Act.put _ (some 55) _=_
       simp only [Act.put,List.setIfInBounds_toArray,List.set_cons_zero,List.set_cons_succ,qaO,qaP]
       rfl
      refine one_ (i:=8) (N:=some 56) (bitsA 14 511) rfl rfl (qbM HT_.out (by kernel_rfl)) (by decide) (fun K hK=>?_)
      refine goes_ Tryd.func21 (by kernel_rfl) rfl #[.slice A0_0 l0_0.length c0_0,.slice Ao53 t116.length co53,.slice Ao54 t119.length co54] (by rfl) rfl rfl (by (try simp only [List.map_toArray,List.map_cons,List.map_nil]);first|done|rfl|(simp only [List.length_drop,List.length_take];rfl)) ?_
      with_reducible refine (sawmillref50_Text.calls k _ _ l0_0 _ _ t116 _ _ t119 t122 t123 _ ?side1 ?side2 ?side3 ?side4 ?side5 ?side6 A11.out).mono ?_
      (case side1=>repeat (first|exact (Kd.C_below HR0_0.out HB.out)|(with_reducible refine Kd.C_alloc ?_ _)|(with_reducible refine Kd.C_drewN ?_ _)|(with_reducible refine Kd.C_drew ?_)))
      (case side2=>exact HC0_0.out)
      (case side3=>repeat (first|exact (Kd.R_reads' HO118.out).2.2|(with_reducible refine Kd.C_alloc ?_ _)|(with_reducible refine Kd.C_drewN ?_ _)|(with_reducible refine Kd.C_drew ?_)))
      (case side4=>exact (Kd.R_reads' HO118.out).2.1)
      (case side5=>repeat (first|exact (Kd.R_reads' HO121.out).2.2|(with_reducible refine Kd.C_alloc ?_ _)|(with_reducible refine Kd.C_drewN ?_ _)|(with_reducible refine Kd.C_drew ?_)))
      (case side6=>exact (Kd.R_reads' HO121.out).2.1)
      rintro e w55 ⟨rfl,hb⟩
      refine ⟨_,rfl,?_⟩
      have n0_:=Aside0.mk (Kd.R_below (by (with_reducible repeat (first|apply Kd.R_alloc|apply Kd.R_drewN|apply Kd.R_drew));exact HO108.out) hb)
      have n1_:=Aside0.mk (Kd.R_below (by (with_reducible repeat (first|apply Kd.R_alloc|apply Kd.R_drewN|apply Kd.R_drew));exact HO111.out) hb)
      have n2_:=Aside0.mk (Kd.R_below (by (with_reducible repeat (first|apply Kd.R_alloc|apply Kd.R_drewN|apply Kd.R_drew));exact HO118.out) hb)
      have n3_:=Aside0.mk (Kd.R_below (by (with_reducible repeat (first|apply Kd.R_alloc|apply Kd.R_drewN|apply Kd.R_drew));exact HO121.out) hb)
      have n4_:=Aside0.mk (qaQ (g:=gb101) (o:=.cells #[.slice A0_0 l0_0.length c0_0,.slice A0_1 l0_1.length c0_1,.slice A0_2 l0_2.length c0_2] 26 (0,0)) (by (with_reducible repeat (first|refine qaJ ?_ _|refine qaK ?_|refine qaI ?_ _));exact BK101.out) hb)
      have n5_:=Aside0.mk (qaH (by repeat (first|(with_reducible first|exact HB.out|apply qaD|apply qaB|apply qaE|refine qaG ?_ GE101.out)|exact HB.out)) hb)
      clear HO108
      clear HO111
      clear HO118
      clear HO121
      clear BK101
      clear HB
      have HO108:=n0_
      have HO111:=n1_
      have HO118:=n2_
      have HO121:=n3_
      have BK101:=n4_
      have HB:=n5_
      clear n0_ n1_ n2_ n3_ n4_ n5_
      (try clear hb)
      (try clear hb2)
      (try clear hk)
      (try clear hi)
      refine hK.out _ _ ⟨(qaC BK101.out 0).trans rfl,(qaC BK101.out 1).trans rfl,(qaC BK101.out 2).trans rfl⟩ (fun hHeld=>?_)
      clear hK K
      refine norm_ (a':=?_) ?_ ?_
      rotate_left
      ·show Act.put _ (some 56) _=_
       simp only [Act.put,List.setIfInBounds_toArray,List.set_cons_zero,List.set_cons_succ,qaO,qaP]
       rfl
      refine qaU (i:=9) (N:=some 47) (v:=?_) (a':=?_) #[true,true,true,true,true,true,true,true,true,true,false,false,false,false] rfl rfl (qaR HT_.out (by kernel_rfl)) (fun _ _ _ h=>h) (Or.inl ⟨by rfl,?_⟩) ?_ ?_
      rotate_left;(intro w';go_simp;with_reducible rfl);rotate_left;(simp only [Act.put,List.setIfInBounds_toArray,List.set_cons_zero,List.set_cons_succ,qaO,qaP];rfl)
      refine qaU (i:=10) (N:=some 57) (v:=?_) (a':=?_) #[true,true,true,true,true,true,true,true,true,true,true,false,false,false] rfl rfl (qaR HT_.out (by kernel_rfl)) (fun _ _ _ h=>h) (Or.inl ⟨by rfl,?_⟩) ?_ ?_
      rotate_left;(intro w';go_simp;with_reducible rfl);rotate_left;(simp only [Act.put,List.setIfInBounds_toArray,List.set_cons_zero,List.set_cons_succ,qaO,qaP];rfl)
      refine qaU (i:=11) (N:=some 58) (v:=?_) (a':=?_) #[true,true,true,true,true,true,true,true,true,true,true,true,false,false] rfl rfl (qaR HT_.out (by kernel_rfl)) (fun _ _ _ h=>h) (Or.inl ⟨by rfl,?_⟩) ?_ ?_
      rotate_left;(intro w';go_simp;with_reducible rfl);rotate_left;(simp only [Act.put,List.setIfInBounds_toArray,List.set_cons_zero,List.set_cons_succ,qaO,qaP];rfl)
      refine qaU (i:=12) (N:=some 9) (v:=?_) (a':=?_) #[true,true,true,true,true,true,true,true,true,true,true,true,true,false] rfl rfl (qaR HT_.out (by kernel_rfl)) (fun _ _ _ h=>h) (Or.inl ⟨by rfl,?_⟩) ?_ ?_
      rotate_left;(intro w';go_simp;with_reducible rfl);rotate_left;(simp only [Act.put,List.setIfInBounds_toArray,List.set_cons_zero,List.set_cons_succ,qaO,qaP];rfl)
      refine qaU (i:=13) (N:=some 10) (v:=?_) (a':=?_) #[true,true,true,true,true,true,true,true,true,true,true,true,true,true] rfl rfl (qaR HT_.out (by kernel_rfl)) (fun _ _ _ h=>h) (Or.inl ⟨by rfl,?_⟩) ?_ ?_
      rotate_left;(intro w';go_simp;with_reducible rfl);rotate_left;(simp only [Act.put,List.setIfInBounds_toArray,List.set_cons_zero,List.set_cons_succ,qaO,qaP];rfl)
      refine done_ (done_of HT_.out (by kernel_rfl)) ?_
      try go_wp2
      go_ret
      exact ⟨by first|rfl|(simp [qaL,qaM]<;>rfl)|(simp [*,qaL,qaM]<;>rfl),by repeat (first|(with_reducible first|exact HB.out|apply qaD|apply qaB|apply qaE|refine qaG ?_ GE101.out)|exact HB.out)⟩
    ·rw [if_neg c14] at H
     have c14b0:(t114.toList == t122.toList)=false:=beq_eq_false_iff_ne.mpr c14
     have c14b1:(t114.toList != t122.toList)=true:=bne_iff_ne.mpr c14
     obtain rfl:=Option.some.inj H
     go_enter Tryd.func6,Tryd.ntmps6
     try go_wp2_with (first|((with_reducible refine qaV (N:=1) rfl ?_);refine qaT ?hg (N:=1) ?hd (cs:=#[.slice A0_0 l0_0.length c0_0,.slice A0_1 l0_1.length c0_1,.slice A0_2 l0_2.length c0_2]) (t:=26) ?hr ?_;(case hd=>rfl);(case hg=>rfl);(case hr=>first|(go_simp;done)|(go_simp;rfl));intro gb101 hg w56 hbox hb;have n0_:=Aside0.mk (qaH (by repeat (first|(with_reducible first|exact HB.out|apply qaD|apply qaB|apply qaE)|exact HB.out)) hb);have n1_:=Aside0.mk (hbox);have n2_:=Aside0.mk ((by rw [hg];exact (qaN (by repeat (first|(with_reducible first|exact HB.out|apply qaD|apply qaB|apply qaE)|exact HB.out))):w.heap.size≤gb101));have n3_:=Aside0.mk ((by rw [hg];exact (qaN (by repeat (first|(with_reducible first|exact HB.out|apply qaD|apply qaB|apply qaE)|exact HB.out))):w.heap.size≤gb101));clear HB;have HB:=n0_;have BK101:=n1_;have GW101:=n2_;have GE101:=n3_;clear n0_ n1_ n2_ n3_;clear hb hbox hg;have hcz57_0:w56.cell? ⟨gb101,0,none⟩=some (.slice A0_0 l0_0.length c0_0):=(qaC BK101.out 0).trans rfl;have hcz57_1:w56.cell? ⟨gb101,1,none⟩=some (.slice A0_1 l0_1.length c0_1):=(qaC BK101.out 1).trans rfl;have hcz57_2:w56.cell? ⟨gb101,2,none⟩=some (.slice A0_2 l0_2.length c0_2):=(qaC BK101.out 2).trans rfl;have hfz57_0:=qaA BK101.out 0;have hfz57_1:=qaA BK101.out 1;have hfz57_2:=qaA BK101.out 2)|((with_reducible refine qaS (f:=10) rfl ?_);refine qbE (some 12) rfl rfl Tryd.func10 (by kernel_rfl) rfl #[.agg #[.slice A0_0 l0_0.length c0_0,.slice A0_1 l0_1.length c0_1,.slice A0_2 l0_2.length c0_2]] rfl (by (try simp only [List.map_toArray,List.map_cons,List.map_nil]);first|done|rfl|(simp only [List.length_drop,List.length_take];rfl)) ?_;(with_reducible refine (sawmilllaw50_small.calls k _ _ l0_0 _ _ l0_1 _ _ l0_2 true _ ?side1 ?side2 ?side3 ?side4 ?side5 ?side6 A2.out).mono ?_);(case side1=>repeat (first|exact (Kd.C_below HR0_0.out HB.out)|(with_reducible refine Kd.C_alloc ?_ _)|(with_reducible refine Kd.C_drewN ?_ _)|(with_reducible refine Kd.C_drew ?_)));(case side2=>exact HC0_0.out);(case side3=>repeat (first|exact (Kd.C_below HR0_1.out HB.out)|(with_reducible refine Kd.C_alloc ?_ _)|(with_reducible refine Kd.C_drewN ?_ _)|(with_reducible refine Kd.C_drew ?_)));(case side4=>exact HC0_1.out);(case side5=>repeat (first|exact (Kd.C_below HR0_2.out HB.out)|(with_reducible refine Kd.C_alloc ?_ _)|(with_reducible refine Kd.C_drewN ?_ _)|(with_reducible refine Kd.C_drew ?_)));(case side6=>exact HC0_2.out);rintro e w58 ⟨rfl,hb⟩;refine ⟨_,rfl,?_⟩;have n0_:=Aside0.mk (qaQ (g:=gb101) (o:=.cells #[.slice A0_0 l0_0.length c0_0,.slice A0_1 l0_1.length c0_1,.slice A0_2 l0_2.length c0_2] 26 (0,0)) (by (with_reducible repeat (first|refine qaJ ?_ _|refine qaK ?_|refine qaI ?_ _));exact BK101.out) hb);have n1_:=Aside0.mk (qaH (by repeat (first|(with_reducible first|exact HB.out|apply qaD|apply qaB|apply qaE|refine qaG ?_ GE101.out)|exact HB.out)) hb);clear BK101;clear HB;have BK101:=n0_;have HB:=n1_;clear n0_ n1_;(try clear hb);(try clear hb2);(try clear hk);(try clear hi);have hcz59_0:w58.cell? ⟨gb101,0,none⟩=some (.slice A0_0 l0_0.length c0_0):=(qaC BK101.out 0).trans rfl;have hcz59_1:w58.cell? ⟨gb101,1,none⟩=some (.slice A0_1 l0_1.length c0_1):=(qaC BK101.out 1).trans rfl;have hcz59_2:w58.cell? ⟨gb101,2,none⟩=some (.slice A0_2 l0_2.length c0_2):=(qaC BK101.out 2).trans rfl;have hfz59_0:=qaA BK101.out 0;have hfz59_1:=qaA BK101.out 1;have hfz59_2:=qaA BK101.out 2)|((with_reducible refine qaS (f:=12) rfl ?_);refine qbE (some 22) rfl rfl Tryd.func12 (by kernel_rfl) rfl #[.slice A0_0 l0_0.length c0_0,.slice A0_1 l0_1.length c0_1,.slice A0_2 l0_2.length c0_2] rfl (by (try simp only [List.map_toArray,List.map_cons,List.map_nil]);first|done|rfl|(simp only [List.length_drop,List.length_take];rfl)) ?_;(with_reducible refine (bill_Total.calls k _ _ l0_0 _ _ l0_1 _ _ l0_2 t104 t105 _ ?side1 ?side2 ?side3 ?side4 ?side5 ?side6 A4.out).mono ?_);(case side1=>repeat (first|exact (Kd.C_below HR0_0.out HB.out)|(with_reducible refine Kd.C_alloc ?_ _)|(with_reducible refine Kd.C_drewN ?_ _)|(with_reducible refine Kd.C_drew ?_)));(case side2=>exact HC0_0.out);(case side3=>repeat (first|exact (Kd.C_below HR0_1.out HB.out)|(with_reducible refine Kd.C_alloc ?_ _)|(with_reducible refine Kd.C_drewN ?_ _)|(with_reducible refine Kd.C_drew ?_)));(case side4=>exact HC0_1.out);(case side5=>repeat (first|exact (Kd.C_below HR0_2.out HB.out)|(with_reducible refine Kd.C_alloc ?_ _)|(with_reducible refine Kd.C_drewN ?_ _)|(with_reducible refine Kd.C_drew ?_)));(case side6=>exact HC0_2.out);rintro e w60 ⟨rfl,hb⟩;refine ⟨_,rfl,?_⟩;have n0_:=Aside0.mk (qaQ (g:=gb101) (o:=.cells #[.slice A0_0 l0_0.length c0_0,.slice A0_1 l0_1.length c0_1,.slice A0_2 l0_2.length c0_2] 26 (0,0)) (by (with_reducible repeat (first|refine qaJ ?_ _|refine qaK ?_|refine qaI ?_ _));exact BK101.out) hb);have n1_:=Aside0.mk (qaH (by repeat (first|(with_reducible first|exact HB.out|apply qaD|apply qaB|apply qaE|refine qaG ?_ GE101.out)|exact HB.out)) hb);clear BK101;clear HB;have BK101:=n0_;have HB:=n1_;clear n0_ n1_;(try clear hb);(try clear hb2);(try clear hk);(try clear hi)))
     have n0_:=Aside0.mk (qaK BK101.out)
     have n1_:=Aside0.mk (qaE HB.out)
     clear BK101
     clear HB
     have BK101:=n0_
     have HB:=n1_
     clear n0_ n1_
     refine start_ (n:=14) (S:=fun w'=>w'.cell? ⟨gb101,0,none⟩=some (.slice A0_0 l0_0.length c0_0)∧w'.cell? ⟨gb101,1,none⟩=some (.slice A0_1 l0_1.length c0_1)∧w'.cell? ⟨gb101,2,none⟩=some (.slice A0_2 l0_2.length c0_2)) (ds:=[]) (bitsA 14 0) (by kernel_rfl) rfl rfl ⟨(qaC BK101.out 0).trans rfl,(qaC BK101.out 1).trans rfl,(qaC BK101.out 2).trans rfl⟩ (fun hHeld=>?_);refine qbN sawmilllaw50_BillTotals.tab4 sawmilllaw50_BillTotals.bits4 (fun HT_ HW_=>?_)
     generalize w60.drew=w61 at BK101 HB hHeld ⊢
     refine qaU (i:=0) (N:=some 26) (v:=?_) (a':=?_) #[true,false,false,false,false,false,false,false,false,false,false,false,false,false] rfl rfl (qaR HT_.out (by kernel_rfl)) (fun _ _ _ h=>h) (Or.inl ⟨by rfl,?_⟩) ?_ ?_
     rotate_left;(intro w';go_simp;with_reducible rfl);rotate_left;(simp only [Act.put,List.setIfInBounds_toArray,List.set_cons_zero,List.set_cons_succ,qaO,qaP];rfl)
     refine qaU (i:=2) (N:=some 28) (v:=?_) (a':=?_) #[true,false,true,false,false,false,false,false,false,false,false,false,false,false] rfl rfl (qaR HT_.out (by kernel_rfl)) (fun _ _ _ h=>h) (Or.inl ⟨by rfl,?_⟩) ?_ ?_
     rotate_left;(intro w';go_simp;with_reducible rfl);rotate_left;(simp only [Act.put,List.setIfInBounds_toArray,List.set_cons_zero,List.set_cons_succ,qaO,qaP];rfl)
     refine qaU (i:=5) (N:=some 31) (v:=?_) (a':=?_) #[true,false,true,false,false,true,false,false,false,false,false,false,false,false] rfl rfl (qaR HT_.out (by kernel_rfl)) (fun _ _ _ h=>h) (Or.inl ⟨by rfl,?_⟩) ?_ ?_
     rotate_left;(intro w';go_simp;with_reducible rfl);rotate_left;(simp only [Act.put,List.setIfInBounds_toArray,List.set_cons_zero,List.set_cons_succ,qaO,qaP];rfl)
     refine take_ (i:=1) (N:=some 27) (v:=?_) (a':=?_) (bitsA 14 39) rfl rfl (qaX HT_.out HW_.out (by kernel_rfl)) (fun _ _ _ h=>h) (Or.inl ⟨by rfl,?_⟩) hHeld ?_ ?_
     rotate_left;(rintro w' ⟨s0,s1,s2⟩;go_simp;with_reducible rfl);rotate_left;(simp only [Act.put,List.setIfInBounds_toArray,List.set_cons_zero,List.set_cons_succ,qaO,qaP];rfl)
     refine take_ (i:=3) (N:=some 29) (v:=?_) (a':=?_) (bitsA 14 47) rfl rfl (qaX HT_.out HW_.out (by kernel_rfl)) (fun _ _ _ h=>h) (Or.inl ⟨by rfl,?_⟩) hHeld ?_ ?_
     rotate_left;(rintro w' ⟨s0,s1,s2⟩;go_simp;with_reducible rfl);rotate_left;(simp only [Act.put,List.setIfInBounds_toArray,List.set_cons_zero,List.set_cons_succ,qaO,qaP];rfl)
     refine take_ (i:=6) (N:=some 32) (v:=?_) (a':=?_) (bitsA 14 111) rfl rfl (qaX HT_.out HW_.out (by kernel_rfl)) (fun _ _ _ h=>h) (Or.inl ⟨by rfl,?_⟩) hHeld ?_ ?_
     rotate_left;(rintro w' ⟨s0,s1,s2⟩;go_simp;with_reducible rfl);rotate_left;(simp only [Act.put,List.setIfInBounds_toArray,List.set_cons_zero,List.set_cons_succ,qaO,qaP];rfl)
     refine one_ (i:=4) (N:=some 30) (bitsA 14 127) rfl rfl (qbM HT_.out (by kernel_rfl)) (by decide) (fun K hK=>?_)
     refine goes_ Tryd.func20 (by kernel_rfl) rfl #[.slice A0_1 l0_1.length c0_1] (by rfl) rfl rfl (by (try simp only [List.map_toArray,List.map_cons,List.map_nil]);first|done|rfl|(simp only [List.length_drop,List.length_take];rfl)) ?_
     with_reducible refine (sawmilllaw50_items.calls k _ _ l0_1 t106 _ ?side1 ?side2 A5.out).mono ?_
     (case side1=>repeat (first|exact (Kd.C_below HR0_1.out HB.out)|(with_reducible refine Kd.C_alloc ?_ _)|(with_reducible refine Kd.C_drewN ?_ _)|(with_reducible refine Kd.C_drew ?_)))
     (case side2=>exact HC0_1.out)
     rintro e w62 ⟨v107,rfl,ho0,hb⟩
     refine ⟨_,rfl,?_⟩
     have n0_:=Aside0.mk (Kd.R_lower ho0 (qaN (by repeat (first|(with_reducible first|exact HB.out|apply qaD|apply qaB|apply qaE|refine qaG ?_ GE101.out)|exact HB.out))))
     have n1_:=Aside0.mk (qaQ (g:=gb101) (o:=.cells #[.slice A0_0 l0_0.length c0_0,.slice A0_1 l0_1.length c0_1,.slice A0_2 l0_2.length c0_2] 26 (0,0)) (by (with_reducible repeat (first|refine qaJ ?_ _|refine qaK ?_|refine qaI ?_ _));exact BK101.out) hb)
     have n2_:=Aside0.mk (qaH (by repeat (first|(with_reducible first|exact HB.out|apply qaD|apply qaB|apply qaE|refine qaG ?_ GE101.out)|exact HB.out)) hb)
     clear BK101
     clear HB
     have HO108:=n0_
     have BK101:=n1_
     have HB:=n2_
     clear n0_ n1_ n2_
     (try clear hb)
     (try clear hb2)
     (try clear hk)
     (try clear hi)
     (try clear ho0)
     refine hK.out _ _ ⟨(qaC BK101.out 0).trans rfl,(qaC BK101.out 1).trans rfl,(qaC BK101.out 2).trans rfl⟩ (fun hHeld=>?_)
     clear hK K
     refine norm_ (a':=?_) ?_ ?_
     rotate_left
     ·show Act.put _ (some 30) _=_
      simp only [Act.put,List.setIfInBounds_toArray,List.set_cons_zero,List.set_cons_succ,qaO,qaP]
      rfl
     refine one_ (i:=7) (N:=some 33) (bitsA 14 255) rfl rfl (qbM HT_.out (by kernel_rfl)) (by decide) (fun K hK=>?_)
     refine goes_ Tryd.func18 (by kernel_rfl) rfl #[.slice A0_2 l0_2.length c0_2] (by rfl) rfl rfl (by (try simp only [List.map_toArray,List.map_cons,List.map_nil]);first|done|rfl|(simp only [List.length_drop,List.length_take];rfl)) ?_
     with_reducible refine (sawmilllaw50_tiers.calls k _ _ l0_2 t109 _ ?side1 ?side2 A6.out).mono ?_
     (case side1=>repeat (first|exact (Kd.C_below HR0_2.out HB.out)|(with_reducible refine Kd.C_alloc ?_ _)|(with_reducible refine Kd.C_drewN ?_ _)|(with_reducible refine Kd.C_drew ?_)))
     (case side2=>exact HC0_2.out)
     rintro e w63 ⟨v110,rfl,ho0,hb⟩
     refine ⟨_,rfl,?_⟩
     have n0_:=Aside0.mk (Kd.R_below (by (with_reducible repeat (first|apply Kd.R_alloc|apply Kd.R_drewN|apply Kd.R_drew));exact HO108.out) hb)
     have n1_:=Aside0.mk (Kd.R_lower ho0 (qaN (by repeat (first|(with_reducible first|exact HB.out|apply qaD|apply qaB|apply qaE|refine qaG ?_ GE101.out)|exact HB.out))))
     have n2_:=Aside0.mk (qaQ (g:=gb101) (o:=.cells #[.slice A0_0 l0_0.length c0_0,.slice A0_1 l0_1.length c0_1,.slice A0_2 l0_2.length c0_2] 26 (0,0)) (by (with_reducible repeat (first|refine qaJ ?_ _|refine qaK ?_|refine qaI ?_ _));exact BK101.out) hb)
     have n3_:=Aside0.mk (qaH (by repeat (first|(with_reducible first|exact HB.out|apply qaD|apply qaB|apply qaE|refine qaG ?_ GE101.out)|exact HB.out)) hb)
     clear HO108
     clear BK101
     clear HB
     have HO108:=n0_
     have HO111:=n1_
     have BK101:=n2_
     have HB:=n3_
     clear n0_ n1_ n2_ n3_
     (try clear hb)
     (try clear hb2)
     (try clear hk)
     (try clear hi)
     (try clear ho0)
     obtain ⟨Ao64,co64,eo64⟩:=Kd.R_slice HO108.out
     (first|subst eo64|(injection eo64 with f1_ f2_ f3_;have f4_:=f1_.symm;have f5_:=f3_.symm;clear f1_ f2_ f3_;subst f4_;subst f5_))
     obtain ⟨Ao65,co65,eo65⟩:=Kd.R_slice HO111.out
     (first|subst eo65|(injection eo65 with f1_ f2_ f3_;have f4_:=f1_.symm;have f5_:=f3_.symm;clear f1_ f2_ f3_;subst f4_;subst f5_))
     refine hK.out _ _ ⟨(qaC BK101.out 0).trans rfl,(qaC BK101.out 1).trans rfl,(qaC BK101.out 2).trans rfl⟩ (fun hHeld=>?_)
     clear hK K
     refine norm_ (a':=?_) ?_ ?_
     rotate_left
     ·show Act.put _ (some 33) _=_
      simp only [Act.put,List.setIfInBounds_toArray,List.set_cons_zero,List.set_cons_succ,qaO,qaP]
      rfl
     refine one_ (i:=8) (N:=some 34) (bitsA 14 511) rfl rfl (qbM HT_.out (by kernel_rfl)) (by decide) (fun K hK=>?_)
     refine goes_ Tryd.func19 (by kernel_rfl) rfl #[.slice A0_0 l0_0.length c0_0,.slice Ao64 t106.length co64,.slice Ao65 t109.length co65] (by rfl) rfl rfl (by (try simp only [List.map_toArray,List.map_cons,List.map_nil]);first|done|rfl|(simp only [List.length_drop,List.length_take];rfl)) ?_
     with_reducible refine (sawmillref50_Total.calls k _ _ l0_0 _ _ t106 _ _ t109 t112 t113 _ ?side1 ?side2 ?side3 ?side4 ?side5 ?side6 A7.out).mono ?_
     (case side1=>repeat (first|exact (Kd.C_below HR0_0.out HB.out)|(with_reducible refine Kd.C_alloc ?_ _)|(with_reducible refine Kd.C_drewN ?_ _)|(with_reducible refine Kd.C_drew ?_)))
     (case side2=>exact HC0_0.out)
     (case side3=>repeat (first|exact (Kd.R_reads' HO108.out).2.2|(with_reducible refine Kd.C_alloc ?_ _)|(with_reducible refine Kd.C_drewN ?_ _)|(with_reducible refine Kd.C_drew ?_)))
     (case side4=>exact (Kd.R_reads' HO108.out).2.1)
     (case side5=>repeat (first|exact (Kd.R_reads' HO111.out).2.2|(with_reducible refine Kd.C_alloc ?_ _)|(with_reducible refine Kd.C_drewN ?_ _)|(with_reducible refine Kd.C_drew ?_)))
     (case side6=>exact (Kd.R_reads' HO111.out).2.1)
     rintro e w66 ⟨rfl,hb⟩
     refine ⟨_,rfl,?_⟩
     have n0_:=Aside0.mk (Kd.R_below (by (with_reducible repeat (first|apply Kd.R_alloc|apply Kd.R_drewN|apply Kd.R_drew));exact HO108.out) hb)
     have n1_:=Aside0.mk (Kd.R_below (by (with_reducible repeat (first|apply Kd.R_alloc|apply Kd.R_drewN|apply Kd.R_drew));exact HO111.out) hb)
     have n2_:=Aside0.mk (qaQ (g:=gb101) (o:=.cells #[.slice A0_0 l0_0.length c0_0,.slice A0_1 l0_1.length c0_1,.slice A0_2 l0_2.length c0_2] 26 (0,0)) (by (with_reducible repeat (first|refine qaJ ?_ _|refine qaK ?_|refine qaI ?_ _));exact BK101.out) hb)
     have n3_:=Aside0.mk (qaH (by repeat (first|(with_reducible first|exact HB.out|apply qaD|apply qaB|apply qaE|refine qaG ?_ GE101.out)|exact HB.out)) hb)
     clear HO108
     clear HO111
     clear BK101
     clear HB
     have HO108:=n0_
     have HO111:=n1_
     have BK101:=n2_
     have HB:=n3_
     clear n0_ n1_ n2_ n3_
     (try clear hb)
     (try clear hb2)
     (try clear hk)
     (try clear hi)
     refine hK.out _ _ ⟨(qaC BK101.out 0).trans rfl,(qaC BK101.out 1).trans rfl,(qaC BK101.out 2).trans rfl⟩ (fun hHeld=>?_)
     clear hK K
     refine norm_ (a':=?_) ?_ ?_
     rotate_left
     ·show Act.put _ (some 34) _=_
      simp only [Act.put,List.setIfInBounds_toArray,List.set_cons_zero,List.set_cons_succ,qaO,qaP]
      rfl
     refine qaU (i:=9) (N:=some 25) (v:=?_) (a':=?_) #[true,true,true,true,true,true,true,true,true,true,false,false,false,false] rfl rfl (qaR HT_.out (by kernel_rfl)) (fun _ _ _ h=>h) (Or.inl ⟨by rfl,?_⟩) ?_ ?_
     rotate_left;(intro w';go_simp;with_reducible rfl);rotate_left;(simp only [Act.put,List.setIfInBounds_toArray,List.set_cons_zero,List.set_cons_succ,qaO,qaP];rfl)
     refine qaU (i:=10) (N:=some 35) (v:=?_) (a':=?_) #[true,true,true,true,true,true,true,true,true,true,true,false,false,false] rfl rfl (qaR HT_.out (by kernel_rfl)) (fun _ _ _ h=>h) (Or.inl ⟨by rfl,?_⟩) ?_ ?_
     rotate_left;(intro w';go_simp;with_reducible rfl);rotate_left;(simp only [Act.put,List.setIfInBounds_toArray,List.set_cons_zero,List.set_cons_succ,qaO,qaP];rfl)
     refine qaU (i:=11) (N:=some 36) (v:=?_) (a':=?_) #[true,true,true,true,true,true,true,true,true,true,true,true,false,false] rfl rfl (qaR HT_.out (by kernel_rfl)) (fun _ _ _ h=>h) (Or.inl ⟨by rfl,?_⟩) ?_ ?_
     rotate_left;(intro w';go_simp;with_reducible rfl);rotate_left;(simp only [Act.put,List.setIfInBounds_toArray,List.set_cons_zero,List.set_cons_succ,qaO,qaP];rfl)
     refine qaU (i:=12) (N:=some 5) (v:=?_) (a':=?_) #[true,true,true,true,true,true,true,true,true,true,true,true,true,false] rfl rfl (qaR HT_.out (by kernel_rfl)) (fun _ _ _ h=>h) (Or.inl ⟨by rfl,?_⟩) ?_ ?_
     rotate_left;(intro w';go_simp;with_reducible rfl);rotate_left;(simp only [Act.put,List.setIfInBounds_toArray,List.set_cons_zero,List.set_cons_succ,qaO,qaP];rfl)
     refine qaU (i:=13) (N:=some 6) (v:=?_) (a':=?_) #[true,true,true,true,true,true,true,true,true,true,true,true,true,true] rfl rfl (qaR HT_.out (by kernel_rfl)) (fun _ _ _ h=>h) (Or.inl ⟨by rfl,?_⟩) ?_ ?_
     rotate_left;(intro w';go_simp;with_reducible rfl);rotate_left;(simp only [Act.put,List.setIfInBounds_toArray,List.set_cons_zero,List.set_cons_succ,qaO,qaP];rfl)
     refine done_ (done_of HT_.out (by kernel_rfl)) ?_
     have hcz67_0:w66.cell? ⟨gb101,0,none⟩=some (.slice A0_0 l0_0.length c0_0):=(qaC BK101.out 0).trans rfl
     have hcz67_1:w66.cell? ⟨gb101,1,none⟩=some (.slice A0_1 l0_1.length c0_1):=(qaC BK101.out 1).trans rfl
     have hcz67_2:w66.cell? ⟨gb101,2,none⟩=some (.slice A0_2 l0_2.length c0_2):=(qaC BK101.out 2).trans rfl
     have hfz67_0:=qaA BK101.out 0
     have hfz67_1:=qaA BK101.out 1
     have hfz67_2:=qaA BK101.out 2
     try go_wp2_with (first|((with_reducible refine qaS (f:=13) rfl ?_);refine qbE (some 44) rfl rfl Tryd.func13 (by kernel_rfl) rfl #[.slice A0_0 l0_0.length c0_0,.slice A0_1 l0_1.length c0_1,.slice A0_2 l0_2.length c0_2] rfl (by (try simp only [List.map_toArray,List.map_cons,List.map_nil]);first|done|rfl|(simp only [List.length_drop,List.length_take];rfl)) ?_;(with_reducible refine (bill_Text.calls k _ _ l0_0 _ _ l0_1 _ _ l0_2 t114 t115 _ ?side1 ?side2 ?side3 ?side4 ?side5 ?side6 A8.out (glob_at HG_ (by repeat (first|(with_reducible first|exact HB.out|apply qaD|apply qaB|apply qaE|refine qaG ?_ (Aside0.out (by assumption)))|exact HB.out)))).mono ?_);(case side1=>repeat (first|exact (Kd.C_below HR0_0.out HB.out)|(with_reducible refine Kd.C_alloc ?_ _)|(with_reducible refine Kd.C_drewN ?_ _)|(with_reducible refine Kd.C_drew ?_)));(case side2=>exact HC0_0.out);(case side3=>repeat (first|exact (Kd.C_below HR0_1.out HB.out)|(with_reducible refine Kd.C_alloc ?_ _)|(with_reducible refine Kd.C_drewN ?_ _)|(with_reducible refine Kd.C_drew ?_)));(case side4=>exact HC0_1.out);(case side5=>repeat (first|exact (Kd.C_below HR0_2.out HB.out)|(with_reducible refine Kd.C_alloc ?_ _)|(with_reducible refine Kd.C_drewN ?_ _)|(with_reducible refine Kd.C_drew ?_)));(case side6=>exact HC0_2.out);rintro e w68 ⟨rfl,hb⟩;refine ⟨_,rfl,?_⟩;have n0_:=Aside0.mk (Kd.R_below (by (with_reducible repeat (first|apply Kd.R_alloc|apply Kd.R_drewN|apply Kd.R_drew));exact HO108.out) hb);have n1_:=Aside0.mk (Kd.R_below (by (with_reducible repeat (first|apply Kd.R_alloc|apply Kd.R_drewN|apply Kd.R_drew));exact HO111.out) hb);have n2_:=Aside0.mk (qaQ (g:=gb101) (o:=.cells #[.slice A0_0 l0_0.length c0_0,.slice A0_1 l0_1.length c0_1,.slice A0_2 l0_2.length c0_2] 26 (0,0)) (by (with_reducible repeat (first|refine qaJ ?_ _|refine qaK ?_|refine qaI ?_ _));exact BK101.out) hb);have n3_:=Aside0.mk (qaH (by repeat (first|(with_reducible first|exact HB.out|apply qaD|apply qaB|apply qaE|refine qaG ?_ GE101.out)|exact HB.out)) hb);clear HO108;clear HO111;clear BK101;clear HB;have HO108:=n0_;have HO111:=n1_;have BK101:=n2_;have HB:=n3_;clear n0_ n1_ n2_ n3_;(try clear hb);(try clear hb2);(try clear hk);(try clear hi)))
     have n0_:=Aside0.mk (Kd.R_drew HO108.out)
     have n1_:=Aside0.mk (Kd.R_drew HO111.out)
     have n2_:=Aside0.mk (qaK BK101.out)
     have n3_:=Aside0.mk (qaE HB.out)
     clear HO108
     clear HO111
     clear BK101
     clear HB
     have HO108:=n0_
     have HO111:=n1_
     have BK101:=n2_
     have HB:=n3_
     clear n0_ n1_ n2_ n3_
     refine start_ (n:=14) (S:=fun w'=>w'.cell? ⟨gb101,0,none⟩=some (.slice A0_0 l0_0.length c0_0)∧w'.cell? ⟨gb101,1,none⟩=some (.slice A0_1 l0_1.length c0_1)∧w'.cell? ⟨gb101,2,none⟩=some (.slice A0_2 l0_2.length c0_2)) (ds:=[]) (bitsA 14 0) (by kernel_rfl) rfl rfl ⟨(qaC BK101.out 0).trans rfl,(qaC BK101.out 1).trans rfl,(qaC BK101.out 2).trans rfl⟩ (fun hHeld=>?_);refine qbN sawmilllaw50_BillTotals.tab6 sawmilllaw50_BillTotals.bits6 (fun HT_ HW_=>?_)
     generalize w68.drew=w69 at HO108 HO111 BK101 HB hHeld ⊢
     refine qaU (i:=0) (N:=some 48) (v:=?_) (a':=?_) #[true,false,false,false,false,false,false,false,false,false,false,false,false,false] rfl rfl (qaR HT_.out (by kernel_rfl)) (fun _ _ _ h=>h) (Or.inl ⟨by rfl,?_⟩) ?_ ?_
     rotate_left;(intro w';go_simp;with_reducible rfl);rotate_left;(simp only [Act.put,List.setIfInBounds_toArray,List.set_cons_zero,List.set_cons_succ,qaO,qaP];rfl)
     refine qaU (i:=2) (N:=some 50) (v:=?_) (a':=?_) #[true,false,true,false,false,false,false,false,false,false,false,false,false,false] rfl rfl (qaR HT_.out (by kernel_rfl)) (fun _ _ _ h=>h) (Or.inl ⟨by rfl,?_⟩) ?_ ?_
     rotate_left;(intro w';go_simp;with_reducible rfl);rotate_left;(simp only [Act.put,List.setIfInBounds_toArray,List.set_cons_zero,List.set_cons_succ,qaO,qaP];rfl)
     refine qaU (i:=5) (N:=some 53) (v:=?_) (a':=?_) #[true,false,true,false,false,true,false,false,false,false,false,false,false,false] rfl rfl (qaR HT_.out (by kernel_rfl)) (fun _ _ _ h=>h) (Or.inl ⟨by rfl,?_⟩) ?_ ?_
     rotate_left;(intro w';go_simp;with_reducible rfl);rotate_left;(simp only [Act.put,List.setIfInBounds_toArray,List.set_cons_zero,List.set_cons_succ,qaO,qaP];rfl)
     refine take_ (i:=1) (N:=some 49) (v:=?_) (a':=?_) (bitsA 14 39) rfl rfl (qaX HT_.out HW_.out (by kernel_rfl)) (fun _ _ _ h=>h) (Or.inl ⟨by rfl,?_⟩) hHeld ?_ ?_
     rotate_left;(rintro w' ⟨s0,s1,s2⟩;go_simp;with_reducible rfl);rotate_left;(simp only [Act.put,List.setIfInBounds_toArray,List.set_cons_zero,List.set_cons_succ,qaO,qaP];rfl)
     refine take_ (i:=3) (N:=some 51) (v:=?_) (a':=?_) (bitsA 14 47) rfl rfl (qaX HT_.out HW_.out (by kernel_rfl)) (fun _ _ _ h=>h) (Or.inl ⟨by rfl,?_⟩) hHeld ?_ ?_
     rotate_left;(rintro w' ⟨s0,s1,s2⟩;go_simp;with_reducible rfl);rotate_left;(simp only [Act.put,List.setIfInBounds_toArray,List.set_cons_zero,List.set_cons_succ,qaO,qaP];rfl)
     refine take_ (i:=6) (N:=some 54) (v:=?_) (a':=?_) (bitsA 14 111) rfl rfl (qaX HT_.out HW_.out (by kernel_rfl)) (fun _ _ _ h=>h) (Or.inl ⟨by rfl,?_⟩) hHeld ?_ ?_
     rotate_left;(rintro w' ⟨s0,s1,s2⟩;go_simp;with_reducible rfl);rotate_left;(simp only [Act.put,List.setIfInBounds_toArray,List.set_cons_zero,List.set_cons_succ,qaO,qaP];rfl)
     refine one_ (i:=4) (N:=some 52) (bitsA 14 127) rfl rfl (qbM HT_.out (by kernel_rfl)) (by decide) (fun K hK=>?_)
     refine goes_ Tryd.func20 (by kernel_rfl) rfl #[.slice A0_1 l0_1.length c0_1] (by rfl) rfl rfl (by (try simp only [List.map_toArray,List.map_cons,List.map_nil]);first|done|rfl|(simp only [List.length_drop,List.length_take];rfl)) ?_
     with_reducible refine (sawmilllaw50_items.calls k _ _ l0_1 t116 _ ?side1 ?side2 A9.out).mono ?_
     (case side1=>repeat (first|exact (Kd.C_below HR0_1.out HB.out)|(with_reducible refine Kd.C_alloc ?_ _)|(with_reducible refine Kd.C_drewN ?_ _)|(with_reducible refine Kd.C_drew ?_)))
     (case side2=>exact HC0_1.out)
     rintro e w70 ⟨v117,rfl,ho0,hb⟩
     refine ⟨_,rfl,?_⟩
     have n0_:=Aside0.mk (Kd.R_elder' (by (with_reducible repeat (first|apply Kd.R_alloc|apply Kd.R_drewN|apply Kd.R_drew));exact HO108.out) (Kd.R_base ho0) hb)
     have n1_:=Aside0.mk (Kd.R_below (by (with_reducible repeat (first|apply Kd.R_alloc|apply Kd.R_drewN|apply Kd.R_drew));exact HO111.out) hb)
     have n2_:=Aside0.mk (Kd.R_lower (Kd.R_new' ho0 (Kd.R_lt (by (with_reducible repeat (first|apply Kd.R_alloc|apply Kd.R_drewN|apply Kd.R_drew));exact HO108.out))) (qaN (by repeat (first|(with_reducible first|exact HB.out|apply qaD|apply qaB|apply qaE|refine qaG ?_ GE101.out)|exact HB.out))))
     have n3_:=Aside0.mk (qaQ (g:=gb101) (o:=.cells #[.slice A0_0 l0_0.length c0_0,.slice A0_1 l0_1.length c0_1,.slice A0_2 l0_2.length c0_2] 26 (0,0)) (by (with_reducible repeat (first|refine qaJ ?_ _|refine qaK ?_|refine qaI ?_ _));exact BK101.out) hb)
     have n4_:=Aside0.mk (qaH (by repeat (first|(with_reducible first|exact HB.out|apply qaD|apply qaB|apply qaE|refine qaG ?_ GE101.out)|exact HB.out)) hb)
     clear HO108
     clear HO111
     clear BK101
     clear HB
     have HO108:=n0_
     have HO111:=n1_
     have HO118:=n2_
     have BK101:=n3_
     have HB:=n4_
     clear n0_ n1_ n2_ n3_ n4_
     (try clear hb)
     (try clear hb2)
     (try clear hk)
     (try clear hi)
     (try clear ho0)
     refine hK.out _ _ ⟨(qaC BK101.out 0).trans rfl,(qaC BK101.out 1).trans rfl,(qaC BK101.out 2).trans rfl⟩ (fun hHeld=>?_)
     clear hK K
     refine norm_ (a':=?_) ?_ ?_
     rotate_left
     ·show Act.put _ (some 52) _=_
      simp only [Act.put,List.setIfInBounds_toArray,List.set_cons_zero,List.set_cons_succ,qaO,qaP]
      rfl
     refine one_ (i:=7) (N:=some 55) (bitsA 14 255) rfl rfl (qbM HT_.out (by kernel_rfl)) (by decide) (fun K hK=>?_)
     refine goes_ Tryd.func18 (by kernel_rfl) rfl #[.slice A0_2 l0_2.length c0_2] (by rfl) rfl rfl (by (try simp only [List.map_toArray,List.map_cons,List.map_nil]);first|done|rfl|(simp only [List.length_drop,List.length_take];rfl)) ?_
     with_reducible refine (sawmilllaw50_tiers.calls k _ _ l0_2 t119 _ ?side1 ?side2 A10.out).mono ?_
     (case side1=>repeat (first|exact (Kd.C_below HR0_2.out HB.out)|(with_reducible refine Kd.C_alloc ?_ _)|(with_reducible refine Kd.C_drewN ?_ _)|(with_reducible refine Kd.C_drew ?_)))
     (case side2=>exact HC0_2.out)
     rintro e w71 ⟨v120,rfl,ho0,hb⟩
     refine ⟨_,rfl,?_⟩
     have n0_:=Aside0.mk (Kd.R_below (by (with_reducible repeat (first|apply Kd.R_alloc|apply Kd.R_drewN|apply Kd.R_drew));exact HO108.out) hb)
     have n1_:=Aside0.mk (Kd.R_elder' (by (with_reducible repeat (first|apply Kd.R_alloc|apply Kd.R_drewN|apply Kd.R_drew));exact HO111.out) (Kd.R_base ho0) hb)
     have n2_:=Aside0.mk (Kd.R_below (by (with_reducible repeat (first|apply Kd.R_alloc|apply Kd.R_drewN|apply Kd.R_drew));exact HO118.out) hb)
     have n3_:=Aside0.mk (Kd.R_lower (Kd.R_new' ho0 (Kd.R_lt (by (with_reducible repeat (first|apply Kd.R_alloc|apply Kd.R_drewN|apply Kd.R_drew));exact HO111.out))) (qaN (by repeat (first|(with_reducible first|exact HB.out|apply qaD|apply qaB|apply qaE|refine qaG ?_ GE101.out)|exact HB.out))))
     have n4_:=Aside0.mk (qaQ (g:=gb101) (o:=.cells #[.slice A0_0 l0_0.length c0_0,.slice A0_1 l0_1.length c0_1,.slice A0_2 l0_2.length c0_2] 26 (0,0)) (by (with_reducible repeat (first|refine qaJ ?_ _|refine qaK ?_|refine qaI ?_ _));exact BK101.out) hb)
     have n5_:=Aside0.mk (qaH (by repeat (first|(with_reducible first|exact HB.out|apply qaD|apply qaB|apply qaE|refine qaG ?_ GE101.out)|exact HB.out)) hb)
     clear HO108
     clear HO111
     clear HO118
     clear BK101
     clear HB
     have HO108:=n0_
     have HO111:=n1_
     have HO118:=n2_
     have HO121:=n3_
     have BK101:=n4_
     have HB:=n5_
     clear n0_ n1_ n2_ n3_ n4_ n5_
     (try clear hb)
     (try clear hb2)
     (try clear hk)
     (try clear hi)
     (try clear ho0)
     obtain ⟨Ao72,co72,eo72⟩:=Kd.R_slice HO118.out
     (first|subst eo72|(injection eo72 with f1_ f2_ f3_;have f4_:=f1_.symm;have f5_:=f3_.symm;clear f1_ f2_ f3_;subst f4_;subst f5_))
     obtain ⟨Ao73,co73,eo73⟩:=Kd.R_slice HO121.out
     (first|subst eo73|(injection eo73 with f1_ f2_ f3_;have f4_:=f1_.symm;have f5_:=f3_.symm;clear f1_ f2_ f3_;subst f4_;subst f5_))
     refine hK.out _ _ ⟨(qaC BK101.out 0).trans rfl,(qaC BK101.out 1).trans rfl,(qaC BK101.out 2).trans rfl⟩ (fun hHeld=>?_)
     clear hK K
     refine norm_ (a':=?_) ?_ ?_
     rotate_left
     ·show Act.put _ (some 55) _=_
      simp only [Act.put,List.setIfInBounds_toArray,List.set_cons_zero,List.set_cons_succ,qaO,qaP]
      rfl
     refine one_ (i:=8) (N:=some 56) (bitsA 14 511) rfl rfl (qbM HT_.out (by kernel_rfl)) (by decide) (fun K hK=>?_)
     refine goes_ Tryd.func21 (by kernel_rfl) rfl #[.slice A0_0 l0_0.length c0_0,.slice Ao72 t116.length co72,.slice Ao73 t119.length co73] (by rfl) rfl rfl (by (try simp only [List.map_toArray,List.map_cons,List.map_nil]);first|done|rfl|(simp only [List.length_drop,List.length_take];rfl)) ?_
     with_reducible refine (sawmillref50_Text.calls k _ _ l0_0 _ _ t116 _ _ t119 t122 t123 _ ?side1 ?side2 ?side3 ?side4 ?side5 ?side6 A11.out).mono ?_
     (case side1=>repeat (first|exact (Kd.C_below HR0_0.out HB.out)|(with_reducible refine Kd.C_alloc ?_ _)|(with_reducible refine Kd.C_drewN ?_ _)|(with_reducible refine Kd.C_drew ?_)))
     (case side2=>exact HC0_0.out)
     (case side3=>repeat (first|exact (Kd.R_reads' HO118.out).2.2|(with_reducible refine Kd.C_alloc ?_ _)|(with_reducible refine Kd.C_drewN ?_ _)|(with_reducible refine Kd.C_drew ?_)))
     (case side4=>exact (Kd.R_reads' HO118.out).2.1)
     (case side5=>repeat (first|exact (Kd.R_reads' HO121.out).2.2|(with_reducible refine Kd.C_alloc ?_ _)|(with_reducible refine Kd.C_drewN ?_ _)|(with_reducible refine Kd.C_drew ?_)))
     (case side6=>exact (Kd.R_reads' HO121.out).2.1)
     rintro e w74 ⟨rfl,hb⟩
     refine ⟨_,rfl,?_⟩
     have n0_:=Aside0.mk (Kd.R_below (by (with_reducible repeat (first|apply Kd.R_alloc|apply Kd.R_drewN|apply Kd.R_drew));exact HO108.out) hb)
     have n1_:=Aside0.mk (Kd.R_below (by (with_reducible repeat (first|apply Kd.R_alloc|apply Kd.R_drewN|apply Kd.R_drew));exact HO111.out) hb)
     have n2_:=Aside0.mk (Kd.R_below (by (with_reducible repeat (first|apply Kd.R_alloc|apply Kd.R_drewN|apply Kd.R_drew));exact HO118.out) hb)
     have n3_:=Aside0.mk (Kd.R_below (by (with_reducible repeat (first|apply Kd.R_alloc|apply Kd.R_drewN|apply Kd.R_drew));exact HO121.out) hb)
     have n4_:=Aside0.mk (qaQ (g:=gb101) (o:=.cells #[.slice A0_0 l0_0.length c0_0,.slice A0_1 l0_1.length c0_1,.slice A0_2 l0_2.length c0_2] 26 (0,0)) (by (with_reducible repeat (first|refine qaJ ?_ _|refine qaK ?_|refine qaI ?_ _));exact BK101.out) hb)
     have n5_:=Aside0.mk (qaH (by repeat (first|(with_reducible first|exact HB.out|apply qaD|apply qaB|apply qaE|refine qaG ?_ GE101.out)|exact HB.out)) hb)
     clear HO108
     clear HO111
     clear HO118
     clear HO121
     clear BK101
     clear HB
     have HO108:=n0_
     have HO111:=n1_
     have HO118:=n2_
     have HO121:=n3_
     have BK101:=n4_
     have HB:=n5_
     clear n0_ n1_ n2_ n3_ n4_ n5_
     (try clear hb)
     (try clear hb2)
     (try clear hk)
     (try clear hi)
     refine hK.out _ _ ⟨(qaC BK101.out 0).trans rfl,(qaC BK101.out 1).trans rfl,(qaC BK101.out 2).trans rfl⟩ (fun hHeld=>?_)
     clear hK K
     refine norm_ (a':=?_) ?_ ?_
     rotate_left
     ·show Act.put _ (some 56) _=_
      simp only [Act.put,List.setIfInBounds_toArray,List.set_cons_zero,List.set_cons_succ,qaO,qaP]
      rfl
     refine qaU (i:=9) (N:=some 47) (v:=?_) (a':=?_) #[true,true,true,true,true,true,true,true,true,true,false,false,false,false] rfl rfl (qaR HT_.out (by kernel_rfl)) (fun _ _ _ h=>h) (Or.inl ⟨by rfl,?_⟩) ?_ ?_
     rotate_left;(intro w';go_simp;with_reducible rfl);rotate_left;(simp only [Act.put,List.setIfInBounds_toArray,List.set_cons_zero,List.set_cons_succ,qaO,qaP];rfl)
     refine qaU (i:=10) (N:=some 57) (v:=?_) (a':=?_) #[true,true,true,true,true,true,true,true,true,true,true,false,false,false] rfl rfl (qaR HT_.out (by kernel_rfl)) (fun _ _ _ h=>h) (Or.inl ⟨by rfl,?_⟩) ?_ ?_
     rotate_left;(intro w';go_simp;with_reducible rfl);rotate_left;(simp only [Act.put,List.setIfInBounds_toArray,List.set_cons_zero,List.set_cons_succ,qaO,qaP];rfl)
     refine qaU (i:=11) (N:=some 58) (v:=?_) (a':=?_) #[true,true,true,true,true,true,true,true,true,true,true,true,false,false] rfl rfl (qaR HT_.out (by kernel_rfl)) (fun _ _ _ h=>h) (Or.inl ⟨by rfl,?_⟩) ?_ ?_
     rotate_left;(intro w';go_simp;with_reducible rfl);rotate_left;(simp only [Act.put,List.setIfInBounds_toArray,List.set_cons_zero,List.set_cons_succ,qaO,qaP];rfl)
     refine qaU (i:=12) (N:=some 9) (v:=?_) (a':=?_) #[true,true,true,true,true,true,true,true,true,true,true,true,true,false] rfl rfl (qaR HT_.out (by kernel_rfl)) (fun _ _ _ h=>h) (Or.inl ⟨by rfl,?_⟩) ?_ ?_
     rotate_left;(intro w';go_simp;with_reducible rfl);rotate_left;(simp only [Act.put,List.setIfInBounds_toArray,List.set_cons_zero,List.set_cons_succ,qaO,qaP];rfl)
     refine qaU (i:=13) (N:=some 10) (v:=?_) (a':=?_) #[true,true,true,true,true,true,true,true,true,true,true,true,true,true] rfl rfl (qaR HT_.out (by kernel_rfl)) (fun _ _ _ h=>h) (Or.inl ⟨by rfl,?_⟩) ?_ ?_
     rotate_left;(intro w';go_simp;with_reducible rfl);rotate_left;(simp only [Act.put,List.setIfInBounds_toArray,List.set_cons_zero,List.set_cons_succ,qaO,qaP];rfl)
     refine done_ (done_of HT_.out (by kernel_rfl)) ?_
     try go_wp2
     go_ret
     exact ⟨by first|rfl|(simp [qaL,qaM]<;>rfl)|(simp [*,qaL,qaM]<;>rfl),by repeat (first|(with_reducible first|exact HB.out|apply qaD|apply qaB|apply qaE|refine qaG ?_ GE101.out)|exact HB.out)⟩
   ·rw [if_neg c13] at H
    have c13b0:(t105 == t113)=false:=beq_eq_false_iff_ne.mpr c13
    have c13b1:(t105 != t113)=true:=bne_iff_ne.mpr c13
    obtain rfl:=Option.some.inj H
    go_enter Tryd.func6,Tryd.ntmps6
    try go_wp2_with (first|((with_reducible refine qaV (N:=1) rfl ?_);refine qaT ?hg (N:=1) ?hd (cs:=#[.slice A0_0 l0_0.length c0_0,.slice A0_1 l0_1.length c0_1,.slice A0_2 l0_2.length c0_2]) (t:=26) ?hr ?_;(case hd=>rfl);(case hg=>rfl);(case hr=>first|(go_simp;done)|(go_simp;rfl));intro gb101 hg w75 hbox hb;have n0_:=Aside0.mk (qaH (by repeat (first|(with_reducible first|exact HB.out|apply qaD|apply qaB|apply qaE)|exact HB.out)) hb);have n1_:=Aside0.mk (hbox);have n2_:=Aside0.mk ((by rw [hg];exact (qaN (by repeat (first|(with_reducible first|exact HB.out|apply qaD|apply qaB|apply qaE)|exact HB.out))):w.heap.size≤gb101));have n3_:=Aside0.mk ((by rw [hg];exact (qaN (by repeat (first|(with_reducible first|exact HB.out|apply qaD|apply qaB|apply qaE)|exact HB.out))):w.heap.size≤gb101));clear HB;have HB:=n0_;have BK101:=n1_;have GW101:=n2_;have GE101:=n3_;clear n0_ n1_ n2_ n3_;clear hb hbox hg;have hcz76_0:w75.cell? ⟨gb101,0,none⟩=some (.slice A0_0 l0_0.length c0_0):=(qaC BK101.out 0).trans rfl;have hcz76_1:w75.cell? ⟨gb101,1,none⟩=some (.slice A0_1 l0_1.length c0_1):=(qaC BK101.out 1).trans rfl;have hcz76_2:w75.cell? ⟨gb101,2,none⟩=some (.slice A0_2 l0_2.length c0_2):=(qaC BK101.out 2).trans rfl;have hfz76_0:=qaA BK101.out 0;have hfz76_1:=qaA BK101.out 1;have hfz76_2:=qaA BK101.out 2)|((with_reducible refine qaS (f:=10) rfl ?_);refine qbE (some 12) rfl rfl Tryd.func10 (by kernel_rfl) rfl #[.agg #[.slice A0_0 l0_0.length c0_0,.slice A0_1 l0_1.length c0_1,.slice A0_2 l0_2.length c0_2]] rfl (by (try simp only [List.map_toArray,List.map_cons,List.map_nil]);first|done|rfl|(simp only [List.length_drop,List.length_take];rfl)) ?_;(with_reducible refine (sawmilllaw50_small.calls k _ _ l0_0 _ _ l0_1 _ _ l0_2 true _ ?side1 ?side2 ?side3 ?side4 ?side5 ?side6 A2.out).mono ?_);(case side1=>repeat (first|exact (Kd.C_below HR0_0.out HB.out)|(with_reducible refine Kd.C_alloc ?_ _)|(with_reducible refine Kd.C_drewN ?_ _)|(with_reducible refine Kd.C_drew ?_)));(case side2=>exact HC0_0.out);(case side3=>repeat (first|exact (Kd.C_below HR0_1.out HB.out)|(with_reducible refine Kd.C_alloc ?_ _)|(with_reducible refine Kd.C_drewN ?_ _)|(with_reducible refine Kd.C_drew ?_)));(case side4=>exact HC0_1.out);(case side5=>repeat (first|exact (Kd.C_below HR0_2.out HB.out)|(with_reducible refine Kd.C_alloc ?_ _)|(with_reducible refine Kd.C_drewN ?_ _)|(with_reducible refine Kd.C_drew ?_)));(case side6=>exact HC0_2.out);rintro e w77 ⟨rfl,hb⟩;refine ⟨_,rfl,?_⟩;have n0_:=Aside0.mk (qaQ (g:=gb101) (o:=.cells #[.slice A0_0 l0_0.length c0_0,.slice A0_1 l0_1.length c0_1,.slice A0_2 l0_2.length c0_2] 26 (0,0)) (by (with_reducible repeat (first|refine qaJ ?_ _|refine qaK ?_|refine qaI ?_ _));exact BK101.out) hb);have n1_:=Aside0.mk (qaH (by repeat (first|(with_reducible first|exact HB.out|apply qaD|apply qaB|apply qaE|refine qaG ?_ GE101.out)|exact HB.out)) hb);clear BK101;clear HB;have BK101:=n0_;have HB:=n1_;clear n0_ n1_;(try clear hb);(try clear hb2);(try clear hk);(try clear hi);have hcz78_0:w77.cell? ⟨gb101,0,none⟩=some (.slice A0_0 l0_0.length c0_0):=(qaC BK101.out 0).trans rfl;have hcz78_1:w77.cell? ⟨gb101,1,none⟩=some (.slice A0_1 l0_1.length c0_1):=(qaC BK101.out 1).trans rfl;have hcz78_2:w77.cell? ⟨gb101,2,none⟩=some (.slice A0_2 l0_2.length c0_2):=(qaC BK101.out 2).trans rfl;have hfz78_0:=qaA BK101.out 0;have hfz78_1:=qaA BK101.out 1;have hfz78_2:=qaA BK101.out 2)|((with_reducible refine qaS (f:=12) rfl ?_);refine qbE (some 22) rfl rfl Tryd.func12 (by kernel_rfl) rfl #[.slice A0_0 l0_0.length c0_0,.slice A0_1 l0_1.length c0_1,.slice A0_2 l0_2.length c0_2] rfl (by (try simp only [List.map_toArray,List.map_cons,List.map_nil]);first|done|rfl|(simp only [List.length_drop,List.length_take];rfl)) ?_;(with_reducible refine (bill_Total.calls k _ _ l0_0 _ _ l0_1 _ _ l0_2 t104 t105 _ ?side1 ?side2 ?side3 ?side4 ?side5 ?side6 A4.out).mono ?_);(case side1=>repeat (first|exact (Kd.C_below HR0_0.out HB.out)|(with_reducible refine Kd.C_alloc ?_ _)|(with_reducible refine Kd.C_drewN ?_ _)|(with_reducible refine Kd.C_drew ?_)));(case side2=>exact HC0_0.out);(case side3=>repeat (first|exact (Kd.C_below HR0_1.out HB.out)|(with_reducible refine Kd.C_alloc ?_ _)|(with_reducible refine Kd.C_drewN ?_ _)|(with_reducible refine Kd.C_drew ?_)));(case side4=>exact HC0_1.out);(case side5=>repeat (first|exact (Kd.C_below HR0_2.out HB.out)|(with_reducible refine Kd.C_alloc ?_ _)|(with_reducible refine Kd.C_drewN ?_ _)|(with_reducible refine Kd.C_drew ?_)));(case side6=>exact HC0_2.out);rintro e w79 ⟨rfl,hb⟩;refine ⟨_,rfl,?_⟩;have n0_:=Aside0.mk (qaQ (g:=gb101) (o:=.cells #[.slice A0_0 l0_0.length c0_0,.slice A0_1 l0_1.length c0_1,.slice A0_2 l0_2.length c0_2] 26 (0,0)) (by (with_reducible repeat (first|refine qaJ ?_ _|refine qaK ?_|refine qaI ?_ _));exact BK101.out) hb);have n1_:=Aside0.mk (qaH (by repeat (first|(with_reducible first|exact HB.out|apply qaD|apply qaB|apply qaE|refine qaG ?_ GE101.out)|exact HB.out)) hb);clear BK101;clear HB;have BK101:=n0_;have HB:=n1_;clear n0_ n1_;(try clear hb);(try clear hb2);(try clear hk);(try clear hi)))
    have n0_:=Aside0.mk (qaK BK101.out)
    have n1_:=Aside0.mk (qaE HB.out)
    clear BK101
    clear HB
    have BK101:=n0_
    have HB:=n1_
    clear n0_ n1_
    refine start_ (n:=14) (S:=fun w'=>w'.cell? ⟨gb101,0,none⟩=some (.slice A0_0 l0_0.length c0_0)∧w'.cell? ⟨gb101,1,none⟩=some (.slice A0_1 l0_1.length c0_1)∧w'.cell? ⟨gb101,2,none⟩=some (.slice A0_2 l0_2.length c0_2)) (ds:=[]) (bitsA 14 0) (by kernel_rfl) rfl rfl ⟨(qaC BK101.out 0).trans rfl,(qaC BK101.out 1).trans rfl,(qaC BK101.out 2).trans rfl⟩ (fun hHeld=>?_);refine qbN sawmilllaw50_BillTotals.tab4 sawmilllaw50_BillTotals.bits4 (fun HT_ HW_=>?_)
    generalize w79.drew=w80 at BK101 HB hHeld ⊢
    refine qaU (i:=0) (N:=some 26) (v:=?_) (a':=?_) #[true,false,false,false,false,false,false,false,false,false,false,false,false,false] rfl rfl (qaR HT_.out (by kernel_rfl)) (fun _ _ _ h=>h) (Or.inl ⟨by rfl,?_⟩) ?_ ?_
    rotate_left;(intro w';go_simp;with_reducible rfl);rotate_left;(simp only [Act.put,List.setIfInBounds_toArray,List.set_cons_zero,List.set_cons_succ,qaO,qaP];rfl)
    refine qaU (i:=2) (N:=some 28) (v:=?_) (a':=?_) #[true,false,true,false,false,false,false,false,false,false,false,false,false,false] rfl rfl (qaR HT_.out (by kernel_rfl)) (fun _ _ _ h=>h) (Or.inl ⟨by rfl,?_⟩) ?_ ?_
    rotate_left;(intro w';go_simp;with_reducible rfl);rotate_left;(simp only [Act.put,List.setIfInBounds_toArray,List.set_cons_zero,List.set_cons_succ,qaO,qaP];rfl)
    refine qaU (i:=5) (N:=some 31) (v:=?_) (a':=?_) #[true,false,true,false,false,true,false,false,false,false,false,false,false,false] rfl rfl (qaR HT_.out (by kernel_rfl)) (fun _ _ _ h=>h) (Or.inl ⟨by rfl,?_⟩) ?_ ?_
    rotate_left;(intro w';go_simp;with_reducible rfl);rotate_left;(simp only [Act.put,List.setIfInBounds_toArray,List.set_cons_zero,List.set_cons_succ,qaO,qaP];rfl)
    refine take_ (i:=1) (N:=some 27) (v:=?_) (a':=?_) (bitsA 14 39) rfl rfl (qaX HT_.out HW_.out (by kernel_rfl)) (fun _ _ _ h=>h) (Or.inl ⟨by rfl,?_⟩) hHeld ?_ ?_
    rotate_left;(rintro w' ⟨s0,s1,s2⟩;go_simp;with_reducible rfl);rotate_left;(simp only [Act.put,List.setIfInBounds_toArray,List.set_cons_zero,List.set_cons_succ,qaO,qaP];rfl)
    refine take_ (i:=3) (N:=some 29) (v:=?_) (a':=?_) (bitsA 14 47) rfl rfl (qaX HT_.out HW_.out (by kernel_rfl)) (fun _ _ _ h=>h) (Or.inl ⟨by rfl,?_⟩) hHeld ?_ ?_
    rotate_left;(rintro w' ⟨s0,s1,s2⟩;go_simp;with_reducible rfl);rotate_left;(simp only [Act.put,List.setIfInBounds_toArray,List.set_cons_zero,List.set_cons_succ,qaO,qaP];rfl)
    refine take_ (i:=6) (N:=some 32) (v:=?_) (a':=?_) (bitsA 14 111) rfl rfl (qaX HT_.out HW_.out (by kernel_rfl)) (fun _ _ _ h=>h) (Or.inl ⟨by rfl,?_⟩) hHeld ?_ ?_
    rotate_left;(rintro w' ⟨s0,s1,s2⟩;go_simp;with_reducible rfl);rotate_left;(simp only [Act.put,List.setIfInBounds_toArray,List.set_cons_zero,List.set_cons_succ,qaO,qaP];rfl)
    refine one_ (i:=4) (N:=some 30) (bitsA 14 127) rfl rfl (qbM HT_.out (by kernel_rfl)) (by decide) (fun K hK=>?_)
    refine goes_ Tryd.func20 (by kernel_rfl) rfl #[.slice A0_1 l0_1.length c0_1] (by rfl) rfl rfl (by (try simp only [List.map_toArray,List.map_cons,List.map_nil]);first|done|rfl|(simp only [List.length_drop,List.length_take];rfl)) ?_
    with_reducible refine (sawmilllaw50_items.calls k _ _ l0_1 t106 _ ?side1 ?side2 A5.out).mono ?_
    (case side1=>repeat (first|exact (Kd.C_below HR0_1.out HB.out)|(with_reducible refine Kd.C_alloc ?_ _)|(with_reducible refine Kd.C_drewN ?_ _)|(with_reducible refine Kd.C_drew ?_)))
    (case side2=>exact HC0_1.out)
    rintro e w81 ⟨v107,rfl,ho0,hb⟩
    refine ⟨_,rfl,?_⟩
    have n0_:=Aside0.mk (Kd.R_lower ho0 (qaN (by repeat (first|(with_reducible first|exact HB.out|apply qaD|apply qaB|apply qaE|refine qaG ?_ GE101.out)|exact HB.out))))
    have n1_:=Aside0.mk (qaQ (g:=gb101) (o:=.cells #[.slice A0_0 l0_0.length c0_0,.slice A0_1 l0_1.length c0_1,.slice A0_2 l0_2.length c0_2] 26 (0,0)) (by (with_reducible repeat (first|refine qaJ ?_ _|refine qaK ?_|refine qaI ?_ _));exact BK101.out) hb)
    have n2_:=Aside0.mk (qaH (by repeat (first|(with_reducible first|exact HB.out|apply qaD|apply qaB|apply qaE|refine qaG ?_ GE101.out)|exact HB.out)) hb)
    clear BK101
    clear HB
    have HO108:=n0_
    have BK101:=n1_
    have HB:=n2_
    clear n0_ n1_ n2_
    (try clear hb)
    (try clear hb2)
    (try clear hk)
    (try clear hi)
    (try clear ho0)
    refine hK.out _ _ ⟨(qaC BK101.out 0).trans rfl,(qaC BK101.out 1).trans rfl,(qaC BK101.out 2).trans rfl⟩ (fun hHeld=>?_)
    clear hK K
    refine norm_ (a':=?_) ?_ ?_
    rotate_left
    ·show Act.put _ (some 30) _=_
     simp only [Act.put,List.setIfInBounds_toArray,List.set_cons_zero,List.set_cons_succ,qaO,qaP]
     rfl
    refine one_ (i:=7) (N:=some 33) (bitsA 14 255) rfl rfl (qbM HT_.out (by kernel_rfl)) (by decide) (fun K hK=>?_)
    refine goes_ Tryd.func18 (by kernel_rfl) rfl #[.slice A0_2 l0_2.length c0_2] (by rfl) rfl rfl (by (try simp only [List.map_toArray,List.map_cons,List.map_nil]);first|done|rfl|(simp only [List.length_drop,List.length_take];rfl)) ?_
    with_reducible refine (sawmilllaw50_tiers.calls k _ _ l0_2 t109 _ ?side1 ?side2 A6.out).mono ?_
    (case side1=>repeat (first|exact (Kd.C_below HR0_2.out HB.out)|(with_reducible refine Kd.C_alloc ?_ _)|(with_reducible refine Kd.C_drewN ?_ _)|(with_reducible refine Kd.C_drew ?_)))
    (case side2=>exact HC0_2.out)
    rintro e w82 ⟨v110,rfl,ho0,hb⟩
    refine ⟨_,rfl,?_⟩
    have n0_:=Aside0.mk (Kd.R_below (by (with_reducible repeat (first|apply Kd.R_alloc|apply Kd.R_drewN|apply Kd.R_drew));exact HO108.out) hb)
    have n1_:=Aside0.mk (Kd.R_lower ho0 (qaN (by repeat (first|(with_reducible first|exact HB.out|apply qaD|apply qaB|apply qaE|refine qaG ?_ GE101.out)|exact HB.out))))
    have n2_:=Aside0.mk (qaQ (g:=gb101) (o:=.cells #[.slice A0_0 l0_0.length c0_0,.slice A0_1 l0_1.length c0_1,.slice A0_2 l0_2.length c0_2] 26 (0,0)) (by (with_reducible repeat (first|refine qaJ ?_ _|refine qaK ?_|refine qaI ?_ _));exact BK101.out) hb)
    have n3_:=Aside0.mk (qaH (by repeat (first|(with_reducible first|exact HB.out|apply qaD|apply qaB|apply qaE|refine qaG ?_ GE101.out)|exact HB.out)) hb)
    clear HO108
    clear BK101
    clear HB
    have HO108:=n0_
    have HO111:=n1_
    have BK101:=n2_
    have HB:=n3_
    clear n0_ n1_ n2_ n3_
    (try clear hb)
    (try clear hb2)
    (try clear hk)
    (try clear hi)
    (try clear ho0)
    obtain ⟨Ao83,co83,eo83⟩:=Kd.R_slice HO108.out
    (first|subst eo83|(injection eo83 with f1_ f2_ f3_;have f4_:=f1_.symm;have f5_:=f3_.symm;clear f1_ f2_ f3_;subst f4_;subst f5_))
    obtain ⟨Ao84,co84,eo84⟩:=Kd.R_slice HO111.out
    (first|subst eo84|(injection eo84 with f1_ f2_ f3_;have f4_:=f1_.symm;have f5_:=f3_.symm;clear f1_ f2_ f3_;subst f4_;subst f5_))
    refine hK.out _ _ ⟨(qaC BK101.out 0).trans rfl,(qaC BK101.out 1).trans rfl,(qaC BK101.out 2).trans rfl⟩ (fun hHeld=>?_)
    clear hK K
    refine norm_ (a':=?_) ?_ ?_
    rotate_left
    ·show Act.put _ (some 33) _=_
     simp only [Act.put,List.setIfInBounds_toArray,List.set_cons_zero,List.set_cons_succ,qaO,qaP]
     rfl
    refine one_ (i:=8) (N:=some 34) (bitsA 14 511) rfl rfl (qbM HT_.out (by kernel_rfl)) (by decide) (fun K hK=>?_)
    refine goes_ Tryd.func19 (by kernel_rfl) rfl #[.slice A0_0 l0_0.length c0_0,.slice Ao83 t106.length co83,.slice Ao84 t109.length co84] (by rfl) rfl rfl (by (try simp only [List.map_toArray,List.map_cons,List.map_nil]);first|done|rfl|(simp only [List.length_drop,List.length_take];rfl)) ?_
    with_reducible refine (sawmillref50_Total.calls k _ _ l0_0 _ _ t106 _ _ t109 t112 t113 _ ?side1 ?side2 ?side3 ?side4 ?side5 ?side6 A7.out).mono ?_
    (case side1=>repeat (first|exact (Kd.C_below HR0_0.out HB.out)|(with_reducible refine Kd.C_alloc ?_ _)|(with_reducible refine Kd.C_drewN ?_ _)|(with_reducible refine Kd.C_drew ?_)))
    (case side2=>exact HC0_0.out)
    (case side3=>repeat (first|exact (Kd.R_reads' HO108.out).2.2|(with_reducible refine Kd.C_alloc ?_ _)|(with_reducible refine Kd.C_drewN ?_ _)|(with_reducible refine Kd.C_drew ?_)))
    (case side4=>exact (Kd.R_reads' HO108.out).2.1)
    (case side5=>repeat (first|exact (Kd.R_reads' HO111.out).2.2|(with_reducible refine Kd.C_alloc ?_ _)|(with_reducible refine Kd.C_drewN ?_ _)|(with_reducible refine Kd.C_drew ?_)))
    (case side6=>exact (Kd.R_reads' HO111.out).2.1)
    rintro e w85 ⟨rfl,hb⟩
    refine ⟨_,rfl,?_⟩
    have n0_:=Aside0.mk (Kd.R_below (by (with_reducible repeat (first|apply Kd.R_alloc|apply Kd.R_drewN|apply Kd.R_drew));exact HO108.out) hb)
    have n1_:=Aside0.mk (Kd.R_below (by (with_reducible repeat (first|apply Kd.R_alloc|apply Kd.R_drewN|apply Kd.R_drew));exact HO111.out) hb)
    have n2_:=Aside0.mk (qaQ (g:=gb101) (o:=.cells #[.slice A0_0 l0_0.length c0_0,.slice A0_1 l0_1.length c0_1,.slice A0_2 l0_2.length c0_2] 26 (0,0)) (by (with_reducible repeat (first|refine qaJ ?_ _|refine qaK ?_|refine qaI ?_ _));exact BK101.out) hb)
    have n3_:=Aside0.mk (qaH (by repeat (first|(with_reducible first|exact HB.out|apply qaD|apply qaB|apply qaE|refine qaG ?_ GE101.out)|exact HB.out)) hb)
    clear HO108
    clear HO111
    clear BK101
    clear HB
    have HO108:=n0_
    have HO111:=n1_
    have BK101:=n2_
    have HB:=n3_
    clear n0_ n1_ n2_ n3_
    (try clear hb)
    (try clear hb2)
    (try clear hk)
    (try clear hi)
    refine hK.out _ _ ⟨(qaC BK101.out 0).trans rfl,(qaC BK101.out 1).trans rfl,(qaC BK101.out 2).trans rfl⟩ (fun hHeld=>?_)
    clear hK K
    refine norm_ (a':=?_) ?_ ?_
    rotate_left
    ·show Act.put _ (some 34) _=_
     simp only [Act.put,List.setIfInBounds_toArray,List.set_cons_zero,List.set_cons_succ,qaO,qaP]
     rfl
    refine qaU (i:=9) (N:=some 25) (v:=?_) (a':=?_) #[true,true,true,true,true,true,true,true,true,true,false,false,false,false] rfl rfl (qaR HT_.out (by kernel_rfl)) (fun _ _ _ h=>h) (Or.inl ⟨by rfl,?_⟩) ?_ ?_
    rotate_left;(intro w';go_simp;with_reducible rfl);rotate_left;(simp only [Act.put,List.setIfInBounds_toArray,List.set_cons_zero,List.set_cons_succ,qaO,qaP];rfl)
    refine qaU (i:=10) (N:=some 35) (v:=?_) (a':=?_) #[true,true,true,true,true,true,true,true,true,true,true,false,false,false] rfl rfl (qaR HT_.out (by kernel_rfl)) (fun _ _ _ h=>h) (Or.inl ⟨by rfl,?_⟩) ?_ ?_
    rotate_left;(intro w';go_simp;with_reducible rfl);rotate_left;(simp only [Act.put,List.setIfInBounds_toArray,List.set_cons_zero,List.set_cons_succ,qaO,qaP];rfl)
    refine qaU (i:=11) (N:=some 36) (v:=?_) (a':=?_) #[true,true,true,true,true,true,true,true,true,true,true,true,false,false] rfl rfl (qaR HT_.out (by kernel_rfl)) (fun _ _ _ h=>h) (Or.inl ⟨by rfl,?_⟩) ?_ ?_
    rotate_left;(intro w';go_simp;with_reducible rfl);rotate_left;(simp only [Act.put,List.setIfInBounds_toArray,List.set_cons_zero,List.set_cons_succ,qaO,qaP];rfl)
    refine qaU (i:=12) (N:=some 5) (v:=?_) (a':=?_) #[true,true,true,true,true,true,true,true,true,true,true,true,true,false] rfl rfl (qaR HT_.out (by kernel_rfl)) (fun _ _ _ h=>h) (Or.inl ⟨by rfl,?_⟩) ?_ ?_
    rotate_left;(intro w';go_simp;with_reducible rfl);rotate_left;(simp only [Act.put,List.setIfInBounds_toArray,List.set_cons_zero,List.set_cons_succ,qaO,qaP];rfl)
    refine qaU (i:=13) (N:=some 6) (v:=?_) (a':=?_) #[true,true,true,true,true,true,true,true,true,true,true,true,true,true] rfl rfl (qaR HT_.out (by kernel_rfl)) (fun _ _ _ h=>h) (Or.inl ⟨by rfl,?_⟩) ?_ ?_
    rotate_left;(intro w';go_simp;with_reducible rfl);rotate_left;(simp only [Act.put,List.setIfInBounds_toArray,List.set_cons_zero,List.set_cons_succ,qaO,qaP];rfl)
    refine done_ (done_of HT_.out (by kernel_rfl)) ?_
    have hcz86_0:w85.cell? ⟨gb101,0,none⟩=some (.slice A0_0 l0_0.length c0_0):=(qaC BK101.out 0).trans rfl
    have hcz86_1:w85.cell? ⟨gb101,1,none⟩=some (.slice A0_1 l0_1.length c0_1):=(qaC BK101.out 1).trans rfl
    have hcz86_2:w85.cell? ⟨gb101,2,none⟩=some (.slice A0_2 l0_2.length c0_2):=(qaC BK101.out 2).trans rfl
    have hfz86_0:=qaA BK101.out 0
    have hfz86_1:=qaA BK101.out 1
    have hfz86_2:=qaA BK101.out 2
    try go_wp2_with (first|((with_reducible refine qaS (f:=13) rfl ?_);refine qbE (some 44) rfl rfl Tryd.func13 (by kernel_rfl) rfl #[.slice A0_0 l0_0.length c0_0,.slice A0_1 l0_1.length c0_1,.slice A0_2 l0_2.length c0_2] rfl (by (try simp only [List.map_toArray,List.map_cons,List.map_nil]);first|done|rfl|(simp only [List.length_drop,List.length_take];rfl)) ?_;(with_reducible refine (bill_Text.calls k _ _ l0_0 _ _ l0_1 _ _ l0_2 t114 t115 _ ?side1 ?side2 ?side3 ?side4 ?side5 ?side6 A8.out (glob_at HG_ (by repeat (first|(with_reducible first|exact HB.out|apply qaD|apply qaB|apply qaE|refine qaG ?_ (Aside0.out (by assumption)))|exact HB.out)))).mono ?_);(case side1=>repeat (first|exact (Kd.C_below HR0_0.out HB.out)|(with_reducible refine Kd.C_alloc ?_ _)|(with_reducible refine Kd.C_drewN ?_ _)|(with_reducible refine Kd.C_drew ?_)));(case side2=>exact HC0_0.out);(case side3=>repeat (first|exact (Kd.C_below HR0_1.out HB.out)|(with_reducible refine Kd.C_alloc ?_ _)|(with_reducible refine Kd.C_drewN ?_ _)|(with_reducible refine Kd.C_drew ?_)));(case side4=>exact HC0_1.out);(case side5=>repeat (first|exact (Kd.C_below HR0_2.out HB.out)|(with_reducible refine Kd.C_alloc ?_ _)|(with_reducible refine Kd.C_drewN ?_ _)|(with_reducible refine Kd.C_drew ?_)));(case side6=>exact HC0_2.out);rintro e w87 ⟨rfl,hb⟩;refine ⟨_,rfl,?_⟩;have n0_:=Aside0.mk (Kd.R_below (by (with_reducible repeat (first|apply Kd.R_alloc|apply Kd.R_drewN|apply Kd.R_drew));exact HO108.out) hb);have n1_:=Aside0.mk (Kd.R_below (by (with_reducible repeat (first|apply Kd.R_alloc|apply Kd.R_drewN|apply Kd.R_drew));exact HO111.out) hb);have n2_:=Aside0.mk (qaQ (g:=gb101) (o:=.cells #[.slice A0_0 l0_0.length c0_0,.slice A0_1 l0_1.length c0_1,.slice A0_2 l0_2.length c0_2] 26 (0,0)) (by (with_reducible repeat (first|refine qaJ ?_ _|refine qaK ?_|refine qaI ?_ _));exact BK101.out) hb);have n3_:=Aside0.mk (qaH (by repeat (first|(with_reducible first|exact HB.out|apply qaD|apply qaB|apply qaE|refine qaG ?_ GE101.out)|exact HB.out)) hb);clear HO108;clear HO111;clear BK101;clear HB;have HO108:=n0_;have HO111:=n1_;have BK101:=n2_;have HB:=n3_;clear n0_ n1_ n2_ n3_;(try clear hb);(try clear hb2);(try clear hk);(try clear hi)))
    have n0_:=Aside0.mk (Kd.R_drew HO108.out)
    have n1_:=Aside0.mk (Kd.R_drew HO111.out)
    have n2_:=Aside0.mk (qaK BK101.out)
    have n3_:=Aside0.mk (qaE HB.out)
    clear HO108
    clear HO111
    clear BK101
    clear HB
    have HO108:=n0_
    have HO111:=n1_
    have BK101:=n2_
    have HB:=n3_
    clear n0_ n1_ n2_ n3_
    refine start_ (n:=14) (S:=fun w'=>w'.cell? ⟨gb101,0,none⟩=some (.slice A0_0 l0_0.length c0_0)∧w'.cell? ⟨gb101,1,none⟩=some (.slice A0_1 l0_1.length c0_1)∧w'.cell? ⟨gb101,2,none⟩=some (.slice A0_2 l0_2.length c0_2)) (ds:=[]) (bitsA 14 0) (by kernel_rfl) rfl rfl ⟨(qaC BK101.out 0).trans rfl,(qaC BK101.out 1).trans rfl,(qaC BK101.out 2).trans rfl⟩ (fun hHeld=>?_);refine qbN sawmilllaw50_BillTotals.tab6 sawmilllaw50_BillTotals.bits6 (fun HT_ HW_=>?_)
    generalize w87.drew=w88 at HO108 HO111 BK101 HB hHeld ⊢
    refine qaU (i:=0) (N:=some 48) (v:=?_) (a':=?_) #[true,false,false,false,false,false,false,false,false,false,false,false,false,false] rfl rfl (qaR HT_.out (by kernel_rfl)) (fun _ _ _ h=>h) (Or.inl ⟨by rfl,?_⟩) ?_ ?_
    rotate_left;(intro w';go_simp;with_reducible rfl);rotate_left;(simp only [Act.put,List.setIfInBounds_toArray,List.set_cons_zero,List.set_cons_succ,qaO,qaP];rfl)
    refine qaU (i:=2) (N:=some 50) (v:=?_) (a':=?_) #[true,false,true,false,false,false,false,false,false,false,false,false,false,false] rfl rfl (qaR HT_.out (by kernel_rfl)) (fun _ _ _ h=>h) (Or.inl ⟨by rfl,?_⟩) ?_ ?_
    rotate_left;(intro w';go_simp;with_reducible rfl);rotate_left;(simp only [Act.put,List.setIfInBounds_toArray,List.set_cons_zero,List.set_cons_succ,qaO,qaP];rfl)
    refine qaU (i:=5) (N:=some 53) (v:=?_) (a':=?_) #[true,false,true,false,false,true,false,false,false,false,false,false,false,false] rfl rfl (qaR HT_.out (by kernel_rfl)) (fun _ _ _ h=>h) (Or.inl ⟨by rfl,?_⟩) ?_ ?_
    rotate_left;(intro w';go_simp;with_reducible rfl);rotate_left;(simp only [Act.put,List.setIfInBounds_toArray,List.set_cons_zero,List.set_cons_succ,qaO,qaP];rfl)
    refine take_ (i:=1) (N:=some 49) (v:=?_) (a':=?_) (bitsA 14 39) rfl rfl (qaX HT_.out HW_.out (by kernel_rfl)) (fun _ _ _ h=>h) (Or.inl ⟨by rfl,?_⟩) hHeld ?_ ?_
    rotate_left;(rintro w' ⟨s0,s1,s2⟩;go_simp;with_reducible rfl);rotate_left;(simp only [Act.put,List.setIfInBounds_toArray,List.set_cons_zero,List.set_cons_succ,qaO,qaP];rfl)
    refine take_ (i:=3) (N:=some 51) (v:=?_) (a':=?_) (bitsA 14 47) rfl rfl (qaX HT_.out HW_.out (by kernel_rfl)) (fun _ _ _ h=>h) (Or.inl ⟨by rfl,?_⟩) hHeld ?_ ?_
    rotate_left;(rintro w' ⟨s0,s1,s2⟩;go_simp;with_reducible rfl);rotate_left;(simp only [Act.put,List.setIfInBounds_toArray,List.set_cons_zero,List.set_cons_succ,qaO,qaP];rfl)
    refine take_ (i:=6) (N:=some 54) (v:=?_) (a':=?_) (bitsA 14 111) rfl rfl (qaX HT_.out HW_.out (by kernel_rfl)) (fun _ _ _ h=>h) (Or.inl ⟨by rfl,?_⟩) hHeld ?_ ?_
    rotate_left;(rintro w' ⟨s0,s1,s2⟩;go_simp;with_reducible rfl);rotate_left;(simp only [Act.put,List.setIfInBounds_toArray,List.set_cons_zero,List.set_cons_succ,qaO,qaP];rfl)
    refine one_ (i:=4) (N:=some 52) (bitsA 14 127) rfl rfl (qbM HT_.out (by kernel_rfl)) (by decide) (fun K hK=>?_)
    refine goes_ Tryd.func20 (by kernel_rfl) rfl #[.slice A0_1 l0_1.length c0_1] (by rfl) rfl rfl (by (try simp only [List.map_toArray,List.map_cons,List.map_nil]);first|done|rfl|(simp only [List.length_drop,List.length_take];rfl)) ?_
    with_reducible refine (sawmilllaw50_items.calls k _ _ l0_1 t116 _ ?side1 ?side2 A9.out).mono ?_
    (case side1=>repeat (first|exact (Kd.C_below HR0_1.out HB.out)|(with_reducible refine Kd.C_alloc ?_ _)|(with_reducible refine Kd.C_drewN ?_ _)|(with_reducible refine Kd.C_drew ?_)))
    (case side2=>exact HC0_1.out)
    rintro e w89 ⟨v117,rfl,ho0,hb⟩
    refine ⟨_,rfl,?_⟩
    have n0_:=Aside0.mk (Kd.R_elder' (by (with_reducible repeat (first|apply Kd.R_alloc|apply Kd.R_drewN|apply Kd.R_drew));exact HO108.out) (Kd.R_base ho0) hb)
    have n1_:=Aside0.mk (Kd.R_below (by (with_reducible repeat (first|apply Kd.R_alloc|apply Kd.R_drewN|apply Kd.R_drew));exact HO111.out) hb)
    have n2_:=Aside0.mk (Kd.R_lower (Kd.R_new' ho0 (Kd.R_lt (by (with_reducible repeat (first|apply Kd.R_alloc|apply Kd.R_drewN|apply Kd.R_drew));exact HO108.out))) (qaN (by repeat (first|(with_reducible first|exact HB.out|apply qaD|apply qaB|apply qaE|refine qaG ?_ GE101.out)|exact HB.out))))
    have n3_:=Aside0.mk (qaQ (g:=gb101) (o:=.cells #[.slice A0_0 l0_0.length c0_0,.slice A0_1 l0_1.length c0_1,.slice A0_2 l0_2.length c0_2] 26 (0,0)) (by (with_reducible repeat (first|refine qaJ ?_ _|refine qaK ?_|refine qaI ?_ _));exact BK101.out) hb)
    have n4_:=Aside0.mk (qaH (by repeat (first|(with_reducible first|exact HB.out|apply qaD|apply qaB|apply qaE|refine qaG ?_ GE101.out)|exact HB.out)) hb)
    clear HO108
    clear HO111
    clear BK101
    clear HB
    have HO108:=n0_
    have HO111:=n1_
    have HO118:=n2_
    have BK101:=n3_
    have HB:=n4_
    clear n0_ n1_ n2_ n3_ n4_
    (try clear hb)
    (try clear hb2)
    (try clear hk)
    (try clear hi)
    (try clear ho0)
    refine hK.out _ _ ⟨(qaC BK101.out 0).trans rfl,(qaC BK101.out 1).trans rfl,(qaC BK101.out 2).trans rfl⟩ (fun hHeld=>?_)
    clear hK K
    refine norm_ (a':=?_) ?_ ?_
    rotate_left
    ·show Act.put _ (some 52) _=_
     simp only [Act.put,List.setIfInBounds_toArray,List.set_cons_zero,List.set_cons_succ,qaO,qaP]
     rfl
    refine one_ (i:=7) (N:=some 55) (bitsA 14 255) rfl rfl (qbM HT_.out (by kernel_rfl)) (by decide) (fun K hK=>?_)
    refine goes_ Tryd.func18 (by kernel_rfl) rfl #[.slice A0_2 l0_2.length c0_2] (by rfl) rfl rfl (by (try simp only [List.map_toArray,List.map_cons,List.map_nil]);first|done|rfl|(simp only [List.length_drop,List.length_take];rfl)) ?_
    with_reducible refine (sawmilllaw50_tiers.calls k _ _ l0_2 t119 _ ?side1 ?side2 A10.out).mono ?_
    (case side1=>repeat (first|exact (Kd.C_below HR0_2.out HB.out)|(with_reducible refine Kd.C_alloc ?_ _)|(with_reducible refine Kd.C_drewN ?_ _)|(with_reducible refine Kd.C_drew ?_)))
    (case side2=>exact HC0_2.out)
    rintro e w90 ⟨v120,rfl,ho0,hb⟩
    refine ⟨_,rfl,?_⟩
    have n0_:=Aside0.mk (Kd.R_below (by (with_reducible repeat (first|apply Kd.R_alloc|apply Kd.R_drewN|apply Kd.R_drew));exact HO108.out) hb)
    have n1_:=Aside0.mk (Kd.R_elder' (by (with_reducible repeat (first|apply Kd.R_alloc|apply Kd.R_drewN|apply Kd.R_drew));exact HO111.out) (Kd.R_base ho0) hb)
    have n2_:=Aside0.mk (Kd.R_below (by (with_reducible repeat (first|apply Kd.R_alloc|apply Kd.R_drewN|apply Kd.R_drew));exact HO118.out) hb)
    have n3_:=Aside0.mk (Kd.R_lower (Kd.R_new' ho0 (Kd.R_lt (by (with_reducible repeat (first|apply Kd.R_alloc|apply Kd.R_drewN|apply Kd.R_drew));exact HO111.out))) (qaN (by repeat (first|(with_reducible first|exact HB.out|apply qaD|apply qaB|apply qaE|refine qaG ?_ GE101.out)|exact HB.out))))
    have n4_:=Aside0.mk (qaQ (g:=gb101) (o:=.cells #[.slice A0_0 l0_0.length c0_0,.slice A0_1 l0_1.length c0_1,.slice A0_2 l0_2.length c0_2] 26 (0,0)) (by (with_reducible repeat (first|refine qaJ ?_ _|refine qaK ?_|refine qaI ?_ _));exact BK101.out) hb)
    have n5_:=Aside0.mk (qaH (by repeat (first|(with_reducible first|exact HB.out|apply qaD|apply qaB|apply qaE|refine qaG ?_ GE101.out)|exact HB.out)) hb)
    clear HO108
    clear HO111
    clear HO118
    clear BK101
    clear HB
    have HO108:=n0_
    have HO111:=n1_
    have HO118:=n2_
    have HO121:=n3_
    have BK101:=n4_
    have HB:=n5_
    clear n0_ n1_ n2_ n3_ n4_ n5_
    (try clear hb)
    (try clear hb2)
    (try clear hk)
    (try clear hi)
    (try clear ho0)
    obtain ⟨Ao91,co91,eo91⟩:=Kd.R_slice HO118.out
    (first|subst eo91|(injection eo91 with f1_ f2_ f3_;have f4_:=f1_.symm;have f5_:=f3_.symm;clear f1_ f2_ f3_;subst f4_;subst f5_))
    obtain ⟨Ao92,co92,eo92⟩:=Kd.R_slice HO121.out
    (first|subst eo92|(injection eo92 with f1_ f2_ f3_;have f4_:=f1_.symm;have f5_:=f3_.symm;clear f1_ f2_ f3_;subst f4_;subst f5_))
    refine hK.out _ _ ⟨(qaC BK101.out 0).trans rfl,(qaC BK101.out 1).trans rfl,(qaC BK101.out 2).trans rfl⟩ (fun hHeld=>?_)
    clear hK K
    refine norm_ (a':=?_) ?_ ?_
    rotate_left
    ·show Act.put _ (some 55) _=_
     simp only [Act.put,List.setIfInBounds_toArray,List.set_cons_zero,List.set_cons_succ,qaO,qaP]
     rfl
    refine one_ (i:=8) (N:=some 56) (bitsA 14 511) rfl rfl (qbM HT_.out (by kernel_rfl)) (by decide) (fun K hK=>?_)
    refine goes_ Tryd.func21 (by kernel_rfl) rfl #[.slice A0_0 l0_0.length c0_0,.slice Ao91 t116.length co91,.slice Ao92 t119.length co92] (by rfl) rfl rfl (by (try simp only [List.map_toArray,List.map_cons,List.map_nil]);first|done|rfl|(simp only [List.length_drop,List.length_take];rfl)) ?_
    with_reducible refine (sawmillref50_Text.calls k _ _ l0_0 _ _ t116 _ _ t119 t122 t123 _ ?side1 ?side2 ?side3 ?side4 ?side5 ?side6 A11.out).mono ?_
    (case side1=>repeat (first|exact (Kd.C_below HR0_0.out HB.out)|(with_reducible refine Kd.C_alloc ?_ _)|(with_reducible refine Kd.C_drewN ?_ _)|(with_reducible refine Kd.C_drew ?_)))
    (case side2=>exact HC0_0.out)
    (case side3=>repeat (first|exact (Kd.R_reads' HO118.out).2.2|(with_reducible refine Kd.C_alloc ?_ _)|(with_reducible refine Kd.C_drewN ?_ _)|(with_reducible refine Kd.C_drew ?_)))
    (case side4=>exact (Kd.R_reads' HO118.out).2.1)
    (case side5=>repeat (first|exact (Kd.R_reads' HO121.out).2.2|(with_reducible refine Kd.C_alloc ?_ _)|(with_reducible refine Kd.C_drewN ?_ _)|(with_reducible refine Kd.C_drew ?_)))
    (case side6=>exact (Kd.R_reads' HO121.out).2.1)
    rintro e w93 ⟨rfl,hb⟩
    refine ⟨_,rfl,?_⟩
    have n0_:=Aside0.mk (Kd.R_below (by (with_reducible repeat (first|apply Kd.R_alloc|apply Kd.R_drewN|apply Kd.R_drew));exact HO108.out) hb)
    have n1_:=Aside0.mk (Kd.R_below (by (with_reducible repeat (first|apply Kd.R_alloc|apply Kd.R_drewN|apply Kd.R_drew));exact HO111.out) hb)
    have n2_:=Aside0.mk (Kd.R_below (by (with_reducible repeat (first|apply Kd.R_alloc|apply Kd.R_drewN|apply Kd.R_drew));exact HO118.out) hb)
    have n3_:=Aside0.mk (Kd.R_below (by (with_reducible repeat (first|apply Kd.R_alloc|apply Kd.R_drewN|apply Kd.R_drew));exact HO121.out) hb)
    have n4_:=Aside0.mk (qaQ (g:=gb101) (o:=.cells #[.slice A0_0 l0_0.length c0_0,.slice A0_1 l0_1.length c0_1,.slice A0_2 l0_2.length c0_2] 26 (0,0)) (by (with_reducible repeat (first|refine qaJ ?_ _|refine qaK ?_|refine qaI ?_ _));exact BK101.out) hb)
    have n5_:=Aside0.mk (qaH (by repeat (first|(with_reducible first|exact HB.out|apply qaD|apply qaB|apply qaE|refine qaG ?_ GE101.out)|exact HB.out)) hb)
    clear HO108
    clear HO111
    clear HO118
    clear HO121
    clear BK101
    clear HB
    have HO108:=n0_
    have HO111:=n1_
    have HO118:=n2_
    have HO121:=n3_
    have BK101:=n4_
    have HB:=n5_
    clear n0_ n1_ n2_ n3_ n4_ n5_
    (try clear hb)
    (try clear hb2)
    (try clear hk)
    (try clear hi)
    refine hK.out _ _ ⟨(qaC BK101.out 0).trans rfl,(qaC BK101.out 1).trans rfl,(qaC BK101.out 2).trans rfl⟩ (fun hHeld=>?_)
    clear hK K
    refine norm_ (a':=?_) ?_ ?_
    rotate_left
    ·show Act.put _ (some 56) _=_
     simp only [Act.put,List.setIfInBounds_toArray,List.set_cons_zero,List.set_cons_succ,qaO,qaP]
     rfl
    refine qaU (i:=9) (N:=some 47) (v:=?_) (a':=?_) #[true,true,true,true,true,true,true,true,true,true,false,false,false,false] rfl rfl (qaR HT_.out (by kernel_rfl)) (fun _ _ _ h=>h) (Or.inl ⟨by rfl,?_⟩) ?_ ?_
    rotate_left;(intro w';go_simp;with_reducible rfl);rotate_left;(simp only [Act.put,List.setIfInBounds_toArray,List.set_cons_zero,List.set_cons_succ,qaO,qaP];rfl)
    refine qaU (i:=10) (N:=some 57) (v:=?_) (a':=?_) #[true,true,true,true,true,true,true,true,true,true,true,false,false,false] rfl rfl (qaR HT_.out (by kernel_rfl)) (fun _ _ _ h=>h) (Or.inl ⟨by rfl,?_⟩) ?_ ?_
    rotate_left;(intro w';go_simp;with_reducible rfl);rotate_left;(simp only [Act.put,List.setIfInBounds_toArray,List.set_cons_zero,List.set_cons_succ,qaO,qaP];rfl)
    refine qaU (i:=11) (N:=some 58) (v:=?_) (a':=?_) #[true,true,true,true,true,true,true,true,true,true,true,true,false,false] rfl rfl (qaR HT_.out (by kernel_rfl)) (fun _ _ _ h=>h) (Or.inl ⟨by rfl,?_⟩) ?_ ?_
    rotate_left;(intro w';go_simp;with_reducible rfl);rotate_left;(simp only [Act.put,List.setIfInBounds_toArray,List.set_cons_zero,List.set_cons_succ,qaO,qaP];rfl)
    refine qaU (i:=12) (N:=some 9) (v:=?_) (a':=?_) #[true,true,true,true,true,true,true,true,true,true,true,true,true,false] rfl rfl (qaR HT_.out (by kernel_rfl)) (fun _ _ _ h=>h) (Or.inl ⟨by rfl,?_⟩) ?_ ?_
    rotate_left;(intro w';go_simp;with_reducible rfl);rotate_left;(simp only [Act.put,List.setIfInBounds_toArray,List.set_cons_zero,List.set_cons_succ,qaO,qaP];rfl)
    refine qaU (i:=13) (N:=some 10) (v:=?_) (a':=?_) #[true,true,true,true,true,true,true,true,true,true,true,true,true,true] rfl rfl (qaR HT_.out (by kernel_rfl)) (fun _ _ _ h=>h) (Or.inl ⟨by rfl,?_⟩) ?_ ?_
    rotate_left;(intro w';go_simp;with_reducible rfl);rotate_left;(simp only [Act.put,List.setIfInBounds_toArray,List.set_cons_zero,List.set_cons_succ,qaO,qaP];rfl)
    refine done_ (done_of HT_.out (by kernel_rfl)) ?_
    try go_wp2
    go_ret
    exact ⟨by first|rfl|(simp [qaL,qaM]<;>rfl)|(simp [*,qaL,qaM]<;>rfl),by repeat (first|(with_reducible first|exact HB.out|apply qaD|apply qaB|apply qaE|refine qaG ?_ GE101.out)|exact HB.out)⟩
  ·rw [if_neg c12] at H
   have c12b0:(t104 == t112)=false:=beq_eq_false_iff_ne.mpr c12
   have c12b1:(t104 != t112)=true:=bne_iff_ne.mpr c12
   obtain rfl:=Option.some.inj H
   go_enter Tryd.func6,Tryd.ntmps6
   try go_wp2_with (first|((with_reducible refine qaV (N:=1) rfl ?_);refine qaT ?hg (N:=1) ?hd (cs:=#[.slice A0_0 l0_0.length c0_0,.slice A0_1 l0_1.length c0_1,.slice A0_2 l0_2.length c0_2]) (t:=26) ?hr ?_;(case hd=>rfl);(case hg=>rfl);(case hr=>first|(go_simp;done)|(go_simp;rfl));intro gb101 hg w94 hbox hb;have n0_:=Aside0.mk (qaH (by repeat (first|(with_reducible first|exact HB.out|apply qaD|apply qaB|apply qaE)|exact HB.out)) hb);have n1_:=Aside0.mk (hbox);have n2_:=Aside0.mk ((by rw [hg];exact (qaN (by repeat (first|(with_reducible first|exact HB.out|apply qaD|apply qaB|apply qaE)|exact HB.out))):w.heap.size≤gb101));have n3_:=Aside0.mk ((by rw [hg];exact (qaN (by repeat (first|(with_reducible first|exact HB.out|apply qaD|apply qaB|apply qaE)|exact HB.out))):w.heap.size≤gb101));clear HB;have HB:=n0_;have BK101:=n1_;have GW101:=n2_;have GE101:=n3_;clear n0_ n1_ n2_ n3_;clear hb hbox hg;have hcz95_0:w94.cell? ⟨gb101,0,none⟩=some (.slice A0_0 l0_0.length c0_0):=(qaC BK101.out 0).trans rfl;have hcz95_1:w94.cell? ⟨gb101,1,none⟩=some (.slice A0_1 l0_1.length c0_1):=(qaC BK101.out 1).trans rfl;have hcz95_2:w94.cell? ⟨gb101,2,none⟩=some (.slice A0_2 l0_2.length c0_2):=(qaC BK101.out 2).trans rfl;have hfz95_0:=qaA BK101.out 0;have hfz95_1:=qaA BK101.out 1;have hfz95_2:=qaA BK101.out 2)|((with_reducible refine qaS (f:=10) rfl ?_);refine qbE (some 12) rfl rfl Tryd.func10 (by kernel_rfl) rfl #[.agg #[.slice A0_0 l0_0.length c0_0,.slice A0_1 l0_1.length c0_1,.slice A0_2 l0_2.length c0_2]] rfl (by (try simp only [List.map_toArray,List.map_cons,List.map_nil]);first|done|rfl|(simp only [List.length_drop,List.length_take];rfl)) ?_;(with_reducible refine (sawmilllaw50_small.calls k _ _ l0_0 _ _ l0_1 _ _ l0_2 true _ ?side1 ?side2 ?side3 ?side4 ?side5 ?side6 A2.out).mono ?_);(case side1=>repeat (first|exact (Kd.C_below HR0_0.out HB.out)|(with_reducible refine Kd.C_alloc ?_ _)|(with_reducible refine Kd.C_drewN ?_ _)|(with_reducible refine Kd.C_drew ?_)));(case side2=>exact HC0_0.out);(case side3=>repeat (first|exact (Kd.C_below HR0_1.out HB.out)|(with_reducible refine Kd.C_alloc ?_ _)|(with_reducible refine Kd.C_drewN ?_ _)|(with_reducible refine Kd.C_drew ?_)));(case side4=>exact HC0_1.out);(case side5=>repeat (first|exact (Kd.C_below HR0_2.out HB.out)|(with_reducible refine Kd.C_alloc ?_ _)|(with_reducible refine Kd.C_drewN ?_ _)|(with_reducible refine Kd.C_drew ?_)));(case side6=>exact HC0_2.out);rintro e w96 ⟨rfl,hb⟩;refine ⟨_,rfl,?_⟩;have n0_:=Aside0.mk (qaQ (g:=gb101) (o:=.cells #[.slice A0_0 l0_0.length c0_0,.slice A0_1 l0_1.length c0_1,.slice A0_2 l0_2.length c0_2] 26 (0,0)) (by (with_reducible repeat (first|refine qaJ ?_ _|refine qaK ?_|refine qaI ?_ _));exact BK101.out) hb);have n1_:=Aside0.mk (qaH (by repeat (first|(with_reducible first|exact HB.out|apply qaD|apply qaB|apply qaE|refine qaG ?_ GE101.out)|exact HB.out)) hb);clear BK101;clear HB;have BK101:=n0_;have HB:=n1_;clear n0_ n1_;(try clear hb);(try clear hb2);(try clear hk);(try clear hi);have hcz97_0:w96.cell? ⟨gb101,0,none⟩=some (.slice A0_0 l0_0.length c0_0):=(qaC BK101.out 0).trans rfl;have hcz97_1:w96.cell? ⟨gb101,1,none⟩=some (.slice A0_1 l0_1.length c0_1):=(qaC BK101.out 1).trans rfl;have hcz97_2:w96.cell? ⟨gb101,2,none⟩=some (.slice A0_2 l0_2.length c0_2):=(qaC BK101.out 2).trans rfl;have hfz97_0:=qaA BK101.out 0;have hfz97_1:=qaA BK101.out 1;have hfz97_2:=qaA BK101.out 2)|((with_reducible refine qaS (f:=12) rfl ?_);refine qbE (some 22) rfl rfl Tryd.func12 (by kernel_rfl) rfl #[.slice A0_0 l0_0.length c0_0,.slice A0_1 l0_1.length c0_1,.slice A0_2 l0_2.length c0_2] rfl (by (try simp only [List.map_toArray,List.map_cons,List.map_nil]);first|done|rfl|(simp only [List.length_drop,List.length_take];rfl)) ?_;(with_reducible refine (bill_Total.calls k _ _ l0_0 _ _ l0_1 _ _ l0_2 t104 t105 _ ?side1 ?side2 ?side3 ?side4 ?side5 ?side6 A4.out).mono ?_);(case side1=>repeat (first|exact (Kd.C_below HR0_0.out HB.out)|(with_reducible refine Kd.C_alloc ?_ _)|(with_reducible refine Kd.C_drewN ?_ _)|(with_reducible refine Kd.C_drew ?_)));(case side2=>exact HC0_0.out);(case side3=>repeat (first|exact (Kd.C_below HR0_1.out HB.out)|(with_reducible refine Kd.C_alloc ?_ _)|(with_reducible refine Kd.C_drewN ?_ _)|(with_reducible refine Kd.C_drew ?_)));(case side4=>exact HC0_1.out);(case side5=>repeat (first|exact (Kd.C_below HR0_2.out HB.out)|(with_reducible refine Kd.C_alloc ?_ _)|(with_reducible refine Kd.C_drewN ?_ _)|(with_reducible refine Kd.C_drew ?_)));(case side6=>exact HC0_2.out);rintro e w98 ⟨rfl,hb⟩;refine ⟨_,rfl,?_⟩;have n0_:=Aside0.mk (qaQ (g:=gb101) (o:=.cells #[.slice A0_0 l0_0.length c0_0,.slice A0_1 l0_1.length c0_1,.slice A0_2 l0_2.length c0_2] 26 (0,0)) (by (with_reducible repeat (first|refine qaJ ?_ _|refine qaK ?_|refine qaI ?_ _));exact BK101.out) hb);have n1_:=Aside0.mk (qaH (by repeat (first|(with_reducible first|exact HB.out|apply qaD|apply qaB|apply qaE|refine qaG ?_ GE101.out)|exact HB.out)) hb);clear BK101;clear HB;have BK101:=n0_;have HB:=n1_;clear n0_ n1_;(try clear hb);(try clear hb2);(try clear hk);(try clear hi)))
   have n0_:=Aside0.mk (qaK BK101.out)
   have n1_:=Aside0.mk (qaE HB.out)
   clear BK101
   clear HB
   have BK101:=n0_
   have HB:=n1_
   clear n0_ n1_
   refine start_ (n:=14) (S:=fun w'=>w'.cell? ⟨gb101,0,none⟩=some (.slice A0_0 l0_0.length c0_0)∧w'.cell? ⟨gb101,1,none⟩=some (.slice A0_1 l0_1.length c0_1)∧w'.cell? ⟨gb101,2,none⟩=some (.slice A0_2 l0_2.length c0_2)) (ds:=[]) (bitsA 14 0) (by kernel_rfl) rfl rfl ⟨(qaC BK101.out 0).trans rfl,(qaC BK101.out 1).trans rfl,(qaC BK101.out 2).trans rfl⟩ (fun hHeld=>?_);refine qbN sawmilllaw50_BillTotals.tab4 sawmilllaw50_BillTotals.bits4 (fun HT_ HW_=>?_)
   generalize w98.drew=w99 at BK101 HB hHeld ⊢
   refine qaU (i:=0) (N:=some 26) (v:=?_) (a':=?_) #[true,false,false,false,false,false,false,false,false,false,false,false,false,false] rfl rfl (qaR HT_.out (by kernel_rfl)) (fun _ _ _ h=>h) (Or.inl ⟨by rfl,?_⟩) ?_ ?_
   rotate_left;(intro w';go_simp;with_reducible rfl);rotate_left;(simp only [Act.put,List.setIfInBounds_toArray,List.set_cons_zero,List.set_cons_succ,qaO,qaP];rfl)
   refine qaU (i:=2) (N:=some 28) (v:=?_) (a':=?_) #[true,false,true,false,false,false,false,false,false,false,false,false,false,false] rfl rfl (qaR HT_.out (by kernel_rfl)) (fun _ _ _ h=>h) (Or.inl ⟨by rfl,?_⟩) ?_ ?_
   rotate_left;(intro w';go_simp;with_reducible rfl);rotate_left;(simp only [Act.put,List.setIfInBounds_toArray,List.set_cons_zero,List.set_cons_succ,qaO,qaP];rfl)
   refine qaU (i:=5) (N:=some 31) (v:=?_) (a':=?_) #[true,false,true,false,false,true,false,false,false,false,false,false,false,false] rfl rfl (qaR HT_.out (by kernel_rfl)) (fun _ _ _ h=>h) (Or.inl ⟨by rfl,?_⟩) ?_ ?_
   rotate_left;(intro w';go_simp;with_reducible rfl);rotate_left;(simp only [Act.put,List.setIfInBounds_toArray,List.set_cons_zero,List.set_cons_succ,qaO,qaP];rfl)
   refine take_ (i:=1) (N:=some 27) (v:=?_) (a':=?_) (bitsA 14 39) rfl rfl (qaX HT_.out HW_.out (by kernel_rfl)) (fun _ _ _ h=>h) (Or.inl ⟨by rfl,?_⟩) hHeld ?_ ?_
   rotate_left;(rintro w' ⟨s0,s1,s2⟩;go_simp;with_reducible rfl);rotate_left;(simp only [Act.put,List.setIfInBounds_toArray,List.set_cons_zero,List.set_cons_succ,qaO,qaP];rfl)
   refine take_ (i:=3) (N:=some 29) (v:=?_) (a':=?_) (bitsA 14 47) rfl rfl (qaX HT_.out HW_.out (by kernel_rfl)) (fun _ _ _ h=>h) (Or.inl ⟨by rfl,?_⟩) hHeld ?_ ?_
   rotate_left;(rintro w' ⟨s0,s1,s2⟩;go_simp;with_reducible rfl);rotate_left;(simp only [Act.put,List.setIfInBounds_toArray,List.set_cons_zero,List.set_cons_succ,qaO,qaP];rfl)
   refine take_ (i:=6) (N:=some 32) (v:=?_) (a':=?_) (bitsA 14 111) rfl rfl (qaX HT_.out HW_.out (by kernel_rfl)) (fun _ _ _ h=>h) (Or.inl ⟨by rfl,?_⟩) hHeld ?_ ?_
   rotate_left;(rintro w' ⟨s0,s1,s2⟩;go_simp;with_reducible rfl);rotate_left;(simp only [Act.put,List.setIfInBounds_toArray,List.set_cons_zero,List.set_cons_succ,qaO,qaP];rfl)
   refine one_ (i:=4) (N:=some 30) (bitsA 14 127) rfl rfl (qbM HT_.out (by kernel_rfl)) (by decide) (fun K hK=>?_)
   refine goes_ Tryd.func20 (by kernel_rfl) rfl #[.slice A0_1 l0_1.length c0_1] (by rfl) rfl rfl (by (try simp only [List.map_toArray,List.map_cons,List.map_nil]);first|done|rfl|(simp only [List.length_drop,List.length_take];rfl)) ?_
   with_reducible refine (sawmilllaw50_items.calls k _ _ l0_1 t106 _ ?side1 ?side2 A5.out).mono ?_
   (case side1=>repeat (first|exact (Kd.C_below HR0_1.out HB.out)|(with_reducible refine Kd.C_alloc ?_ _)|(with_reducible refine Kd.C_drewN ?_ _)|(with_reducible refine Kd.C_drew ?_)))
   (case side2=>exact HC0_1.out)
   rintro e w100 ⟨v107,rfl,ho0,hb⟩
   refine ⟨_,rfl,?_⟩
   have n0_:=Aside0.mk (Kd.R_lower ho0 (qaN (by repeat (first|(with_reducible first|exact HB.out|apply qaD|apply qaB|apply qaE|refine qaG ?_ GE101.out)|exact HB.out))))
   have n1_:=Aside0.mk (qaQ (g:=gb101) (o:=.cells #[.slice A0_0 l0_0.length c0_0,.slice A0_1 l0_1.length c0_1,.slice A0_2 l0_2.length c0_2] 26 (0,0)) (by (with_reducible repeat (first|refine qaJ ?_ _|refine qaK ?_|refine qaI ?_ _));exact BK101.out) hb)
   have n2_:=Aside0.mk (qaH (by repeat (first|(with_reducible first|exact HB.out|apply qaD|apply qaB|apply qaE|refine qaG ?_ GE101.out)|exact HB.out)) hb)
   clear BK101
   clear HB
   have HO108:=n0_
   have BK101:=n1_
   have HB:=n2_
   clear n0_ n1_ n2_
   (try clear hb)
   (try clear hb2)
   (try clear hk)
   (try clear hi)
   (try clear ho0)
   refine hK.out _ _ ⟨(qaC BK101.out 0).trans rfl,(qaC BK101.out 1).trans rfl,(qaC BK101.out 2).trans rfl⟩ (fun hHeld=>?_)
   clear hK K
   refine norm_ (a':=?_) ?_ ?_
   rotate_left
   ·show Act.put _ (some 30) _=_
    simp only [Act.put,List.setIfInBounds_toArray,List.set_cons_zero,List.set_cons_succ,qaO,qaP]
    rfl
   refine one_ (i:=7) (N:=some 33) (bitsA 14 255) rfl rfl (qbM HT_.out (by kernel_rfl)) (by decide) (fun K hK=>?_)
   refine goes_ Tryd.func18 (by kernel_rfl) rfl #[.slice A0_2 l0_2.length c0_2] (by rfl) rfl rfl (by (try simp only [List.map_toArray,List.map_cons,List.map_nil]);first|done|rfl|(simp only [List.length_drop,List.length_take];rfl)) ?_
   with_reducible refine (sawmilllaw50_tiers.calls k _ _ l0_2 t109 _ ?side1 ?side2 A6.out).mono ?_
   (case side1=>repeat (first|exact (Kd.C_below HR0_2.out HB.out)|(with_reducible refine Kd.C_alloc ?_ _)|(with_reducible refine Kd.C_drewN ?_ _)|(with_reducible refine Kd.C_drew ?_)))
   (case side2=>exact HC0_2.out)
   rintro e w101 ⟨v110,rfl,ho0,hb⟩
   refine ⟨_,rfl,?_⟩
   have n0_:=Aside0.mk (Kd.R_below (by (with_reducible repeat (first|apply Kd.R_alloc|apply Kd.R_drewN|apply Kd.R_drew));exact HO108.out) hb)
   have n1_:=Aside0.mk (Kd.R_lower ho0 (qaN (by repeat (first|(with_reducible first|exact HB.out|apply qaD|apply qaB|apply qaE|refine qaG ?_ GE101.out)|exact HB.out))))
   have n2_:=Aside0.mk (qaQ (g:=gb101) (o:=.cells #[.slice A0_0 l0_0.length c0_0,.slice A0_1 l0_1.length c0_1,.slice A0_2 l0_2.length c0_2] 26 (0,0)) (by (with_reducible repeat (first|refine qaJ ?_ _|refine qaK ?_|refine qaI ?_ _));exact BK101.out) hb)
   have n3_:=Aside0.mk (qaH (by repeat (first|(with_reducible first|exact HB.out|apply qaD|apply qaB|apply qaE|refine qaG ?_ GE101.out)|exact HB.out)) hb)
   clear HO108
   clear BK101
   clear HB
   have HO108:=n0_
   have HO111:=n1_
   have BK101:=n2_
   have HB:=n3_
   clear n0_ n1_ n2_ n3_
   (try clear hb)
   (try clear hb2)
   (try clear hk)
   (try clear hi)
   (try clear ho0)
   obtain ⟨Ao102,co102,eo102⟩:=Kd.R_slice HO108.out
   (first|subst eo102|(injection eo102 with f1_ f2_ f3_;have f4_:=f1_.symm;have f5_:=f3_.symm;clear f1_ f2_ f3_;subst f4_;subst f5_))
   obtain ⟨Ao103,co103,eo103⟩:=Kd.R_slice HO111.out
   (first|subst eo103|(injection eo103 with f1_ f2_ f3_;have f4_:=f1_.symm;have f5_:=f3_.symm;clear f1_ f2_ f3_;subst f4_;subst f5_))
   refine hK.out _ _ ⟨(qaC BK101.out 0).trans rfl,(qaC BK101.out 1).trans rfl,(qaC BK101.out 2).trans rfl⟩ (fun hHeld=>?_)
   clear hK K
   refine norm_ (a':=?_) ?_ ?_
   rotate_left
   ·show Act.put _ (some 33) _=_
    simp only [Act.put,List.setIfInBounds_toArray,List.set_cons_zero,List.set_cons_succ,qaO,qaP]
    rfl
   refine one_ (i:=8) (N:=some 34) (bitsA 14 511) rfl rfl (qbM HT_.out (by kernel_rfl)) (by decide) (fun K hK=>?_)
   refine goes_ Tryd.func19 (by kernel_rfl) rfl #[.slice A0_0 l0_0.length c0_0,.slice Ao102 t106.length co102,.slice Ao103 t109.length co103] (by rfl) rfl rfl (by (try simp only [List.map_toArray,List.map_cons,List.map_nil]);first|done|rfl|(simp only [List.length_drop,List.length_take];rfl)) ?_
   with_reducible refine (sawmillref50_Total.calls k _ _ l0_0 _ _ t106 _ _ t109 t112 t113 _ ?side1 ?side2 ?side3 ?side4 ?side5 ?side6 A7.out).mono ?_
   (case side1=>repeat (first|exact (Kd.C_below HR0_0.out HB.out)|(with_reducible refine Kd.C_alloc ?_ _)|(with_reducible refine Kd.C_drewN ?_ _)|(with_reducible refine Kd.C_drew ?_)))
   (case side2=>exact HC0_0.out)
   (case side3=>repeat (first|exact (Kd.R_reads' HO108.out).2.2|(with_reducible refine Kd.C_alloc ?_ _)|(with_reducible refine Kd.C_drewN ?_ _)|(with_reducible refine Kd.C_drew ?_)))
   (case side4=>exact (Kd.R_reads' HO108.out).2.1)
   (case side5=>repeat (first|exact (Kd.R_reads' HO111.out).2.2|(with_reducible refine Kd.C_alloc ?_ _)|(with_reducible refine Kd.C_drewN ?_ _)|(with_reducible refine Kd.C_drew ?_)))
   (case side6=>exact (Kd.R_reads' HO111.out).2.1)
   rintro e w104 ⟨rfl,hb⟩
   refine ⟨_,rfl,?_⟩
   have n0_:=Aside0.mk (Kd.R_below (by (with_reducible repeat (first|apply Kd.R_alloc|apply Kd.R_drewN|apply Kd.R_drew));exact HO108.out) hb)
   have n1_:=Aside0.mk (Kd.R_below (by (with_reducible repeat (first|apply Kd.R_alloc|apply Kd.R_drewN|apply Kd.R_drew));exact HO111.out) hb)
   have n2_:=Aside0.mk (qaQ (g:=gb101) (o:=.cells #[.slice A0_0 l0_0.length c0_0,.slice A0_1 l0_1.length c0_1,.slice A0_2 l0_2.length c0_2] 26 (0,0)) (by (with_reducible repeat (first|refine qaJ ?_ _|refine qaK ?_|refine qaI ?_ _));exact BK101.out) hb)
   have n3_:=Aside0.mk (qaH (by repeat (first|(with_reducible first|exact HB.out|apply qaD|apply qaB|apply qaE|refine qaG ?_ GE101.out)|exact HB.out)) hb)
   clear HO108
   clear HO111
   clear BK101
   clear HB
   have HO108:=n0_
   have HO111:=n1_
   have BK101:=n2_
   have HB:=n3_
   clear n0_ n1_ n2_ n3_
   (try clear hb)
   (try clear hb2)
   (try clear hk)
   (try clear hi)
   refine hK.out _ _ ⟨(qaC BK101.out 0).trans rfl,(qaC BK101.out 1).trans rfl,(qaC BK101.out 2).trans rfl⟩ (fun hHeld=>?_)
   clear hK K
   refine norm_ (a':=?_) ?_ ?_
   rotate_left
   ·show Act.put _ (some 34) _=_
    simp only [Act.put,List.setIfInBounds_toArray,List.set_cons_zero,List.set_cons_succ,qaO,qaP]
    rfl
   refine qaU (i:=9) (N:=some 25) (v:=?_) (a':=?_) #[true,true,true,true,true,true,true,true,true,true,false,false,false,false] rfl rfl (qaR HT_.out (by kernel_rfl)) (fun _ _ _ h=>h) (Or.inl ⟨by rfl,?_⟩) ?_ ?_
   rotate_left;(intro w';go_simp;with_reducible rfl);rotate_left;(simp only [Act.put,List.setIfInBounds_toArray,List.set_cons_zero,List.set_cons_succ,qaO,qaP];rfl)
   refine qaU (i:=10) (N:=some 35) (v:=?_) (a':=?_) #[true,true,true,true,true,true,true,true,true,true,true,false,false,false] rfl rfl (qaR HT_.out (by kernel_rfl)) (fun _ _ _ h=>h) (Or.inl ⟨by rfl,?_⟩) ?_ ?_
   rotate_left;(intro w';go_simp;with_reducible rfl);rotate_left;(simp only [Act.put,List.setIfInBounds_toArray,List.set_cons_zero,List.set_cons_succ,qaO,qaP];rfl)
   refine qaU (i:=11) (N:=some 36) (v:=?_) (a':=?_) #[true,true,true,true,true,true,true,true,true,true,true,true,false,false] rfl rfl (qaR HT_.out (by kernel_rfl)) (fun _ _ _ h=>h) (Or.inl ⟨by rfl,?_⟩) ?_ ?_
   rotate_left;(intro w';go_simp;with_reducible rfl);rotate_left;(simp only [Act.put,List.setIfInBounds_toArray,List.set_cons_zero,List.set_cons_succ,qaO,qaP];rfl)
   refine qaU (i:=12) (N:=some 5) (v:=?_) (a':=?_) #[true,true,true,true,true,true,true,true,true,true,true,true,true,false] rfl rfl (qaR HT_.out (by kernel_rfl)) (fun _ _ _ h=>h) (Or.inl ⟨by rfl,?_⟩) ?_ ?_
   rotate_left;(intro w';go_simp;with_reducible rfl);rotate_left;(simp only [Act.put,List.setIfInBounds_toArray,List.set_cons_zero,List.set_cons_succ,qaO,qaP];rfl)
   refine qaU (i:=13) (N:=some 6) (v:=?_) (a':=?_) #[true,true,true,true,true,true,true,true,true,true,true,true,true,true] rfl rfl (qaR HT_.out (by kernel_rfl)) (fun _ _ _ h=>h) (Or.inl ⟨by rfl,?_⟩) ?_ ?_
   rotate_left;(intro w';go_simp;with_reducible rfl);rotate_left;(simp only [Act.put,List.setIfInBounds_toArray,List.set_cons_zero,List.set_cons_succ,qaO,qaP];rfl)
   refine done_ (done_of HT_.out (by kernel_rfl)) ?_
   have hcz105_0:w104.cell? ⟨gb101,0,none⟩=some (.slice A0_0 l0_0.length c0_0):=(qaC BK101.out 0).trans rfl
   have hcz105_1:w104.cell? ⟨gb101,1,none⟩=some (.slice A0_1 l0_1.length c0_1):=(qaC BK101.out 1).trans rfl
   have hcz105_2:w104.cell? ⟨gb101,2,none⟩=some (.slice A0_2 l0_2.length c0_2):=(qaC BK101.out 2).trans rfl
   have hfz105_0:=qaA BK101.out 0
   have hfz105_1:=qaA BK101.out 1
   have hfz105_2:=qaA BK101.out 2
   try go_wp2_with (first|((with_reducible refine qaS (f:=13) rfl ?_);refine qbE (some 44) rfl rfl Tryd.func13 (by kernel_rfl) rfl #[.slice A0_0 l0_0.length c0_0,.slice A0_1 l0_1.length c0_1,.slice A0_2 l0_2.length c0_2] rfl (by (try simp only [List.map_toArray,List.map_cons,List.map_nil]);first|done|rfl|(simp only [List.length_drop,List.length_take];rfl)) ?_;(with_reducible refine (bill_Text.calls k _ _ l0_0 _ _ l0_1 _ _ l0_2 t114 t115 _ ?side1 ?side2 ?side3 ?side4 ?side5 ?side6 A8.out (glob_at HG_ (by repeat (first|(with_reducible first|exact HB.out|apply qaD|apply qaB|apply qaE|refine qaG ?_ (Aside0.out (by assumption)))|exact HB.out)))).mono ?_);(case side1=>repeat (first|exact (Kd.C_below HR0_0.out HB.out)|(with_reducible refine Kd.C_alloc ?_ _)|(with_reducible refine Kd.C_drewN ?_ _)|(with_reducible refine Kd.C_drew ?_)));(case side2=>exact HC0_0.out);(case side3=>repeat (first|exact (Kd.C_below HR0_1.out HB.out)|(with_reducible refine Kd.C_alloc ?_ _)|(with_reducible refine Kd.C_drewN ?_ _)|(with_reducible refine Kd.C_drew ?_)));(case side4=>exact HC0_1.out);(case side5=>repeat (first|exact (Kd.C_below HR0_2.out HB.out)|(with_reducible refine Kd.C_alloc ?_ _)|(with_reducible refine Kd.C_drewN ?_ _)|(with_reducible refine Kd.C_drew ?_)));(case side6=>exact HC0_2.out);rintro e w106 ⟨rfl,hb⟩;refine ⟨_,rfl,?_⟩;have n0_:=Aside0.mk (Kd.R_below (by (with_reducible repeat (first|apply Kd.R_alloc|apply Kd.R_drewN|apply Kd.R_drew));exact HO108.out) hb);have n1_:=Aside0.mk (Kd.R_below (by (with_reducible repeat (first|apply Kd.R_alloc|apply Kd.R_drewN|apply Kd.R_drew));exact HO111.out) hb);have n2_:=Aside0.mk (qaQ (g:=gb101) (o:=.cells #[.slice A0_0 l0_0.length c0_0,.slice A0_1 l0_1.length c0_1,.slice A0_2 l0_2.length c0_2] 26 (0,0)) (by (with_reducible repeat (first|refine qaJ ?_ _|refine qaK ?_|refine qaI ?_ _));exact BK101.out) hb);have n3_:=Aside0.mk (qaH (by repeat (first|(with_reducible first|exact HB.out|apply qaD|apply qaB|apply qaE|refine qaG ?_ GE101.out)|exact HB.out)) hb);clear HO108;clear HO111;clear BK101;clear HB;have HO108:=n0_;have HO111:=n1_;have BK101:=n2_;have HB:=n3_;clear n0_ n1_ n2_ n3_;(try clear hb);(try clear hb2);(try clear hk);(try clear hi)))
   have n0_:=Aside0.mk (Kd.R_drew HO108.out)
   have n1_:=Aside0.mk (Kd.R_drew HO111.out)
   have n2_:=Aside0.mk (qaK BK101.out)
   have n3_:=Aside0.mk (qaE HB.out)
   clear HO108
   clear HO111
   clear BK101
   clear HB
   have HO108:=n0_
   have HO111:=n1_
   have BK101:=n2_
   have HB:=n3_
   clear n0_ n1_ n2_ n3_
   refine start_ (n:=14) (S:=fun w'=>w'.cell? ⟨gb101,0,none⟩=some (.slice A0_0 l0_0.length c0_0)∧w'.cell? ⟨gb101,1,none⟩=some (.slice A0_1 l0_1.length c0_1)∧w'.cell? ⟨gb101,2,none⟩=some (.slice A0_2 l0_2.length c0_2)) (ds:=[]) (bitsA 14 0) (by kernel_rfl) rfl rfl ⟨(qaC BK101.out 0).trans rfl,(qaC BK101.out 1).trans rfl,(qaC BK101.out 2).trans rfl⟩ (fun hHeld=>?_);refine qbN sawmilllaw50_BillTotals.tab6 sawmilllaw50_BillTotals.bits6 (fun HT_ HW_=>?_)
   generalize w106.drew=w107 at HO108 HO111 BK101 HB hHeld ⊢
   refine qaU (i:=0) (N:=some 48) (v:=?_) (a':=?_) #[true,false,false,false,false,false,false,false,false,false,false,false,false,false] rfl rfl (qaR HT_.out (by kernel_rfl)) (fun _ _ _ h=>h) (Or.inl ⟨by rfl,?_⟩) ?_ ?_
   rotate_left;(intro w';go_simp;with_reducible rfl);rotate_left;(simp only [Act.put,List.setIfInBounds_toArray,List.set_cons_zero,List.set_cons_succ,qaO,qaP];rfl)
   refine qaU (i:=2) (N:=some 50) (v:=?_) (a':=?_) #[true,false,true,false,false,false,false,false,false,false,false,false,false,false] rfl rfl (qaR HT_.out (by kernel_rfl)) (fun _ _ _ h=>h) (Or.inl ⟨by rfl,?_⟩) ?_ ?_
   rotate_left;(intro w';go_simp;with_reducible rfl);rotate_left;(simp only [Act.put,List.setIfInBounds_toArray,List.set_cons_zero,List.set_cons_succ,qaO,qaP];rfl)
   refine qaU (i:=5) (N:=some 53) (v:=?_) (a':=?_) #[true,false,true,false,false,true,false,false,false,false,false,false,false,false] rfl rfl (qaR HT_.out (by kernel_rfl)) (fun _ _ _ h=>h) (Or.inl ⟨by rfl,?_⟩) ?_ ?_
   rotate_left;(intro w';go_simp;with_reducible rfl);rotate_left;(simp only [Act.put,List.setIfInBounds_toArray,List.set_cons_zero,List.set_cons_succ,qaO,qaP];rfl)
   refine take_ (i:=1) (N:=some 49) (v:=?_) (a':=?_) (bitsA 14 39) rfl rfl (qaX HT_.out HW_.out (by kernel_rfl)) (fun _ _ _ h=>h) (Or.inl ⟨by rfl,?_⟩) hHeld ?_ ?_
   rotate_left;(rintro w' ⟨s0,s1,s2⟩;go_simp;with_reducible rfl);rotate_left;(simp only [Act.put,List.setIfInBounds_toArray,List.set_cons_zero,List.set_cons_succ,qaO,qaP];rfl)
   refine take_ (i:=3) (N:=some 51) (v:=?_) (a':=?_) (bitsA 14 47) rfl rfl (qaX HT_.out HW_.out (by kernel_rfl)) (fun _ _ _ h=>h) (Or.inl ⟨by rfl,?_⟩) hHeld ?_ ?_
   rotate_left;(rintro w' ⟨s0,s1,s2⟩;go_simp;with_reducible rfl);rotate_left;(simp only [Act.put,List.setIfInBounds_toArray,List.set_cons_zero,List.set_cons_succ,qaO,qaP];rfl)
   refine take_ (i:=6) (N:=some 54) (v:=?_) (a':=?_) (bitsA 14 111) rfl rfl (qaX HT_.out HW_.out (by kernel_rfl)) (fun _ _ _ h=>h) (Or.inl ⟨by rfl,?_⟩) hHeld ?_ ?_
   rotate_left;(rintro w' ⟨s0,s1,s2⟩;go_simp;with_reducible rfl);rotate_left;(simp only [Act.put,List.setIfInBounds_toArray,List.set_cons_zero,List.set_cons_succ,qaO,qaP];rfl)
   refine one_ (i:=4) (N:=some 52) (bitsA 14 127) rfl rfl (qbM HT_.out (by kernel_rfl)) (by decide) (fun K hK=>?_)
   refine goes_ Tryd.func20 (by kernel_rfl) rfl #[.slice A0_1 l0_1.length c0_1] (by rfl) rfl rfl (by (try simp only [List.map_toArray,List.map_cons,List.map_nil]);first|done|rfl|(simp only [List.length_drop,List.length_take];rfl)) ?_
   with_reducible refine (sawmilllaw50_items.calls k _ _ l0_1 t116 _ ?side1 ?side2 A9.out).mono ?_
   (case side1=>repeat (first|exact (Kd.C_below HR0_1.out HB.out)|(with_reducible refine Kd.C_alloc ?_ _)|(with_reducible refine Kd.C_drewN ?_ _)|(with_reducible refine Kd.C_drew ?_)))
   (case side2=>exact HC0_1.out)
   rintro e w108 ⟨v117,rfl,ho0,hb⟩
   refine ⟨_,rfl,?_⟩
   have n0_:=Aside0.mk (Kd.R_elder' (by (with_reducible repeat (first|apply Kd.R_alloc|apply Kd.R_drewN|apply Kd.R_drew));exact HO108.out) (Kd.R_base ho0) hb)
   have n1_:=Aside0.mk (Kd.R_below (by (with_reducible repeat (first|apply Kd.R_alloc|apply Kd.R_drewN|apply Kd.R_drew));exact HO111.out) hb)
   have n2_:=Aside0.mk (Kd.R_lower (Kd.R_new' ho0 (Kd.R_lt (by (with_reducible repeat (first|apply Kd.R_alloc|apply Kd.R_drewN|apply Kd.R_drew));exact HO108.out))) (qaN (by repeat (first|(with_reducible first|exact HB.out|apply qaD|apply qaB|apply qaE|refine qaG ?_ GE101.out)|exact HB.out))))
   have n3_:=Aside0.mk (qaQ (g:=gb101) (o:=.cells #[.slice A0_0 l0_0.length c0_0,.slice A0_1 l0_1.length c0_1,.slice A0_2 l0_2.length c0_2] 26 (0,0)) (by (with_reducible repeat (first|refine qaJ ?_ _|refine qaK ?_|refine qaI ?_ _));exact BK101.out) hb)
   have n4_:=Aside0.mk (qaH (by repeat (first|(with_reducible first|exact HB.out|apply qaD|apply qaB|apply qaE|refine qaG ?_ GE101.out)|exact HB.out)) hb)
   clear HO108
   clear HO111
   clear BK101
   clear HB
   have HO108:=n0_
   have HO111:=n1_
   have HO118:=n2_
   have BK101:=n3_
   have HB:=n4_
   clear n0_ n1_ n2_ n3_ n4_
   (try clear hb)
   (try clear hb2)
   (try clear hk)
   (try clear hi)
   (try clear ho0)
   refine hK.out _ _ ⟨(qaC BK101.out 0).trans rfl,(qaC BK101.out 1).trans rfl,(qaC BK101.out 2).trans rfl⟩ (fun hHeld=>?_)
   clear hK K
   refine norm_ (a':=?_) ?_ ?_
   rotate_left
   ·show Act.put _ (some 52) _=_
    simp only [Act.put,List.setIfInBounds_toArray,List.set_cons_zero,List.set_cons_succ,qaO,qaP]
    rfl
   refine one_ (i:=7) (N:=some 55) (bitsA 14 255) rfl rfl (qbM HT_.out (by kernel_rfl)) (by decide) (fun K hK=>?_)
   refine goes_ Tryd.func18 (by kernel_rfl) rfl #[.slice A0_2 l0_2.length c0_2] (by rfl) rfl rfl (by (try simp only [List.map_toArray,List.map_cons,List.map_nil]);first|done|rfl|(simp only [List.length_drop,List.length_take];rfl)) ?_
   with_reducible refine (sawmilllaw50_tiers.calls k _ _ l0_2 t119 _ ?side1 ?side2 A10.out).mono ?_
   (case side1=>repeat (first|exact (Kd.C_below HR0_2.out HB.out)|(with_reducible refine Kd.C_alloc ?_ _)|(with_reducible refine Kd.C_drewN ?_ _)|(with_reducible refine Kd.C_drew ?_)))
   (case side2=>exact HC0_2.out)
   rintro e w109 ⟨v120,rfl,ho0,hb⟩
   refine ⟨_,rfl,?_⟩
   have n0_:=Aside0.mk (Kd.R_below (by (with_reducible repeat (first|apply Kd.R_alloc|apply Kd.R_drewN|apply Kd.R_drew));exact HO108.out) hb)
   have n1_:=Aside0.mk (Kd.R_elder' (by (with_reducible repeat (first|apply Kd.R_alloc|apply Kd.R_drewN|apply Kd.R_drew));exact HO111.out) (Kd.R_base ho0) hb)
   have n2_:=Aside0.mk (Kd.R_below (by (with_reducible repeat (first|apply Kd.R_alloc|apply Kd.R_drewN|apply Kd.R_drew));exact HO118.out) hb)
   have n3_:=Aside0.mk (Kd.R_lower (Kd.R_new' ho0 (Kd.R_lt (by (with_reducible repeat (first|apply Kd.R_alloc|apply Kd.R_drewN|apply Kd.R_drew));exact HO111.out))) (qaN (by repeat (first|(with_reducible first|exact HB.out|apply qaD|apply qaB|apply qaE|refine qaG ?_ GE101.out)|exact HB.out))))
   have n4_:=Aside0.mk (qaQ (g:=gb101) (o:=.cells #[.slice A0_0 l0_0.length c0_0,.slice A0_1 l0_1.length c0_1,.slice A0_2 l0_2.length c0_2] 26 (0,0)) (by (with_reducible repeat (first|refine qaJ ?_ _|refine qaK ?_|refine qaI ?_ _));exact BK101.out) hb)
   have n5_:=Aside0.mk (qaH (by repeat (first|(with_reducible first|exact HB.out|apply qaD|apply qaB|apply qaE|refine qaG ?_ GE101.out)|exact HB.out)) hb)
   clear HO108
   clear HO111
   clear HO118
   clear BK101
   clear HB
   have HO108:=n0_
   have HO111:=n1_
   have HO118:=n2_
   have HO121:=n3_
   have BK101:=n4_
   have HB:=n5_
   clear n0_ n1_ n2_ n3_ n4_ n5_
   (try clear hb)
   (try clear hb2)
   (try clear hk)
   (try clear hi)
   (try clear ho0)
   obtain ⟨Ao110,co110,eo110⟩:=Kd.R_slice HO118.out
   (first|subst eo110|(injection eo110 with f1_ f2_ f3_;have f4_:=f1_.symm;have f5_:=f3_.symm;clear f1_ f2_ f3_;subst f4_;subst f5_))
   obtain ⟨Ao111,co111,eo111⟩:=Kd.R_slice HO121.out
   (first|subst eo111|(injection eo111 with f1_ f2_ f3_;have f4_:=f1_.symm;have f5_:=f3_.symm;clear f1_ f2_ f3_;subst f4_;subst f5_))
   refine hK.out _ _ ⟨(qaC BK101.out 0).trans rfl,(qaC BK101.out 1).trans rfl,(qaC BK101.out 2).trans rfl⟩ (fun hHeld=>?_)
   clear hK K
   refine norm_ (a':=?_) ?_ ?_
   rotate_left
   ·show Act.put _ (some 55) _=_
    simp only [Act.put,List.setIfInBounds_toArray,List.set_cons_zero,List.set_cons_succ,qaO,qaP]
    rfl
   refine one_ (i:=8) (N:=some 56) (bitsA 14 511) rfl rfl (qbM HT_.out (by kernel_rfl)) (by decide) (fun K hK=>?_)
   refine goes_ Tryd.func21 (by kernel_rfl) rfl #[.slice A0_0 l0_0.length c0_0,.slice Ao110 t116.length co110,.slice Ao111 t119.length co111] (by rfl) rfl rfl (by (try simp only [List.map_toArray,List.map_cons,List.map_nil]);first|done|rfl|(simp only [List.length_drop,List.length_take];rfl)) ?_
   with_reducible refine (sawmillref50_Text.calls k _ _ l0_0 _ _ t116 _ _ t119 t122 t123 _ ?side1 ?side2 ?side3 ?side4 ?side5 ?side6 A11.out).mono ?_
   (case side1=>repeat (first|exact (Kd.C_below HR0_0.out HB.out)|(with_reducible refine Kd.C_alloc ?_ _)|(with_reducible refine Kd.C_drewN ?_ _)|(with_reducible refine Kd.C_drew ?_)))
   (case side2=>exact HC0_0.out)
   (case side3=>repeat (first|exact (Kd.R_reads' HO118.out).2.2|(with_reducible refine Kd.C_alloc ?_ _)|(with_reducible refine Kd.C_drewN ?_ _)|(with_reducible refine Kd.C_drew ?_)))
   (case side4=>exact (Kd.R_reads' HO118.out).2.1)
   (case side5=>repeat (first|exact (Kd.R_reads' HO121.out).2.2|(with_reducible refine Kd.C_alloc ?_ _)|(with_reducible refine Kd.C_drewN ?_ _)|(with_reducible refine Kd.C_drew ?_)))
   (case side6=>exact (Kd.R_reads' HO121.out).2.1)
   rintro e w112 ⟨rfl,hb⟩
   refine ⟨_,rfl,?_⟩
   have n0_:=Aside0.mk (Kd.R_below (by (with_reducible repeat (first|apply Kd.R_alloc|apply Kd.R_drewN|apply Kd.R_drew));exact HO108.out) hb)
   have n1_:=Aside0.mk (Kd.R_below (by (with_reducible repeat (first|apply Kd.R_alloc|apply Kd.R_drewN|apply Kd.R_drew));exact HO111.out) hb)
   have n2_:=Aside0.mk (Kd.R_below (by (with_reducible repeat (first|apply Kd.R_alloc|apply Kd.R_drewN|apply Kd.R_drew));exact HO118.out) hb)
   have n3_:=Aside0.mk (Kd.R_below (by (with_reducible repeat (first|apply Kd.R_alloc|apply Kd.R_drewN|apply Kd.R_drew));exact HO121.out) hb)
   have n4_:=Aside0.mk (qaQ (g:=gb101) (o:=.cells #[.slice A0_0 l0_0.length c0_0,.slice A0_1 l0_1.length c0_1,.slice A0_2 l0_2.length c0_2] 26 (0,0)) (by (with_reducible repeat (first|refine qaJ ?_ _|refine qaK ?_|refine qaI ?_ _));exact BK101.out) hb)
   have n5_:=Aside0.mk (qaH (by repeat (first|(with_reducible first|exact HB.out|apply qaD|apply qaB|apply qaE|refine qaG ?_ GE101.out)|exact HB.out)) hb)
   clear HO108
   clear HO111
   clear HO118
   clear HO121
   clear BK101
   clear HB
   have HO108:=n0_
   have HO111:=n1_
   have HO118:=n2_
   have HO121:=n3_
   have BK101:=n4_
   have HB:=n5_
   clear n0_ n1_ n2_ n3_ n4_ n5_
   (try clear hb)
   (try clear hb2)
   (try clear hk)
   (try clear hi)
   refine hK.out _ _ ⟨(qaC BK101.out 0).trans rfl,(qaC BK101.out 1).trans rfl,(qaC BK101.out 2).trans rfl⟩ (fun hHeld=>?_)
   clear hK K
   refine norm_ (a':=?_) ?_ ?_
   rotate_left
   ·show Act.put _ (some 56) _=_
    simp only [Act.put,List.setIfInBounds_toArray,List.set_cons_zero,List.set_cons_succ,qaO,qaP]
    rfl
   refine qaU (i:=9) (N:=some 47) (v:=?_) (a':=?_) #[true,true,true,true,true,true,true,true,true,true,false,false,false,false] rfl rfl (qaR HT_.out (by kernel_rfl)) (fun _ _ _ h=>h) (Or.inl ⟨by rfl,?_⟩) ?_ ?_
   rotate_left;(intro w';go_simp;with_reducible rfl);rotate_left;(simp only [Act.put,List.setIfInBounds_toArray,List.set_cons_zero,List.set_cons_succ,qaO,qaP];rfl)
   refine qaU (i:=10) (N:=some 57) (v:=?_) (a':=?_) #[true,true,true,true,true,true,true,true,true,true,true,false,false,false] rfl rfl (qaR HT_.out (by kernel_rfl)) (fun _ _ _ h=>h) (Or.inl ⟨by rfl,?_⟩) ?_ ?_
   rotate_left;(intro w';go_simp;with_reducible rfl);rotate_left;(simp only [Act.put,List.setIfInBounds_toArray,List.set_cons_zero,List.set_cons_succ,qaO,qaP];rfl)
   refine qaU (i:=11) (N:=some 58) (v:=?_) (a':=?_) #[true,true,true,true,true,true,true,true,true,true,true,true,false,false] rfl rfl (qaR HT_.out (by kernel_rfl)) (fun _ _ _ h=>h) (Or.inl ⟨by rfl,?_⟩) ?_ ?_
   rotate_left;(intro w';go_simp;with_reducible rfl);rotate_left;(simp only [Act.put,List.setIfInBounds_toArray,List.set_cons_zero,List.set_cons_succ,qaO,qaP];rfl)
   refine qaU (i:=12) (N:=some 9) (v:=?_) (a':=?_) #[true,true,true,true,true,true,true,true,true,true,true,true,true,false] rfl rfl (qaR HT_.out (by kernel_rfl)) (fun _ _ _ h=>h) (Or.inl ⟨by rfl,?_⟩) ?_ ?_
   rotate_left;(intro w';go_simp;with_reducible rfl);rotate_left;(simp only [Act.put,List.setIfInBounds_toArray,List.set_cons_zero,List.set_cons_succ,qaO,qaP];rfl)
   refine qaU (i:=13) (N:=some 10) (v:=?_) (a':=?_) #[true,true,true,true,true,true,true,true,true,true,true,true,true,true] rfl rfl (qaR HT_.out (by kernel_rfl)) (fun _ _ _ h=>h) (Or.inl ⟨by rfl,?_⟩) ?_ ?_
   rotate_left;(intro w';go_simp;with_reducible rfl);rotate_left;(simp only [Act.put,List.setIfInBounds_toArray,List.set_cons_zero,List.set_cons_succ,qaO,qaP];rfl)
   refine done_ (done_of HT_.out (by kernel_rfl)) ?_
   try go_wp2
   go_ret
   exact ⟨by first|rfl|(simp [qaL,qaM]<;>rfl)|(simp [*,qaL,qaM]<;>rfl),by repeat (first|(with_reducible first|exact HB.out|apply qaD|apply qaB|apply qaE|refine qaG ?_ GE101.out)|exact HB.out)⟩
 ·replace c3:=Bool.eq_false_iff.mpr c3
  subst c3
  have H1:((sawmilllaw50_awake.f k).bind fun t103=>(some t103))=some r:=by rw [if_neg (show ¬ (false=true) by decide)] at H;exact H
  clear H
  have H:=H1
  clear H1
  replace H:=Option.bind_eq_some_iff.mp H
  obtain ⟨t103,A1130,H⟩:=H
  replace H:(some t103)=some r:=H
  have A113:=Aside0.mk A1130
  clear A1130
  obtain rfl:=Option.some.inj H
  go_enter Tryd.func6,Tryd.ntmps6
  go_wp2_with (first|((with_reducible refine qaV (N:=1) rfl ?_);refine qaT ?hg (N:=1) ?hd (cs:=#[.slice A0_0 l0_0.length c0_0,.slice A0_1 l0_1.length c0_1,.slice A0_2 l0_2.length c0_2]) (t:=26) ?hr ?_;(case hd=>rfl);(case hg=>rfl);(case hr=>first|(go_simp;done)|(go_simp;rfl));intro gb101 hg w114 hbox hb;have n0_:=Aside0.mk (qaH (by repeat (first|(with_reducible first|exact HB.out|apply qaD|apply qaB|apply qaE)|exact HB.out)) hb);have n1_:=Aside0.mk (hbox);have n2_:=Aside0.mk ((by rw [hg];exact (qaN (by repeat (first|(with_reducible first|exact HB.out|apply qaD|apply qaB|apply qaE)|exact HB.out))):w.heap.size≤gb101));have n3_:=Aside0.mk ((by rw [hg];exact (qaN (by repeat (first|(with_reducible first|exact HB.out|apply qaD|apply qaB|apply qaE)|exact HB.out))):w.heap.size≤gb101));clear HB;have HB:=n0_;have BK101:=n1_;have GW101:=n2_;have GE101:=n3_;clear n0_ n1_ n2_ n3_;clear hb hbox hg;have hcz115_0:w114.cell? ⟨gb101,0,none⟩=some (.slice A0_0 l0_0.length c0_0):=(qaC BK101.out 0).trans rfl;have hcz115_1:w114.cell? ⟨gb101,1,none⟩=some (.slice A0_1 l0_1.length c0_1):=(qaC BK101.out 1).trans rfl;have hcz115_2:w114.cell? ⟨gb101,2,none⟩=some (.slice A0_2 l0_2.length c0_2):=(qaC BK101.out 2).trans rfl;have hfz115_0:=qaA BK101.out 0;have hfz115_1:=qaA BK101.out 1;have hfz115_2:=qaA BK101.out 2)|((with_reducible refine qaS (f:=10) rfl ?_);refine qbE (some 12) rfl rfl Tryd.func10 (by kernel_rfl) rfl #[.agg #[.slice A0_0 l0_0.length c0_0,.slice A0_1 l0_1.length c0_1,.slice A0_2 l0_2.length c0_2]] rfl (by (try simp only [List.map_toArray,List.map_cons,List.map_nil]);first|done|rfl|(simp only [List.length_drop,List.length_take];rfl)) ?_;(with_reducible refine (sawmilllaw50_small.calls k _ _ l0_0 _ _ l0_1 _ _ l0_2 false _ ?side1 ?side2 ?side3 ?side4 ?side5 ?side6 A2.out).mono ?_);(case side1=>repeat (first|exact (Kd.C_below HR0_0.out HB.out)|(with_reducible refine Kd.C_alloc ?_ _)|(with_reducible refine Kd.C_drewN ?_ _)|(with_reducible refine Kd.C_drew ?_)));(case side2=>exact HC0_0.out);(case side3=>repeat (first|exact (Kd.C_below HR0_1.out HB.out)|(with_reducible refine Kd.C_alloc ?_ _)|(with_reducible refine Kd.C_drewN ?_ _)|(with_reducible refine Kd.C_drew ?_)));(case side4=>exact HC0_1.out);(case side5=>repeat (first|exact (Kd.C_below HR0_2.out HB.out)|(with_reducible refine Kd.C_alloc ?_ _)|(with_reducible refine Kd.C_drewN ?_ _)|(with_reducible refine Kd.C_drew ?_)));(case side6=>exact HC0_2.out);rintro e w116 ⟨rfl,hb⟩;refine ⟨_,rfl,?_⟩;have n0_:=Aside0.mk (qaQ (g:=gb101) (o:=.cells #[.slice A0_0 l0_0.length c0_0,.slice A0_1 l0_1.length c0_1,.slice A0_2 l0_2.length c0_2] 26 (0,0)) (by (with_reducible repeat (first|refine qaJ ?_ _|refine qaK ?_|refine qaI ?_ _));exact BK101.out) hb);have n1_:=Aside0.mk (qaH (by repeat (first|(with_reducible first|exact HB.out|apply qaD|apply qaB|apply qaE|refine qaG ?_ GE101.out)|exact HB.out)) hb);clear BK101;clear HB;have BK101:=n0_;have HB:=n1_;clear n0_ n1_;(try clear hb);(try clear hb2);(try clear hk);(try clear hi))|((with_reducible refine qaS (f:=11) rfl ?_);refine qbE (some 14) rfl rfl Tryd.func11 (by kernel_rfl) rfl #[] rfl (by (try simp only [List.map_toArray,List.map_cons,List.map_nil]);first|done|rfl|(simp only [List.length_drop,List.length_take];rfl)) ?_;(with_reducible refine (sawmilllaw50_awake.calls k  t103 _ A113.out (glob_at HG_ (by repeat (first|(with_reducible first|exact HB.out|apply qaD|apply qaB|apply qaE|refine qaG ?_ (Aside0.out (by assumption)))|exact HB.out)))).mono ?_);rintro e w117 ⟨rfl,hb⟩;refine ⟨_,rfl,?_⟩;have n0_:=Aside0.mk (qaQ (g:=gb101) (o:=.cells #[.slice A0_0 l0_0.length c0_0,.slice A0_1 l0_1.length c0_1,.slice A0_2 l0_2.length c0_2] 26 (0,0)) (by (with_reducible repeat (first|refine qaJ ?_ _|refine qaK ?_|refine qaI ?_ _));exact BK101.out) hb);have n1_:=Aside0.mk (qaH (by repeat (first|(with_reducible first|exact HB.out|apply qaD|apply qaB|apply qaE|refine qaG ?_ GE101.out)|exact HB.out)) hb);clear BK101;clear HB;have BK101:=n0_;have HB:=n1_;clear n0_ n1_;(try clear hb);(try clear hb2);(try clear hk);(try clear hi)))
  go_ret
  exact ⟨by first|rfl|(simp [qaL,qaM]<;>rfl)|(simp [*,qaL,qaM]<;>rfl),by repeat (first|(with_reducible first|exact HB.out|apply qaD|apply qaB|apply qaE|refine qaG ?_ GE101.out)|exact HB.out)⟩
end Go.Proofs.YtojkjhaobjidlaaDoor.P
namespace Go.Proofs.YtojkjhaobjidlaaDoor.P
open Go.RowKit Go.Proofs.YtojkjhaobjidlaaDoorW.PrintWords Go.Proofs.YtojkjhaobjidlaaDoorW.PrintMore
set_option linter.unusedVariables false
set_option linter.unusedSimpArgs false
theorem small_lens {c:List PR} {l:List IT} {t:List TI} (h:smallB c l t=true):l.length≤100∧t.length≤30:=by
 unfold smallB at h
 simp at h
 omega
theorem totals_true (c:List PR) (l:List IT) (t:List TI):sawmilllaw50_BillTotals.f 6000 c l t=some true:=by
 unfold sawmilllaw50_BillTotals.f
 rw [small_f c l t 6000 (by decide),Option.bind_some,awake_at 6000 (by decide)]
 cases hs:smallB c l t
 ·simp
 ·obtain ⟨h1,h2⟩:=small_lens hs
  rw [if_pos rfl,total_f c l t 6000 (by decide),items_f l (by omega) 6000 (by omega),tiers_f t (by omega) 6000 (by omega),text_f c l t 6000 (by decide)]
  simp only [Option.bind_some]
  rw [r50_total c (small_names hs) l t 6000 (by decide),r50_text c (small_names hs) l t 6000 (by decide)]
  simp only [Option.bind_some,if_true]
end Go.Proofs.YtojkjhaobjidlaaDoor.P
namespace Go.Proofs.YtojkjhaobjidlaaDoor.billTotals
open Go.ChangeShapes Go.WideShapes Go.ChangeAt Go.WideMaps Go.WideElems Go.RowKit Go.Proofs.YtojkjhaobjidlaaDoor.P Go.Proofs.YtojkjhaobjidlaaDoorW.PrintWords
set_option linter.unusedVariables false
set_option maxRecDepth 100000 in
theorem lifted (os:Os) (started:os.Started) (H:Type) (enc:TypeId × Value→H) :
  ReturnsInHanded {} Tryd.checked os 6 .any (fun w args=>(Rows.billTotalsSpec.pre enc Tryd.prog Tryd.f6 [] false w args∧laidMetH Tryd.prog laid3 w)∧sizedMet enc Tryd.prog Tryd.f6 (OpenSpec.ofChange Rows.billTotalsSpec) false w args)
   (Rows.billTotalsSpec.post enc Tryd.prog Tryd.f6 false true false false):=by
 refine returnsInHanded_of_change_and (C:=Tryd.checked) (X:=fun w _=>laidMetH Tryd.prog laid3 w) (fun _ _ _ hh h=>h.of_heap hh) own started (by kernel_rfl) Tryd.func6
  (ChangeSpec.witness_shaped (enc:=enc) (C:=Tryd.checked) (os:=os) (X:=fun w _=>laidMetH Tryd.prog laid3 w) false (World.doorLaid Tryd.prog 38 os) #[.agg #[.slice none 0 0,.slice none 0 0,.slice none 0 0]] 8 rfl (World.shaped_of_RefB (by kernel_rfl) (by kernel_rfl)) (by kernel_rfl) (by kernel_rfl) (by kernel_rfl) (door_met os _)) ?_
 intro W base args ds gs before hval0 hW _ _ hL _
 have hval:∀ (j:Nat) t v,Tryd.f6.params[j]?=some t→args[j]?=some v→Value.okWide Tryd.prog W .any base t v:=hval0
 have hW':=hW
 obtain ⟨p,q,hA0,hV,rfl,hfz,hnd⟩:=hW
 have hA:DataW.TrodAll enc Tryd.prog W 0 (fun _=>true) true Tryd.f6.params.toList args.toList ds p:=hA0
 rw [Tryd.params6] at hA hval
 obtain ⟨v0,vs0,d0,ds0,p0,q0,hargs,rfl,rfl,h0,r0⟩:=trodAll_cons hA
 obtain ⟨rfl,rfl,rfl⟩:=trodAll_nil r0
 obtain rfl:args=#[v0]:=by cases args;simp_all
 obtain ⟨rfl,rfl⟩:=trodVars_none hV
 have k0:=h0
 have lt0:∀ x ∈ p0,x.block < W.heap.size:=by obtain ⟨m,hm⟩:=k0;exact DataW.trod_lt m _ _ _ hm
 obtain ⟨fu0,hf0⟩:=h0
 obtain ⟨cs0,rfl,_⟩:=okWide_struct Tryd.underlying26 (hval 0 26 v0 rfl rfl)
 obtain ⟨a0_0,A0_0,c0_0,l0_0,g0_0,a0_1,A0_1,c0_1,l0_1,g0_1,a0_2,A0_2,c0_2,l0_2,g0_2,e0⟩:=opens_inv H enc W _ _ _ hf0
 obtain rfl:cs0=#[.slice A0_0 a0_0.length c0_0,.slice A0_1 a0_1.length c0_1,.slice A0_2 a0_2.length c0_2]:=Array.toList_inj.mp e0
 refine (sawmilllaw50_BillTotals.calls 6000 _ _ a0_0 _ _ a0_1 _ _ a0_2 true W g0_0 l0_0 g0_1 l0_1 g0_2 l0_2 (totals_true a0_0 a0_1 a0_2) ⟨glob_of hL⟩).mono fun e W' ⟨he,bel⟩=>?_
 subst he
 exact ⟨_,rfl,_,_,_,[],_,[],hW',trodAll_mk1 (shut_bool Tryd.underlying4 _),(trodAll_cons_mk (Below.trod laidOut (by kernel_rfl) (of_decide_eq_true (by kernel_rfl)) k0 bel lt0) trodAll_mk0),rfl,bel.frame _,fun h=>by cases h⟩
theorem holds:Rows.BillTotalsSaid :=
 OpenClaim.holds_of_wide 6 Tryd.f6 rfl rfl rfl rfl rfl rfl rfl ⟨rfl,rfl,rfl,rfl,rfl⟩ rfl rfl rfl rfl rfl (by kernel_rfl) Tryd.func6 (by kernel_rfl)
  (of_decide_eq_true (by kernel_rfl)) (by unfold Func.isWrapper;first|(rw [if_pos (by decide +kernel)];kernel_rfl)|(rw [if_neg (by decide +kernel)];exact ⟨rfl,rfl⟩))
  (fun os started H enc _=>lifted os started H enc)
theorem card_holds:Rows.BillTotalsCardSaid :=
 Claim7.holds_tied_plain_at .later [] [.data, .data, .data] true (true, "19f5dea25a4b6f3af804689818080770bcddf1653a3dc0e8785111f2bf0fa93c") false
  holds (fun _ h=>by cases h) (by kernel_rfl) (fun _ h=>by cases h) billTotals_row_tie rfl ⟨rfl,rfl⟩ (by kernel_rfl) rfl
  (fun f fn hf hfn=>by
   obtain rfl : f = 6 := Option.some.inj ((show Tryd.prog.funcNamed "sawmill/sawmilllaw50.BillTotals" = some 6 by kernel_rfl).symm.trans hf) |>.symm
   obtain rfl:fn=Tryd.f6:=(Option.some.inj (Tryd.func6.symm.trans hfn)).symm
   exact ⟨by kernel_rfl,fun j t ht=>by
    rw [Tryd.params6] at ht
    have hm:t ∈ [26]:=by simpa using Array.mem_of_getElem? ht
    have hall:([26].all fun u=>!Tryd.prog.wantsStandIn u)=true:=by kernel_rfl
    exact (show Tryd.prog.wantsStandIn t=false by simpa using List.all_eq_true.1 hall t hm)⟩)
  (by kernel_rfl)
end Go.Proofs.YtojkjhaobjidlaaDoor.billTotals
namespace Go.Proofs.YtojkjhaobjidlaaDoor
theorem billTotals_card:Rows.BillTotalsCardSaid:=billTotals.card_holds
end Go.Proofs.YtojkjhaobjidlaaDoor
