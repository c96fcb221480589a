/-
  Walks and plain laws on the way to the statement BillTotals; no conditions.
-/
import Derived.Test.YtojkjhaobjidlaaDoorMb2
import Derived.Test.YtojkjhaobjidlaaDoorQBillTotals2
import Derived.Lib.ItoaMem
import Derived.Lib.ItoaLen
import Derived.Test.YtojkjhaobjidlaaDoorQBillTotals1
namespace Go.Proofs.YtojkjhaobjidlaaDoor.P
open Go.RowKit Go.Proofs.YtojkjhaobjidlaaDoorW.PrintWords Go.Proofs.YtojkjhaobjidlaaDoorW.PrintLast Go.Proofs.YtojkjhaobjidlaaDoorW.PrintMore
attribute [local go_sem] qbG qbH qbO qbP qbC qbD qbI qbJ
attribute [local go_sem] qbB
set_option linter.unusedVariables false
set_option linter.unusedSimpArgs false
def sawmillref50_Text.l0:Nat→List (S53)→List (S38)→Int→List Int→Int→ByteArray→Int→Option (ByteArray × Int)
 | 0,_,_,_,_,_,_,_=>none
 | k+1,x0,x1,x8,x10,x11,x13,x14=>if x14 < (x1.length:Int) then (if 0≤x14 then (if 0≤((qaW x1 x14).f0) then (if ((qaW x1 x14).f0) < (x0.length:Int) then (if x13.size+((qaF x0 ((qaW x1 x14).f0)).f0).size≤9223372036854775807 then (if x13.size+((qaF x0 ((qaW x1 x14).f0)).f0).size+1≤9223372036854775807 then ((sawmillref50_decimal.f k ((qaW x1 x14).f1)).bind fun t111=>(if x13.size+((qaF x0 ((qaW x1 x14).f0)).f0).size+1+t111.size≤9223372036854775807 then (if x13.size+((qaF x0 ((qaW x1 x14).f0)).f0).size+1+t111.size+1≤9223372036854775807 then ((sawmillref50_decimal.f k ((qaW x1 x14).f2)).bind fun t113=>(if x13.size+((qaF x0 ((qaW x1 x14).f0)).f0).size+1+t111.size+1+t113.size≤9223372036854775807 then (if x13.size+((qaF x0 ((qaW x1 x14).f0)).f0).size+1+t111.size+1+t113.size+1≤9223372036854775807 then (if x14 < (x10.length:Int) then ((sawmillref50_decimal.f k (rd x10 x14)).bind fun t115=>(if x13.size+((qaF x0 ((qaW x1 x14).f0)).f0).size+1+t111.size+1+t113.size+1+t115.size≤9223372036854775807 then (if x13.size+((qaF x0 ((qaW x1 x14).f0)).f0).size+1+t111.size+1+t113.size+1+t115.size+1≤9223372036854775807 then (sawmillref50_Text.l0 k x0 x1 x8 x10 x11 ((((((((x13++((qaF x0 ((qaW x1 x14).f0)).f0))++(⟨#[32]⟩:ByteArray))++t111)++(⟨#[32]⟩:ByteArray))++t113)++(⟨#[32]⟩:ByteArray))++t115)++(⟨#[10]⟩:ByteArray)) (wrap64 (x14+1))) else (none)) else (none))) else (none)) else (none)) else (none))) else (none)) else (none))) else (none)) else (none)) else (none)) else (none)) else (none)) else (if x13.size+9≤9223372036854775807 then ((sawmillref50_decimal.f k (wrap64 (x11 - x8))).bind fun t116=>(if x13.size+9+t116.size≤9223372036854775807 then (if x13.size+9+t116.size+7≤9223372036854775807 then ((sawmillref50_decimal.f k x8).bind fun t117=>(if x13.size+9+t116.size+7+t117.size≤9223372036854775807 then (if x13.size+9+t116.size+7+t117.size+1≤9223372036854775807 then (some (((((x13++(⟨#[100,105,115,99,111,117,110,116,32]⟩:ByteArray))++t116)++(⟨#[10,116,111,116,97,108,32]⟩:ByteArray))++t117)++(⟨#[10]⟩:ByteArray),0)) else (none)) else (none))) else (none)) else (none))) else (none))
def sawmillref50_Text.f (k:Nat) (l0:List (S53)) (l1:List (S38)) (l2:List (S77)):Option (ByteArray × Int):=(sawmillref50_Total.f k l0 l1 l2).bind fun bt101=>(if bt101.2=0 then ((sawmillref50_sum.f k l0 l1).bind fun bt103=>(sawmillref50_Text.l0 k l0 l1 bt101.1 bt103.1 bt103.2.1 (⟨#[]⟩:ByteArray) 0)) else (some ((⟨#[]⟩:ByteArray),bt101.2)))
def sawmillref50_Text.T9:Bool × List (List Nat × List Nat):=(true,[([],[]),([],[]),([],[]),([],[]),([2,3],[2,3]),([4],[4]),([5],[5]),([1,6],[1,6]),([7],[7]),([8],[8]),([0,9],[0,9]),([10],[10]),([],[]),([],[]),([12,13],[12,13]),([14],[14]),([15],[15]),([16],[16]),([11,17],[11,17]),([18],[18]),([],[]),([],[]),([20,21],[20,21]),([22],[22]),([23],[23]),([24,17],[24]),([19,25],[19,25]),([26],[26]),([],[]),([],[]),([28,29],[28,29]),([30],[30]),([31,25],[31]),([27,32],[27,32]),([33],[33]),([34,32,0,1,2,3,4,5,6,7,8,9,10,11,12,13,14,15,16,17,18,19,20,21,22,23,24,25,26,27,28,29,30,31,32,33,34],[0,34])])
def sawmillref50_Text.B9:List Nat:=[0,0,0,0,12,28,60,126,254,510,1023,2047,0,0,12288,28672,61440,126976,262143,524287,0,0,3145728,7340032,15728640,32763904,67108863,134217727,0,0,805306368,1879048192,4092850176,8589934591,17179869183,34359738367]
theorem sawmillref50_Text.tab9:rtab .any (opsOf Tryd.f21 9)=sawmillref50_Text.T9:=by kernel_rfl
theorem sawmillref50_Text.bits9:waitsOk sawmillref50_Text.T9.2 sawmillref50_Text.B9=true:=by kernel_rfl
set_option maxHeartbeats 8000000 in
set_option maxRecDepth 100000 in
theorem sawmillref50_Text.calls (k:Nat) (A0:Option Addr) (c0:Nat) (l0:List (S53)) (A1:Option Addr) (c1:Nat) (l1:List (S38)) (A2:Option Addr) (c2:Nat) (l2:List (S77)) (r1:ByteArray) (r2:Int) (w:World) (hr0:Kd.C k53 w A0 l0.length l0) (hc0:l0.length≤c0) (hr1:Kd.C k38 w A1 l1.length l1) (hc1:l1.length≤c1) (hr2:Kd.C k77 w A2 l2.length l2) (hc2:l2.length≤c2) (h:sawmillref50_Text.f k l0 l1 l2=some (r1,r2)) :
  Calls Tryd.prog 21 #[.slice A0 l0.length c0,.slice A1 l1.length c1,.slice A2 l2.length c2] w fun e w'=>e=.returned (.tuple #[.string r1,.int .i64 r2])∧Below w.heap.size w w':=by
 have HR0:=Aside0.mk hr0
 have HC0:=Aside0.mk hc0
 clear hr0 hc0
 have HR1:=Aside0.mk hr1
 have HC1:=Aside0.mk hc1
 clear hr1 hc1
 have HR2:=Aside0.mk hr2
 have HC2:=Aside0.mk hc2
 clear hr2 hc2
 have HB:=Aside0.mk (Below.refl w.heap.size w)
 have H:((sawmillref50_Total.f k l0 l1 l2).bind fun bt101=>(if bt101.2=0 then ((sawmillref50_sum.f k l0 l1).bind fun bt103=>(sawmillref50_Text.l0 k l0 l1 bt101.1 bt103.1 bt103.2.1 (⟨#[]⟩:ByteArray) 0)) else (some ((⟨#[]⟩:ByteArray),bt101.2))))=some (r1,r2):=h
 clear h
 replace H:=Option.bind_eq_some_iff.mp H
 obtain ⟨⟨t101,t102⟩,A40,H⟩:=H
 replace H:(if t102=0 then ((sawmillref50_sum.f k l0 l1).bind fun bt103=>(sawmillref50_Text.l0 k l0 l1 t101 bt103.1 bt103.2.1 (⟨#[]⟩:ByteArray) 0)) else (some ((⟨#[]⟩:ByteArray),t102)))=some (r1,r2):=H
 have A4:=Aside0.mk A40
 clear A40
 by_cases c5:t102=0
 ·rw [if_pos c5] at H
  have c5b0:(t102 == 0)=true:=beq_iff_eq.mpr c5
  have c5b1:(t102 != 0)=false:=bne_eq_false_iff_eq.mpr c5
  clear c5
  replace H:=Option.bind_eq_some_iff.mp H
  obtain ⟨⟨t103,t104,t105⟩,A60,H⟩:=H
  replace H:(sawmillref50_Text.l0 k l0 l1 t101 t103 t104 (⟨#[]⟩:ByteArray) 0)=some (r1,r2):=H
  have A6:=Aside0.mk A60
  clear A60
  have H':=Aside0.mk H
  clear H
  go_enter Tryd.func21,Tryd.ntmps21
  go_wp2_with (first|((with_reducible refine qaS (f:=19) rfl ?_);refine qbE (some 19) rfl rfl Tryd.func19 (by kernel_rfl) rfl #[.slice A0 l0.length c0,.slice A1 l1.length c1,.slice A2 l2.length c2] rfl (by (try simp only [List.map_toArray,List.map_cons,List.map_nil]);first|done|rfl|(simp only [List.length_drop,List.length_take];rfl)) ?_;(with_reducible refine (sawmillref50_Total.calls k _ _ l0 _ _ l1 _ _ l2 t101 t102 _ ?side1 ?side2 ?side3 ?side4 ?side5 ?side6 A4.out).mono ?_);(case side1=>repeat (first|exact HR0.out|(with_reducible refine Kd.C_alloc ?_ _)|(with_reducible refine Kd.C_drewN ?_ _)|(with_reducible refine Kd.C_drew ?_)));(case side2=>exact HC0.out);(case side3=>repeat (first|exact HR1.out|(with_reducible refine Kd.C_alloc ?_ _)|(with_reducible refine Kd.C_drewN ?_ _)|(with_reducible refine Kd.C_drew ?_)));(case side4=>exact HC1.out);(case side5=>repeat (first|exact HR2.out|(with_reducible refine Kd.C_alloc ?_ _)|(with_reducible refine Kd.C_drewN ?_ _)|(with_reducible refine Kd.C_drew ?_)));(case side6=>exact HC2.out);rintro e w7 ⟨rfl,hb⟩;refine ⟨_,rfl,?_⟩;have n0_:=Aside0.mk (qaH (by repeat (first|(with_reducible first|exact HB.out|apply qaD|apply qaB|apply qaE)|exact HB.out)) hb);clear HB;have HB:=n0_;clear n0_;(try clear hb);(try clear hb2);(try clear hk);(try clear hi))|((with_reducible refine qaS (f:=34) rfl ?_);refine qbE (some 28) rfl rfl Tryd.func34 (by kernel_rfl) rfl #[.slice A0 l0.length c0,.slice A1 l1.length c1] rfl (by (try simp only [List.map_toArray,List.map_cons,List.map_nil]);first|done|rfl|(simp only [List.length_drop,List.length_take];rfl)) ?_;(with_reducible refine (sawmillref50_sum.calls k _ _ l0 _ _ l1 t103 t104 t105 _ ?side1 ?side2 ?side3 ?side4 A6.out).mono ?_);(case side1=>repeat (first|exact (Kd.C_below HR0.out HB.out)|(with_reducible refine Kd.C_alloc ?_ _)|(with_reducible refine Kd.C_drewN ?_ _)|(with_reducible refine Kd.C_drew ?_)));(case side2=>exact HC0.out);(case side3=>repeat (first|exact (Kd.C_below HR1.out HB.out)|(with_reducible refine Kd.C_alloc ?_ _)|(with_reducible refine Kd.C_drewN ?_ _)|(with_reducible refine Kd.C_drew ?_)));(case side4=>exact HC1.out);rintro e w8 ⟨v106,rfl,ho0,hb⟩;refine ⟨_,rfl,?_⟩;have n0_:=Aside0.mk (Kd.R_lower ho0 (qaN (by repeat (first|(with_reducible first|exact HB.out|apply qaD|apply qaB|apply qaE)|exact HB.out))));have n1_:=Aside0.mk (qaH (by repeat (first|(with_reducible first|exact HB.out|apply qaD|apply qaB|apply qaE)|exact HB.out)) hb);clear HB;have HO107:=n0_;have HB:=n1_;clear n0_ n1_;(try clear hb);(try clear hb2);(try clear hk);(try clear hi);(try clear ho0)))
  go_loopg [13,14] k (fun kq v13 v14 w'=>∃ (x13_1:ByteArray) (x14_1:Int),v13=.string x13_1∧v14=.int .i64 x14_1∧Aside0 (sawmillref50_Text.l0 kq l0 l1 t101 t103 t104 x13_1 x14_1=some (r1,r2))∧Aside0 (kq≤k)∧Aside0 (Kd.R (Kd.int .i64) 3 w' w.heap.size (fun _=>True) v106 t103)∧Aside0 (Below w.heap.size w w'))
  case atStart=>exact ⟨((⟨#[]⟩:ByteArray)),(0),(by first|rfl|(simp;done)|(simp [*];done)),(by first|rfl|(simp;done)|(simp [*];done)),H',⟨Nat.le_refl _⟩,⟨by (with_reducible repeat (first|apply Kd.R_alloc|apply Kd.R_drewN|apply Kd.R_drew));exact HO107.out⟩,⟨by repeat (first|(with_reducible first|exact HB.out|apply qaD|apply qaB|apply qaE)|exact HB.out)⟩⟩
  case round =>
   clear H'
   try clear c1
   try clear c2
   try clear p2
   try clear c3
   try clear c5
   try clear c5b0
   try clear c5b1
   obtain ⟨x13_1,x14_1,rfl,rfl,HA,HK1,HO_10,HB⟩:=hrel
   cases gk with
   | zero=>exact absurd HA.out (by simp [sawmillref50_Text.l0])
   | succ k1 =>
    have H:=HA.out
    clear HA
    simp only [sawmillref50_Text.l0] at H
    by_cases c9:x14_1 < (l1.length:Int)
    ·rw [if_pos c9] at H
     have c9b0:decide (x14_1 < (l1.length:Int))=true:=decide_eq_true c9
     clear c9
     by_cases c10:0≤x14_1
     ·rw [if_pos c10] at H
      have c10b0:decide (0≤x14_1)=true:=decide_eq_true c10
      clear c10
      by_cases c11:0≤((qaW l1 x14_1).f0)
      ·rw [if_pos c11] at H
       have c11b0:decide (0≤((qaW l1 x14_1).f0))=true:=decide_eq_true c11
       clear c11
       by_cases c12:((qaW l1 x14_1).f0) < (l0.length:Int)
       ·rw [if_pos c12] at H
        have c12b0:decide (((qaW l1 x14_1).f0) < (l0.length:Int))=true:=decide_eq_true c12
        clear c12
        by_cases c13:x13_1.size+((qaF l0 ((qaW l1 x14_1).f0)).f0).size≤9223372036854775807
        ·rw [if_pos c13] at H
         have c13b0:=eq_true c13
         have c13b1:decide (x13_1.size+((qaF l0 ((qaW l1 x14_1).f0)).f0).size≤9223372036854775807)=true:=decide_eq_true c13
         try have c13b2:(9223372036854775807 < x13_1.size+((qaF l0 ((qaW l1 x14_1).f0)).f0).size)=False:=eq_false (Nat.not_lt.2 c13)
         by_cases c14:x13_1.size+((qaF l0 ((qaW l1 x14_1).f0)).f0).size+1≤9223372036854775807
         ·rw [if_pos c14] at H
          have c14b0:=eq_true c14
          have c14b1:decide (x13_1.size+((qaF l0 ((qaW l1 x14_1).f0)).f0).size+1≤9223372036854775807)=true:=decide_eq_true c14
          try have c14b2:(9223372036854775807 < x13_1.size+((qaF l0 ((qaW l1 x14_1).f0)).f0).size+1)=False:=eq_false (Nat.not_lt.2 c14)
          replace H:=Option.bind_eq_some_iff.mp H
          obtain ⟨t111,A150,H⟩:=H
          replace H:(if x13_1.size+((qaF l0 ((qaW l1 x14_1).f0)).f0).size+1+t111.size≤9223372036854775807 then (if x13_1.size+((qaF l0 ((qaW l1 x14_1).f0)).f0).size+1+t111.size+1≤9223372036854775807 then ((sawmillref50_decimal.f k1 ((qaW l1 x14_1).f2)).bind fun t113=>(if x13_1.size+((qaF l0 ((qaW l1 x14_1).f0)).f0).size+1+t111.size+1+t113.size≤9223372036854775807 then (if x13_1.size+((qaF l0 ((qaW l1 x14_1).f0)).f0).size+1+t111.size+1+t113.size+1≤9223372036854775807 then (if x14_1 < (t103.length:Int) then ((sawmillref50_decimal.f k1 (rd t103 x14_1)).bind fun t115=>(if x13_1.size+((qaF l0 ((qaW l1 x14_1).f0)).f0).size+1+t111.size+1+t113.size+1+t115.size≤9223372036854775807 then (if x13_1.size+((qaF l0 ((qaW l1 x14_1).f0)).f0).size+1+t111.size+1+t113.size+1+t115.size+1≤9223372036854775807 then (sawmillref50_Text.l0 k1 l0 l1 t101 t103 t104 ((((((((x13_1++((qaF l0 ((qaW l1 x14_1).f0)).f0))++(⟨#[32]⟩:ByteArray))++t111)++(⟨#[32]⟩:ByteArray))++t113)++(⟨#[32]⟩:ByteArray))++t115)++(⟨#[10]⟩:ByteArray)) (wrap64 (x14_1+1))) else (none)) else (none))) else (none)) else (none)) else (none))) else (none)) else (none))=some (r1,r2):=H
          have A15:=Aside0.mk A150
          clear A150
          by_cases c16:x13_1.size+((qaF l0 ((qaW l1 x14_1).f0)).f0).size+1+t111.size≤9223372036854775807
          ·rw [if_pos c16] at H
           have c16b0:=eq_true c16
           have c16b1:decide (x13_1.size+((qaF l0 ((qaW l1 x14_1).f0)).f0).size+1+t111.size≤9223372036854775807)=true:=decide_eq_true c16
           try have c16b2:(9223372036854775807 < x13_1.size+((qaF l0 ((qaW l1 x14_1).f0)).f0).size+1+t111.size)=False:=eq_false (Nat.not_lt.2 c16)
           by_cases c17:x13_1.size+((qaF l0 ((qaW l1 x14_1).f0)).f0).size+1+t111.size+1≤9223372036854775807
           ·rw [if_pos c17] at H
            have c17b0:=eq_true c17
            have c17b1:decide (x13_1.size+((qaF l0 ((qaW l1 x14_1).f0)).f0).size+1+t111.size+1≤9223372036854775807)=true:=decide_eq_true c17
            try have c17b2:(9223372036854775807 < x13_1.size+((qaF l0 ((qaW l1 x14_1).f0)).f0).size+1+t111.size+1)=False:=eq_false (Nat.not_lt.2 c17)
            replace H:=Option.bind_eq_some_iff.mp H
            obtain ⟨t113,A180,H⟩:=H
            replace H:(if x13_1.size+((qaF l0 ((qaW l1 x14_1).f0)).f0).size+1+t111.size+1+t113.size≤9223372036854775807 then (if x13_1.size+((qaF l0 ((qaW l1 x14_1).f0)).f0).size+1+t111.size+1+t113.size+1≤9223372036854775807 then (if x14_1 < (t103.length:Int) then ((sawmillref50_decimal.f k1 (rd t103 x14_1)).bind fun t115=>(if x13_1.size+((qaF l0 ((qaW l1 x14_1).f0)).f0).size+1+t111.size+1+t113.size+1+t115.size≤9223372036854775807 then (if x13_1.size+((qaF l0 ((qaW l1 x14_1).f0)).f0).size+1+t111.size+1+t113.size+1+t115.size+1≤9223372036854775807 then (sawmillref50_Text.l0 k1 l0 l1 t101 t103 t104 ((((((((x13_1++((qaF l0 ((qaW l1 x14_1).f0)).f0))++(⟨#[32]⟩:ByteArray))++t111)++(⟨#[32]⟩:ByteArray))++t113)++(⟨#[32]⟩:ByteArray))++t115)++(⟨#[10]⟩:ByteArray)) (wrap64 (x14_1+1))) else (none)) else (none))) else (none)) else (none)) else (none))=some (r1,r2):=H
            have A18:=Aside0.mk A180
            clear A180
            by_cases c19:x13_1.size+((qaF l0 ((qaW l1 x14_1).f0)).f0).size+1+t111.size+1+t113.size≤9223372036854775807
            ·rw [if_pos c19] at H
             have c19b0:=eq_true c19
             have c19b1:decide (x13_1.size+((qaF l0 ((qaW l1 x14_1).f0)).f0).size+1+t111.size+1+t113.size≤9223372036854775807)=true:=decide_eq_true c19
             try have c19b2:(9223372036854775807 < x13_1.size+((qaF l0 ((qaW l1 x14_1).f0)).f0).size+1+t111.size+1+t113.size)=False:=eq_false (Nat.not_lt.2 c19)
             by_cases c20:x13_1.size+((qaF l0 ((qaW l1 x14_1).f0)).f0).size+1+t111.size+1+t113.size+1≤9223372036854775807
             ·rw [if_pos c20] at H
              have c20b0:=eq_true c20
              have c20b1:decide (x13_1.size+((qaF l0 ((qaW l1 x14_1).f0)).f0).size+1+t111.size+1+t113.size+1≤9223372036854775807)=true:=decide_eq_true c20
              try have c20b2:(9223372036854775807 < x13_1.size+((qaF l0 ((qaW l1 x14_1).f0)).f0).size+1+t111.size+1+t113.size+1)=False:=eq_false (Nat.not_lt.2 c20)
              by_cases c21:x14_1 < (t103.length:Int)
              ·rw [if_pos c21] at H
               have c21b0:decide (x14_1 < (t103.length:Int))=true:=decide_eq_true c21
               clear c21
               replace H:=Option.bind_eq_some_iff.mp H
               obtain ⟨t115,A220,H⟩:=H
               replace H:(if x13_1.size+((qaF l0 ((qaW l1 x14_1).f0)).f0).size+1+t111.size+1+t113.size+1+t115.size≤9223372036854775807 then (if x13_1.size+((qaF l0 ((qaW l1 x14_1).f0)).f0).size+1+t111.size+1+t113.size+1+t115.size+1≤9223372036854775807 then (sawmillref50_Text.l0 k1 l0 l1 t101 t103 t104 ((((((((x13_1++((qaF l0 ((qaW l1 x14_1).f0)).f0))++(⟨#[32]⟩:ByteArray))++t111)++(⟨#[32]⟩:ByteArray))++t113)++(⟨#[32]⟩:ByteArray))++t115)++(⟨#[10]⟩:ByteArray)) (wrap64 (x14_1+1))) else (none)) else (none))=some (r1,r2):=H
               have A22:=Aside0.mk A220
               clear A220
               by_cases c23:x13_1.size+((qaF l0 ((qaW l1 x14_1).f0)).f0).size+1+t111.size+1+t113.size+1+t115.size≤9223372036854775807
               ·rw [if_pos c23] at H
                have c23b0:=eq_true c23
                have c23b1:decide (x13_1.size+((qaF l0 ((qaW l1 x14_1).f0)).f0).size+1+t111.size+1+t113.size+1+t115.size≤9223372036854775807)=true:=decide_eq_true c23
                try have c23b2:(9223372036854775807 < x13_1.size+((qaF l0 ((qaW l1 x14_1).f0)).f0).size+1+t111.size+1+t113.size+1+t115.size)=False:=eq_false (Nat.not_lt.2 c23)
                by_cases c24:x13_1.size+((qaF l0 ((qaW l1 x14_1).f0)).f0).size+1+t111.size+1+t113.size+1+t115.size+1≤9223372036854775807
                ·rw [if_pos c24] at H
                 have c24b0:=eq_true c24
                 have c24b1:decide (x13_1.size+((qaF l0 ((qaW l1 x14_1).f0)).f0).size+1+t111.size+1+t113.size+1+t115.size+1≤9223372036854775807)=true:=decide_eq_true c24
                 try have c24b2:(9223372036854775807 < x13_1.size+((qaF l0 ((qaW l1 x14_1).f0)).f0).size+1+t111.size+1+t113.size+1+t115.size+1)=False:=eq_false (Nat.not_lt.2 c24)
                 have H':=Aside0.mk H
                 clear H
                 try go_wp2
                 have n0_:=Aside0.mk (Kd.R_drew HO_10.out)
                 have n1_:=Aside0.mk (qaE HB.out)
                 clear HO_10
                 clear HB
                 have HO_10:=n0_
                 have HB:=n1_
                 clear n0_ n1_
                 have p108:0≤(x14_1:Int):=of_decide_eq_true (by first|(with_reducible assumption)|assumption)
                 have q108:x14_1 < (l1.length:Int):=of_decide_eq_true (by first|(with_reducible assumption)|assumption)
                 obtain ⟨ad108,e108,hx108_0,hx108_1,hx108_2,hx108_3⟩:=at_T38 HR1.out x14_1 p108 q108
                 have hw108_3:=hx108_3
                 have hw108_2:=hx108_2
                 have hw108_1:=hx108_1
                 have hw108_0:=hx108_0
                 cases e108
                 replace hx108_0:=(HB.out.cell (World.block_lt_of_cell? w _ hx108_0)).trans hx108_0
                 replace hx108_1:=(HB.out.cell (World.block_lt_of_cell? w _ hx108_1)).trans hx108_1
                 replace hx108_2:=(HB.out.cell (World.block_lt_of_cell? w _ hx108_2)).trans hx108_2
                 replace hx108_3:=(HB.out.cell (World.block_lt_of_cell? w _ hx108_3)).trans hx108_3
                 replace p108:=eq_true p108
                 replace q108:=eq_true q108
                 have p109:0≤(((qaW l1 x14_1).f0):Int):=of_decide_eq_true (by first|(with_reducible assumption)|assumption)
                 have q109:((qaW l1 x14_1).f0) < (l0.length:Int):=of_decide_eq_true (by first|(with_reducible assumption)|assumption)
                 obtain ⟨ad109,A109_5,c109_5,A109_6,c109_6,e109,hx109_0,hx109_1,hx109_2,hx109_3,hx109_4,hx109_5,hx109_6,hl109_5,hi109_5,hl109_6,hi109_6⟩:=at_T53 HR0.out ((qaW l1 x14_1).f0) p109 q109
                 have hw109_6:=hx109_6
                 have hw109_5:=hx109_5
                 have hw109_4:=hx109_4
                 have hw109_3:=hx109_3
                 have hw109_2:=hx109_2
                 have hw109_1:=hx109_1
                 have hw109_0:=hx109_0
                 cases e109
                 replace hx109_0:=(HB.out.cell (World.block_lt_of_cell? w _ hx109_0)).trans hx109_0
                 replace hx109_1:=(HB.out.cell (World.block_lt_of_cell? w _ hx109_1)).trans hx109_1
                 replace hx109_2:=(HB.out.cell (World.block_lt_of_cell? w _ hx109_2)).trans hx109_2
                 replace hx109_3:=(HB.out.cell (World.block_lt_of_cell? w _ hx109_3)).trans hx109_3
                 replace hx109_4:=(HB.out.cell (World.block_lt_of_cell? w _ hx109_4)).trans hx109_4
                 replace hx109_5:=(HB.out.cell (World.block_lt_of_cell? w _ hx109_5)).trans hx109_5
                 replace hx109_6:=(HB.out.cell (World.block_lt_of_cell? w _ hx109_6)).trans hx109_6
                 have HR109_5:=Aside0.mk hi109_5
                 have HC109_5:=Aside0.mk hl109_5
                 clear hi109_5 hl109_5
                 have HR109_6:=Aside0.mk hi109_6
                 have HC109_6:=Aside0.mk hl109_6
                 clear hi109_6 hl109_6
                 replace p109:=eq_true p109
                 replace q109:=eq_true q109
                 have p110:0≤(x14_1:Int):=of_decide_eq_true (by first|(with_reducible assumption)|assumption)
                 have q110:x14_1 < (l1.length:Int):=of_decide_eq_true (by first|(with_reducible assumption)|assumption)
                 obtain ⟨ad110,e110,hx110_0,hx110_1,hx110_2,hx110_3⟩:=at_T38 HR1.out x14_1 p110 q110
                 have hw110_3:=hx110_3
                 have hw110_2:=hx110_2
                 have hw110_1:=hx110_1
                 have hw110_0:=hx110_0
                 obtain rfl:ad108=ad110:=(by injection e110)
                 replace hx110_0:=(HB.out.cell (World.block_lt_of_cell? w _ hx110_0)).trans hx110_0
                 replace hx110_1:=(HB.out.cell (World.block_lt_of_cell? w _ hx110_1)).trans hx110_1
                 replace hx110_2:=(HB.out.cell (World.block_lt_of_cell? w _ hx110_2)).trans hx110_2
                 replace hx110_3:=(HB.out.cell (World.block_lt_of_cell? w _ hx110_3)).trans hx110_3
                 replace p110:=eq_true p110
                 replace q110:=eq_true q110
                 have p112:0≤(x14_1:Int):=of_decide_eq_true (by first|(with_reducible assumption)|assumption)
                 have q112:x14_1 < (l1.length:Int):=of_decide_eq_true (by first|(with_reducible assumption)|assumption)
                 obtain ⟨ad112,e112,hx112_0,hx112_1,hx112_2,hx112_3⟩:=at_T38 HR1.out x14_1 p112 q112
                 have hw112_3:=hx112_3
                 have hw112_2:=hx112_2
                 have hw112_1:=hx112_1
                 have hw112_0:=hx112_0
                 obtain rfl:ad108=ad112:=(by injection e112)
                 replace hx112_0:=(HB.out.cell (World.block_lt_of_cell? w _ hx112_0)).trans hx112_0
                 replace hx112_1:=(HB.out.cell (World.block_lt_of_cell? w _ hx112_1)).trans hx112_1
                 replace hx112_2:=(HB.out.cell (World.block_lt_of_cell? w _ hx112_2)).trans hx112_2
                 replace hx112_3:=(HB.out.cell (World.block_lt_of_cell? w _ hx112_3)).trans hx112_3
                 replace p112:=eq_true p112
                 replace q112:=eq_true q112
                 obtain ⟨Ao26,co26,eo26⟩:=Kd.R_slice HO_10.out
                 (first|subst eo26|(injection eo26 with f1_ f2_ f3_;have f4_:=f1_.symm;have f5_:=f3_.symm;clear f1_ f2_ f3_;subst f4_;subst f5_))
                 have p114:0≤(x14_1:Int):=of_decide_eq_true (by first|(with_reducible assumption)|assumption)
                 have q114:x14_1 < (t103.length:Int):=of_decide_eq_true (by first|(with_reducible assumption)|assumption)
                 obtain ⟨ad114,e114,hx114_0⟩:=Kd.at_int (Kd.R_reads' HO_10.out).2.2 x14_1 p114 q114
                 cases e114
                 replace p114:=eq_true p114
                 replace q114:=eq_true q114
                 refine start_ (n:=36) (S:=fun w'=>w'.cell? (ad108.add ((x14_1).toNat * 4))=some (.int .i64 ((qaW l1 x14_1).f0))∧w'.cell? ⟨(ad108.add ((x14_1).toNat * 4)).block,(ad108.add ((x14_1).toNat * 4)).off+1,none⟩=some (.int .i64 ((qaW l1 x14_1).f1))∧w'.cell? ⟨(ad108.add ((x14_1).toNat * 4)).block,(ad108.add ((x14_1).toNat * 4)).off+2,none⟩=some (.int .i64 ((qaW l1 x14_1).f2))∧w'.cell? ⟨(ad108.add ((x14_1).toNat * 4)).block,(ad108.add ((x14_1).toNat * 4)).off+3,none⟩=some (.int .i64 ((qaW l1 x14_1).f3))∧w'.cell? (ad109.add ((((qaW l1 x14_1).f0)).toNat * 7))=some (.string ((qaF l0 ((qaW l1 x14_1).f0)).f0))∧w'.cell? ⟨(ad109.add ((((qaW l1 x14_1).f0)).toNat * 7)).block,(ad109.add ((((qaW l1 x14_1).f0)).toNat * 7)).off+1,none⟩=some (.int .i64 ((qaF l0 ((qaW l1 x14_1).f0)).f1))∧w'.cell? ⟨(ad109.add ((((qaW l1 x14_1).f0)).toNat * 7)).block,(ad109.add ((((qaW l1 x14_1).f0)).toNat * 7)).off+2,none⟩=some (.int .i64 ((qaF l0 ((qaW l1 x14_1).f0)).f2))∧w'.cell? ⟨(ad109.add ((((qaW l1 x14_1).f0)).toNat * 7)).block,(ad109.add ((((qaW l1 x14_1).f0)).toNat * 7)).off+3,none⟩=some (.int .i64 ((qaF l0 ((qaW l1 x14_1).f0)).f3))∧w'.cell? ⟨(ad109.add ((((qaW l1 x14_1).f0)).toNat * 7)).block,(ad109.add ((((qaW l1 x14_1).f0)).toNat * 7)).off+4,none⟩=some (.int .i64 ((qaF l0 ((qaW l1 x14_1).f0)).f4))∧w'.cell? ⟨(ad109.add ((((qaW l1 x14_1).f0)).toNat * 7)).block,(ad109.add ((((qaW l1 x14_1).f0)).toNat * 7)).off+5,none⟩=some (.slice A109_5 ((qaF l0 ((qaW l1 x14_1).f0)).f5).length c109_5)∧w'.cell? ⟨(ad109.add ((((qaW l1 x14_1).f0)).toNat * 7)).block,(ad109.add ((((qaW l1 x14_1).f0)).toNat * 7)).off+6,none⟩=some (.slice A109_6 ((qaF l0 ((qaW l1 x14_1).f0)).f6).length c109_6)∧w'.cell? (ad108.add ((x14_1).toNat * 4))=some (.int .i64 ((qaW l1 x14_1).f0))∧w'.cell? ⟨(ad108.add ((x14_1).toNat * 4)).block,(ad108.add ((x14_1).toNat * 4)).off+1,none⟩=some (.int .i64 ((qaW l1 x14_1).f1))∧w'.cell? ⟨(ad108.add ((x14_1).toNat * 4)).block,(ad108.add ((x14_1).toNat * 4)).off+2,none⟩=some (.int .i64 ((qaW l1 x14_1).f2))∧w'.cell? ⟨(ad108.add ((x14_1).toNat * 4)).block,(ad108.add ((x14_1).toNat * 4)).off+3,none⟩=some (.int .i64 ((qaW l1 x14_1).f3))∧w'.cell? (ad108.add ((x14_1).toNat * 4))=some (.int .i64 ((qaW l1 x14_1).f0))∧w'.cell? ⟨(ad108.add ((x14_1).toNat * 4)).block,(ad108.add ((x14_1).toNat * 4)).off+1,none⟩=some (.int .i64 ((qaW l1 x14_1).f1))∧w'.cell? ⟨(ad108.add ((x14_1).toNat * 4)).block,(ad108.add ((x14_1).toNat * 4)).off+2,none⟩=some (.int .i64 ((qaW l1 x14_1).f2))∧w'.cell? ⟨(ad108.add ((x14_1).toNat * 4)).block,(ad108.add ((x14_1).toNat * 4)).off+3,none⟩=some (.int .i64 ((qaW l1 x14_1).f3))∧w'.cell? (ad114.add (x14_1).toNat)=some (.int .i64 (rd t103 x14_1))) (ds:=[]) (bitsA 36 0) (by kernel_rfl) rfl rfl ⟨((HB.out.cell (World.block_lt_of_cell? w _ hw108_0)).trans hw108_0),((HB.out.cell (World.block_lt_of_cell? w _ hw108_1)).trans hw108_1),((HB.out.cell (World.block_lt_of_cell? w _ hw108_2)).trans hw108_2),((HB.out.cell (World.block_lt_of_cell? w _ hw108_3)).trans hw108_3),((HB.out.cell (World.block_lt_of_cell? w _ hw109_0)).trans hw109_0),((HB.out.cell (World.block_lt_of_cell? w _ hw109_1)).trans hw109_1),((HB.out.cell (World.block_lt_of_cell? w _ hw109_2)).trans hw109_2),((HB.out.cell (World.block_lt_of_cell? w _ hw109_3)).trans hw109_3),((HB.out.cell (World.block_lt_of_cell? w _ hw109_4)).trans hw109_4),((HB.out.cell (World.block_lt_of_cell? w _ hw109_5)).trans hw109_5),((HB.out.cell (World.block_lt_of_cell? w _ hw109_6)).trans hw109_6),((HB.out.cell (World.block_lt_of_cell? w _ hw110_0)).trans hw110_0),((HB.out.cell (World.block_lt_of_cell? w _ hw110_1)).trans hw110_1),((HB.out.cell (World.block_lt_of_cell? w _ hw110_2)).trans hw110_2),((HB.out.cell (World.block_lt_of_cell? w _ hw110_3)).trans hw110_3),((HB.out.cell (World.block_lt_of_cell? w _ hw112_0)).trans hw112_0),((HB.out.cell (World.block_lt_of_cell? w _ hw112_1)).trans hw112_1),((HB.out.cell (World.block_lt_of_cell? w _ hw112_2)).trans hw112_2),((HB.out.cell (World.block_lt_of_cell? w _ hw112_3)).trans hw112_3),hx114_0⟩ (fun hHeld=>?_);refine qbN sawmillref50_Text.tab9 sawmillref50_Text.bits9 (fun HT_ HW_=>?_)
                 generalize wr.drew=w25 at HO_10 HB HR109_5 HR109_6 hx108_0 hx108_1 hx108_2 hx108_3 hx109_0 hx109_1 hx109_2 hx109_3 hx109_4 hx109_5 hx109_6 hx110_0 hx110_1 hx110_2 hx110_3 hx112_0 hx112_1 hx112_2 hx112_3 hx114_0 hHeld ⊢
                 refine qaU (i:=0) (N:=some 38) (v:=?_) (a':=?_) #[true,false,false,false,false,false,false,false,false,false,false,false,false,false,false,false,false,false,false,false,false,false,false,false,false,false,false,false,false,false,false,false,false,false,false,false] rfl rfl (qaR HT_.out (by kernel_rfl)) (fun _ _ _ h=>h) (Or.inl ⟨by rfl,?_⟩) ?_ ?_
                 rotate_left;(intro w';go_simp;with_reducible rfl);rotate_left;(simp only [Act.put,List.setIfInBounds_toArray,List.set_cons_zero,List.set_cons_succ,qaO,qaP];rfl)
                 refine qaU (i:=1) (N:=some 39) (v:=?_) (a':=?_) #[true,true,false,false,false,false,false,false,false,false,false,false,false,false,false,false,false,false,false,false,false,false,false,false,false,false,false,false,false,false,false,false,false,false,false,false] rfl rfl (qaR HT_.out (by kernel_rfl)) (fun _ _ _ h=>h) (Or.inl ⟨by rfl,?_⟩) ?_ ?_
                 rotate_left;(intro w';go_simp;with_reducible rfl);rotate_left;(simp only [Act.put,List.setIfInBounds_toArray,List.set_cons_zero,List.set_cons_succ,qaO,qaP];rfl)
                 refine qaU (i:=2) (N:=some 40) (v:=?_) (a':=?_) #[true,true,true,false,false,false,false,false,false,false,false,false,false,false,false,false,false,false,false,false,false,false,false,false,false,false,false,false,false,false,false,false,false,false,false,false] rfl rfl (qaR HT_.out (by kernel_rfl)) (fun _ _ _ h=>h) (Or.inl ⟨by rfl,?_⟩) ?_ ?_
                 rotate_left;(intro w';go_simp;with_reducible rfl);rotate_left;(simp only [Act.put,List.setIfInBounds_toArray,List.set_cons_zero,List.set_cons_succ,qaO,qaP];rfl)
                 refine qaU (i:=3) (N:=some 41) (v:=?_) (a':=?_) #[true,true,true,true,false,false,false,false,false,false,false,false,false,false,false,false,false,false,false,false,false,false,false,false,false,false,false,false,false,false,false,false,false,false,false,false] rfl rfl (qaR HT_.out (by kernel_rfl)) (fun _ _ _ h=>h) (Or.inl ⟨by rfl,?_⟩) ?_ ?_
                 rotate_left;(intro w';go_simp;with_reducible rfl);rotate_left;(simp only [Act.put,List.setIfInBounds_toArray,List.set_cons_zero,List.set_cons_succ,qaO,qaP];rfl)
                 refine qaU (i:=4) (N:=some 42) (v:=?_) (a':=?_) #[true,true,true,true,true,false,false,false,false,false,false,false,false,false,false,false,false,false,false,false,false,false,false,false,false,false,false,false,false,false,false,false,false,false,false,false] rfl rfl (qaR HT_.out (by kernel_rfl)) (fun _ _ _ h=>h) (Or.inl ⟨by rfl,?_⟩) ?_ ?_
                 rotate_left;(intro w';go_simp;with_reducible rfl);rotate_left;(simp only [Act.put,List.setIfInBounds_toArray,List.set_cons_zero,List.set_cons_succ,qaO,qaP];rfl)
                 refine qaU (i:=5) (N:=some 43) (v:=?_) (a':=?_) #[true,true,true,true,true,true,false,false,false,false,false,false,false,false,false,false,false,false,false,false,false,false,false,false,false,false,false,false,false,false,false,false,false,false,false,false] rfl rfl (qaR HT_.out (by kernel_rfl)) (fun _ _ _ h=>h) (Or.inl ⟨by rfl,?_⟩) ?_ ?_
                 rotate_left;(intro w';go_simp;with_reducible rfl);rotate_left;(simp only [Act.put,List.setIfInBounds_toArray,List.set_cons_zero,List.set_cons_succ,qaO,qaP];rfl)
                 refine qaU (i:=12) (N:=some 50) (v:=?_) (a':=?_) #[true,true,true,true,true,true,false,false,false,false,false,false,true,false,false,false,false,false,false,false,false,false,false,false,false,false,false,false,false,false,false,false,false,false,false,false] rfl rfl (qaR HT_.out (by kernel_rfl)) (fun _ _ _ h=>h) (Or.inl ⟨by rfl,?_⟩) ?_ ?_
                 rotate_left;(intro w';go_simp;with_reducible rfl);rotate_left;(simp only [Act.put,List.setIfInBounds_toArray,List.set_cons_zero,List.set_cons_succ,qaO,qaP];rfl)
                 refine qaU (i:=13) (N:=some 51) (v:=?_) (a':=?_) #[true,true,true,true,true,true,false,false,false,false,false,false,true,true,false,false,false,false,false,false,false,false,false,false,false,false,false,false,false,false,false,false,false,false,false,false] rfl rfl (qaR HT_.out (by kernel_rfl)) (fun _ _ _ h=>h) (Or.inl ⟨by rfl,?_⟩) ?_ ?_
                 rotate_left;(intro w';go_simp;with_reducible rfl);rotate_left;(simp only [Act.put,List.setIfInBounds_toArray,List.set_cons_zero,List.set_cons_succ,qaO,qaP];rfl)
                 refine qaU (i:=14) (N:=some 52) (v:=?_) (a':=?_) #[true,true,true,true,true,true,false,false,false,false,false,false,true,true,true,false,false,false,false,false,false,false,false,false,false,false,false,false,false,false,false,false,false,false,false,false] rfl rfl (qaR HT_.out (by kernel_rfl)) (fun _ _ _ h=>h) (Or.inl ⟨by rfl,?_⟩) ?_ ?_
                 rotate_left;(intro w';go_simp;with_reducible rfl);rotate_left;(simp only [Act.put,List.setIfInBounds_toArray,List.set_cons_zero,List.set_cons_succ,qaO,qaP];rfl)
                 refine qaU (i:=15) (N:=some 53) (v:=?_) (a':=?_) #[true,true,true,true,true,true,false,false,false,false,false,false,true,true,true,true,false,false,false,false,false,false,false,false,false,false,false,false,false,false,false,false,false,false,false,false] rfl rfl (qaR HT_.out (by kernel_rfl)) (fun _ _ _ h=>h) (Or.inl ⟨by rfl,?_⟩) ?_ ?_
                 rotate_left;(intro w';go_simp;with_reducible rfl);rotate_left;(simp only [Act.put,List.setIfInBounds_toArray,List.set_cons_zero,List.set_cons_succ,qaO,qaP];rfl)
                 refine qaU (i:=20) (N:=some 58) (v:=?_) (a':=?_) #[true,true,true,true,true,true,false,false,false,false,false,false,true,true,true,true,false,false,false,false,true,false,false,false,false,false,false,false,false,false,false,false,false,false,false,false] rfl rfl (qaR HT_.out (by kernel_rfl)) (fun _ _ _ h=>h) (Or.inl ⟨by rfl,?_⟩) ?_ ?_
                 rotate_left;(intro w';go_simp;with_reducible rfl);rotate_left;(simp only [Act.put,List.setIfInBounds_toArray,List.set_cons_zero,List.set_cons_succ,qaO,qaP];rfl)
                 refine qaU (i:=21) (N:=some 59) (v:=?_) (a':=?_) #[true,true,true,true,true,true,false,false,false,false,false,false,true,true,true,true,false,false,false,false,true,true,false,false,false,false,false,false,false,false,false,false,false,false,false,false] rfl rfl (qaR HT_.out (by kernel_rfl)) (fun _ _ _ h=>h) (Or.inl ⟨by rfl,?_⟩) ?_ ?_
                 rotate_left;(intro w';go_simp;with_reducible rfl);rotate_left;(simp only [Act.put,List.setIfInBounds_toArray,List.set_cons_zero,List.set_cons_succ,qaO,qaP];rfl)
                 refine qaU (i:=22) (N:=some 60) (v:=?_) (a':=?_) #[true,true,true,true,true,true,false,false,false,false,false,false,true,true,true,true,false,false,false,false,true,true,true,false,false,false,false,false,false,false,false,false,false,false,false,false] rfl rfl (qaR HT_.out (by kernel_rfl)) (fun _ _ _ h=>h) (Or.inl ⟨by rfl,?_⟩) ?_ ?_
                 rotate_left;(intro w';go_simp;with_reducible rfl);rotate_left;(simp only [Act.put,List.setIfInBounds_toArray,List.set_cons_zero,List.set_cons_succ,qaO,qaP];rfl)
                 refine qaU (i:=23) (N:=some 61) (v:=?_) (a':=?_) #[true,true,true,true,true,true,false,false,false,false,false,false,true,true,true,true,false,false,false,false,true,true,true,true,false,false,false,false,false,false,false,false,false,false,false,false] rfl rfl (qaR HT_.out (by kernel_rfl)) (fun _ _ _ h=>h) (Or.inl ⟨by rfl,?_⟩) ?_ ?_
                 rotate_left;(intro w';go_simp;with_reducible rfl);rotate_left;(simp only [Act.put,List.setIfInBounds_toArray,List.set_cons_zero,List.set_cons_succ,qaO,qaP];rfl)
                 refine qaU (i:=28) (N:=some 66) (v:=?_) (a':=?_) #[true,true,true,true,true,true,false,false,false,false,false,false,true,true,true,true,false,false,false,false,true,true,true,true,false,false,false,false,true,false,false,false,false,false,false,false] rfl rfl (qaR HT_.out (by kernel_rfl)) (fun _ _ _ h=>h) (Or.inl ⟨by rfl,?_⟩) ?_ ?_
                 rotate_left;(intro w';go_simp;with_reducible rfl);rotate_left;(simp only [Act.put,List.setIfInBounds_toArray,List.set_cons_zero,List.set_cons_succ,qaO,qaP];rfl)
                 refine qaU (i:=29) (N:=some 67) (v:=?_) (a':=?_) #[true,true,true,true,true,true,false,false,false,false,false,false,true,true,true,true,false,false,false,false,true,true,true,true,false,false,false,false,true,true,false,false,false,false,false,false] rfl rfl (qaR HT_.out (by kernel_rfl)) (fun _ _ _ h=>h) (Or.inl ⟨by rfl,?_⟩) ?_ ?_
                 rotate_left;(intro w';go_simp;with_reducible rfl);rotate_left;(simp only [Act.put,List.setIfInBounds_toArray,List.set_cons_zero,List.set_cons_succ,qaO,qaP];rfl)
                 refine qaU (i:=30) (N:=some 68) (v:=?_) (a':=?_) #[true,true,true,true,true,true,false,false,false,false,false,false,true,true,true,true,false,false,false,false,true,true,true,true,false,false,false,false,true,true,true,false,false,false,false,false] rfl rfl (qaR HT_.out (by kernel_rfl)) (fun _ _ _ h=>h) (Or.inl ⟨by rfl,?_⟩) ?_ ?_
                 rotate_left;(intro w';go_simp;with_reducible rfl);rotate_left;(simp only [Act.put,List.setIfInBounds_toArray,List.set_cons_zero,List.set_cons_succ,qaO,qaP];rfl)
                 refine take_ (i:=6) (N:=some 44) (v:=?_) (a':=?_) (bitsA 36 1894838399) rfl rfl (qaX HT_.out HW_.out (by kernel_rfl)) (fun _ _ _ h=>h) (Or.inl ⟨by rfl,?_⟩) hHeld ?_ ?_
                 rotate_left;(rintro w' ⟨s0,s1,s2,s3,s4,s5,s6,s7,s8,s9,s10,s11,s12,s13,s14,s15,s16,s17,s18,s19⟩;go_simp;with_reducible rfl);rotate_left;(simp only [Act.put,List.setIfInBounds_toArray,List.set_cons_zero,List.set_cons_succ,qaO,qaP];rfl)
                 refine qaU (i:=7) (N:=some 45) (v:=?_) (a':=?_) #[true,true,true,true,true,true,true,true,false,false,false,false,true,true,true,true,false,false,false,false,true,true,true,true,false,false,false,false,true,true,true,false,false,false,false,false] rfl rfl (qaR HT_.out (by kernel_rfl)) (fun _ _ _ h=>h) (Or.inl ⟨by rfl,?_⟩) ?_ ?_
                 rotate_left;(intro w';go_simp;with_reducible rfl);rotate_left;(simp only [Act.put,List.setIfInBounds_toArray,List.set_cons_zero,List.set_cons_succ,qaO,qaP];rfl)
                 refine qaU (i:=8) (N:=some 46) (v:=?_) (a':=?_) #[true,true,true,true,true,true,true,true,true,false,false,false,true,true,true,true,false,false,false,false,true,true,true,true,false,false,false,false,true,true,true,false,false,false,false,false] rfl rfl (qaR HT_.out (by kernel_rfl)) (fun _ _ _ h=>h) (Or.inl ⟨by rfl,?_⟩) ?_ ?_
                 rotate_left;(intro w';go_simp;with_reducible rfl);rotate_left;(simp only [Act.put,List.setIfInBounds_toArray,List.set_cons_zero,List.set_cons_succ,qaO,qaP];rfl)
                 refine take_ (i:=9) (N:=some 47) (v:=?_) (a':=?_) (bitsA 36 1894839295) rfl rfl (qaX HT_.out HW_.out (by kernel_rfl)) (fun _ _ _ h=>h) (Or.inl ⟨by rfl,?_⟩) hHeld ?_ ?_
                 rotate_left;(rintro w' ⟨s0,s1,s2,s3,s4,s5,s6,s7,s8,s9,s10,s11,s12,s13,s14,s15,s16,s17,s18,s19⟩;go_simp;with_reducible rfl);rotate_left;(simp only [Act.put,List.setIfInBounds_toArray,List.set_cons_zero,List.set_cons_succ,qaO,qaP];rfl)
                 refine qaU (i:=10) (N:=some 48) (v:=?_) (a':=?_) #[true,true,true,true,true,true,true,true,true,true,true,false,true,true,true,true,false,false,false,false,true,true,true,true,false,false,false,false,true,true,true,false,false,false,false,false] rfl rfl (qaR HT_.out (by kernel_rfl)) (fun _ _ _ h=>h) (Or.inl ⟨by rfl,?_⟩) ?_ ?_
                 rotate_left;(intro w';go_simp;with_reducible rfl);rotate_left;(simp only [Act.put,List.setIfInBounds_toArray,List.set_cons_zero,List.set_cons_succ,qaO,qaP];rfl)
                 refine qaU (i:=11) (N:=some 49) (v:=?_) (a':=?_) #[true,true,true,true,true,true,true,true,true,true,true,true,true,true,true,true,false,false,false,false,true,true,true,true,false,false,false,false,true,true,true,false,false,false,false,false] rfl rfl (qaR HT_.out (by kernel_rfl)) (fun _ _ _ h=>h) (Or.inl ⟨by rfl,?_⟩) ?_ ?_
                 rotate_left;(intro w';go_simp;with_reducible rfl);rotate_left;(simp only [Act.put,List.setIfInBounds_toArray,List.set_cons_zero,List.set_cons_succ,qaO,qaP];rfl)
                 refine take_ (i:=16) (N:=some 54) (v:=?_) (a':=?_) (bitsA 36 1894907903) rfl rfl (qaX HT_.out HW_.out (by kernel_rfl)) (fun _ _ _ h=>h) (Or.inl ⟨by rfl,?_⟩) hHeld ?_ ?_
                 rotate_left;(rintro w' ⟨s0,s1,s2,s3,s4,s5,s6,s7,s8,s9,s10,s11,s12,s13,s14,s15,s16,s17,s18,s19⟩;go_simp;with_reducible rfl);rotate_left;(simp only [Act.put,List.setIfInBounds_toArray,List.set_cons_zero,List.set_cons_succ,qaO,qaP];rfl)
                 refine take_ (i:=24) (N:=some 62) (v:=?_) (a':=?_) (bitsA 36 1911685119) rfl rfl (qaX HT_.out HW_.out (by kernel_rfl)) (fun _ _ _ h=>h) (Or.inl ⟨by rfl,?_⟩) hHeld ?_ ?_
                 rotate_left;(rintro w' ⟨s0,s1,s2,s3,s4,s5,s6,s7,s8,s9,s10,s11,s12,s13,s14,s15,s16,s17,s18,s19⟩;go_simp;with_reducible rfl);rotate_left;(simp only [Act.put,List.setIfInBounds_toArray,List.set_cons_zero,List.set_cons_succ,qaO,qaP];rfl)
                 refine take_ (i:=31) (N:=some 69) (v:=?_) (a':=?_) (bitsA 36 4059168767) rfl rfl (qaX HT_.out HW_.out (by kernel_rfl)) (fun _ _ _ h=>h) (Or.inl ⟨by rfl,?_⟩) hHeld ?_ ?_
                 rotate_left;(rintro w' ⟨s0,s1,s2,s3,s4,s5,s6,s7,s8,s9,s10,s11,s12,s13,s14,s15,s16,s17,s18,s19⟩;go_simp;with_reducible rfl);rotate_left;(simp only [Act.put,List.setIfInBounds_toArray,List.set_cons_zero,List.set_cons_succ,qaO,qaP];rfl)
                 refine one_ (i:=17) (N:=some 55) (bitsA 36 4059299839) rfl rfl (qbM HT_.out (by kernel_rfl)) (by decide) (fun K hK=>?_)
                 refine goes_ Tryd.func35 (by kernel_rfl) rfl #[.int .i64 ((qaW l1 x14_1).f1)] (by rfl) rfl rfl (by (try simp only [List.map_toArray,List.map_cons,List.map_nil]);first|done|rfl|(simp only [List.length_drop,List.length_take];rfl)) ?_
                 with_reducible refine (sawmillref50_decimal.calls k1 ((qaW l1 x14_1).f1) t111 _ A15.out).mono ?_
                 rintro e w27 ⟨rfl,hb⟩
                 have HS19_:=(hb.cell (World.block_lt_of_cell? _ _ (hHeld.2.2.2.2.2.2.2.2.2.2.2.2.2.2.2.2.2.2.2))).trans (hHeld.2.2.2.2.2.2.2.2.2.2.2.2.2.2.2.2.2.2.2)
                 refine ⟨_,rfl,?_⟩
                 have n0_:=Aside0.mk (Kd.R_below (by (with_reducible repeat (first|apply Kd.R_alloc|apply Kd.R_drewN|apply Kd.R_drew));exact HO_10.out) hb)
                 have n1_:=Aside0.mk (qaH (by repeat (first|(with_reducible first|exact HB.out|apply qaD|apply qaB|apply qaE)|exact HB.out)) hb)
                 clear HO_10
                 clear HB
                 have HO_10:=n0_
                 have HB:=n1_
                 clear n0_ n1_
                 (try clear hb)
                 (try clear hb2)
                 (try clear hk)
                 (try clear hi)
                 refine hK.out _ _ ⟨((HB.out.cell (World.block_lt_of_cell? w _ hw108_0)).trans hw108_0),((HB.out.cell (World.block_lt_of_cell? w _ hw108_1)).trans hw108_1),((HB.out.cell (World.block_lt_of_cell? w _ hw108_2)).trans hw108_2),((HB.out.cell (World.block_lt_of_cell? w _ hw108_3)).trans hw108_3),((HB.out.cell (World.block_lt_of_cell? w _ hw109_0)).trans hw109_0),((HB.out.cell (World.block_lt_of_cell? w _ hw109_1)).trans hw109_1),((HB.out.cell (World.block_lt_of_cell? w _ hw109_2)).trans hw109_2),((HB.out.cell (World.block_lt_of_cell? w _ hw109_3)).trans hw109_3),((HB.out.cell (World.block_lt_of_cell? w _ hw109_4)).trans hw109_4),((HB.out.cell (World.block_lt_of_cell? w _ hw109_5)).trans hw109_5),((HB.out.cell (World.block_lt_of_cell? w _ hw109_6)).trans hw109_6),((HB.out.cell (World.block_lt_of_cell? w _ hw110_0)).trans hw110_0),((HB.out.cell (World.block_lt_of_cell? w _ hw110_1)).trans hw110_1),((HB.out.cell (World.block_lt_of_cell? w _ hw110_2)).trans hw110_2),((HB.out.cell (World.block_lt_of_cell? w _ hw110_3)).trans hw110_3),((HB.out.cell (World.block_lt_of_cell? w _ hw112_0)).trans hw112_0),((HB.out.cell (World.block_lt_of_cell? w _ hw112_1)).trans hw112_1),((HB.out.cell (World.block_lt_of_cell? w _ hw112_2)).trans hw112_2),((HB.out.cell (World.block_lt_of_cell? w _ hw112_3)).trans hw112_3),HS19_⟩ (fun hHeld=>?_)
                 clear hK K
                 refine norm_ (a':=?_) ?_ ?_
                 rotate_left
                 ·show Act.put _ (some 55) _=_
                  simp only [Act.put,List.setIfInBounds_toArray,List.set_cons_zero,List.set_cons_succ,qaO,qaP]
                  rfl
                 refine qaU (i:=18) (N:=some 56) (v:=?_) (a':=?_) #[true,true,true,true,true,true,true,true,true,true,true,true,true,true,true,true,true,true,true,false,true,true,true,true,true,false,false,false,true,true,true,true,false,false,false,false] rfl rfl (qaR HT_.out (by kernel_rfl)) (fun _ _ _ h=>h) (Or.inl ⟨by rfl,?_⟩) ?_ ?_
                 rotate_left;(intro w';go_simp;with_reducible rfl);rotate_left;(simp only [Act.put,List.setIfInBounds_toArray,List.set_cons_zero,List.set_cons_succ,qaO,qaP];rfl)
                 refine qaU (i:=19) (N:=some 57) (v:=?_) (a':=?_) #[true,true,true,true,true,true,true,true,true,true,true,true,true,true,true,true,true,true,true,true,true,true,true,true,true,false,false,false,true,true,true,true,false,false,false,false] rfl rfl (qaR HT_.out (by kernel_rfl)) (fun _ _ _ h=>h) (Or.inl ⟨by rfl,?_⟩) ?_ ?_
                 rotate_left;(intro w';go_simp;with_reducible rfl);rotate_left;(simp only [Act.put,List.setIfInBounds_toArray,List.set_cons_zero,List.set_cons_succ,qaO,qaP];rfl)
                 refine one_ (i:=25) (N:=some 63) (bitsA 36 4093640703) rfl rfl (qbM HT_.out (by kernel_rfl)) (by decide) (fun K hK=>?_)
                 refine goes_ Tryd.func35 (by kernel_rfl) rfl #[.int .i64 ((qaW l1 x14_1).f2)] (by rfl) rfl rfl (by (try simp only [List.map_toArray,List.map_cons,List.map_nil]);first|done|rfl|(simp only [List.length_drop,List.length_take];rfl)) ?_
                 with_reducible refine (sawmillref50_decimal.calls k1 ((qaW l1 x14_1).f2) t113 _ A18.out).mono ?_
                 rintro e w28 ⟨rfl,hb⟩
                 have HS19_:=(hb.cell (World.block_lt_of_cell? _ _ (hHeld.2.2.2.2.2.2.2.2.2.2.2.2.2.2.2.2.2.2.2))).trans (hHeld.2.2.2.2.2.2.2.2.2.2.2.2.2.2.2.2.2.2.2)
                 refine ⟨_,rfl,?_⟩
                 have n0_:=Aside0.mk (Kd.R_below (by (with_reducible repeat (first|apply Kd.R_alloc|apply Kd.R_drewN|apply Kd.R_drew));exact HO_10.out) hb)
                 have n1_:=Aside0.mk (qaH (by repeat (first|(with_reducible first|exact HB.out|apply qaD|apply qaB|apply qaE)|exact HB.out)) hb)
                 clear HO_10
                 clear HB
                 have HO_10:=n0_
                 have HB:=n1_
                 clear n0_ n1_
                 (try clear hb)
                 (try clear hb2)
                 (try clear hk)
                 (try clear hi)
                 refine hK.out _ _ ⟨((HB.out.cell (World.block_lt_of_cell? w _ hw108_0)).trans hw108_0),((HB.out.cell (World.block_lt_of_cell? w _ hw108_1)).trans hw108_1),((HB.out.cell (World.block_lt_of_cell? w _ hw108_2)).trans hw108_2),((HB.out.cell (World.block_lt_of_cell? w _ hw108_3)).trans hw108_3),((HB.out.cell (World.block_lt_of_cell? w _ hw109_0)).trans hw109_0),((HB.out.cell (World.block_lt_of_cell? w _ hw109_1)).trans hw109_1),((HB.out.cell (World.block_lt_of_cell? w _ hw109_2)).trans hw109_2),((HB.out.cell (World.block_lt_of_cell? w _ hw109_3)).trans hw109_3),((HB.out.cell (World.block_lt_of_cell? w _ hw109_4)).trans hw109_4),((HB.out.cell (World.block_lt_of_cell? w _ hw109_5)).trans hw109_5),((HB.out.cell (World.block_lt_of_cell? w _ hw109_6)).trans hw109_6),((HB.out.cell (World.block_lt_of_cell? w _ hw110_0)).trans hw110_0),((HB.out.cell (World.block_lt_of_cell? w _ hw110_1)).trans hw110_1),((HB.out.cell (World.block_lt_of_cell? w _ hw110_2)).trans hw110_2),((HB.out.cell (World.block_lt_of_cell? w _ hw110_3)).trans hw110_3),((HB.out.cell (World.block_lt_of_cell? w _ hw112_0)).trans hw112_0),((HB.out.cell (World.block_lt_of_cell? w _ hw112_1)).trans hw112_1),((HB.out.cell (World.block_lt_of_cell? w _ hw112_2)).trans hw112_2),((HB.out.cell (World.block_lt_of_cell? w _ hw112_3)).trans hw112_3),HS19_⟩ (fun hHeld=>?_)
                 clear hK K
                 refine norm_ (a':=?_) ?_ ?_
                 rotate_left
                 ·show Act.put _ (some 63) _=_
                  simp only [Act.put,List.setIfInBounds_toArray,List.set_cons_zero,List.set_cons_succ,qaO,qaP]
                  rfl
                 refine qaU (i:=26) (N:=some 64) (v:=?_) (a':=?_) #[true,true,true,true,true,true,true,true,true,true,true,true,true,true,true,true,true,true,true,true,true,true,true,true,true,true,true,false,true,true,true,true,false,false,false,false] rfl rfl (qaR HT_.out (by kernel_rfl)) (fun _ _ _ h=>h) (Or.inl ⟨by rfl,?_⟩) ?_ ?_
                 rotate_left;(intro w';go_simp;with_reducible rfl);rotate_left;(simp only [Act.put,List.setIfInBounds_toArray,List.set_cons_zero,List.set_cons_succ,qaO,qaP];rfl)
                 refine qaU (i:=27) (N:=some 65) (v:=?_) (a':=?_) #[true,true,true,true,true,true,true,true,true,true,true,true,true,true,true,true,true,true,true,true,true,true,true,true,true,true,true,true,true,true,true,true,false,false,false,false] rfl rfl (qaR HT_.out (by kernel_rfl)) (fun _ _ _ h=>h) (Or.inl ⟨by rfl,?_⟩) ?_ ?_
                 rotate_left;(intro w';go_simp;with_reducible rfl);rotate_left;(simp only [Act.put,List.setIfInBounds_toArray,List.set_cons_zero,List.set_cons_succ,qaO,qaP];rfl)
                 refine one_ (i:=32) (N:=some 70) (bitsA 36 8589934591) rfl rfl (qbM HT_.out (by kernel_rfl)) (by decide) (fun K hK=>?_)
                 refine goes_ Tryd.func35 (by kernel_rfl) rfl #[.int .i64 (rd t103 x14_1)] (by rfl) rfl rfl (by (try simp only [List.map_toArray,List.map_cons,List.map_nil]);first|done|rfl|(simp only [List.length_drop,List.length_take];rfl)) ?_
                 with_reducible refine (sawmillref50_decimal.calls k1 (rd t103 x14_1) t115 _ A22.out).mono ?_
                 rintro e w29 ⟨rfl,hb⟩
                 have HS19_:=(hb.cell (World.block_lt_of_cell? _ _ (hHeld.2.2.2.2.2.2.2.2.2.2.2.2.2.2.2.2.2.2.2))).trans (hHeld.2.2.2.2.2.2.2.2.2.2.2.2.2.2.2.2.2.2.2)
                 refine ⟨_,rfl,?_⟩
                 have n0_:=Aside0.mk (Kd.R_below (by (with_reducible repeat (first|apply Kd.R_alloc|apply Kd.R_drewN|apply Kd.R_drew));exact HO_10.out) hb)
                 have n1_:=Aside0.mk (qaH (by repeat (first|(with_reducible first|exact HB.out|apply qaD|apply qaB|apply qaE)|exact HB.out)) hb)
                 clear HO_10
                 clear HB
                 have HO_10:=n0_
                 have HB:=n1_
                 clear n0_ n1_
                 (try clear hb)
                 (try clear hb2)
                 (try clear hk)
                 (try clear hi)
                 refine hK.out _ _ ⟨((HB.out.cell (World.block_lt_of_cell? w _ hw108_0)).trans hw108_0),((HB.out.cell (World.block_lt_of_cell? w _ hw108_1)).trans hw108_1),((HB.out.cell (World.block_lt_of_cell? w _ hw108_2)).trans hw108_2),((HB.out.cell (World.block_lt_of_cell? w _ hw108_3)).trans hw108_3),((HB.out.cell (World.block_lt_of_cell? w _ hw109_0)).trans hw109_0),((HB.out.cell (World.block_lt_of_cell? w _ hw109_1)).trans hw109_1),((HB.out.cell (World.block_lt_of_cell? w _ hw109_2)).trans hw109_2),((HB.out.cell (World.block_lt_of_cell? w _ hw109_3)).trans hw109_3),((HB.out.cell (World.block_lt_of_cell? w _ hw109_4)).trans hw109_4),((HB.out.cell (World.block_lt_of_cell? w _ hw109_5)).trans hw109_5),((HB.out.cell (World.block_lt_of_cell? w _ hw109_6)).trans hw109_6),((HB.out.cell (World.block_lt_of_cell? w _ hw110_0)).trans hw110_0),((HB.out.cell (World.block_lt_of_cell? w _ hw110_1)).trans hw110_1),((HB.out.cell (World.block_lt_of_cell? w _ hw110_2)).trans hw110_2),((HB.out.cell (World.block_lt_of_cell? w _ hw110_3)).trans hw110_3),((HB.out.cell (World.block_lt_of_cell? w _ hw112_0)).trans hw112_0),((HB.out.cell (World.block_lt_of_cell? w _ hw112_1)).trans hw112_1),((HB.out.cell (World.block_lt_of_cell? w _ hw112_2)).trans hw112_2),((HB.out.cell (World.block_lt_of_cell? w _ hw112_3)).trans hw112_3),HS19_⟩ (fun hHeld=>?_)
                 clear hK K
                 refine norm_ (a':=?_) ?_ ?_
                 rotate_left
                 ·show Act.put _ (some 70) _=_
                  simp only [Act.put,List.setIfInBounds_toArray,List.set_cons_zero,List.set_cons_succ,qaO,qaP]
                  rfl
                 refine qaU (i:=33) (N:=some 71) (v:=?_) (a':=?_) #[true,true,true,true,true,true,true,true,true,true,true,true,true,true,true,true,true,true,true,true,true,true,true,true,true,true,true,true,true,true,true,true,true,true,false,false] rfl rfl (qaR HT_.out (by kernel_rfl)) (fun _ _ _ h=>h) (Or.inl ⟨by rfl,?_⟩) ?_ ?_
                 rotate_left;(intro w';go_simp;with_reducible rfl);rotate_left;(simp only [Act.put,List.setIfInBounds_toArray,List.set_cons_zero,List.set_cons_succ,qaO,qaP];rfl)
                 refine qaU (i:=34) (N:=some 72) (v:=?_) (a':=?_) #[true,true,true,true,true,true,true,true,true,true,true,true,true,true,true,true,true,true,true,true,true,true,true,true,true,true,true,true,true,true,true,true,true,true,true,false] rfl rfl (qaR HT_.out (by kernel_rfl)) (fun _ _ _ h=>h) (Or.inl ⟨by rfl,?_⟩) ?_ ?_
                 rotate_left;(intro w';go_simp;with_reducible rfl);rotate_left;(simp only [Act.put,List.setIfInBounds_toArray,List.set_cons_zero,List.set_cons_succ,qaO,qaP];rfl)
                 refine qaU (i:=35) (N:=some 13) (v:=?_) (a':=?_) #[true,true,true,true,true,true,true,true,true,true,true,true,true,true,true,true,true,true,true,true,true,true,true,true,true,true,true,true,true,true,true,true,true,true,true,true] rfl rfl (qaR HT_.out (by kernel_rfl)) (fun _ _ _ h=>h) (Or.inl ⟨by rfl,?_⟩) ?_ ?_
                 rotate_left;(intro w';go_simp;with_reducible rfl);rotate_left;(simp only [Act.put,List.setIfInBounds_toArray,List.set_cons_zero,List.set_cons_succ,qaO,qaP];rfl)
                 refine done_ (done_of HT_.out (by kernel_rfl)) ?_
                 try go_wp2
                 go_roundg k1
                 case measure=>have:=HK1.out;omega
                 case rel=>exact ⟨((((((((x13_1++((qaF l0 ((qaW l1 x14_1).f0)).f0))++(⟨#[32]⟩:ByteArray))++t111)++(⟨#[32]⟩:ByteArray))++t113)++(⟨#[32]⟩:ByteArray))++t115)++(⟨#[10]⟩:ByteArray)),(wrap64 (x14_1+1)),(by first|rfl|(simp;done)|(simp [*];done)),(by first|rfl|(simp;done)|(simp [*];done)),H',⟨by have:=HK1.out;omega⟩,⟨by (with_reducible repeat (first|apply Kd.R_alloc|apply Kd.R_drewN|apply Kd.R_drew));exact HO_10.out⟩,⟨by repeat (first|(with_reducible first|exact HB.out|apply qaD|apply qaB|apply qaE)|exact HB.out)⟩⟩
                ·rw [if_neg c24] at H
                 exact absurd H (by simp)
               ·rw [if_neg c23] at H
                exact absurd H (by simp)
              ·rw [if_neg c21] at H
               exact absurd H (by simp)
             ·rw [if_neg c20] at H
              exact absurd H (by simp)
            ·rw [if_neg c19] at H
             exact absurd H (by simp)
           ·rw [if_neg c17] at H
            exact absurd H (by simp)
          ·rw [if_neg c16] at H
           exact absurd H (by simp)
         ·rw [if_neg c14] at H
          exact absurd H (by simp)
        ·rw [if_neg c13] at H
         exact absurd H (by simp)
       ·rw [if_neg c12] at H
        exact absurd H (by simp)
      ·rw [if_neg c11] at H
       exact absurd H (by simp)
     ·rw [if_neg c10] at H
      exact absurd H (by simp)
    ·rw [if_neg c9] at H
     have c9b0:decide (x14_1 < (l1.length:Int))=false:=decide_eq_false c9
     clear c9
     by_cases c30:x13_1.size+9≤9223372036854775807
     ·rw [if_pos c30] at H
      have c30b0:=eq_true c30
      have c30b1:decide (x13_1.size+9≤9223372036854775807)=true:=decide_eq_true c30
      try have c30b2:(9223372036854775807 < x13_1.size+9)=False:=eq_false (Nat.not_lt.2 c30)
      replace H:=Option.bind_eq_some_iff.mp H
      obtain ⟨t116,A310,H⟩:=H
      replace H:(if x13_1.size+9+t116.size≤9223372036854775807 then (if x13_1.size+9+t116.size+7≤9223372036854775807 then ((sawmillref50_decimal.f k1 t101).bind fun t117=>(if x13_1.size+9+t116.size+7+t117.size≤9223372036854775807 then (if x13_1.size+9+t116.size+7+t117.size+1≤9223372036854775807 then (some (((((x13_1++(⟨#[100,105,115,99,111,117,110,116,32]⟩:ByteArray))++t116)++(⟨#[10,116,111,116,97,108,32]⟩:ByteArray))++t117)++(⟨#[10]⟩:ByteArray),0)) else (none)) else (none))) else (none)) else (none))=some (r1,r2):=H
      have A31:=Aside0.mk A310
      clear A310
      by_cases c32:x13_1.size+9+t116.size≤9223372036854775807
      ·rw [if_pos c32] at H
       have c32b0:=eq_true c32
       have c32b1:decide (x13_1.size+9+t116.size≤9223372036854775807)=true:=decide_eq_true c32
       try have c32b2:(9223372036854775807 < x13_1.size+9+t116.size)=False:=eq_false (Nat.not_lt.2 c32)
       by_cases c33:x13_1.size+9+t116.size+7≤9223372036854775807
       ·rw [if_pos c33] at H
        have c33b0:=eq_true c33
        have c33b1:decide (x13_1.size+9+t116.size+7≤9223372036854775807)=true:=decide_eq_true c33
        try have c33b2:(9223372036854775807 < x13_1.size+9+t116.size+7)=False:=eq_false (Nat.not_lt.2 c33)
        replace H:=Option.bind_eq_some_iff.mp H
        obtain ⟨t117,A340,H⟩:=H
        replace H:(if x13_1.size+9+t116.size+7+t117.size≤9223372036854775807 then (if x13_1.size+9+t116.size+7+t117.size+1≤9223372036854775807 then (some (((((x13_1++(⟨#[100,105,115,99,111,117,110,116,32]⟩:ByteArray))++t116)++(⟨#[10,116,111,116,97,108,32]⟩:ByteArray))++t117)++(⟨#[10]⟩:ByteArray),0)) else (none)) else (none))=some (r1,r2):=H
        have A34:=Aside0.mk A340
        clear A340
        by_cases c35:x13_1.size+9+t116.size+7+t117.size≤9223372036854775807
        ·rw [if_pos c35] at H
         have c35b0:=eq_true c35
         have c35b1:decide (x13_1.size+9+t116.size+7+t117.size≤9223372036854775807)=true:=decide_eq_true c35
         try have c35b2:(9223372036854775807 < x13_1.size+9+t116.size+7+t117.size)=False:=eq_false (Nat.not_lt.2 c35)
         by_cases c36:x13_1.size+9+t116.size+7+t117.size+1≤9223372036854775807
         ·rw [if_pos c36] at H
          have c36b0:=eq_true c36
          have c36b1:decide (x13_1.size+9+t116.size+7+t117.size+1≤9223372036854775807)=true:=decide_eq_true c36
          try have c36b2:(9223372036854775807 < x13_1.size+9+t116.size+7+t117.size+1)=False:=eq_false (Nat.not_lt.2 c36)
          simp only [Option.some.injEq,Prod.mk.injEq] at H
          obtain ⟨rfl,rfl⟩:=H
          go_wp2_with (first|((with_reducible refine qaS (f:=35) rfl ?_);refine qbE (some 78) rfl rfl Tryd.func35 (by kernel_rfl) rfl #[.int .i64 (wrap64 (t104 - t101))] rfl (by (try simp only [List.map_toArray,List.map_cons,List.map_nil]);first|done|rfl|(simp only [List.length_drop,List.length_take];rfl)) ?_;(with_reducible refine (sawmillref50_decimal.calls k1 (wrap64 (t104 - t101)) t116 _ A31.out).mono ?_);rintro e w37 ⟨rfl,hb⟩;refine ⟨_,rfl,?_⟩;have n0_:=Aside0.mk (Kd.R_below (by (with_reducible repeat (first|apply Kd.R_alloc|apply Kd.R_drewN|apply Kd.R_drew));exact HO_10.out) hb);have n1_:=Aside0.mk (qaH (by repeat (first|(with_reducible first|exact HB.out|apply qaD|apply qaB|apply qaE)|exact HB.out)) hb);clear HO_10;clear HB;have HO_10:=n0_;have HB:=n1_;clear n0_ n1_;(try clear hb);(try clear hb2);(try clear hk);(try clear hi))|((with_reducible refine qaS (f:=35) rfl ?_);refine qbE (some 82) rfl rfl Tryd.func35 (by kernel_rfl) rfl #[.int .i64 t101] rfl (by (try simp only [List.map_toArray,List.map_cons,List.map_nil]);first|done|rfl|(simp only [List.length_drop,List.length_take];rfl)) ?_;(with_reducible refine (sawmillref50_decimal.calls k1 t101 t117 _ A34.out).mono ?_);rintro e w38 ⟨rfl,hb⟩;refine ⟨_,rfl,?_⟩;have n0_:=Aside0.mk (Kd.R_below (by (with_reducible repeat (first|apply Kd.R_alloc|apply Kd.R_drewN|apply Kd.R_drew));exact HO_10.out) hb);have n1_:=Aside0.mk (qaH (by repeat (first|(with_reducible first|exact HB.out|apply qaD|apply qaB|apply qaE)|exact HB.out)) hb);clear HO_10;clear HB;have HO_10:=n0_;have HB:=n1_;clear n0_ n1_;(try clear hb);(try clear hb2);(try clear hk);(try clear hi)))
          go_ret2
          exact ⟨by first|rfl|(simp [qaL,qaM]<;>rfl)|(simp [*,qaL,qaM]<;>rfl),by repeat (first|(with_reducible first|exact HB.out|apply qaD|apply qaB|apply qaE)|exact HB.out)⟩
         ·rw [if_neg c36] at H
          exact absurd H (by simp)
        ·rw [if_neg c35] at H
         exact absurd H (by simp)
       ·rw [if_neg c33] at H
        exact absurd H (by simp)
      ·rw [if_neg c32] at H
       exact absurd H (by simp)
     ·rw [if_neg c30] at H
      exact absurd H (by simp)
 ·rw [if_neg c5] at H
  have c5b0:(t102 == 0)=false:=beq_eq_false_iff_ne.mpr c5
  have c5b1:(t102 != 0)=true:=bne_iff_ne.mpr c5
  simp only [Option.some.injEq,Prod.mk.injEq] at H
  obtain ⟨rfl,rfl⟩:=H
  go_enter Tryd.func21,Tryd.ntmps21
  go_wp2_with (first|((with_reducible refine qaS (f:=19) rfl ?_);refine qbE (some 19) rfl rfl Tryd.func19 (by kernel_rfl) rfl #[.slice A0 l0.length c0,.slice A1 l1.length c1,.slice A2 l2.length c2] rfl (by (try simp only [List.map_toArray,List.map_cons,List.map_nil]);first|done|rfl|(simp only [List.length_drop,List.length_take];rfl)) ?_;(with_reducible refine (sawmillref50_Total.calls k _ _ l0 _ _ l1 _ _ l2 t101 t102 _ ?side1 ?side2 ?side3 ?side4 ?side5 ?side6 A4.out).mono ?_);(case side1=>repeat (first|exact HR0.out|(with_reducible refine Kd.C_alloc ?_ _)|(with_reducible refine Kd.C_drewN ?_ _)|(with_reducible refine Kd.C_drew ?_)));(case side2=>exact HC0.out);(case side3=>repeat (first|exact HR1.out|(with_reducible refine Kd.C_alloc ?_ _)|(with_reducible refine Kd.C_drewN ?_ _)|(with_reducible refine Kd.C_drew ?_)));(case side4=>exact HC1.out);(case side5=>repeat (first|exact HR2.out|(with_reducible refine Kd.C_alloc ?_ _)|(with_reducible refine Kd.C_drewN ?_ _)|(with_reducible refine Kd.C_drew ?_)));(case side6=>exact HC2.out);rintro e w39 ⟨rfl,hb⟩;refine ⟨_,rfl,?_⟩;have n0_:=Aside0.mk (qaH (by repeat (first|(with_reducible first|exact HB.out|apply qaD|apply qaB|apply qaE)|exact HB.out)) hb);clear HB;have HB:=n0_;clear n0_;(try clear hb);(try clear hb2);(try clear hk);(try clear hi)))
  go_ret2
  exact ⟨by first|rfl|(simp [qaL,qaM]<;>rfl)|(simp [*,qaL,qaM]<;>rfl),by repeat (first|(with_reducible first|exact HB.out|apply qaD|apply qaB|apply qaE)|exact HB.out)⟩
end Go.Proofs.YtojkjhaobjidlaaDoor.P
namespace Go.Proofs.YtojkjhaobjidlaaDoor.P
open Go.RowKit Go.Proofs.YtojkjhaobjidlaaDoorW.PrintWords Go.Proofs.YtojkjhaobjidlaaDoorW.PrintMore
set_option linter.unusedVariables false
set_option linter.unusedSimpArgs false
abbrev IR:=S38
def cvI (x:IT):IR:=⟨x.f0,x.f1,x.f2,x.f3⟩
theorem rdIR_get (l:List IT) (i:Nat) (h:i < l.length):qaW (l.map cvI) (i:Int)=cvI l[i]:=by
 unfold qaW
 rw [List.getD_eq_getElem?_getD,List.getElem?_eq_getElem (by simpa using h)]
 simp
theorem items_l0 (l:List IT) (hl:l.length≤1000):∀ (d k i:Nat),i+d=l.length→d < k→sawmilllaw50_items.l0 k l ((l.take i).map cvI) (i:Int)=some (l.map cvI):=by
 intro d
 induction d with
 | zero =>
  intro k i hi hk
  obtain ⟨k,rfl⟩:∃ m,k=m+1:=⟨k - 1,by omega⟩
  simp only [sawmilllaw50_items.l0]
  rw [if_neg (by omega),List.take_of_length_le (by omega)]
 | succ d ih =>
  intro k i hi hk
  obtain ⟨k,rfl⟩:∃ m,k=m+1:=⟨k - 1,by omega⟩
  have h2:i < l.length:=by omega
  have h3:((l.take i).map cvI).length < 4398046511104:=by rw [List.length_map,List.length_take];omega
  have hs:=ih k (i+1) (by omega) (by omega)
  have e2:(l.take i).map cvI++[(⟨(qaY l (i:Int)).f0,(qaY l (i:Int)).f1,(qaY l (i:Int)).f2,(qaY l (i:Int)).f3⟩:IR)]=(l.take (i+1)).map cvI:=by
   rw [List.take_add_one,List.getElem?_eq_getElem h2,List.map_append,rdI_get i h2]
   rfl
  simp only [sawmilllaw50_items.l0]
  rw [if_pos (by omega),if_pos (by omega),if_pos h3,e2,wrap_nat i 1000000 (by omega) (by omega)]
  exact hs
theorem items_f (l:List IT) (hl:l.length≤1000) (k:Nat) (hk:l.length < k):sawmilllaw50_items.f k l=some (l.map cvI):=items_l0 l hl l.length k 0 (by omega) hk
def sumGo (c:List PR):List Int→Int→List IT→List Int × Int × Int
 | acc,n,[]=>(acc,n,0)
 | acc,n,x :: l=>if (qbK c x).2=0 then sumGo c (acc++[(qbK c x).1]) (n+(qbK c x).1) l else ([],0,(qbK c x).2)
def sumE (c:List PR) (l:List IT):List Int × Int × Int:=if 32 < l.length then ([],0,4) else sumGo c [] 0 l
theorem inv_sumGo (c:List PR) (t:List TI):∀ (l:List IT) (acc:List Int) (n:Int),invGo c t acc n l=if (sumGo c acc n l).2.2=0 then (if (discB t (sumGo c acc n l).2.1).2=0 then ((sumGo c acc n l).1,(discB t (sumGo c acc n l).2.1).1,(sumGo c acc n l).2.1 - (discB t (sumGo c acc n l).2.1).1,0) else ([],0,0,(discB t (sumGo c acc n l).2.1).2)) else ([],0,0,(sumGo c acc n l).2.2):=by
 intro l
 induction l with
 | nil=>intro acc n;rw [invGo,sumGo];rfl
 | cons x l ih =>
  intro acc n
  rw [invGo,sumGo]
  by_cases g:(qbK c x).2=0
  ·rw [if_pos g,if_pos g]
   exact ih _ _
  ·rw [if_neg g,if_neg g,if_neg (show ¬ (qbK c x).2=0 from g)]
theorem inv_sum (c:List PR) (l:List IT) (t:List TI):invB c l t=if (sumE c l).2.2=0 then (if (discB t (sumE c l).2.1).2=0 then ((sumE c l).1,(discB t (sumE c l).2.1).1,(sumE c l).2.1 - (discB t (sumE c l).2.1).1,0) else ([],0,0,(discB t (sumE c l).2.1).2)) else ([],0,0,(sumE c l).2.2):=by
 unfold invB sumE
 by_cases h:32 < l.length
 ·rw [if_pos h,if_pos h]
  rfl
 ·rw [if_neg h,if_neg h]
  exact inv_sumGo c t l [] 0
theorem r50_sum_l0 (c:List PR) (hn:∀ p ∈ c,p.f0.size≤100) (l:List IT) (hl:l.length≤1000):∀ (d k i:Nat) (acc:List Int) (n:Int),i+d=l.length→d+1220 < k→acc.length=i→0≤n→n≤800000000000 * (i:Int)→sawmillref50_sum.l0 k c (l.map cvI) acc n (i:Int)=some (sumGo c acc n (l.drop i)):=by
 intro d
 induction d with
 | zero =>
  intro k i acc n hi hk ha h0 h1
  obtain ⟨k,rfl⟩:∃ m,k=m+1:=⟨k - 1,by omega⟩
  simp only [sawmillref50_sum.l0,List.length_map]
  rw [if_neg (by omega),List.drop_of_length_le (by omega),sumGo]
 | succ d ih =>
  intro k i acc n hi hk ha h0 h1
  obtain ⟨k,rfl⟩:∃ m,k=m+1:=⟨k - 1,by omega⟩
  have h2:i < l.length:=by omega
  have q0:(i:Int) < (l.length:Int):=by omega
  have q1:(0:Int)≤(i:Int):=by omega
  have q2:acc.length < 17592186044416:=by omega
  have q3:i≤1000000:=by omega
  have q4:d+1220 < k:=by omega
  have q5:1210 < k:=by omega
  have q6:i+1+d=l.length:=by omega
  have ham:=r50_amount c hn l[i] k q5
  simp only [sawmillref50_sum.l0,List.length_map]
  rw [if_pos q0,if_pos q1,rdIR_get l i h2,show (cvI l[i]).f0=l[i].f0 from rfl,show (cvI l[i]).f1=l[i].f1 from rfl,show (cvI l[i]).f2=l[i].f2 from rfl,show (cvI l[i]).f3=l[i].f3 from rfl,ham,Option.bind_some,List.drop_eq_getElem_cons h2,sumGo]
  by_cases h:(qbK c l[i]).2=0
  ·have hb:=(amount_ok c l[i] h).2.2.2.2.2.2.2.2.2.2.2.2
   rw [if_pos h,if_pos h,if_pos q2,wrap_nat i 1000000 q3 (by decide),wrap_in (n+(qbK c l[i]).1) (by omega) (by omega)]
   exact ih k (i+1) _ _ q6 q4 (by rw [List.length_append,ha];rfl) (by omega) (by omega)
  ·rw [if_neg h,if_neg h]
theorem r50_sum (c:List PR) (hn:∀ p ∈ c,p.f0.size≤100) (l:List IT) (k:Nat) (hk:1300 < k):sawmillref50_sum.f k c (l.map cvI)=some (sumE c l):=by
 unfold sawmillref50_sum.f sumE
 rw [List.length_map]
 by_cases h:32 < l.length
 ·rw [if_pos (by omega),if_pos h]
 ·rw [if_neg (by omega),if_neg h]
  exact r50_sum_l0 c hn l (by omega) l.length k 0 [] 0 (by omega) (by omega) rfl (by omega) (by omega)
theorem r50_total (c:List PR) (hn:∀ p ∈ c,p.f0.size≤100) (l:List IT) (t:List TI) (k:Nat) (hk:1300 < k):sawmillref50_Total.f k c (l.map cvI) (t.map cvT)=some ((invB c l t).2.2.1,(invB c l t).2.2.2):=by
 unfold sawmillref50_Total.f
 rw [r50_sum c hn l k hk,Option.bind_some,inv_sum]
 by_cases h:(sumE c l).2.2=0
 ·rw [if_pos h,if_pos h,rdisc_f t _ k (by omega),Option.bind_some]
  by_cases g:(discB t (sumE c l).2.1).2=0
  ·obtain ⟨-,d0,d1,d2,d3⟩:=disc_ok t _ g
   rw [if_pos g,if_pos g,wrap_in ((sumE c l).2.1 - (discB t (sumE c l).2.1).1) (by omega) (by omega)]
  ·rw [if_neg g,if_neg g]
 ·rw [if_neg h,if_neg h]
theorem dec_f:∀ (d n k:Nat),n < 10 ^ d→d < k→n≤1000000000000000000→sawmillref50_decimal.f k (n:Int)=some ⟨(Lib.decDigits n).toArray⟩:=by
 intro d
 induction d with
 | zero =>
  intro n k hn hk _
  obtain ⟨k,rfl⟩:∃ m,k=m+1:=⟨k - 1,by omega⟩
  obtain rfl:n=0:=by simpa using hn
  simp only [sawmillref50_decimal.f]
  rw [Lib.decDigits_one (by omega),Option.bind_some,if_pos (by omega),show (wrap64 (48+Int.tmod ((0:Nat):Int) 10)) % 256=48 by decide +kernel]
  rfl
 | succ d ih =>
  intro n k hn hk hb
  obtain ⟨k,rfl⟩:∃ m,k=m+1:=⟨k - 1,by omega⟩
  simp only [sawmillref50_decimal.f]
  have e1:(wrap64 (48+Int.tmod (n:Int) 10)) % 256=((48+n % 10:Nat):Int):=by
   rw [show Int.tmod (n:Int) 10=((n % 10:Nat):Int) from rfl]
   unfold wrap64
   omega
  have e2:wrap64 (Int.tdiv (n:Int) 10)=((n / 10:Nat):Int):=by
   rw [show Int.tdiv (n:Int) 10=((n / 10:Nat):Int) from rfl]
   unfold wrap64
   omega
  rw [e1,Option.bind_some]
  have e3:strOfNums [((48+n % 10:Nat):Int)]=⟨#[UInt8.ofNat (48+n % 10)]⟩:=rfl
  rw [e3]
  by_cases g:n < 10
  ·rw [if_pos (by omega),Lib.decDigits_one g,Nat.mod_eq_of_lt g]
  ·rw [if_neg (by omega),e2,ih (n / 10) k (by rw [Nat.pow_succ] at hn;omega) (by omega) (by omega),Option.bind_some]
   have hl:(⟨(Lib.decDigits (n / 10)).toArray⟩:ByteArray).size≤21:=by
    have:=Lib.itoa_length_le ((n / 10:Nat):Int) (by omega) (by omega)
    rw [Lib.itoa_nonneg] at this
    simpa [ByteArray.size] using this
   rw [if_pos (by have:(⟨#[UInt8.ofNat (48+n % 10)]⟩:ByteArray).size=1:=rfl;omega)]
   rw [show Lib.decDigits n=Lib.decDigits (n / 10)++[UInt8.ofNat (48+n % 10)] by rw [Lib.decDigits,dif_neg g]]
   first|(congr 1;done)|(congr 1;apply ByteArray.ext;simp)
def dg (n:Int):ByteArray:=⟨(Lib.itoa n).toArray⟩
theorem dec_at (n:Int) (h0:0≤n) (h1:n≤1000000000000000) (k:Nat) (hk:40 < k):sawmillref50_decimal.f k n=some (dg n)∧(dg n).size≤21:=by
 obtain ⟨m,rfl⟩:=Int.eq_ofNat_of_zero_le h0
 have hm:m≤1000000000000000:=by omega
 refine ⟨?_,?_⟩
 ·rw [dec_f 16 m k (by show m < 10000000000000000;omega) (by omega) (by omega)]
  unfold dg
  rw [Lib.itoa_nonneg]
 ·have:=Lib.itoa_length_le (m:Int) (by omega) (by omega)
  exact this
theorem ba_ext {a b:ByteArray} (h:a.data.toList=b.data.toList):a=b:=by
 apply ByteArray.ext
 exact Array.toList_inj.mp h
theorem line3 (t nm:ByteArray) (x y z:Int):((((((((t++nm)++(⟨#[32]⟩:ByteArray))++dg x)++(⟨#[32]⟩:ByteArray))++dg y)++(⟨#[32]⟩:ByteArray))++dg z)++(⟨#[10]⟩:ByteArray))=t++lineB nm [x,y,z]:=by
 unfold lineB
 simp only [List.foldl_cons,List.foldl_nil,addN]
 apply ba_ext
 simp only [ByteArray.toList_data_append,List.append_assoc]
 rfl
theorem rdI_row (c:List PR) (l:List IT) (j:Nat) (h:j < l.length):rd (l.map (fun x=>(qbK c x).1)) (j:Int)=(qbK c l[j]).1:=by
 rw [rd_get_ j (by simpa using h)]
 simp
theorem r50_text_l0 (c:List PR) (l:List IT) (hl:l.length≤32) (hok:∀ x ∈ l,(qbK c x).2=0) (tot n:Int) (h0:0≤tot) (h1:tot≤n) (h2:n≤1000000000000000):∀ (d k i:Nat) (t:ByteArray),i+d=l.length→d+60 < k→t.size≤200 * i→sawmillref50_Text.l0 k c (l.map cvI) tot (l.map (fun x=>(qbK c x).1)) n t (i:Int)=some ((textB c l (l.map (fun x=>(qbK c x).1)) d i t++lineB (wordB 1 ⟨#[]⟩) [n - tot])++lineB (wordB 2 ⟨#[]⟩) [tot],0):=by
 intro d
 induction d with
 | zero =>
  intro k i t hi hk ht
  obtain ⟨k,rfl⟩:∃ m,k=m+1:=⟨k - 1,by omega⟩
  obtain ⟨p1,p2⟩:=dec_at (n - tot) (by omega) (by omega) k (by omega)
  obtain ⟨p3,p4⟩:=dec_at tot (by omega) (by omega) k (by omega)
  have s1:t.size≤6400:=by omega
  simp only [sawmillref50_Text.l0,List.length_map]
  rw [if_neg (by omega),if_pos (by omega),wrap_in (n - tot) (by omega) (by omega),p1,Option.bind_some,if_pos (by omega),if_pos (by omega),p3,Option.bind_some,if_pos (by omega),if_pos (by omega),textB]
  congr 2
  unfold lineB wordB
  simp only [List.foldl_cons,List.foldl_nil,addN]
  apply ba_ext
  simp only [ByteArray.toList_data_append,List.append_assoc]
  rfl
 | succ d ih =>
  intro k i t hi hk ht
  obtain ⟨k,rfl⟩:∃ m,k=m+1:=⟨k - 1,by omega⟩
  have hi2:i < l.length:=by omega
  obtain ⟨-,a1,a2,a3,a4,a5,a6,a7,a8,-,hp,-,a12,a13⟩:=amount_ok c l[i] (hok _ (List.getElem_mem hi2))
  have hns:=name_small hp.nm
  obtain ⟨p1,p2⟩:=dec_at l[i].f1 (by omega) (by omega) k (by omega)
  obtain ⟨p3,p4⟩:=dec_at l[i].f2 (by omega) (by omega) k (by omega)
  obtain ⟨p5,p6⟩:=dec_at (qbK c l[i]).1 a12 (by omega) k (by omega)
  have q0:(i:Int) < (l.length:Int):=by omega
  have q1:(0:Int)≤(i:Int):=by omega
  have q3:i≤1000000:=by omega
  have q4:d+60 < k:=by omega
  have q6:i+1+d=l.length:=by omega
  have s1:t.size≤6400:=by omega
  have hrow:=rdI_row c l i hi2
  have hstep:=ih k (i+1) (t++lineB (qaF c l[i].f0).f0 [l[i].f1,l[i].f2,(qbK c l[i]).1]) q6 q4 (by
   rw [ByteArray.size_append]
   have:=line_size (qaF c l[i].f0).f0 [l[i].f1,l[i].f2,(qbK c l[i]).1] (by unfold i64ok;simp only [List.all_cons,List.all_nil,Bool.and_true,Bool.and_eq_true,decide_eq_true_eq];omega)
   simp only [List.length_cons,List.length_nil] at this
   omega)
  rw [textB,rdI_get i hi2,hrow]
  unfold itemB
  rw [← hstep,← line3]
  simp only [sawmillref50_Text.l0,List.length_map]
  rw [if_pos q0,if_pos q1,rdIR_get l i hi2,show (cvI l[i]).f0=l[i].f0 from rfl,show (cvI l[i]).f1=l[i].f1 from rfl,show (cvI l[i]).f2=l[i].f2 from rfl,hrow]
  clear hstep hrow hok ih hp
  generalize (qaF c l[i].f0).f0=nm at hns ⊢
  rw [if_pos a1,if_pos a2,if_pos (by omega),if_pos (by omega),p1,Option.bind_some,if_pos (by omega),if_pos (by omega),p3,Option.bind_some,if_pos (by omega),if_pos (by omega),if_pos q0,p5,Option.bind_some,if_pos (by omega),if_pos (by omega),wrap_nat i 1000000 q3 (by decide)]
theorem r50_text (c:List PR) (hn:∀ p ∈ c,p.f0.size≤100) (l:List IT) (t:List TI) (k:Nat) (hk:1300 < k):sawmillref50_Text.f k c (l.map cvI) (t.map cvT)=some (if (invB c l t).2.2.2=0 then (fullB c l t,0) else (⟨#[]⟩,(invB c l t).2.2.2)):=by
 unfold sawmillref50_Text.f
 rw [r50_total c hn l t k hk,Option.bind_some]
 by_cases h:(invB c l t).2.2.2=0
 case neg=>rw [if_neg h,if_neg h]
 rw [if_pos h,if_pos h,r50_sum c hn l k hk,Option.bind_some]
 obtain ⟨h1,h2,h3,h4⟩:=inv_ok c l t h
 obtain ⟨-,d0,d1,d2,d3⟩:=disc_ok t _ h3
 have hs:sumE c l=(l.map (fun x=>(qbK c x).1),sumB c l,0):=by
  have hi:=inv_sum c l t
  have hs0:(sumE c l).2.2=0:=by
   by_cases g:(sumE c l).2.2=0
   ·exact g
   ·rw [if_neg g] at hi
    rw [hi] at h
    exact absurd h g
  rw [if_pos hs0] at hi
  by_cases g:(discB t (sumE c l).2.1).2=0
  ·rw [if_pos g,h4] at hi
   simp only [Prod.mk.injEq,and_true] at hi
   obtain ⟨i1,i2,i3⟩:=hi
   have e1:(sumE c l).2.1=sumB c l:=by omega
   have e3:sumE c l=((sumE c l).1,(sumE c l).2.1,(sumE c l).2.2):=rfl
   rw [e3,← i1,e1,hs0]
  ·rw [if_neg g] at hi
   rw [hi] at h
   exact absurd h g
 have ht:(invB c l t).2.2.1=sumB c l - (discB t (sumB c l)).1:=by rw [h4]
 have hd:(invB c l t).2.1=(discB t (sumB c l)).1:=by rw [h4]
 have ha:(invB c l t).1=l.map (fun x=>(qbK c x).1):=by rw [h4]
 have:=r50_text_l0 c l h1 h2 (sumB c l - (discB t (sumB c l)).1) (sumB c l) (by omega) (by omega) d1 l.length k 0 ⟨#[]⟩ (by omega) (by omega) (Nat.le_refl _)
 rw [show ((0:Nat):Int)=0 from rfl,show sumB c l - (sumB c l - (discB t (sumB c l)).1)=(discB t (sumB c l)).1 by omega] at this
 rw [hs]
 unfold fullB
 rw [ht,hd,ha]
 exact this
end Go.Proofs.YtojkjhaobjidlaaDoor.P
namespace Go.Proofs.YtojkjhaobjidlaaDoor.P
open Go.RowKit Go.Proofs.YtojkjhaobjidlaaDoorW.PrintWords Go.Proofs.YtojkjhaobjidlaaDoorW.PrintLast Go.Proofs.YtojkjhaobjidlaaDoorW.PrintMore
attribute [local go_sem] qbG qbH qbO qbP qbC qbD qbI qbJ
attribute [local go_sem] qbB
set_option linter.unusedVariables false
set_option linter.unusedSimpArgs false
mutual
def sawmilllaw50_small.j0:Nat→Bool→List (S53)→List (S35)→List (S56)→Option (Bool)
 | 0,_,_,_,_=>none
 | k+1,x19,x102000,x102001,x102002=>if x19=true then (some false) else (sawmilllaw50_small.l0 k 0 x102000 x102001 x102002)
def sawmilllaw50_small.l0:Nat→Int→List (S53)→List (S35)→List (S56)→Option (Bool)
 | 0,_,_,_,_=>none
 | k+1,x3,x102000,x102001,x102002=>if x3 < (x102000.length:Int) then (if 0≤x3 then (if (((qaF x102000 x3).f0).size:Int) > 100 then (some false) else (if (((qaF x102000 x3).f5).length:Int) > 12 then (some false) else (if (((qaF x102000 x3).f6).length:Int) > 12 then (some false) else (sawmilllaw50_small.l0 k (wrap64 (x3+1)) x102000 x102001 x102002)))) else (none)) else (some true)
end
def sawmilllaw50_small.f (k:Nat) (l0_0:List (S53)) (l0_1:List (S35)) (l0_2:List (S56)):Option (Bool):=if (l0_0.length:Int) > 20 then (sawmilllaw50_small.j0 k true l0_0 l0_1 l0_2) else (if (l0_1.length:Int) > 100 then (sawmilllaw50_small.j0 k true l0_0 l0_1 l0_2) else (sawmilllaw50_small.j0 k (decide ((l0_2.length:Int) > 30)) l0_0 l0_1 l0_2))
set_option maxHeartbeats 8000000 in
set_option maxRecDepth 100000 in
theorem sawmilllaw50_small.calls (k:Nat) (A0_0:Option Addr) (c0_0:Nat) (l0_0:List (S53)) (A0_1:Option Addr) (c0_1:Nat) (l0_1:List (S35)) (A0_2:Option Addr) (c0_2:Nat) (l0_2:List (S56)) (r:Bool) (w:World) (hr0_0:Kd.C k53 w A0_0 l0_0.length l0_0) (hc0_0:l0_0.length≤c0_0) (hr0_1:Kd.C k35 w A0_1 l0_1.length l0_1) (hc0_1:l0_1.length≤c0_1) (hr0_2:Kd.C k56 w A0_2 l0_2.length l0_2) (hc0_2:l0_2.length≤c0_2) (h:sawmilllaw50_small.f k l0_0 l0_1 l0_2=some r) :
  Calls Tryd.prog 10 #[.agg #[.slice A0_0 l0_0.length c0_0,.slice A0_1 l0_1.length c0_1,.slice A0_2 l0_2.length c0_2]] w fun e w'=>e=.returned (.bool r)∧Below w.heap.size w w':=by
 have hu26:=Tryd.underlying26
 have HR0_0:=Aside0.mk hr0_0
 have HC0_0:=Aside0.mk hc0_0
 clear hr0_0 hc0_0
 have HR0_1:=Aside0.mk hr0_1
 have HC0_1:=Aside0.mk hc0_1
 clear hr0_1 hc0_1
 have HR0_2:=Aside0.mk hr0_2
 have HC0_2:=Aside0.mk hc0_2
 clear hr0_2 hc0_2
 have HB:=Aside0.mk (Below.refl w.heap.size w)
 have H:(if (l0_0.length:Int) > 20 then (sawmilllaw50_small.j0 k true l0_0 l0_1 l0_2) else (if (l0_1.length:Int) > 100 then (sawmilllaw50_small.j0 k true l0_0 l0_1 l0_2) else (sawmilllaw50_small.j0 k (decide ((l0_2.length:Int) > 30)) l0_0 l0_1 l0_2)))=some r:=h
 clear h
 have HC2:=Aside0.mk H
 clear H
 go_enter Tryd.func10,Tryd.ntmps10
 go_upto_region 1 with (first|((with_reducible refine qaV (N:=1) rfl ?_);(try (refine gate_guard (by rfl) ?_;dsimp only));refine qaT ?hg (N:=1) ?hd (cs:=#[.slice A0_0 l0_0.length c0_0,.slice A0_1 l0_1.length c0_1,.slice A0_2 l0_2.length c0_2]) (t:=26) ?hr ?_;(case hd=>rfl);(case hg=>rfl);(case hr=>first|(go_simp;done)|(go_simp;rfl));intro gb101 hg w3 hbox hb;have n0_:=Aside0.mk (qaH (by repeat (first|(with_reducible first|exact HB.out|apply qaD|apply qaB|apply qaE)|exact HB.out)) hb);have n1_:=Aside0.mk (hbox);have n2_:=Aside0.mk ((by rw [hg];exact (qaN (by repeat (first|(with_reducible first|exact HB.out|apply qaD|apply qaB|apply qaE)|exact HB.out))):w.heap.size≤gb101));have n3_:=Aside0.mk ((by rw [hg];exact (qaN (by repeat (first|(with_reducible first|exact HB.out|apply qaD|apply qaB|apply qaE)|exact HB.out))):w.heap.size≤gb101));clear HB;have HB:=n0_;have BK101:=n1_;have GW101:=n2_;have GE101:=n3_;clear n0_ n1_ n2_ n3_;clear hb hbox hg))
 (try simp only [Act.put,List.setIfInBounds_toArray,List.set_cons_zero,List.set_cons_succ])
 go_cut [19] (fun v19 wc=>∃ (kq:Nat) (x19_1:Bool),v19=.bool x19_1∧Aside0 (sawmilllaw50_small.j0 kq x19_1 l0_0 l0_1 l0_2=some r)∧Aside0 (kq≤k)∧Aside0 (wc.heap[gb101]?=some (.cells #[(.slice A0_0 l0_0.length c0_0),(.slice A0_1 l0_1.length c0_1),(.slice A0_2 l0_2.length c0_2)] 26 (0,0)))∧Aside0 (Below w.heap.size w wc))
 case first =>
  have H:=HC2.out
  clear HC2
  by_cases c4:(l0_0.length:Int) > 20
  ·rw [if_pos c4] at H
   have c4b0:decide (20 < (l0_0.length:Int))=true:=decide_eq_true c4
   have c4b1:decide (20 < l0_0.length)=true:=decide_eq_true (by omega)
   clear c4
   (first|rw [c4b0]|(simp only [qaO,qaP];rw [c4b0])|skip)
   have H':=Aside0.mk H
   clear H
   have hcz5_0:w3.cell? ⟨gb101,0,none⟩=some (.slice A0_0 l0_0.length c0_0):=(qaC BK101.out 0).trans rfl
   have hcz5_1:w3.cell? ⟨gb101,1,none⟩=some (.slice A0_1 l0_1.length c0_1):=(qaC BK101.out 1).trans rfl
   have hcz5_2:w3.cell? ⟨gb101,2,none⟩=some (.slice A0_2 l0_2.length c0_2):=(qaC BK101.out 2).trans rfl
   have hfz5_0:=qaA BK101.out 0
   have hfz5_1:=qaA BK101.out 1
   have hfz5_2:=qaA BK101.out 2
   go_wp2
   go_meet
   case rel=>exact ⟨_,(true),(by first|rfl|(simp;done)|(simp [*];done)),H',⟨by first|omega|exact Nat.le_refl _⟩,⟨by (with_reducible repeat (first|refine qaJ ?_ _|refine qaK ?_|refine qaI ?_ _));exact BK101.out⟩,⟨by repeat (first|(with_reducible first|exact HB.out|apply qaD|apply qaB|apply qaE|refine qaG ?_ GE101.out)|exact HB.out)⟩⟩
  ·rw [if_neg c4] at H
   have c4b0:decide (20 < (l0_0.length:Int))=false:=decide_eq_false c4
   have c4b1:decide (20 < l0_0.length)=false:=decide_eq_false (by omega)
   clear c4
   (first|rw [c4b0]|(simp only [qaO,qaP];rw [c4b0])|skip)
   by_cases c6:(l0_1.length:Int) > 100
   ·rw [if_pos c6] at H
    have c6b0:decide (100 < (l0_1.length:Int))=true:=decide_eq_true c6
    have c6b1:decide (100 < l0_1.length)=true:=decide_eq_true (by omega)
    clear c6
    have H':=Aside0.mk H
    clear H
    have hcz7_0:w3.cell? ⟨gb101,0,none⟩=some (.slice A0_0 l0_0.length c0_0):=(qaC BK101.out 0).trans rfl
    have hcz7_1:w3.cell? ⟨gb101,1,none⟩=some (.slice A0_1 l0_1.length c0_1):=(qaC BK101.out 1).trans rfl
    have hcz7_2:w3.cell? ⟨gb101,2,none⟩=some (.slice A0_2 l0_2.length c0_2):=(qaC BK101.out 2).trans rfl
    have hfz7_0:=qaA BK101.out 0
    have hfz7_1:=qaA BK101.out 1
    have hfz7_2:=qaA BK101.out 2
    go_wp2
    go_meet
    case rel=>exact ⟨_,(true),(by first|rfl|(simp;done)|(simp [*];done)),H',⟨by first|omega|exact Nat.le_refl _⟩,⟨by (with_reducible repeat (first|refine qaJ ?_ _|refine qaK ?_|refine qaI ?_ _));exact BK101.out⟩,⟨by repeat (first|(with_reducible first|exact HB.out|apply qaD|apply qaB|apply qaE|refine qaG ?_ GE101.out)|exact HB.out)⟩⟩
   ·rw [if_neg c6] at H
    have c6b0:decide (100 < (l0_1.length:Int))=false:=decide_eq_false c6
    have c6b1:decide (100 < l0_1.length)=false:=decide_eq_false (by omega)
    clear c6
    have H':=Aside0.mk H
    clear H
    have hcz8_0:w3.cell? ⟨gb101,0,none⟩=some (.slice A0_0 l0_0.length c0_0):=(qaC BK101.out 0).trans rfl
    have hcz8_1:w3.cell? ⟨gb101,1,none⟩=some (.slice A0_1 l0_1.length c0_1):=(qaC BK101.out 1).trans rfl
    have hcz8_2:w3.cell? ⟨gb101,2,none⟩=some (.slice A0_2 l0_2.length c0_2):=(qaC BK101.out 2).trans rfl
    have hfz8_0:=qaA BK101.out 0
    have hfz8_1:=qaA BK101.out 1
    have hfz8_2:=qaA BK101.out 2
    go_wp2
    go_meet
    case rel=>exact ⟨_,(decide ((l0_2.length:Int) > 30)),(by first|rfl|(simp;done)|(simp [*];done)),H',⟨by first|omega|exact Nat.le_refl _⟩,⟨by (with_reducible repeat (first|refine qaJ ?_ _|refine qaK ?_|refine qaI ?_ _));exact BK101.out⟩,⟨by repeat (first|(with_reducible first|exact HB.out|apply qaD|apply qaB|apply qaE|refine qaG ?_ GE101.out)|exact HB.out)⟩⟩
 case rest =>
  clear HC2
  try clear c1
  try clear p2
  try clear c4
  try clear c4b0
  try clear c4b1
  try clear c6
  try clear c6b0
  try clear c6b1
  try clear hcz5_0
  try clear hcz5_1
  try clear hcz5_2
  try clear hcz7_0
  try clear hcz7_1
  try clear hcz7_2
  try clear hcz8_0
  try clear hcz8_1
  try clear hcz8_2
  try clear hfz5_0
  try clear hfz5_1
  try clear hfz5_2
  try clear hfz7_0
  try clear hfz7_1
  try clear hfz7_2
  try clear hfz8_0
  try clear hfz8_1
  try clear hfz8_2
  obtain ⟨kq,x19_1,rfl,HA,HJ1,BK101,HB⟩:=hcut
  cases kq with
  | zero=>exact absurd HA.out (by simp [sawmilllaw50_small.j0])
  | succ kj1 =>
   have H:=HA.out
   clear HA
   simp only [sawmilllaw50_small.j0] at H
   by_cases c9:x19_1=true
   ·subst c9
    have H1:(some false)=some r:=by rw [if_pos rfl] at H;exact H
    clear H
    have H:=H1
    clear H1
    obtain rfl:=Option.some.inj H
    go_wp2
    go_ret
    exact ⟨by first|rfl|(simp [qaL,qaM]<;>rfl)|(simp [*,qaL,qaM]<;>rfl),by repeat (first|(with_reducible first|exact HB.out|apply qaD|apply qaB|apply qaE|refine qaG ?_ GE101.out)|exact HB.out)⟩
   ·replace c9:=Bool.eq_false_iff.mpr c9
    subst c9
    have H1:(sawmilllaw50_small.l0 kj1 0 l0_0 l0_1 l0_2)=some r:=by rw [if_neg (show ¬ (false=true) by decide)] at H;exact H
    clear H
    have H:=H1
    clear H1
    have H':=Aside0.mk H
    clear H
    go_wp2
    go_loopg [3] kj1 (fun kq v3 w'=>∃ (x3_2:Int),v3=.int .i64 x3_2∧Aside0 (sawmilllaw50_small.l0 kq x3_2 l0_0 l0_1 l0_2=some r)∧Aside0 (kq≤kj1)∧Aside0 (w'.heap[gb101]?=some (.cells #[(.slice A0_0 l0_0.length c0_0),(.slice A0_1 l0_1.length c0_1),(.slice A0_2 l0_2.length c0_2)] 26 (0,0)))∧Aside0 (Below w.heap.size w w'))
    case atStart=>exact ⟨(0),(by first|rfl|(simp;done)|(simp [*];done)),H',⟨Nat.le_refl _⟩,⟨by (with_reducible repeat (first|refine qaJ ?_ _|refine qaK ?_|refine qaI ?_ _));exact BK101.out⟩,⟨by repeat (first|(with_reducible first|exact HB.out|apply qaD|apply qaB|apply qaE|refine qaG ?_ GE101.out)|exact HB.out)⟩⟩
    case round =>
     clear H'
     try clear c1
     try clear p2
     try clear c4
     try clear c4b0
     try clear c4b1
     try clear c6
     try clear c6b0
     try clear c6b1
     try clear c9
     try clear hcz5_0
     try clear hcz5_1
     try clear hcz5_2
     try clear hcz7_0
     try clear hcz7_1
     try clear hcz7_2
     try clear hcz8_0
     try clear hcz8_1
     try clear hcz8_2
     try clear hfz5_0
     try clear hfz5_1
     try clear hfz5_2
     try clear hfz7_0
     try clear hfz7_1
     try clear hfz7_2
     try clear hfz8_0
     try clear hfz8_1
     try clear hfz8_2
     try clear p2
     obtain ⟨x3_2,rfl,HA,HK2,BK101,HB⟩:=hrel
     cases gk with
     | zero=>exact absurd HA.out (by simp [sawmilllaw50_small.l0])
     | succ k2 =>
      have H:=HA.out
      clear HA
      simp only [sawmilllaw50_small.l0] at H
      by_cases c10:x3_2 < (l0_0.length:Int)
      ·rw [if_pos c10] at H
       have c10b0:decide (x3_2 < (l0_0.length:Int))=true:=decide_eq_true c10
       clear c10
       by_cases c11:0≤x3_2
       ·rw [if_pos c11] at H
        have c11b0:decide (0≤x3_2)=true:=decide_eq_true c11
        clear c11
        by_cases c12:(((qaF l0_0 x3_2).f0).size:Int) > 100
        ·rw [if_pos c12] at H
         have c12b0:decide (100 < (((qaF l0_0 x3_2).f0).size:Int))=true:=decide_eq_true c12
         have c12b1:decide (100 < ((qaF l0_0 x3_2).f0).size)=true:=decide_eq_true (by omega)
         clear c12
         obtain rfl:=Option.some.inj H
         have hcz13_0:wr.cell? ⟨gb101,0,none⟩=some (.slice A0_0 l0_0.length c0_0):=(qaC BK101.out 0).trans rfl
         have hcz13_1:wr.cell? ⟨gb101,1,none⟩=some (.slice A0_1 l0_1.length c0_1):=(qaC BK101.out 1).trans rfl
         have hcz13_2:wr.cell? ⟨gb101,2,none⟩=some (.slice A0_2 l0_2.length c0_2):=(qaC BK101.out 2).trans rfl
         have hfz13_0:=qaA BK101.out 0
         have hfz13_1:=qaA BK101.out 1
         have hfz13_2:=qaA BK101.out 2
         have p102:0≤(x3_2:Int):=of_decide_eq_true (by first|(with_reducible assumption)|assumption)
         have q102:x3_2 < (l0_0.length:Int):=of_decide_eq_true (by first|(with_reducible assumption)|assumption)
         obtain ⟨ad102,A102_5,c102_5,A102_6,c102_6,e102,hx102_0,hx102_1,hx102_2,hx102_3,hx102_4,hx102_5,hx102_6,hl102_5,hi102_5,hl102_6,hi102_6⟩:=at_T53 HR0_0.out x3_2 p102 q102
         cases e102
         replace hx102_0:=(HB.out.cell (World.block_lt_of_cell? w _ hx102_0)).trans hx102_0
         replace hx102_1:=(HB.out.cell (World.block_lt_of_cell? w _ hx102_1)).trans hx102_1
         replace hx102_2:=(HB.out.cell (World.block_lt_of_cell? w _ hx102_2)).trans hx102_2
         replace hx102_3:=(HB.out.cell (World.block_lt_of_cell? w _ hx102_3)).trans hx102_3
         replace hx102_4:=(HB.out.cell (World.block_lt_of_cell? w _ hx102_4)).trans hx102_4
         replace hx102_5:=(HB.out.cell (World.block_lt_of_cell? w _ hx102_5)).trans hx102_5
         replace hx102_6:=(HB.out.cell (World.block_lt_of_cell? w _ hx102_6)).trans hx102_6
         have HR102_5:=Aside0.mk hi102_5
         have HC102_5:=Aside0.mk hl102_5
         clear hi102_5 hl102_5
         have HR102_6:=Aside0.mk hi102_6
         have HC102_6:=Aside0.mk hl102_6
         clear hi102_6 hl102_6
         replace p102:=eq_true p102
         replace q102:=eq_true q102
         go_wp2
         go_ret
         exact ⟨by first|rfl|(simp [qaL,qaM]<;>rfl)|(simp [*,qaL,qaM]<;>rfl),by repeat (first|(with_reducible first|exact HB.out|apply qaD|apply qaB|apply qaE|refine qaG ?_ GE101.out)|exact HB.out)⟩
        ·rw [if_neg c12] at H
         have c12b0:decide (100 < (((qaF l0_0 x3_2).f0).size:Int))=false:=decide_eq_false c12
         have c12b1:decide (100 < ((qaF l0_0 x3_2).f0).size)=false:=decide_eq_false (by omega)
         clear c12
         by_cases c14:(((qaF l0_0 x3_2).f5).length:Int) > 12
         ·rw [if_pos c14] at H
          have c14b0:decide (12 < (((qaF l0_0 x3_2).f5).length:Int))=true:=decide_eq_true c14
          have c14b1:decide (12 < ((qaF l0_0 x3_2).f5).length)=true:=decide_eq_true (by omega)
          clear c14
          obtain rfl:=Option.some.inj H
          have hcz15_0:wr.cell? ⟨gb101,0,none⟩=some (.slice A0_0 l0_0.length c0_0):=(qaC BK101.out 0).trans rfl
          have hcz15_1:wr.cell? ⟨gb101,1,none⟩=some (.slice A0_1 l0_1.length c0_1):=(qaC BK101.out 1).trans rfl
          have hcz15_2:wr.cell? ⟨gb101,2,none⟩=some (.slice A0_2 l0_2.length c0_2):=(qaC BK101.out 2).trans rfl
          have hfz15_0:=qaA BK101.out 0
          have hfz15_1:=qaA BK101.out 1
          have hfz15_2:=qaA BK101.out 2
          have p102:0≤(x3_2:Int):=of_decide_eq_true (by first|(with_reducible assumption)|assumption)
          have q102:x3_2 < (l0_0.length:Int):=of_decide_eq_true (by first|(with_reducible assumption)|assumption)
          obtain ⟨ad102,A102_5,c102_5,A102_6,c102_6,e102,hx102_0,hx102_1,hx102_2,hx102_3,hx102_4,hx102_5,hx102_6,hl102_5,hi102_5,hl102_6,hi102_6⟩:=at_T53 HR0_0.out x3_2 p102 q102
          cases e102
          replace hx102_0:=(HB.out.cell (World.block_lt_of_cell? w _ hx102_0)).trans hx102_0
          replace hx102_1:=(HB.out.cell (World.block_lt_of_cell? w _ hx102_1)).trans hx102_1
          replace hx102_2:=(HB.out.cell (World.block_lt_of_cell? w _ hx102_2)).trans hx102_2
          replace hx102_3:=(HB.out.cell (World.block_lt_of_cell? w _ hx102_3)).trans hx102_3
          replace hx102_4:=(HB.out.cell (World.block_lt_of_cell? w _ hx102_4)).trans hx102_4
          replace hx102_5:=(HB.out.cell (World.block_lt_of_cell? w _ hx102_5)).trans hx102_5
          replace hx102_6:=(HB.out.cell (World.block_lt_of_cell? w _ hx102_6)).trans hx102_6
          have HR102_5:=Aside0.mk hi102_5
          have HC102_5:=Aside0.mk hl102_5
          clear hi102_5 hl102_5
          have HR102_6:=Aside0.mk hi102_6
          have HC102_6:=Aside0.mk hl102_6
          clear hi102_6 hl102_6
          replace p102:=eq_true p102
          replace q102:=eq_true q102
          have p103:0≤(x3_2:Int):=of_decide_eq_true (by first|(with_reducible assumption)|assumption)
          have q103:x3_2 < (l0_0.length:Int):=of_decide_eq_true (by first|(with_reducible assumption)|assumption)
          obtain ⟨ad103,A103_5,c103_5,A103_6,c103_6,e103,hx103_0,hx103_1,hx103_2,hx103_3,hx103_4,hx103_5,hx103_6,hl103_5,hi103_5,hl103_6,hi103_6⟩:=at_T53 HR0_0.out x3_2 p103 q103
          obtain rfl:ad102=ad103:=(by injection e103)
          replace hx103_0:=(HB.out.cell (World.block_lt_of_cell? w _ hx103_0)).trans hx103_0
          replace hx103_1:=(HB.out.cell (World.block_lt_of_cell? w _ hx103_1)).trans hx103_1
          replace hx103_2:=(HB.out.cell (World.block_lt_of_cell? w _ hx103_2)).trans hx103_2
          replace hx103_3:=(HB.out.cell (World.block_lt_of_cell? w _ hx103_3)).trans hx103_3
          replace hx103_4:=(HB.out.cell (World.block_lt_of_cell? w _ hx103_4)).trans hx103_4
          replace hx103_5:=(HB.out.cell (World.block_lt_of_cell? w _ hx103_5)).trans hx103_5
          replace hx103_6:=(HB.out.cell (World.block_lt_of_cell? w _ hx103_6)).trans hx103_6
          have HR103_5:=Aside0.mk hi103_5
          have HC103_5:=Aside0.mk hl103_5
          clear hi103_5 hl103_5
          have HR103_6:=Aside0.mk hi103_6
          have HC103_6:=Aside0.mk hl103_6
          clear hi103_6 hl103_6
          replace p103:=eq_true p103
          replace q103:=eq_true q103
          have ea_:=Option.some.inj (hx102_5.symm.trans hx103_5)
          injection ea_ with ea_ en_ ec_
          subst ea_
          subst ec_
          clear en_
          have ea_:=Option.some.inj (hx102_6.symm.trans hx103_6)
          injection ea_ with ea_ en_ ec_
          subst ea_
          subst ec_
          clear en_
          go_wp2
          go_ret
          exact ⟨by first|rfl|(simp [qaL,qaM]<;>rfl)|(simp [*,qaL,qaM]<;>rfl),by repeat (first|(with_reducible first|exact HB.out|apply qaD|apply qaB|apply qaE|refine qaG ?_ GE101.out)|exact HB.out)⟩
         ·rw [if_neg c14] at H
          have c14b0:decide (12 < (((qaF l0_0 x3_2).f5).length:Int))=false:=decide_eq_false c14
          have c14b1:decide (12 < ((qaF l0_0 x3_2).f5).length)=false:=decide_eq_false (by omega)
          clear c14
          by_cases c16:(((qaF l0_0 x3_2).f6).length:Int) > 12
          ·rw [if_pos c16] at H
           have c16b0:decide (12 < (((qaF l0_0 x3_2).f6).length:Int))=true:=decide_eq_true c16
           have c16b1:decide (12 < ((qaF l0_0 x3_2).f6).length)=true:=decide_eq_true (by omega)
           clear c16
           obtain rfl:=Option.some.inj H
           have hcz17_0:wr.cell? ⟨gb101,0,none⟩=some (.slice A0_0 l0_0.length c0_0):=(qaC BK101.out 0).trans rfl
           have hcz17_1:wr.cell? ⟨gb101,1,none⟩=some (.slice A0_1 l0_1.length c0_1):=(qaC BK101.out 1).trans rfl
           have hcz17_2:wr.cell? ⟨gb101,2,none⟩=some (.slice A0_2 l0_2.length c0_2):=(qaC BK101.out 2).trans rfl
           have hfz17_0:=qaA BK101.out 0
           have hfz17_1:=qaA BK101.out 1
           have hfz17_2:=qaA BK101.out 2
           have p102:0≤(x3_2:Int):=of_decide_eq_true (by first|(with_reducible assumption)|assumption)
           have q102:x3_2 < (l0_0.length:Int):=of_decide_eq_true (by first|(with_reducible assumption)|assumption)
           obtain ⟨ad102,A102_5,c102_5,A102_6,c102_6,e102,hx102_0,hx102_1,hx102_2,hx102_3,hx102_4,hx102_5,hx102_6,hl102_5,hi102_5,hl102_6,hi102_6⟩:=at_T53 HR0_0.out x3_2 p102 q102
           cases e102
           replace hx102_0:=(HB.out.cell (World.block_lt_of_cell? w _ hx102_0)).trans hx102_0
           replace hx102_1:=(HB.out.cell (World.block_lt_of_cell? w _ hx102_1)).trans hx102_1
           replace hx102_2:=(HB.out.cell (World.block_lt_of_cell? w _ hx102_2)).trans hx102_2
           replace hx102_3:=(HB.out.cell (World.block_lt_of_cell? w _ hx102_3)).trans hx102_3
           replace hx102_4:=(HB.out.cell (World.block_lt_of_cell? w _ hx102_4)).trans hx102_4
           replace hx102_5:=(HB.out.cell (World.block_lt_of_cell? w _ hx102_5)).trans hx102_5
           replace hx102_6:=(HB.out.cell (World.block_lt_of_cell? w _ hx102_6)).trans hx102_6
           have HR102_5:=Aside0.mk hi102_5
           have HC102_5:=Aside0.mk hl102_5
           clear hi102_5 hl102_5
           have HR102_6:=Aside0.mk hi102_6
           have HC102_6:=Aside0.mk hl102_6
           clear hi102_6 hl102_6
           replace p102:=eq_true p102
           replace q102:=eq_true q102
           have p103:0≤(x3_2:Int):=of_decide_eq_true (by first|(with_reducible assumption)|assumption)
           have q103:x3_2 < (l0_0.length:Int):=of_decide_eq_true (by first|(with_reducible assumption)|assumption)
           obtain ⟨ad103,A103_5,c103_5,A103_6,c103_6,e103,hx103_0,hx103_1,hx103_2,hx103_3,hx103_4,hx103_5,hx103_6,hl103_5,hi103_5,hl103_6,hi103_6⟩:=at_T53 HR0_0.out x3_2 p103 q103
           obtain rfl:ad102=ad103:=(by injection e103)
           replace hx103_0:=(HB.out.cell (World.block_lt_of_cell? w _ hx103_0)).trans hx103_0
           replace hx103_1:=(HB.out.cell (World.block_lt_of_cell? w _ hx103_1)).trans hx103_1
           replace hx103_2:=(HB.out.cell (World.block_lt_of_cell? w _ hx103_2)).trans hx103_2
           replace hx103_3:=(HB.out.cell (World.block_lt_of_cell? w _ hx103_3)).trans hx103_3
           replace hx103_4:=(HB.out.cell (World.block_lt_of_cell? w _ hx103_4)).trans hx103_4
           replace hx103_5:=(HB.out.cell (World.block_lt_of_cell? w _ hx103_5)).trans hx103_5
           replace hx103_6:=(HB.out.cell (World.block_lt_of_cell? w _ hx103_6)).trans hx103_6
           have HR103_5:=Aside0.mk hi103_5
           have HC103_5:=Aside0.mk hl103_5
           clear hi103_5 hl103_5
           have HR103_6:=Aside0.mk hi103_6
           have HC103_6:=Aside0.mk hl103_6
           clear hi103_6 hl103_6
           replace p103:=eq_true p103
           replace q103:=eq_true q103
           have ea_:=Option.some.inj (hx102_5.symm.trans hx103_5)
           injection ea_ with ea_ en_ ec_
           subst ea_
           subst ec_
           clear en_
           have ea_:=Option.some.inj (hx102_6.symm.trans hx103_6)
           injection ea_ with ea_ en_ ec_
           subst ea_
           subst ec_
           clear en_
           have p104:0≤(x3_2:Int):=of_decide_eq_true (by first|(with_reducible assumption)|assumption)
           have q104:x3_2 < (l0_0.length:Int):=of_decide_eq_true (by first|(with_reducible assumption)|assumption)
           obtain ⟨ad104,A104_5,c104_5,A104_6,c104_6,e104,hx104_0,hx104_1,hx104_2,hx104_3,hx104_4,hx104_5,hx104_6,hl104_5,hi104_5,hl104_6,hi104_6⟩:=at_T53 HR0_0.out x3_2 p104 q104
           obtain rfl:ad102=ad104:=(by injection e104)
           replace hx104_0:=(HB.out.cell (World.block_lt_of_cell? w _ hx104_0)).trans hx104_0
           replace hx104_1:=(HB.out.cell (World.block_lt_of_cell? w _ hx104_1)).trans hx104_1
           replace hx104_2:=(HB.out.cell (World.block_lt_of_cell? w _ hx104_2)).trans hx104_2
           replace hx104_3:=(HB.out.cell (World.block_lt_of_cell? w _ hx104_3)).trans hx104_3
           replace hx104_4:=(HB.out.cell (World.block_lt_of_cell? w _ hx104_4)).trans hx104_4
           replace hx104_5:=(HB.out.cell (World.block_lt_of_cell? w _ hx104_5)).trans hx104_5
           replace hx104_6:=(HB.out.cell (World.block_lt_of_cell? w _ hx104_6)).trans hx104_6
           have HR104_5:=Aside0.mk hi104_5
           have HC104_5:=Aside0.mk hl104_5
           clear hi104_5 hl104_5
           have HR104_6:=Aside0.mk hi104_6
           have HC104_6:=Aside0.mk hl104_6
           clear hi104_6 hl104_6
           replace p104:=eq_true p104
           replace q104:=eq_true q104
           have ea_:=Option.some.inj (hx102_5.symm.trans hx104_5)
           injection ea_ with ea_ en_ ec_
           subst ea_
           subst ec_
           clear en_
           have ea_:=Option.some.inj (hx102_6.symm.trans hx104_6)
           injection ea_ with ea_ en_ ec_
           subst ea_
           subst ec_
           clear en_
           go_wp2
           go_ret
           exact ⟨by first|rfl|(simp [qaL,qaM]<;>rfl)|(simp [*,qaL,qaM]<;>rfl),by repeat (first|(with_reducible first|exact HB.out|apply qaD|apply qaB|apply qaE|refine qaG ?_ GE101.out)|exact HB.out)⟩
          ·rw [if_neg c16] at H
           have c16b0:decide (12 < (((qaF l0_0 x3_2).f6).length:Int))=false:=decide_eq_false c16
           have c16b1:decide (12 < ((qaF l0_0 x3_2).f6).length)=false:=decide_eq_false (by omega)
           clear c16
           have H':=Aside0.mk H
           clear H
           have hcz18_0:wr.cell? ⟨gb101,0,none⟩=some (.slice A0_0 l0_0.length c0_0):=(qaC BK101.out 0).trans rfl
           have hcz18_1:wr.cell? ⟨gb101,1,none⟩=some (.slice A0_1 l0_1.length c0_1):=(qaC BK101.out 1).trans rfl
           have hcz18_2:wr.cell? ⟨gb101,2,none⟩=some (.slice A0_2 l0_2.length c0_2):=(qaC BK101.out 2).trans rfl
           have hfz18_0:=qaA BK101.out 0
           have hfz18_1:=qaA BK101.out 1
           have hfz18_2:=qaA BK101.out 2
           have p102:0≤(x3_2:Int):=of_decide_eq_true (by first|(with_reducible assumption)|assumption)
           have q102:x3_2 < (l0_0.length:Int):=of_decide_eq_true (by first|(with_reducible assumption)|assumption)
           obtain ⟨ad102,A102_5,c102_5,A102_6,c102_6,e102,hx102_0,hx102_1,hx102_2,hx102_3,hx102_4,hx102_5,hx102_6,hl102_5,hi102_5,hl102_6,hi102_6⟩:=at_T53 HR0_0.out x3_2 p102 q102
           cases e102
           replace hx102_0:=(HB.out.cell (World.block_lt_of_cell? w _ hx102_0)).trans hx102_0
           replace hx102_1:=(HB.out.cell (World.block_lt_of_cell? w _ hx102_1)).trans hx102_1
           replace hx102_2:=(HB.out.cell (World.block_lt_of_cell? w _ hx102_2)).trans hx102_2
           replace hx102_3:=(HB.out.cell (World.block_lt_of_cell? w _ hx102_3)).trans hx102_3
           replace hx102_4:=(HB.out.cell (World.block_lt_of_cell? w _ hx102_4)).trans hx102_4
           replace hx102_5:=(HB.out.cell (World.block_lt_of_cell? w _ hx102_5)).trans hx102_5
           replace hx102_6:=(HB.out.cell (World.block_lt_of_cell? w _ hx102_6)).trans hx102_6
           have HR102_5:=Aside0.mk hi102_5
           have HC102_5:=Aside0.mk hl102_5
           clear hi102_5 hl102_5
           have HR102_6:=Aside0.mk hi102_6
           have HC102_6:=Aside0.mk hl102_6
           clear hi102_6 hl102_6
           replace p102:=eq_true p102
           replace q102:=eq_true q102
           have p103:0≤(x3_2:Int):=of_decide_eq_true (by first|(with_reducible assumption)|assumption)
           have q103:x3_2 < (l0_0.length:Int):=of_decide_eq_true (by first|(with_reducible assumption)|assumption)
           obtain ⟨ad103,A103_5,c103_5,A103_6,c103_6,e103,hx103_0,hx103_1,hx103_2,hx103_3,hx103_4,hx103_5,hx103_6,hl103_5,hi103_5,hl103_6,hi103_6⟩:=at_T53 HR0_0.out x3_2 p103 q103
           obtain rfl:ad102=ad103:=(by injection e103)
           replace hx103_0:=(HB.out.cell (World.block_lt_of_cell? w _ hx103_0)).trans hx103_0
           replace hx103_1:=(HB.out.cell (World.block_lt_of_cell? w _ hx103_1)).trans hx103_1
           replace hx103_2:=(HB.out.cell (World.block_lt_of_cell? w _ hx103_2)).trans hx103_2
           replace hx103_3:=(HB.out.cell (World.block_lt_of_cell? w _ hx103_3)).trans hx103_3
           replace hx103_4:=(HB.out.cell (World.block_lt_of_cell? w _ hx103_4)).trans hx103_4
           replace hx103_5:=(HB.out.cell (World.block_lt_of_cell? w _ hx103_5)).trans hx103_5
           replace hx103_6:=(HB.out.cell (World.block_lt_of_cell? w _ hx103_6)).trans hx103_6
           have HR103_5:=Aside0.mk hi103_5
           have HC103_5:=Aside0.mk hl103_5
           clear hi103_5 hl103_5
           have HR103_6:=Aside0.mk hi103_6
           have HC103_6:=Aside0.mk hl103_6
           clear hi103_6 hl103_6
           replace p103:=eq_true p103
           replace q103:=eq_true q103
           have ea_:=Option.some.inj (hx102_5.symm.trans hx103_5)
           injection ea_ with ea_ en_ ec_
           subst ea_
           subst ec_
           clear en_
           have ea_:=Option.some.inj (hx102_6.symm.trans hx103_6)
           injection ea_ with ea_ en_ ec_
           subst ea_
           subst ec_
           clear en_
           have p104:0≤(x3_2:Int):=of_decide_eq_true (by first|(with_reducible assumption)|assumption)
           have q104:x3_2 < (l0_0.length:Int):=of_decide_eq_true (by first|(with_reducible assumption)|assumption)
           obtain ⟨ad104,A104_5,c104_5,A104_6,c104_6,e104,hx104_0,hx104_1,hx104_2,hx104_3,hx104_4,hx104_5,hx104_6,hl104_5,hi104_5,hl104_6,hi104_6⟩:=at_T53 HR0_0.out x3_2 p104 q104
           obtain rfl:ad102=ad104:=(by injection e104)
           replace hx104_0:=(HB.out.cell (World.block_lt_of_cell? w _ hx104_0)).trans hx104_0
           replace hx104_1:=(HB.out.cell (World.block_lt_of_cell? w _ hx104_1)).trans hx104_1
           replace hx104_2:=(HB.out.cell (World.block_lt_of_cell? w _ hx104_2)).trans hx104_2
           replace hx104_3:=(HB.out.cell (World.block_lt_of_cell? w _ hx104_3)).trans hx104_3
           replace hx104_4:=(HB.out.cell (World.block_lt_of_cell? w _ hx104_4)).trans hx104_4
           replace hx104_5:=(HB.out.cell (World.block_lt_of_cell? w _ hx104_5)).trans hx104_5
           replace hx104_6:=(HB.out.cell (World.block_lt_of_cell? w _ hx104_6)).trans hx104_6
           have HR104_5:=Aside0.mk hi104_5
           have HC104_5:=Aside0.mk hl104_5
           clear hi104_5 hl104_5
           have HR104_6:=Aside0.mk hi104_6
           have HC104_6:=Aside0.mk hl104_6
           clear hi104_6 hl104_6
           replace p104:=eq_true p104
           replace q104:=eq_true q104
           have ea_:=Option.some.inj (hx102_5.symm.trans hx104_5)
           injection ea_ with ea_ en_ ec_
           subst ea_
           subst ec_
           clear en_
           have ea_:=Option.some.inj (hx102_6.symm.trans hx104_6)
           injection ea_ with ea_ en_ ec_
           subst ea_
           subst ec_
           clear en_
           go_wp2
           go_roundg k2
           case measure=>have:=HJ1.out;have:=HK2.out;omega
           case rel=>exact ⟨(wrap64 (x3_2+1)),(by first|rfl|(simp;done)|(simp [*];done)),H',⟨by have:=HJ1.out;have:=HK2.out;omega⟩,⟨by (with_reducible repeat (first|refine qaJ ?_ _|refine qaK ?_|refine qaI ?_ _));exact BK101.out⟩,⟨by repeat (first|(with_reducible first|exact HB.out|apply qaD|apply qaB|apply qaE|refine qaG ?_ GE101.out)|exact HB.out)⟩⟩
       ·rw [if_neg c11] at H
        exact absurd H (by simp)
      ·rw [if_neg c10] at H
       have c10b0:decide (x3_2 < (l0_0.length:Int))=false:=decide_eq_false c10
       clear c10
       obtain rfl:=Option.some.inj H
       have hcz19_0:wr.cell? ⟨gb101,0,none⟩=some (.slice A0_0 l0_0.length c0_0):=(qaC BK101.out 0).trans rfl
       have hcz19_1:wr.cell? ⟨gb101,1,none⟩=some (.slice A0_1 l0_1.length c0_1):=(qaC BK101.out 1).trans rfl
       have hcz19_2:wr.cell? ⟨gb101,2,none⟩=some (.slice A0_2 l0_2.length c0_2):=(qaC BK101.out 2).trans rfl
       have hfz19_0:=qaA BK101.out 0
       have hfz19_1:=qaA BK101.out 1
       have hfz19_2:=qaA BK101.out 2
       go_wp2
       go_ret
       exact ⟨by first|rfl|(simp [qaL,qaM]<;>rfl)|(simp [*,qaL,qaM]<;>rfl),by repeat (first|(with_reducible first|exact HB.out|apply qaD|apply qaB|apply qaE|refine qaG ?_ GE101.out)|exact HB.out)⟩
end Go.Proofs.YtojkjhaobjidlaaDoor.P
namespace Go.Proofs.YtojkjhaobjidlaaDoor.P
open Go.RowKit Go.Proofs.YtojkjhaobjidlaaDoorW.PrintWords Go.Proofs.YtojkjhaobjidlaaDoorW.PrintMore
set_option linter.unusedVariables false
set_option linter.unusedSimpArgs false
def smallP (p:PR):Bool:=!(decide (100 < p.f0.size) || (decide (12 < p.f5.length) || decide (12 < p.f6.length)))
def smallB (c:List PR) (l:List IT) (t:List TI):Bool:=!(decide (20 < c.length) || (decide (100 < l.length) || decide (30 < t.length))) && c.all smallP
theorem small_l0 (c:List PR) (l:List IT) (t:List TI) (hc:c.length≤1000):∀ (d k i:Nat),i+d=c.length→d < k→sawmilllaw50_small.l0 k (i:Int) c l t=some ((c.drop i).all smallP):=by
 intro d
 induction d with
 | zero =>
  intro k i hi hk
  obtain ⟨k,rfl⟩:∃ m,k=m+1:=⟨k - 1,by omega⟩
  simp only [sawmilllaw50_small.l0]
  rw [if_neg (by omega),List.drop_of_length_le (by omega)]
  rfl
 | succ d ih =>
  intro k i hi hk
  obtain ⟨k,rfl⟩:∃ m,k=m+1:=⟨k - 1,by omega⟩
  have h2:i < c.length:=by omega
  simp only [sawmilllaw50_small.l0]
  rw [if_pos (by omega),if_pos (by omega),wrap_nat i 1000000 (by omega) (by omega),ih k (i+1) (by omega) (by omega),rdP_drop i h2,List.all_cons]
  generalize qaF c (i:Int)=p
  generalize (c.drop (i+1)).all smallP=b
  unfold smallP
  by_cases g1:100 < p.f0.size
  ·rw [if_pos (by omega)];simp [g1]
  ·rw [if_neg (by omega)]
   by_cases g2:12 < p.f5.length
   ·rw [if_pos (by omega)];simp [g1,g2]
   ·rw [if_neg (by omega)]
    by_cases g3:12 < p.f6.length
    ·rw [if_pos (by omega)];simp [g1,g2,g3]
    ·rw [if_neg (by omega)];simp [g1,g2,g3]
theorem small_f (c:List PR) (l:List IT) (t:List TI) (k:Nat) (hk:30 < k):sawmilllaw50_small.f k c l t=some (smallB c l t):=by
 obtain ⟨k,rfl⟩:∃ m,k=m+1:=⟨k - 1,by omega⟩
 unfold sawmilllaw50_small.f smallB
 simp only [sawmilllaw50_small.j0,if_true,decide_eq_true_eq,gt_iff_lt]
 by_cases g1:20 < c.length
 ·rw [if_pos (by omega)];simp [g1]
 ·rw [if_neg (by omega)]
  by_cases g2:100 < l.length
  ·rw [if_pos (by omega)];simp [g1,g2]
  ·rw [if_neg (by omega)]
   by_cases g3:30 < t.length
   ·rw [if_pos (by omega)];simp [g1,g2,g3]
   ·rw [if_neg (by omega)]
    have:=small_l0 c l t (by omega) c.length k 0 (by omega) (by omega)
    rw [show ((0:Nat):Int)=0 from rfl] at this
    rw [this]
    simp [g1,g2,g3]
theorem small_names {c:List PR} {l:List IT} {t:List TI} (h:smallB c l t=true):∀ p ∈ c,p.f0.size≤100:=by
 unfold smallB at h
 rw [Bool.and_eq_true] at h
 intro p hp
 have:=List.all_eq_true.mp h.2 p hp
 unfold smallP at this
 simp at this
 omega
end Go.Proofs.YtojkjhaobjidlaaDoor.P
