/-
  The statement ScheduleFormats of this chapter holds for every input, as its tied card says; no conditions.
-/
import Derived.Test.YtehdmplngmbnnaaDoorMb2
import Derived.Test.YtehdmplngmbnnaaDoorQScheduleFormats1
import Derived.Test.YtehdmplngmbnnaaDoorMb4
import Derived.Test.YtehdmplngmbnnaaDoorTie
import Derived.Test.YtehdmplngmbnnaaDoorCards
import Derived.WalkKit
import Derived.ProofKit
import Derived.OpenShut
import Derived.ShutString
import Derived.ChangeOld
import Derived.Below
import Derived.Carry
import Derived.SizedLaws
import Derived.Stop.Joined
import Derived.SevenTiedAt
import Derived.LaidMore
namespace Go.Proofs.YtehdmplngmbnnaaDoor.P
open Go.RowKit Go.Proofs.YtehdmplngmbnnaaDoorW.PrintWords Go.Proofs.YtehdmplngmbnnaaDoorW.PrintLast Go.Proofs.YtehdmplngmbnnaaDoorW.PrintMore
attribute [local go_sem] max2_int min2_int max_two min_two max_three min_three max_four min_four
attribute [local go_sem] cell_twice
set_option linter.unusedVariables false
set_option linter.unusedSimpArgs false
mutual
def sawmillref37_Format.l0:Nat→List (S24)→ByteArray→Int→Option (ByteArray)
 | 0,_,_,_=>none
 | k+1,x0,x3,x4=>if x4 < (x0.length:Int) then (if x3.size+9≤9223372036854775807 then (if 0≤x4 then (if x3.size+9+((rd_T24 x0 x4).f0).size≤9223372036854775807 then (if x3.size+9+((rd_T24 x0 x4).f0).size+6≤9223372036854775807 then ((sawmillref37_decimal.f k ((rd_T24 x0 x4).f1)).bind fun t104=>(if x3.size+9+((rd_T24 x0 x4).f0).size+6+t104.size≤9223372036854775807 then (if x3.size+9+((rd_T24 x0 x4).f0).size+6+t104.size+1≤9223372036854775807 then (sawmillref37_Format.l1 k x0 (((((x3++(⟨#[115,99,104,101,100,117,108,101,32]⟩:ByteArray))++((rd_T24 x0 x4).f0))++(⟨#[32,114,97,109,112,32]⟩:ByteArray))++t104)++(⟨#[58]⟩:ByteArray)) x4 0) else (none)) else (none))) else (none)) else (none)) else (none)) else (none)) else (some x3)
def sawmillref37_Format.l1:Nat→List (S24)→ByteArray→Int→Int→Option (ByteArray)
 | 0,_,_,_,_=>none
 | k+1,x0,x3,x4,x5=>if 0≤x4 then (if x4 < (x0.length:Int) then (if x5 < (((rd_T24 x0 x4).f2).length:Int) then (if 0≤x5 then (if ((rd_T52 ((rd_T24 x0 x4).f2) x5).f0) > 0 then (if x3.size+7≤9223372036854775807 then ((sawmillref37_decimal.f k ((rd_T52 ((rd_T24 x0 x4).f2) x5).f0)).bind fun t109=>(if x3.size+7+t109.size≤9223372036854775807 then (sawmillref37_Format.j2 k x0 ((x3++(⟨#[32,98,101,108,111,119,32]⟩:ByteArray))++t109) x4 x5 ((rd_T52 ((rd_T24 x0 x4).f2) x5).f0) ((rd_T52 ((rd_T24 x0 x4).f2) x5).f1) ((rd_T52 ((rd_T24 x0 x4).f2) x5).f2) ((rd_T52 ((rd_T24 x0 x4).f2) x5).f3)) else (none))) else (none)) else (sawmillref37_Format.j2 k x0 x3 x4 x5 ((rd_T52 ((rd_T24 x0 x4).f2) x5).f0) ((rd_T52 ((rd_T24 x0 x4).f2) x5).f1) ((rd_T52 ((rd_T24 x0 x4).f2) x5).f2) ((rd_T52 ((rd_T24 x0 x4).f2) x5).f3))) else (none)) else (if x3.size+1≤9223372036854775807 then (sawmillref37_Format.l0 k x0 (x3++(⟨#[10]⟩:ByteArray)) (wrap64 (x4+1))) else (none))) else (none)) else (none)
def sawmillref37_Format.j2:Nat→List (S24)→ByteArray→Int→Int→Int→Int→Int→Int→Option (ByteArray)
 | 0,_,_,_,_,_,_,_,_=>none
 | k+1,x0,x3,x4,x5,x109000,x109001,x109002,x109003=>if x109001 > 0 then (if x3.size+5≤9223372036854775807 then ((sawmillref37_decimal.f k x109001).bind fun t110=>(if x3.size+5+t110.size≤9223372036854775807 then (if x3.size+5+t110.size+4≤9223372036854775807 then ((sawmillref37_decimal.f k x109002).bind fun t111=>(if x3.size+5+t110.size+4+t111.size≤9223372036854775807 then (if x3.size+5+t110.size+4+t111.size+3≤9223372036854775807 then ((sawmillref37_decimal.f k x109003).bind fun t112=>(if x3.size+5+t110.size+4+t111.size+3+t112.size≤9223372036854775807 then (if x3.size+5+t110.size+4+t111.size+3+t112.size+1≤9223372036854775807 then (sawmillref37_Format.l1 k x0 (((((((x3++(⟨#[32,102,111,114,32]⟩:ByteArray))++t110)++(⟨#[32,97,116,32]⟩:ByteArray))++t111)++(⟨#[32,45,32]⟩:ByteArray))++t112)++(⟨#[59]⟩:ByteArray)) x4 (wrap64 (x5+1))) else (none)) else (none))) else (none)) else (none))) else (none)) else (none))) else (none)) else (if x3.size+4≤9223372036854775807 then ((sawmillref37_decimal.f k x109002).bind fun t113=>(if x3.size+4+t113.size≤9223372036854775807 then (if x3.size+4+t113.size+3≤9223372036854775807 then ((sawmillref37_decimal.f k x109003).bind fun t114=>(if x3.size+4+t113.size+3+t114.size≤9223372036854775807 then (if x3.size+4+t113.size+3+t114.size+1≤9223372036854775807 then (sawmillref37_Format.l1 k x0 (((((x3++(⟨#[32,97,116,32]⟩:ByteArray))++t113)++(⟨#[32,45,32]⟩:ByteArray))++t114)++(⟨#[59]⟩:ByteArray)) x4 (wrap64 (x5+1))) else (none)) else (none))) else (none)) else (none))) else (none))
end
def sawmillref37_Format.f (k:Nat) (l0:List (S24)):Option (ByteArray):=(sawmillref37_Valid.f k l0).bind fun t101=>(if t101=true then (sawmillref37_Format.l0 k l0 (⟨#[]⟩:ByteArray) 0) else (some (⟨#[]⟩:ByteArray)))
theorem sawmillref37_Format.mono_l:∀ k,(∀ y0 y1 y2,LeO (sawmillref37_Format.l0 k y0 y1 y2) (sawmillref37_Format.l0 (k+1) y0 y1 y2))∧(∀ y0 y1 y2 y3,LeO (sawmillref37_Format.l1 k y0 y1 y2 y3) (sawmillref37_Format.l1 (k+1) y0 y1 y2 y3))∧(∀ y0 y1 y2 y3 y4 y5 y6 y7,LeO (sawmillref37_Format.j2 k y0 y1 y2 y3 y4 y5 y6 y7) (sawmillref37_Format.j2 (k+1) y0 y1 y2 y3 y4 y5 y6 y7))
 | 0=>⟨fun _ _ _ r h=>by simp [sawmillref37_Format.l0] at h,fun _ _ _ _ r h=>by simp [sawmillref37_Format.l1] at h,fun _ _ _ _ _ _ _ _ r h=>by simp [sawmillref37_Format.j2] at h⟩
 | k+1=>by
  obtain ⟨ih0,ih1,ih2⟩:=sawmillref37_Format.mono_l k
  refine ⟨?_,?_,?_⟩
  ·intro y0 y1 y2
   unfold sawmillref37_Format.l0
   repeat' first
   | (with_reducible exact ih0 _ _ _)
   | (with_reducible exact ih1 _ _ _ _)
   | (with_reducible exact ih2 _ _ _ _ _ _ _ _)
   | (with_reducible exact sawmillref37_Valid.mono _ _)
   | (with_reducible exact sawmillref37_decimal.mono _ _)
   | (with_reducible exact LeO.refl _)
   | (with_reducible exact LeO.none _)
   | (with_reducible refine LeO.ite ?_ ?_)
   | (with_reducible refine LeO.bind ?_ (fun _=>?_))
   | exact ih0 _ _ _
   | exact ih1 _ _ _ _
   | exact ih2 _ _ _ _ _ _ _ _
   | exact sawmillref37_Valid.mono _ _
   | exact sawmillref37_decimal.mono _ _
   | exact LeO.none _
   | refine LeO.ite ?_ ?_
   | refine LeO.bind ?_ (fun _=>?_)
  ·intro y0 y1 y2 y3
   unfold sawmillref37_Format.l1
   repeat' first
   | (with_reducible exact ih0 _ _ _)
   | (with_reducible exact ih1 _ _ _ _)
   | (with_reducible exact ih2 _ _ _ _ _ _ _ _)
   | (with_reducible exact sawmillref37_Valid.mono _ _)
   | (with_reducible exact sawmillref37_decimal.mono _ _)
   | (with_reducible exact LeO.refl _)
   | (with_reducible exact LeO.none _)
   | (with_reducible refine LeO.ite ?_ ?_)
   | (with_reducible refine LeO.bind ?_ (fun _=>?_))
   | exact ih0 _ _ _
   | exact ih1 _ _ _ _
   | exact ih2 _ _ _ _ _ _ _ _
   | exact sawmillref37_Valid.mono _ _
   | exact sawmillref37_decimal.mono _ _
   | exact LeO.none _
   | refine LeO.ite ?_ ?_
   | refine LeO.bind ?_ (fun _=>?_)
  ·intro y0 y1 y2 y3 y4 y5 y6 y7
   unfold sawmillref37_Format.j2
   repeat' first
   | (with_reducible exact ih0 _ _ _)
   | (with_reducible exact ih1 _ _ _ _)
   | (with_reducible exact ih2 _ _ _ _ _ _ _ _)
   | (with_reducible exact sawmillref37_Valid.mono _ _)
   | (with_reducible exact sawmillref37_decimal.mono _ _)
   | (with_reducible exact LeO.refl _)
   | (with_reducible exact LeO.none _)
   | (with_reducible refine LeO.ite ?_ ?_)
   | (with_reducible refine LeO.bind ?_ (fun _=>?_))
   | exact ih0 _ _ _
   | exact ih1 _ _ _ _
   | exact ih2 _ _ _ _ _ _ _ _
   | exact sawmillref37_Valid.mono _ _
   | exact sawmillref37_decimal.mono _ _
   | exact LeO.none _
   | refine LeO.ite ?_ ?_
   | refine LeO.bind ?_ (fun _=>?_)
theorem sawmillref37_Format.mono:∀ a0 k,LeO (sawmillref37_Format.f k a0) (sawmillref37_Format.f (k+1) a0):=by
 intro a0 k
 obtain ⟨ih0,ih1,ih2⟩:=sawmillref37_Format.mono_l k
 unfold sawmillref37_Format.f
 repeat' first
   | (with_reducible exact ih0 _ _ _)
   | (with_reducible exact ih1 _ _ _ _)
   | (with_reducible exact ih2 _ _ _ _ _ _ _ _)
   | (with_reducible exact sawmillref37_Valid.mono _ _)
   | (with_reducible exact sawmillref37_decimal.mono _ _)
   | (with_reducible exact LeO.refl _)
   | (with_reducible exact LeO.none _)
   | (with_reducible refine LeO.ite ?_ ?_)
   | (with_reducible refine LeO.bind ?_ (fun _=>?_))
   | exact ih0 _ _ _
   | exact ih1 _ _ _ _
   | exact ih2 _ _ _ _ _ _ _ _
   | exact sawmillref37_Valid.mono _ _
   | exact sawmillref37_decimal.mono _ _
   | exact LeO.none _
   | refine LeO.ite ?_ ?_
   | refine LeO.bind ?_ (fun _=>?_)
def sawmillref37_Format.T7:Bool × List (List Nat × List Nat):=(true,[([],[]),([0],[0]),([],[]),([],[]),([2,3],[2,3]),([4],[4]),([5],[5]),([1,6],[1,6]),([7],[7]),([],[]),([],[]),([9,10],[9,10]),([11],[11]),([12],[12]),([13],[13]),([8,14],[8,14]),([15],[15]),([16,14,0,1,2,3,4,5,6,7,8,9,10,11,12,13,14,15,16],[0,16])])
def sawmillref37_Format.B7:List Nat:=[0,1,0,0,12,28,60,127,255,0,0,1536,3584,7680,15872,32767,65535,131071]
theorem sawmillref37_Format.tab7:rtab .any (opsOf Tryd.f24 7)=sawmillref37_Format.T7:=by kernel_rfl
theorem sawmillref37_Format.bits7:waitsOk sawmillref37_Format.T7.2 sawmillref37_Format.B7=true:=by kernel_rfl
def sawmillref37_Format.T16:Bool × List (List Nat × List Nat):=(true,[([],[]),([0],[0]),([],[]),([2],[2]),([3],[3]),([1,4],[1,4]),([5],[5]),([],[]),([7],[7]),([8,4],[8]),([6,9],[6,9]),([10],[10]),([11,9,0,1,2,3,4,5,6,7,8,9,10,11],[0,11])])
def sawmillref37_Format.B16:List Nat:=[0,1,0,4,12,31,63,0,128,412,1023,2047,4095]
theorem sawmillref37_Format.tab16:rtab .any (opsOf Tryd.f24 16)=sawmillref37_Format.T16:=by kernel_rfl
theorem sawmillref37_Format.bits16:waitsOk sawmillref37_Format.T16.2 sawmillref37_Format.B16=true:=by kernel_rfl
set_option maxHeartbeats 8000000 in
set_option maxRecDepth 100000 in
theorem sawmillref37_Format.calls (k:Nat) (A0:Option Addr) (c0:Nat) (l0:List (S24)) (r:ByteArray) (w:World) (hr0:Kd.C k24 w A0 l0.length l0) (hc0:l0.length≤c0) (h:sawmillref37_Format.f k l0=some r) :
  Calls Tryd.prog 24 #[.slice A0 l0.length c0] w fun e w'=>e=.returned (.string r)∧Below w.heap.size w w':=by
 have hu52:=Tryd.underlying52
 have HR0:=Aside0.mk hr0
 have HC0:=Aside0.mk hc0
 clear hr0 hc0
 have HB:=Aside0.mk (Below.refl w.heap.size w)
 have H:((sawmillref37_Valid.f k l0).bind fun t101=>(if t101=true then (sawmillref37_Format.l0 k l0 (⟨#[]⟩:ByteArray) 0) else (some (⟨#[]⟩:ByteArray))))=some r:=h
 clear h
 replace H:=Option.bind_eq_some_iff.mp H
 obtain ⟨t101,A20,H⟩:=H
 replace H:(if t101=true then (sawmillref37_Format.l0 k l0 (⟨#[]⟩:ByteArray) 0) else (some (⟨#[]⟩:ByteArray)))=some r:=H
 have A2:=Aside0.mk A20
 clear A20
 by_cases c3:t101=true
 ·subst c3
  have H1:(sawmillref37_Format.l0 k l0 (⟨#[]⟩:ByteArray) 0)=some r:=by rw [if_pos rfl] at H;exact H
  clear H
  have H:=H1
  clear H1
  have H':=Aside0.mk H
  clear H
  go_enter Tryd.func24,Tryd.ntmps24
  go_wp2_with (first|((with_reducible refine gate_callee (f:=36) rfl ?_);refine goesL_ (some 8) rfl rfl Tryd.func36 (by kernel_rfl) rfl #[.slice A0 l0.length c0] rfl (by (try simp only [List.map_toArray,List.map_cons,List.map_nil]);first|done|rfl|(simp only [List.length_drop,List.length_take];rfl)) ?_;(with_reducible refine (sawmillref37_Valid.calls k _ _ l0 true _ ?side1 ?side2 A2.out).mono ?_);(case side1=>repeat (first|exact HR0.out|(with_reducible refine Kd.C_alloc ?_ _)|(with_reducible refine Kd.C_drewN ?_ _)|(with_reducible refine Kd.C_drew ?_)));(case side2=>exact HC0.out);rintro e w4 ⟨rfl,hb⟩;refine ⟨_,rfl,?_⟩;have n0_:=Aside0.mk (below_step (by repeat (first|(with_reducible first|exact HB.out|apply below_alloc|apply pw_below_drewN|apply below_drew1)|exact HB.out)) hb);clear HB;have HB:=n0_;clear n0_;(try clear hb);(try clear hb2);(try clear hk);(try clear hi)))
  go_loopg [3,4] k (fun kq v3 v4 w'=>∃ (x3_1:ByteArray) (x4_1:Int),v3=.string x3_1∧v4=.int .i64 x4_1∧Aside0 (sawmillref37_Format.l0 kq l0 x3_1 x4_1=some r)∧Aside0 (kq≤k)∧Aside0 (Below w.heap.size w w'))
  case atStart=>exact ⟨((⟨#[]⟩:ByteArray)),(0),(by first|rfl|(simp;done)|(simp [*];done)),(by first|rfl|(simp;done)|(simp [*];done)),H',⟨Nat.le_refl _⟩,⟨by repeat (first|(with_reducible first|exact HB.out|apply below_alloc|apply pw_below_drewN|apply below_drew1)|exact HB.out)⟩⟩
  case round =>
   clear H'
   try clear c2
   try clear p2
   try clear c3
   obtain ⟨x3_1,x4_1,rfl,rfl,HA,HK1,HB⟩:=hrel
   cases gk with
   | zero=>exact absurd HA.out (by simp [sawmillref37_Format.l0])
   | succ k1 =>
    have H:=HA.out
    clear HA
    simp only [sawmillref37_Format.l0] at H
    by_cases c5:x4_1 < (l0.length:Int)
    ·rw [if_pos c5] at H
     have c5b0:decide (x4_1 < (l0.length:Int))=true:=decide_eq_true c5
     clear c5
     by_cases c6:x3_1.size+9≤9223372036854775807
     ·rw [if_pos c6] at H
      have c6b0:=eq_true c6
      have c6b1:decide (x3_1.size+9≤9223372036854775807)=true:=decide_eq_true c6
      try have c6b2:(9223372036854775807 < x3_1.size+9)=False:=eq_false (Nat.not_lt.2 c6)
      by_cases c7:0≤x4_1
      ·rw [if_pos c7] at H
       have c7b0:decide (0≤x4_1)=true:=decide_eq_true c7
       clear c7
       by_cases c8:x3_1.size+9+((rd_T24 l0 x4_1).f0).size≤9223372036854775807
       ·rw [if_pos c8] at H
        have c8b0:=eq_true c8
        have c8b1:decide (x3_1.size+9+((rd_T24 l0 x4_1).f0).size≤9223372036854775807)=true:=decide_eq_true c8
        try have c8b2:(9223372036854775807 < x3_1.size+9+((rd_T24 l0 x4_1).f0).size)=False:=eq_false (Nat.not_lt.2 c8)
        by_cases c9:x3_1.size+9+((rd_T24 l0 x4_1).f0).size+6≤9223372036854775807
        ·rw [if_pos c9] at H
         have c9b0:=eq_true c9
         have c9b1:decide (x3_1.size+9+((rd_T24 l0 x4_1).f0).size+6≤9223372036854775807)=true:=decide_eq_true c9
         try have c9b2:(9223372036854775807 < x3_1.size+9+((rd_T24 l0 x4_1).f0).size+6)=False:=eq_false (Nat.not_lt.2 c9)
         replace H:=Option.bind_eq_some_iff.mp H
         obtain ⟨t104,A100,H⟩:=H
         replace H:(if x3_1.size+9+((rd_T24 l0 x4_1).f0).size+6+t104.size≤9223372036854775807 then (if x3_1.size+9+((rd_T24 l0 x4_1).f0).size+6+t104.size+1≤9223372036854775807 then (sawmillref37_Format.l1 k1 l0 (((((x3_1++(⟨#[115,99,104,101,100,117,108,101,32]⟩:ByteArray))++((rd_T24 l0 x4_1).f0))++(⟨#[32,114,97,109,112,32]⟩:ByteArray))++t104)++(⟨#[58]⟩:ByteArray)) x4_1 0) else (none)) else (none))=some r:=H
         have A10:=Aside0.mk A100
         clear A100
         by_cases c11:x3_1.size+9+((rd_T24 l0 x4_1).f0).size+6+t104.size≤9223372036854775807
         ·rw [if_pos c11] at H
          have c11b0:=eq_true c11
          have c11b1:decide (x3_1.size+9+((rd_T24 l0 x4_1).f0).size+6+t104.size≤9223372036854775807)=true:=decide_eq_true c11
          try have c11b2:(9223372036854775807 < x3_1.size+9+((rd_T24 l0 x4_1).f0).size+6+t104.size)=False:=eq_false (Nat.not_lt.2 c11)
          by_cases c12:x3_1.size+9+((rd_T24 l0 x4_1).f0).size+6+t104.size+1≤9223372036854775807
          ·rw [if_pos c12] at H
           have c12b0:=eq_true c12
           have c12b1:decide (x3_1.size+9+((rd_T24 l0 x4_1).f0).size+6+t104.size+1≤9223372036854775807)=true:=decide_eq_true c12
           try have c12b2:(9223372036854775807 < x3_1.size+9+((rd_T24 l0 x4_1).f0).size+6+t104.size+1)=False:=eq_false (Nat.not_lt.2 c12)
           have H':=Aside0.mk H
           clear H
           try go_wp2
           have n0_:=Aside0.mk (below_drew1 HB.out)
           clear HB
           have HB:=n0_
           clear n0_
           have p102:0≤(x4_1:Int):=of_decide_eq_true (by first|(with_reducible assumption)|assumption)
           have q102:x4_1 < (l0.length:Int):=of_decide_eq_true (by first|(with_reducible assumption)|assumption)
           obtain ⟨ad102,A102_2,c102_2,e102,hx102_0,hx102_1,hx102_2,hl102_2,hi102_2⟩:=at_T24 HR0.out x4_1 p102 q102
           have hw102_2:=hx102_2
           have hw102_1:=hx102_1
           have hw102_0:=hx102_0
           cases e102
           replace hx102_0:=(HB.out.cell (World.block_lt_of_cell? w _ hx102_0)).trans hx102_0
           replace hx102_1:=(HB.out.cell (World.block_lt_of_cell? w _ hx102_1)).trans hx102_1
           replace hx102_2:=(HB.out.cell (World.block_lt_of_cell? w _ hx102_2)).trans hx102_2
           have HR102_2:=Aside0.mk hi102_2
           have HC102_2:=Aside0.mk hl102_2
           clear hi102_2 hl102_2
           replace p102:=eq_true p102
           replace q102:=eq_true q102
           have p103:0≤(x4_1:Int):=of_decide_eq_true (by first|(with_reducible assumption)|assumption)
           have q103:x4_1 < (l0.length:Int):=of_decide_eq_true (by first|(with_reducible assumption)|assumption)
           obtain ⟨ad103,A103_2,c103_2,e103,hx103_0,hx103_1,hx103_2,hl103_2,hi103_2⟩:=at_T24 HR0.out x4_1 p103 q103
           have hw103_2:=hx103_2
           have hw103_1:=hx103_1
           have hw103_0:=hx103_0
           obtain rfl:ad102=ad103:=(by injection e103)
           replace hx103_0:=(HB.out.cell (World.block_lt_of_cell? w _ hx103_0)).trans hx103_0
           replace hx103_1:=(HB.out.cell (World.block_lt_of_cell? w _ hx103_1)).trans hx103_1
           replace hx103_2:=(HB.out.cell (World.block_lt_of_cell? w _ hx103_2)).trans hx103_2
           have HR103_2:=Aside0.mk hi103_2
           have HC103_2:=Aside0.mk hl103_2
           clear hi103_2 hl103_2
           replace p103:=eq_true p103
           replace q103:=eq_true q103
           have ea_:=Option.some.inj (hx102_2.symm.trans hx103_2)
           injection ea_ with ea_ en_ ec_
           subst ea_
           subst ec_
           clear en_
           refine start_ (n:=18) (S:=fun w'=>w'.cell? (ad102.add ((x4_1).toNat * 3))=some (.string ((rd_T24 l0 x4_1).f0))∧w'.cell? ⟨(ad102.add ((x4_1).toNat * 3)).block,(ad102.add ((x4_1).toNat * 3)).off+1,none⟩=some (.int .i64 ((rd_T24 l0 x4_1).f1))∧w'.cell? ⟨(ad102.add ((x4_1).toNat * 3)).block,(ad102.add ((x4_1).toNat * 3)).off+2,none⟩=some (.slice A102_2 ((rd_T24 l0 x4_1).f2).length c102_2)∧w'.cell? (ad102.add ((x4_1).toNat * 3))=some (.string ((rd_T24 l0 x4_1).f0))∧w'.cell? ⟨(ad102.add ((x4_1).toNat * 3)).block,(ad102.add ((x4_1).toNat * 3)).off+1,none⟩=some (.int .i64 ((rd_T24 l0 x4_1).f1))∧w'.cell? ⟨(ad102.add ((x4_1).toNat * 3)).block,(ad102.add ((x4_1).toNat * 3)).off+2,none⟩=some (.slice A102_2 ((rd_T24 l0 x4_1).f2).length c102_2)) (ds:=[]) #[false,false,false,false,false,false,false,false,false,false,false,false,false,false,false,false,false,false] (by kernel_rfl) rfl rfl ⟨((HB.out.cell (World.block_lt_of_cell? w _ hw102_0)).trans hw102_0),((HB.out.cell (World.block_lt_of_cell? w _ hw102_1)).trans hw102_1),((HB.out.cell (World.block_lt_of_cell? w _ hw102_2)).trans hw102_2),((HB.out.cell (World.block_lt_of_cell? w _ hw103_0)).trans hw103_0),((HB.out.cell (World.block_lt_of_cell? w _ hw103_1)).trans hw103_1),((HB.out.cell (World.block_lt_of_cell? w _ hw103_2)).trans hw103_2)⟩ (fun hHeld=>?_);refine with_tabW sawmillref37_Format.tab7 sawmillref37_Format.bits7 (fun HT_ HW_=>?_)
           generalize wr.drew=w13 at HB HR102_2 HR103_2 hx102_0 hx102_1 hx102_2 hx103_0 hx103_1 hx103_2 hHeld ⊢
           refine pure_ (i:=0) (N:=some 16) (v:=?_) (a':=?_) #[true,false,false,false,false,false,false,false,false,false,false,false,false,false,false,false,false,false] rfl rfl (any_of HT_.out (by kernel_rfl)) (fun _ _ _ h=>h) (Or.inl ⟨by rfl,?_⟩) ?_ ?_
           rotate_left
           ·intro w'
            go_simp
            with_reducible rfl
           rotate_left
           ·simp only [Act.put,List.setIfInBounds_toArray,List.set_cons_zero,List.set_cons_succ,i64_w,i32_w]
            rfl
           refine pure_ (i:=1) (N:=some 17) (v:=?_) (a':=?_) #[true,true,false,false,false,false,false,false,false,false,false,false,false,false,false,false,false,false] rfl rfl (any_of HT_.out (by kernel_rfl)) (fun _ _ _ h=>h) (Or.inl ⟨by rfl,?_⟩) ?_ ?_
           rotate_left
           ·intro w'
            go_simp
            with_reducible rfl
           rotate_left
           ·simp only [Act.put,List.setIfInBounds_toArray,List.set_cons_zero,List.set_cons_succ,i64_w,i32_w]
            rfl
           refine pure_ (i:=2) (N:=some 18) (v:=?_) (a':=?_) #[true,true,true,false,false,false,false,false,false,false,false,false,false,false,false,false,false,false] rfl rfl (any_of HT_.out (by kernel_rfl)) (fun _ _ _ h=>h) (Or.inl ⟨by rfl,?_⟩) ?_ ?_
           rotate_left
           ·intro w'
            go_simp
            with_reducible rfl
           rotate_left
           ·simp only [Act.put,List.setIfInBounds_toArray,List.set_cons_zero,List.set_cons_succ,i64_w,i32_w]
            rfl
           refine pure_ (i:=3) (N:=some 19) (v:=?_) (a':=?_) #[true,true,true,true,false,false,false,false,false,false,false,false,false,false,false,false,false,false] rfl rfl (any_of HT_.out (by kernel_rfl)) (fun _ _ _ h=>h) (Or.inl ⟨by rfl,?_⟩) ?_ ?_
           rotate_left
           ·intro w'
            go_simp
            with_reducible rfl
           rotate_left
           ·simp only [Act.put,List.setIfInBounds_toArray,List.set_cons_zero,List.set_cons_succ,i64_w,i32_w]
            rfl
           refine pure_ (i:=4) (N:=some 20) (v:=?_) (a':=?_) #[true,true,true,true,true,false,false,false,false,false,false,false,false,false,false,false,false,false] rfl rfl (any_of HT_.out (by kernel_rfl)) (fun _ _ _ h=>h) (Or.inl ⟨by rfl,?_⟩) ?_ ?_
           rotate_left
           ·intro w'
            go_simp
            with_reducible rfl
           rotate_left
           ·simp only [Act.put,List.setIfInBounds_toArray,List.set_cons_zero,List.set_cons_succ,i64_w,i32_w]
            rfl
           refine pure_ (i:=5) (N:=some 21) (v:=?_) (a':=?_) #[true,true,true,true,true,true,false,false,false,false,false,false,false,false,false,false,false,false] rfl rfl (any_of HT_.out (by kernel_rfl)) (fun _ _ _ h=>h) (Or.inl ⟨by rfl,?_⟩) ?_ ?_
           rotate_left
           ·intro w'
            go_simp
            with_reducible rfl
           rotate_left
           ·simp only [Act.put,List.setIfInBounds_toArray,List.set_cons_zero,List.set_cons_succ,i64_w,i32_w]
            rfl
           refine pure_ (i:=9) (N:=some 25) (v:=?_) (a':=?_) #[true,true,true,true,true,true,false,false,false,true,false,false,false,false,false,false,false,false] rfl rfl (any_of HT_.out (by kernel_rfl)) (fun _ _ _ h=>h) (Or.inl ⟨by rfl,?_⟩) ?_ ?_
           rotate_left
           ·intro w'
            go_simp
            with_reducible rfl
           rotate_left
           ·simp only [Act.put,List.setIfInBounds_toArray,List.set_cons_zero,List.set_cons_succ,i64_w,i32_w]
            rfl
           refine pure_ (i:=10) (N:=some 26) (v:=?_) (a':=?_) #[true,true,true,true,true,true,false,false,false,true,true,false,false,false,false,false,false,false] rfl rfl (any_of HT_.out (by kernel_rfl)) (fun _ _ _ h=>h) (Or.inl ⟨by rfl,?_⟩) ?_ ?_
           rotate_left
           ·intro w'
            go_simp
            with_reducible rfl
           rotate_left
           ·simp only [Act.put,List.setIfInBounds_toArray,List.set_cons_zero,List.set_cons_succ,i64_w,i32_w]
            rfl
           refine pure_ (i:=11) (N:=some 27) (v:=?_) (a':=?_) #[true,true,true,true,true,true,false,false,false,true,true,true,false,false,false,false,false,false] rfl rfl (any_of HT_.out (by kernel_rfl)) (fun _ _ _ h=>h) (Or.inl ⟨by rfl,?_⟩) ?_ ?_
           rotate_left
           ·intro w'
            go_simp
            with_reducible rfl
           rotate_left
           ·simp only [Act.put,List.setIfInBounds_toArray,List.set_cons_zero,List.set_cons_succ,i64_w,i32_w]
            rfl
           refine pure_ (i:=12) (N:=some 28) (v:=?_) (a':=?_) #[true,true,true,true,true,true,false,false,false,true,true,true,true,false,false,false,false,false] rfl rfl (any_of HT_.out (by kernel_rfl)) (fun _ _ _ h=>h) (Or.inl ⟨by rfl,?_⟩) ?_ ?_
           rotate_left
           ·intro w'
            go_simp
            with_reducible rfl
           rotate_left
           ·simp only [Act.put,List.setIfInBounds_toArray,List.set_cons_zero,List.set_cons_succ,i64_w,i32_w]
            rfl
           refine take_ (i:=6) (N:=some 22) (v:=?_) (a':=?_) #[true,true,true,true,true,true,true,false,false,true,true,true,true,false,false,false,false,false] rfl rfl (take_ofW HT_.out HW_.out (by kernel_rfl)) (fun _ _ _ h=>h) (Or.inl ⟨by rfl,?_⟩) hHeld ?_ ?_
           rotate_left
           ·rintro w' ⟨s0,s1,s2,s3,s4,s5⟩
            go_simp
            with_reducible rfl
           rotate_left
           ·simp only [Act.put,List.setIfInBounds_toArray,List.set_cons_zero,List.set_cons_succ,i64_w,i32_w]
            rfl
           refine pure_ (i:=7) (N:=some 23) (v:=?_) (a':=?_) #[true,true,true,true,true,true,true,true,false,true,true,true,true,false,false,false,false,false] rfl rfl (any_of HT_.out (by kernel_rfl)) (fun _ _ _ h=>h) (Or.inl ⟨by rfl,?_⟩) ?_ ?_
           rotate_left
           ·intro w'
            go_simp
            with_reducible rfl
           rotate_left
           ·simp only [Act.put,List.setIfInBounds_toArray,List.set_cons_zero,List.set_cons_succ,i64_w,i32_w]
            rfl
           refine pure_ (i:=8) (N:=some 24) (v:=?_) (a':=?_) #[true,true,true,true,true,true,true,true,true,true,true,true,true,false,false,false,false,false] rfl rfl (any_of HT_.out (by kernel_rfl)) (fun _ _ _ h=>h) (Or.inl ⟨by rfl,?_⟩) ?_ ?_
           rotate_left
           ·intro w'
            go_simp
            with_reducible rfl
           rotate_left
           ·simp only [Act.put,List.setIfInBounds_toArray,List.set_cons_zero,List.set_cons_succ,i64_w,i32_w]
            rfl
           refine take_ (i:=13) (N:=some 29) (v:=?_) (a':=?_) #[true,true,true,true,true,true,true,true,true,true,true,true,true,true,false,false,false,false] rfl rfl (take_ofW HT_.out HW_.out (by kernel_rfl)) (fun _ _ _ h=>h) (Or.inl ⟨by rfl,?_⟩) hHeld ?_ ?_
           rotate_left
           ·rintro w' ⟨s0,s1,s2,s3,s4,s5⟩
            go_simp
            with_reducible rfl
           rotate_left
           ·simp only [Act.put,List.setIfInBounds_toArray,List.set_cons_zero,List.set_cons_succ,i64_w,i32_w]
            rfl
           refine one_ (i:=14) (N:=some 30) #[true,true,true,true,true,true,true,true,true,true,true,true,true,true,true,false,false,false] rfl rfl (one_of HT_.out (by kernel_rfl)) (by decide) (fun K hK=>?_)
           refine goes_ Tryd.func37 (by kernel_rfl) rfl #[.int .i64 ((rd_T24 l0 x4_1).f1)] (by rfl) rfl rfl (by (try simp only [List.map_toArray,List.map_cons,List.map_nil]);first|done|rfl|(simp only [List.length_drop,List.length_take];rfl)) ?_
           with_reducible refine (sawmillref37_decimal.calls k1 ((rd_T24 l0 x4_1).f1) t104 _ A10.out).mono ?_
           rintro e w14 ⟨rfl,hb⟩
           refine ⟨_,rfl,?_⟩
           have n0_:=Aside0.mk (below_step (by repeat (first|(with_reducible first|exact HB.out|apply below_alloc|apply pw_below_drewN|apply below_drew1)|exact HB.out)) hb)
           clear HB
           have HB:=n0_
           clear n0_
           (try clear hb)
           (try clear hb2)
           (try clear hk)
           (try clear hi)
           refine hK.out _ _ ⟨((HB.out.cell (World.block_lt_of_cell? w _ hw102_0)).trans hw102_0),((HB.out.cell (World.block_lt_of_cell? w _ hw102_1)).trans hw102_1),((HB.out.cell (World.block_lt_of_cell? w _ hw102_2)).trans hw102_2),((HB.out.cell (World.block_lt_of_cell? w _ hw103_0)).trans hw103_0),((HB.out.cell (World.block_lt_of_cell? w _ hw103_1)).trans hw103_1),((HB.out.cell (World.block_lt_of_cell? w _ hw103_2)).trans hw103_2)⟩ (fun hHeld=>?_)
           clear hK K
           refine norm_ (a':=?_) ?_ ?_
           rotate_left
           ·show Act.put _ (some 30) _=_
            simp only [Act.put,List.setIfInBounds_toArray,List.set_cons_zero,List.set_cons_succ,i64_w,i32_w]
            rfl
           refine pure_ (i:=15) (N:=some 31) (v:=?_) (a':=?_) #[true,true,true,true,true,true,true,true,true,true,true,true,true,true,true,true,false,false] rfl rfl (any_of HT_.out (by kernel_rfl)) (fun _ _ _ h=>h) (Or.inl ⟨by rfl,?_⟩) ?_ ?_
           rotate_left
           ·intro w'
            go_simp
            with_reducible rfl
           rotate_left
           ·simp only [Act.put,List.setIfInBounds_toArray,List.set_cons_zero,List.set_cons_succ,i64_w,i32_w]
            rfl
           refine pure_ (i:=16) (N:=some 32) (v:=?_) (a':=?_) #[true,true,true,true,true,true,true,true,true,true,true,true,true,true,true,true,true,false] rfl rfl (any_of HT_.out (by kernel_rfl)) (fun _ _ _ h=>h) (Or.inl ⟨by rfl,?_⟩) ?_ ?_
           rotate_left
           ·intro w'
            go_simp
            with_reducible rfl
           rotate_left
           ·simp only [Act.put,List.setIfInBounds_toArray,List.set_cons_zero,List.set_cons_succ,i64_w,i32_w]
            rfl
           refine pure_ (i:=17) (N:=some 3) (v:=?_) (a':=?_) #[true,true,true,true,true,true,true,true,true,true,true,true,true,true,true,true,true,true] rfl rfl (any_of HT_.out (by kernel_rfl)) (fun _ _ _ h=>h) (Or.inl ⟨by rfl,?_⟩) ?_ ?_
           rotate_left
           ·intro w'
            go_simp
            with_reducible rfl
           rotate_left
           ·simp only [Act.put,List.setIfInBounds_toArray,List.set_cons_zero,List.set_cons_succ,i64_w,i32_w]
            rfl
           refine done_ (done_of HT_.out (by kernel_rfl)) ?_
           try go_wp2
           go_loopg [3,5] k1 (fun kq v3 v5 w'=>∃ (x3_2:ByteArray) (x5_2:Int),v3=.string x3_2∧v5=.int .i64 x5_2∧Aside0 (sawmillref37_Format.l1 kq l0 x3_2 x4_1 x5_2=some r)∧Aside0 (kq≤k1)∧Aside0 (Below w.heap.size w w'))
           case atStart=>exact ⟨(((((x3_1++(⟨#[115,99,104,101,100,117,108,101,32]⟩:ByteArray))++((rd_T24 l0 x4_1).f0))++(⟨#[32,114,97,109,112,32]⟩:ByteArray))++t104)++(⟨#[58]⟩:ByteArray)),(0),(by first|rfl|(simp;done)|(simp [*];done)),(by first|rfl|(simp;done)|(simp [*];done)),H',⟨Nat.le_refl _⟩,⟨by repeat (first|(with_reducible first|exact HB.out|apply below_alloc|apply pw_below_drewN|apply below_drew1)|exact HB.out)⟩⟩
           case round =>
            clear H'
            try clear c1
            try clear p1
            try clear q1
            try clear hx1
            try clear c2
            try clear p2
            try clear c3
            try clear c5
            try clear c5b0
            try clear c6
            try clear c6b0
            try clear c6b1
            try clear c6b2
            try clear c7
            try clear c7b0
            try clear c8
            try clear c8b0
            try clear c8b1
            try clear c8b2
            try clear c9
            try clear c9b0
            try clear c9b1
            try clear c9b2
            try clear c10
            try clear p10
            try clear q10
            try clear hx10
            try clear c11
            try clear c11b0
            try clear c11b1
            try clear c11b2
            try clear c12
            try clear c12b0
            try clear c12b1
            try clear c12b2
            try clear hx102_0
            try clear hx102_1
            try clear hx102_2
            try clear hx103_0
            try clear hx103_1
            try clear hx103_2
            try clear p102
            try clear p103
            try clear p2
            try clear q102
            try clear q103
            obtain ⟨x3_2,x5_2,rfl,rfl,HA,HK2,HB⟩:=hrel
            cases gk with
            | zero=>exact absurd HA.out (by simp [sawmillref37_Format.l1])
            | succ k2 =>
             have H:=HA.out
             clear HA
             simp only [sawmillref37_Format.l1] at H
             by_cases c15:0≤x4_1
             ·rw [if_pos c15] at H
              have c15b0:decide (0≤x4_1)=true:=decide_eq_true c15
              clear c15
              by_cases c16:x4_1 < (l0.length:Int)
              ·rw [if_pos c16] at H
               have c16b0:decide (x4_1 < (l0.length:Int))=true:=decide_eq_true c16
               clear c16
               by_cases c17:x5_2 < (((rd_T24 l0 x4_1).f2).length:Int)
               ·rw [if_pos c17] at H
                have c17b0:decide (x5_2 < (((rd_T24 l0 x4_1).f2).length:Int))=true:=decide_eq_true c17
                clear c17
                by_cases c18:0≤x5_2
                ·rw [if_pos c18] at H
                 have c18b0:decide (0≤x5_2)=true:=decide_eq_true c18
                 clear c18
                 have HC19:=Aside0.mk H
                 clear H
                 have p105:0≤(x4_1:Int):=of_decide_eq_true (by first|(with_reducible assumption)|assumption)
                 have q105:x4_1 < (l0.length:Int):=of_decide_eq_true (by first|(with_reducible assumption)|assumption)
                 obtain ⟨ad105,A105_2,c105_2,e105,hx105_0,hx105_1,hx105_2,hl105_2,hi105_2⟩:=at_T24 HR0.out x4_1 p105 q105
                 obtain rfl:ad102=ad105:=(by injection e105)
                 replace hx105_0:=(HB.out.cell (World.block_lt_of_cell? w _ hx105_0)).trans hx105_0
                 replace hx105_1:=(HB.out.cell (World.block_lt_of_cell? w _ hx105_1)).trans hx105_1
                 replace hx105_2:=(HB.out.cell (World.block_lt_of_cell? w _ hx105_2)).trans hx105_2
                 have HR105_2:=Aside0.mk hi105_2
                 have HC105_2:=Aside0.mk hl105_2
                 clear hi105_2 hl105_2
                 replace p105:=eq_true p105
                 replace q105:=eq_true q105
                 have p106:0≤(x4_1:Int):=of_decide_eq_true (by first|(with_reducible assumption)|assumption)
                 have q106:x4_1 < (l0.length:Int):=of_decide_eq_true (by first|(with_reducible assumption)|assumption)
                 obtain ⟨ad106,A106_2,c106_2,e106,hx106_0,hx106_1,hx106_2,hl106_2,hi106_2⟩:=at_T24 HR0.out x4_1 p106 q106
                 obtain rfl:ad102=ad106:=(by injection e106)
                 replace hx106_0:=(HB.out.cell (World.block_lt_of_cell? w _ hx106_0)).trans hx106_0
                 replace hx106_1:=(HB.out.cell (World.block_lt_of_cell? w _ hx106_1)).trans hx106_1
                 replace hx106_2:=(HB.out.cell (World.block_lt_of_cell? w _ hx106_2)).trans hx106_2
                 have HR106_2:=Aside0.mk hi106_2
                 have HC106_2:=Aside0.mk hl106_2
                 clear hi106_2 hl106_2
                 replace p106:=eq_true p106
                 replace q106:=eq_true q106
                 have ea_:=Option.some.inj (hx105_2.symm.trans hx106_2)
                 injection ea_ with ea_ en_ ec_
                 subst ea_
                 subst ec_
                 clear en_
                 have p107:0≤(x5_2:Int):=of_decide_eq_true (by first|(with_reducible assumption)|assumption)
                 have q107:x5_2 < (((rd_T24 l0 x4_1).f2).length:Int):=of_decide_eq_true (by first|(with_reducible assumption)|assumption)
                 obtain ⟨ad107,e107,hx107_0,hx107_1,hx107_2,hx107_3⟩:=at_T52 HR106_2.out x5_2 p107 q107
                 cases e107
                 replace hx107_0:=(HB.out.cell (World.block_lt_of_cell? w _ hx107_0)).trans hx107_0
                 replace hx107_1:=(HB.out.cell (World.block_lt_of_cell? w _ hx107_1)).trans hx107_1
                 replace hx107_2:=(HB.out.cell (World.block_lt_of_cell? w _ hx107_2)).trans hx107_2
                 replace hx107_3:=(HB.out.cell (World.block_lt_of_cell? w _ hx107_3)).trans hx107_3
                 replace p107:=eq_true p107
                 replace q107:=eq_true q107
                 go_upto_if 53 with (first|((with_reducible refine gate_dst (N:=6) rfl ?_);refine box_event ?hg (N:=6) ?hd (cs:=#[.int .i64 0,.int .i64 0,.int .i64 0,.int .i64 0]) (t:=52) ?hr ?_;(case hd=>rfl);(case hg=>rfl);(case hr=>first|(go_simp;done)|(go_simp;rfl));intro gb108 hg w20 hbox hb;have n0_:=Aside0.mk (below_step (by repeat (first|(with_reducible first|exact HB.out|apply below_alloc|apply pw_below_drewN|apply below_drew1)|exact HB.out)) hb);have n1_:=Aside0.mk (hbox);have n2_:=Aside0.mk ((by rw [hg];exact (below_size (by repeat (first|(with_reducible first|exact HB.out|apply below_alloc|apply pw_below_drewN|apply below_drew1)|exact HB.out))):w.heap.size≤gb108));have n3_:=Aside0.mk ((by rw [hg];exact (below_size (by repeat (first|(with_reducible first|exact HB.out|apply below_alloc|apply pw_below_drewN|apply below_drew1)|exact HB.out))):w.heap.size≤gb108));clear HB;have HB:=n0_;have BK108:=n1_;have GW108:=n2_;have GE108:=n3_;clear n0_ n1_ n2_ n3_;clear hb hbox hg;have hcz21_0:w20.cell? ⟨gb108,0,none⟩=some (.int .i64 0):=(blk_cell BK108.out 0).trans rfl;have hcz21_1:w20.cell? ⟨gb108,1,none⟩=some (.int .i64 0):=(blk_cell BK108.out 1).trans rfl;have hcz21_2:w20.cell? ⟨gb108,2,none⟩=some (.int .i64 0):=(blk_cell BK108.out 2).trans rfl;have hcz21_3:w20.cell? ⟨gb108,3,none⟩=some (.int .i64 0):=(blk_cell BK108.out 3).trans rfl;have hfz21_0:=blk_frozen BK108.out 0;have hfz21_1:=blk_frozen BK108.out 1;have hfz21_2:=blk_frozen BK108.out 2;have hfz21_3:=blk_frozen BK108.out 3))
                 (try simp only [Act.put,List.setIfInBounds_toArray,List.set_cons_zero,List.set_cons_succ])
                 go_cut [3] (fun v3 wc=>∃ (kq:Nat) (x3_18:ByteArray),v3=.string x3_18∧Aside0 (sawmillref37_Format.j2 kq l0 x3_18 x4_1 x5_2 ((rd_T52 ((rd_T24 l0 x4_1).f2) x5_2).f0) ((rd_T52 ((rd_T24 l0 x4_1).f2) x5_2).f1) ((rd_T52 ((rd_T24 l0 x4_1).f2) x5_2).f2) ((rd_T52 ((rd_T24 l0 x4_1).f2) x5_2).f3)=some r)∧Aside0 (kq≤k2)∧Aside0 (wc.heap[gb108]?=some (.cells #[.int .i64 ((rd_T52 ((rd_T24 l0 x4_1).f2) x5_2).f0),.int .i64 ((rd_T52 ((rd_T24 l0 x4_1).f2) x5_2).f1),.int .i64 ((rd_T52 ((rd_T24 l0 x4_1).f2) x5_2).f2),.int .i64 ((rd_T52 ((rd_T24 l0 x4_1).f2) x5_2).f3)] 52 (0,0)))∧Aside0 (Below w.heap.size w wc))
                 case first =>
                  have H:=HC19.out
                  clear HC19
                  by_cases c22:((rd_T52 ((rd_T24 l0 x4_1).f2) x5_2).f0) > 0
                  ·rw [if_pos c22] at H
                   have c22b0:decide (0 < ((rd_T52 ((rd_T24 l0 x4_1).f2) x5_2).f0))=true:=decide_eq_true c22
                   clear c22
                   (first|rw [c22b0]|(simp only [i64_w,i32_w];rw [c22b0])|skip)
                   by_cases c23:x3_2.size+7≤9223372036854775807
                   ·rw [if_pos c23] at H
                    have c23b0:=eq_true c23
                    have c23b1:decide (x3_2.size+7≤9223372036854775807)=true:=decide_eq_true c23
                    try have c23b2:(9223372036854775807 < x3_2.size+7)=False:=eq_false (Nat.not_lt.2 c23)
                    replace H:=Option.bind_eq_some_iff.mp H
                    obtain ⟨t109,A240,H⟩:=H
                    replace H:(if x3_2.size+7+t109.size≤9223372036854775807 then (sawmillref37_Format.j2 k2 l0 ((x3_2++(⟨#[32,98,101,108,111,119,32]⟩:ByteArray))++t109) x4_1 x5_2 ((rd_T52 ((rd_T24 l0 x4_1).f2) x5_2).f0) ((rd_T52 ((rd_T24 l0 x4_1).f2) x5_2).f1) ((rd_T52 ((rd_T24 l0 x4_1).f2) x5_2).f2) ((rd_T52 ((rd_T24 l0 x4_1).f2) x5_2).f3)) else (none))=some r:=H
                    have A24:=Aside0.mk A240
                    clear A240
                    by_cases c25:x3_2.size+7+t109.size≤9223372036854775807
                    ·rw [if_pos c25] at H
                     have c25b0:=eq_true c25
                     have c25b1:decide (x3_2.size+7+t109.size≤9223372036854775807)=true:=decide_eq_true c25
                     try have c25b2:(9223372036854775807 < x3_2.size+7+t109.size)=False:=eq_false (Nat.not_lt.2 c25)
                     have H':=Aside0.mk H
                     clear H
                     have hcz26_0:w20.cell? ⟨gb108,0,none⟩=some (.int .i64 0):=(blk_cell BK108.out 0).trans rfl
                     have hcz26_1:w20.cell? ⟨gb108,1,none⟩=some (.int .i64 0):=(blk_cell BK108.out 1).trans rfl
                     have hcz26_2:w20.cell? ⟨gb108,2,none⟩=some (.int .i64 0):=(blk_cell BK108.out 2).trans rfl
                     have hcz26_3:w20.cell? ⟨gb108,3,none⟩=some (.int .i64 0):=(blk_cell BK108.out 3).trans rfl
                     have hfz26_0:=blk_frozen BK108.out 0
                     have hfz26_1:=blk_frozen BK108.out 1
                     have hfz26_2:=blk_frozen BK108.out 2
                     have hfz26_3:=blk_frozen BK108.out 3
                     go_wp2_with (first|((with_reducible refine gate_callee (f:=37) rfl ?_);refine goesL_ (some 58) rfl rfl Tryd.func37 (by kernel_rfl) rfl #[.int .i64 ((rd_T52 ((rd_T24 l0 x4_1).f2) x5_2).f0)] rfl (by (try simp only [List.map_toArray,List.map_cons,List.map_nil]);first|done|rfl|(simp only [List.length_drop,List.length_take];rfl)) ?_;(with_reducible refine (sawmillref37_decimal.calls k2 ((rd_T52 ((rd_T24 l0 x4_1).f2) x5_2).f0) t109 _ A24.out).mono ?_);rintro e w27 ⟨rfl,hb⟩;refine ⟨_,rfl,?_⟩;have n0_:=Aside0.mk (blk_below (g:=gb108) (o:=.cells #[.int .i64 ((rd_T52 ((rd_T24 l0 x4_1).f2) x5_2).f0),.int .i64 ((rd_T52 ((rd_T24 l0 x4_1).f2) x5_2).f1),.int .i64 ((rd_T52 ((rd_T24 l0 x4_1).f2) x5_2).f2),.int .i64 ((rd_T52 ((rd_T24 l0 x4_1).f2) x5_2).f3)] 52 (0,0)) (by (with_reducible repeat (first|refine blk_drewN ?_ _|refine blk_drew ?_|refine blk_alloc ?_ _));refine blk_put (cs:=#[.int .i64 ((rd_T52 ((rd_T24 l0 x4_1).f2) x5_2).f0),.int .i64 ((rd_T52 ((rd_T24 l0 x4_1).f2) x5_2).f1),.int .i64 ((rd_T52 ((rd_T24 l0 x4_1).f2) x5_2).f2),.int .i64 0]) ?_ 3 _ rfl;(with_reducible repeat (first|refine blk_drewN ?_ _|refine blk_drew ?_|refine blk_alloc ?_ _));refine blk_put (cs:=#[.int .i64 ((rd_T52 ((rd_T24 l0 x4_1).f2) x5_2).f0),.int .i64 ((rd_T52 ((rd_T24 l0 x4_1).f2) x5_2).f1),.int .i64 0,.int .i64 0]) ?_ 2 _ rfl;(with_reducible repeat (first|refine blk_drewN ?_ _|refine blk_drew ?_|refine blk_alloc ?_ _));refine blk_put (cs:=#[.int .i64 ((rd_T52 ((rd_T24 l0 x4_1).f2) x5_2).f0),.int .i64 0,.int .i64 0,.int .i64 0]) ?_ 1 _ rfl;(with_reducible repeat (first|refine blk_drewN ?_ _|refine blk_drew ?_|refine blk_alloc ?_ _));refine blk_put (cs:=#[.int .i64 0,.int .i64 0,.int .i64 0,.int .i64 0]) ?_ 0 _ rfl;(with_reducible repeat (first|refine blk_drewN ?_ _|refine blk_drew ?_|refine blk_alloc ?_ _));exact BK108.out) hb);have n1_:=Aside0.mk (below_step (by repeat (first|(with_reducible first|exact HB.out|apply below_alloc|apply pw_below_drewN|apply below_drew1|refine below_set ?_ GE108.out)|exact HB.out)) hb);clear BK108;clear HB;have BK108:=n0_;have HB:=n1_;clear n0_ n1_;(try clear hb);(try clear hb2);(try clear hk);(try clear hi)))
                     go_meet
                     case rel=>exact ⟨_,((x3_2++(⟨#[32,98,101,108,111,119,32]⟩:ByteArray))++t109),(by first|rfl|(simp;done)|(simp [*];done)),H',⟨by have:=HK1.out;have:=HK2.out;first|omega|exact Nat.le_refl _⟩,⟨by (with_reducible repeat (first|refine blk_drewN ?_ _|refine blk_drew ?_|refine blk_alloc ?_ _));exact BK108.out⟩,⟨by repeat (first|(with_reducible first|exact HB.out|apply below_alloc|apply pw_below_drewN|apply below_drew1|refine below_set ?_ GE108.out)|exact HB.out)⟩⟩
                    ·rw [if_neg c25] at H
                     exact absurd H (by simp)
                   ·rw [if_neg c23] at H
                    exact absurd H (by simp)
                  ·rw [if_neg c22] at H
                   have c22b0:decide (0 < ((rd_T52 ((rd_T24 l0 x4_1).f2) x5_2).f0))=false:=decide_eq_false c22
                   clear c22
                   (first|rw [c22b0]|(simp only [i64_w,i32_w];rw [c22b0])|skip)
                   have H':=Aside0.mk H
                   clear H
                   go_wp2
                   go_meet
                   case rel=>exact ⟨_,(x3_2),(by first|rfl|(simp;done)|(simp [*];done)),H',⟨by have:=HK1.out;have:=HK2.out;first|omega|exact Nat.le_refl _⟩,⟨by (with_reducible repeat (first|refine blk_drewN ?_ _|refine blk_drew ?_|refine blk_alloc ?_ _));refine blk_put (cs:=#[.int .i64 ((rd_T52 ((rd_T24 l0 x4_1).f2) x5_2).f0),.int .i64 ((rd_T52 ((rd_T24 l0 x4_1).f2) x5_2).f1),.int .i64 ((rd_T52 ((rd_T24 l0 x4_1).f2) x5_2).f2),.int .i64 0]) ?_ 3 _ rfl;(with_reducible repeat (first|refine blk_drewN ?_ _|refine blk_drew ?_|refine blk_alloc ?_ _));refine blk_put (cs:=#[.int .i64 ((rd_T52 ((rd_T24 l0 x4_1).f2) x5_2).f0),.int .i64 ((rd_T52 ((rd_T24 l0 x4_1).f2) x5_2).f1),.int .i64 0,.int .i64 0]) ?_ 2 _ rfl;(with_reducible repeat (first|refine blk_drewN ?_ _|refine blk_drew ?_|refine blk_alloc ?_ _));refine blk_put (cs:=#[.int .i64 ((rd_T52 ((rd_T24 l0 x4_1).f2) x5_2).f0),.int .i64 0,.int .i64 0,.int .i64 0]) ?_ 1 _ rfl;(with_reducible repeat (first|refine blk_drewN ?_ _|refine blk_drew ?_|refine blk_alloc ?_ _));refine blk_put (cs:=#[.int .i64 0,.int .i64 0,.int .i64 0,.int .i64 0]) ?_ 0 _ rfl;(with_reducible repeat (first|refine blk_drewN ?_ _|refine blk_drew ?_|refine blk_alloc ?_ _));exact BK108.out⟩,⟨by repeat (first|(with_reducible first|exact HB.out|apply below_alloc|apply pw_below_drewN|apply below_drew1|refine below_set ?_ GE108.out)|exact HB.out)⟩⟩
                 case rest =>
                  clear HC19
                  try clear c1
                  try clear p1
                  try clear q1
                  try clear hx1
                  try clear c2
                  try clear p2
                  try clear c3
                  try clear c5
                  try clear c5b0
                  try clear c6
                  try clear c6b0
                  try clear c6b1
                  try clear c6b2
                  try clear c7
                  try clear c7b0
                  try clear c8
                  try clear c8b0
                  try clear c8b1
                  try clear c8b2
                  try clear c9
                  try clear c9b0
                  try clear c9b1
                  try clear c9b2
                  try clear c10
                  try clear p10
                  try clear q10
                  try clear hx10
                  try clear c11
                  try clear c11b0
                  try clear c11b1
                  try clear c11b2
                  try clear c12
                  try clear c12b0
                  try clear c12b1
                  try clear c12b2
                  try clear c15
                  try clear c15b0
                  try clear c16
                  try clear c16b0
                  try clear c17
                  try clear c17b0
                  try clear c18
                  try clear c18b0
                  try clear c22
                  try clear c22b0
                  try clear c23
                  try clear c23b0
                  try clear c23b1
                  try clear c23b2
                  try clear c24
                  try clear c25
                  try clear c25b0
                  try clear c25b1
                  try clear c25b2
                  try clear hcz21_0
                  try clear hcz21_1
                  try clear hcz21_2
                  try clear hcz21_3
                  try clear hcz26_0
                  try clear hcz26_1
                  try clear hcz26_2
                  try clear hcz26_3
                  try clear hfz21_0
                  try clear hfz21_1
                  try clear hfz21_2
                  try clear hfz21_3
                  try clear hfz26_0
                  try clear hfz26_1
                  try clear hfz26_2
                  try clear hfz26_3
                  try clear hx102_0
                  try clear hx102_1
                  try clear hx102_2
                  try clear hx103_0
                  try clear hx103_1
                  try clear hx103_2
                  try clear hx105_0
                  try clear hx105_1
                  try clear hx105_2
                  try clear hx106_0
                  try clear hx106_1
                  try clear hx106_2
                  try clear hx107_0
                  try clear hx107_1
                  try clear hx107_2
                  try clear hx107_3
                  try clear p1
                  try clear p10
                  try clear p102
                  try clear p103
                  try clear p105
                  try clear p106
                  try clear p107
                  try clear p2
                  try clear q1
                  try clear q10
                  try clear q102
                  try clear q103
                  try clear q105
                  try clear q106
                  try clear q107
                  obtain ⟨kq,x3_18,rfl,HA,HJ18,BK108,HB⟩:=hcut
                  cases kq with
                  | zero=>exact absurd HA.out (by simp [sawmillref37_Format.j2])
                  | succ kj18 =>
                   have H:=HA.out
                   clear HA
                   simp only [sawmillref37_Format.j2] at H
                   by_cases c28:((rd_T52 ((rd_T24 l0 x4_1).f2) x5_2).f1) > 0
                   ·rw [if_pos c28] at H
                    have c28b0:decide (0 < ((rd_T52 ((rd_T24 l0 x4_1).f2) x5_2).f1))=true:=decide_eq_true c28
                    clear c28
                    by_cases c29:x3_18.size+5≤9223372036854775807
                    ·rw [if_pos c29] at H
                     have c29b0:=eq_true c29
                     have c29b1:decide (x3_18.size+5≤9223372036854775807)=true:=decide_eq_true c29
                     try have c29b2:(9223372036854775807 < x3_18.size+5)=False:=eq_false (Nat.not_lt.2 c29)
                     replace H:=Option.bind_eq_some_iff.mp H
                     obtain ⟨t110,A300,H⟩:=H
                     replace H:(if x3_18.size+5+t110.size≤9223372036854775807 then (if x3_18.size+5+t110.size+4≤9223372036854775807 then ((sawmillref37_decimal.f kj18 ((rd_T52 ((rd_T24 l0 x4_1).f2) x5_2).f2)).bind fun t111=>(if x3_18.size+5+t110.size+4+t111.size≤9223372036854775807 then (if x3_18.size+5+t110.size+4+t111.size+3≤9223372036854775807 then ((sawmillref37_decimal.f kj18 ((rd_T52 ((rd_T24 l0 x4_1).f2) x5_2).f3)).bind fun t112=>(if x3_18.size+5+t110.size+4+t111.size+3+t112.size≤9223372036854775807 then (if x3_18.size+5+t110.size+4+t111.size+3+t112.size+1≤9223372036854775807 then (sawmillref37_Format.l1 kj18 l0 (((((((x3_18++(⟨#[32,102,111,114,32]⟩:ByteArray))++t110)++(⟨#[32,97,116,32]⟩:ByteArray))++t111)++(⟨#[32,45,32]⟩:ByteArray))++t112)++(⟨#[59]⟩:ByteArray)) x4_1 (wrap64 (x5_2+1))) else (none)) else (none))) else (none)) else (none))) else (none)) else (none))=some r:=H
                     have A30:=Aside0.mk A300
                     clear A300
                     by_cases c31:x3_18.size+5+t110.size≤9223372036854775807
                     ·rw [if_pos c31] at H
                      have c31b0:=eq_true c31
                      have c31b1:decide (x3_18.size+5+t110.size≤9223372036854775807)=true:=decide_eq_true c31
                      try have c31b2:(9223372036854775807 < x3_18.size+5+t110.size)=False:=eq_false (Nat.not_lt.2 c31)
                      by_cases c32:x3_18.size+5+t110.size+4≤9223372036854775807
                      ·rw [if_pos c32] at H
                       have c32b0:=eq_true c32
                       have c32b1:decide (x3_18.size+5+t110.size+4≤9223372036854775807)=true:=decide_eq_true c32
                       try have c32b2:(9223372036854775807 < x3_18.size+5+t110.size+4)=False:=eq_false (Nat.not_lt.2 c32)
                       replace H:=Option.bind_eq_some_iff.mp H
                       obtain ⟨t111,A330,H⟩:=H
                       replace H:(if x3_18.size+5+t110.size+4+t111.size≤9223372036854775807 then (if x3_18.size+5+t110.size+4+t111.size+3≤9223372036854775807 then ((sawmillref37_decimal.f kj18 ((rd_T52 ((rd_T24 l0 x4_1).f2) x5_2).f3)).bind fun t112=>(if x3_18.size+5+t110.size+4+t111.size+3+t112.size≤9223372036854775807 then (if x3_18.size+5+t110.size+4+t111.size+3+t112.size+1≤9223372036854775807 then (sawmillref37_Format.l1 kj18 l0 (((((((x3_18++(⟨#[32,102,111,114,32]⟩:ByteArray))++t110)++(⟨#[32,97,116,32]⟩:ByteArray))++t111)++(⟨#[32,45,32]⟩:ByteArray))++t112)++(⟨#[59]⟩:ByteArray)) x4_1 (wrap64 (x5_2+1))) else (none)) else (none))) else (none)) else (none))=some r:=H
                       have A33:=Aside0.mk A330
                       clear A330
                       by_cases c34:x3_18.size+5+t110.size+4+t111.size≤9223372036854775807
                       ·rw [if_pos c34] at H
                        have c34b0:=eq_true c34
                        have c34b1:decide (x3_18.size+5+t110.size+4+t111.size≤9223372036854775807)=true:=decide_eq_true c34
                        try have c34b2:(9223372036854775807 < x3_18.size+5+t110.size+4+t111.size)=False:=eq_false (Nat.not_lt.2 c34)
                        by_cases c35:x3_18.size+5+t110.size+4+t111.size+3≤9223372036854775807
                        ·rw [if_pos c35] at H
                         have c35b0:=eq_true c35
                         have c35b1:decide (x3_18.size+5+t110.size+4+t111.size+3≤9223372036854775807)=true:=decide_eq_true c35
                         try have c35b2:(9223372036854775807 < x3_18.size+5+t110.size+4+t111.size+3)=False:=eq_false (Nat.not_lt.2 c35)
                         replace H:=Option.bind_eq_some_iff.mp H
                         obtain ⟨t112,A360,H⟩:=H
                         replace H:(if x3_18.size+5+t110.size+4+t111.size+3+t112.size≤9223372036854775807 then (if x3_18.size+5+t110.size+4+t111.size+3+t112.size+1≤9223372036854775807 then (sawmillref37_Format.l1 kj18 l0 (((((((x3_18++(⟨#[32,102,111,114,32]⟩:ByteArray))++t110)++(⟨#[32,97,116,32]⟩:ByteArray))++t111)++(⟨#[32,45,32]⟩:ByteArray))++t112)++(⟨#[59]⟩:ByteArray)) x4_1 (wrap64 (x5_2+1))) else (none)) else (none))=some r:=H
                         have A36:=Aside0.mk A360
                         clear A360
                         by_cases c37:x3_18.size+5+t110.size+4+t111.size+3+t112.size≤9223372036854775807
                         ·rw [if_pos c37] at H
                          have c37b0:=eq_true c37
                          have c37b1:decide (x3_18.size+5+t110.size+4+t111.size+3+t112.size≤9223372036854775807)=true:=decide_eq_true c37
                          try have c37b2:(9223372036854775807 < x3_18.size+5+t110.size+4+t111.size+3+t112.size)=False:=eq_false (Nat.not_lt.2 c37)
                          by_cases c38:x3_18.size+5+t110.size+4+t111.size+3+t112.size+1≤9223372036854775807
                          ·rw [if_pos c38] at H
                           have c38b0:=eq_true c38
                           have c38b1:decide (x3_18.size+5+t110.size+4+t111.size+3+t112.size+1≤9223372036854775807)=true:=decide_eq_true c38
                           try have c38b2:(9223372036854775807 < x3_18.size+5+t110.size+4+t111.size+3+t112.size+1)=False:=eq_false (Nat.not_lt.2 c38)
                           have H':=Aside0.mk H
                           clear H
                           have hcz39_0:wc.cell? ⟨gb108,0,none⟩=some (.int .i64 ((rd_T52 ((rd_T24 l0 x4_1).f2) x5_2).f0)):=(blk_cell BK108.out 0).trans rfl
                           have hcz39_1:wc.cell? ⟨gb108,1,none⟩=some (.int .i64 ((rd_T52 ((rd_T24 l0 x4_1).f2) x5_2).f1)):=(blk_cell BK108.out 1).trans rfl
                           have hcz39_2:wc.cell? ⟨gb108,2,none⟩=some (.int .i64 ((rd_T52 ((rd_T24 l0 x4_1).f2) x5_2).f2)):=(blk_cell BK108.out 2).trans rfl
                           have hcz39_3:wc.cell? ⟨gb108,3,none⟩=some (.int .i64 ((rd_T52 ((rd_T24 l0 x4_1).f2) x5_2).f3)):=(blk_cell BK108.out 3).trans rfl
                           have hfz39_0:=blk_frozen BK108.out 0
                           have hfz39_1:=blk_frozen BK108.out 1
                           have hfz39_2:=blk_frozen BK108.out 2
                           have hfz39_3:=blk_frozen BK108.out 3
                           try go_wp2_with (first|((with_reducible refine gate_callee (f:=37) rfl ?_);refine goesL_ (some 67) rfl rfl Tryd.func37 (by kernel_rfl) rfl #[.int .i64 ((rd_T52 ((rd_T24 l0 x4_1).f2) x5_2).f1)] rfl (by (try simp only [List.map_toArray,List.map_cons,List.map_nil]);first|done|rfl|(simp only [List.length_drop,List.length_take];rfl)) ?_;(with_reducible refine (sawmillref37_decimal.calls kj18 ((rd_T52 ((rd_T24 l0 x4_1).f2) x5_2).f1) t110 _ A30.out).mono ?_);rintro e w40 ⟨rfl,hb⟩;refine ⟨_,rfl,?_⟩;have n0_:=Aside0.mk (blk_below (g:=gb108) (o:=.cells #[.int .i64 ((rd_T52 ((rd_T24 l0 x4_1).f2) x5_2).f0),.int .i64 ((rd_T52 ((rd_T24 l0 x4_1).f2) x5_2).f1),.int .i64 ((rd_T52 ((rd_T24 l0 x4_1).f2) x5_2).f2),.int .i64 ((rd_T52 ((rd_T24 l0 x4_1).f2) x5_2).f3)] 52 (0,0)) (by (with_reducible repeat (first|refine blk_drewN ?_ _|refine blk_drew ?_|refine blk_alloc ?_ _));exact BK108.out) hb);have n1_:=Aside0.mk (below_step (by repeat (first|(with_reducible first|exact HB.out|apply below_alloc|apply pw_below_drewN|apply below_drew1|refine below_set ?_ GE108.out)|exact HB.out)) hb);clear BK108;clear HB;have BK108:=n0_;have HB:=n1_;clear n0_ n1_;(try clear hb);(try clear hb2);(try clear hk);(try clear hi)))
                           have n0_:=Aside0.mk (blk_drew BK108.out)
                           have n1_:=Aside0.mk (below_drew1 HB.out)
                           clear BK108
                           clear HB
                           have BK108:=n0_
                           have HB:=n1_
                           clear n0_ n1_
                           refine start_ (n:=13) (S:=fun w'=>w'.cell? ⟨gb108,0,none⟩=some (.int .i64 ((rd_T52 ((rd_T24 l0 x4_1).f2) x5_2).f0))∧w'.cell? ⟨gb108,1,none⟩=some (.int .i64 ((rd_T52 ((rd_T24 l0 x4_1).f2) x5_2).f1))∧w'.cell? ⟨gb108,2,none⟩=some (.int .i64 ((rd_T52 ((rd_T24 l0 x4_1).f2) x5_2).f2))∧w'.cell? ⟨gb108,3,none⟩=some (.int .i64 ((rd_T52 ((rd_T24 l0 x4_1).f2) x5_2).f3))) (ds:=[]) #[false,false,false,false,false,false,false,false,false,false,false,false,false] (by kernel_rfl) rfl rfl ⟨(blk_cell BK108.out 0).trans rfl,(blk_cell BK108.out 1).trans rfl,(blk_cell BK108.out 2).trans rfl,(blk_cell BK108.out 3).trans rfl⟩ (fun hHeld=>?_);refine with_tabW sawmillref37_Format.tab16 sawmillref37_Format.bits16 (fun HT_ HW_=>?_)
                           generalize w40.drew=w41 at BK108 HB hHeld ⊢
                           refine pure_ (i:=0) (N:=some 69) (v:=?_) (a':=?_) #[true,false,false,false,false,false,false,false,false,false,false,false,false] rfl rfl (any_of HT_.out (by kernel_rfl)) (fun _ _ _ h=>h) (Or.inl ⟨by rfl,?_⟩) ?_ ?_
                           rotate_left
                           ·intro w'
                            go_simp
                            with_reducible rfl
                           rotate_left
                           ·simp only [Act.put,List.setIfInBounds_toArray,List.set_cons_zero,List.set_cons_succ,i64_w,i32_w]
                            rfl
                           refine pure_ (i:=1) (N:=some 70) (v:=?_) (a':=?_) #[true,true,false,false,false,false,false,false,false,false,false,false,false] rfl rfl (any_of HT_.out (by kernel_rfl)) (fun _ _ _ h=>h) (Or.inl ⟨by rfl,?_⟩) ?_ ?_
                           rotate_left
                           ·intro w'
                            go_simp
                            with_reducible rfl
                           rotate_left
                           ·simp only [Act.put,List.setIfInBounds_toArray,List.set_cons_zero,List.set_cons_succ,i64_w,i32_w]
                            rfl
                           refine pure_ (i:=2) (N:=some 71) (v:=?_) (a':=?_) #[true,true,true,false,false,false,false,false,false,false,false,false,false] rfl rfl (any_of HT_.out (by kernel_rfl)) (fun _ _ _ h=>h) (Or.inl ⟨by rfl,?_⟩) ?_ ?_
                           rotate_left
                           ·intro w'
                            go_simp
                            with_reducible rfl
                           rotate_left
                           ·simp only [Act.put,List.setIfInBounds_toArray,List.set_cons_zero,List.set_cons_succ,i64_w,i32_w]
                            rfl
                           refine pure_ (i:=7) (N:=some 76) (v:=?_) (a':=?_) #[true,true,true,false,false,false,false,true,false,false,false,false,false] rfl rfl (any_of HT_.out (by kernel_rfl)) (fun _ _ _ h=>h) (Or.inl ⟨by rfl,?_⟩) ?_ ?_
                           rotate_left
                           ·intro w'
                            go_simp
                            with_reducible rfl
                           rotate_left
                           ·simp only [Act.put,List.setIfInBounds_toArray,List.set_cons_zero,List.set_cons_succ,i64_w,i32_w]
                            rfl
                           refine take_ (i:=3) (N:=some 72) (v:=?_) (a':=?_) #[true,true,true,true,false,false,false,true,false,false,false,false,false] rfl rfl (take_ofW HT_.out HW_.out (by kernel_rfl)) (fun _ _ _ h=>h) (Or.inl ⟨by rfl,?_⟩) hHeld ?_ ?_
                           rotate_left
                           ·rintro w' ⟨s0,s1,s2,s3⟩
                            go_simp
                            with_reducible rfl
                           rotate_left
                           ·simp only [Act.put,List.setIfInBounds_toArray,List.set_cons_zero,List.set_cons_succ,i64_w,i32_w]
                            rfl
                           refine take_ (i:=8) (N:=some 77) (v:=?_) (a':=?_) #[true,true,true,true,false,false,false,true,true,false,false,false,false] rfl rfl (take_ofW HT_.out HW_.out (by kernel_rfl)) (fun _ _ _ h=>h) (Or.inl ⟨by rfl,?_⟩) hHeld ?_ ?_
                           rotate_left
                           ·rintro w' ⟨s0,s1,s2,s3⟩
                            go_simp
                            with_reducible rfl
                           rotate_left
                           ·simp only [Act.put,List.setIfInBounds_toArray,List.set_cons_zero,List.set_cons_succ,i64_w,i32_w]
                            rfl
                           refine one_ (i:=4) (N:=some 73) #[true,true,true,true,true,false,false,true,true,false,false,false,false] rfl rfl (one_of HT_.out (by kernel_rfl)) (by decide) (fun K hK=>?_)
                           refine goes_ Tryd.func37 (by kernel_rfl) rfl #[.int .i64 ((rd_T52 ((rd_T24 l0 x4_1).f2) x5_2).f2)] (by rfl) rfl rfl (by (try simp only [List.map_toArray,List.map_cons,List.map_nil]);first|done|rfl|(simp only [List.length_drop,List.length_take];rfl)) ?_
                           with_reducible refine (sawmillref37_decimal.calls kj18 ((rd_T52 ((rd_T24 l0 x4_1).f2) x5_2).f2) t111 _ A33.out).mono ?_
                           rintro e w42 ⟨rfl,hb⟩
                           refine ⟨_,rfl,?_⟩
                           have n0_:=Aside0.mk (blk_below (g:=gb108) (o:=.cells #[.int .i64 ((rd_T52 ((rd_T24 l0 x4_1).f2) x5_2).f0),.int .i64 ((rd_T52 ((rd_T24 l0 x4_1).f2) x5_2).f1),.int .i64 ((rd_T52 ((rd_T24 l0 x4_1).f2) x5_2).f2),.int .i64 ((rd_T52 ((rd_T24 l0 x4_1).f2) x5_2).f3)] 52 (0,0)) (by (with_reducible repeat (first|refine blk_drewN ?_ _|refine blk_drew ?_|refine blk_alloc ?_ _));exact BK108.out) hb)
                           have n1_:=Aside0.mk (below_step (by repeat (first|(with_reducible first|exact HB.out|apply below_alloc|apply pw_below_drewN|apply below_drew1|refine below_set ?_ GE108.out)|exact HB.out)) hb)
                           clear BK108
                           clear HB
                           have BK108:=n0_
                           have HB:=n1_
                           clear n0_ n1_
                           (try clear hb)
                           (try clear hb2)
                           (try clear hk)
                           (try clear hi)
                           refine hK.out _ _ ⟨(blk_cell BK108.out 0).trans rfl,(blk_cell BK108.out 1).trans rfl,(blk_cell BK108.out 2).trans rfl,(blk_cell BK108.out 3).trans rfl⟩ (fun hHeld=>?_)
                           clear hK K
                           refine norm_ (a':=?_) ?_ ?_
                           rotate_left
                           ·show Act.put _ (some 73) _=_
                            simp only [Act.put,List.setIfInBounds_toArray,List.set_cons_zero,List.set_cons_succ,i64_w,i32_w]
                            rfl
                           refine pure_ (i:=5) (N:=some 74) (v:=?_) (a':=?_) #[true,true,true,true,true,true,false,true,true,false,false,false,false] rfl rfl (any_of HT_.out (by kernel_rfl)) (fun _ _ _ h=>h) (Or.inl ⟨by rfl,?_⟩) ?_ ?_
                           rotate_left
                           ·intro w'
                            go_simp
                            with_reducible rfl
                           rotate_left
                           ·simp only [Act.put,List.setIfInBounds_toArray,List.set_cons_zero,List.set_cons_succ,i64_w,i32_w]
                            rfl
                           refine pure_ (i:=6) (N:=some 75) (v:=?_) (a':=?_) #[true,true,true,true,true,true,true,true,true,false,false,false,false] rfl rfl (any_of HT_.out (by kernel_rfl)) (fun _ _ _ h=>h) (Or.inl ⟨by rfl,?_⟩) ?_ ?_
                           rotate_left
                           ·intro w'
                            go_simp
                            with_reducible rfl
                           rotate_left
                           ·simp only [Act.put,List.setIfInBounds_toArray,List.set_cons_zero,List.set_cons_succ,i64_w,i32_w]
                            rfl
                           refine one_ (i:=9) (N:=some 78) #[true,true,true,true,true,true,true,true,true,true,false,false,false] rfl rfl (one_of HT_.out (by kernel_rfl)) (by decide) (fun K hK=>?_)
                           refine goes_ Tryd.func37 (by kernel_rfl) rfl #[.int .i64 ((rd_T52 ((rd_T24 l0 x4_1).f2) x5_2).f3)] (by rfl) rfl rfl (by (try simp only [List.map_toArray,List.map_cons,List.map_nil]);first|done|rfl|(simp only [List.length_drop,List.length_take];rfl)) ?_
                           with_reducible refine (sawmillref37_decimal.calls kj18 ((rd_T52 ((rd_T24 l0 x4_1).f2) x5_2).f3) t112 _ A36.out).mono ?_
                           rintro e w43 ⟨rfl,hb⟩
                           refine ⟨_,rfl,?_⟩
                           have n0_:=Aside0.mk (blk_below (g:=gb108) (o:=.cells #[.int .i64 ((rd_T52 ((rd_T24 l0 x4_1).f2) x5_2).f0),.int .i64 ((rd_T52 ((rd_T24 l0 x4_1).f2) x5_2).f1),.int .i64 ((rd_T52 ((rd_T24 l0 x4_1).f2) x5_2).f2),.int .i64 ((rd_T52 ((rd_T24 l0 x4_1).f2) x5_2).f3)] 52 (0,0)) (by (with_reducible repeat (first|refine blk_drewN ?_ _|refine blk_drew ?_|refine blk_alloc ?_ _));exact BK108.out) hb)
                           have n1_:=Aside0.mk (below_step (by repeat (first|(with_reducible first|exact HB.out|apply below_alloc|apply pw_below_drewN|apply below_drew1|refine below_set ?_ GE108.out)|exact HB.out)) hb)
                           clear BK108
                           clear HB
                           have BK108:=n0_
                           have HB:=n1_
                           clear n0_ n1_
                           (try clear hb)
                           (try clear hb2)
                           (try clear hk)
                           (try clear hi)
                           refine hK.out _ _ ⟨(blk_cell BK108.out 0).trans rfl,(blk_cell BK108.out 1).trans rfl,(blk_cell BK108.out 2).trans rfl,(blk_cell BK108.out 3).trans rfl⟩ (fun hHeld=>?_)
                           clear hK K
                           refine norm_ (a':=?_) ?_ ?_
                           rotate_left
                           ·show Act.put _ (some 78) _=_
                            simp only [Act.put,List.setIfInBounds_toArray,List.set_cons_zero,List.set_cons_succ,i64_w,i32_w]
                            rfl
                           refine pure_ (i:=10) (N:=some 79) (v:=?_) (a':=?_) #[true,true,true,true,true,true,true,true,true,true,true,false,false] rfl rfl (any_of HT_.out (by kernel_rfl)) (fun _ _ _ h=>h) (Or.inl ⟨by rfl,?_⟩) ?_ ?_
                           rotate_left
                           ·intro w'
                            go_simp
                            with_reducible rfl
                           rotate_left
                           ·simp only [Act.put,List.setIfInBounds_toArray,List.set_cons_zero,List.set_cons_succ,i64_w,i32_w]
                            rfl
                           refine pure_ (i:=11) (N:=some 80) (v:=?_) (a':=?_) #[true,true,true,true,true,true,true,true,true,true,true,true,false] rfl rfl (any_of HT_.out (by kernel_rfl)) (fun _ _ _ h=>h) (Or.inl ⟨by rfl,?_⟩) ?_ ?_
                           rotate_left
                           ·intro w'
                            go_simp
                            with_reducible rfl
                           rotate_left
                           ·simp only [Act.put,List.setIfInBounds_toArray,List.set_cons_zero,List.set_cons_succ,i64_w,i32_w]
                            rfl
                           refine pure_ (i:=12) (N:=some 3) (v:=?_) (a':=?_) #[true,true,true,true,true,true,true,true,true,true,true,true,true] rfl rfl (any_of HT_.out (by kernel_rfl)) (fun _ _ _ h=>h) (Or.inl ⟨by rfl,?_⟩) ?_ ?_
                           rotate_left
                           ·intro w'
                            go_simp
                            with_reducible rfl
                           rotate_left
                           ·simp only [Act.put,List.setIfInBounds_toArray,List.set_cons_zero,List.set_cons_succ,i64_w,i32_w]
                            rfl
                           refine done_ (done_of HT_.out (by kernel_rfl)) ?_
                           try go_wp2
                           go_roundg kj18
                           case measure=>have:=HK1.out;have:=HK2.out;have:=HJ18.out;omega
                           case rel=>exact ⟨(((((((x3_18++(⟨#[32,102,111,114,32]⟩:ByteArray))++t110)++(⟨#[32,97,116,32]⟩:ByteArray))++t111)++(⟨#[32,45,32]⟩:ByteArray))++t112)++(⟨#[59]⟩:ByteArray)),(wrap64 (x5_2+1)),(by first|rfl|(simp;done)|(simp [*];done)),(by first|rfl|(simp;done)|(simp [*];done)),H',⟨by have:=HK1.out;have:=HK2.out;have:=HJ18.out;omega⟩,⟨by repeat (first|(with_reducible first|exact HB.out|apply below_alloc|apply pw_below_drewN|apply below_drew1|refine below_set ?_ GE108.out)|exact HB.out)⟩⟩
                          ·rw [if_neg c38] at H
                           exact absurd H (by simp)
                         ·rw [if_neg c37] at H
                          exact absurd H (by simp)
                        ·rw [if_neg c35] at H
                         exact absurd H (by simp)
                       ·rw [if_neg c34] at H
                        exact absurd H (by simp)
                      ·rw [if_neg c32] at H
                       exact absurd H (by simp)
                     ·rw [if_neg c31] at H
                      exact absurd H (by simp)
                    ·rw [if_neg c29] at H
                     exact absurd H (by simp)
                   ·rw [if_neg c28] at H
                    have c28b0:decide (0 < ((rd_T52 ((rd_T24 l0 x4_1).f2) x5_2).f1))=false:=decide_eq_false c28
                    clear c28
                    by_cases c44:x3_18.size+4≤9223372036854775807
                    ·rw [if_pos c44] at H
                     have c44b0:=eq_true c44
                     have c44b1:decide (x3_18.size+4≤9223372036854775807)=true:=decide_eq_true c44
                     try have c44b2:(9223372036854775807 < x3_18.size+4)=False:=eq_false (Nat.not_lt.2 c44)
                     replace H:=Option.bind_eq_some_iff.mp H
                     obtain ⟨t113,A450,H⟩:=H
                     replace H:(if x3_18.size+4+t113.size≤9223372036854775807 then (if x3_18.size+4+t113.size+3≤9223372036854775807 then ((sawmillref37_decimal.f kj18 ((rd_T52 ((rd_T24 l0 x4_1).f2) x5_2).f3)).bind fun t114=>(if x3_18.size+4+t113.size+3+t114.size≤9223372036854775807 then (if x3_18.size+4+t113.size+3+t114.size+1≤9223372036854775807 then (sawmillref37_Format.l1 kj18 l0 (((((x3_18++(⟨#[32,97,116,32]⟩:ByteArray))++t113)++(⟨#[32,45,32]⟩:ByteArray))++t114)++(⟨#[59]⟩:ByteArray)) x4_1 (wrap64 (x5_2+1))) else (none)) else (none))) else (none)) else (none))=some r:=H
                     have A45:=Aside0.mk A450
                     clear A450
                     by_cases c46:x3_18.size+4+t113.size≤9223372036854775807
                     ·rw [if_pos c46] at H
                      have c46b0:=eq_true c46
                      have c46b1:decide (x3_18.size+4+t113.size≤9223372036854775807)=true:=decide_eq_true c46
                      try have c46b2:(9223372036854775807 < x3_18.size+4+t113.size)=False:=eq_false (Nat.not_lt.2 c46)
                      by_cases c47:x3_18.size+4+t113.size+3≤9223372036854775807
                      ·rw [if_pos c47] at H
                       have c47b0:=eq_true c47
                       have c47b1:decide (x3_18.size+4+t113.size+3≤9223372036854775807)=true:=decide_eq_true c47
                       try have c47b2:(9223372036854775807 < x3_18.size+4+t113.size+3)=False:=eq_false (Nat.not_lt.2 c47)
                       replace H:=Option.bind_eq_some_iff.mp H
                       obtain ⟨t114,A480,H⟩:=H
                       replace H:(if x3_18.size+4+t113.size+3+t114.size≤9223372036854775807 then (if x3_18.size+4+t113.size+3+t114.size+1≤9223372036854775807 then (sawmillref37_Format.l1 kj18 l0 (((((x3_18++(⟨#[32,97,116,32]⟩:ByteArray))++t113)++(⟨#[32,45,32]⟩:ByteArray))++t114)++(⟨#[59]⟩:ByteArray)) x4_1 (wrap64 (x5_2+1))) else (none)) else (none))=some r:=H
                       have A48:=Aside0.mk A480
                       clear A480
                       by_cases c49:x3_18.size+4+t113.size+3+t114.size≤9223372036854775807
                       ·rw [if_pos c49] at H
                        have c49b0:=eq_true c49
                        have c49b1:decide (x3_18.size+4+t113.size+3+t114.size≤9223372036854775807)=true:=decide_eq_true c49
                        try have c49b2:(9223372036854775807 < x3_18.size+4+t113.size+3+t114.size)=False:=eq_false (Nat.not_lt.2 c49)
                        by_cases c50:x3_18.size+4+t113.size+3+t114.size+1≤9223372036854775807
                        ·rw [if_pos c50] at H
                         have c50b0:=eq_true c50
                         have c50b1:decide (x3_18.size+4+t113.size+3+t114.size+1≤9223372036854775807)=true:=decide_eq_true c50
                         try have c50b2:(9223372036854775807 < x3_18.size+4+t113.size+3+t114.size+1)=False:=eq_false (Nat.not_lt.2 c50)
                         have H':=Aside0.mk H
                         clear H
                         have hcz51_0:wc.cell? ⟨gb108,0,none⟩=some (.int .i64 ((rd_T52 ((rd_T24 l0 x4_1).f2) x5_2).f0)):=(blk_cell BK108.out 0).trans rfl
                         have hcz51_1:wc.cell? ⟨gb108,1,none⟩=some (.int .i64 ((rd_T52 ((rd_T24 l0 x4_1).f2) x5_2).f1)):=(blk_cell BK108.out 1).trans rfl
                         have hcz51_2:wc.cell? ⟨gb108,2,none⟩=some (.int .i64 ((rd_T52 ((rd_T24 l0 x4_1).f2) x5_2).f2)):=(blk_cell BK108.out 2).trans rfl
                         have hcz51_3:wc.cell? ⟨gb108,3,none⟩=some (.int .i64 ((rd_T52 ((rd_T24 l0 x4_1).f2) x5_2).f3)):=(blk_cell BK108.out 3).trans rfl
                         have hfz51_0:=blk_frozen BK108.out 0
                         have hfz51_1:=blk_frozen BK108.out 1
                         have hfz51_2:=blk_frozen BK108.out 2
                         have hfz51_3:=blk_frozen BK108.out 3
                         try go_wp2
                         have n0_:=Aside0.mk (blk_drew BK108.out)
                         have n1_:=Aside0.mk (below_drew1 HB.out)
                         clear BK108
                         clear HB
                         have BK108:=n0_
                         have HB:=n1_
                         clear n0_ n1_
                         refine start_ (n:=13) (S:=fun w'=>w'.cell? ⟨gb108,0,none⟩=some (.int .i64 ((rd_T52 ((rd_T24 l0 x4_1).f2) x5_2).f0))∧w'.cell? ⟨gb108,1,none⟩=some (.int .i64 ((rd_T52 ((rd_T24 l0 x4_1).f2) x5_2).f1))∧w'.cell? ⟨gb108,2,none⟩=some (.int .i64 ((rd_T52 ((rd_T24 l0 x4_1).f2) x5_2).f2))∧w'.cell? ⟨gb108,3,none⟩=some (.int .i64 ((rd_T52 ((rd_T24 l0 x4_1).f2) x5_2).f3))) (ds:=[]) #[false,false,false,false,false,false,false,false,false,false,false,false,false] (by kernel_rfl) rfl rfl ⟨(blk_cell BK108.out 0).trans rfl,(blk_cell BK108.out 1).trans rfl,(blk_cell BK108.out 2).trans rfl,(blk_cell BK108.out 3).trans rfl⟩ (fun hHeld=>?_);refine with_tabW sawmillref37_Format.tab16 sawmillref37_Format.bits16 (fun HT_ HW_=>?_)
                         generalize wc.drew=w52 at BK108 HB hHeld ⊢
                         refine pure_ (i:=0) (N:=some 69) (v:=?_) (a':=?_) #[true,false,false,false,false,false,false,false,false,false,false,false,false] rfl rfl (any_of HT_.out (by kernel_rfl)) (fun _ _ _ h=>h) (Or.inl ⟨by rfl,?_⟩) ?_ ?_
                         rotate_left
                         ·intro w'
                          go_simp
                          with_reducible rfl
                         rotate_left
                         ·simp only [Act.put,List.setIfInBounds_toArray,List.set_cons_zero,List.set_cons_succ,i64_w,i32_w]
                          rfl
                         refine pure_ (i:=1) (N:=some 70) (v:=?_) (a':=?_) #[true,true,false,false,false,false,false,false,false,false,false,false,false] rfl rfl (any_of HT_.out (by kernel_rfl)) (fun _ _ _ h=>h) (Or.inl ⟨by rfl,?_⟩) ?_ ?_
                         rotate_left
                         ·intro w'
                          go_simp
                          with_reducible rfl
                         rotate_left
                         ·simp only [Act.put,List.setIfInBounds_toArray,List.set_cons_zero,List.set_cons_succ,i64_w,i32_w]
                          rfl
                         refine pure_ (i:=2) (N:=some 71) (v:=?_) (a':=?_) #[true,true,true,false,false,false,false,false,false,false,false,false,false] rfl rfl (any_of HT_.out (by kernel_rfl)) (fun _ _ _ h=>h) (Or.inl ⟨by rfl,?_⟩) ?_ ?_
                         rotate_left
                         ·intro w'
                          go_simp
                          with_reducible rfl
                         rotate_left
                         ·simp only [Act.put,List.setIfInBounds_toArray,List.set_cons_zero,List.set_cons_succ,i64_w,i32_w]
                          rfl
                         refine pure_ (i:=7) (N:=some 76) (v:=?_) (a':=?_) #[true,true,true,false,false,false,false,true,false,false,false,false,false] rfl rfl (any_of HT_.out (by kernel_rfl)) (fun _ _ _ h=>h) (Or.inl ⟨by rfl,?_⟩) ?_ ?_
                         rotate_left
                         ·intro w'
                          go_simp
                          with_reducible rfl
                         rotate_left
                         ·simp only [Act.put,List.setIfInBounds_toArray,List.set_cons_zero,List.set_cons_succ,i64_w,i32_w]
                          rfl
                         refine take_ (i:=3) (N:=some 72) (v:=?_) (a':=?_) #[true,true,true,true,false,false,false,true,false,false,false,false,false] rfl rfl (take_ofW HT_.out HW_.out (by kernel_rfl)) (fun _ _ _ h=>h) (Or.inl ⟨by rfl,?_⟩) hHeld ?_ ?_
                         rotate_left
                         ·rintro w' ⟨s0,s1,s2,s3⟩
                          go_simp
                          with_reducible rfl
                         rotate_left
                         ·simp only [Act.put,List.setIfInBounds_toArray,List.set_cons_zero,List.set_cons_succ,i64_w,i32_w]
                          rfl
                         refine take_ (i:=8) (N:=some 77) (v:=?_) (a':=?_) #[true,true,true,true,false,false,false,true,true,false,false,false,false] rfl rfl (take_ofW HT_.out HW_.out (by kernel_rfl)) (fun _ _ _ h=>h) (Or.inl ⟨by rfl,?_⟩) hHeld ?_ ?_
                         rotate_left
                         ·rintro w' ⟨s0,s1,s2,s3⟩
                          go_simp
                          with_reducible rfl
                         rotate_left
                         ·simp only [Act.put,List.setIfInBounds_toArray,List.set_cons_zero,List.set_cons_succ,i64_w,i32_w]
                          rfl
                         refine one_ (i:=4) (N:=some 73) #[true,true,true,true,true,false,false,true,true,false,false,false,false] rfl rfl (one_of HT_.out (by kernel_rfl)) (by decide) (fun K hK=>?_)
                         refine goes_ Tryd.func37 (by kernel_rfl) rfl #[.int .i64 ((rd_T52 ((rd_T24 l0 x4_1).f2) x5_2).f2)] (by rfl) rfl rfl (by (try simp only [List.map_toArray,List.map_cons,List.map_nil]);first|done|rfl|(simp only [List.length_drop,List.length_take];rfl)) ?_
                         with_reducible refine (sawmillref37_decimal.calls kj18 ((rd_T52 ((rd_T24 l0 x4_1).f2) x5_2).f2) t113 _ A45.out).mono ?_
                         rintro e w53 ⟨rfl,hb⟩
                         refine ⟨_,rfl,?_⟩
                         have n0_:=Aside0.mk (blk_below (g:=gb108) (o:=.cells #[.int .i64 ((rd_T52 ((rd_T24 l0 x4_1).f2) x5_2).f0),.int .i64 ((rd_T52 ((rd_T24 l0 x4_1).f2) x5_2).f1),.int .i64 ((rd_T52 ((rd_T24 l0 x4_1).f2) x5_2).f2),.int .i64 ((rd_T52 ((rd_T24 l0 x4_1).f2) x5_2).f3)] 52 (0,0)) (by (with_reducible repeat (first|refine blk_drewN ?_ _|refine blk_drew ?_|refine blk_alloc ?_ _));exact BK108.out) hb)
                         have n1_:=Aside0.mk (below_step (by repeat (first|(with_reducible first|exact HB.out|apply below_alloc|apply pw_below_drewN|apply below_drew1|refine below_set ?_ GE108.out)|exact HB.out)) hb)
                         clear BK108
                         clear HB
                         have BK108:=n0_
                         have HB:=n1_
                         clear n0_ n1_
                         (try clear hb)
                         (try clear hb2)
                         (try clear hk)
                         (try clear hi)
                         refine hK.out _ _ ⟨(blk_cell BK108.out 0).trans rfl,(blk_cell BK108.out 1).trans rfl,(blk_cell BK108.out 2).trans rfl,(blk_cell BK108.out 3).trans rfl⟩ (fun hHeld=>?_)
                         clear hK K
                         refine norm_ (a':=?_) ?_ ?_
                         rotate_left
                         ·show Act.put _ (some 73) _=_
                          simp only [Act.put,List.setIfInBounds_toArray,List.set_cons_zero,List.set_cons_succ,i64_w,i32_w]
                          rfl
                         refine pure_ (i:=5) (N:=some 74) (v:=?_) (a':=?_) #[true,true,true,true,true,true,false,true,true,false,false,false,false] rfl rfl (any_of HT_.out (by kernel_rfl)) (fun _ _ _ h=>h) (Or.inl ⟨by rfl,?_⟩) ?_ ?_
                         rotate_left
                         ·intro w'
                          go_simp
                          with_reducible rfl
                         rotate_left
                         ·simp only [Act.put,List.setIfInBounds_toArray,List.set_cons_zero,List.set_cons_succ,i64_w,i32_w]
                          rfl
                         refine pure_ (i:=6) (N:=some 75) (v:=?_) (a':=?_) #[true,true,true,true,true,true,true,true,true,false,false,false,false] rfl rfl (any_of HT_.out (by kernel_rfl)) (fun _ _ _ h=>h) (Or.inl ⟨by rfl,?_⟩) ?_ ?_
                         rotate_left
                         ·intro w'
                          go_simp
                          with_reducible rfl
                         rotate_left
                         ·simp only [Act.put,List.setIfInBounds_toArray,List.set_cons_zero,List.set_cons_succ,i64_w,i32_w]
                          rfl
                         refine one_ (i:=9) (N:=some 78) #[true,true,true,true,true,true,true,true,true,true,false,false,false] rfl rfl (one_of HT_.out (by kernel_rfl)) (by decide) (fun K hK=>?_)
                         refine goes_ Tryd.func37 (by kernel_rfl) rfl #[.int .i64 ((rd_T52 ((rd_T24 l0 x4_1).f2) x5_2).f3)] (by rfl) rfl rfl (by (try simp only [List.map_toArray,List.map_cons,List.map_nil]);first|done|rfl|(simp only [List.length_drop,List.length_take];rfl)) ?_
                         with_reducible refine (sawmillref37_decimal.calls kj18 ((rd_T52 ((rd_T24 l0 x4_1).f2) x5_2).f3) t114 _ A48.out).mono ?_
                         rintro e w54 ⟨rfl,hb⟩
                         refine ⟨_,rfl,?_⟩
                         have n0_:=Aside0.mk (blk_below (g:=gb108) (o:=.cells #[.int .i64 ((rd_T52 ((rd_T24 l0 x4_1).f2) x5_2).f0),.int .i64 ((rd_T52 ((rd_T24 l0 x4_1).f2) x5_2).f1),.int .i64 ((rd_T52 ((rd_T24 l0 x4_1).f2) x5_2).f2),.int .i64 ((rd_T52 ((rd_T24 l0 x4_1).f2) x5_2).f3)] 52 (0,0)) (by (with_reducible repeat (first|refine blk_drewN ?_ _|refine blk_drew ?_|refine blk_alloc ?_ _));exact BK108.out) hb)
                         have n1_:=Aside0.mk (below_step (by repeat (first|(with_reducible first|exact HB.out|apply below_alloc|apply pw_below_drewN|apply below_drew1|refine below_set ?_ GE108.out)|exact HB.out)) hb)
                         clear BK108
                         clear HB
                         have BK108:=n0_
                         have HB:=n1_
                         clear n0_ n1_
                         (try clear hb)
                         (try clear hb2)
                         (try clear hk)
                         (try clear hi)
                         refine hK.out _ _ ⟨(blk_cell BK108.out 0).trans rfl,(blk_cell BK108.out 1).trans rfl,(blk_cell BK108.out 2).trans rfl,(blk_cell BK108.out 3).trans rfl⟩ (fun hHeld=>?_)
                         clear hK K
                         refine norm_ (a':=?_) ?_ ?_
                         rotate_left
                         ·show Act.put _ (some 78) _=_
                          simp only [Act.put,List.setIfInBounds_toArray,List.set_cons_zero,List.set_cons_succ,i64_w,i32_w]
                          rfl
                         refine pure_ (i:=10) (N:=some 79) (v:=?_) (a':=?_) #[true,true,true,true,true,true,true,true,true,true,true,false,false] rfl rfl (any_of HT_.out (by kernel_rfl)) (fun _ _ _ h=>h) (Or.inl ⟨by rfl,?_⟩) ?_ ?_
                         rotate_left
                         ·intro w'
                          go_simp
                          with_reducible rfl
                         rotate_left
                         ·simp only [Act.put,List.setIfInBounds_toArray,List.set_cons_zero,List.set_cons_succ,i64_w,i32_w]
                          rfl
                         refine pure_ (i:=11) (N:=some 80) (v:=?_) (a':=?_) #[true,true,true,true,true,true,true,true,true,true,true,true,false] rfl rfl (any_of HT_.out (by kernel_rfl)) (fun _ _ _ h=>h) (Or.inl ⟨by rfl,?_⟩) ?_ ?_
                         rotate_left
                         ·intro w'
                          go_simp
                          with_reducible rfl
                         rotate_left
                         ·simp only [Act.put,List.setIfInBounds_toArray,List.set_cons_zero,List.set_cons_succ,i64_w,i32_w]
                          rfl
                         refine pure_ (i:=12) (N:=some 3) (v:=?_) (a':=?_) #[true,true,true,true,true,true,true,true,true,true,true,true,true] rfl rfl (any_of HT_.out (by kernel_rfl)) (fun _ _ _ h=>h) (Or.inl ⟨by rfl,?_⟩) ?_ ?_
                         rotate_left
                         ·intro w'
                          go_simp
                          with_reducible rfl
                         rotate_left
                         ·simp only [Act.put,List.setIfInBounds_toArray,List.set_cons_zero,List.set_cons_succ,i64_w,i32_w]
                          rfl
                         refine done_ (done_of HT_.out (by kernel_rfl)) ?_
                         try go_wp2
                         go_roundg kj18
                         case measure=>have:=HK1.out;have:=HK2.out;have:=HJ18.out;omega
                         case rel=>exact ⟨(((((x3_18++(⟨#[32,97,116,32]⟩:ByteArray))++t113)++(⟨#[32,45,32]⟩:ByteArray))++t114)++(⟨#[59]⟩:ByteArray)),(wrap64 (x5_2+1)),(by first|rfl|(simp;done)|(simp [*];done)),(by first|rfl|(simp;done)|(simp [*];done)),H',⟨by have:=HK1.out;have:=HK2.out;have:=HJ18.out;omega⟩,⟨by repeat (first|(with_reducible first|exact HB.out|apply below_alloc|apply pw_below_drewN|apply below_drew1|refine below_set ?_ GE108.out)|exact HB.out)⟩⟩
                        ·rw [if_neg c50] at H
                         exact absurd H (by simp)
                       ·rw [if_neg c49] at H
                        exact absurd H (by simp)
                      ·rw [if_neg c47] at H
                       exact absurd H (by simp)
                     ·rw [if_neg c46] at H
                      exact absurd H (by simp)
                    ·rw [if_neg c44] at H
                     exact absurd H (by simp)
                ·rw [if_neg c18] at H
                 exact absurd H (by simp)
               ·rw [if_neg c17] at H
                have c17b0:decide (x5_2 < (((rd_T24 l0 x4_1).f2).length:Int))=false:=decide_eq_false c17
                clear c17
                by_cases c55:x3_2.size+1≤9223372036854775807
                ·rw [if_pos c55] at H
                 have c55b0:=eq_true c55
                 have c55b1:decide (x3_2.size+1≤9223372036854775807)=true:=decide_eq_true c55
                 try have c55b2:(9223372036854775807 < x3_2.size+1)=False:=eq_false (Nat.not_lt.2 c55)
                 have H':=Aside0.mk H
                 clear H
                 have p105:0≤(x4_1:Int):=of_decide_eq_true (by first|(with_reducible assumption)|assumption)
                 have q105:x4_1 < (l0.length:Int):=of_decide_eq_true (by first|(with_reducible assumption)|assumption)
                 obtain ⟨ad105,A105_2,c105_2,e105,hx105_0,hx105_1,hx105_2,hl105_2,hi105_2⟩:=at_T24 HR0.out x4_1 p105 q105
                 obtain rfl:ad102=ad105:=(by injection e105)
                 replace hx105_0:=(HB.out.cell (World.block_lt_of_cell? w _ hx105_0)).trans hx105_0
                 replace hx105_1:=(HB.out.cell (World.block_lt_of_cell? w _ hx105_1)).trans hx105_1
                 replace hx105_2:=(HB.out.cell (World.block_lt_of_cell? w _ hx105_2)).trans hx105_2
                 have HR105_2:=Aside0.mk hi105_2
                 have HC105_2:=Aside0.mk hl105_2
                 clear hi105_2 hl105_2
                 replace p105:=eq_true p105
                 replace q105:=eq_true q105
                 go_wp2
                 go_roundg k2
                 case measure=>have:=HK1.out;have:=HK2.out;omega
                 case rel=>exact ⟨(x3_2++(⟨#[10]⟩:ByteArray)),(wrap64 (x4_1+1)),(by first|rfl|(simp;done)|(simp [*];done)),(by first|rfl|(simp;done)|(simp [*];done)),H',⟨by have:=HK1.out;have:=HK2.out;omega⟩,⟨by repeat (first|(with_reducible first|exact HB.out|apply below_alloc|apply pw_below_drewN|apply below_drew1)|exact HB.out)⟩⟩
                ·rw [if_neg c55] at H
                 exact absurd H (by simp)
              ·rw [if_neg c16] at H
               exact absurd H (by simp)
             ·rw [if_neg c15] at H
              exact absurd H (by simp)
          ·rw [if_neg c12] at H
           exact absurd H (by simp)
         ·rw [if_neg c11] at H
          exact absurd H (by simp)
        ·rw [if_neg c9] at H
         exact absurd H (by simp)
       ·rw [if_neg c8] at H
        exact absurd H (by simp)
      ·rw [if_neg c7] at H
       exact absurd H (by simp)
     ·rw [if_neg c6] at H
      exact absurd H (by simp)
    ·rw [if_neg c5] at H
     have c5b0:decide (x4_1 < (l0.length:Int))=false:=decide_eq_false c5
     clear c5
     obtain rfl:=Option.some.inj H
     go_wp2
     go_ret
     exact ⟨by first|rfl|(simp [errW_none,errW_some]<;>rfl)|(simp [*,errW_none,errW_some]<;>rfl),by repeat (first|(with_reducible first|exact HB.out|apply below_alloc|apply pw_below_drewN|apply below_drew1)|exact HB.out)⟩
 ·replace c3:=Bool.eq_false_iff.mpr c3
  subst c3
  have H1:(some (⟨#[]⟩:ByteArray))=some r:=by rw [if_neg (show ¬ (false=true) by decide)] at H;exact H
  clear H
  have H:=H1
  clear H1
  obtain rfl:=Option.some.inj H
  go_enter Tryd.func24,Tryd.ntmps24
  go_wp2_with (first|((with_reducible refine gate_callee (f:=36) rfl ?_);refine goesL_ (some 8) rfl rfl Tryd.func36 (by kernel_rfl) rfl #[.slice A0 l0.length c0] rfl (by (try simp only [List.map_toArray,List.map_cons,List.map_nil]);first|done|rfl|(simp only [List.length_drop,List.length_take];rfl)) ?_;(with_reducible refine (sawmillref37_Valid.calls k _ _ l0 false _ ?side1 ?side2 A2.out).mono ?_);(case side1=>repeat (first|exact HR0.out|(with_reducible refine Kd.C_alloc ?_ _)|(with_reducible refine Kd.C_drewN ?_ _)|(with_reducible refine Kd.C_drew ?_)));(case side2=>exact HC0.out);rintro e w56 ⟨rfl,hb⟩;refine ⟨_,rfl,?_⟩;have n0_:=Aside0.mk (below_step (by repeat (first|(with_reducible first|exact HB.out|apply below_alloc|apply pw_below_drewN|apply below_drew1)|exact HB.out)) hb);clear HB;have HB:=n0_;clear n0_;(try clear hb);(try clear hb2);(try clear hk);(try clear hi)))
  go_ret
  exact ⟨by first|rfl|(simp [errW_none,errW_some]<;>rfl)|(simp [*,errW_none,errW_some]<;>rfl),by repeat (first|(with_reducible first|exact HB.out|apply below_alloc|apply pw_below_drewN|apply below_drew1)|exact HB.out)⟩
end Go.Proofs.YtehdmplngmbnnaaDoor.P
namespace Go.Proofs.YtehdmplngmbnnaaDoor.P
open Go.RowKit Go.Proofs.YtehdmplngmbnnaaDoorW.PrintWords Go.Proofs.YtehdmplngmbnnaaDoorW.PrintLast Go.Proofs.YtehdmplngmbnnaaDoorW.PrintMore
attribute [local go_sem] max2_int min2_int max_two min_two max_three min_three max_four min_four
attribute [local go_sem] cell_twice
set_option linter.unusedVariables false
set_option linter.unusedSimpArgs false
def sawmilllaw37_ScheduleFormats.f (k:Nat) (l0:List (S24)):Option (Bool):=(sawmilllaw37_few.f k l0).bind fun t101=>(if t101=true then ((schedule_Format.f l0).bind fun t102=>((sawmillref37_Format.f k l0).bind fun t103=>(if t102.toList=t103.toList then ((sawmilllaw37_awake.f k).bind fun t104=>(some t104)) else (some false)))) else ((sawmilllaw37_awake.f k).bind fun t105=>(some t105)))
theorem sawmilllaw37_ScheduleFormats.mono:∀ a0 k,LeO (sawmilllaw37_ScheduleFormats.f k a0) (sawmilllaw37_ScheduleFormats.f (k+1) a0):=by
 intro a0 k
 unfold sawmilllaw37_ScheduleFormats.f
 repeat' first
   | (with_reducible exact sawmilllaw37_awake.mono _)
   | (with_reducible exact sawmilllaw37_few.mono _ _)
   | (with_reducible exact sawmillref37_Format.mono _ _)
   | (with_reducible exact LeO.refl _)
   | (with_reducible exact LeO.none _)
   | (with_reducible refine LeO.ite ?_ ?_)
   | (with_reducible refine LeO.bind ?_ (fun _=>?_))
   | exact sawmilllaw37_awake.mono _
   | exact sawmilllaw37_few.mono _ _
   | exact sawmillref37_Format.mono _ _
   | exact LeO.none _
   | refine LeO.ite ?_ ?_
   | refine LeO.bind ?_ (fun _=>?_)
set_option maxHeartbeats 8000000 in
set_option maxRecDepth 100000 in
theorem sawmilllaw37_ScheduleFormats.calls (k:Nat) (A0:Option Addr) (c0:Nat) (l0:List (S24)) (r:Bool) (w:World) (hr0:Kd.C k24 w A0 l0.length l0) (hc0:l0.length≤c0) (h:sawmilllaw37_ScheduleFormats.f k l0=some r) (HG_:Aside0 (Glob w)) :
  Calls Tryd.prog 5 #[.slice A0 l0.length c0] w fun e w'=>e=.returned (.bool r)∧Below w.heap.size w w':=by
 have HR0:=Aside0.mk hr0
 have HC0:=Aside0.mk hc0
 clear hr0 hc0
 have HB:=Aside0.mk (Below.refl w.heap.size w)
 have H:((sawmilllaw37_few.f k l0).bind fun t101=>(if t101=true then ((schedule_Format.f l0).bind fun t102=>((sawmillref37_Format.f k l0).bind fun t103=>(if t102.toList=t103.toList then ((sawmilllaw37_awake.f k).bind fun t104=>(some t104)) else (some false)))) else ((sawmilllaw37_awake.f k).bind fun t105=>(some t105))))=some r:=h
 clear h
 replace H:=Option.bind_eq_some_iff.mp H
 obtain ⟨t101,A20,H⟩:=H
 replace H:(if t101=true then ((schedule_Format.f l0).bind fun t102=>((sawmillref37_Format.f k l0).bind fun t103=>(if t102.toList=t103.toList then ((sawmilllaw37_awake.f k).bind fun t104=>(some t104)) else (some false)))) else ((sawmilllaw37_awake.f k).bind fun t105=>(some t105)))=some r:=H
 have A2:=Aside0.mk A20
 clear A20
 by_cases c3:t101=true
 ·subst c3
  have H1:((schedule_Format.f l0).bind fun t102=>((sawmillref37_Format.f k l0).bind fun t103=>(if t102.toList=t103.toList then ((sawmilllaw37_awake.f k).bind fun t104=>(some t104)) else (some false))))=some r:=by rw [if_pos rfl] at H;exact H
  clear H
  have H:=H1
  clear H1
  replace H:=Option.bind_eq_some_iff.mp H
  obtain ⟨t102,A40,H⟩:=H
  replace H:((sawmillref37_Format.f k l0).bind fun t103=>(if t102.toList=t103.toList then ((sawmilllaw37_awake.f k).bind fun t104=>(some t104)) else (some false)))=some r:=H
  have A4:=Aside0.mk A40
  clear A40
  replace H:=Option.bind_eq_some_iff.mp H
  obtain ⟨t103,A50,H⟩:=H
  replace H:(if t102.toList=t103.toList then ((sawmilllaw37_awake.f k).bind fun t104=>(some t104)) else (some false))=some r:=H
  have A5:=Aside0.mk A50
  clear A50
  by_cases c6:t102.toList=t103.toList
  ·rw [if_pos c6] at H
   have c6b0:(t102.toList == t103.toList)=true:=beq_iff_eq.mpr c6
   have c6b1:(t102.toList != t103.toList)=false:=bne_eq_false_iff_eq.mpr c6
   clear c6
   replace H:=Option.bind_eq_some_iff.mp H
   obtain ⟨t104,A70,H⟩:=H
   replace H:(some t104)=some r:=H
   have A7:=Aside0.mk A70
   clear A70
   obtain rfl:=Option.some.inj H
   go_enter Tryd.func5,Tryd.ntmps5
   go_wp2_with (first|((with_reducible refine gate_callee (f:=12) rfl ?_);refine goesL_ (some 4) rfl rfl Tryd.func12 (by kernel_rfl) rfl #[.slice A0 l0.length c0] rfl (by (try simp only [List.map_toArray,List.map_cons,List.map_nil]);first|done|rfl|(simp only [List.length_drop,List.length_take];rfl)) ?_;(with_reducible refine (sawmilllaw37_few.calls k _ _ l0 true _ ?side1 ?side2 A2.out).mono ?_);(case side1=>repeat (first|exact HR0.out|(with_reducible refine Kd.C_alloc ?_ _)|(with_reducible refine Kd.C_drewN ?_ _)|(with_reducible refine Kd.C_drew ?_)));(case side2=>exact HC0.out);rintro e w8 ⟨rfl,hb⟩;refine ⟨_,rfl,?_⟩;have n0_:=Aside0.mk (below_step (by repeat (first|(with_reducible first|exact HB.out|apply below_alloc|apply pw_below_drewN|apply below_drew1)|exact HB.out)) hb);clear HB;have HB:=n0_;clear n0_;(try clear hb);(try clear hb2);(try clear hk);(try clear hi))|((with_reducible refine gate_callee (f:=23) rfl ?_);refine goesL_ (some 8) rfl rfl Tryd.func23 (by kernel_rfl) rfl #[.slice A0 l0.length c0] rfl (by (try simp only [List.map_toArray,List.map_cons,List.map_nil]);first|done|rfl|(simp only [List.length_drop,List.length_take];rfl)) ?_;(with_reducible refine (schedule_Format.calls _ _ l0 t102 _ ?side1 ?side2 A4.out (glob_at HG_ (by repeat (first|(with_reducible first|exact HB.out|apply below_alloc|apply pw_below_drewN|apply below_drew1|refine below_set ?_ (Aside0.out (by assumption)))|exact HB.out)))).mono ?_);(case side1=>repeat (first|exact (Kd.C_below HR0.out HB.out)|(with_reducible refine Kd.C_alloc ?_ _)|(with_reducible refine Kd.C_drewN ?_ _)|(with_reducible refine Kd.C_drew ?_)));(case side2=>exact HC0.out);rintro e w9 ⟨rfl,hb⟩;refine ⟨_,rfl,?_⟩;have n0_:=Aside0.mk (below_step (by repeat (first|(with_reducible first|exact HB.out|apply below_alloc|apply pw_below_drewN|apply below_drew1)|exact HB.out)) hb);clear HB;have HB:=n0_;clear n0_;(try clear hb);(try clear hb2);(try clear hk);(try clear hi))|((with_reducible refine gate_callee (f:=24) rfl ?_);refine goesL_ (some 10) rfl rfl Tryd.func24 (by kernel_rfl) rfl #[.slice A0 l0.length c0] rfl (by (try simp only [List.map_toArray,List.map_cons,List.map_nil]);first|done|rfl|(simp only [List.length_drop,List.length_take];rfl)) ?_;(with_reducible refine (sawmillref37_Format.calls k _ _ l0 t103 _ ?side1 ?side2 A5.out).mono ?_);(case side1=>repeat (first|exact (Kd.C_below HR0.out HB.out)|(with_reducible refine Kd.C_alloc ?_ _)|(with_reducible refine Kd.C_drewN ?_ _)|(with_reducible refine Kd.C_drew ?_)));(case side2=>exact HC0.out);rintro e w10 ⟨rfl,hb⟩;refine ⟨_,rfl,?_⟩;have n0_:=Aside0.mk (below_step (by repeat (first|(with_reducible first|exact HB.out|apply below_alloc|apply pw_below_drewN|apply below_drew1)|exact HB.out)) hb);clear HB;have HB:=n0_;clear n0_;(try clear hb);(try clear hb2);(try clear hk);(try clear hi))|(go_at_call 13;(with_reducible refine (sawmilllaw37_awake.calls k  t104 _ A7.out (glob_at HG_ (by repeat (first|(with_reducible first|exact HB.out|apply below_alloc|apply pw_below_drewN|apply below_drew1|refine below_set ?_ (Aside0.out (by assumption)))|exact HB.out)))).mono ?_);rintro e w11 ⟨rfl,hb⟩;have n0_:=Aside0.mk (below_step (by repeat (first|(with_reducible first|exact HB.out|apply below_alloc|apply pw_below_drewN|apply below_drew1)|exact HB.out)) hb);clear HB;have HB:=n0_;clear n0_;(try clear hb);(try clear hb2);(try clear hk);(try clear hi)))
   go_ret
   exact ⟨by first|rfl|(simp [errW_none,errW_some]<;>rfl)|(simp [*,errW_none,errW_some]<;>rfl),by repeat (first|(with_reducible first|exact HB.out|apply below_alloc|apply pw_below_drewN|apply below_drew1)|exact HB.out)⟩
  ·rw [if_neg c6] at H
   have c6b0:(t102.toList == t103.toList)=false:=beq_eq_false_iff_ne.mpr c6
   have c6b1:(t102.toList != t103.toList)=true:=bne_iff_ne.mpr c6
   obtain rfl:=Option.some.inj H
   go_enter Tryd.func5,Tryd.ntmps5
   go_wp2_with (first|((with_reducible refine gate_callee (f:=12) rfl ?_);refine goesL_ (some 4) rfl rfl Tryd.func12 (by kernel_rfl) rfl #[.slice A0 l0.length c0] rfl (by (try simp only [List.map_toArray,List.map_cons,List.map_nil]);first|done|rfl|(simp only [List.length_drop,List.length_take];rfl)) ?_;(with_reducible refine (sawmilllaw37_few.calls k _ _ l0 true _ ?side1 ?side2 A2.out).mono ?_);(case side1=>repeat (first|exact HR0.out|(with_reducible refine Kd.C_alloc ?_ _)|(with_reducible refine Kd.C_drewN ?_ _)|(with_reducible refine Kd.C_drew ?_)));(case side2=>exact HC0.out);rintro e w12 ⟨rfl,hb⟩;refine ⟨_,rfl,?_⟩;have n0_:=Aside0.mk (below_step (by repeat (first|(with_reducible first|exact HB.out|apply below_alloc|apply pw_below_drewN|apply below_drew1)|exact HB.out)) hb);clear HB;have HB:=n0_;clear n0_;(try clear hb);(try clear hb2);(try clear hk);(try clear hi))|((with_reducible refine gate_callee (f:=23) rfl ?_);refine goesL_ (some 8) rfl rfl Tryd.func23 (by kernel_rfl) rfl #[.slice A0 l0.length c0] rfl (by (try simp only [List.map_toArray,List.map_cons,List.map_nil]);first|done|rfl|(simp only [List.length_drop,List.length_take];rfl)) ?_;(with_reducible refine (schedule_Format.calls _ _ l0 t102 _ ?side1 ?side2 A4.out (glob_at HG_ (by repeat (first|(with_reducible first|exact HB.out|apply below_alloc|apply pw_below_drewN|apply below_drew1|refine below_set ?_ (Aside0.out (by assumption)))|exact HB.out)))).mono ?_);(case side1=>repeat (first|exact (Kd.C_below HR0.out HB.out)|(with_reducible refine Kd.C_alloc ?_ _)|(with_reducible refine Kd.C_drewN ?_ _)|(with_reducible refine Kd.C_drew ?_)));(case side2=>exact HC0.out);rintro e w13 ⟨rfl,hb⟩;refine ⟨_,rfl,?_⟩;have n0_:=Aside0.mk (below_step (by repeat (first|(with_reducible first|exact HB.out|apply below_alloc|apply pw_below_drewN|apply below_drew1)|exact HB.out)) hb);clear HB;have HB:=n0_;clear n0_;(try clear hb);(try clear hb2);(try clear hk);(try clear hi))|((with_reducible refine gate_callee (f:=24) rfl ?_);refine goesL_ (some 10) rfl rfl Tryd.func24 (by kernel_rfl) rfl #[.slice A0 l0.length c0] rfl (by (try simp only [List.map_toArray,List.map_cons,List.map_nil]);first|done|rfl|(simp only [List.length_drop,List.length_take];rfl)) ?_;(with_reducible refine (sawmillref37_Format.calls k _ _ l0 t103 _ ?side1 ?side2 A5.out).mono ?_);(case side1=>repeat (first|exact (Kd.C_below HR0.out HB.out)|(with_reducible refine Kd.C_alloc ?_ _)|(with_reducible refine Kd.C_drewN ?_ _)|(with_reducible refine Kd.C_drew ?_)));(case side2=>exact HC0.out);rintro e w14 ⟨rfl,hb⟩;refine ⟨_,rfl,?_⟩;have n0_:=Aside0.mk (below_step (by repeat (first|(with_reducible first|exact HB.out|apply below_alloc|apply pw_below_drewN|apply below_drew1)|exact HB.out)) hb);clear HB;have HB:=n0_;clear n0_;(try clear hb);(try clear hb2);(try clear hk);(try clear hi)))
   go_ret
   exact ⟨by first|rfl|(simp [errW_none,errW_some]<;>rfl)|(simp [*,errW_none,errW_some]<;>rfl),by repeat (first|(with_reducible first|exact HB.out|apply below_alloc|apply pw_below_drewN|apply below_drew1)|exact HB.out)⟩
 ·replace c3:=Bool.eq_false_iff.mpr c3
  subst c3
  have H1:((sawmilllaw37_awake.f k).bind fun t105=>(some t105))=some r:=by rw [if_neg (show ¬ (false=true) by decide)] at H;exact H
  clear H
  have H:=H1
  clear H1
  replace H:=Option.bind_eq_some_iff.mp H
  obtain ⟨t105,A150,H⟩:=H
  replace H:(some t105)=some r:=H
  have A15:=Aside0.mk A150
  clear A150
  obtain rfl:=Option.some.inj H
  go_enter Tryd.func5,Tryd.ntmps5
  go_wp2_with (first|((with_reducible refine gate_callee (f:=12) rfl ?_);refine goesL_ (some 4) rfl rfl Tryd.func12 (by kernel_rfl) rfl #[.slice A0 l0.length c0] rfl (by (try simp only [List.map_toArray,List.map_cons,List.map_nil]);first|done|rfl|(simp only [List.length_drop,List.length_take];rfl)) ?_;(with_reducible refine (sawmilllaw37_few.calls k _ _ l0 false _ ?side1 ?side2 A2.out).mono ?_);(case side1=>repeat (first|exact HR0.out|(with_reducible refine Kd.C_alloc ?_ _)|(with_reducible refine Kd.C_drewN ?_ _)|(with_reducible refine Kd.C_drew ?_)));(case side2=>exact HC0.out);rintro e w16 ⟨rfl,hb⟩;refine ⟨_,rfl,?_⟩;have n0_:=Aside0.mk (below_step (by repeat (first|(with_reducible first|exact HB.out|apply below_alloc|apply pw_below_drewN|apply below_drew1)|exact HB.out)) hb);clear HB;have HB:=n0_;clear n0_;(try clear hb);(try clear hb2);(try clear hk);(try clear hi))|((with_reducible refine gate_callee (f:=13) rfl ?_);refine goesL_ (some 6) rfl rfl Tryd.func13 (by kernel_rfl) rfl #[] rfl (by (try simp only [List.map_toArray,List.map_cons,List.map_nil]);first|done|rfl|(simp only [List.length_drop,List.length_take];rfl)) ?_;(with_reducible refine (sawmilllaw37_awake.calls k  t105 _ A15.out (glob_at HG_ (by repeat (first|(with_reducible first|exact HB.out|apply below_alloc|apply pw_below_drewN|apply below_drew1|refine below_set ?_ (Aside0.out (by assumption)))|exact HB.out)))).mono ?_);rintro e w17 ⟨rfl,hb⟩;refine ⟨_,rfl,?_⟩;have n0_:=Aside0.mk (below_step (by repeat (first|(with_reducible first|exact HB.out|apply below_alloc|apply pw_below_drewN|apply below_drew1)|exact HB.out)) hb);clear HB;have HB:=n0_;clear n0_;(try clear hb);(try clear hb2);(try clear hk);(try clear hi)))
  go_ret
  exact ⟨by first|rfl|(simp [errW_none,errW_some]<;>rfl)|(simp [*,errW_none,errW_some]<;>rfl),by repeat (first|(with_reducible first|exact HB.out|apply below_alloc|apply pw_below_drewN|apply below_drew1)|exact HB.out)⟩
end Go.Proofs.YtehdmplngmbnnaaDoor.P
namespace Go.Proofs.YtehdmplngmbnnaaDoor.P
open Go.RowKit Go.Proofs.YtehdmplngmbnnaaDoorW.PrintWords
set_option linter.unusedVariables false
set_option linter.unusedSimpArgs false
def fm (n:Int):ByteArray:=⟨(Lib.itoa n).toArray⟩
theorem itoa_f (n:Int) (h0:0≤n) (h1:n≤1000000):strconv_Itoa.f n=some (fm n):=by
 unfold strconv_Itoa.f
 rw [if_pos (by omega),if_pos (by omega)]
 rfl
theorem dec_f (n:Int) (h0:0≤n) (h1:n≤1000000) (k:Nat) (hk:8 < k):sawmillref37_decimal.f k n=some (fm n):=by
 obtain ⟨m,rfl⟩:∃ m:Nat,n=m:=⟨n.toNat,by omega⟩
 rw [decimal_f 7 m k (by omega) (by omega) (by omega)]
 unfold fm
 rw [Lib.itoa_nonneg]
theorem fm_size (n:Int) (h0:0≤n) (h1:n≤1000000):(fm n).size≤21:=by
 have:=Lib.itoa_length_le n (by omega) (by omega)
 simpa [fm,ByteArray.size] using this
def pPart (wd:ByteArray) (n:Int):ByteArray:=if 0 < n then wd++fm n else ⟨#[]⟩
def stageTxt (x:S52):ByteArray:=pPart (⟨#[32,98,101,108,111,119,32]⟩:ByteArray) x.f0++(pPart (⟨#[32,102,111,114,32]⟩:ByteArray) x.f1++((⟨#[32,97,116,32]⟩:ByteArray)++(fm x.f2++((⟨#[32,45,32]⟩:ByteArray)++(fm x.f3++(⟨#[59]⟩:ByteArray))))))
theorem app_nil (t:ByteArray):t++(⟨#[]⟩:ByteArray)=t:=by
 apply ByteArray.ext
 simp
theorem part_prog (t wd w2:ByteArray) (n:Int) (h1:n≤1000000) (hw:((⟨#[32]⟩:ByteArray)++wd)++(⟨#[32]⟩:ByteArray)=w2) (hz:t.size+w2.size+21≤1000000000):addPart t wd n=some (t++pPart w2 n):=by
 unfold addPart pPart
 by_cases g:0 < n
 ·have:=fm_size n (by omega) h1
  rw [if_pos g,if_pos g,itoa_f n (by omega) h1,Option.bind_some,hw]
  unfold apd
  rw [if_pos (by rw [ByteArray.size_append];omega)]
 ·rw [if_neg g,if_neg g,app_nil]
theorem stOk_nums (x:S52) (h:stOk x=true):0≤x.f0∧x.f0≤20000∧0≤x.f1∧x.f1≤10000∧200≤x.f2∧x.f2≤1200∧0≤x.f3∧x.f3≤400:=by
 rw [stOk_eq] at h
 simp only [Bool.and_eq_true,decide_eq_true_eq] at h
 omega
theorem part_size (wd:ByteArray) (n:Int) (h1:n≤1000000):(pPart wd n).size≤wd.size+21:=by
 unfold pPart
 split
 ·have:=fm_size n (by omega) h1
  rw [ByteArray.size_append]
  omega
 ·exact Nat.zero_le _
theorem stage_size (x:S52) (h:stOk x=true):(stageTxt x).size≤200:=by
 obtain ⟨a1,a2,a3,a4,a5,a6,a7,a8⟩:=stOk_nums x h
 have:=part_size (⟨#[32,98,101,108,111,119,32]⟩:ByteArray) x.f0 (by omega)
 have:=part_size (⟨#[32,102,111,114,32]⟩:ByteArray) x.f1 (by omega)
 have:=fm_size x.f2 (by omega) (by omega)
 have:=fm_size x.f3 (by omega) (by omega)
 have e1:(⟨#[32,98,101,108,111,119,32]⟩:ByteArray).size=7:=rfl
 have e2:(⟨#[32,102,111,114,32]⟩:ByteArray).size=5:=rfl
 have e3:(⟨#[32,97,116,32]⟩:ByteArray).size=4:=rfl
 have e4:(⟨#[32,45,32]⟩:ByteArray).size=3:=rfl
 have e5:(⟨#[59]⟩:ByteArray).size=1:=rfl
 unfold stageTxt
 simp only [ByteArray.size_append]
 omega
theorem stage_prog (t:ByteArray) (x:S52) (h:stOk x=true) (hz:t.size≤100000000):addStage t x=some (t++stageTxt x):=by
 obtain ⟨a1,a2,a3,a4,a5,a6,a7,a8⟩:=stOk_nums x h
 have s1:=part_size (⟨#[32,98,101,108,111,119,32]⟩:ByteArray) x.f0 (by omega)
 have s2:=part_size (⟨#[32,102,111,114,32]⟩:ByteArray) x.f1 (by omega)
 have s3:=fm_size x.f2 (by omega) (by omega)
 have s4:=fm_size x.f3 (by omega) (by omega)
 have e1:(⟨#[32,98,101,108,111,119,32]⟩:ByteArray).size=7:=rfl
 have e2:(⟨#[32,102,111,114,32]⟩:ByteArray).size=5:=rfl
 unfold addStage
 rw [part_prog t _ (⟨#[32,98,101,108,111,119,32]⟩:ByteArray) x.f0 (by omega) rfl (by omega),Option.bind_some,part_prog _ _ (⟨#[32,102,111,114,32]⟩:ByteArray) x.f1 (by omega) rfl (by rw [ByteArray.size_append];omega),Option.bind_some,itoa_f x.f2 (by omega) (by omega),Option.bind_some,itoa_f x.f3 (by omega) (by omega),Option.bind_some]
 unfold apd
 have e3:((⟨#[32]⟩:ByteArray)++(⟨#[97,116]⟩:ByteArray)++(⟨#[32]⟩:ByteArray))=(⟨#[32,97,116,32]⟩:ByteArray):=rfl
 rw [e3]
 have e4:(⟨#[32,97,116,32]⟩:ByteArray).size=4:=rfl
 have e5:(⟨#[32,45,32]⟩:ByteArray).size=3:=rfl
 have e6:(⟨#[59]⟩:ByteArray).size=1:=rfl
 rw [if_pos (by simp only [ByteArray.size_append];omega)]
 unfold stageTxt
 simp only [ByteArray.append_assoc]
def stagesTxt:List S52→ByteArray
 | []=>⟨#[]⟩
 | x :: xs=>stageTxt x++stagesTxt xs
theorem stages_size (l:List S52) (h:l.all stOk=true):(stagesTxt l).size≤200 * l.length:=by
 induction l with
 | nil=>exact Nat.zero_le _
 | cons x xs ih =>
  simp only [List.all_cons,Bool.and_eq_true] at h
  have:=ih h.2
  have:=stage_size x h.1
  simp only [stagesTxt,ByteArray.size_append,List.length_cons]
  omega
theorem stages_prog (l:List S52):∀ (t:ByteArray),l.all stOk=true→t.size+200 * l.length≤100000000→addStages t l=some (t++stagesTxt l):=by
 induction l with
 | nil =>
  intro t _ _
  simp only [addStages,stagesTxt,app_nil]
 | cons x xs ih =>
  intro t h hz
  simp only [List.all_cons,Bool.and_eq_true] at h
  simp only [List.length_cons] at hz
  have:=stage_size x h.1
  simp only [addStages,stagesTxt]
  rw [stage_prog t x h.1 (by omega),Option.bind_some,ih _ h.2 (by rw [ByteArray.size_append];omega),ByteArray.append_assoc]
def schedTxt (s:S24):ByteArray:=(⟨#[115,99,104,101,100,117,108,101,32]⟩:ByteArray)++(s.f0++((⟨#[32,114,97,109,112,32]⟩:ByteArray)++(fm s.f1++((⟨#[58]⟩:ByteArray)++(stagesTxt s.f2++(⟨#[10]⟩:ByteArray))))))
theorem check_ok (n:ByteArray) (r:Int) (l:List S52) (h:schedule_Check.f n r l=some 0):isNm n=true∧1≤r∧r≤1200∧1≤l.length∧l.length≤12∧l.all stOk=true:=by
 unfold schedule_Check.f at h
 have h:=Option.some.inj h
 by_cases g1:isNm n=true
 ·rw [if_pos g1] at h
  by_cases g2:r < 1 ∨ 1200 < r
  ·rw [if_pos g2] at h;cases h
  ·rw [if_neg g2] at h
   by_cases g3:l.length < 1
   ·rw [if_pos g3] at h;cases h
   ·rw [if_neg g3] at h
    by_cases g4:12 < l.length
    ·rw [if_pos g4] at h;cases h
    ·rw [if_neg g4] at h
     by_cases g5:l.all stOk=true
     ·exact ⟨g1,by omega,by omega,by omega,by omega,g5⟩
     ·rw [if_neg g5] at h;cases h
 ·rw [if_neg g1] at h;cases h
theorem nm_size (n:ByteArray) (h:isNm n=true):1≤n.size∧n.size≤16:=by
 unfold isNm at h
 simp only [Bool.and_eq_true,decide_eq_true_eq] at h
 omega
def Good (s:S24):Prop:=schedule_Check.f s.f0 s.f1 s.f2=some 0
theorem sched_size (s:S24) (h:Good s):(schedTxt s).size≤3000:=by
 obtain ⟨g1,g2,g3,g4,g5,g6⟩:=check_ok _ _ _ h
 have:=nm_size _ g1
 have:=stages_size _ g6
 have:=fm_size s.f1 (by omega) (by omega)
 have e1:(⟨#[115,99,104,101,100,117,108,101,32]⟩:ByteArray).size=9:=rfl
 have e2:(⟨#[32,114,97,109,112,32]⟩:ByteArray).size=6:=rfl
 have e3:(⟨#[58]⟩:ByteArray).size=1:=rfl
 have e4:(⟨#[10]⟩:ByteArray).size=1:=rfl
 unfold schedTxt
 simp only [ByteArray.size_append]
 omega
theorem sched_prog (t:ByteArray) (s:S24) (h:Good s) (hz:t.size≤10000000):addSched t s=some (t++schedTxt s):=by
 obtain ⟨g1,g2,g3,g4,g5,g6⟩:=check_ok _ _ _ h
 have:=nm_size _ g1
 have:=stages_size _ g6
 have:=fm_size s.f1 (by omega) (by omega)
 have e1:(⟨#[115,99,104,101,100,117,108,101,32]⟩:ByteArray).size=9:=rfl
 have e2:(⟨#[32,114,97,109,112,32]⟩:ByteArray).size=6:=rfl
 have e3:(⟨#[58]⟩:ByteArray).size=1:=rfl
 have e4:(⟨#[10]⟩:ByteArray).size=1:=rfl
 unfold addSched
 rw [if_pos (by omega),itoa_f s.f1 (by omega) (by omega),Option.bind_some]
 unfold apd
 rw [if_pos (by simp only [ByteArray.size_append];omega),Option.bind_some,stages_prog _ _ g6 (by simp only [ByteArray.size_append];omega),Option.bind_some,if_pos (by simp only [ByteArray.size_append];omega)]
 unfold schedTxt
 simp only [ByteArray.append_assoc]
def Bnd (l:List S24):Prop:=∀ s ∈ l,s.f0.size≤100∧s.f2.length≤40
theorem last_zero (l:List S24) (hl:0 < l.length) (hl2:l.length≤1000) (h:schedule_last.f l=some 0):l.length≤8∧Good (rd_T24 l ((l.length:Int) - 1)):=by
 have e:wrap64 ((l.length:Int) - 1)=(l.length:Int) - 1:=by
  unfold wrap64
  omega
 unfold schedule_last.f at h
 rw [e] at h
 have q0:0≤(l.length:Int) - 1:=by omega
 have q1:(l.length:Int) - 1 < (l.length:Int):=by omega
 have q3:(l.length:Int) - 1≤(l.length:Int):=by omega
 by_cases g1:(l.length:Int) - 1 ≥ 8
 ·simp only [if_pos g1,if_pos q0,if_pos q1] at h
  cases h
 ·refine ⟨by omega,?_⟩
  simp only [if_neg g1,if_pos q0,if_pos q1,if_pos q3] at h
  obtain ⟨c,hc,h⟩:=Option.bind_eq_some_iff.mp h
  unfold Good
  rw [hc]
  by_cases g2:c=0
  ·rw [g2]
  ·rw [if_neg g2] at h
   exact h
theorem rd_take (l:List S24) (k:Nat) (h:k < l.length):rd_T24 (l.take (k+1)) k=rd_T24 l k:=by
 unfold rd_T24
 rw [List.getD_eq_getElem?_getD,List.getD_eq_getElem?_getD,List.getElem?_take]
 simp
theorem drop_sched (l:List S24) (j:Nat) (h:j < l.length):l.drop j=rd_T24 l j :: l.drop (j+1):=by
 rw [List.drop_eq_getElem_cons h]
 unfold rd_T24
 rw [List.getD_eq_getElem?_getD,List.getElem?_eq_getElem (by simpa using h)]
 simp
theorem Bnd_take {l:List S24} (h:Bnd l) (k:Nat):Bnd (l.take k):=fun s hs=>h s (List.mem_of_mem_take hs)
def okGo (l:List S24):Nat→Nat→Bool
 | 0,_=>true
 | m+1,k=>if schedule_last.f (l.take (k+1))=some 0 then okGo l m (k+1) else false
def schedsTxt:List S24→ByteArray
 | []=>⟨#[]⟩
 | s :: ss=>schedTxt s++schedsTxt ss
theorem last_at (l:List S24) (hB:Bnd l) (hl:l.length≤1000) (k:Nat) (hk:k < l.length):∃ e,schedule_last.f (l.take (k+1))=some e∧(∀ g,1100≤g→sawmillref37_last.f g (l.take (k+1))=some e)∧(e=0→k < 8∧Good (rd_T24 l k)):=by
 have hln:(l.take (k+1)).length=k+1:=by rw [List.length_take];omega
 obtain ⟨e,h1,-⟩:=last_same (l.take (k+1)) (by omega) (by omega) (Bnd_take hB _) 1100 (Nat.le_refl _)
 refine ⟨e,h1,?_,?_⟩
 ·intro g hg
  obtain ⟨e2,h2,h3⟩:=last_same (l.take (k+1)) (by omega) (by omega) (Bnd_take hB _) g hg
  rw [h1] at h2
  rw [h3,← h2]
 ·rintro rfl
  obtain ⟨z1,z2⟩:=last_zero _ (by omega) (by omega) h1
  rw [hln,show (((k+1:Nat):Int) - 1)=(k:Int) by omega,rd_take l k hk] at z2
  exact ⟨by omega,z2⟩
theorem go_prog (l:List S24) (hB:Bnd l) (hl:l.length≤1000):∀ (m k:Nat) (t:ByteArray),k+m=l.length→t.size≤3000 * k→schedule_Format.go l m k t=some (if okGo l m k=true then t++schedsTxt (l.drop k) else ⟨#[]⟩):=by
 intro m
 induction m with
 | zero =>
  intro k t hk hz
  rw [List.drop_eq_nil_of_le (by omega)]
  simp only [schedule_Format.go,okGo,schedsTxt,app_nil,if_true]
 | succ m ih =>
  intro k t hk hz
  obtain ⟨e,h1,-,h3⟩:=last_at l hB hl k (by omega)
  by_cases g:e=0
  ·obtain ⟨g1,g2⟩:=h3 g
   have:=sched_size _ g2
   have ho:okGo l (m+1) k=okGo l m (k+1):=by
    simp only [okGo]
    rw [if_pos (by rw [h1,g])]
   rw [ho]
   simp only [schedule_Format.go]
   rw [h1,Option.bind_some,if_pos g,sched_prog t _ g2 (by omega),Option.bind_some,ih (k+1) _ (by omega) (by rw [ByteArray.size_append];omega),drop_sched l k (by omega)]
   simp only [schedsTxt,ByteArray.append_assoc]
  ·have ho:okGo l (m+1) k=false:=by
    simp only [okGo]
    rw [if_neg (by rw [h1];simpa using g)]
   rw [ho]
   simp only [schedule_Format.go]
   rw [h1,Option.bind_some,if_neg g,if_neg Bool.false_ne_true]
theorem format_prog (l:List S24) (hB:Bnd l) (hl:l.length≤1000):schedule_Format.f l=some (if okGo l l.length 0=true then schedsTxt l else ⟨#[]⟩):=by
 unfold schedule_Format.f
 rw [if_pos (by omega),go_prog l hB hl l.length 0 _ (by omega) (Nat.zero_le _),List.drop_zero]
 have:(⟨#[]⟩:ByteArray)++schedsTxt l=schedsTxt l:=by
  apply ByteArray.ext
  simp
 rw [this]
def tailTxt (x:S52):ByteArray:=pPart (⟨#[32,102,111,114,32]⟩:ByteArray) x.f1++((⟨#[32,97,116,32]⟩:ByteArray)++(fm x.f2++((⟨#[32,45,32]⟩:ByteArray)++(fm x.f3++(⟨#[59]⟩:ByteArray)))))
theorem j2_step (l:List S24) (t:ByteArray) (i j:Int) (x:S52) (h:stOk x=true) (hz:t.size≤100000000) (K:Nat) (hK:8 < K):sawmillref37_Format.j2 (K+1) l t i j x.f0 x.f1 x.f2 x.f3=sawmillref37_Format.l1 K l (t++tailTxt x) i (wrap64 (j+1)):=by
 obtain ⟨a1,a2,a3,a4,a5,a6,a7,a8⟩:=stOk_nums x h
 have s2:=fm_size x.f1 (by omega) (by omega)
 have s3:=fm_size x.f2 (by omega) (by omega)
 have s4:=fm_size x.f3 (by omega) (by omega)
 unfold tailTxt pPart
 simp only [sawmillref37_Format.j2]
 rw [dec_f x.f2 (by omega) (by omega) K hK,dec_f x.f3 (by omega) (by omega) K hK,dec_f x.f1 (by omega) (by omega) K hK]
 simp only [Option.bind_some]
 by_cases g:x.f1 > 0
 ·rw [if_pos g,if_pos (by omega),if_pos (by omega),if_pos (by omega),if_pos (by omega),if_pos (by omega),if_pos (by omega),if_pos (by omega),if_pos g]
  simp only [ByteArray.append_assoc]
 ·rw [if_neg g,if_pos (by omega),if_pos (by omega),if_pos (by omega),if_pos (by omega),if_pos (by omega),if_neg g]
  have e:(⟨#[]⟩:ByteArray)++((⟨#[32,97,116,32]⟩:ByteArray)++(fm x.f2++((⟨#[32,45,32]⟩:ByteArray)++(fm x.f3++(⟨#[59]⟩:ByteArray)))))=((⟨#[32,97,116,32]⟩:ByteArray)++(fm x.f2++((⟨#[32,45,32]⟩:ByteArray)++(fm x.f3++(⟨#[59]⟩:ByteArray))))):=by
   apply ByteArray.ext
   simp
  rw [e]
  simp only [ByteArray.append_assoc]
theorem wrap_succ (j:Nat) (h:j≤1000000):wrap64 ((j:Int)+1)=((j+1:Nat):Int):=by
 unfold wrap64
 omega
theorem l1_step (l:List S24) (t:ByteArray) (i:Int) (j:Nat) (h0:0≤i) (h1:i < (l.length:Int)) (hj:j < (rd_T24 l i).f2.length) (hj2:j≤1000) (h:stOk (rd_T52 (rd_T24 l i).f2 j)=true) (hz:t.size≤10000000) (K:Nat) (hK:8 < K):sawmillref37_Format.l1 (K+2) l t i j=sawmillref37_Format.l1 K l (t++stageTxt (rd_T52 (rd_T24 l i).f2 j)) i ((j+1:Nat):Int):=by
 obtain ⟨a1,a2,a3,a4,a5,a6,a7,a8⟩:=stOk_nums _ h
 have s1:=fm_size _ a1 (by omega)
 have e:∀ x:S52,stageTxt x=pPart (⟨#[32,98,101,108,111,119,32]⟩:ByteArray) x.f0++tailTxt x:=fun x=>rfl
 rw [e,sawmillref37_Format.l1,if_pos h0,if_pos h1,if_pos (by omega),if_pos (by omega),dec_f _ a1 (by omega) (K+1) (by omega)]
 simp only [Option.bind_some]
 unfold pPart
 by_cases g:(rd_T52 (rd_T24 l i).f2 j).f0 > 0
 ·rw [if_pos g,if_pos (by omega),if_pos (by omega),j2_step l _ i j _ h (by simp only [ByteArray.size_append];have:(⟨#[32,98,101,108,111,119,32]⟩:ByteArray).size=7:=rfl;omega) K hK,wrap_succ j (by omega),if_pos g]
  simp only [ByteArray.append_assoc]
 ·rw [if_neg g,j2_step l _ i j _ h (by omega) K hK,wrap_succ j (by omega),if_neg g]
  have e:(⟨#[]⟩:ByteArray)++tailTxt (rd_T52 (rd_T24 l i).f2 j)=tailTxt (rd_T52 (rd_T24 l i).f2 j):=by
   apply ByteArray.ext
   simp
  rw [e]
theorem l1_all (l:List S24) (i:Int) (h0:0≤i) (h1:i < (l.length:Int)) (h:(rd_T24 l i).f2.all stOk=true) (hl:(rd_T24 l i).f2.length≤12) (K:Nat) (hK:8 < K):∀ (m j:Nat) (t:ByteArray),j+m=(rd_T24 l i).f2.length→t.size+200 * m≤1000000→sawmillref37_Format.l1 (K+1+2 * m) l t i j=sawmillref37_Format.l0 K l (t++(stagesTxt ((rd_T24 l i).f2.drop j)++(⟨#[10]⟩:ByteArray))) (wrap64 (i+1)):=by
 intro m
 induction m with
 | zero =>
  intro j t hj hz
  rw [List.drop_eq_nil_of_le (by omega)]
  have e:stagesTxt []++(⟨#[10]⟩:ByteArray)=(⟨#[10]⟩:ByteArray):=by
   apply ByteArray.ext
   simp [stagesTxt]
  rw [e,show K+1+2 * 0=K+1 from rfl,sawmillref37_Format.l1,if_pos h0,if_pos h1,if_neg (by omega),if_pos (by omega)]
 | succ m ih =>
  intro j t hj hz
  have hs:stOk (rd_T52 (rd_T24 l i).f2 j)=true:=by
   have hd:=drop_rd (rd_T24 l i).f2 j (by omega)
   refine List.all_eq_true.mp h _ (List.mem_of_mem_drop (i:=j) ?_)
   rw [hd]
   exact List.mem_cons_self ..
  have:=stage_size _ hs
  rw [show K+1+2 * (m+1)=(K+1+2 * m)+2 by omega,l1_step l t i j h0 h1 (by omega) (by omega) hs (by omega) _ (by omega),ih (j+1) _ (by omega) (by rw [ByteArray.size_append];omega),drop_rd (rd_T24 l i).f2 j (by omega)]
  simp only [stagesTxt,ByteArray.append_assoc]
theorem l0_step (l:List S24) (i:Nat) (h1:i < l.length) (hi:i≤1000) (h:Good (rd_T24 l i)) (t:ByteArray) (hz:t.size≤100000) (K:Nat) (hK:8 < K):sawmillref37_Format.l0 (K+(2+2 * (rd_T24 l i).f2.length)) l t i=sawmillref37_Format.l0 K l (t++schedTxt (rd_T24 l i)) ((i+1:Nat):Int):=by
 obtain ⟨g1,g2,g3,g4,g5,g6⟩:=check_ok _ _ _ h
 have s1:=nm_size _ g1
 have s2:=fm_size _ (show 0≤(rd_T24 l i).f1 by omega) (by omega)
 rw [show K+(2+2 * (rd_T24 l i).f2.length)=(K+1+2 * (rd_T24 l i).f2.length)+1 by omega,sawmillref37_Format.l0,if_pos (by omega),if_pos (by omega),if_pos (by omega),if_pos (by omega),if_pos (by omega),dec_f _ (by omega) (by omega) _ (by omega),Option.bind_some,if_pos (by omega),if_pos (by omega)]
 have e1:(⟨#[115,99,104,101,100,117,108,101,32]⟩:ByteArray).size=9:=rfl
 have e2:(⟨#[32,114,97,109,112,32]⟩:ByteArray).size=6:=rfl
 have e3:(⟨#[58]⟩:ByteArray).size=1:=rfl
 have:=l1_all l i (by omega) (by omega) g6 g5 K hK _ 0 (((((t++(⟨#[115,99,104,101,100,117,108,101,32]⟩:ByteArray))++((rd_T24 l i).f0))++(⟨#[32,114,97,109,112,32]⟩:ByteArray))++fm (rd_T24 l i).f1)++(⟨#[58]⟩:ByteArray)) (Nat.zero_add _) (by simp only [ByteArray.size_append];omega)
 rw [show ((0:Nat):Int)=0 from rfl] at this
 rw [this,wrap_succ i (by omega),List.drop_zero]
 unfold schedTxt
 simp only [ByteArray.append_assoc]
theorem l0_all (l:List S24) (hl:l.length≤8):∀ (m i:Nat) (t:ByteArray),i+m=l.length→(∀ j,i≤j→j < l.length→Good (rd_T24 l j))→t.size≤3000 * i→∀ K,26 * m+20≤K→sawmillref37_Format.l0 K l t i=some (t++schedsTxt (l.drop i)):=by
 intro m
 induction m with
 | zero =>
  intro i t hi hg hz K hK
  obtain ⟨K,rfl⟩:∃ q,K=q+1:=⟨K - 1,by omega⟩
  rw [List.drop_eq_nil_of_le (by omega),sawmillref37_Format.l0,if_neg (by omega)]
  simp only [schedsTxt,app_nil]
 | succ m ih =>
  intro i t hi hg hz K hK
  have hG:=hg i (Nat.le_refl _) (by omega)
  have hs:=sched_size _ hG
  obtain ⟨g1,g2,g3,g4,g5,g6⟩:=check_ok _ _ _ hG
  obtain ⟨c,hc⟩:∃ c,c=2+2 * (rd_T24 l i).f2.length:=⟨_,rfl⟩
  have he:=l0_step l i (by omega) (by omega) hG t (by omega) (K - c) (by omega)
  rw [← hc,show (K - c)+c=K by omega] at he
  rw [he,ih (i+1) _ (by omega) (fun j h1 h2=>hg j (by omega) h2) (by rw [ByteArray.size_append];omega) (K - c) (by omega),drop_sched l i (by omega)]
  simp only [schedsTxt,ByteArray.append_assoc]
theorem valid_ref (l:List S24) (hB:Bnd l) (hl:l.length≤20):∀ (m i:Nat),i+m=l.length→∀ K,1100+m < K→sawmillref37_Valid.l0 K l i=some (okGo l m i):=by
 intro m
 induction m with
 | zero =>
  intro i hi K hK
  obtain ⟨K,rfl⟩:∃ q,K=q+1:=⟨K - 1,by omega⟩
  rw [sawmillref37_Valid.l0,if_neg (by omega)]
  rfl
 | succ m ih =>
  intro i hi K hK
  obtain ⟨K,rfl⟩:∃ q,K=q+1:=⟨K - 1,by omega⟩
  obtain ⟨e,h1,h2,-⟩:=last_at l hB (by omega) i (by omega)
  rw [sawmillref37_Valid.l0,if_pos (by omega),wrap_succ i (by omega),if_pos (by omega),if_pos (by omega),show (((i+1:Nat):Int)).toNat=i+1 by omega,h2 K (by omega),Option.bind_some]
  by_cases g:e=0
  ·have ho:okGo l (m+1) i=okGo l m (i+1):=by
    simp only [okGo]
    rw [if_pos (by rw [h1,g])]
   rw [ho,if_pos g,ih (i+1) (by omega) K (by omega)]
  ·have ho:okGo l (m+1) i=false:=by
    simp only [okGo]
    rw [if_neg (by rw [h1];simpa using g)]
   rw [ho,if_neg g]
theorem okGo_good (l:List S24) (hB:Bnd l) (hl:l.length≤1000):∀ (m i:Nat),i+m=l.length→okGo l m i=true→(0 < m→l.length≤8)∧∀ j,i≤j→j < l.length→Good (rd_T24 l j):=by
 intro m
 induction m with
 | zero =>
  intro i hi h
  exact ⟨fun h=>absurd h (Nat.lt_irrefl 0),fun j h1 h2=>by omega⟩
 | succ m ih =>
  intro i hi h
  obtain ⟨e,h1,-,h3⟩:=last_at l hB hl i (by omega)
  simp only [okGo] at h
  rw [h1] at h
  by_cases g:e=0
  ·rw [if_pos (by rw [g])] at h
   obtain ⟨i1,i2⟩:=ih (i+1) (by omega) h
   obtain ⟨g1,g2⟩:=h3 g
   refine ⟨fun _=>?_,?_⟩
   ·by_cases hm:0 < m
    ·exact i1 hm
    ·omega
   ·intro j h4 h5
    by_cases hj:j=i
    ·rw [hj]
     exact g2
    ·exact i2 j (by omega) h5
  ·rw [if_neg (by simpa using g)] at h
   cases h
theorem format_ref (l:List S24) (hB:Bnd l) (hl:l.length≤20) (K:Nat) (hK:1300≤K):sawmillref37_Format.f K l=some (if okGo l l.length 0=true then schedsTxt l else ⟨#[]⟩):=by
 unfold sawmillref37_Format.f sawmillref37_Valid.f
 rw [show (0:Int)=((0:Nat):Int) from rfl,valid_ref l hB hl l.length 0 (by omega) K (by omega),Option.bind_some]
 by_cases g:okGo l l.length 0=true
 ·obtain ⟨g1,g2⟩:=okGo_good l hB (by omega) l.length 0 (by omega) g
  have g1':l.length≤8:=by
   by_cases hp:0 < l.length
   ·exact g1 hp
   ·omega
  rw [if_pos g,if_pos g,l0_all l g1' l.length 0 _ (by omega) (fun j _ h=>g2 j (Nat.zero_le _) h) (Nat.zero_le _) K (by omega),List.drop_zero]
  have:(⟨#[]⟩:ByteArray)++schedsTxt l=schedsTxt l:=by
   apply ByteArray.ext
   simp
  rw [this]
 ·rw [if_neg g,if_neg g]
theorem formats_true (l:List S24):sawmilllaw37_ScheduleFormats.f 2000 l=some true:=by
 unfold sawmilllaw37_ScheduleFormats.f
 rw [few_f l 2000 (by omega),awake_at 2000 (by omega)]
 simp only [Option.bind_some]
 by_cases g2:(decide (l.length≤20) && l.all smallS)=true
 ·rw [if_pos g2]
  simp only [Bool.and_eq_true,decide_eq_true_eq] at g2
  have hB:Bnd l:=fun s hs=>by
   have:=List.all_eq_true.mp g2.2 s hs
   unfold smallS at this
   simp at this
   omega
  rw [format_prog l hB (by omega),format_ref l hB (by omega) 2000 (by omega),Option.bind_some,Option.bind_some,if_pos rfl]
 ·rw [if_neg g2]
end Go.Proofs.YtehdmplngmbnnaaDoor.P
namespace Go.Proofs.YtehdmplngmbnnaaDoor.scheduleFormats
open Go.ChangeShapes Go.WideShapes Go.ChangeAt Go.WideMaps Go.WideElems Go.RowKit Go.Proofs.YtehdmplngmbnnaaDoor.P Go.Proofs.YtehdmplngmbnnaaDoorW.PrintWords
set_option linter.unusedVariables false
set_option maxRecDepth 100000 in
theorem lifted (os:Os) (started:os.Started) (H:Type) (enc:TypeId × Value→H) :
  ReturnsInHanded {} Tryd.checked os 5 .any (fun w args=>(Rows.scheduleFormatsSpec.pre enc Tryd.prog Tryd.f5 [] false w args∧laidMetH Tryd.prog laid5 w)∧sizedMet enc Tryd.prog Tryd.f5 (OpenSpec.ofChange Rows.scheduleFormatsSpec) false w args)
   (Rows.scheduleFormatsSpec.post enc Tryd.prog Tryd.f5 false true false false):=by
 refine returnsInHanded_of_change_and (C:=Tryd.checked) (X:=fun w _=>laidMetH Tryd.prog laid5 w) (fun _ _ _ hh h=>h.of_heap hh) own started (by kernel_rfl) Tryd.func5
  (ChangeSpec.witness_shaped (enc:=enc) (C:=Tryd.checked) (os:=os) (X:=fun w _=>laidMetH Tryd.prog laid5 w) false (World.doorLaid Tryd.prog 38 os) #[.slice none 0 0] 8 rfl (World.shaped_of_RefB (by kernel_rfl) (by kernel_rfl)) (by kernel_rfl) (by kernel_rfl) (by kernel_rfl) (door_met os _)) ?_
 intro W base args ds gs before hval0 hW _ _ hL _
 have hval:∀ (j:Nat) t v,Tryd.f5.params[j]?=some t→args[j]?=some v→Value.okWide Tryd.prog W .any base t v:=hval0
 have hW':=hW
 obtain ⟨p,q,hA0,hV,rfl,hfz,hnd⟩:=hW
 have hA:DataW.TrodAll enc Tryd.prog W 0 (fun _=>true) true Tryd.f5.params.toList args.toList ds p:=hA0
 rw [Tryd.params5] at hA hval
 obtain ⟨v0,vs0,d0,ds0,p0,q0,hargs,rfl,rfl,h0,r0⟩:=trodAll_cons hA
 obtain ⟨rfl,rfl,rfl⟩:=trodAll_nil r0
 obtain rfl:args=#[v0]:=by cases args;simp_all
 obtain ⟨rfl,rfl⟩:=trodVars_none hV
 have k0:=h0
 have lt0:∀ x ∈ p0,x.block < W.heap.size:=by obtain ⟨m,hm⟩:=k0;exact DataW.trod_lt m _ _ _ hm
 obtain ⟨fu0,hf0⟩:=h0
 obtain ⟨b0,n0,c0,rfl⟩:=okWide_slice Tryd.underlying25 (hval 0 25 v0 rfl rfl)
 obtain ⟨a0,A0,d0',e0,l0,g0⟩:=opens_scheds H enc W _ _ _ hf0
 obtain ⟨rfl,rfl,rfl⟩:b0=A0∧n0=a0.length∧c0=d0':=by simpa [Value.cells] using e0
 refine (sawmilllaw37_ScheduleFormats.calls 2000 _ _ a0 true W g0 l0 (formats_true a0) ⟨glob_of hL⟩).mono fun e W' ⟨he,bel⟩=>?_
 subst he
 exact ⟨_,rfl,_,_,_,[],_,[],hW',trodAll_mk1 (shut_bool Tryd.underlying4 _),(trodAll_cons_mk (Below.trod laidOut (by kernel_rfl) (of_decide_eq_true (by kernel_rfl)) k0 bel lt0) trodAll_mk0),rfl,bel.frame _,fun h=>by cases h⟩
theorem holds:Rows.ScheduleFormatsSaid :=
 OpenClaim.holds_of_wide 5 Tryd.f5 rfl rfl rfl rfl rfl rfl rfl ⟨rfl,rfl,rfl,rfl,rfl⟩ rfl rfl rfl rfl rfl (by kernel_rfl) Tryd.func5 (by kernel_rfl)
  (of_decide_eq_true (by kernel_rfl)) (by unfold Func.isWrapper;first|(rw [if_pos (by decide +kernel)];kernel_rfl)|(rw [if_neg (by decide +kernel)];exact ⟨rfl,rfl⟩))
  (fun os started H enc _=>lifted os started H enc)
theorem card_holds:Rows.ScheduleFormatsCardSaid :=
 Claim7.holds_tied_plain_at .later [] [.data, .data, .data, .data, .data] true (true, "e1d18ca9756c5a5f1ec290e98221cd0e975e4d185654287143def8cff5441a12") false
  holds (fun _ h=>by cases h) (by kernel_rfl) (fun _ h=>by cases h) scheduleFormats_row_tie rfl ⟨rfl,rfl⟩ (by kernel_rfl) rfl
  (fun f fn hf hfn=>by
   obtain rfl : f = 5 := Option.some.inj ((show Tryd.prog.funcNamed "sawmill/sawmilllaw37.ScheduleFormats" = some 5 by kernel_rfl).symm.trans hf) |>.symm
   obtain rfl:fn=Tryd.f5:=(Option.some.inj (Tryd.func5.symm.trans hfn)).symm
   exact ⟨by kernel_rfl,fun j t ht=>by
    rw [Tryd.params5] at ht
    have hm:t ∈ [25]:=by simpa using Array.mem_of_getElem? ht
    have hall:([25].all fun u=>!Tryd.prog.wantsStandIn u)=true:=by kernel_rfl
    exact (show Tryd.prog.wantsStandIn t=false by simpa using List.all_eq_true.1 hall t hm)⟩)
  (by kernel_rfl)
end Go.Proofs.YtehdmplngmbnnaaDoor.scheduleFormats
namespace Go.Proofs.YtehdmplngmbnnaaDoor
theorem scheduleFormats_card:Rows.ScheduleFormatsCardSaid:=scheduleFormats.card_holds
end Go.Proofs.YtehdmplngmbnnaaDoor
