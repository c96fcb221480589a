/-
  The statement ScheduleBack of this chapter holds for every input, as its tied card says; no conditions.
-/
import Derived.Test.YtehdmplngmbnnaaDoorMb2
import Derived.Test.YtehdmplngmbnnaaDoorMb3
import Derived.Test.YtehdmplngmbnnaaDoorMb4
import Derived.Test.YtehdmplngmbnnaaDoorQScheduleBack1
import Derived.Test.YtehdmplngmbnnaaDoorTie
import Derived.Test.YtehdmplngmbnnaaDoorCards
import Derived.WalkKit
import Derived.ProofKit
import Derived.OpenShut
import Derived.ShutString
import Derived.ChangeOld
import Derived.Below
import Derived.Carry
import Derived.SizedLaws
import Derived.Stop.Joined
import Derived.SevenTiedAt
import Derived.LaidMore
namespace Go.Proofs.YtehdmplngmbnnaaDoor.P
open Go.RowKit Go.Proofs.YtehdmplngmbnnaaDoorW.PrintWords Go.Proofs.YtehdmplngmbnnaaDoorW.PrintLast Go.Proofs.YtehdmplngmbnnaaDoorW.PrintMore
attribute [local go_sem] max2_int min2_int max_two min_two max_three min_three max_four min_four
attribute [local go_sem] cell_twice
set_option linter.unusedVariables false
set_option linter.unusedSimpArgs false
def sawmilllaw37_ScheduleBack.j0:Nat→List (S24)→ByteArray→Bool→Option (Bool)
 | 0,_,_,_=>none
 | k+1,x0,x3,x20=>if x20=true then (if x3.toList=([]:List UInt8) then ((sawmilllaw37_awake.f k).bind fun t105=>(some t105)) else (some false)) else ((schedule_Parse.f x3).bind fun bt106=>(if (x3.size:Int) > 0 then (if (x3.size:Int)≤8000 then (if bt106.2.1=0 then (if bt106.2.2=0 then ((sawmillref37_Same.f k bt106.1 x0).bind fun t111=>(if t111=true then ((sawmilllaw37_awake.f k).bind fun t112=>(some t112)) else (some false))) else (some false)) else (some false)) else (some false)) else (some false)))
def sawmilllaw37_ScheduleBack.f (k:Nat) (l0:List (S24)):Option (Bool):=(sawmilllaw37_few.f k l0).bind fun t101=>(if t101=true then ((schedule_Format.f l0).bind fun t103=>((sawmilllaw37_valid.f k l0).bind fun t104=>(if t104=true then (sawmilllaw37_ScheduleBack.j0 k l0 t103 ((l0.length:Int) == 0)) else (sawmilllaw37_ScheduleBack.j0 k l0 t103 true)))) else ((sawmilllaw37_awake.f k).bind fun t102=>(some t102)))
theorem sawmilllaw37_ScheduleBack.mono_l:∀ k,(∀ y0 y1 y2,LeO (sawmilllaw37_ScheduleBack.j0 k y0 y1 y2) (sawmilllaw37_ScheduleBack.j0 (k+1) y0 y1 y2))
 | 0=>fun _ _ _ r h=>by simp [sawmilllaw37_ScheduleBack.j0] at h
 | k+1=>by
  have ih0:=sawmilllaw37_ScheduleBack.mono_l k
  ·intro y0 y1 y2
   unfold sawmilllaw37_ScheduleBack.j0
   repeat' first
   | (with_reducible exact ih0 _ _ _)
   | (with_reducible exact sawmilllaw37_awake.mono _)
   | (with_reducible exact sawmilllaw37_few.mono _ _)
   | (with_reducible exact sawmilllaw37_valid.mono _ _)
   | (with_reducible exact sawmillref37_Same.mono _ _ _)
   | (with_reducible exact LeO.refl _)
   | (with_reducible exact LeO.none _)
   | (with_reducible refine LeO.ite ?_ ?_)
   | (with_reducible refine LeO.bind ?_ (fun _=>?_))
   | exact ih0 _ _ _
   | exact sawmilllaw37_awake.mono _
   | exact sawmilllaw37_few.mono _ _
   | exact sawmilllaw37_valid.mono _ _
   | exact sawmillref37_Same.mono _ _ _
   | exact LeO.none _
   | refine LeO.ite ?_ ?_
   | refine LeO.bind ?_ (fun _=>?_)
theorem sawmilllaw37_ScheduleBack.mono:∀ a0 k,LeO (sawmilllaw37_ScheduleBack.f k a0) (sawmilllaw37_ScheduleBack.f (k+1) a0):=by
 intro a0 k
 have ih0:=sawmilllaw37_ScheduleBack.mono_l k
 unfold sawmilllaw37_ScheduleBack.f
 repeat' first
   | (with_reducible exact ih0 _ _ _)
   | (with_reducible exact sawmilllaw37_awake.mono _)
   | (with_reducible exact sawmilllaw37_few.mono _ _)
   | (with_reducible exact sawmilllaw37_valid.mono _ _)
   | (with_reducible exact sawmillref37_Same.mono _ _ _)
   | (with_reducible exact LeO.refl _)
   | (with_reducible exact LeO.none _)
   | (with_reducible refine LeO.ite ?_ ?_)
   | (with_reducible refine LeO.bind ?_ (fun _=>?_))
   | exact ih0 _ _ _
   | exact sawmilllaw37_awake.mono _
   | exact sawmilllaw37_few.mono _ _
   | exact sawmilllaw37_valid.mono _ _
   | exact sawmillref37_Same.mono _ _ _
   | exact LeO.none _
   | refine LeO.ite ?_ ?_
   | refine LeO.bind ?_ (fun _=>?_)
set_option maxHeartbeats 8000000 in
set_option maxRecDepth 100000 in
theorem sawmilllaw37_ScheduleBack.calls (k:Nat) (A0:Option Addr) (c0:Nat) (l0:List (S24)) (r:Bool) (w:World) (hr0:Kd.C k24 w A0 l0.length l0) (hc0:l0.length≤c0) (h:sawmilllaw37_ScheduleBack.f k l0=some r) (HG_:Aside0 (Glob w)) :
  Calls Tryd.prog 7 #[.slice A0 l0.length c0] w fun e w'=>e=.returned (.bool r)∧Below w.heap.size w w':=by
 have HR0:=Aside0.mk hr0
 have HC0:=Aside0.mk hc0
 clear hr0 hc0
 have HB:=Aside0.mk (Below.refl w.heap.size w)
 have H:((sawmilllaw37_few.f k l0).bind fun t101=>(if t101=true then ((schedule_Format.f l0).bind fun t103=>((sawmilllaw37_valid.f k l0).bind fun t104=>(if t104=true then (sawmilllaw37_ScheduleBack.j0 k l0 t103 ((l0.length:Int) == 0)) else (sawmilllaw37_ScheduleBack.j0 k l0 t103 true)))) else ((sawmilllaw37_awake.f k).bind fun t102=>(some t102))))=some r:=h
 clear h
 replace H:=Option.bind_eq_some_iff.mp H
 obtain ⟨t101,A20,H⟩:=H
 replace H:(if t101=true then ((schedule_Format.f l0).bind fun t103=>((sawmilllaw37_valid.f k l0).bind fun t104=>(if t104=true then (sawmilllaw37_ScheduleBack.j0 k l0 t103 ((l0.length:Int) == 0)) else (sawmilllaw37_ScheduleBack.j0 k l0 t103 true)))) else ((sawmilllaw37_awake.f k).bind fun t102=>(some t102)))=some r:=H
 have A2:=Aside0.mk A20
 clear A20
 by_cases c3:t101=true
 ·subst c3
  have H1:((schedule_Format.f l0).bind fun t103=>((sawmilllaw37_valid.f k l0).bind fun t104=>(if t104=true then (sawmilllaw37_ScheduleBack.j0 k l0 t103 ((l0.length:Int) == 0)) else (sawmilllaw37_ScheduleBack.j0 k l0 t103 true))))=some r:=by rw [if_pos rfl] at H;exact H
  clear H
  have H:=H1
  clear H1
  replace H:=Option.bind_eq_some_iff.mp H
  obtain ⟨t103,A40,H⟩:=H
  replace H:((sawmilllaw37_valid.f k l0).bind fun t104=>(if t104=true then (sawmilllaw37_ScheduleBack.j0 k l0 t103 ((l0.length:Int) == 0)) else (sawmilllaw37_ScheduleBack.j0 k l0 t103 true)))=some r:=H
  have A4:=Aside0.mk A40
  clear A40
  have HC5:=Aside0.mk H
  clear H
  go_enter Tryd.func7,Tryd.ntmps7
  go_upto_region 4 with (first|((with_reducible refine gate_callee (f:=12) rfl ?_);refine goesL_ (some 8) rfl rfl Tryd.func12 (by kernel_rfl) rfl #[.slice A0 l0.length c0] rfl (by (try simp only [List.map_toArray,List.map_cons,List.map_nil]);first|done|rfl|(simp only [List.length_drop,List.length_take];rfl)) ?_;(with_reducible refine (sawmilllaw37_few.calls k _ _ l0 true _ ?side1 ?side2 A2.out).mono ?_);(case side1=>repeat (first|exact HR0.out|(with_reducible refine Kd.C_alloc ?_ _)|(with_reducible refine Kd.C_drewN ?_ _)|(with_reducible refine Kd.C_drew ?_)));(case side2=>exact HC0.out);rintro e w6 ⟨rfl,hb⟩;refine ⟨_,rfl,?_⟩;have n0_:=Aside0.mk (below_step (by repeat (first|(with_reducible first|exact HB.out|apply below_alloc|apply pw_below_drewN|apply below_drew1)|exact HB.out)) hb);clear HB;have HB:=n0_;clear n0_;(try clear hb);(try clear hb2);(try clear hk);(try clear hi))|((with_reducible refine gate_callee (f:=23) rfl ?_);refine goesL_ (some 12) rfl rfl Tryd.func23 (by kernel_rfl) rfl #[.slice A0 l0.length c0] rfl (by (try simp only [List.map_toArray,List.map_cons,List.map_nil]);first|done|rfl|(simp only [List.length_drop,List.length_take];rfl)) ?_;(with_reducible refine (schedule_Format.calls _ _ l0 t103 _ ?side1 ?side2 A4.out (glob_at HG_ (by repeat (first|(with_reducible first|exact HB.out|apply below_alloc|apply pw_below_drewN|apply below_drew1|refine below_set ?_ (Aside0.out (by assumption)))|exact HB.out)))).mono ?_);(case side1=>repeat (first|exact (Kd.C_below HR0.out HB.out)|(with_reducible refine Kd.C_alloc ?_ _)|(with_reducible refine Kd.C_drewN ?_ _)|(with_reducible refine Kd.C_drew ?_)));(case side2=>exact HC0.out);rintro e w7 ⟨rfl,hb⟩;refine ⟨_,rfl,?_⟩;have n0_:=Aside0.mk (below_step (by repeat (first|(with_reducible first|exact HB.out|apply below_alloc|apply pw_below_drewN|apply below_drew1)|exact HB.out)) hb);clear HB;have HB:=n0_;clear n0_;(try clear hb);(try clear hb2);(try clear hk);(try clear hi)))
  (try simp only [Act.put,List.setIfInBounds_toArray,List.set_cons_zero,List.set_cons_succ])
  go_cut [20] (fun v20 wc=>∃ (kq:Nat) (x20_4:Bool),v20=.bool x20_4∧Aside0 (sawmilllaw37_ScheduleBack.j0 kq l0 t103 x20_4=some r)∧Aside0 (kq≤k)∧Aside0 (Below w.heap.size w wc))
  case first =>
   have H:=HC5.out
   clear HC5
   replace H:=Option.bind_eq_some_iff.mp H
   obtain ⟨t104,A80,H⟩:=H
   replace H:(if t104=true then (sawmilllaw37_ScheduleBack.j0 k l0 t103 ((l0.length:Int) == 0)) else (sawmilllaw37_ScheduleBack.j0 k l0 t103 true))=some r:=H
   have A8:=Aside0.mk A80
   clear A80
   by_cases c9:t104=true
   ·subst c9
    have H1:(sawmilllaw37_ScheduleBack.j0 k l0 t103 ((l0.length:Int) == 0))=some r:=by rw [if_pos rfl] at H;exact H
    clear H
    have H:=H1
    clear H1
    have H':=Aside0.mk H
    clear H
    go_wp2_with (first|((with_reducible refine gate_callee (f:=28) rfl ?_);refine goesL_ (some 14) rfl rfl Tryd.func28 (by kernel_rfl) rfl #[.slice A0 l0.length c0] rfl (by (try simp only [List.map_toArray,List.map_cons,List.map_nil]);first|done|rfl|(simp only [List.length_drop,List.length_take];rfl)) ?_;(with_reducible refine (sawmilllaw37_valid.calls k _ _ l0 true _ ?side1 ?side2 A8.out (glob_at HG_ (by repeat (first|(with_reducible first|exact HB.out|apply below_alloc|apply pw_below_drewN|apply below_drew1|refine below_set ?_ (Aside0.out (by assumption)))|exact HB.out)))).mono ?_);(case side1=>repeat (first|exact (Kd.C_below HR0.out HB.out)|(with_reducible refine Kd.C_alloc ?_ _)|(with_reducible refine Kd.C_drewN ?_ _)|(with_reducible refine Kd.C_drew ?_)));(case side2=>exact HC0.out);rintro e w10 ⟨rfl,hb⟩;refine ⟨_,rfl,?_⟩;have n0_:=Aside0.mk (below_step (by repeat (first|(with_reducible first|exact HB.out|apply below_alloc|apply pw_below_drewN|apply below_drew1)|exact HB.out)) hb);clear HB;have HB:=n0_;clear n0_;(try clear hb);(try clear hb2);(try clear hk);(try clear hi)))
    go_meet
    case rel=>exact ⟨_,(((l0.length:Int) == 0)),(by first|rfl|(simp;done)|(simp [*];done)),H',⟨by first|omega|exact Nat.le_refl _⟩,⟨by repeat (first|(with_reducible first|exact HB.out|apply below_alloc|apply pw_below_drewN|apply below_drew1)|exact HB.out)⟩⟩
   ·replace c9:=Bool.eq_false_iff.mpr c9
    subst c9
    have H1:(sawmilllaw37_ScheduleBack.j0 k l0 t103 true)=some r:=by rw [if_neg (show ¬ (false=true) by decide)] at H;exact H
    clear H
    have H:=H1
    clear H1
    have H':=Aside0.mk H
    clear H
    go_wp2_with (first|((with_reducible refine gate_callee (f:=28) rfl ?_);refine goesL_ (some 14) rfl rfl Tryd.func28 (by kernel_rfl) rfl #[.slice A0 l0.length c0] rfl (by (try simp only [List.map_toArray,List.map_cons,List.map_nil]);first|done|rfl|(simp only [List.length_drop,List.length_take];rfl)) ?_;(with_reducible refine (sawmilllaw37_valid.calls k _ _ l0 false _ ?side1 ?side2 A8.out (glob_at HG_ (by repeat (first|(with_reducible first|exact HB.out|apply below_alloc|apply pw_below_drewN|apply below_drew1|refine below_set ?_ (Aside0.out (by assumption)))|exact HB.out)))).mono ?_);(case side1=>repeat (first|exact (Kd.C_below HR0.out HB.out)|(with_reducible refine Kd.C_alloc ?_ _)|(with_reducible refine Kd.C_drewN ?_ _)|(with_reducible refine Kd.C_drew ?_)));(case side2=>exact HC0.out);rintro e w11 ⟨rfl,hb⟩;refine ⟨_,rfl,?_⟩;have n0_:=Aside0.mk (below_step (by repeat (first|(with_reducible first|exact HB.out|apply below_alloc|apply pw_below_drewN|apply below_drew1)|exact HB.out)) hb);clear HB;have HB:=n0_;clear n0_;(try clear hb);(try clear hb2);(try clear hk);(try clear hi)))
    go_meet
    case rel=>exact ⟨_,(true),(by first|rfl|(simp;done)|(simp [*];done)),H',⟨by first|omega|exact Nat.le_refl _⟩,⟨by repeat (first|(with_reducible first|exact HB.out|apply below_alloc|apply pw_below_drewN|apply below_drew1)|exact HB.out)⟩⟩
  case rest =>
   clear HC5
   try clear c1
   try clear c2
   try clear p2
   try clear c3
   try clear c7
   try clear c9
   obtain ⟨kq,x20_4,rfl,HA,HJ4,HB⟩:=hcut
   cases kq with
   | zero=>exact absurd HA.out (by simp [sawmilllaw37_ScheduleBack.j0])
   | succ kj4 =>
    have H:=HA.out
    clear HA
    simp only [sawmilllaw37_ScheduleBack.j0] at H
    by_cases c12:x20_4=true
    ·subst c12
     have H1:(if t103.toList=([]:List UInt8) then ((sawmilllaw37_awake.f kj4).bind fun t105=>(some t105)) else (some false))=some r:=by rw [if_pos rfl] at H;exact H
     clear H
     have H:=H1
     clear H1
     by_cases c13:t103.toList=([]:List UInt8)
     ·rw [if_pos c13] at H
      have c13b0:(t103.toList == ([]:List UInt8))=true:=beq_iff_eq.mpr c13
      have c13b1:(t103.toList != ([]:List UInt8))=false:=bne_eq_false_iff_eq.mpr c13
      clear c13
      replace H:=Option.bind_eq_some_iff.mp H
      obtain ⟨t105,A140,H⟩:=H
      replace H:(some t105)=some r:=H
      have A14:=Aside0.mk A140
      clear A140
      obtain rfl:=Option.some.inj H
      go_wp2_with (first|(go_at_call 13;(with_reducible refine (sawmilllaw37_awake.calls kj4  t105 _ A14.out (glob_at HG_ (by repeat (first|(with_reducible first|exact HB.out|apply below_alloc|apply pw_below_drewN|apply below_drew1|refine below_set ?_ (Aside0.out (by assumption)))|exact HB.out)))).mono ?_);rintro e w15 ⟨rfl,hb⟩;have n0_:=Aside0.mk (below_step (by repeat (first|(with_reducible first|exact HB.out|apply below_alloc|apply pw_below_drewN|apply below_drew1)|exact HB.out)) hb);clear HB;have HB:=n0_;clear n0_;(try clear hb);(try clear hb2);(try clear hk);(try clear hi)))
      go_ret
      exact ⟨by first|rfl|(simp [errW_none,errW_some]<;>rfl)|(simp [*,errW_none,errW_some]<;>rfl),by repeat (first|(with_reducible first|exact HB.out|apply below_alloc|apply pw_below_drewN|apply below_drew1)|exact HB.out)⟩
     ·rw [if_neg c13] at H
      have c13b0:(t103.toList == ([]:List UInt8))=false:=beq_eq_false_iff_ne.mpr c13
      have c13b1:(t103.toList != ([]:List UInt8))=true:=bne_iff_ne.mpr c13
      obtain rfl:=Option.some.inj H
      go_wp2
      go_ret
      exact ⟨by first|rfl|(simp [errW_none,errW_some]<;>rfl)|(simp [*,errW_none,errW_some]<;>rfl),by repeat (first|(with_reducible first|exact HB.out|apply below_alloc|apply pw_below_drewN|apply below_drew1)|exact HB.out)⟩
    ·replace c12:=Bool.eq_false_iff.mpr c12
     subst c12
     have H1:((schedule_Parse.f t103).bind fun bt106=>(if (t103.size:Int) > 0 then (if (t103.size:Int)≤8000 then (if bt106.2.1=0 then (if bt106.2.2=0 then ((sawmillref37_Same.f kj4 bt106.1 l0).bind fun t111=>(if t111=true then ((sawmilllaw37_awake.f kj4).bind fun t112=>(some t112)) else (some false))) else (some false)) else (some false)) else (some false)) else (some false)))=some r:=by rw [if_neg (show ¬ (false=true) by decide)] at H;exact H
     clear H
     have H:=H1
     clear H1
     replace H:=Option.bind_eq_some_iff.mp H
     obtain ⟨⟨t106,t107,t108⟩,A160,H⟩:=H
     replace H:(if (t103.size:Int) > 0 then (if (t103.size:Int)≤8000 then (if t107=0 then (if t108=0 then ((sawmillref37_Same.f kj4 t106 l0).bind fun t111=>(if t111=true then ((sawmilllaw37_awake.f kj4).bind fun t112=>(some t112)) else (some false))) else (some false)) else (some false)) else (some false)) else (some false))=some r:=H
     have A16:=Aside0.mk A160
     clear A160
     by_cases c17:(t103.size:Int) > 0
     ·rw [if_pos c17] at H
      have c17b0:decide (0 < (t103.size:Int))=true:=decide_eq_true c17
      have c17b1:decide (0 < t103.size)=true:=decide_eq_true (by omega)
      clear c17
      by_cases c18:(t103.size:Int)≤8000
      ·rw [if_pos c18] at H
       have c18b0:decide ((t103.size:Int)≤8000)=true:=decide_eq_true c18
       have c18b1:decide (t103.size≤8000)=true:=decide_eq_true (by omega)
       clear c18
       by_cases c19:t107=0
       ·rw [if_pos c19] at H
        have c19b0:(t107 == 0)=true:=beq_iff_eq.mpr c19
        have c19b1:(t107 != 0)=false:=bne_eq_false_iff_eq.mpr c19
        clear c19
        by_cases c20:t108=0
        ·rw [if_pos c20] at H
         have c20b0:(t108 == 0)=true:=beq_iff_eq.mpr c20
         have c20b1:(t108 != 0)=false:=bne_eq_false_iff_eq.mpr c20
         clear c20
         replace H:=Option.bind_eq_some_iff.mp H
         obtain ⟨t111,A210,H⟩:=H
         replace H:(if t111=true then ((sawmilllaw37_awake.f kj4).bind fun t112=>(some t112)) else (some false))=some r:=H
         have A21:=Aside0.mk A210
         clear A210
         by_cases c22:t111=true
         ·subst c22
          have H1:((sawmilllaw37_awake.f kj4).bind fun t112=>(some t112))=some r:=by rw [if_pos rfl] at H;exact H
          clear H
          have H:=H1
          clear H1
          replace H:=Option.bind_eq_some_iff.mp H
          obtain ⟨t112,A230,H⟩:=H
          replace H:(some t112)=some r:=H
          have A23:=Aside0.mk A230
          clear A230
          obtain rfl:=Option.some.inj H
          go_wp2_with (first|((with_reducible refine gate_callee (f:=25) rfl ?_);refine goesL_ (some 28) rfl rfl Tryd.func25 (by kernel_rfl) rfl #[.string t103] rfl (by (try simp only [List.map_toArray,List.map_cons,List.map_nil]);first|done|rfl|(simp only [List.length_drop,List.length_take];rfl)) ?_;(with_reducible refine (schedule_Parse.calls t103 t106 t107 t108 _ A16.out (glob_at HG_ (by repeat (first|(with_reducible first|exact HB.out|apply below_alloc|apply pw_below_drewN|apply below_drew1|refine below_set ?_ (Aside0.out (by assumption)))|exact HB.out)))).mono ?_);rintro e w24 ⟨v109,rfl,ho0,hb⟩;refine ⟨_,rfl,?_⟩;have n0_:=Aside0.mk (Kd.S_lower ho0 (below_size (by repeat (first|(with_reducible first|exact HB.out|apply below_alloc|apply pw_below_drewN|apply below_drew1)|exact HB.out))));have n1_:=Aside0.mk (below_step (by repeat (first|(with_reducible first|exact HB.out|apply below_alloc|apply pw_below_drewN|apply below_drew1)|exact HB.out)) hb);clear HB;have HO110:=n0_;have HB:=n1_;clear n0_ n1_;(try clear hb);(try clear hb2);(try clear hk);(try clear hi);(try clear ho0);obtain ⟨Ao25,co25,eo25⟩:=Kd.S_slice HO110.out;subst eo25)|(go_at_call 27;(with_reducible refine (sawmillref37_Same.calls kj4 _ _ t106 _ _ l0 true _ ?side1 ?side2 ?side3 ?side4 A21.out).mono ?_);(case side1=>repeat (first|exact (Kd.S_reads' HO110.out).2.2|(with_reducible refine Kd.C_alloc ?_ _)|(with_reducible refine Kd.C_drewN ?_ _)|(with_reducible refine Kd.C_drew ?_)));(case side2=>exact (Kd.S_reads' HO110.out).2.1);(case side3=>repeat (first|exact (Kd.C_below HR0.out HB.out)|(with_reducible refine Kd.C_alloc ?_ _)|(with_reducible refine Kd.C_drewN ?_ _)|(with_reducible refine Kd.C_drew ?_)));(case side4=>exact HC0.out);rintro e w26 ⟨rfl,hb⟩;have n0_:=Aside0.mk (Kd.S_below (by (with_reducible repeat (first|apply Kd.S_alloc|apply Kd.S_drewN|apply Kd.S_drew));exact HO110.out) hb);have n1_:=Aside0.mk (below_step (by repeat (first|(with_reducible first|exact HB.out|apply below_alloc|apply pw_below_drewN|apply below_drew1)|exact HB.out)) hb);clear HO110;clear HB;have HO110:=n0_;have HB:=n1_;clear n0_ n1_;(try clear hb);(try clear hb2);(try clear hk);(try clear hi))|(go_at_call 13;(with_reducible refine (sawmilllaw37_awake.calls kj4  t112 _ A23.out (glob_at HG_ (by repeat (first|(with_reducible first|exact HB.out|apply below_alloc|apply pw_below_drewN|apply below_drew1|refine below_set ?_ (Aside0.out (by assumption)))|exact HB.out)))).mono ?_);rintro e w27 ⟨rfl,hb⟩;have n0_:=Aside0.mk (Kd.S_below (by (with_reducible repeat (first|apply Kd.S_alloc|apply Kd.S_drewN|apply Kd.S_drew));exact HO110.out) hb);have n1_:=Aside0.mk (below_step (by repeat (first|(with_reducible first|exact HB.out|apply below_alloc|apply pw_below_drewN|apply below_drew1)|exact HB.out)) hb);clear HO110;clear HB;have HO110:=n0_;have HB:=n1_;clear n0_ n1_;(try clear hb);(try clear hb2);(try clear hk);(try clear hi)))
          go_ret
          exact ⟨by first|rfl|(simp [errW_none,errW_some]<;>rfl)|(simp [*,errW_none,errW_some]<;>rfl),by repeat (first|(with_reducible first|exact HB.out|apply below_alloc|apply pw_below_drewN|apply below_drew1)|exact HB.out)⟩
         ·replace c22:=Bool.eq_false_iff.mpr c22
          subst c22
          have H1:(some false)=some r:=by rw [if_neg (show ¬ (false=true) by decide)] at H;exact H
          clear H
          have H:=H1
          clear H1
          obtain rfl:=Option.some.inj H
          go_wp2_with (first|((with_reducible refine gate_callee (f:=25) rfl ?_);refine goesL_ (some 28) rfl rfl Tryd.func25 (by kernel_rfl) rfl #[.string t103] rfl (by (try simp only [List.map_toArray,List.map_cons,List.map_nil]);first|done|rfl|(simp only [List.length_drop,List.length_take];rfl)) ?_;(with_reducible refine (schedule_Parse.calls t103 t106 t107 t108 _ A16.out (glob_at HG_ (by repeat (first|(with_reducible first|exact HB.out|apply below_alloc|apply pw_below_drewN|apply below_drew1|refine below_set ?_ (Aside0.out (by assumption)))|exact HB.out)))).mono ?_);rintro e w28 ⟨v109,rfl,ho0,hb⟩;refine ⟨_,rfl,?_⟩;have n0_:=Aside0.mk (Kd.S_lower ho0 (below_size (by repeat (first|(with_reducible first|exact HB.out|apply below_alloc|apply pw_below_drewN|apply below_drew1)|exact HB.out))));have n1_:=Aside0.mk (below_step (by repeat (first|(with_reducible first|exact HB.out|apply below_alloc|apply pw_below_drewN|apply below_drew1)|exact HB.out)) hb);clear HB;have HO110:=n0_;have HB:=n1_;clear n0_ n1_;(try clear hb);(try clear hb2);(try clear hk);(try clear hi);(try clear ho0);obtain ⟨Ao29,co29,eo29⟩:=Kd.S_slice HO110.out;subst eo29)|(go_at_call 27;(with_reducible refine (sawmillref37_Same.calls kj4 _ _ t106 _ _ l0 false _ ?side1 ?side2 ?side3 ?side4 A21.out).mono ?_);(case side1=>repeat (first|exact (Kd.S_reads' HO110.out).2.2|(with_reducible refine Kd.C_alloc ?_ _)|(with_reducible refine Kd.C_drewN ?_ _)|(with_reducible refine Kd.C_drew ?_)));(case side2=>exact (Kd.S_reads' HO110.out).2.1);(case side3=>repeat (first|exact (Kd.C_below HR0.out HB.out)|(with_reducible refine Kd.C_alloc ?_ _)|(with_reducible refine Kd.C_drewN ?_ _)|(with_reducible refine Kd.C_drew ?_)));(case side4=>exact HC0.out);rintro e w30 ⟨rfl,hb⟩;have n0_:=Aside0.mk (Kd.S_below (by (with_reducible repeat (first|apply Kd.S_alloc|apply Kd.S_drewN|apply Kd.S_drew));exact HO110.out) hb);have n1_:=Aside0.mk (below_step (by repeat (first|(with_reducible first|exact HB.out|apply below_alloc|apply pw_below_drewN|apply below_drew1)|exact HB.out)) hb);clear HO110;clear HB;have HO110:=n0_;have HB:=n1_;clear n0_ n1_;(try clear hb);(try clear hb2);(try clear hk);(try clear hi)))
          go_ret
          exact ⟨by first|rfl|(simp [errW_none,errW_some]<;>rfl)|(simp [*,errW_none,errW_some]<;>rfl),by repeat (first|(with_reducible first|exact HB.out|apply below_alloc|apply pw_below_drewN|apply below_drew1)|exact HB.out)⟩
        ·rw [if_neg c20] at H
         have c20b0:(t108 == 0)=false:=beq_eq_false_iff_ne.mpr c20
         have c20b1:(t108 != 0)=true:=bne_iff_ne.mpr c20
         obtain rfl:=Option.some.inj H
         go_wp2_with (first|((with_reducible refine gate_callee (f:=25) rfl ?_);refine goesL_ (some 28) rfl rfl Tryd.func25 (by kernel_rfl) rfl #[.string t103] rfl (by (try simp only [List.map_toArray,List.map_cons,List.map_nil]);first|done|rfl|(simp only [List.length_drop,List.length_take];rfl)) ?_;(with_reducible refine (schedule_Parse.calls t103 t106 t107 t108 _ A16.out (glob_at HG_ (by repeat (first|(with_reducible first|exact HB.out|apply below_alloc|apply pw_below_drewN|apply below_drew1|refine below_set ?_ (Aside0.out (by assumption)))|exact HB.out)))).mono ?_);rintro e w31 ⟨v109,rfl,ho0,hb⟩;refine ⟨_,rfl,?_⟩;have n0_:=Aside0.mk (Kd.S_lower ho0 (below_size (by repeat (first|(with_reducible first|exact HB.out|apply below_alloc|apply pw_below_drewN|apply below_drew1)|exact HB.out))));have n1_:=Aside0.mk (below_step (by repeat (first|(with_reducible first|exact HB.out|apply below_alloc|apply pw_below_drewN|apply below_drew1)|exact HB.out)) hb);clear HB;have HO110:=n0_;have HB:=n1_;clear n0_ n1_;(try clear hb);(try clear hb2);(try clear hk);(try clear hi);(try clear ho0)))
         go_ret
         exact ⟨by first|rfl|(simp [errW_none,errW_some]<;>rfl)|(simp [*,errW_none,errW_some]<;>rfl),by repeat (first|(with_reducible first|exact HB.out|apply below_alloc|apply pw_below_drewN|apply below_drew1)|exact HB.out)⟩
       ·rw [if_neg c19] at H
        have c19b0:(t107 == 0)=false:=beq_eq_false_iff_ne.mpr c19
        have c19b1:(t107 != 0)=true:=bne_iff_ne.mpr c19
        obtain rfl:=Option.some.inj H
        go_wp2_with (first|((with_reducible refine gate_callee (f:=25) rfl ?_);refine goesL_ (some 28) rfl rfl Tryd.func25 (by kernel_rfl) rfl #[.string t103] rfl (by (try simp only [List.map_toArray,List.map_cons,List.map_nil]);first|done|rfl|(simp only [List.length_drop,List.length_take];rfl)) ?_;(with_reducible refine (schedule_Parse.calls t103 t106 t107 t108 _ A16.out (glob_at HG_ (by repeat (first|(with_reducible first|exact HB.out|apply below_alloc|apply pw_below_drewN|apply below_drew1|refine below_set ?_ (Aside0.out (by assumption)))|exact HB.out)))).mono ?_);rintro e w32 ⟨v109,rfl,ho0,hb⟩;refine ⟨_,rfl,?_⟩;have n0_:=Aside0.mk (Kd.S_lower ho0 (below_size (by repeat (first|(with_reducible first|exact HB.out|apply below_alloc|apply pw_below_drewN|apply below_drew1)|exact HB.out))));have n1_:=Aside0.mk (below_step (by repeat (first|(with_reducible first|exact HB.out|apply below_alloc|apply pw_below_drewN|apply below_drew1)|exact HB.out)) hb);clear HB;have HO110:=n0_;have HB:=n1_;clear n0_ n1_;(try clear hb);(try clear hb2);(try clear hk);(try clear hi);(try clear ho0)))
        go_ret
        exact ⟨by first|rfl|(simp [errW_none,errW_some]<;>rfl)|(simp [*,errW_none,errW_some]<;>rfl),by repeat (first|(with_reducible first|exact HB.out|apply below_alloc|apply pw_below_drewN|apply below_drew1)|exact HB.out)⟩
      ·rw [if_neg c18] at H
       have c18b0:decide ((t103.size:Int)≤8000)=false:=decide_eq_false c18
       have c18b1:decide (t103.size≤8000)=false:=decide_eq_false (by omega)
       clear c18
       obtain rfl:=Option.some.inj H
       go_wp2_with (first|((with_reducible refine gate_callee (f:=25) rfl ?_);refine goesL_ (some 28) rfl rfl Tryd.func25 (by kernel_rfl) rfl #[.string t103] rfl (by (try simp only [List.map_toArray,List.map_cons,List.map_nil]);first|done|rfl|(simp only [List.length_drop,List.length_take];rfl)) ?_;(with_reducible refine (schedule_Parse.calls t103 t106 t107 t108 _ A16.out (glob_at HG_ (by repeat (first|(with_reducible first|exact HB.out|apply below_alloc|apply pw_below_drewN|apply below_drew1|refine below_set ?_ (Aside0.out (by assumption)))|exact HB.out)))).mono ?_);rintro e w33 ⟨v109,rfl,ho0,hb⟩;refine ⟨_,rfl,?_⟩;have n0_:=Aside0.mk (Kd.S_lower ho0 (below_size (by repeat (first|(with_reducible first|exact HB.out|apply below_alloc|apply pw_below_drewN|apply below_drew1)|exact HB.out))));have n1_:=Aside0.mk (below_step (by repeat (first|(with_reducible first|exact HB.out|apply below_alloc|apply pw_below_drewN|apply below_drew1)|exact HB.out)) hb);clear HB;have HO110:=n0_;have HB:=n1_;clear n0_ n1_;(try clear hb);(try clear hb2);(try clear hk);(try clear hi);(try clear ho0)))
       go_ret
       exact ⟨by first|rfl|(simp [errW_none,errW_some]<;>rfl)|(simp [*,errW_none,errW_some]<;>rfl),by repeat (first|(with_reducible first|exact HB.out|apply below_alloc|apply pw_below_drewN|apply below_drew1)|exact HB.out)⟩
     ·rw [if_neg c17] at H
      have c17b0:decide (0 < (t103.size:Int))=false:=decide_eq_false c17
      have c17b1:decide (0 < t103.size)=false:=decide_eq_false (by omega)
      clear c17
      obtain rfl:=Option.some.inj H
      go_wp2_with (first|((with_reducible refine gate_callee (f:=25) rfl ?_);refine goesL_ (some 28) rfl rfl Tryd.func25 (by kernel_rfl) rfl #[.string t103] rfl (by (try simp only [List.map_toArray,List.map_cons,List.map_nil]);first|done|rfl|(simp only [List.length_drop,List.length_take];rfl)) ?_;(with_reducible refine (schedule_Parse.calls t103 t106 t107 t108 _ A16.out (glob_at HG_ (by repeat (first|(with_reducible first|exact HB.out|apply below_alloc|apply pw_below_drewN|apply below_drew1|refine below_set ?_ (Aside0.out (by assumption)))|exact HB.out)))).mono ?_);rintro e w34 ⟨v109,rfl,ho0,hb⟩;refine ⟨_,rfl,?_⟩;have n0_:=Aside0.mk (Kd.S_lower ho0 (below_size (by repeat (first|(with_reducible first|exact HB.out|apply below_alloc|apply pw_below_drewN|apply below_drew1)|exact HB.out))));have n1_:=Aside0.mk (below_step (by repeat (first|(with_reducible first|exact HB.out|apply below_alloc|apply pw_below_drewN|apply below_drew1)|exact HB.out)) hb);clear HB;have HO110:=n0_;have HB:=n1_;clear n0_ n1_;(try clear hb);(try clear hb2);(try clear hk);(try clear hi);(try clear ho0)))
      go_ret
      exact ⟨by first|rfl|(simp [errW_none,errW_some]<;>rfl)|(simp [*,errW_none,errW_some]<;>rfl),by repeat (first|(with_reducible first|exact HB.out|apply below_alloc|apply pw_below_drewN|apply below_drew1)|exact HB.out)⟩
 ·replace c3:=Bool.eq_false_iff.mpr c3
  subst c3
  have H1:((sawmilllaw37_awake.f k).bind fun t102=>(some t102))=some r:=by rw [if_neg (show ¬ (false=true) by decide)] at H;exact H
  clear H
  have H:=H1
  clear H1
  replace H:=Option.bind_eq_some_iff.mp H
  obtain ⟨t102,A350,H⟩:=H
  replace H:(some t102)=some r:=H
  have A35:=Aside0.mk A350
  clear A350
  obtain rfl:=Option.some.inj H
  go_enter Tryd.func7,Tryd.ntmps7
  go_wp2_with (first|((with_reducible refine gate_callee (f:=12) rfl ?_);refine goesL_ (some 8) rfl rfl Tryd.func12 (by kernel_rfl) rfl #[.slice A0 l0.length c0] rfl (by (try simp only [List.map_toArray,List.map_cons,List.map_nil]);first|done|rfl|(simp only [List.length_drop,List.length_take];rfl)) ?_;(with_reducible refine (sawmilllaw37_few.calls k _ _ l0 false _ ?side1 ?side2 A2.out).mono ?_);(case side1=>repeat (first|exact HR0.out|(with_reducible refine Kd.C_alloc ?_ _)|(with_reducible refine Kd.C_drewN ?_ _)|(with_reducible refine Kd.C_drew ?_)));(case side2=>exact HC0.out);rintro e w36 ⟨rfl,hb⟩;refine ⟨_,rfl,?_⟩;have n0_:=Aside0.mk (below_step (by repeat (first|(with_reducible first|exact HB.out|apply below_alloc|apply pw_below_drewN|apply below_drew1)|exact HB.out)) hb);clear HB;have HB:=n0_;clear n0_;(try clear hb);(try clear hb2);(try clear hk);(try clear hi))|((with_reducible refine gate_callee (f:=13) rfl ?_);refine goesL_ (some 10) rfl rfl Tryd.func13 (by kernel_rfl) rfl #[] rfl (by (try simp only [List.map_toArray,List.map_cons,List.map_nil]);first|done|rfl|(simp only [List.length_drop,List.length_take];rfl)) ?_;(with_reducible refine (sawmilllaw37_awake.calls k  t102 _ A35.out (glob_at HG_ (by repeat (first|(with_reducible first|exact HB.out|apply below_alloc|apply pw_below_drewN|apply below_drew1|refine below_set ?_ (Aside0.out (by assumption)))|exact HB.out)))).mono ?_);rintro e w37 ⟨rfl,hb⟩;refine ⟨_,rfl,?_⟩;have n0_:=Aside0.mk (below_step (by repeat (first|(with_reducible first|exact HB.out|apply below_alloc|apply pw_below_drewN|apply below_drew1)|exact HB.out)) hb);clear HB;have HB:=n0_;clear n0_;(try clear hb);(try clear hb2);(try clear hk);(try clear hi)))
  go_ret
  exact ⟨by first|rfl|(simp [errW_none,errW_some]<;>rfl)|(simp [*,errW_none,errW_some]<;>rfl),by repeat (first|(with_reducible first|exact HB.out|apply below_alloc|apply pw_below_drewN|apply below_drew1)|exact HB.out)⟩
end Go.Proofs.YtehdmplngmbnnaaDoor.P
namespace Go.Proofs.YtehdmplngmbnnaaDoor.P
open Go.RowKit Go.Proofs.YtehdmplngmbnnaaDoorW.PrintWords
set_option linter.unusedVariables false
set_option linter.unusedSimpArgs false
theorem scanB_wf (s:ByteArray) (h:(scanB s).2.1=0):s.size≤8000∧∃ ts e,(scanB s).1=ts++[(⟨0,⟨#[]⟩,0,e⟩:Lx)]∧ts.length≤s.size∧(∀ x ∈ ts,Wf x∧x.f1.size≤s.size∧0≤x.f3∧x.f3≤(s.size:Int))∧0≤e∧e≤(s.size:Int):=by
 unfold scanB at h ⊢
 by_cases g:s.size > 8000
 ·rw [if_pos g] at h;cases h
 ·rw [if_neg g] at h ⊢
  have hk:=skR_le (bl s) false
  rw [bl_size] at hk
  have hl:((bl s).drop (skR false (bl s))).length=s.size - skR false (bl s):=by rw [List.length_drop,bl_size]
  obtain ⟨ts,e,h1,h2,h3,h4,h5⟩:=scanL_wf (s.size+1) _ (skR false (bl s)) (by rw [hl];omega) h
  rw [hl] at h2 h3 h5
  have hz:skR false (bl s)+(s.size - skR false (bl s))=s.size:=by omega
  rw [hz] at h3 h5
  exact ⟨by omega,ts,e,h1,by omega,(fun x hx=>by obtain ⟨j1,j2,j3⟩:=h3 x hx;exact ⟨j1,by omega,j3⟩),h4,h5⟩
theorem scanB_at (s:ByteArray):0≤(scanB s).2.2∧(scanB s).2.2≤(s.size:Int):=by
 unfold scanB
 by_cases g:s.size > 8000
 ·rw [if_pos g]
  exact ⟨Int.le_refl 0,by simp only;omega⟩
 ·rw [if_neg g]
  have hk:=skR_le (bl s) false
  rw [bl_size] at hk
  have hl:((bl s).drop (skR false (bl s))).length=s.size - skR false (bl s):=by rw [List.length_drop,bl_size]
  have:=scanL_at (s.size+1) ((bl s).drop (skR false (bl s))) (skR false (bl s)) (by rw [hl];omega)
  rw [hl] at this
  have hz:skR false (bl s)+(s.size - skR false (bl s))=s.size:=by omega
  rw [hz] at this
  exact this
theorem scanB_sound (s:ByteArray) (h:(scanB s).2.1=0):SoundT (scanB s).1∧(scanB s).1.length≤s.size+1:=by
 obtain ⟨h8,ts,e,h1,h2,h3,h4,h5⟩:=scanB_wf s h
 rw [h1]
 have hl:(ts++[(⟨0,⟨#[]⟩,0,e⟩:Lx)]).length=ts.length+1:=by simp
 refine ⟨⟨⟨by omega,?_,?_,by omega⟩,?_⟩,by omega⟩
 ·rw [hl,gL_eq _ _ (by omega)]
  simp
 ·intro x hx
  rcases List.mem_append.mp hx with hx|hx
  ·exact (h3 x hx).1.rng
  ·rw [List.mem_singleton.mp hx]
   exact ⟨Int.le_refl 0,by show (0:Int)≤1099511627776;omega⟩
 ·intro x hx
  rcases List.mem_append.mp hx with hx|hx
  ·have:=(h3 x hx).2.1
   omega
  ·rw [List.mem_singleton.mp hx]
   exact Nat.zero_le _
def parseB (s:ByteArray):List S24 × Int × Int:=if (scanB s).2.1=0 then aList (scanB s).1 ((scanB s).1.length+1) 0 [] else ([],(scanB s).2.1,(scanB s).2.2)
theorem parse_f (s:ByteArray):schedule_Parse.f s=some (parseB s):=by
 unfold schedule_Parse.f parseB
 rw [scan_prog s (pFuel s) (by unfold pFuel;omega),Option.bind_some]
 by_cases g:(scanB s).2.1=0
 ·obtain ⟨h1,h2⟩:=scanB_sound s g
  have hp:=h1.pos
  rw [if_pos g,if_pos g]
  unfold schedule_Parse_tail.f
  obtain ⟨l,b,ht⟩:=tail_loop (scanB s).1 h1 ((scanB s).1.length+1) 0 [] (pFuel s) hp (by omega) (by unfold pFuel;omega) (fun x hx=>absurd hx (by simp)) (Nat.zero_le _)
  rw [List.drop_zero] at ht
  rw [ht,Option.bind_some]
 ·rw [if_neg g,if_neg g]
def stepOk (l:List S24) (i:Nat):Bool:=decide (schedule_Check.f (rd_T24 l i).f0 (rd_T24 l i).f1 (rd_T24 l i).f2=some 0) && ((l.take i).find? (hasNm (rd_T24 l i).f0)).isNone
def vGo (l:List S24):Nat→Nat→Bool
 | 0,_=>true
 | m+1,i=>stepOk l i && vGo l m (i+1)
theorem found_some (o:Option S24):(found o).2.2.2=o.isSome:=by
 cases o<;>rfl
theorem last_iff (l:List S24) (hB:Bnd2 l) (hl:l.length≤1000) (i:Nat) (hi:i < l.length):((schedule_last.f (l.take (i+1))=some 0) ↔ (i < 8∧stepOk l i=true)):=by
 have hln:(l.take (i+1)).length=i+1:=by rw [List.length_take];omega
 have e:wrap64 (((i+1:Nat):Int) - 1)=(i:Int):=by
  rw [show ((i+1:Nat):Int) - 1=(i:Int) by omega]
  exact wrap_nat_s i (by omega)
 unfold schedule_last.f stepOk
 rw [hln,e,rd_take l i hi]
 have q0:(0:Int)≤(i:Int):=by omega
 have q1:(i:Int) < ((i+1:Nat):Int):=by omega
 have q2:(i:Int)≤((i+1:Nat):Int):=by omega
 by_cases g1:(i:Int) ≥ 8
 ·rw [if_pos g1]
  constructor
  ·intro h;cases h
  ·rintro ⟨h,-⟩;omega
 ·rw [if_neg g1,if_pos q0,if_pos q1]
  have g8:i < 8:=by omega
  obtain ⟨c,hc⟩:∃ c,schedule_Check.f (rd_T24 l i).f0 (rd_T24 l i).f1 (rd_T24 l i).f2=some c:=⟨_,rfl⟩
  rw [hc,Option.bind_some]
  by_cases g2:c=0
  ·have ht:(l.take (i+1)).take ((i:Int)).toNat=l.take i:=by rw [Int.toNat_natCast,List.take_take,Nat.min_eq_left (by omega)]
   rw [if_pos g2,if_pos q2,ht,find_prog _ _ (by rw [List.length_take];omega) (fun s hs=>(hB s (List.mem_of_mem_take hs)).2),Option.bind_some,found_some,g2]
   cases (l.take i).find? (hasNm (rd_T24 l i).f0) with
   | none=>simp [g8]
   | some x=>simp
  ·rw [if_neg g2]
   have:¬ (some c=some (0:Int)):=fun h=>g2 (Option.some.inj h)
   simp [this]
theorem valid_l0 (l:List S24) (hB:Bnd2 l) (hl:l.length≤1000):∀ (m i K:Nat),i+m=l.length→m+1≤K→sawmilllaw37_valid.l0 K l i=some (vGo l m i && (decide (l.length≤8) || !vGo l m i)):=by
 intro m
 induction m with
 | zero =>
  intro i K hi hK
  obtain ⟨K,rfl⟩:∃ q,K=q+1:=⟨K - 1,by omega⟩
  rw [sawmilllaw37_valid.l0,if_neg (by omega)]
  have:decide ((l.length:Int)≤8)=decide (l.length≤8):=by
   by_cases g:l.length≤8
   ·rw [decide_eq_true g,decide_eq_true (by omega)]
   ·rw [decide_eq_false g,decide_eq_false (by omega)]
  rw [this]
  simp [vGo]
 | succ m ih =>
  intro i K hi hK
  obtain ⟨K,rfl⟩:∃ q,K=q+1:=⟨K - 1,by omega⟩
  have q1:(i:Int) < (l.length:Int):=by omega
  have q2:(0:Int)≤(i:Int):=by omega
  have q3:(i:Int)≤(l.length:Int):=by omega
  have e:wrap64 ((i:Int)+1)=((i+1:Nat):Int):=wrap_nat_s (i+1) (by omega)
  have i1:=ih (i+1) K (by omega) (by omega)
  rw [sawmilllaw37_valid.l0,if_pos q1,if_pos q2,if_pos q3,Int.toNat_natCast,find_prog _ _ (by rw [List.length_take];omega) (fun s hs=>(hB s (List.mem_of_mem_take hs)).2),Option.bind_some,found_some,e,i1]
  simp only [vGo,stepOk]
  obtain ⟨c,hc⟩:∃ c,schedule_Check.f (rd_T24 l i).f0 (rd_T24 l i).f1 (rd_T24 l i).f2=some c:=⟨_,rfl⟩
  rw [hc,Option.bind_some]
  cases (l.take i).find? (hasNm (rd_T24 l i).f0) with
  | some x=>simp
  | none =>
   by_cases g2:c=0
   ·subst g2
    simp
   ·have:¬ (some c=some (0:Int)):=fun h=>g2 (Option.some.inj h)
    simp [this,g2]
theorem valid_prog (l:List S24) (hB:Bnd2 l) (hl:l.length≤1000) (K:Nat) (hK:1001≤K):sawmilllaw37_valid.f K l=some (vGo l l.length 0 && decide (l.length≤8)):=by
 unfold sawmilllaw37_valid.f
 rw [show (0:Int)=((0:Nat):Int) from rfl,valid_l0 l hB hl l.length 0 K (by omega) (by omega)]
 cases vGo l l.length 0<;>simp
theorem okGo_v (l:List S24) (hB:Bnd2 l) (hl:l.length≤1000):∀ m i,i+m=l.length→okGo l m i=(vGo l m i && (decide (l.length≤8) || decide (m=0))):=by
 intro m
 induction m with
 | zero =>
  intro i hi
  simp [okGo,vGo]
 | succ m ih =>
  intro i hi
  have hlt:=last_iff l hB hl i (by omega)
  have i1:=ih (i+1) (by omega)
  simp only [vGo]
  by_cases g:schedule_last.f (l.take (i+1))=some 0
  ·obtain ⟨h8,hs⟩:=hlt.mp g
   have ho:okGo l (m+1) i=okGo l m (i+1):=by
    simp only [okGo]
    rw [if_pos g]
   rw [ho,i1,hs]
   by_cases hm:m=0
   ·subst hm
    have:l.length≤8:=by omega
    simp [vGo,this]
   ·simp [hm]
  ·have ho:okGo l (m+1) i=false:=by
    simp only [okGo]
    rw [if_neg g]
   rw [ho]
   by_cases hs:stepOk l i=true
   ·have:¬ i < 8:=fun h=>g (hlt.mpr ⟨h,hs⟩)
    have h8:¬ l.length≤8:=by omega
    simp [h8]
   ·have hs':stepOk l i=false:=by simpa using hs
    rw [hs']
    rfl
theorem okGo_valid (l:List S24) (hB:Bnd2 l) (hl:l.length≤1000):okGo l l.length 0=(vGo l l.length 0 && decide (l.length≤8)):=by
 rw [okGo_v l hB hl l.length 0 (by omega)]
 by_cases g:l.length=0
 ·simp [g]
 ·simp [g]
theorem okGo_last (l:List S24):∀ m i,i+m=l.length→okGo l m i=true→∀ j,i≤j→j < l.length→schedule_last.f (l.take (j+1))=some 0:=by
 intro m
 induction m with
 | zero=>intro i hi _ j h1 h2;omega
 | succ m ih =>
  intro i hi h j h1 h2
  simp only [okGo] at h
  by_cases g:schedule_last.f (l.take (i+1))=some 0
  ·rw [if_pos g] at h
   by_cases hj:j=i
   ·rw [hj];exact g
   ·exact ih (i+1) (by omega) h j (by omega) h2
  ·rw [if_neg g] at h;cases h
theorem last_okGo (l:List S24) (hlast:∀ j,j < l.length→schedule_last.f (l.take (j+1))=some 0):∀ m i,i+m=l.length→okGo l m i=true:=by
 intro m
 induction m with
 | zero=>intro i hi;rfl
 | succ m ih =>
  intro i hi
  simp only [okGo]
  rw [if_pos (hlast i (by omega))]
  exact ih (i+1) (by omega)
theorem Bnd_2 {l:List S24} (h:Bnd l):Bnd2 l:=fun s hs=>by
 have:=h s hs
 omega
theorem rd_all {P:S24→Prop} (l:List S24) (h:∀ j,j < l.length→P (rd_T24 l j)):∀ s ∈ l,P s:=by
 intro s hs
 obtain ⟨j,hj,rfl⟩:=List.getElem_of_mem hs
 have:=h j hj
 unfold rd_T24 at this
 rw [Int.toNat_natCast,List.getD_eq_getElem?_getD,List.getElem?_eq_getElem hj] at this
 exact this
theorem dd_len (k:Nat):∀ n,n < 10 ^ (k+1)→(Lib.decDigits n).length≤k+1:=by
 induction k with
 | zero =>
  intro n hn
  rw [Lib.decDigits_one (by simpa using hn)]
  exact Nat.le_refl _
 | succ k ih =>
  intro n hn
  by_cases g:n < 10
  ·rw [Lib.decDigits_one g]
   simp
  ·rw [dd_step g,List.length_append,List.length_singleton]
   have:=ih (n / 10) (by rw [Nat.pow_succ] at hn;omega)
   omega
theorem fm_size5 (n:Int) (h0:0≤n) (h1:n < 100000):(fm n).size≤5:=by
 obtain ⟨m,rfl⟩:∃ m:Nat,n=m:=⟨n.toNat,by omega⟩
 have h:=dd_len 4 m (by omega)
 unfold fm
 rw [Lib.itoa_nonneg]
 exact h
theorem part_size5 (wd:ByteArray) (n:Int) (h1:n < 100000):(pPart wd n).size≤wd.size+5:=by
 unfold pPart
 split
 ·have:=fm_size5 n (by omega) h1
  rw [ByteArray.size_append]
  omega
 ·exact Nat.zero_le _
theorem stages_size5 (l:List S52) (h:l.all stOk=true):(stagesTxt l).size≤40 * l.length:=by
 induction l with
 | nil=>exact Nat.zero_le _
 | cons x xs ih =>
  simp only [List.all_cons,Bool.and_eq_true] at h
  obtain ⟨a1,a2,a3,a4,a5,a6,a7,a8⟩:=stOk_nums x h.1
  have:=ih h.2
  have:=part_size5 (⟨#[32,98,101,108,111,119,32]⟩:ByteArray) x.f0 (by omega)
  have:=part_size5 (⟨#[32,102,111,114,32]⟩:ByteArray) x.f1 (by omega)
  have:=fm_size5 x.f2 (by omega) (by omega)
  have:=fm_size5 x.f3 (by omega) (by omega)
  have e1:(⟨#[32,98,101,108,111,119,32]⟩:ByteArray).size=7:=rfl
  have e2:(⟨#[32,102,111,114,32]⟩:ByteArray).size=5:=rfl
  have e3:(⟨#[32,97,116,32]⟩:ByteArray).size=4:=rfl
  have e4:(⟨#[32,45,32]⟩:ByteArray).size=3:=rfl
  have e5:(⟨#[59]⟩:ByteArray).size=1:=rfl
  simp only [stagesTxt,stageTxt,ByteArray.size_append,List.length_cons]
  omega
theorem sched_size5 (s:S24) (h:Good s):(schedTxt s).size≤600∧1≤(schedTxt s).size:=by
 obtain ⟨g1,g2,g3,g4,g5,g6⟩:=check_ok _ _ _ h
 have:=nm_size _ g1
 have:=stages_size5 _ g6
 have:=fm_size5 s.f1 (by omega) (by omega)
 have e1:(⟨#[115,99,104,101,100,117,108,101,32]⟩:ByteArray).size=9:=rfl
 have e2:(⟨#[32,114,97,109,112,32]⟩:ByteArray).size=6:=rfl
 have e3:(⟨#[58]⟩:ByteArray).size=1:=rfl
 have e4:(⟨#[10]⟩:ByteArray).size=1:=rfl
 unfold schedTxt
 simp only [ByteArray.size_append]
 omega
theorem scheds_size5 (l:List S24) (h:∀ s ∈ l,Good s):(schedsTxt l).size≤600 * l.length∧(l ≠ []→1≤(schedsTxt l).size):=by
 induction l with
 | nil=>exact ⟨Nat.zero_le _,fun h=>absurd rfl h⟩
 | cons s ss ih =>
  obtain ⟨i1,i2⟩:=ih (fun x hx=>h x (List.mem_cons_of_mem _ hx))
  obtain ⟨s1,s2⟩:=sched_size5 s (h s (List.mem_cons_self ..))
  simp only [schedsTxt,ByteArray.size_append,List.length_cons]
  exact ⟨by omega,fun _=>by omega⟩
theorem scan_txt (l:List S24) (h:∀ s ∈ l,Good s) (hl:l.length≤8):(scanB (schedsTxt l)).2.1=0∧(scanB (schedsTxt l)).1.map tk3=allToks l++[endT]:=by
 have hz:=(scheds_size5 l h).1
 unfold scanB
 rw [if_neg (by omega)]
 exact lex_all l h ((schedsTxt l).size+1) _ (by rw [bl_size];omega)
theorem parse_txt (l:List S24) (hlast:∀ j,j < l.length→schedule_last.f (l.take (j+1))=some 0) (h:∀ s ∈ l,Good s) (hl:l.length≤8):parseB (schedsTxt l)=(l,0,0):=by
 obtain ⟨h1,h2⟩:=scan_txt l h hl
 unfold parseB
 rw [if_pos h1]
 have hm:l.length < (scanB (schedsTxt l)).1.length+1:=by
  have e1:=congrArg List.length h2
  have e2:∀ m:List S24,m.length≤(allToks m).length:=by
   intro m
   induction m with
   | nil=>exact Nat.le_refl _
   | cons s ss ih =>
    simp only [allToks,scToks,headToks,List.length_append,List.length_cons]
    omega
  have:=e2 l
  rw [List.length_map,List.length_append,List.length_singleton] at e1
  omega
 have:=list_yes (L:=(scanB (schedsTxt l)).1) l hlast h l.length 0 ((scanB (schedsTxt l)).1.length+1) 0 (by omega) hm (by unfold tkd;rw [List.drop_zero,List.drop_zero];exact h2)
 rw [List.take_zero] at this
 exact this
theorem sameL_l0 (l:List S24) (hs:∀ s ∈ l,s.f2.length≤1000) (hl:l.length≤1000):∀ (m i K:Nat),i+m=l.length→m+1010≤K→sawmillref37_Same.l0 K l l i=some true:=by
 intro m
 induction m with
 | zero =>
  intro i K hi hK
  obtain ⟨K,rfl⟩:∃ q,K=q+1:=⟨K - 1,by omega⟩
  rw [sawmillref37_Same.l0,if_neg (by omega)]
 | succ m ih =>
  intro i K hi hK
  obtain ⟨K,rfl⟩:∃ q,K=q+1:=⟨K - 1,by omega⟩
  have q1:(i:Int) < (l.length:Int):=by omega
  have q2:(0:Int)≤(i:Int):=by omega
  have e:wrap64 ((i:Int)+1)=((i+1:Nat):Int):=wrap_nat_s (i+1) (by omega)
  have:=hs _ (rd_mem (l:=l) (i:Int) q2 q1)
  rw [sawmillref37_Same.l0,if_pos q1,if_pos q2,if_pos q1,same_self _ _ _ (by omega) K (by omega),Option.bind_some,if_pos rfl,e]
  exact ih (i+1) K (by omega) (by omega)
theorem sameL_prog (l:List S24) (hs:∀ s ∈ l,s.f2.length≤1000) (hl:l.length≤100) (K:Nat) (hK:1200≤K):sawmillref37_Same.f K l l=some true:=by
 unfold sawmillref37_Same.f
 rw [if_pos rfl]
 exact sameL_l0 l hs (by omega) l.length 0 K (by omega) (by omega)
theorem back_true (l:List S24):sawmilllaw37_ScheduleBack.f 2000 l=some true:=by
 unfold sawmilllaw37_ScheduleBack.f
 rw [few_f l 2000 (by omega),awake_at 2000 (by omega)]
 simp only [Option.bind_some]
 by_cases g2:(decide (l.length≤20) && l.all smallS)=true
 ·rw [if_pos g2]
  simp only [Bool.and_eq_true,decide_eq_true_eq] at g2
  have hB:Bnd l:=fun s hs=>by
   have:=List.all_eq_true.mp g2.2 s hs
   unfold smallS at this
   simp at this
   omega
  have hj:∀ t b,sawmilllaw37_ScheduleBack.j0 2000 l t b=sawmilllaw37_ScheduleBack.j0 (1999+1) l t b:=fun _ _=>rfl
  have hN:(⟨#[]⟩:ByteArray).toList=([]:List UInt8):=empty_text
  rw [format_prog l hB (by omega),Option.bind_some,valid_prog l (Bnd_2 hB) (by omega) 2000 (by omega),Option.bind_some,okGo_valid l (Bnd_2 hB) (by omega),hj,hj]
  simp only [sawmilllaw37_ScheduleBack.j0]
  by_cases gv:(vGo l l.length 0 && decide (l.length≤8))=true
  ·rw [if_pos gv,if_pos gv]
   by_cases gl:l=[]
   ·subst gl
    have:(schedsTxt ([]:List S24)).toList=([]:List UInt8):=empty_text
    simp only [List.length_nil]
    rw [if_pos (by rfl),if_pos this,awake_at 1999 (by omega)]
    rfl
   ·have hp:=List.length_pos_iff.mpr gl
    have hok:okGo l l.length 0=true:=by rw [okGo_valid l (Bnd_2 hB) (by omega)];exact gv
    obtain ⟨g8,hG⟩:=okGo_good l hB (by omega) l.length 0 (by omega) hok
    have hGs:∀ s ∈ l,Good s:=rd_all l (fun j hj=>hG j (Nat.zero_le _) hj)
    have hlast:=okGo_last l l.length 0 (by omega) hok
    obtain ⟨z1,z2⟩:=scheds_size5 l hGs
    have z3:=z2 gl
    have h8:=g8 hp
    have hne:((l.length:Int) == 0)=false:=by
     refine beq_eq_false_iff_ne.mpr ?_
     omega
    rw [hne,if_neg Bool.false_ne_true,parse_f,parse_txt l (fun j hj=>hlast j (Nat.zero_le _) hj) hGs h8,Option.bind_some,if_pos (by omega),if_pos (by omega),if_pos rfl,if_pos rfl,sameL_prog l (fun s hs=>by have:=(hB s hs).2;omega) (by omega) 1999 (by omega),Option.bind_some,if_pos rfl,awake_at 1999 (by omega)]
    rfl
  ·rw [if_neg gv,if_neg gv,if_pos trivial,if_pos hN,awake_at 1999 (by omega)]
   rfl
 ·rw [if_neg g2]
end Go.Proofs.YtehdmplngmbnnaaDoor.P
namespace Go.Proofs.YtehdmplngmbnnaaDoor.scheduleBack
open Go.ChangeShapes Go.WideShapes Go.ChangeAt Go.WideMaps Go.WideElems Go.RowKit Go.Proofs.YtehdmplngmbnnaaDoor.P Go.Proofs.YtehdmplngmbnnaaDoorW.PrintWords
set_option linter.unusedVariables false
set_option maxRecDepth 100000 in
theorem lifted (os:Os) (started:os.Started) (H:Type) (enc:TypeId × Value→H) :
  ReturnsInHanded {} Tryd.checked os 7 .any (fun w args=>(Rows.scheduleBackSpec.pre enc Tryd.prog Tryd.f7 [] false w args∧laidMetH Tryd.prog laid5 w)∧sizedMet enc Tryd.prog Tryd.f7 (OpenSpec.ofChange Rows.scheduleBackSpec) false w args)
   (Rows.scheduleBackSpec.post enc Tryd.prog Tryd.f7 false true false false):=by
 refine returnsInHanded_of_change_and (C:=Tryd.checked) (X:=fun w _=>laidMetH Tryd.prog laid5 w) (fun _ _ _ hh h=>h.of_heap hh) own started (by kernel_rfl) Tryd.func7
  (ChangeSpec.witness_shaped (enc:=enc) (C:=Tryd.checked) (os:=os) (X:=fun w _=>laidMetH Tryd.prog laid5 w) false (World.doorLaid Tryd.prog 38 os) #[.slice none 0 0] 8 rfl (World.shaped_of_RefB (by kernel_rfl) (by kernel_rfl)) (by kernel_rfl) (by kernel_rfl) (by kernel_rfl) (door_met os _)) ?_
 intro W base args ds gs before hval0 hW _ _ hL _
 have hval:∀ (j:Nat) t v,Tryd.f7.params[j]?=some t→args[j]?=some v→Value.okWide Tryd.prog W .any base t v:=hval0
 have hW':=hW
 obtain ⟨p,q,hA0,hV,rfl,hfz,hnd⟩:=hW
 have hA:DataW.TrodAll enc Tryd.prog W 0 (fun _=>true) true Tryd.f7.params.toList args.toList ds p:=hA0
 rw [Tryd.params7] at hA hval
 obtain ⟨v0,vs0,d0,ds0,p0,q0,hargs,rfl,rfl,h0,r0⟩:=trodAll_cons hA
 obtain ⟨rfl,rfl,rfl⟩:=trodAll_nil r0
 obtain rfl:args=#[v0]:=by cases args;simp_all
 obtain ⟨rfl,rfl⟩:=trodVars_none hV
 have k0:=h0
 have lt0:∀ x ∈ p0,x.block < W.heap.size:=by obtain ⟨m,hm⟩:=k0;exact DataW.trod_lt m _ _ _ hm
 obtain ⟨fu0,hf0⟩:=h0
 obtain ⟨b0,n0,c0,rfl⟩:=okWide_slice Tryd.underlying25 (hval 0 25 v0 rfl rfl)
 obtain ⟨a0,A0,d0',e0,l0,g0⟩:=opens_scheds H enc W _ _ _ hf0
 obtain ⟨rfl,rfl,rfl⟩:b0=A0∧n0=a0.length∧c0=d0':=by simpa [Value.cells] using e0
 refine (sawmilllaw37_ScheduleBack.calls 2000 _ _ a0 true W g0 l0 (back_true a0) ⟨glob_of hL⟩).mono fun e W' ⟨he,bel⟩=>?_
 subst he
 exact ⟨_,rfl,_,_,_,[],_,[],hW',trodAll_mk1 (shut_bool Tryd.underlying4 _),(trodAll_cons_mk (Below.trod laidOut (by kernel_rfl) (of_decide_eq_true (by kernel_rfl)) k0 bel lt0) trodAll_mk0),rfl,bel.frame _,fun h=>by cases h⟩
theorem holds:Rows.ScheduleBackSaid :=
 OpenClaim.holds_of_wide 7 Tryd.f7 rfl rfl rfl rfl rfl rfl rfl ⟨rfl,rfl,rfl,rfl,rfl⟩ rfl rfl rfl rfl rfl (by kernel_rfl) Tryd.func7 (by kernel_rfl)
  (of_decide_eq_true (by kernel_rfl)) (by unfold Func.isWrapper;first|(rw [if_pos (by decide +kernel)];kernel_rfl)|(rw [if_neg (by decide +kernel)];exact ⟨rfl,rfl⟩))
  (fun os started H enc _=>lifted os started H enc)
theorem card_holds:Rows.ScheduleBackCardSaid :=
 Claim7.holds_tied_plain_at .later [] [.data, .data, .data, .data, .data] true (true, "e1d18ca9756c5a5f1ec290e98221cd0e975e4d185654287143def8cff5441a12") false
  holds (fun _ h=>by cases h) (by kernel_rfl) (fun _ h=>by cases h) scheduleBack_row_tie rfl ⟨rfl,rfl⟩ (by kernel_rfl) rfl
  (fun f fn hf hfn=>by
   obtain rfl : f = 7 := Option.some.inj ((show Tryd.prog.funcNamed "sawmill/sawmilllaw37.ScheduleBack" = some 7 by kernel_rfl).symm.trans hf) |>.symm
   obtain rfl:fn=Tryd.f7:=(Option.some.inj (Tryd.func7.symm.trans hfn)).symm
   exact ⟨by kernel_rfl,fun j t ht=>by
    rw [Tryd.params7] at ht
    have hm:t ∈ [25]:=by simpa using Array.mem_of_getElem? ht
    have hall:([25].all fun u=>!Tryd.prog.wantsStandIn u)=true:=by kernel_rfl
    exact (show Tryd.prog.wantsStandIn t=false by simpa using List.all_eq_true.1 hall t hm)⟩)
  (by kernel_rfl)
end Go.Proofs.YtehdmplngmbnnaaDoor.scheduleBack
namespace Go.Proofs.YtehdmplngmbnnaaDoor
theorem scheduleBack_card:Rows.ScheduleBackCardSaid:=scheduleBack.card_holds
end Go.Proofs.YtehdmplngmbnnaaDoor
