/-
  The statement ScheduleParses of this chapter holds for every input, as its tied card says; no conditions.
-/
import Derived.Test.YtehdmplngmbnnaaDoorMb2
import Derived.Test.YtehdmplngmbnnaaDoorMb3
import Derived.Test.YtehdmplngmbnnaaDoorQScheduleParses2
import Derived.Test.YtehdmplngmbnnaaDoorMb4
import Derived.Test.YtehdmplngmbnnaaDoorQScheduleParses1
import Derived.Test.YtehdmplngmbnnaaDoorTie
import Derived.Test.YtehdmplngmbnnaaDoorCards
import Derived.WalkKit
import Derived.ProofKit
import Derived.OpenShut
import Derived.ShutString
import Derived.ChangeOld
import Derived.Below
import Derived.Carry
import Derived.SizedLaws
import Derived.Stop.Joined
import Derived.SevenTiedAt
import Derived.LaidMore
namespace Go.Proofs.YtehdmplngmbnnaaDoor.P
open Go.RowKit Go.Proofs.YtehdmplngmbnnaaDoorW.PrintWords Go.Proofs.YtehdmplngmbnnaaDoorW.PrintLast Go.Proofs.YtehdmplngmbnnaaDoorW.PrintMore
attribute [local go_sem] qbV qbW qcC qcD qbQ qbR qbX qbY
attribute [local go_sem] qbL
set_option linter.unusedVariables false
set_option linter.unusedSimpArgs false
def sawmilllaw37_ScheduleParses.f (k:Nat) (a0:ByteArray):Option (Bool):=if (a0.size:Int) > 10000 then ((sawmilllaw37_awake.f k).bind fun t101=>(some t101)) else ((schedule_Parse.f a0).bind fun bt102=>((sawmillref37_Parse.f a0).bind fun bt107=>((sawmillref37_Same.f k bt102.1 bt107.1).bind fun t112=>(if t112=true then (if bt102.2.1=bt107.2.1 then (if bt102.2.2=bt107.2.2 then ((sawmilllaw37_awake.f k).bind fun t113=>(some t113)) else (some false)) else (some false)) else (some false)))))
set_option maxHeartbeats 8000000 in
set_option maxRecDepth 100000 in
theorem sawmilllaw37_ScheduleParses.calls (k:Nat) (a0:ByteArray) (r:Bool) (w:World) (h:sawmilllaw37_ScheduleParses.f k a0=some r) (HG_:Aside0 (Glob w)) :
  Calls Tryd.prog 6 #[.string a0] w fun e w'=>e=.returned (.bool r)∧Below w.heap.size w w':=by
 have HB:=Aside0.mk (Below.refl w.heap.size w)
 have H:(if (a0.size:Int) > 10000 then ((sawmilllaw37_awake.f k).bind fun t101=>(some t101)) else ((schedule_Parse.f a0).bind fun bt102=>((sawmillref37_Parse.f a0).bind fun bt107=>((sawmillref37_Same.f k bt102.1 bt107.1).bind fun t112=>(if t112=true then (if bt102.2.1=bt107.2.1 then (if bt102.2.2=bt107.2.2 then ((sawmilllaw37_awake.f k).bind fun t113=>(some t113)) else (some false)) else (some false)) else (some false))))))=some r:=h
 clear h
 by_cases c2:(a0.size:Int) > 10000
 ·rw [if_pos c2] at H
  have c2b0:decide (10000 < (a0.size:Int))=true:=decide_eq_true c2
  have c2b1:decide (10000 < a0.size)=true:=decide_eq_true (by omega)
  clear c2
  replace H:=Option.bind_eq_some_iff.mp H
  obtain ⟨t101,A30,H⟩:=H
  replace H:(some t101)=some r:=H
  have A3:=Aside0.mk A30
  clear A30
  obtain rfl:=Option.some.inj H
  go_enter Tryd.func6,Tryd.ntmps6
  go_wp2_with (first|((with_reducible refine qaO (f:=13) rfl ?_);refine qbG (some 12) rfl rfl Tryd.func13 (by kernel_rfl) rfl #[] rfl (by (try simp only [List.map_toArray,List.map_cons,List.map_nil]);first|done|rfl|(simp only [List.length_drop,List.length_take];rfl)) ?_;(with_reducible refine (sawmilllaw37_awake.calls k  t101 _ A3.out (glob_at HG_ (by repeat (first|(with_reducible first|exact HB.out|apply qaB|apply qaA|apply qaC|refine qaF ?_ (Aside0.out (by assumption)))|exact HB.out)))).mono ?_);rintro e w4 ⟨rfl,hb⟩;refine ⟨_,rfl,?_⟩;have n0_:=Aside0.mk (qaN (by repeat (first|(with_reducible first|exact HB.out|apply qaB|apply qaA|apply qaC)|exact HB.out)) hb);clear HB;have HB:=n0_;clear n0_;(try clear hb);(try clear hb2);(try clear hk);(try clear hi)))
  go_ret
  exact ⟨by first|rfl|(simp [qaL,qaM]<;>rfl)|(simp [*,qaL,qaM]<;>rfl),by repeat (first|(with_reducible first|exact HB.out|apply qaB|apply qaA|apply qaC)|exact HB.out)⟩
 ·rw [if_neg c2] at H
  have c2b0:decide (10000 < (a0.size:Int))=false:=decide_eq_false c2
  have c2b1:decide (10000 < a0.size)=false:=decide_eq_false (by omega)
  clear c2
  replace H:=Option.bind_eq_some_iff.mp H
  obtain ⟨⟨t102,t103,t104⟩,A50,H⟩:=H
  replace H:((sawmillref37_Parse.f a0).bind fun bt107=>((sawmillref37_Same.f k t102 bt107.1).bind fun t112=>(if t112=true then (if t103=bt107.2.1 then (if t104=bt107.2.2 then ((sawmilllaw37_awake.f k).bind fun t113=>(some t113)) else (some false)) else (some false)) else (some false))))=some r:=H
  have A5:=Aside0.mk A50
  clear A50
  replace H:=Option.bind_eq_some_iff.mp H
  obtain ⟨⟨t107,t108,t109⟩,A60,H⟩:=H
  replace H:((sawmillref37_Same.f k t102 t107).bind fun t112=>(if t112=true then (if t103=t108 then (if t104=t109 then ((sawmilllaw37_awake.f k).bind fun t113=>(some t113)) else (some false)) else (some false)) else (some false)))=some r:=H
  have A6:=Aside0.mk A60
  clear A60
  replace H:=Option.bind_eq_some_iff.mp H
  obtain ⟨t112,A70,H⟩:=H
  replace H:(if t112=true then (if t103=t108 then (if t104=t109 then ((sawmilllaw37_awake.f k).bind fun t113=>(some t113)) else (some false)) else (some false)) else (some false))=some r:=H
  have A7:=Aside0.mk A70
  clear A70
  by_cases c8:t112=true
  ·subst c8
   have H1:(if t103=t108 then (if t104=t109 then ((sawmilllaw37_awake.f k).bind fun t113=>(some t113)) else (some false)) else (some false))=some r:=by rw [if_pos rfl] at H;exact H
   clear H
   have H:=H1
   clear H1
   by_cases c9:t103=t108
   ·rw [if_pos c9] at H
    have c9b0:(t103 == t108)=true:=beq_iff_eq.mpr c9
    have c9b1:(t103 != t108)=false:=bne_eq_false_iff_eq.mpr c9
    clear c9
    by_cases c10:t104=t109
    ·rw [if_pos c10] at H
     have c10b0:(t104 == t109)=true:=beq_iff_eq.mpr c10
     have c10b1:(t104 != t109)=false:=bne_eq_false_iff_eq.mpr c10
     clear c10
     replace H:=Option.bind_eq_some_iff.mp H
     obtain ⟨t113,A110,H⟩:=H
     replace H:(some t113)=some r:=H
     have A11:=Aside0.mk A110
     clear A110
     obtain rfl:=Option.some.inj H
     go_enter Tryd.func6,Tryd.ntmps6
     go_wp2_with (first|((with_reducible refine qaO (f:=25) rfl ?_);refine qbG (some 15) rfl rfl Tryd.func25 (by kernel_rfl) rfl #[.string a0] rfl (by (try simp only [List.map_toArray,List.map_cons,List.map_nil]);first|done|rfl|(simp only [List.length_drop,List.length_take];rfl)) ?_;(with_reducible refine (schedule_Parse.calls a0 t102 t103 t104 _ A5.out (glob_at HG_ (by repeat (first|(with_reducible first|exact HB.out|apply qaB|apply qaA|apply qaC|refine qaF ?_ (Aside0.out (by assumption)))|exact HB.out)))).mono ?_);rintro e w12 ⟨v105,rfl,ho0,hb⟩;refine ⟨_,rfl,?_⟩;have n0_:=Aside0.mk (Kd.S_lower ho0 (qaK (by repeat (first|(with_reducible first|exact HB.out|apply qaB|apply qaA|apply qaC)|exact HB.out))));have n1_:=Aside0.mk (qaN (by repeat (first|(with_reducible first|exact HB.out|apply qaB|apply qaA|apply qaC)|exact HB.out)) hb);clear HB;have HO106:=n0_;have HB:=n1_;clear n0_ n1_;(try clear hb);(try clear hb2);(try clear hk);(try clear hi);(try clear ho0))|((with_reducible refine qaO (f:=26) rfl ?_);refine qbG (some 21) rfl rfl Tryd.func26 (by kernel_rfl) rfl #[.string a0] rfl (by (try simp only [List.map_toArray,List.map_cons,List.map_nil]);first|done|rfl|(simp only [List.length_drop,List.length_take];rfl)) ?_;(with_reducible refine (sawmillref37_Parse.calls a0 t107 t108 t109 _ A6.out).mono ?_);rintro e w13 ⟨v110,rfl,ho0,hb⟩;refine ⟨_,rfl,?_⟩;have n0_:=Aside0.mk (Kd.S_elder' (by (with_reducible repeat (first|apply Kd.S_alloc|apply Kd.S_drewN|apply Kd.S_drew));exact HO106.out) (Kd.S_base ho0) hb);have n1_:=Aside0.mk (Kd.S_lower (Kd.S_new' ho0 (Kd.S_lt (by (with_reducible repeat (first|apply Kd.S_alloc|apply Kd.S_drewN|apply Kd.S_drew));exact HO106.out))) (qaK (by repeat (first|(with_reducible first|exact HB.out|apply qaB|apply qaA|apply qaC)|exact HB.out))));have n2_:=Aside0.mk (qaN (by repeat (first|(with_reducible first|exact HB.out|apply qaB|apply qaA|apply qaC)|exact HB.out)) hb);clear HO106;clear HB;have HO106:=n0_;have HO111:=n1_;have HB:=n2_;clear n0_ n1_ n2_;(try clear hb);(try clear hb2);(try clear hk);(try clear hi);(try clear ho0);obtain ⟨Ao14,co14,eo14⟩:=Kd.S_slice HO106.out;subst eo14;obtain ⟨Ao15,co15,eo15⟩:=Kd.S_slice HO111.out;subst eo15)|((with_reducible refine qaO (f:=27) rfl ?_);refine qbG (some 27) rfl rfl Tryd.func27 (by kernel_rfl) rfl #[.slice Ao14 t102.length co14,.slice Ao15 t107.length co15] rfl (by (try simp only [List.map_toArray,List.map_cons,List.map_nil]);first|done|rfl|(simp only [List.length_drop,List.length_take];rfl)) ?_;(with_reducible refine (sawmillref37_Same.calls k _ _ t102 _ _ t107 true _ ?side1 ?side2 ?side3 ?side4 A7.out).mono ?_);(case side1=>repeat (first|exact (Kd.S_reads' HO106.out).2.2|(with_reducible refine Kd.C_alloc ?_ _)|(with_reducible refine Kd.C_drewN ?_ _)|(with_reducible refine Kd.C_drew ?_)));(case side2=>exact (Kd.S_reads' HO106.out).2.1);(case side3=>repeat (first|exact (Kd.S_reads' HO111.out).2.2|(with_reducible refine Kd.C_alloc ?_ _)|(with_reducible refine Kd.C_drewN ?_ _)|(with_reducible refine Kd.C_drew ?_)));(case side4=>exact (Kd.S_reads' HO111.out).2.1);rintro e w16 ⟨rfl,hb⟩;refine ⟨_,rfl,?_⟩;have n0_:=Aside0.mk (Kd.S_below (by (with_reducible repeat (first|apply Kd.S_alloc|apply Kd.S_drewN|apply Kd.S_drew));exact HO106.out) hb);have n1_:=Aside0.mk (Kd.S_below (by (with_reducible repeat (first|apply Kd.S_alloc|apply Kd.S_drewN|apply Kd.S_drew));exact HO111.out) hb);have n2_:=Aside0.mk (qaN (by repeat (first|(with_reducible first|exact HB.out|apply qaB|apply qaA|apply qaC)|exact HB.out)) hb);clear HO106;clear HO111;clear HB;have HO106:=n0_;have HO111:=n1_;have HB:=n2_;clear n0_ n1_ n2_;(try clear hb);(try clear hb2);(try clear hk);(try clear hi))|(go_at_call 13;(with_reducible refine (sawmilllaw37_awake.calls k  t113 _ A11.out (glob_at HG_ (by repeat (first|(with_reducible first|exact HB.out|apply qaB|apply qaA|apply qaC|refine qaF ?_ (Aside0.out (by assumption)))|exact HB.out)))).mono ?_);rintro e w17 ⟨rfl,hb⟩;have n0_:=Aside0.mk (Kd.S_below (by (with_reducible repeat (first|apply Kd.S_alloc|apply Kd.S_drewN|apply Kd.S_drew));exact HO106.out) hb);have n1_:=Aside0.mk (Kd.S_below (by (with_reducible repeat (first|apply Kd.S_alloc|apply Kd.S_drewN|apply Kd.S_drew));exact HO111.out) hb);have n2_:=Aside0.mk (qaN (by repeat (first|(with_reducible first|exact HB.out|apply qaB|apply qaA|apply qaC)|exact HB.out)) hb);clear HO106;clear HO111;clear HB;have HO106:=n0_;have HO111:=n1_;have HB:=n2_;clear n0_ n1_ n2_;(try clear hb);(try clear hb2);(try clear hk);(try clear hi)))
     go_ret
     exact ⟨by first|rfl|(simp [qaL,qaM]<;>rfl)|(simp [*,qaL,qaM]<;>rfl),by repeat (first|(with_reducible first|exact HB.out|apply qaB|apply qaA|apply qaC)|exact HB.out)⟩
    ·rw [if_neg c10] at H
     have c10b0:(t104 == t109)=false:=beq_eq_false_iff_ne.mpr c10
     have c10b1:(t104 != t109)=true:=bne_iff_ne.mpr c10
     obtain rfl:=Option.some.inj H
     go_enter Tryd.func6,Tryd.ntmps6
     go_wp2_with (first|((with_reducible refine qaO (f:=25) rfl ?_);refine qbG (some 15) rfl rfl Tryd.func25 (by kernel_rfl) rfl #[.string a0] rfl (by (try simp only [List.map_toArray,List.map_cons,List.map_nil]);first|done|rfl|(simp only [List.length_drop,List.length_take];rfl)) ?_;(with_reducible refine (schedule_Parse.calls a0 t102 t103 t104 _ A5.out (glob_at HG_ (by repeat (first|(with_reducible first|exact HB.out|apply qaB|apply qaA|apply qaC|refine qaF ?_ (Aside0.out (by assumption)))|exact HB.out)))).mono ?_);rintro e w18 ⟨v105,rfl,ho0,hb⟩;refine ⟨_,rfl,?_⟩;have n0_:=Aside0.mk (Kd.S_lower ho0 (qaK (by repeat (first|(with_reducible first|exact HB.out|apply qaB|apply qaA|apply qaC)|exact HB.out))));have n1_:=Aside0.mk (qaN (by repeat (first|(with_reducible first|exact HB.out|apply qaB|apply qaA|apply qaC)|exact HB.out)) hb);clear HB;have HO106:=n0_;have HB:=n1_;clear n0_ n1_;(try clear hb);(try clear hb2);(try clear hk);(try clear hi);(try clear ho0))|((with_reducible refine qaO (f:=26) rfl ?_);refine qbG (some 21) rfl rfl Tryd.func26 (by kernel_rfl) rfl #[.string a0] rfl (by (try simp only [List.map_toArray,List.map_cons,List.map_nil]);first|done|rfl|(simp only [List.length_drop,List.length_take];rfl)) ?_;(with_reducible refine (sawmillref37_Parse.calls a0 t107 t108 t109 _ A6.out).mono ?_);rintro e w19 ⟨v110,rfl,ho0,hb⟩;refine ⟨_,rfl,?_⟩;have n0_:=Aside0.mk (Kd.S_elder' (by (with_reducible repeat (first|apply Kd.S_alloc|apply Kd.S_drewN|apply Kd.S_drew));exact HO106.out) (Kd.S_base ho0) hb);have n1_:=Aside0.mk (Kd.S_lower (Kd.S_new' ho0 (Kd.S_lt (by (with_reducible repeat (first|apply Kd.S_alloc|apply Kd.S_drewN|apply Kd.S_drew));exact HO106.out))) (qaK (by repeat (first|(with_reducible first|exact HB.out|apply qaB|apply qaA|apply qaC)|exact HB.out))));have n2_:=Aside0.mk (qaN (by repeat (first|(with_reducible first|exact HB.out|apply qaB|apply qaA|apply qaC)|exact HB.out)) hb);clear HO106;clear HB;have HO106:=n0_;have HO111:=n1_;have HB:=n2_;clear n0_ n1_ n2_;(try clear hb);(try clear hb2);(try clear hk);(try clear hi);(try clear ho0);obtain ⟨Ao20,co20,eo20⟩:=Kd.S_slice HO106.out;subst eo20;obtain ⟨Ao21,co21,eo21⟩:=Kd.S_slice HO111.out;subst eo21)|((with_reducible refine qaO (f:=27) rfl ?_);refine qbG (some 27) rfl rfl Tryd.func27 (by kernel_rfl) rfl #[.slice Ao20 t102.length co20,.slice Ao21 t107.length co21] rfl (by (try simp only [List.map_toArray,List.map_cons,List.map_nil]);first|done|rfl|(simp only [List.length_drop,List.length_take];rfl)) ?_;(with_reducible refine (sawmillref37_Same.calls k _ _ t102 _ _ t107 true _ ?side1 ?side2 ?side3 ?side4 A7.out).mono ?_);(case side1=>repeat (first|exact (Kd.S_reads' HO106.out).2.2|(with_reducible refine Kd.C_alloc ?_ _)|(with_reducible refine Kd.C_drewN ?_ _)|(with_reducible refine Kd.C_drew ?_)));(case side2=>exact (Kd.S_reads' HO106.out).2.1);(case side3=>repeat (first|exact (Kd.S_reads' HO111.out).2.2|(with_reducible refine Kd.C_alloc ?_ _)|(with_reducible refine Kd.C_drewN ?_ _)|(with_reducible refine Kd.C_drew ?_)));(case side4=>exact (Kd.S_reads' HO111.out).2.1);rintro e w22 ⟨rfl,hb⟩;refine ⟨_,rfl,?_⟩;have n0_:=Aside0.mk (Kd.S_below (by (with_reducible repeat (first|apply Kd.S_alloc|apply Kd.S_drewN|apply Kd.S_drew));exact HO106.out) hb);have n1_:=Aside0.mk (Kd.S_below (by (with_reducible repeat (first|apply Kd.S_alloc|apply Kd.S_drewN|apply Kd.S_drew));exact HO111.out) hb);have n2_:=Aside0.mk (qaN (by repeat (first|(with_reducible first|exact HB.out|apply qaB|apply qaA|apply qaC)|exact HB.out)) hb);clear HO106;clear HO111;clear HB;have HO106:=n0_;have HO111:=n1_;have HB:=n2_;clear n0_ n1_ n2_;(try clear hb);(try clear hb2);(try clear hk);(try clear hi)))
     go_ret
     exact ⟨by first|rfl|(simp [qaL,qaM]<;>rfl)|(simp [*,qaL,qaM]<;>rfl),by repeat (first|(with_reducible first|exact HB.out|apply qaB|apply qaA|apply qaC)|exact HB.out)⟩
   ·rw [if_neg c9] at H
    have c9b0:(t103 == t108)=false:=beq_eq_false_iff_ne.mpr c9
    have c9b1:(t103 != t108)=true:=bne_iff_ne.mpr c9
    obtain rfl:=Option.some.inj H
    go_enter Tryd.func6,Tryd.ntmps6
    go_wp2_with (first|((with_reducible refine qaO (f:=25) rfl ?_);refine qbG (some 15) rfl rfl Tryd.func25 (by kernel_rfl) rfl #[.string a0] rfl (by (try simp only [List.map_toArray,List.map_cons,List.map_nil]);first|done|rfl|(simp only [List.length_drop,List.length_take];rfl)) ?_;(with_reducible refine (schedule_Parse.calls a0 t102 t103 t104 _ A5.out (glob_at HG_ (by repeat (first|(with_reducible first|exact HB.out|apply qaB|apply qaA|apply qaC|refine qaF ?_ (Aside0.out (by assumption)))|exact HB.out)))).mono ?_);rintro e w23 ⟨v105,rfl,ho0,hb⟩;refine ⟨_,rfl,?_⟩;have n0_:=Aside0.mk (Kd.S_lower ho0 (qaK (by repeat (first|(with_reducible first|exact HB.out|apply qaB|apply qaA|apply qaC)|exact HB.out))));have n1_:=Aside0.mk (qaN (by repeat (first|(with_reducible first|exact HB.out|apply qaB|apply qaA|apply qaC)|exact HB.out)) hb);clear HB;have HO106:=n0_;have HB:=n1_;clear n0_ n1_;(try clear hb);(try clear hb2);(try clear hk);(try clear hi);(try clear ho0))|((with_reducible refine qaO (f:=26) rfl ?_);refine qbG (some 21) rfl rfl Tryd.func26 (by kernel_rfl) rfl #[.string a0] rfl (by (try simp only [List.map_toArray,List.map_cons,List.map_nil]);first|done|rfl|(simp only [List.length_drop,List.length_take];rfl)) ?_;(with_reducible refine (sawmillref37_Parse.calls a0 t107 t108 t109 _ A6.out).mono ?_);rintro e w24 ⟨v110,rfl,ho0,hb⟩;refine ⟨_,rfl,?_⟩;have n0_:=Aside0.mk (Kd.S_elder' (by (with_reducible repeat (first|apply Kd.S_alloc|apply Kd.S_drewN|apply Kd.S_drew));exact HO106.out) (Kd.S_base ho0) hb);have n1_:=Aside0.mk (Kd.S_lower (Kd.S_new' ho0 (Kd.S_lt (by (with_reducible repeat (first|apply Kd.S_alloc|apply Kd.S_drewN|apply Kd.S_drew));exact HO106.out))) (qaK (by repeat (first|(with_reducible first|exact HB.out|apply qaB|apply qaA|apply qaC)|exact HB.out))));have n2_:=Aside0.mk (qaN (by repeat (first|(with_reducible first|exact HB.out|apply qaB|apply qaA|apply qaC)|exact HB.out)) hb);clear HO106;clear HB;have HO106:=n0_;have HO111:=n1_;have HB:=n2_;clear n0_ n1_ n2_;(try clear hb);(try clear hb2);(try clear hk);(try clear hi);(try clear ho0);obtain ⟨Ao25,co25,eo25⟩:=Kd.S_slice HO106.out;subst eo25;obtain ⟨Ao26,co26,eo26⟩:=Kd.S_slice HO111.out;subst eo26)|((with_reducible refine qaO (f:=27) rfl ?_);refine qbG (some 27) rfl rfl Tryd.func27 (by kernel_rfl) rfl #[.slice Ao25 t102.length co25,.slice Ao26 t107.length co26] rfl (by (try simp only [List.map_toArray,List.map_cons,List.map_nil]);first|done|rfl|(simp only [List.length_drop,List.length_take];rfl)) ?_;(with_reducible refine (sawmillref37_Same.calls k _ _ t102 _ _ t107 true _ ?side1 ?side2 ?side3 ?side4 A7.out).mono ?_);(case side1=>repeat (first|exact (Kd.S_reads' HO106.out).2.2|(with_reducible refine Kd.C_alloc ?_ _)|(with_reducible refine Kd.C_drewN ?_ _)|(with_reducible refine Kd.C_drew ?_)));(case side2=>exact (Kd.S_reads' HO106.out).2.1);(case side3=>repeat (first|exact (Kd.S_reads' HO111.out).2.2|(with_reducible refine Kd.C_alloc ?_ _)|(with_reducible refine Kd.C_drewN ?_ _)|(with_reducible refine Kd.C_drew ?_)));(case side4=>exact (Kd.S_reads' HO111.out).2.1);rintro e w27 ⟨rfl,hb⟩;refine ⟨_,rfl,?_⟩;have n0_:=Aside0.mk (Kd.S_below (by (with_reducible repeat (first|apply Kd.S_alloc|apply Kd.S_drewN|apply Kd.S_drew));exact HO106.out) hb);have n1_:=Aside0.mk (Kd.S_below (by (with_reducible repeat (first|apply Kd.S_alloc|apply Kd.S_drewN|apply Kd.S_drew));exact HO111.out) hb);have n2_:=Aside0.mk (qaN (by repeat (first|(with_reducible first|exact HB.out|apply qaB|apply qaA|apply qaC)|exact HB.out)) hb);clear HO106;clear HO111;clear HB;have HO106:=n0_;have HO111:=n1_;have HB:=n2_;clear n0_ n1_ n2_;(try clear hb);(try clear hb2);(try clear hk);(try clear hi)))
    go_ret
    exact ⟨by first|rfl|(simp [qaL,qaM]<;>rfl)|(simp [*,qaL,qaM]<;>rfl),by repeat (first|(with_reducible first|exact HB.out|apply qaB|apply qaA|apply qaC)|exact HB.out)⟩
  ·replace c8:=Bool.eq_false_iff.mpr c8
   subst c8
   have H1:(some false)=some r:=by rw [if_neg (show ¬ (false=true) by decide)] at H;exact H
   clear H
   have H:=H1
   clear H1
   obtain rfl:=Option.some.inj H
   go_enter Tryd.func6,Tryd.ntmps6
   go_wp2_with (first|((with_reducible refine qaO (f:=25) rfl ?_);refine qbG (some 15) rfl rfl Tryd.func25 (by kernel_rfl) rfl #[.string a0] rfl (by (try simp only [List.map_toArray,List.map_cons,List.map_nil]);first|done|rfl|(simp only [List.length_drop,List.length_take];rfl)) ?_;(with_reducible refine (schedule_Parse.calls a0 t102 t103 t104 _ A5.out (glob_at HG_ (by repeat (first|(with_reducible first|exact HB.out|apply qaB|apply qaA|apply qaC|refine qaF ?_ (Aside0.out (by assumption)))|exact HB.out)))).mono ?_);rintro e w28 ⟨v105,rfl,ho0,hb⟩;refine ⟨_,rfl,?_⟩;have n0_:=Aside0.mk (Kd.S_lower ho0 (qaK (by repeat (first|(with_reducible first|exact HB.out|apply qaB|apply qaA|apply qaC)|exact HB.out))));have n1_:=Aside0.mk (qaN (by repeat (first|(with_reducible first|exact HB.out|apply qaB|apply qaA|apply qaC)|exact HB.out)) hb);clear HB;have HO106:=n0_;have HB:=n1_;clear n0_ n1_;(try clear hb);(try clear hb2);(try clear hk);(try clear hi);(try clear ho0))|((with_reducible refine qaO (f:=26) rfl ?_);refine qbG (some 21) rfl rfl Tryd.func26 (by kernel_rfl) rfl #[.string a0] rfl (by (try simp only [List.map_toArray,List.map_cons,List.map_nil]);first|done|rfl|(simp only [List.length_drop,List.length_take];rfl)) ?_;(with_reducible refine (sawmillref37_Parse.calls a0 t107 t108 t109 _ A6.out).mono ?_);rintro e w29 ⟨v110,rfl,ho0,hb⟩;refine ⟨_,rfl,?_⟩;have n0_:=Aside0.mk (Kd.S_elder' (by (with_reducible repeat (first|apply Kd.S_alloc|apply Kd.S_drewN|apply Kd.S_drew));exact HO106.out) (Kd.S_base ho0) hb);have n1_:=Aside0.mk (Kd.S_lower (Kd.S_new' ho0 (Kd.S_lt (by (with_reducible repeat (first|apply Kd.S_alloc|apply Kd.S_drewN|apply Kd.S_drew));exact HO106.out))) (qaK (by repeat (first|(with_reducible first|exact HB.out|apply qaB|apply qaA|apply qaC)|exact HB.out))));have n2_:=Aside0.mk (qaN (by repeat (first|(with_reducible first|exact HB.out|apply qaB|apply qaA|apply qaC)|exact HB.out)) hb);clear HO106;clear HB;have HO106:=n0_;have HO111:=n1_;have HB:=n2_;clear n0_ n1_ n2_;(try clear hb);(try clear hb2);(try clear hk);(try clear hi);(try clear ho0);obtain ⟨Ao30,co30,eo30⟩:=Kd.S_slice HO106.out;subst eo30;obtain ⟨Ao31,co31,eo31⟩:=Kd.S_slice HO111.out;subst eo31)|((with_reducible refine qaO (f:=27) rfl ?_);refine qbG (some 27) rfl rfl Tryd.func27 (by kernel_rfl) rfl #[.slice Ao30 t102.length co30,.slice Ao31 t107.length co31] rfl (by (try simp only [List.map_toArray,List.map_cons,List.map_nil]);first|done|rfl|(simp only [List.length_drop,List.length_take];rfl)) ?_;(with_reducible refine (sawmillref37_Same.calls k _ _ t102 _ _ t107 false _ ?side1 ?side2 ?side3 ?side4 A7.out).mono ?_);(case side1=>repeat (first|exact (Kd.S_reads' HO106.out).2.2|(with_reducible refine Kd.C_alloc ?_ _)|(with_reducible refine Kd.C_drewN ?_ _)|(with_reducible refine Kd.C_drew ?_)));(case side2=>exact (Kd.S_reads' HO106.out).2.1);(case side3=>repeat (first|exact (Kd.S_reads' HO111.out).2.2|(with_reducible refine Kd.C_alloc ?_ _)|(with_reducible refine Kd.C_drewN ?_ _)|(with_reducible refine Kd.C_drew ?_)));(case side4=>exact (Kd.S_reads' HO111.out).2.1);rintro e w32 ⟨rfl,hb⟩;refine ⟨_,rfl,?_⟩;have n0_:=Aside0.mk (Kd.S_below (by (with_reducible repeat (first|apply Kd.S_alloc|apply Kd.S_drewN|apply Kd.S_drew));exact HO106.out) hb);have n1_:=Aside0.mk (Kd.S_below (by (with_reducible repeat (first|apply Kd.S_alloc|apply Kd.S_drewN|apply Kd.S_drew));exact HO111.out) hb);have n2_:=Aside0.mk (qaN (by repeat (first|(with_reducible first|exact HB.out|apply qaB|apply qaA|apply qaC)|exact HB.out)) hb);clear HO106;clear HO111;clear HB;have HO106:=n0_;have HO111:=n1_;have HB:=n2_;clear n0_ n1_ n2_;(try clear hb);(try clear hb2);(try clear hk);(try clear hi)))
   go_ret
   exact ⟨by first|rfl|(simp [qaL,qaM]<;>rfl)|(simp [*,qaL,qaM]<;>rfl),by repeat (first|(with_reducible first|exact HB.out|apply qaB|apply qaA|apply qaC)|exact HB.out)⟩
end Go.Proofs.YtehdmplngmbnnaaDoor.P
namespace Go.Proofs.YtehdmplngmbnnaaDoor.P
open Go.RowKit Go.Proofs.YtehdmplngmbnnaaDoorW.PrintWords
set_option linter.unusedVariables false
set_option linter.unusedSimpArgs false
theorem r_is (L:List Lx) (a:Nat) (ha:a < L.length) (k:Int) (tx:ByteArray) (b:Bool) (hb:b=false) (ht:bl tx ≠ []):sawmillref37_is.f L a b k tx=some (aIs L a b k tx):=by
 subst hb
 have q1:(a:Int) < (L.length:Int):=by omega
 have q2:(0:Int)≤(a:Int):=by omega
 unfold sawmillref37_is.f aIs
 rw [if_pos q2,if_pos q1,if_neg Bool.false_ne_true]
 show (if (gL L a).f0=k then _ else _)=_
 by_cases g:(gL L a).f0=k
 ·rw [if_pos g,if_pos g,if_neg (text_ne tx ht)]
  rfl
 ·rw [if_neg g,if_neg g]
theorem r_take (L:List Lx) (hL:L.length≤10000) (a:Nat) (ha:a < L.length) (b:Bool) (k:Int) (tx:ByteArray) (ht:bl tx ≠ []):sawmillref37_take.f L a b k tx=some (L,((qbH L a b k tx).1:Int),(qbH L a b k tx).2):=by
 have e:wrap64 ((a:Int)+1)=((a+1:Nat):Int):=qcH (a+1) (by omega)
 unfold sawmillref37_take.f qbH
 cases b
 ·rw [if_neg Bool.false_ne_true,r_is L a ha k tx false rfl ht,Option.bind_some,e]
  by_cases g:aIs L a false k tx=true
  ·rw [if_pos g,if_pos g]
  ·rw [if_neg g,if_neg g]
 ·rw [if_pos rfl,if_neg (by unfold aIs;simp)]
theorem r_num (L:List Lx) (hL:L.length≤10000) (a:Nat) (ha:a < L.length) (b:Bool):sawmillref37_number.f L a b=some (L,((aNum L a b).1:Int),(aNum L a b).2.1,(aNum L a b).2.2):=by
 have e:wrap64 ((a:Int)+1)=((a+1:Nat):Int):=qcH (a+1) (by omega)
 have e2:wrap64 (((a+1:Nat):Int) - 1)=(a:Int):=by
  rw [show ((a+1:Nat):Int) - 1=(a:Int) by omega]
  exact qcH a (by omega)
 have q1:(a:Int) < (L.length:Int):=by omega
 have q2:(0:Int)≤(a:Int):=by omega
 unfold sawmillref37_number.f aNum qbH aLex
 cases b
 ·rw [if_neg Bool.false_ne_true,if_pos q2,if_pos q1,e,e2,if_pos q2,if_pos q1]
  show (if (gL L a).f0=2 then _ else _)=_
  have hi:aIs L a false 2 ⟨#[]⟩=decide ((gL L a).f0=2):=by
   unfold aIs
   rw [if_neg Bool.false_ne_true]
   by_cases g:(gL L a).f0=2
   ·rw [if_pos g,if_pos empty_text,decide_eq_true g]
   ·rw [if_neg g,decide_eq_false g]
  rw [hi]
  by_cases g:(gL L a).f0=2
  ·rw [if_pos g,decide_eq_true g]
   rfl
  ·rw [if_neg g,decide_eq_false g]
   rfl
 ·have hi:aIs L a true 2 ⟨#[]⟩=false:=by unfold aIs;simp
  rw [if_pos rfl,hi]
  rfl
theorem r_part (L:List Lx) (hS:Sound L) (a:Nat) (ha:a < L.length) (b:Bool) (w:ByteArray) (hw:bl w ≠ []) (k:Nat) (hk:1≤k):sawmillref37_part.f k L a b w=some (L,((aPart L a b w).1:Int),(aPart L a b w).2.1,(aPart L a b w).2.2):=by
 have hL:=hS.len
 obtain ⟨k,rfl⟩:∃ q,k=q+1:=⟨k - 1,by omega⟩
 have e:wrap64 ((a:Int)+1)=((a+1:Nat):Int):=qcH (a+1) (by omega)
 unfold sawmillref37_part.f aPart
 cases b
 ·rw [if_neg Bool.false_ne_true,r_is L a ha 1 w false rfl hw,Option.bind_some]
  simp only [sawmillref37_part.j0]
  by_cases g:aIs L a false 1 w=true
  ·have hn:=hS.next a ha false 1 (by decide) w g
   have q1:((a+1:Nat):Int) < (L.length:Int):=by omega
   have q2:(0:Int)≤((a+1:Nat):Int):=by omega
   rw [g,if_neg (by decide),if_pos rfl,e,if_pos q2,if_pos q1,r_num L hL (a+1) hn false]
   show (if (gL L (a+1)).f0=2 then (if (gL L (a+1)).f2=0 then _ else _) else _)=_
   by_cases g2:(gL L (a+1)).f0=2
   ·rw [if_pos g2]
    by_cases g3:(gL L (a+1)).f2=0
    ·rw [if_pos g3,if_pos ⟨g2,g3⟩]
    ·rw [if_neg g3,if_neg (fun h=>g3 h.2)]
     rfl
   ·rw [if_neg g2,if_neg (fun h=>g2 h.1)]
    rfl
  ·have g':aIs L a false 1 w=false:=by simpa using g
   rw [g',if_pos (by decide),if_neg Bool.false_ne_true]
 ·have hi:aIs L a true 1 w=false:=by unfold aIs;simp
  simp only [sawmillref37_part.j0]
  rw [if_pos trivial,if_pos trivial,hi,if_neg Bool.false_ne_true]
theorem r_stage (L:List Lx) (hS:Sound L) (a:Nat) (ha:a < L.length) (b:Bool) (k:Nat) (hk:3≤k):sawmillref37_stage.f k L a b=some (L,((qcA L a b).a:Int),(qcA L a b).b,(qcA L a b).x.f0,(qcA L a b).x.f1,(qcA L a b).x.f2,(qcA L a b).x.f3):=by
 have hL:=hS.len
 obtain ⟨k,rfl⟩:∃ q,k=q+2:=⟨k - 2,by omega⟩
 have z1:=r_part L hS a ha b wBelow (by decide) (k+2) (by omega)
 obtain ⟨x1,-,-,-⟩:=hS.part a ha b wBelow
 have z2:=r_part L hS (aPart L a b wBelow).1 x1 (aPart L a b wBelow).2.1 wFor (by decide) (k+2) (by omega)
 obtain ⟨x2,-,-,-⟩:=hS.part (aPart L a b wBelow).1 x1 (aPart L a b wBelow).2.1 wFor
 generalize e1:aPart L a b wBelow=p1 at *
 generalize e2:aPart L p1.1 p1.2.1 wFor=p2 at *
 obtain ⟨b2,hb2⟩:∃ b2,b2=(if p1.2.2=0∧p2.2.2=0 then true else p2.2.1):=⟨_,rfl⟩
 have z3:=r_take L hL p2.1 x2 b2 1 wAt (by decide)
 obtain ⟨x3,-⟩:=hS.take p2.1 x2 b2 1 (by decide) wAt
 generalize e3:qbH L p2.1 b2 1 wAt=t1 at *
 have z4:=r_num L hL t1.1 x3 t1.2
 obtain ⟨x4,-,-,-⟩:=hS.aNum t1.1 x3 t1.2
 generalize e4:aNum L t1.1 t1.2=t2 at *
 have z5:=r_take L hL t2.1 x4 t2.2.1 3 wDash (by decide)
 obtain ⟨x5,-⟩:=hS.take t2.1 x4 t2.2.1 3 (by decide) wDash
 generalize e5:qbH L t2.1 t2.2.1 3 wDash=t3 at *
 have z6:=r_num L hL t3.1 x5 t3.2
 obtain ⟨x6,-,-,-⟩:=hS.aNum t3.1 x5 t3.2
 generalize e6:aNum L t3.1 t3.2=t4 at *
 have z7:=r_take L hL t4.1 x6 t4.2.1 3 wSemi (by decide)
 generalize e7:qbH L t4.1 t4.2.1 3 wSemi=t5 at *
 have hs:qcA L a b=⟨t5.1,t5.2,⟨p1.2.2,p2.2.2,t2.2.2,t4.2.2⟩⟩:=by
  unfold qcA
  simp only [e1,e2,← hb2,e3,e4,e5,e6,e7]
 have hj:sawmillref37_stage.j1 (k+1) L (p2.1:Int) b2 p1.2.2 p2.2.2 0 0=some (L,(t5.1:Int),t5.2,p1.2.2,p2.2.2,t2.2.2,t4.2.2):=by
  rw [sawmillref37_stage.j1,show (⟨#[97,116]⟩:ByteArray)=wAt from rfl,z3,Option.bind_some]
  simp only []
  rw [z4,Option.bind_some]
  simp only []
  rw [show (⟨#[45]⟩:ByteArray)=wDash from rfl,z5,Option.bind_some]
  simp only []
  rw [z6,Option.bind_some]
  simp only []
  rw [show (⟨#[59]⟩:ByteArray)=wSemi from rfl,z7,Option.bind_some]
 rw [hs]
 unfold sawmillref37_stage.f
 rw [show (⟨#[98,101,108,111,119]⟩:ByteArray)=wBelow from rfl,z1,Option.bind_some]
 simp only []
 rw [show (⟨#[102,111,114]⟩:ByteArray)=wFor from rfl,z2,Option.bind_some]
 simp only [sawmillref37_stage.j0]
 by_cases g1:p1.2.2=0
 ·rw [if_pos g1]
  by_cases g2:p2.2.2=0
  ·have:b2=true:=by rw [hb2,if_pos ⟨g1,g2⟩]
   rw [this] at hj
   rw [if_pos (beq_iff_eq.mpr g2)]
   exact hj
  ·have:b2=p2.2.1:=by rw [hb2,if_neg (fun h=>g2 h.2)]
   rw [this] at hj
   rw [if_neg (by simpa using g2)]
   exact hj
 ·have:b2=p2.2.1:=by rw [hb2,if_neg (fun h=>g1 h.1)]
  rw [this] at hj
  rw [if_neg g1,if_neg Bool.false_ne_true]
  exact hj
theorem r_stages (L:List Lx) (hS:Sound L) (nm:ByteArray) (r:Int):∀ (n a:Nat) (b:Bool) (st:List S52) (K:Nat),a < L.length→(b=true ∨ L.length - a < n)→n+5≤K→st.length+n≤1000000→sawmillref37_schedule.l0 K L a b nm r st=some (L,((qcE L n a b st).1:Int),(qcE L n a b st).2.1,nm,r,(qcE L n a b st).2.2):=by
 have hL:=hS.len
 intro n
 induction n with
 | zero =>
  intro a b st K ha hb hK hst
  have hbt:b=true:=by
   rcases hb with h|h
   ·exact h
   ·omega
  subst hbt
  obtain ⟨K,rfl⟩:∃ q,K=q+1:=⟨K - 1,by omega⟩
  rw [sawmillref37_schedule.l0,if_pos rfl]
  rfl
 | succ n ih =>
  intro a b st K ha hb hK hst
  obtain ⟨K,rfl⟩:∃ q,K=q+1:=⟨K - 1,by omega⟩
  cases b
  ·have q1:(a:Int) < (L.length:Int):=by omega
   have q2:(0:Int)≤(a:Int):=by omega
   have q3:st.length < 4398046511104:=by omega
   have hlt:L.length - a < n+1:=by
    rcases hb with h|h
    ·cases h
    ·exact h
   have hend:aIs L a false 0 ⟨#[]⟩=decide ((gL L a).f0=0):=by
    unfold aIs
    rw [if_neg Bool.false_ne_true]
    by_cases g:(gL L a).f0=0
    ·rw [if_pos g,if_pos empty_text,decide_eq_true g]
    ·rw [if_neg g,decide_eq_false g]
   rw [sawmillref37_schedule.l0,if_neg Bool.false_ne_true,if_pos q2,if_pos q1]
   show (if (gL L a).f0=0 then _ else _)=_
   simp only [qcE]
   rw [if_neg Bool.false_ne_true]
   by_cases g0:(gL L a).f0=0
   ·have g1:aIs L a false 1 qbS=false:=by
     by_cases g:aIs L a false 1 qbS=true
     ·have:=(aIs_kind g).2
      rw [g0] at this
      cases this
     ·simpa using g
    rw [if_pos g0,g1,if_neg Bool.false_ne_true,hend,decide_eq_true g0,if_pos rfl]
   ·rw [if_neg g0,show (⟨#[115,99,104,101,100,117,108,101]⟩:ByteArray)=qbS from rfl,r_is L a ha 1 qbS false rfl (by decide),Option.bind_some]
    by_cases g1:aIs L a false 1 qbS=true
    ·rw [if_pos g1,if_pos g1]
    ·rw [if_neg g1,if_neg g1,hend,decide_eq_false g0,if_neg Bool.false_ne_true,r_stage L hS a ha false K (by omega),Option.bind_some,if_pos q3]
     obtain ⟨-,hs2,hs3⟩:=stage_prog' L hS a ha false
     have hb2:(qcA L a false).b=true ∨ L.length - (qcA L a false).a < n:=by
      by_cases hbb:(qcA L a false).b=true
      ·exact Or.inl hbb
      ·have:=aStage_more L hS a ha false (by simpa using hbb)
       exact Or.inr (by omega)
     exact ih (qcA L a false).a (qcA L a false).b (st++[(qcA L a false).x]) K hs2 hb2 (by omega) (by rw [List.length_append,List.length_singleton];omega)
  ·rw [aStages_bad,sawmillref37_schedule.l0,if_pos rfl]
theorem aTake_bad (L:List Lx) (a:Nat) (k:Int) (tx:ByteArray):qbH L a true k tx=(a,true):=by
 unfold qbH aIs
 simp
theorem aNum_bad (L:List Lx) (a:Nat):(aNum L a true).1=a∧(aNum L a true).2.1=true:=by
 unfold aNum
 rw [aTake_bad]
 exact ⟨rfl,rfl⟩
theorem r_sched (L:List Lx) (hS:Sound L) (a:Nat) (ha:a < L.length) (K:Nat) (hK:L.length+10≤K):∃ nm r st,sawmillref37_schedule.f K L a false=some (L,((qcB L a).a:Int),(qcB L a).b,nm,r,st)∧((qcB L a).b=false→(⟨nm,r,st⟩:S24)=(qcB L a).x):=by
 have hL:=hS.len
 obtain ⟨K,rfl⟩:∃ q,K=q+1:=⟨K - 1,by omega⟩
 have z0:=r_take L hL a ha false 1 qbS (by decide)
 obtain ⟨x0,-⟩:=hS.take a ha false 1 (by decide) qbS
 obtain ⟨hd1,hd2,hd3⟩:=head_lt L hS a ha
 unfold sawmillref37_schedule.f
 rw [show (⟨#[115,99,104,101,100,117,108,101]⟩:ByteArray)=qbS from rfl,z0,Option.bind_some]
 have hh:aHead L a=⟨(qbH L (aNum L (qbH L (qbH L (qbH L a false 1 qbS).1 (qbH L a false 1 qbS).2 1 ⟨#[]⟩).1 (qbH L (qbH L a false 1 qbS).1 (qbH L a false 1 qbS).2 1 ⟨#[]⟩).2 1 wRamp).1 (qbH L (qbH L (qbH L a false 1 qbS).1 (qbH L a false 1 qbS).2 1 ⟨#[]⟩).1 (qbH L (qbH L a false 1 qbS).1 (qbH L a false 1 qbS).2 1 ⟨#[]⟩).2 1 wRamp).2).1 (aNum L (qbH L (qbH L (qbH L a false 1 qbS).1 (qbH L a false 1 qbS).2 1 ⟨#[]⟩).1 (qbH L (qbH L a false 1 qbS).1 (qbH L a false 1 qbS).2 1 ⟨#[]⟩).2 1 wRamp).1 (qbH L (qbH L (qbH L a false 1 qbS).1 (qbH L a false 1 qbS).2 1 ⟨#[]⟩).1 (qbH L (qbH L a false 1 qbS).1 (qbH L a false 1 qbS).2 1 ⟨#[]⟩).2 1 wRamp).2).2.1 3 wColon).1,(qbH L (aNum L (qbH L (qbH L (qbH L a false 1 qbS).1 (qbH L a false 1 qbS).2 1 ⟨#[]⟩).1 (qbH L (qbH L a false 1 qbS).1 (qbH L a false 1 qbS).2 1 ⟨#[]⟩).2 1 wRamp).1 (qbH L (qbH L (qbH L a false 1 qbS).1 (qbH L a false 1 qbS).2 1 ⟨#[]⟩).1 (qbH L (qbH L a false 1 qbS).1 (qbH L a false 1 qbS).2 1 ⟨#[]⟩).2 1 wRamp).2).1 (aNum L (qbH L (qbH L (qbH L a false 1 qbS).1 (qbH L a false 1 qbS).2 1 ⟨#[]⟩).1 (qbH L (qbH L a false 1 qbS).1 (qbH L a false 1 qbS).2 1 ⟨#[]⟩).2 1 wRamp).1 (qbH L (qbH L (qbH L a false 1 qbS).1 (qbH L a false 1 qbS).2 1 ⟨#[]⟩).1 (qbH L (qbH L a false 1 qbS).1 (qbH L a false 1 qbS).2 1 ⟨#[]⟩).2 1 wRamp).2).2.1 3 wColon).2,(aLex L (qbH L a false 1 qbS).1 (qbH L a false 1 qbS).2 1 ⟨#[]⟩).f1,(aNum L (qbH L (qbH L (qbH L a false 1 qbS).1 (qbH L a false 1 qbS).2 1 ⟨#[]⟩).1 (qbH L (qbH L a false 1 qbS).1 (qbH L a false 1 qbS).2 1 ⟨#[]⟩).2 1 wRamp).1 (qbH L (qbH L (qbH L a false 1 qbS).1 (qbH L a false 1 qbS).2 1 ⟨#[]⟩).1 (qbH L (qbH L a false 1 qbS).1 (qbH L a false 1 qbS).2 1 ⟨#[]⟩).2 1 wRamp).2).2.2⟩:=rfl
 generalize e0:qbH L a false 1 qbS=t0 at *
 simp only [] at hh ⊢
 by_cases g0:t0.2=true
 ·rw [if_pos g0,sawmillref37_schedule.j0,if_pos rfl]
  have hb:(aHead L a).b=true∧(aHead L a).a=t0.1:=by
   rw [hh]
   simp only [g0,aTake_bad,(aNum_bad L t0.1).1,(aNum_bad L t0.1).2,and_self]
  have hsc:(qcB L a).b=true∧(qcB L a).a=t0.1:=by
   unfold qcB
   rw [hb.1,aStages_bad]
   exact ⟨rfl,hb.2⟩
  refine ⟨⟨#[]⟩,0,[],?_,fun h=>?_⟩
  ·rw [hsc.1,hsc.2]
  ·rw [hsc.1] at h
   cases h
 ·have g0f:t0.2=false:=by simpa using g0
  have q1:(t0.1:Int) < (L.length:Int):=by omega
  have q2:(0:Int)≤(t0.1:Int):=by omega
  rw [if_neg g0,if_pos q2,if_pos q1,g0f,sawmillref37_schedule.j0]
  have hname:aIs L t0.1 false 1 ⟨#[]⟩=decide ((gL L t0.1).f0=1):=by
   unfold aIs
   rw [if_neg Bool.false_ne_true]
   by_cases g:(gL L t0.1).f0=1
   ·rw [if_pos g,if_pos empty_text,decide_eq_true g]
   ·rw [if_neg g,decide_eq_false g]
  by_cases g1:(gL L t0.1).f0=1
  ·have hne:((qaZ L (t0.1:Int)).f0 != 1)=false:=bne_eq_false_iff_eq.mpr g1
   have hi:aIs L t0.1 false 1 ⟨#[]⟩=true:=by rw [hname,decide_eq_true g1]
   have hn:=hS.next t0.1 x0 false 1 (by decide) ⟨#[]⟩ hi
   have e:wrap64 ((t0.1:Int)+1)=((t0.1+1:Nat):Int):=qcH (t0.1+1) (by omega)
   have ht1:qbH L t0.1 false 1 ⟨#[]⟩=(t0.1+1,false):=by
    unfold qbH
    rw [if_pos hi]
   have hlx:(aLex L t0.1 false 1 ⟨#[]⟩).f1=(gL L t0.1).f1:=by
    unfold aLex
    rw [if_pos hi]
   rw [g0f,ht1] at hh
   simp only [hlx] at hh
   have z2:=r_take L hL (t0.1+1) hn false 1 wRamp (by decide)
   obtain ⟨x2,-⟩:=hS.take (t0.1+1) hn false 1 (by decide) wRamp
   generalize e2:qbH L (t0.1+1) false 1 wRamp=t2 at *
   have z3:=r_num L hL t2.1 x2 t2.2
   obtain ⟨x3,-,-,-⟩:=hS.aNum t2.1 x2 t2.2
   generalize e3:aNum L t2.1 t2.2=t3 at *
   have z4:=r_take L hL t3.1 x3 t3.2.1 3 wColon (by decide)
   obtain ⟨x4,-⟩:=hS.take t3.1 x3 t3.2.1 3 (by decide) wColon
   generalize e4:qbH L t3.1 t3.2.1 3 wColon=t4 at *
   have z5:=r_stages L hS (gL L t0.1).f1 t3.2.2 (L.length+1) t4.1 t4.2 [] K x4 (Or.inr (by omega)) (by omega) (by simp only [List.length_nil];omega)
   rw [hne,if_neg Bool.false_ne_true,if_pos q2,if_pos q1,e,show (⟨#[114,97,109,112]⟩:ByteArray)=wRamp from rfl,z2,Option.bind_some]
   simp only []
   rw [z3,Option.bind_some]
   simp only []
   rw [show (⟨#[58]⟩:ByteArray)=wColon from rfl,z4,Option.bind_some]
   have hsc:qcB L a=⟨(qcE L (L.length+1) t4.1 t4.2 []).1,(qcE L (L.length+1) t4.1 t4.2 []).2.1,⟨(gL L t0.1).f1,t3.2.2,(qcE L (L.length+1) t4.1 t4.2 []).2.2⟩⟩:=by
    unfold qcB
    rw [hh]
   rw [hsc]
   exact ⟨_,_,_,z5,fun _=>rfl⟩
  ·have hne:((qaZ L (t0.1:Int)).f0 != 1)=true:=bne_iff_ne.mpr g1
   have hi:aIs L t0.1 false 1 ⟨#[]⟩=false:=by rw [hname,decide_eq_false g1]
   have ht1:qbH L t0.1 false 1 ⟨#[]⟩=(t0.1,true):=by
    unfold qbH
    rw [hi]
    rfl
   rw [hne,if_pos rfl]
   have hb:(aHead L a).b=true∧(aHead L a).a=t0.1:=by
    rw [hh]
    simp only [g0f,ht1,aTake_bad,(aNum_bad L t0.1).1,(aNum_bad L t0.1).2,and_self]
   have hsc:(qcB L a).b=true∧(qcB L a).a=t0.1:=by
    unfold qcB
    rw [hb.1,aStages_bad]
    exact ⟨rfl,hb.2⟩
   refine ⟨⟨#[]⟩,0,[],?_,fun h=>?_⟩
   ·rw [hsc.1,hsc.2]
   ·rw [hsc.1] at h
    cases h
theorem r_go (L:List Lx) (hL:SoundT L):∀ (n a:Nat) (out:List S24) (K:Nat),a < L.length→L.length - a < n→(8 - out.length)+L.length+1120≤K→Bnd2 out→out.length≤8→sawmillref37_Parse.go K L L a out=some (aList L n a out):=by
 intro n
 induction n with
 | zero=>intro a out K _ h;exact absurd h (Nat.not_lt_zero _)
 | succ n ih =>
  intro a out K ha hn hK hB ho
  obtain ⟨K,rfl⟩:∃ q,K=q+1:=⟨K - 1,by omega⟩
  have q:(0:Int)≤(a:Int)∧(a:Int) < (L.length:Int):=by omega
  have hend:aIs L a false 0 ⟨#[]⟩=decide ((gL L a).f0=0):=by
   unfold aIs
   rw [if_neg Bool.false_ne_true]
   by_cases g:(gL L a).f0=0
   ·rw [if_pos g,if_pos empty_text,decide_eq_true g]
   ·rw [if_neg g,decide_eq_false g]
  rw [sawmillref37_Parse.go,if_pos q]
  show (if (gL L a).f0=0 then _ else _)=_
  simp only [aList]
  by_cases g0:(gL L a).f0=0
  ·rw [if_pos g0,hend,decide_eq_true g0,if_pos rfl]
  ·obtain ⟨nm,r,st,h1,h2⟩:=r_sched L hL.toSound a ha K (by omega)
   obtain ⟨s1,s2,s3⟩:=sched_lt L hL.toSound a ha
   rw [if_neg g0,hend,decide_eq_false g0,if_neg Bool.false_ne_true,h1,Option.bind_some]
   simp only []
   by_cases gb:(qcB L a).b=true
   ·rw [if_pos gb,if_pos gb,if_pos (by omega)]
    rfl
   ·have hgb:(qcB L a).b=false:=by simpa using gb
    have hx:=h2 hgb
    have:=s3 hgb
    have hB2:Bnd2 (out++[(qcB L a).x]):=by
     intro s hs
     rcases List.mem_append.mp hs with h|h
     ·exact hB s h
     ·rw [List.mem_singleton.mp h]
      exact sched_bnd L hL a ha
    obtain ⟨e,he,he2⟩:=last_same_g (out++[(qcB L a).x]) (by simp) (by rw [List.length_append,List.length_singleton];omega) hB2 K (by omega)
    rw [if_neg gb,if_neg gb,if_pos (by omega),hx,he2,Option.bind_some,he]
    by_cases ge:e=0
    ·subst ge
     obtain ⟨l8,-⟩:=last_zero _ (by simp) (by rw [List.length_append,List.length_singleton];omega) he
     rw [if_pos rfl,if_pos rfl]
     exact ih (qcB L a).a _ K s1 (by omega) (by rw [List.length_append,List.length_singleton] at l8 ⊢;omega) hB2 l8
    ·rw [if_neg ge,if_neg (by simpa using ge)]
     rfl
theorem rparse_f (s:ByteArray):sawmillref37_Parse.f s=some (parseB s):=by
 unfold sawmillref37_Parse.f parseB
 rw [rscan_prog s (rFuel s) (by unfold rFuel;omega),Option.bind_some]
 by_cases g:(scanB s).2.1=0
 ·obtain ⟨h1,h2⟩:=scanB_sound s g
  have hp:=h1.pos
  rw [if_pos g,if_pos g,show (0:Int)=((0:Nat):Int) from rfl,r_go (scanB s).1 h1 ((scanB s).1.length+1) 0 [] (rFuel s) hp (by omega) (by unfold rFuel;simp only [List.length_nil];omega) (fun x hx=>absurd hx (by simp)) (Nat.zero_le _)]
 ·rw [if_neg g,if_neg g]
theorem parses_true (s:ByteArray):sawmilllaw37_ScheduleParses.f 2000 s=some true:=by
 unfold sawmilllaw37_ScheduleParses.f
 rw [awake_at 2000 (by omega)]
 simp only [Option.bind_some]
 by_cases g:(s.size:Int) > 10000
 ·rw [if_pos g]
 ·have hs:sawmillref37_Same.f 2000 (parseB s).1 (parseB s).1=some true:=by
   by_cases h:(parseB s).2.1=0
   ·obtain ⟨new,-,hp,-,-,-,n6,hG⟩:=parse_ok s h
    rw [hp]
    exact sameL_prog new (fun x hx=>by
     obtain ⟨c1,c2,c3,c4,c5,c6⟩:=check_ok _ _ _ (hG x hx)
     omega) (by omega) 2000 (by omega)
   ·rw [(parse_err s h).1]
    exact sameL_prog [] (fun x hx=>absurd hx (by simp)) (by simp) 2000 (by omega)
  rw [if_neg g,parse_f,Option.bind_some,rparse_f,Option.bind_some,hs,Option.bind_some,if_pos rfl,if_pos rfl,if_pos rfl]
end Go.Proofs.YtehdmplngmbnnaaDoor.P
namespace Go.Proofs.YtehdmplngmbnnaaDoor.scheduleParses
open Go.ChangeShapes Go.WideShapes Go.ChangeAt Go.WideMaps Go.WideElems Go.RowKit Go.Proofs.YtehdmplngmbnnaaDoor.P Go.Proofs.YtehdmplngmbnnaaDoorW.PrintWords
set_option linter.unusedVariables false
set_option maxRecDepth 100000 in
theorem lifted (os:Os) (started:os.Started) (H:Type) (enc:TypeId × Value→H) :
  ReturnsInHanded {} Tryd.checked os 6 .any (fun w args=>(Rows.scheduleParsesSpec.pre enc Tryd.prog Tryd.f6 [] false w args∧laidMetH Tryd.prog laid5 w)∧sizedMet enc Tryd.prog Tryd.f6 (OpenSpec.ofChange Rows.scheduleParsesSpec) false w args)
   (Rows.scheduleParsesSpec.post enc Tryd.prog Tryd.f6 false true false false):=by
 refine returnsInHanded_of_change_and (C:=Tryd.checked) (X:=fun w _=>laidMetH Tryd.prog laid5 w) (fun _ _ _ hh h=>h.of_heap hh) own started (by kernel_rfl) Tryd.func6
  (ChangeSpec.witness_shaped (enc:=enc) (C:=Tryd.checked) (os:=os) (X:=fun w _=>laidMetH Tryd.prog laid5 w) false (World.doorLaid Tryd.prog 38 os) #[.string ByteArray.empty] 8 rfl (World.shaped_of_RefB (by kernel_rfl) (by kernel_rfl)) (by kernel_rfl) (by kernel_rfl) (by kernel_rfl) (door_met os _)) ?_
 intro W base args ds gs before hval0 hW _ _ hL _
 have hval:∀ (j:Nat) t v,Tryd.f6.params[j]?=some t→args[j]?=some v→Value.okWide Tryd.prog W .any base t v:=hval0
 have hW':=hW
 obtain ⟨p,q,hA0,hV,rfl,hfz,hnd⟩:=hW
 have hA:DataW.TrodAll enc Tryd.prog W 0 (fun _=>true) true Tryd.f6.params.toList args.toList ds p:=hA0
 rw [Tryd.params6] at hA hval
 obtain ⟨v0,vs0,d0,ds0,p0,q0,hargs,rfl,rfl,h0,r0⟩:=trodAll_cons hA
 obtain ⟨rfl,rfl,rfl⟩:=trodAll_nil r0
 obtain rfl:args=#[v0]:=by cases args;simp_all
 obtain ⟨rfl,rfl⟩:=trodVars_none hV
 have k0:=h0
 have lt0:∀ x ∈ p0,x.block < W.heap.size:=by obtain ⟨m,hm⟩:=k0;exact DataW.trod_lt m _ _ _ hm
 obtain ⟨fu0,hf0⟩:=h0
 obtain ⟨s0,rfl⟩:=okWide_string uStr (hval 0 9 v0 rfl rfl)
 refine (sawmilllaw37_ScheduleParses.calls 2000 s0 true W  (parses_true s0) ⟨glob_of hL⟩).mono fun e W' ⟨he,bel⟩=>?_
 subst he
 exact ⟨_,rfl,_,_,_,[],_,[],hW',trodAll_mk1 (shut_bool Tryd.underlying4 _),(trodAll_cons_mk (Below.trod laidOut (by kernel_rfl) (of_decide_eq_true (by kernel_rfl)) k0 bel lt0) trodAll_mk0),rfl,bel.frame _,fun h=>by cases h⟩
theorem holds:Rows.ScheduleParsesSaid :=
 OpenClaim.holds_of_wide 6 Tryd.f6 rfl rfl rfl rfl rfl rfl rfl ⟨rfl,rfl,rfl,rfl,rfl⟩ rfl rfl rfl rfl rfl (by kernel_rfl) Tryd.func6 (by kernel_rfl)
  (of_decide_eq_true (by kernel_rfl)) (by unfold Func.isWrapper;first|(rw [if_pos (by decide +kernel)];kernel_rfl)|(rw [if_neg (by decide +kernel)];exact ⟨rfl,rfl⟩))
  (fun os started H enc _=>lifted os started H enc)
theorem card_holds:Rows.ScheduleParsesCardSaid :=
 Claim7.holds_tied_plain_at .later [] [.data, .data, .data, .data, .data] true (true, "e1d18ca9756c5a5f1ec290e98221cd0e975e4d185654287143def8cff5441a12") false
  holds (fun _ h=>by cases h) (by kernel_rfl) (fun _ h=>by cases h) scheduleParses_row_tie rfl ⟨rfl,rfl⟩ (by kernel_rfl) rfl
  (fun f fn hf hfn=>by
   obtain rfl : f = 6 := Option.some.inj ((show Tryd.prog.funcNamed "sawmill/sawmilllaw37.ScheduleParses" = some 6 by kernel_rfl).symm.trans hf) |>.symm
   obtain rfl:fn=Tryd.f6:=(Option.some.inj (Tryd.func6.symm.trans hfn)).symm
   exact ⟨by kernel_rfl,fun j t ht=>by
    rw [Tryd.params6] at ht
    have hm:t ∈ [9]:=by simpa using Array.mem_of_getElem? ht
    have hall:([9].all fun u=>!Tryd.prog.wantsStandIn u)=true:=by kernel_rfl
    exact (show Tryd.prog.wantsStandIn t=false by simpa using List.all_eq_true.1 hall t hm)⟩)
  (by kernel_rfl)
end Go.Proofs.YtehdmplngmbnnaaDoor.scheduleParses
namespace Go.Proofs.YtehdmplngmbnnaaDoor
theorem scheduleParses_card:Rows.ScheduleParsesCardSaid:=scheduleParses.card_holds
end Go.Proofs.YtehdmplngmbnnaaDoor
