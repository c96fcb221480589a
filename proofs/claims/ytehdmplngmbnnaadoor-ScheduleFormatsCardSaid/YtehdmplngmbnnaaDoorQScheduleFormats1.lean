/-
  Walks and plain laws on the way to the statement ScheduleFormats; no conditions.
-/
import Derived.Test.YtehdmplngmbnnaaDoorMb2
import Derived.Lib.ItoaMem
import Derived.Lib.ItoaLen
import Derived.Test.YtehdmplngmbnnaaDoorMb3
namespace Go.Proofs.YtehdmplngmbnnaaDoor.P
open Go.RowKit Go.Proofs.YtehdmplngmbnnaaDoorW.PrintWords Go.Proofs.YtehdmplngmbnnaaDoorW.PrintLast Go.Proofs.YtehdmplngmbnnaaDoorW.PrintMore
attribute [local go_sem] max2_int min2_int max_two min_two max_three min_three max_four min_four
attribute [local go_sem] cell_twice
set_option linter.unusedVariables false
set_option linter.unusedSimpArgs false
def sawmillref37_Find.l0:Nat→List (S24)→ByteArray→Int→Option (ByteArray × Int × (List (S52)) × Bool)
 | 0,_,_,_=>none
 | k+1,x0,x1,x6=>if x6 < (x0.length:Int) then (if 0≤x6 then (if ((rd_T24 x0 x6).f0).toList=x1.toList then (some ((rd_T24 x0 x6).f0,(rd_T24 x0 x6).f1,(rd_T24 x0 x6).f2,true)) else (sawmillref37_Find.l0 k x0 x1 (wrap64 (x6+1)))) else (none)) else (some ((⟨#[]⟩:ByteArray),0,([]:List (S52)),false))
def sawmillref37_Find.f (k:Nat) (l0:List (S24)) (a1:ByteArray):Option (ByteArray × Int × (List (S52)) × Bool):=sawmillref37_Find.l0 k l0 a1 0
theorem sawmillref37_Find.mono_l:∀ k,(∀ y0 y1 y2,LeO (sawmillref37_Find.l0 k y0 y1 y2) (sawmillref37_Find.l0 (k+1) y0 y1 y2))
 | 0=>fun _ _ _ r h=>by simp [sawmillref37_Find.l0] at h
 | k+1=>by
  have ih0:=sawmillref37_Find.mono_l k
  ·intro y0 y1 y2
   unfold sawmillref37_Find.l0
   repeat' first
   | (with_reducible exact ih0 _ _ _)
   | (with_reducible exact LeO.refl _)
   | (with_reducible exact LeO.none _)
   | (with_reducible refine LeO.ite ?_ ?_)
   | (with_reducible refine LeO.bind ?_ (fun _=>?_))
   | exact ih0 _ _ _
   | exact LeO.none _
   | refine LeO.ite ?_ ?_
   | refine LeO.bind ?_ (fun _=>?_)
theorem sawmillref37_Find.mono:∀ a0 a1 k,LeO (sawmillref37_Find.f k a0 a1) (sawmillref37_Find.f (k+1) a0 a1):=by
 intro a0 a1 k
 have ih0:=sawmillref37_Find.mono_l k
 unfold sawmillref37_Find.f
 repeat' first
   | (with_reducible exact ih0 _ _ _)
   | (with_reducible exact LeO.refl _)
   | (with_reducible exact LeO.none _)
   | (with_reducible refine LeO.ite ?_ ?_)
   | (with_reducible refine LeO.bind ?_ (fun _=>?_))
   | exact ih0 _ _ _
   | exact LeO.none _
   | refine LeO.ite ?_ ?_
   | refine LeO.bind ?_ (fun _=>?_)
set_option maxHeartbeats 8000000 in
set_option maxRecDepth 100000 in
theorem sawmillref37_Find.calls (k:Nat) (P0_:Nat→Prop) (A0:Option Addr) (c0:Nat) (l0:List (S24)) (a1:ByteArray) (r1:ByteArray) (r2:Int) (r3:List (S52)) (r4:Bool) (w:World) (hs0:Kd.V k24 24 w w.heap.size (fun k_=>P0_ k_) (.slice A0 l0.length c0) l0) (h:sawmillref37_Find.f k l0 a1=some (r1,r2,r3,r4)) :
  Calls Tryd.prog 15 #[.slice A0 l0.length c0,.string a1] w fun e w'=>∃ v2_:Value,e=.returned (.tuple #[.agg #[.string r1,.int .i64 r2,v2_],.bool r4])∧Kd.V k52 52 w' w.heap.size (fun k_=>(P0_ k_ ∨ w.heap.size≤k_)) v2_ r3∧Below w.heap.size w w':=by
 have hu24:=Tryd.underlying24
 have HO0:=Aside0.mk (show Kd.V k24 24 w w.heap.size (fun k_=>(P0_ k_ ∨ w.heap.size≤k_)) (.slice A0 l0.length c0) l0 from Kd.V_mono hs0 (fun k_ hk=>.inl hk))
 have HB:=Aside0.mk (Below.refl w.heap.size w)
 have H:(sawmillref37_Find.l0 k l0 a1 0)=some (r1,r2,r3,r4):=h
 clear h
 have H':=Aside0.mk H
 clear H
 go_enter Tryd.func15,Tryd.ntmps15
 go_wp2_with (first|((with_reducible refine gate_dst (N:=4) rfl ?_);refine box_event ?hg (N:=4) ?hd (cs:=#[.string (⟨#[]⟩:ByteArray),.int .i64 0,.slice none 0 0]) (t:=24) ?hr ?_;(case hd=>rfl);(case hg=>rfl);(case hr=>first|(go_simp;done)|(go_simp;rfl));intro gb101 hg w3 hbox hb;have n0_:=Aside0.mk (Kd.V_below (Kd.V_elderB (by (with_reducible repeat (first|apply Kd.V_alloc|apply Kd.V_drewN|apply Kd.V_drew));exact HO0.out) gb101 (Nat.le_of_eq hg.symm)) hb);have n1_:=Aside0.mk (below_step (by repeat (first|(with_reducible first|exact HB.out|apply below_alloc|apply pw_below_drewN|apply below_drew1)|exact HB.out)) hb);have n2_:=Aside0.mk (hbox);have n3_:=Aside0.mk ((by rw [hg];exact (below_size (by repeat (first|(with_reducible first|exact HB.out|apply below_alloc|apply pw_below_drewN|apply below_drew1)|exact HB.out))):w.heap.size≤gb101));have n4_:=Aside0.mk ((by rw [hg];exact (below_size (by repeat (first|(with_reducible first|exact HB.out|apply below_alloc|apply pw_below_drewN|apply below_drew1)|exact HB.out))):w.heap.size≤gb101));clear HO0;clear HB;have HO0:=n0_;have HB:=n1_;have BK101:=n2_;have GW101:=n3_;have GE101:=n4_;clear n0_ n1_ n2_ n3_ n4_;clear hb hbox hg))
 go_loopg [6] k (fun kq v6 w'=>∃ (x6_1:Int) (x102000_1:ByteArray) (x102001_1:Int),v6=.int .i64 x6_1∧Aside0 (sawmillref37_Find.l0 kq l0 a1 x6_1=some (r1,r2,r3,r4))∧Aside0 (kq≤k)∧Aside0 (Kd.V k24 24 w' w.heap.size (fun k_=>(P0_ k_ ∨ w.heap.size≤k_)∧k_ ≠ gb101) (.slice A0 l0.length c0) l0)∧Aside0 (w'.heap[gb101]?=some (.cells #[.string x102000_1,.int .i64 x102001_1,(.slice none 0 0)] 24 (0,0)))∧Aside0 (Below w.heap.size w w'))
 case atStart=>exact ⟨(0),((⟨#[]⟩:ByteArray)),(0),(by first|rfl|(simp;done)|(simp [*];done)),H',⟨Nat.le_refl _⟩,⟨by (with_reducible repeat (first|apply Kd.V_alloc|apply Kd.V_drewN|apply Kd.V_drew));exact HO0.out⟩,⟨by (with_reducible repeat (first|refine blk_drewN ?_ _|refine blk_drew ?_|refine blk_alloc ?_ _));exact BK101.out⟩,⟨by repeat (first|(with_reducible first|exact HB.out|apply below_alloc|apply pw_below_drewN|apply below_drew1|refine below_set ?_ GE101.out)|exact HB.out)⟩⟩
 case round =>
  clear H'
  try clear c1
  try clear p2
  obtain ⟨x6_1,x102000_1,x102001_1,rfl,HA,HK1,HO_0,BK101,HB⟩:=hrel
  cases gk with
  | zero=>exact absurd HA.out (by simp [sawmillref37_Find.l0])
  | succ k1 =>
   have H:=HA.out
   clear HA
   simp only [sawmillref37_Find.l0] at H
   by_cases c4:x6_1 < (l0.length:Int)
   ·rw [if_pos c4] at H
    have c4b0:decide (x6_1 < (l0.length:Int))=true:=decide_eq_true c4
    clear c4
    by_cases c5:0≤x6_1
    ·rw [if_pos c5] at H
     have c5b0:decide (0≤x6_1)=true:=decide_eq_true c5
     clear c5
     by_cases c6:((rd_T24 l0 x6_1).f0).toList=a1.toList
     ·rw [if_pos c6] at H
      have c6b0:(((rd_T24 l0 x6_1).f0).toList == a1.toList)=true:=beq_iff_eq.mpr c6
      have c6b1:(((rd_T24 l0 x6_1).f0).toList != a1.toList)=false:=bne_eq_false_iff_eq.mpr c6
      clear c6
      simp only [Option.some.injEq,Prod.mk.injEq] at H
      obtain ⟨rfl,rfl,rfl,rfl⟩:=H
      have p102:0≤(x6_1:Int):=of_decide_eq_true (by first|(with_reducible assumption)|assumption)
      have q102:x6_1 < (l0.length:Int):=of_decide_eq_true (by first|(with_reducible assumption)|assumption)
      obtain ⟨ad102,A102_2,c102_2,e102,hx102_0,hx102_1,hx102_2,hl102_2,hi102_2⟩:=at_T24 (Kd.V_reads' HO_0.out).2.2 x6_1 p102 q102
      cases e102
      obtain ⟨ce102,hce102,hMe102,hcc102⟩:=Kd.V_get HO_0.out z24 x6_1 p102 (by first|exact q102|exact of_decide_eq_true (by first|(with_reducible assumption)|assumption)|(have e_:=(Kd.V_reads' HO_0.out).1;omega))
      obtain ⟨ua102_2,uc102_2,rfl,ul102_2,ge102_2⟩:=k24_openF hMe102
      have hv102_2:=hcc102 2 _ rfl
      rw [add_field _ _ 2 (by omega)] at hv102_2
      replace hv102_2:=Option.some.inj (hv102_2.symm.trans hx102_2)
      injection hv102_2 with hva_ hvn_ hvc_
      rw [hva_] at ge102_2
      rw [hvc_] at ul102_2
      have HL102_2:=Aside0.mk (show Kd.V k52 52 _ w.heap.size _ _ ((rd_T24 l0 x6_1).f2) from Kd.V_mk ul102_2 ge102_2)
      clear hva_ hvn_ hvc_ ge102_2 ul102_2
      clear hcc102 hce102
      have HR102_2:=Aside0.mk hi102_2
      have HC102_2:=Aside0.mk hl102_2
      clear hi102_2 hl102_2
      replace p102:=eq_true p102
      replace q102:=eq_true q102
      have p103:0≤(x6_1:Int):=of_decide_eq_true (by first|(with_reducible assumption)|assumption)
      have q103:x6_1 < (l0.length:Int):=of_decide_eq_true (by first|(with_reducible assumption)|assumption)
      obtain ⟨ad103,A103_2,c103_2,e103,hx103_0,hx103_1,hx103_2,hl103_2,hi103_2⟩:=at_T24 (Kd.V_reads' HO_0.out).2.2 x6_1 p103 q103
      obtain rfl:ad102=ad103:=(by injection e103)
      obtain ⟨ce103,hce103,hMe103,hcc103⟩:=Kd.V_get HO_0.out z24 x6_1 p103 (by first|exact q103|exact of_decide_eq_true (by first|(with_reducible assumption)|assumption)|(have e_:=(Kd.V_reads' HO_0.out).1;omega))
      obtain ⟨ua103_2,uc103_2,rfl,ul103_2,ge103_2⟩:=k24_openF hMe103
      have hv103_2:=hcc103 2 _ rfl
      rw [add_field _ _ 2 (by omega)] at hv103_2
      replace hv103_2:=Option.some.inj (hv103_2.symm.trans hx103_2)
      injection hv103_2 with hva_ hvn_ hvc_
      rw [hva_] at ge103_2
      rw [hvc_] at ul103_2
      have HL103_2:=Aside0.mk (show Kd.V k52 52 _ w.heap.size _ _ ((rd_T24 l0 x6_1).f2) from Kd.V_mk ul103_2 ge103_2)
      clear hva_ hvn_ hvc_ ge103_2 ul103_2
      clear hcc103 hce103
      have HR103_2:=Aside0.mk hi103_2
      have HC103_2:=Aside0.mk hl103_2
      clear hi103_2 hl103_2
      replace p103:=eq_true p103
      replace q103:=eq_true q103
      have ea_:=Option.some.inj (hx102_2.symm.trans hx103_2)
      injection ea_ with ea_ en_ ec_
      subst ea_
      subst ec_
      clear en_
      have hcz7_0:wr.cell? ⟨gb101,0,none⟩=some (.string x102000_1):=(blk_cell BK101.out 0).trans rfl
      have hcz7_1:wr.cell? ⟨gb101,1,none⟩=some (.int .i64 x102001_1):=(blk_cell BK101.out 1).trans rfl
      have hcz7_2:wr.cell? ⟨gb101,2,none⟩=some (.slice none 0 0):=(blk_cell BK101.out 2).trans rfl
      have hfz7_0:=blk_frozen BK101.out 0
      have hfz7_1:=blk_frozen BK101.out 1
      have hfz7_2:=blk_frozen BK101.out 2
      go_wp2
      refine bodyPost_ret (results_ct rfl _ _ gb101 24 #[.string ((rd_T24 l0 x6_1).f0),.int .i64 ((rd_T24 l0 x6_1).f1),.slice A102_2 ((rd_T24 l0 x6_1).f2).length c102_2] (0,0) _ rfl (by (with_reducible repeat (first|refine blk_drewN ?_ _|refine blk_drew ?_|refine blk_alloc ?_ _));refine blk_put (cs:=#[.string ((rd_T24 l0 x6_1).f0),.int .i64 ((rd_T24 l0 x6_1).f1),.slice none 0 0]) ?_ 2 _ rfl;(with_reducible repeat (first|refine blk_drewN ?_ _|refine blk_drew ?_|refine blk_alloc ?_ _));refine blk_put (cs:=#[.string ((rd_T24 l0 x6_1).f0),.int .i64 x102001_1,.slice none 0 0]) ?_ 1 _ rfl;(with_reducible repeat (first|refine blk_drewN ?_ _|refine blk_drew ?_|refine blk_alloc ?_ _));refine blk_put (cs:=#[.string x102000_1,.int .i64 x102001_1,.slice none 0 0]) ?_ 0 _ rfl;(with_reducible repeat (first|refine blk_drewN ?_ _|refine blk_drew ?_|refine blk_alloc ?_ _));exact BK101.out) Tryd.underlying24 rfl (by kernel_rfl)) rfl ?_
      exact ⟨_,by first|rfl|(simp [errW_none,errW_some]<;>rfl)|(simp [*,errW_none,errW_some]<;>rfl),by (with_reducible repeat (first|apply Kd.V_alloc|apply Kd.V_drewN|apply Kd.V_drew));exact Kd.V_mono (Kd.V_far (p:=⟨gb101,2,none⟩) (Kd.V_far (p:=⟨gb101,1,none⟩) (Kd.V_far (p:=⟨gb101,0,none⟩) (Kd.V_mono HL103_2.out (fun k_ hk=>(⟨hk,hk.2⟩:_∧k_ ≠ gb101))) (fun _ hk=>hk.2) (.string ((rd_T24 l0 x6_1).f0))) (fun _ hk=>hk.2) (.int .i64 ((rd_T24 l0 x6_1).f1))) (fun _ hk=>hk.2) (.slice A102_2 ((rd_T24 l0 x6_1).f2).length c102_2)) (fun _ hk=>hk.1.1),by repeat (first|(with_reducible first|exact HB.out|apply below_alloc|apply pw_below_drewN|apply below_drew1|refine below_set ?_ GE101.out)|exact HB.out)⟩
     ·rw [if_neg c6] at H
      have c6b0:(((rd_T24 l0 x6_1).f0).toList == a1.toList)=false:=beq_eq_false_iff_ne.mpr c6
      have c6b1:(((rd_T24 l0 x6_1).f0).toList != a1.toList)=true:=bne_iff_ne.mpr c6
      have H':=Aside0.mk H
      clear H
      have p102:0≤(x6_1:Int):=of_decide_eq_true (by first|(with_reducible assumption)|assumption)
      have q102:x6_1 < (l0.length:Int):=of_decide_eq_true (by first|(with_reducible assumption)|assumption)
      obtain ⟨ad102,A102_2,c102_2,e102,hx102_0,hx102_1,hx102_2,hl102_2,hi102_2⟩:=at_T24 (Kd.V_reads' HO_0.out).2.2 x6_1 p102 q102
      cases e102
      obtain ⟨ce102,hce102,hMe102,hcc102⟩:=Kd.V_get HO_0.out z24 x6_1 p102 (by first|exact q102|exact of_decide_eq_true (by first|(with_reducible assumption)|assumption)|(have e_:=(Kd.V_reads' HO_0.out).1;omega))
      obtain ⟨ua102_2,uc102_2,rfl,ul102_2,ge102_2⟩:=k24_openF hMe102
      have hv102_2:=hcc102 2 _ rfl
      rw [add_field _ _ 2 (by omega)] at hv102_2
      replace hv102_2:=Option.some.inj (hv102_2.symm.trans hx102_2)
      injection hv102_2 with hva_ hvn_ hvc_
      rw [hva_] at ge102_2
      rw [hvc_] at ul102_2
      have HL102_2:=Aside0.mk (show Kd.V k52 52 _ w.heap.size _ _ ((rd_T24 l0 x6_1).f2) from Kd.V_mk ul102_2 ge102_2)
      clear hva_ hvn_ hvc_ ge102_2 ul102_2
      clear hcc102 hce102
      have HR102_2:=Aside0.mk hi102_2
      have HC102_2:=Aside0.mk hl102_2
      clear hi102_2 hl102_2
      replace p102:=eq_true p102
      replace q102:=eq_true q102
      go_wp2
      go_roundg k1
      case measure=>have:=HK1.out;omega
      case rel=>exact ⟨(wrap64 (x6_1+1)),(x102000_1),(x102001_1),(by first|rfl|(simp;done)|(simp [*];done)),H',⟨by have:=HK1.out;omega⟩,⟨by (with_reducible repeat (first|apply Kd.V_alloc|apply Kd.V_drewN|apply Kd.V_drew));exact HO_0.out⟩,⟨by (with_reducible repeat (first|refine blk_drewN ?_ _|refine blk_drew ?_|refine blk_alloc ?_ _));exact BK101.out⟩,⟨by repeat (first|(with_reducible first|exact HB.out|apply below_alloc|apply pw_below_drewN|apply below_drew1|refine below_set ?_ GE101.out)|exact HB.out)⟩⟩
    ·rw [if_neg c5] at H
     exact absurd H (by simp)
   ·rw [if_neg c4] at H
    have c4b0:decide (x6_1 < (l0.length:Int))=false:=decide_eq_false c4
    clear c4
    simp only [Option.some.injEq,Prod.mk.injEq] at H
    obtain ⟨rfl,rfl,rfl,rfl⟩:=H
    have hcz8_0:wr.cell? ⟨gb101,0,none⟩=some (.string x102000_1):=(blk_cell BK101.out 0).trans rfl
    have hcz8_1:wr.cell? ⟨gb101,1,none⟩=some (.int .i64 x102001_1):=(blk_cell BK101.out 1).trans rfl
    have hcz8_2:wr.cell? ⟨gb101,2,none⟩=some (.slice none 0 0):=(blk_cell BK101.out 2).trans rfl
    have hfz8_0:=blk_frozen BK101.out 0
    have hfz8_1:=blk_frozen BK101.out 1
    have hfz8_2:=blk_frozen BK101.out 2
    go_wp2
    refine bodyPost_ret (results_ct rfl _ _ gb101 24 #[.string (⟨#[]⟩:ByteArray),.int .i64 0,.slice none 0 0] (0,0) _ rfl (by (with_reducible repeat (first|refine blk_drewN ?_ _|refine blk_drew ?_|refine blk_alloc ?_ _));refine blk_put (cs:=#[.string (⟨#[]⟩:ByteArray),.int .i64 0,.slice none 0 0]) ?_ 2 _ rfl;(with_reducible repeat (first|refine blk_drewN ?_ _|refine blk_drew ?_|refine blk_alloc ?_ _));refine blk_put (cs:=#[.string (⟨#[]⟩:ByteArray),.int .i64 x102001_1,.slice none 0 0]) ?_ 1 _ rfl;(with_reducible repeat (first|refine blk_drewN ?_ _|refine blk_drew ?_|refine blk_alloc ?_ _));refine blk_put (cs:=#[.string x102000_1,.int .i64 x102001_1,.slice none 0 0]) ?_ 0 _ rfl;(with_reducible repeat (first|refine blk_drewN ?_ _|refine blk_drew ?_|refine blk_alloc ?_ _));exact BK101.out) Tryd.underlying24 rfl (by kernel_rfl)) rfl ?_
    exact ⟨_,by first|rfl|(simp [errW_none,errW_some]<;>rfl)|(simp [*,errW_none,errW_some]<;>rfl),Kd.V_nil _ _ _ _ _,by repeat (first|(with_reducible first|exact HB.out|apply below_alloc|apply pw_below_drewN|apply below_drew1|refine below_set ?_ GE101.out)|exact HB.out)⟩
end Go.Proofs.YtehdmplngmbnnaaDoor.P
namespace Go.Proofs.YtehdmplngmbnnaaDoor.P
open Go.RowKit Go.Proofs.YtehdmplngmbnnaaDoorW.PrintWords
set_option linter.unusedVariables false
set_option linter.unusedSimpArgs false
def found (o:Option S24):ByteArray × Int × List S52 × Bool:=match o with
 | none=>(⟨#[]⟩,0,[],false)
 | some s=>(s.f0,s.f1,s.f2,true)
theorem find_l0 (n:ByteArray) (l:List S24) (hl:l.length≤1000000):∀ (d k i:Nat),i+d=l.length→d < k→sawmillref37_Find.l0 k l n (i:Int)=some (found ((l.drop i).find? (hasNm n))):=by
 intro d
 induction d with
 | zero =>
  intro k i hi hk
  obtain ⟨k,rfl⟩:∃ m,k=m+1:=⟨k - 1,by omega⟩
  simp only [sawmillref37_Find.l0]
  rw [if_neg (by omega),List.drop_of_length_le (by omega)]
  rfl
 | succ d ih =>
  intro k i hi hk
  obtain ⟨k,rfl⟩:∃ m,k=m+1:=⟨k - 1,by omega⟩
  have e:wrap64 ((i:Int)+1)=((i+1:Nat):Int):=wrap_nat i 1000000 (by omega) (by omega)
  have hd:l.drop i=rd_T24 l (i:Int) :: l.drop (i+1):=by
   rw [List.drop_eq_getElem_cons (by omega),rd_get i (by omega)]
  simp only [sawmillref37_Find.l0]
  rw [if_pos (by omega),if_pos (by omega),e,ih k (i+1) (by omega) (by omega),hd]
  generalize rd_T24 l (i:Int)=s
  by_cases g:s.f0.toList=n.toList
  ·rw [if_pos g,List.find?_cons_of_pos (by simpa [hasNm] using g)]
   rfl
  ·rw [if_neg g,List.find?_cons_of_neg (by simpa [hasNm] using g)]
theorem find_ref (n:ByteArray) (l:List S24) (hl:l.length≤1000000) (k:Nat) (hk:l.length < k):sawmillref37_Find.f k l n=some (found (l.find? (hasNm n))):=by
 have:=find_l0 n l hl l.length k 0 (by omega) hk
 unfold sawmillref37_Find.f
 simpa using this
theorem find_prog (n:ByteArray) (l:List S24) (hl:l.length≤1000000) (hs:∀ s ∈ l,s.f2.length≤1000000):schedule_Find.f l n=some (found (l.find? (hasNm n))):=by
 unfold schedule_Find.f
 rw [if_pos hl]
 cases h:l.find? (hasNm n) with
 | none=>rfl
 | some s =>
  simp only [if_pos (hs s (List.mem_of_find?_eq_some h))]
  rfl
end Go.Proofs.YtehdmplngmbnnaaDoor.P
namespace Go.Proofs.YtehdmplngmbnnaaDoor.P
open Go.RowKit Go.Proofs.YtehdmplngmbnnaaDoorW.PrintWords Go.Proofs.YtehdmplngmbnnaaDoorW.PrintLast Go.Proofs.YtehdmplngmbnnaaDoorW.PrintMore
attribute [local go_sem] max2_int min2_int max_two min_two max_three min_three max_four min_four
attribute [local go_sem] cell_twice
set_option linter.unusedVariables false
set_option linter.unusedSimpArgs false
def sawmillref37_from.f (a0:Int) (a1:Int) (a2:Int):Option (Bool):=if a0 ≥ a1 then (some (decide (a0≤a2))) else (some false)
set_option maxHeartbeats 8000000 in
set_option maxRecDepth 100000 in
theorem sawmillref37_from.calls (a0:Int) (a1:Int) (a2:Int) (r:Bool) (w:World) (h:sawmillref37_from.f a0 a1 a2=some r) :
  Calls Tryd.prog 33 #[.int .i64 a0,.int .i64 a1,.int .i64 a2] w fun e w'=>e=.returned (.bool r)∧Drawn0 w w':=by
 have H:(if a0 ≥ a1 then (some (decide (a0≤a2))) else (some false))=some r:=h
 clear h
 by_cases c4:a0 ≥ a1
 ·rw [if_pos c4] at H
  have c4b0:decide (a1≤a0)=true:=decide_eq_true c4
  clear c4
  obtain rfl:=Option.some.inj H
  go_enter Tryd.func33,Tryd.ntmps33
  go_wp2
  go_ret
  exact ⟨by first|rfl|(simp;done)|(simp [*];done),by repeat (first|exact Drawn0.refl _|apply Drawn0.step)⟩
 ·rw [if_neg c4] at H
  have c4b0:decide (a1≤a0)=false:=decide_eq_false c4
  clear c4
  obtain rfl:=Option.some.inj H
  go_enter Tryd.func33,Tryd.ntmps33
  go_wp2
  go_ret
  exact ⟨by first|rfl|(simp;done)|(simp [*];done),by repeat (first|exact Drawn0.refl _|apply Drawn0.step)⟩
end Go.Proofs.YtehdmplngmbnnaaDoor.P
namespace Go.Proofs.YtehdmplngmbnnaaDoor.P
open Go.RowKit Go.Proofs.YtehdmplngmbnnaaDoorW.PrintWords Go.Proofs.YtehdmplngmbnnaaDoorW.PrintLast Go.Proofs.YtehdmplngmbnnaaDoorW.PrintMore
attribute [local go_sem] max2_int min2_int max_two min_two max_three min_three max_four min_four
attribute [local go_sem] cell_twice
set_option linter.unusedVariables false
set_option linter.unusedSimpArgs false
def sawmillref37_Check.l0:Nat→Int→ByteArray→Int→List (S52)→Option (Int)
 | 0,_,_,_,_=>none
 | k+1,x3,x102000,x102001,x102002=>if x3 < (x102002.length:Int) then (if 0≤x3 then ((sawmillref37_from.f ((rd_T52 x102002 x3).f0) 0 20000).bind fun t106=>(if t106=true then ((sawmillref37_from.f ((rd_T52 x102002 x3).f1) 0 10000).bind fun t107=>(if t107=true then (if ((rd_T52 x102002 x3).f0)=0 then (if ((rd_T52 x102002 x3).f1)=0 then (some 9) else ((sawmillref37_from.f ((rd_T52 x102002 x3).f2) 200 1200).bind fun t108=>(if t108=true then ((sawmillref37_from.f ((rd_T52 x102002 x3).f3) 0 400).bind fun t109=>(if t109=true then (sawmillref37_Check.l0 k (wrap64 (x3+1)) x102000 x102001 x102002) else (some 9))) else (some 9)))) else ((sawmillref37_from.f ((rd_T52 x102002 x3).f2) 200 1200).bind fun t110=>(if t110=true then ((sawmillref37_from.f ((rd_T52 x102002 x3).f3) 0 400).bind fun t111=>(if t111=true then (sawmillref37_Check.l0 k (wrap64 (x3+1)) x102000 x102001 x102002) else (some 9))) else (some 9)))) else (some 9))) else (some 9))) else (none)) else (some 0)
def sawmillref37_Check.f (k:Nat) (a0_0:ByteArray) (a0_1:Int) (l0_2:List (S52)):Option (Int):=(sawmillref02_IsName.f k a0_0).bind fun t102=>(if t102=true then ((sawmillref37_from.f a0_1 1 1200).bind fun t103=>(if t103=true then (if (l0_2.length:Int)=0 then (some 3) else (if (l0_2.length:Int) > 12 then (some 4) else (sawmillref37_Check.l0 k 0 a0_0 a0_1 l0_2))) else (some 9))) else (some 6))
theorem sawmillref37_Check.mono_l:∀ k,(∀ y0 y1 y2 y3,LeO (sawmillref37_Check.l0 k y0 y1 y2 y3) (sawmillref37_Check.l0 (k+1) y0 y1 y2 y3))
 | 0=>fun _ _ _ _ r h=>by simp [sawmillref37_Check.l0] at h
 | k+1=>by
  have ih0:=sawmillref37_Check.mono_l k
  ·intro y0 y1 y2 y3
   unfold sawmillref37_Check.l0
   repeat' first
   | (with_reducible exact ih0 _ _ _ _)
   | (with_reducible exact sawmillref02_IsName.mono _ _)
   | (with_reducible exact LeO.refl _)
   | (with_reducible exact LeO.none _)
   | (with_reducible refine LeO.ite ?_ ?_)
   | (with_reducible refine LeO.bind ?_ (fun _=>?_))
   | exact ih0 _ _ _ _
   | exact sawmillref02_IsName.mono _ _
   | exact LeO.none _
   | refine LeO.ite ?_ ?_
   | refine LeO.bind ?_ (fun _=>?_)
theorem sawmillref37_Check.mono:∀ a0 a1 a2 k,LeO (sawmillref37_Check.f k a0 a1 a2) (sawmillref37_Check.f (k+1) a0 a1 a2):=by
 intro a0 a1 a2 k
 have ih0:=sawmillref37_Check.mono_l k
 unfold sawmillref37_Check.f
 repeat' first
   | (with_reducible exact ih0 _ _ _ _)
   | (with_reducible exact sawmillref02_IsName.mono _ _)
   | (with_reducible exact LeO.refl _)
   | (with_reducible exact LeO.none _)
   | (with_reducible refine LeO.ite ?_ ?_)
   | (with_reducible refine LeO.bind ?_ (fun _=>?_))
   | exact ih0 _ _ _ _
   | exact sawmillref02_IsName.mono _ _
   | exact LeO.none _
   | refine LeO.ite ?_ ?_
   | refine LeO.bind ?_ (fun _=>?_)
set_option maxHeartbeats 8000000 in
set_option maxRecDepth 100000 in
theorem sawmillref37_Check.calls (k:Nat) (a0_0:ByteArray) (a0_1:Int) (A0_2:Option Addr) (c0_2:Nat) (l0_2:List (S52)) (r:Int) (w:World) (hr0_2:Kd.C k52 w A0_2 l0_2.length l0_2) (hc0_2:l0_2.length≤c0_2) (h:sawmillref37_Check.f k a0_0 a0_1 l0_2=some r) :
  Calls Tryd.prog 17 #[.agg #[.string a0_0,.int .i64 a0_1,.slice A0_2 l0_2.length c0_2]] w fun e w'=>e=.returned (.int .i64 r)∧Below w.heap.size w w':=by
 have hu24:=Tryd.underlying24
 have hu52:=Tryd.underlying52
 have HR0_2:=Aside0.mk hr0_2
 have HC0_2:=Aside0.mk hc0_2
 clear hr0_2 hc0_2
 have HB:=Aside0.mk (Below.refl w.heap.size w)
 have H:((sawmillref02_IsName.f k a0_0).bind fun t102=>(if t102=true then ((sawmillref37_from.f a0_1 1 1200).bind fun t103=>(if t103=true then (if (l0_2.length:Int)=0 then (some 3) else (if (l0_2.length:Int) > 12 then (some 4) else (sawmillref37_Check.l0 k 0 a0_0 a0_1 l0_2))) else (some 9))) else (some 6)))=some r:=h
 clear h
 replace H:=Option.bind_eq_some_iff.mp H
 obtain ⟨t102,A20,H⟩:=H
 replace H:(if t102=true then ((sawmillref37_from.f a0_1 1 1200).bind fun t103=>(if t103=true then (if (l0_2.length:Int)=0 then (some 3) else (if (l0_2.length:Int) > 12 then (some 4) else (sawmillref37_Check.l0 k 0 a0_0 a0_1 l0_2))) else (some 9))) else (some 6))=some r:=H
 have A2:=Aside0.mk A20
 clear A20
 by_cases c3:t102=true
 ·subst c3
  have H1:((sawmillref37_from.f a0_1 1 1200).bind fun t103=>(if t103=true then (if (l0_2.length:Int)=0 then (some 3) else (if (l0_2.length:Int) > 12 then (some 4) else (sawmillref37_Check.l0 k 0 a0_0 a0_1 l0_2))) else (some 9)))=some r:=by rw [if_pos rfl] at H;exact H
  clear H
  have H:=H1
  clear H1
  replace H:=Option.bind_eq_some_iff.mp H
  obtain ⟨t103,A40,H⟩:=H
  replace H:(if t103=true then (if (l0_2.length:Int)=0 then (some 3) else (if (l0_2.length:Int) > 12 then (some 4) else (sawmillref37_Check.l0 k 0 a0_0 a0_1 l0_2))) else (some 9))=some r:=H
  have A4:=Aside0.mk A40
  clear A40
  by_cases c5:t103=true
  ·subst c5
   have H1:(if (l0_2.length:Int)=0 then (some 3) else (if (l0_2.length:Int) > 12 then (some 4) else (sawmillref37_Check.l0 k 0 a0_0 a0_1 l0_2)))=some r:=by rw [if_pos rfl] at H;exact H
   clear H
   have H:=H1
   clear H1
   by_cases c6:(l0_2.length:Int)=0
   ·rw [if_pos c6] at H
    have c6b0:((l0_2.length:Int) == 0)=true:=beq_iff_eq.mpr c6
    have c6b1:((l0_2.length:Int) != 0)=false:=bne_eq_false_iff_eq.mpr c6
    clear c6
    obtain rfl:=Option.some.inj H
    go_enter Tryd.func17,Tryd.ntmps17
    go_wp2_with (first|((with_reducible refine gate_dst (N:=1) rfl ?_);refine box_event ?hg (N:=1) ?hd (cs:=#[.string a0_0,.int .i64 a0_1,.slice A0_2 l0_2.length c0_2]) (t:=24) ?hr ?_;(case hd=>rfl);(case hg=>rfl);(case hr=>first|(go_simp;done)|(go_simp;rfl));intro gb101 hg w7 hbox hb;have n0_:=Aside0.mk (below_step (by repeat (first|(with_reducible first|exact HB.out|apply below_alloc|apply pw_below_drewN|apply below_drew1)|exact HB.out)) hb);have n1_:=Aside0.mk (hbox);have n2_:=Aside0.mk ((by rw [hg];exact (below_size (by repeat (first|(with_reducible first|exact HB.out|apply below_alloc|apply pw_below_drewN|apply below_drew1)|exact HB.out))):w.heap.size≤gb101));have n3_:=Aside0.mk ((by rw [hg];exact (below_size (by repeat (first|(with_reducible first|exact HB.out|apply below_alloc|apply pw_below_drewN|apply below_drew1)|exact HB.out))):w.heap.size≤gb101));clear HB;have HB:=n0_;have BK101:=n1_;have GW101:=n2_;have GE101:=n3_;clear n0_ n1_ n2_ n3_;clear hb hbox hg;have hcz8_0:w7.cell? ⟨gb101,0,none⟩=some (.string a0_0):=(blk_cell BK101.out 0).trans rfl;have hcz8_1:w7.cell? ⟨gb101,1,none⟩=some (.int .i64 a0_1):=(blk_cell BK101.out 1).trans rfl;have hcz8_2:w7.cell? ⟨gb101,2,none⟩=some (.slice A0_2 l0_2.length c0_2):=(blk_cell BK101.out 2).trans rfl;have hfz8_0:=blk_frozen BK101.out 0;have hfz8_1:=blk_frozen BK101.out 1;have hfz8_2:=blk_frozen BK101.out 2)|((with_reducible refine gate_callee (f:=32) rfl ?_);refine goesL_ (some 7) rfl rfl Tryd.func32 (by kernel_rfl) rfl #[.string a0_0] rfl (by (try simp only [List.map_toArray,List.map_cons,List.map_nil]);first|done|rfl|(simp only [List.length_drop,List.length_take];rfl)) ?_;(with_reducible refine (sawmillref02_IsName.calls k a0_0 true _ A2.out).mono ?_);rintro e w' ⟨rfl,⟨nd,rfl⟩⟩;refine ⟨_,rfl,?_⟩)|((with_reducible refine gate_callee (f:=33) rfl ?_);refine goesL_ (some 11) rfl rfl Tryd.func33 (by kernel_rfl) rfl #[.int .i64 a0_1,.int .i64 1,.int .i64 1200] rfl (by (try simp only [List.map_toArray,List.map_cons,List.map_nil]);first|done|rfl|(simp only [List.length_drop,List.length_take];rfl)) ?_;(with_reducible refine (sawmillref37_from.calls a0_1 1 1200 true _ A4.out).mono ?_);rintro e w' ⟨rfl,⟨nd,rfl⟩⟩;refine ⟨_,rfl,?_⟩))
    go_ret
    exact ⟨by first|rfl|(simp [errW_none,errW_some]<;>rfl)|(simp [*,errW_none,errW_some]<;>rfl),by repeat (first|(with_reducible first|exact HB.out|apply below_alloc|apply pw_below_drewN|apply below_drew1|refine below_set ?_ GE101.out)|exact HB.out)⟩
   ·rw [if_neg c6] at H
    have c6b0:((l0_2.length:Int) == 0)=false:=beq_eq_false_iff_ne.mpr c6
    have c6b1:((l0_2.length:Int) != 0)=true:=bne_iff_ne.mpr c6
    have c6b2:¬ (l0_2=[]):=fun h_=>c6 (by rw [h_];rfl)
    by_cases c9:(l0_2.length:Int) > 12
    ·rw [if_pos c9] at H
     have c9b0:decide (12 < (l0_2.length:Int))=true:=decide_eq_true c9
     have c9b1:decide (12 < l0_2.length)=true:=decide_eq_true (by omega)
     clear c9
     obtain rfl:=Option.some.inj H
     go_enter Tryd.func17,Tryd.ntmps17
     go_wp2_with (first|((with_reducible refine gate_dst (N:=1) rfl ?_);refine box_event ?hg (N:=1) ?hd (cs:=#[.string a0_0,.int .i64 a0_1,.slice A0_2 l0_2.length c0_2]) (t:=24) ?hr ?_;(case hd=>rfl);(case hg=>rfl);(case hr=>first|(go_simp;done)|(go_simp;rfl));intro gb101 hg w10 hbox hb;have n0_:=Aside0.mk (below_step (by repeat (first|(with_reducible first|exact HB.out|apply below_alloc|apply pw_below_drewN|apply below_drew1)|exact HB.out)) hb);have n1_:=Aside0.mk (hbox);have n2_:=Aside0.mk ((by rw [hg];exact (below_size (by repeat (first|(with_reducible first|exact HB.out|apply below_alloc|apply pw_below_drewN|apply below_drew1)|exact HB.out))):w.heap.size≤gb101));have n3_:=Aside0.mk ((by rw [hg];exact (below_size (by repeat (first|(with_reducible first|exact HB.out|apply below_alloc|apply pw_below_drewN|apply below_drew1)|exact HB.out))):w.heap.size≤gb101));clear HB;have HB:=n0_;have BK101:=n1_;have GW101:=n2_;have GE101:=n3_;clear n0_ n1_ n2_ n3_;clear hb hbox hg;have hcz11_0:w10.cell? ⟨gb101,0,none⟩=some (.string a0_0):=(blk_cell BK101.out 0).trans rfl;have hcz11_1:w10.cell? ⟨gb101,1,none⟩=some (.int .i64 a0_1):=(blk_cell BK101.out 1).trans rfl;have hcz11_2:w10.cell? ⟨gb101,2,none⟩=some (.slice A0_2 l0_2.length c0_2):=(blk_cell BK101.out 2).trans rfl;have hfz11_0:=blk_frozen BK101.out 0;have hfz11_1:=blk_frozen BK101.out 1;have hfz11_2:=blk_frozen BK101.out 2)|((with_reducible refine gate_callee (f:=32) rfl ?_);refine goesL_ (some 7) rfl rfl Tryd.func32 (by kernel_rfl) rfl #[.string a0_0] rfl (by (try simp only [List.map_toArray,List.map_cons,List.map_nil]);first|done|rfl|(simp only [List.length_drop,List.length_take];rfl)) ?_;(with_reducible refine (sawmillref02_IsName.calls k a0_0 true _ A2.out).mono ?_);rintro e w' ⟨rfl,⟨nd,rfl⟩⟩;refine ⟨_,rfl,?_⟩)|((with_reducible refine gate_callee (f:=33) rfl ?_);refine goesL_ (some 11) rfl rfl Tryd.func33 (by kernel_rfl) rfl #[.int .i64 a0_1,.int .i64 1,.int .i64 1200] rfl (by (try simp only [List.map_toArray,List.map_cons,List.map_nil]);first|done|rfl|(simp only [List.length_drop,List.length_take];rfl)) ?_;(with_reducible refine (sawmillref37_from.calls a0_1 1 1200 true _ A4.out).mono ?_);rintro e w' ⟨rfl,⟨nd,rfl⟩⟩;refine ⟨_,rfl,?_⟩))
     go_ret
     exact ⟨by first|rfl|(simp [errW_none,errW_some]<;>rfl)|(simp [*,errW_none,errW_some]<;>rfl),by repeat (first|(with_reducible first|exact HB.out|apply below_alloc|apply pw_below_drewN|apply below_drew1|refine below_set ?_ GE101.out)|exact HB.out)⟩
    ·rw [if_neg c9] at H
     have c9b0:decide (12 < (l0_2.length:Int))=false:=decide_eq_false c9
     have c9b1:decide (12 < l0_2.length)=false:=decide_eq_false (by omega)
     clear c9
     have H':=Aside0.mk H
     clear H
     go_enter Tryd.func17,Tryd.ntmps17
     go_wp2_with (first|((with_reducible refine gate_dst (N:=1) rfl ?_);refine box_event ?hg (N:=1) ?hd (cs:=#[.string a0_0,.int .i64 a0_1,.slice A0_2 l0_2.length c0_2]) (t:=24) ?hr ?_;(case hd=>rfl);(case hg=>rfl);(case hr=>first|(go_simp;done)|(go_simp;rfl));intro gb101 hg w12 hbox hb;have n0_:=Aside0.mk (below_step (by repeat (first|(with_reducible first|exact HB.out|apply below_alloc|apply pw_below_drewN|apply below_drew1)|exact HB.out)) hb);have n1_:=Aside0.mk (hbox);have n2_:=Aside0.mk ((by rw [hg];exact (below_size (by repeat (first|(with_reducible first|exact HB.out|apply below_alloc|apply pw_below_drewN|apply below_drew1)|exact HB.out))):w.heap.size≤gb101));have n3_:=Aside0.mk ((by rw [hg];exact (below_size (by repeat (first|(with_reducible first|exact HB.out|apply below_alloc|apply pw_below_drewN|apply below_drew1)|exact HB.out))):w.heap.size≤gb101));clear HB;have HB:=n0_;have BK101:=n1_;have GW101:=n2_;have GE101:=n3_;clear n0_ n1_ n2_ n3_;clear hb hbox hg;have hcz13_0:w12.cell? ⟨gb101,0,none⟩=some (.string a0_0):=(blk_cell BK101.out 0).trans rfl;have hcz13_1:w12.cell? ⟨gb101,1,none⟩=some (.int .i64 a0_1):=(blk_cell BK101.out 1).trans rfl;have hcz13_2:w12.cell? ⟨gb101,2,none⟩=some (.slice A0_2 l0_2.length c0_2):=(blk_cell BK101.out 2).trans rfl;have hfz13_0:=blk_frozen BK101.out 0;have hfz13_1:=blk_frozen BK101.out 1;have hfz13_2:=blk_frozen BK101.out 2)|((with_reducible refine gate_callee (f:=32) rfl ?_);refine goesL_ (some 7) rfl rfl Tryd.func32 (by kernel_rfl) rfl #[.string a0_0] rfl (by (try simp only [List.map_toArray,List.map_cons,List.map_nil]);first|done|rfl|(simp only [List.length_drop,List.length_take];rfl)) ?_;(with_reducible refine (sawmillref02_IsName.calls k a0_0 true _ A2.out).mono ?_);rintro e w' ⟨rfl,⟨nd,rfl⟩⟩;refine ⟨_,rfl,?_⟩)|((with_reducible refine gate_callee (f:=33) rfl ?_);refine goesL_ (some 11) rfl rfl Tryd.func33 (by kernel_rfl) rfl #[.int .i64 a0_1,.int .i64 1,.int .i64 1200] rfl (by (try simp only [List.map_toArray,List.map_cons,List.map_nil]);first|done|rfl|(simp only [List.length_drop,List.length_take];rfl)) ?_;(with_reducible refine (sawmillref37_from.calls a0_1 1 1200 true _ A4.out).mono ?_);rintro e w' ⟨rfl,⟨nd,rfl⟩⟩;refine ⟨_,rfl,?_⟩))
     go_loopg [3] k (fun kq v3 w'=>∃ (x3_1:Int),v3=.int .i64 x3_1∧Aside0 (sawmillref37_Check.l0 kq x3_1 a0_0 a0_1 l0_2=some r)∧Aside0 (kq≤k)∧Aside0 (w'.heap[gb101]?=some (.cells #[.string a0_0,.int .i64 a0_1,(.slice A0_2 l0_2.length c0_2)] 24 (0,0)))∧Aside0 (Below w.heap.size w w'))
     case atStart=>exact ⟨(0),(by first|rfl|(simp;done)|(simp [*];done)),H',⟨Nat.le_refl _⟩,⟨by (with_reducible repeat (first|refine blk_drewN ?_ _|refine blk_drew ?_|refine blk_alloc ?_ _));exact BK101.out⟩,⟨by repeat (first|(with_reducible first|exact HB.out|apply below_alloc|apply pw_below_drewN|apply below_drew1|refine below_set ?_ GE101.out)|exact HB.out)⟩⟩
     case round =>
      clear H'
      try clear c1
      try clear p2
      try clear c3
      try clear c5
      try clear c6
      try clear c6b0
      try clear c6b1
      try clear c6b2
      try clear c9
      try clear c9b0
      try clear c9b1
      try clear hcz11_0
      try clear hcz11_1
      try clear hcz11_2
      try clear hcz13_0
      try clear hcz13_1
      try clear hcz13_2
      try clear hcz8_0
      try clear hcz8_1
      try clear hcz8_2
      try clear hfz11_0
      try clear hfz11_1
      try clear hfz11_2
      try clear hfz13_0
      try clear hfz13_1
      try clear hfz13_2
      try clear hfz8_0
      try clear hfz8_1
      try clear hfz8_2
      obtain ⟨x3_1,rfl,HA,HK1,BK101,HB⟩:=hrel
      cases gk with
      | zero=>exact absurd HA.out (by simp [sawmillref37_Check.l0])
      | succ k1 =>
       have H:=HA.out
       clear HA
       simp only [sawmillref37_Check.l0] at H
       by_cases c14:x3_1 < (l0_2.length:Int)
       ·rw [if_pos c14] at H
        have c14b0:decide (x3_1 < (l0_2.length:Int))=true:=decide_eq_true c14
        clear c14
        by_cases c15:0≤x3_1
        ·rw [if_pos c15] at H
         have c15b0:decide (0≤x3_1)=true:=decide_eq_true c15
         clear c15
         replace H:=Option.bind_eq_some_iff.mp H
         obtain ⟨t106,A160,H⟩:=H
         replace H:(if t106=true then ((sawmillref37_from.f ((rd_T52 l0_2 x3_1).f1) 0 10000).bind fun t107=>(if t107=true then (if ((rd_T52 l0_2 x3_1).f0)=0 then (if ((rd_T52 l0_2 x3_1).f1)=0 then (some 9) else ((sawmillref37_from.f ((rd_T52 l0_2 x3_1).f2) 200 1200).bind fun t108=>(if t108=true then ((sawmillref37_from.f ((rd_T52 l0_2 x3_1).f3) 0 400).bind fun t109=>(if t109=true then (sawmillref37_Check.l0 k1 (wrap64 (x3_1+1)) a0_0 a0_1 l0_2) else (some 9))) else (some 9)))) else ((sawmillref37_from.f ((rd_T52 l0_2 x3_1).f2) 200 1200).bind fun t110=>(if t110=true then ((sawmillref37_from.f ((rd_T52 l0_2 x3_1).f3) 0 400).bind fun t111=>(if t111=true then (sawmillref37_Check.l0 k1 (wrap64 (x3_1+1)) a0_0 a0_1 l0_2) else (some 9))) else (some 9)))) else (some 9))) else (some 9))=some r:=H
         have A16:=Aside0.mk A160
         clear A160
         by_cases c17:t106=true
         ·subst c17
          have H1:((sawmillref37_from.f ((rd_T52 l0_2 x3_1).f1) 0 10000).bind fun t107=>(if t107=true then (if ((rd_T52 l0_2 x3_1).f0)=0 then (if ((rd_T52 l0_2 x3_1).f1)=0 then (some 9) else ((sawmillref37_from.f ((rd_T52 l0_2 x3_1).f2) 200 1200).bind fun t108=>(if t108=true then ((sawmillref37_from.f ((rd_T52 l0_2 x3_1).f3) 0 400).bind fun t109=>(if t109=true then (sawmillref37_Check.l0 k1 (wrap64 (x3_1+1)) a0_0 a0_1 l0_2) else (some 9))) else (some 9)))) else ((sawmillref37_from.f ((rd_T52 l0_2 x3_1).f2) 200 1200).bind fun t110=>(if t110=true then ((sawmillref37_from.f ((rd_T52 l0_2 x3_1).f3) 0 400).bind fun t111=>(if t111=true then (sawmillref37_Check.l0 k1 (wrap64 (x3_1+1)) a0_0 a0_1 l0_2) else (some 9))) else (some 9)))) else (some 9)))=some r:=by rw [if_pos rfl] at H;exact H
          clear H
          have H:=H1
          clear H1
          replace H:=Option.bind_eq_some_iff.mp H
          obtain ⟨t107,A180,H⟩:=H
          replace H:(if t107=true then (if ((rd_T52 l0_2 x3_1).f0)=0 then (if ((rd_T52 l0_2 x3_1).f1)=0 then (some 9) else ((sawmillref37_from.f ((rd_T52 l0_2 x3_1).f2) 200 1200).bind fun t108=>(if t108=true then ((sawmillref37_from.f ((rd_T52 l0_2 x3_1).f3) 0 400).bind fun t109=>(if t109=true then (sawmillref37_Check.l0 k1 (wrap64 (x3_1+1)) a0_0 a0_1 l0_2) else (some 9))) else (some 9)))) else ((sawmillref37_from.f ((rd_T52 l0_2 x3_1).f2) 200 1200).bind fun t110=>(if t110=true then ((sawmillref37_from.f ((rd_T52 l0_2 x3_1).f3) 0 400).bind fun t111=>(if t111=true then (sawmillref37_Check.l0 k1 (wrap64 (x3_1+1)) a0_0 a0_1 l0_2) else (some 9))) else (some 9)))) else (some 9))=some r:=H
          have A18:=Aside0.mk A180
          clear A180
          by_cases c19:t107=true
          ·subst c19
           have H1:(if ((rd_T52 l0_2 x3_1).f0)=0 then (if ((rd_T52 l0_2 x3_1).f1)=0 then (some 9) else ((sawmillref37_from.f ((rd_T52 l0_2 x3_1).f2) 200 1200).bind fun t108=>(if t108=true then ((sawmillref37_from.f ((rd_T52 l0_2 x3_1).f3) 0 400).bind fun t109=>(if t109=true then (sawmillref37_Check.l0 k1 (wrap64 (x3_1+1)) a0_0 a0_1 l0_2) else (some 9))) else (some 9)))) else ((sawmillref37_from.f ((rd_T52 l0_2 x3_1).f2) 200 1200).bind fun t110=>(if t110=true then ((sawmillref37_from.f ((rd_T52 l0_2 x3_1).f3) 0 400).bind fun t111=>(if t111=true then (sawmillref37_Check.l0 k1 (wrap64 (x3_1+1)) a0_0 a0_1 l0_2) else (some 9))) else (some 9))))=some r:=by rw [if_pos rfl] at H;exact H
           clear H
           have H:=H1
           clear H1
           by_cases c20:((rd_T52 l0_2 x3_1).f0)=0
           ·rw [if_pos c20] at H
            have c20b0:(((rd_T52 l0_2 x3_1).f0) == 0)=true:=beq_iff_eq.mpr c20
            have c20b1:(((rd_T52 l0_2 x3_1).f0) != 0)=false:=bne_eq_false_iff_eq.mpr c20
            clear c20
            by_cases c21:((rd_T52 l0_2 x3_1).f1)=0
            ·rw [if_pos c21] at H
             have c21b0:(((rd_T52 l0_2 x3_1).f1) == 0)=true:=beq_iff_eq.mpr c21
             have c21b1:(((rd_T52 l0_2 x3_1).f1) != 0)=false:=bne_eq_false_iff_eq.mpr c21
             clear c21
             obtain rfl:=Option.some.inj H
             have hcz22_0:wr.cell? ⟨gb101,0,none⟩=some (.string a0_0):=(blk_cell BK101.out 0).trans rfl
             have hcz22_1:wr.cell? ⟨gb101,1,none⟩=some (.int .i64 a0_1):=(blk_cell BK101.out 1).trans rfl
             have hcz22_2:wr.cell? ⟨gb101,2,none⟩=some (.slice A0_2 l0_2.length c0_2):=(blk_cell BK101.out 2).trans rfl
             have hfz22_0:=blk_frozen BK101.out 0
             have hfz22_1:=blk_frozen BK101.out 1
             have hfz22_2:=blk_frozen BK101.out 2
             have p104:0≤(x3_1:Int):=of_decide_eq_true (by first|(with_reducible assumption)|assumption)
             have q104:x3_1 < (l0_2.length:Int):=of_decide_eq_true (by first|(with_reducible assumption)|assumption)
             obtain ⟨ad104,e104,hx104_0,hx104_1,hx104_2,hx104_3⟩:=at_T52 HR0_2.out x3_1 p104 q104
             cases e104
             replace hx104_0:=(HB.out.cell (World.block_lt_of_cell? w _ hx104_0)).trans hx104_0
             replace hx104_1:=(HB.out.cell (World.block_lt_of_cell? w _ hx104_1)).trans hx104_1
             replace hx104_2:=(HB.out.cell (World.block_lt_of_cell? w _ hx104_2)).trans hx104_2
             replace hx104_3:=(HB.out.cell (World.block_lt_of_cell? w _ hx104_3)).trans hx104_3
             replace p104:=eq_true p104
             replace q104:=eq_true q104
             go_wp2_with (first|((with_reducible refine gate_dst (N:=4) rfl ?_);refine box_event ?hg (N:=4) ?hd (cs:=#[.int .i64 0,.int .i64 0,.int .i64 0,.int .i64 0]) (t:=52) ?hr ?_;(case hd=>rfl);(case hg=>rfl);(case hr=>first|(go_simp;done)|(go_simp;rfl));intro gb105 hg w23 hbox hb;have n0_:=Aside0.mk (blk_below (g:=gb101) (o:=.cells #[.string a0_0,.int .i64 a0_1,.slice (some ad104) l0_2.length c0_2] 24 (0,0)) (by (with_reducible repeat (first|refine blk_drewN ?_ _|refine blk_drew ?_|refine blk_alloc ?_ _));exact BK101.out) hb);have n1_:=Aside0.mk (below_step (by repeat (first|(with_reducible first|exact HB.out|apply below_alloc|apply pw_below_drewN|apply below_drew1|refine below_set ?_ GE101.out)|exact HB.out)) hb);have n2_:=Aside0.mk (hbox);have n3_:=Aside0.mk ((by rw [hg];exact (below_size (by repeat (first|(with_reducible first|exact HB.out|apply below_alloc|apply pw_below_drewN|apply below_drew1|refine below_set ?_ GE101.out)|exact HB.out))):w.heap.size≤gb105));have n4_:=Aside0.mk ((by rw [hg];exact (below_size (by repeat (first|(with_reducible first|exact HB.out|apply below_alloc|apply pw_below_drewN|apply below_drew1|refine below_set ?_ GE101.out)|exact HB.out))):w.heap.size≤gb105));have n5_:=Aside0.mk ((by rw [hg];exact Nat.ne_of_lt (blk_lt (g:=gb101) (o:=.cells #[.string a0_0,.int .i64 a0_1,.slice (some ad104) l0_2.length c0_2] 24 (0,0)) (by (with_reducible repeat (first|refine blk_drewN ?_ _|refine blk_drew ?_|refine blk_alloc ?_ _));exact BK101.out)):gb101 ≠ gb105));have n6_:=Aside0.mk ((by rw [hg];exact Nat.ne_of_gt (blk_lt (g:=gb101) (o:=.cells #[.string a0_0,.int .i64 a0_1,.slice (some ad104) l0_2.length c0_2] 24 (0,0)) (by (with_reducible repeat (first|refine blk_drewN ?_ _|refine blk_drew ?_|refine blk_alloc ?_ _));exact BK101.out)):gb105 ≠ gb101));clear BK101;clear HB;have BK101:=n0_;have HB:=n1_;have BK105:=n2_;have GW105:=n3_;have GE105:=n4_;have NB101_105:=n5_;have NB105_101:=n6_;clear n0_ n1_ n2_ n3_ n4_ n5_ n6_;clear hb hbox hg;have hnb24:=NB105_101.out;have hnc24:=NB101_105.out;have hcz25_0:w23.cell? ⟨gb105,0,none⟩=some (.int .i64 0):=(blk_cell BK105.out 0).trans rfl;have hcz25_1:w23.cell? ⟨gb105,1,none⟩=some (.int .i64 0):=(blk_cell BK105.out 1).trans rfl;have hcz25_2:w23.cell? ⟨gb105,2,none⟩=some (.int .i64 0):=(blk_cell BK105.out 2).trans rfl;have hcz25_3:w23.cell? ⟨gb105,3,none⟩=some (.int .i64 0):=(blk_cell BK105.out 3).trans rfl;have hfz25_0:=blk_frozen BK105.out 0;have hfz25_1:=blk_frozen BK105.out 1;have hfz25_2:=blk_frozen BK105.out 2;have hfz25_3:=blk_frozen BK105.out 3)|((with_reducible refine gate_callee (f:=33) rfl ?_);refine goesL_ (some 35) rfl rfl Tryd.func33 (by kernel_rfl) rfl #[.int .i64 ((rd_T52 l0_2 x3_1).f0),.int .i64 0,.int .i64 20000] rfl (by (try simp only [List.map_toArray,List.map_cons,List.map_nil]);first|done|rfl|(simp only [List.length_drop,List.length_take];rfl)) ?_;(with_reducible refine (sawmillref37_from.calls ((rd_T52 l0_2 x3_1).f0) 0 20000 true _ A16.out).mono ?_);rintro e w' ⟨rfl,⟨nd,rfl⟩⟩;refine ⟨_,rfl,?_⟩)|(go_at_call 33;(with_reducible refine (sawmillref37_from.calls ((rd_T52 l0_2 x3_1).f1) 0 10000 true _ A18.out).mono ?_);rintro e w' ⟨rfl,⟨nd,rfl⟩⟩))
             go_ret
             exact ⟨by first|rfl|(simp [errW_none,errW_some]<;>rfl)|(simp [*,errW_none,errW_some]<;>rfl),by repeat (first|(with_reducible first|exact HB.out|apply below_alloc|apply pw_below_drewN|apply below_drew1|refine below_set ?_ GE101.out|refine below_set ?_ GE105.out)|exact HB.out)⟩
            ·rw [if_neg c21] at H
             have c21b0:(((rd_T52 l0_2 x3_1).f1) == 0)=false:=beq_eq_false_iff_ne.mpr c21
             have c21b1:(((rd_T52 l0_2 x3_1).f1) != 0)=true:=bne_iff_ne.mpr c21
             replace H:=Option.bind_eq_some_iff.mp H
             obtain ⟨t108,A260,H⟩:=H
             replace H:(if t108=true then ((sawmillref37_from.f ((rd_T52 l0_2 x3_1).f3) 0 400).bind fun t109=>(if t109=true then (sawmillref37_Check.l0 k1 (wrap64 (x3_1+1)) a0_0 a0_1 l0_2) else (some 9))) else (some 9))=some r:=H
             have A26:=Aside0.mk A260
             clear A260
             by_cases c27:t108=true
             ·subst c27
              have H1:((sawmillref37_from.f ((rd_T52 l0_2 x3_1).f3) 0 400).bind fun t109=>(if t109=true then (sawmillref37_Check.l0 k1 (wrap64 (x3_1+1)) a0_0 a0_1 l0_2) else (some 9)))=some r:=by rw [if_pos rfl] at H;exact H
              clear H
              have H:=H1
              clear H1
              replace H:=Option.bind_eq_some_iff.mp H
              obtain ⟨t109,A280,H⟩:=H
              replace H:(if t109=true then (sawmillref37_Check.l0 k1 (wrap64 (x3_1+1)) a0_0 a0_1 l0_2) else (some 9))=some r:=H
              have A28:=Aside0.mk A280
              clear A280
              by_cases c29:t109=true
              ·subst c29
               have H1:(sawmillref37_Check.l0 k1 (wrap64 (x3_1+1)) a0_0 a0_1 l0_2)=some r:=by rw [if_pos rfl] at H;exact H
               clear H
               have H:=H1
               clear H1
               have H':=Aside0.mk H
               clear H
               have hcz30_0:wr.cell? ⟨gb101,0,none⟩=some (.string a0_0):=(blk_cell BK101.out 0).trans rfl
               have hcz30_1:wr.cell? ⟨gb101,1,none⟩=some (.int .i64 a0_1):=(blk_cell BK101.out 1).trans rfl
               have hcz30_2:wr.cell? ⟨gb101,2,none⟩=some (.slice A0_2 l0_2.length c0_2):=(blk_cell BK101.out 2).trans rfl
               have hfz30_0:=blk_frozen BK101.out 0
               have hfz30_1:=blk_frozen BK101.out 1
               have hfz30_2:=blk_frozen BK101.out 2
               have p104:0≤(x3_1:Int):=of_decide_eq_true (by first|(with_reducible assumption)|assumption)
               have q104:x3_1 < (l0_2.length:Int):=of_decide_eq_true (by first|(with_reducible assumption)|assumption)
               obtain ⟨ad104,e104,hx104_0,hx104_1,hx104_2,hx104_3⟩:=at_T52 HR0_2.out x3_1 p104 q104
               cases e104
               replace hx104_0:=(HB.out.cell (World.block_lt_of_cell? w _ hx104_0)).trans hx104_0
               replace hx104_1:=(HB.out.cell (World.block_lt_of_cell? w _ hx104_1)).trans hx104_1
               replace hx104_2:=(HB.out.cell (World.block_lt_of_cell? w _ hx104_2)).trans hx104_2
               replace hx104_3:=(HB.out.cell (World.block_lt_of_cell? w _ hx104_3)).trans hx104_3
               replace p104:=eq_true p104
               replace q104:=eq_true q104
               go_wp2_with (first|((with_reducible refine gate_dst (N:=4) rfl ?_);refine box_event ?hg (N:=4) ?hd (cs:=#[.int .i64 0,.int .i64 0,.int .i64 0,.int .i64 0]) (t:=52) ?hr ?_;(case hd=>rfl);(case hg=>rfl);(case hr=>first|(go_simp;done)|(go_simp;rfl));intro gb105 hg w31 hbox hb;have n0_:=Aside0.mk (blk_below (g:=gb101) (o:=.cells #[.string a0_0,.int .i64 a0_1,.slice (some ad104) l0_2.length c0_2] 24 (0,0)) (by (with_reducible repeat (first|refine blk_drewN ?_ _|refine blk_drew ?_|refine blk_alloc ?_ _));exact BK101.out) hb);have n1_:=Aside0.mk (below_step (by repeat (first|(with_reducible first|exact HB.out|apply below_alloc|apply pw_below_drewN|apply below_drew1|refine below_set ?_ GE101.out)|exact HB.out)) hb);have n2_:=Aside0.mk (hbox);have n3_:=Aside0.mk ((by rw [hg];exact (below_size (by repeat (first|(with_reducible first|exact HB.out|apply below_alloc|apply pw_below_drewN|apply below_drew1|refine below_set ?_ GE101.out)|exact HB.out))):w.heap.size≤gb105));have n4_:=Aside0.mk ((by rw [hg];exact (below_size (by repeat (first|(with_reducible first|exact HB.out|apply below_alloc|apply pw_below_drewN|apply below_drew1|refine below_set ?_ GE101.out)|exact HB.out))):w.heap.size≤gb105));have n5_:=Aside0.mk ((by rw [hg];exact Nat.ne_of_lt (blk_lt (g:=gb101) (o:=.cells #[.string a0_0,.int .i64 a0_1,.slice (some ad104) l0_2.length c0_2] 24 (0,0)) (by (with_reducible repeat (first|refine blk_drewN ?_ _|refine blk_drew ?_|refine blk_alloc ?_ _));exact BK101.out)):gb101 ≠ gb105));have n6_:=Aside0.mk ((by rw [hg];exact Nat.ne_of_gt (blk_lt (g:=gb101) (o:=.cells #[.string a0_0,.int .i64 a0_1,.slice (some ad104) l0_2.length c0_2] 24 (0,0)) (by (with_reducible repeat (first|refine blk_drewN ?_ _|refine blk_drew ?_|refine blk_alloc ?_ _));exact BK101.out)):gb105 ≠ gb101));clear BK101;clear HB;have BK101:=n0_;have HB:=n1_;have BK105:=n2_;have GW105:=n3_;have GE105:=n4_;have NB101_105:=n5_;have NB105_101:=n6_;clear n0_ n1_ n2_ n3_ n4_ n5_ n6_;clear hb hbox hg;have hnb32:=NB105_101.out;have hnc32:=NB101_105.out;have hcz33_0:w31.cell? ⟨gb105,0,none⟩=some (.int .i64 0):=(blk_cell BK105.out 0).trans rfl;have hcz33_1:w31.cell? ⟨gb105,1,none⟩=some (.int .i64 0):=(blk_cell BK105.out 1).trans rfl;have hcz33_2:w31.cell? ⟨gb105,2,none⟩=some (.int .i64 0):=(blk_cell BK105.out 2).trans rfl;have hcz33_3:w31.cell? ⟨gb105,3,none⟩=some (.int .i64 0):=(blk_cell BK105.out 3).trans rfl;have hfz33_0:=blk_frozen BK105.out 0;have hfz33_1:=blk_frozen BK105.out 1;have hfz33_2:=blk_frozen BK105.out 2;have hfz33_3:=blk_frozen BK105.out 3)|((with_reducible refine gate_callee (f:=33) rfl ?_);refine goesL_ (some 35) rfl rfl Tryd.func33 (by kernel_rfl) rfl #[.int .i64 ((rd_T52 l0_2 x3_1).f0),.int .i64 0,.int .i64 20000] rfl (by (try simp only [List.map_toArray,List.map_cons,List.map_nil]);first|done|rfl|(simp only [List.length_drop,List.length_take];rfl)) ?_;(with_reducible refine (sawmillref37_from.calls ((rd_T52 l0_2 x3_1).f0) 0 20000 true _ A16.out).mono ?_);rintro e w' ⟨rfl,⟨nd,rfl⟩⟩;refine ⟨_,rfl,?_⟩)|(go_at_call 33;(with_reducible refine (sawmillref37_from.calls ((rd_T52 l0_2 x3_1).f1) 0 10000 true _ A18.out).mono ?_);rintro e w' ⟨rfl,⟨nd,rfl⟩⟩)|(go_at_call 33;(with_reducible refine (sawmillref37_from.calls ((rd_T52 l0_2 x3_1).f2) 200 1200 true _ A26.out).mono ?_);rintro e w' ⟨rfl,⟨nd,rfl⟩⟩)|(go_at_call 33;(with_reducible refine (sawmillref37_from.calls ((rd_T52 l0_2 x3_1).f3) 0 400 true _ A28.out).mono ?_);rintro e w' ⟨rfl,⟨nd,rfl⟩⟩))
               go_roundg k1
               case measure=>have:=HK1.out;omega
               case rel=>exact ⟨(wrap64 (x3_1+1)),(by first|rfl|(simp;done)|(simp [*];done)),H',⟨by have:=HK1.out;omega⟩,⟨by (with_reducible repeat (first|refine blk_drewN ?_ _|refine blk_drew ?_|refine blk_alloc ?_ _));refine blk_far ?_ NB101_105.out _;(with_reducible repeat (first|refine blk_drewN ?_ _|refine blk_drew ?_|refine blk_alloc ?_ _));refine blk_far ?_ NB101_105.out _;(with_reducible repeat (first|refine blk_drewN ?_ _|refine blk_drew ?_|refine blk_alloc ?_ _));refine blk_far ?_ NB101_105.out _;(with_reducible repeat (first|refine blk_drewN ?_ _|refine blk_drew ?_|refine blk_alloc ?_ _));refine blk_far ?_ NB101_105.out _;(with_reducible repeat (first|refine blk_drewN ?_ _|refine blk_drew ?_|refine blk_alloc ?_ _));exact BK101.out⟩,⟨by repeat (first|(with_reducible first|exact HB.out|apply below_alloc|apply pw_below_drewN|apply below_drew1|refine below_set ?_ GE101.out|refine below_set ?_ GE105.out)|exact HB.out)⟩⟩
              ·replace c29:=Bool.eq_false_iff.mpr c29
               subst c29
               have H1:(some 9)=some r:=by rw [if_neg (show ¬ (false=true) by decide)] at H;exact H
               clear H
               have H:=H1
               clear H1
               obtain rfl:=Option.some.inj H
               have hcz34_0:wr.cell? ⟨gb101,0,none⟩=some (.string a0_0):=(blk_cell BK101.out 0).trans rfl
               have hcz34_1:wr.cell? ⟨gb101,1,none⟩=some (.int .i64 a0_1):=(blk_cell BK101.out 1).trans rfl
               have hcz34_2:wr.cell? ⟨gb101,2,none⟩=some (.slice A0_2 l0_2.length c0_2):=(blk_cell BK101.out 2).trans rfl
               have hfz34_0:=blk_frozen BK101.out 0
               have hfz34_1:=blk_frozen BK101.out 1
               have hfz34_2:=blk_frozen BK101.out 2
               have p104:0≤(x3_1:Int):=of_decide_eq_true (by first|(with_reducible assumption)|assumption)
               have q104:x3_1 < (l0_2.length:Int):=of_decide_eq_true (by first|(with_reducible assumption)|assumption)
               obtain ⟨ad104,e104,hx104_0,hx104_1,hx104_2,hx104_3⟩:=at_T52 HR0_2.out x3_1 p104 q104
               cases e104
               replace hx104_0:=(HB.out.cell (World.block_lt_of_cell? w _ hx104_0)).trans hx104_0
               replace hx104_1:=(HB.out.cell (World.block_lt_of_cell? w _ hx104_1)).trans hx104_1
               replace hx104_2:=(HB.out.cell (World.block_lt_of_cell? w _ hx104_2)).trans hx104_2
               replace hx104_3:=(HB.out.cell (World.block_lt_of_cell? w _ hx104_3)).trans hx104_3
               replace p104:=eq_true p104
               replace q104:=eq_true q104
               go_wp2_with (first|((with_reducible refine gate_dst (N:=4) rfl ?_);refine box_event ?hg (N:=4) ?hd (cs:=#[.int .i64 0,.int .i64 0,.int .i64 0,.int .i64 0]) (t:=52) ?hr ?_;(case hd=>rfl);(case hg=>rfl);(case hr=>first|(go_simp;done)|(go_simp;rfl));intro gb105 hg w35 hbox hb;have n0_:=Aside0.mk (blk_below (g:=gb101) (o:=.cells #[.string a0_0,.int .i64 a0_1,.slice (some ad104) l0_2.length c0_2] 24 (0,0)) (by (with_reducible repeat (first|refine blk_drewN ?_ _|refine blk_drew ?_|refine blk_alloc ?_ _));exact BK101.out) hb);have n1_:=Aside0.mk (below_step (by repeat (first|(with_reducible first|exact HB.out|apply below_alloc|apply pw_below_drewN|apply below_drew1|refine below_set ?_ GE101.out)|exact HB.out)) hb);have n2_:=Aside0.mk (hbox);have n3_:=Aside0.mk ((by rw [hg];exact (below_size (by repeat (first|(with_reducible first|exact HB.out|apply below_alloc|apply pw_below_drewN|apply below_drew1|refine below_set ?_ GE101.out)|exact HB.out))):w.heap.size≤gb105));have n4_:=Aside0.mk ((by rw [hg];exact (below_size (by repeat (first|(with_reducible first|exact HB.out|apply below_alloc|apply pw_below_drewN|apply below_drew1|refine below_set ?_ GE101.out)|exact HB.out))):w.heap.size≤gb105));have n5_:=Aside0.mk ((by rw [hg];exact Nat.ne_of_lt (blk_lt (g:=gb101) (o:=.cells #[.string a0_0,.int .i64 a0_1,.slice (some ad104) l0_2.length c0_2] 24 (0,0)) (by (with_reducible repeat (first|refine blk_drewN ?_ _|refine blk_drew ?_|refine blk_alloc ?_ _));exact BK101.out)):gb101 ≠ gb105));have n6_:=Aside0.mk ((by rw [hg];exact Nat.ne_of_gt (blk_lt (g:=gb101) (o:=.cells #[.string a0_0,.int .i64 a0_1,.slice (some ad104) l0_2.length c0_2] 24 (0,0)) (by (with_reducible repeat (first|refine blk_drewN ?_ _|refine blk_drew ?_|refine blk_alloc ?_ _));exact BK101.out)):gb105 ≠ gb101));clear BK101;clear HB;have BK101:=n0_;have HB:=n1_;have BK105:=n2_;have GW105:=n3_;have GE105:=n4_;have NB101_105:=n5_;have NB105_101:=n6_;clear n0_ n1_ n2_ n3_ n4_ n5_ n6_;clear hb hbox hg;have hnb36:=NB105_101.out;have hnc36:=NB101_105.out;have hcz37_0:w35.cell? ⟨gb105,0,none⟩=some (.int .i64 0):=(blk_cell BK105.out 0).trans rfl;have hcz37_1:w35.cell? ⟨gb105,1,none⟩=some (.int .i64 0):=(blk_cell BK105.out 1).trans rfl;have hcz37_2:w35.cell? ⟨gb105,2,none⟩=some (.int .i64 0):=(blk_cell BK105.out 2).trans rfl;have hcz37_3:w35.cell? ⟨gb105,3,none⟩=some (.int .i64 0):=(blk_cell BK105.out 3).trans rfl;have hfz37_0:=blk_frozen BK105.out 0;have hfz37_1:=blk_frozen BK105.out 1;have hfz37_2:=blk_frozen BK105.out 2;have hfz37_3:=blk_frozen BK105.out 3)|((with_reducible refine gate_callee (f:=33) rfl ?_);refine goesL_ (some 35) rfl rfl Tryd.func33 (by kernel_rfl) rfl #[.int .i64 ((rd_T52 l0_2 x3_1).f0),.int .i64 0,.int .i64 20000] rfl (by (try simp only [List.map_toArray,List.map_cons,List.map_nil]);first|done|rfl|(simp only [List.length_drop,List.length_take];rfl)) ?_;(with_reducible refine (sawmillref37_from.calls ((rd_T52 l0_2 x3_1).f0) 0 20000 true _ A16.out).mono ?_);rintro e w' ⟨rfl,⟨nd,rfl⟩⟩;refine ⟨_,rfl,?_⟩)|(go_at_call 33;(with_reducible refine (sawmillref37_from.calls ((rd_T52 l0_2 x3_1).f1) 0 10000 true _ A18.out).mono ?_);rintro e w' ⟨rfl,⟨nd,rfl⟩⟩)|(go_at_call 33;(with_reducible refine (sawmillref37_from.calls ((rd_T52 l0_2 x3_1).f2) 200 1200 true _ A26.out).mono ?_);rintro e w' ⟨rfl,⟨nd,rfl⟩⟩)|(go_at_call 33;(with_reducible refine (sawmillref37_from.calls ((rd_T52 l0_2 x3_1).f3) 0 400 false _ A28.out).mono ?_);rintro e w' ⟨rfl,⟨nd,rfl⟩⟩))
               go_ret
               exact ⟨by first|rfl|(simp [errW_none,errW_some]<;>rfl)|(simp [*,errW_none,errW_some]<;>rfl),by repeat (first|(with_reducible first|exact HB.out|apply below_alloc|apply pw_below_drewN|apply below_drew1|refine below_set ?_ GE101.out|refine below_set ?_ GE105.out)|exact HB.out)⟩
             ·replace c27:=Bool.eq_false_iff.mpr c27
              subst c27
              have H1:(some 9)=some r:=by rw [if_neg (show ¬ (false=true) by decide)] at H;exact H
              clear H
              have H:=H1
              clear H1
              obtain rfl:=Option.some.inj H
              have hcz38_0:wr.cell? ⟨gb101,0,none⟩=some (.string a0_0):=(blk_cell BK101.out 0).trans rfl
              have hcz38_1:wr.cell? ⟨gb101,1,none⟩=some (.int .i64 a0_1):=(blk_cell BK101.out 1).trans rfl
              have hcz38_2:wr.cell? ⟨gb101,2,none⟩=some (.slice A0_2 l0_2.length c0_2):=(blk_cell BK101.out 2).trans rfl
              have hfz38_0:=blk_frozen BK101.out 0
              have hfz38_1:=blk_frozen BK101.out 1
              have hfz38_2:=blk_frozen BK101.out 2
              have p104:0≤(x3_1:Int):=of_decide_eq_true (by first|(with_reducible assumption)|assumption)
              have q104:x3_1 < (l0_2.length:Int):=of_decide_eq_true (by first|(with_reducible assumption)|assumption)
              obtain ⟨ad104,e104,hx104_0,hx104_1,hx104_2,hx104_3⟩:=at_T52 HR0_2.out x3_1 p104 q104
              cases e104
              replace hx104_0:=(HB.out.cell (World.block_lt_of_cell? w _ hx104_0)).trans hx104_0
              replace hx104_1:=(HB.out.cell (World.block_lt_of_cell? w _ hx104_1)).trans hx104_1
              replace hx104_2:=(HB.out.cell (World.block_lt_of_cell? w _ hx104_2)).trans hx104_2
              replace hx104_3:=(HB.out.cell (World.block_lt_of_cell? w _ hx104_3)).trans hx104_3
              replace p104:=eq_true p104
              replace q104:=eq_true q104
              go_wp2_with (first|((with_reducible refine gate_dst (N:=4) rfl ?_);refine box_event ?hg (N:=4) ?hd (cs:=#[.int .i64 0,.int .i64 0,.int .i64 0,.int .i64 0]) (t:=52) ?hr ?_;(case hd=>rfl);(case hg=>rfl);(case hr=>first|(go_simp;done)|(go_simp;rfl));intro gb105 hg w39 hbox hb;have n0_:=Aside0.mk (blk_below (g:=gb101) (o:=.cells #[.string a0_0,.int .i64 a0_1,.slice (some ad104) l0_2.length c0_2] 24 (0,0)) (by (with_reducible repeat (first|refine blk_drewN ?_ _|refine blk_drew ?_|refine blk_alloc ?_ _));exact BK101.out) hb);have n1_:=Aside0.mk (below_step (by repeat (first|(with_reducible first|exact HB.out|apply below_alloc|apply pw_below_drewN|apply below_drew1|refine below_set ?_ GE101.out)|exact HB.out)) hb);have n2_:=Aside0.mk (hbox);have n3_:=Aside0.mk ((by rw [hg];exact (below_size (by repeat (first|(with_reducible first|exact HB.out|apply below_alloc|apply pw_below_drewN|apply below_drew1|refine below_set ?_ GE101.out)|exact HB.out))):w.heap.size≤gb105));have n4_:=Aside0.mk ((by rw [hg];exact (below_size (by repeat (first|(with_reducible first|exact HB.out|apply below_alloc|apply pw_below_drewN|apply below_drew1|refine below_set ?_ GE101.out)|exact HB.out))):w.heap.size≤gb105));have n5_:=Aside0.mk ((by rw [hg];exact Nat.ne_of_lt (blk_lt (g:=gb101) (o:=.cells #[.string a0_0,.int .i64 a0_1,.slice (some ad104) l0_2.length c0_2] 24 (0,0)) (by (with_reducible repeat (first|refine blk_drewN ?_ _|refine blk_drew ?_|refine blk_alloc ?_ _));exact BK101.out)):gb101 ≠ gb105));have n6_:=Aside0.mk ((by rw [hg];exact Nat.ne_of_gt (blk_lt (g:=gb101) (o:=.cells #[.string a0_0,.int .i64 a0_1,.slice (some ad104) l0_2.length c0_2] 24 (0,0)) (by (with_reducible repeat (first|refine blk_drewN ?_ _|refine blk_drew ?_|refine blk_alloc ?_ _));exact BK101.out)):gb105 ≠ gb101));clear BK101;clear HB;have BK101:=n0_;have HB:=n1_;have BK105:=n2_;have GW105:=n3_;have GE105:=n4_;have NB101_105:=n5_;have NB105_101:=n6_;clear n0_ n1_ n2_ n3_ n4_ n5_ n6_;clear hb hbox hg;have hnb40:=NB105_101.out;have hnc40:=NB101_105.out;have hcz41_0:w39.cell? ⟨gb105,0,none⟩=some (.int .i64 0):=(blk_cell BK105.out 0).trans rfl;have hcz41_1:w39.cell? ⟨gb105,1,none⟩=some (.int .i64 0):=(blk_cell BK105.out 1).trans rfl;have hcz41_2:w39.cell? ⟨gb105,2,none⟩=some (.int .i64 0):=(blk_cell BK105.out 2).trans rfl;have hcz41_3:w39.cell? ⟨gb105,3,none⟩=some (.int .i64 0):=(blk_cell BK105.out 3).trans rfl;have hfz41_0:=blk_frozen BK105.out 0;have hfz41_1:=blk_frozen BK105.out 1;have hfz41_2:=blk_frozen BK105.out 2;have hfz41_3:=blk_frozen BK105.out 3)|((with_reducible refine gate_callee (f:=33) rfl ?_);refine goesL_ (some 35) rfl rfl Tryd.func33 (by kernel_rfl) rfl #[.int .i64 ((rd_T52 l0_2 x3_1).f0),.int .i64 0,.int .i64 20000] rfl (by (try simp only [List.map_toArray,List.map_cons,List.map_nil]);first|done|rfl|(simp only [List.length_drop,List.length_take];rfl)) ?_;(with_reducible refine (sawmillref37_from.calls ((rd_T52 l0_2 x3_1).f0) 0 20000 true _ A16.out).mono ?_);rintro e w' ⟨rfl,⟨nd,rfl⟩⟩;refine ⟨_,rfl,?_⟩)|(go_at_call 33;(with_reducible refine (sawmillref37_from.calls ((rd_T52 l0_2 x3_1).f1) 0 10000 true _ A18.out).mono ?_);rintro e w' ⟨rfl,⟨nd,rfl⟩⟩)|(go_at_call 33;(with_reducible refine (sawmillref37_from.calls ((rd_T52 l0_2 x3_1).f2) 200 1200 false _ A26.out).mono ?_);rintro e w' ⟨rfl,⟨nd,rfl⟩⟩))
              go_ret
              exact ⟨by first|rfl|(simp [errW_none,errW_some]<;>rfl)|(simp [*,errW_none,errW_some]<;>rfl),by repeat (first|(with_reducible first|exact HB.out|apply below_alloc|apply pw_below_drewN|apply below_drew1|refine below_set ?_ GE101.out|refine below_set ?_ GE105.out)|exact HB.out)⟩
           ·rw [if_neg c20] at H
            have c20b0:(((rd_T52 l0_2 x3_1).f0) == 0)=false:=beq_eq_false_iff_ne.mpr c20
            have c20b1:(((rd_T52 l0_2 x3_1).f0) != 0)=true:=bne_iff_ne.mpr c20
            replace H:=Option.bind_eq_some_iff.mp H
            obtain ⟨t110,A420,H⟩:=H
            replace H:(if t110=true then ((sawmillref37_from.f ((rd_T52 l0_2 x3_1).f3) 0 400).bind fun t111=>(if t111=true then (sawmillref37_Check.l0 k1 (wrap64 (x3_1+1)) a0_0 a0_1 l0_2) else (some 9))) else (some 9))=some r:=H
            have A42:=Aside0.mk A420
            clear A420
            by_cases c43:t110=true
            ·subst c43
             have H1:((sawmillref37_from.f ((rd_T52 l0_2 x3_1).f3) 0 400).bind fun t111=>(if t111=true then (sawmillref37_Check.l0 k1 (wrap64 (x3_1+1)) a0_0 a0_1 l0_2) else (some 9)))=some r:=by rw [if_pos rfl] at H;exact H
             clear H
             have H:=H1
             clear H1
             replace H:=Option.bind_eq_some_iff.mp H
             obtain ⟨t111,A440,H⟩:=H
             replace H:(if t111=true then (sawmillref37_Check.l0 k1 (wrap64 (x3_1+1)) a0_0 a0_1 l0_2) else (some 9))=some r:=H
             have A44:=Aside0.mk A440
             clear A440
             by_cases c45:t111=true
             ·subst c45
              have H1:(sawmillref37_Check.l0 k1 (wrap64 (x3_1+1)) a0_0 a0_1 l0_2)=some r:=by rw [if_pos rfl] at H;exact H
              clear H
              have H:=H1
              clear H1
              have H':=Aside0.mk H
              clear H
              have hcz46_0:wr.cell? ⟨gb101,0,none⟩=some (.string a0_0):=(blk_cell BK101.out 0).trans rfl
              have hcz46_1:wr.cell? ⟨gb101,1,none⟩=some (.int .i64 a0_1):=(blk_cell BK101.out 1).trans rfl
              have hcz46_2:wr.cell? ⟨gb101,2,none⟩=some (.slice A0_2 l0_2.length c0_2):=(blk_cell BK101.out 2).trans rfl
              have hfz46_0:=blk_frozen BK101.out 0
              have hfz46_1:=blk_frozen BK101.out 1
              have hfz46_2:=blk_frozen BK101.out 2
              have p104:0≤(x3_1:Int):=of_decide_eq_true (by first|(with_reducible assumption)|assumption)
              have q104:x3_1 < (l0_2.length:Int):=of_decide_eq_true (by first|(with_reducible assumption)|assumption)
              obtain ⟨ad104,e104,hx104_0,hx104_1,hx104_2,hx104_3⟩:=at_T52 HR0_2.out x3_1 p104 q104
              cases e104
              replace hx104_0:=(HB.out.cell (World.block_lt_of_cell? w _ hx104_0)).trans hx104_0
              replace hx104_1:=(HB.out.cell (World.block_lt_of_cell? w _ hx104_1)).trans hx104_1
              replace hx104_2:=(HB.out.cell (World.block_lt_of_cell? w _ hx104_2)).trans hx104_2
              replace hx104_3:=(HB.out.cell (World.block_lt_of_cell? w _ hx104_3)).trans hx104_3
              replace p104:=eq_true p104
              replace q104:=eq_true q104
              go_wp2_with (first|((with_reducible refine gate_dst (N:=4) rfl ?_);refine box_event ?hg (N:=4) ?hd (cs:=#[.int .i64 0,.int .i64 0,.int .i64 0,.int .i64 0]) (t:=52) ?hr ?_;(case hd=>rfl);(case hg=>rfl);(case hr=>first|(go_simp;done)|(go_simp;rfl));intro gb105 hg w47 hbox hb;have n0_:=Aside0.mk (blk_below (g:=gb101) (o:=.cells #[.string a0_0,.int .i64 a0_1,.slice (some ad104) l0_2.length c0_2] 24 (0,0)) (by (with_reducible repeat (first|refine blk_drewN ?_ _|refine blk_drew ?_|refine blk_alloc ?_ _));exact BK101.out) hb);have n1_:=Aside0.mk (below_step (by repeat (first|(with_reducible first|exact HB.out|apply below_alloc|apply pw_below_drewN|apply below_drew1|refine below_set ?_ GE101.out)|exact HB.out)) hb);have n2_:=Aside0.mk (hbox);have n3_:=Aside0.mk ((by rw [hg];exact (below_size (by repeat (first|(with_reducible first|exact HB.out|apply below_alloc|apply pw_below_drewN|apply below_drew1|refine below_set ?_ GE101.out)|exact HB.out))):w.heap.size≤gb105));have n4_:=Aside0.mk ((by rw [hg];exact (below_size (by repeat (first|(with_reducible first|exact HB.out|apply below_alloc|apply pw_below_drewN|apply below_drew1|refine below_set ?_ GE101.out)|exact HB.out))):w.heap.size≤gb105));have n5_:=Aside0.mk ((by rw [hg];exact Nat.ne_of_lt (blk_lt (g:=gb101) (o:=.cells #[.string a0_0,.int .i64 a0_1,.slice (some ad104) l0_2.length c0_2] 24 (0,0)) (by (with_reducible repeat (first|refine blk_drewN ?_ _|refine blk_drew ?_|refine blk_alloc ?_ _));exact BK101.out)):gb101 ≠ gb105));have n6_:=Aside0.mk ((by rw [hg];exact Nat.ne_of_gt (blk_lt (g:=gb101) (o:=.cells #[.string a0_0,.int .i64 a0_1,.slice (some ad104) l0_2.length c0_2] 24 (0,0)) (by (with_reducible repeat (first|refine blk_drewN ?_ _|refine blk_drew ?_|refine blk_alloc ?_ _));exact BK101.out)):gb105 ≠ gb101));clear BK101;clear HB;have BK101:=n0_;have HB:=n1_;have BK105:=n2_;have GW105:=n3_;have GE105:=n4_;have NB101_105:=n5_;have NB105_101:=n6_;clear n0_ n1_ n2_ n3_ n4_ n5_ n6_;clear hb hbox hg;have hnb48:=NB105_101.out;have hnc48:=NB101_105.out;have hcz49_0:w47.cell? ⟨gb105,0,none⟩=some (.int .i64 0):=(blk_cell BK105.out 0).trans rfl;have hcz49_1:w47.cell? ⟨gb105,1,none⟩=some (.int .i64 0):=(blk_cell BK105.out 1).trans rfl;have hcz49_2:w47.cell? ⟨gb105,2,none⟩=some (.int .i64 0):=(blk_cell BK105.out 2).trans rfl;have hcz49_3:w47.cell? ⟨gb105,3,none⟩=some (.int .i64 0):=(blk_cell BK105.out 3).trans rfl;have hfz49_0:=blk_frozen BK105.out 0;have hfz49_1:=blk_frozen BK105.out 1;have hfz49_2:=blk_frozen BK105.out 2;have hfz49_3:=blk_frozen BK105.out 3)|((with_reducible refine gate_callee (f:=33) rfl ?_);refine goesL_ (some 35) rfl rfl Tryd.func33 (by kernel_rfl) rfl #[.int .i64 ((rd_T52 l0_2 x3_1).f0),.int .i64 0,.int .i64 20000] rfl (by (try simp only [List.map_toArray,List.map_cons,List.map_nil]);first|done|rfl|(simp only [List.length_drop,List.length_take];rfl)) ?_;(with_reducible refine (sawmillref37_from.calls ((rd_T52 l0_2 x3_1).f0) 0 20000 true _ A16.out).mono ?_);rintro e w' ⟨rfl,⟨nd,rfl⟩⟩;refine ⟨_,rfl,?_⟩)|(go_at_call 33;(with_reducible refine (sawmillref37_from.calls ((rd_T52 l0_2 x3_1).f1) 0 10000 true _ A18.out).mono ?_);rintro e w' ⟨rfl,⟨nd,rfl⟩⟩)|(go_at_call 33;(with_reducible refine (sawmillref37_from.calls ((rd_T52 l0_2 x3_1).f2) 200 1200 true _ A42.out).mono ?_);rintro e w' ⟨rfl,⟨nd,rfl⟩⟩)|(go_at_call 33;(with_reducible refine (sawmillref37_from.calls ((rd_T52 l0_2 x3_1).f3) 0 400 true _ A44.out).mono ?_);rintro e w' ⟨rfl,⟨nd,rfl⟩⟩))
              go_roundg k1
              case measure=>have:=HK1.out;omega
              case rel=>exact ⟨(wrap64 (x3_1+1)),(by first|rfl|(simp;done)|(simp [*];done)),H',⟨by have:=HK1.out;omega⟩,⟨by (with_reducible repeat (first|refine blk_drewN ?_ _|refine blk_drew ?_|refine blk_alloc ?_ _));refine blk_far ?_ NB101_105.out _;(with_reducible repeat (first|refine blk_drewN ?_ _|refine blk_drew ?_|refine blk_alloc ?_ _));refine blk_far ?_ NB101_105.out _;(with_reducible repeat (first|refine blk_drewN ?_ _|refine blk_drew ?_|refine blk_alloc ?_ _));refine blk_far ?_ NB101_105.out _;(with_reducible repeat (first|refine blk_drewN ?_ _|refine blk_drew ?_|refine blk_alloc ?_ _));refine blk_far ?_ NB101_105.out _;(with_reducible repeat (first|refine blk_drewN ?_ _|refine blk_drew ?_|refine blk_alloc ?_ _));exact BK101.out⟩,⟨by repeat (first|(with_reducible first|exact HB.out|apply below_alloc|apply pw_below_drewN|apply below_drew1|refine below_set ?_ GE101.out|refine below_set ?_ GE105.out)|exact HB.out)⟩⟩
             ·replace c45:=Bool.eq_false_iff.mpr c45
              subst c45
              have H1:(some 9)=some r:=by rw [if_neg (show ¬ (false=true) by decide)] at H;exact H
              clear H
              have H:=H1
              clear H1
              obtain rfl:=Option.some.inj H
              have hcz50_0:wr.cell? ⟨gb101,0,none⟩=some (.string a0_0):=(blk_cell BK101.out 0).trans rfl
              have hcz50_1:wr.cell? ⟨gb101,1,none⟩=some (.int .i64 a0_1):=(blk_cell BK101.out 1).trans rfl
              have hcz50_2:wr.cell? ⟨gb101,2,none⟩=some (.slice A0_2 l0_2.length c0_2):=(blk_cell BK101.out 2).trans rfl
              have hfz50_0:=blk_frozen BK101.out 0
              have hfz50_1:=blk_frozen BK101.out 1
              have hfz50_2:=blk_frozen BK101.out 2
              have p104:0≤(x3_1:Int):=of_decide_eq_true (by first|(with_reducible assumption)|assumption)
              have q104:x3_1 < (l0_2.length:Int):=of_decide_eq_true (by first|(with_reducible assumption)|assumption)
              obtain ⟨ad104,e104,hx104_0,hx104_1,hx104_2,hx104_3⟩:=at_T52 HR0_2.out x3_1 p104 q104
              cases e104
              replace hx104_0:=(HB.out.cell (World.block_lt_of_cell? w _ hx104_0)).trans hx104_0
              replace hx104_1:=(HB.out.cell (World.block_lt_of_cell? w _ hx104_1)).trans hx104_1
              replace hx104_2:=(HB.out.cell (World.block_lt_of_cell? w _ hx104_2)).trans hx104_2
              replace hx104_3:=(HB.out.cell (World.block_lt_of_cell? w _ hx104_3)).trans hx104_3
              replace p104:=eq_true p104
              replace q104:=eq_true q104
              go_wp2_with (first|((with_reducible refine gate_dst (N:=4) rfl ?_);refine box_event ?hg (N:=4) ?hd (cs:=#[.int .i64 0,.int .i64 0,.int .i64 0,.int .i64 0]) (t:=52) ?hr ?_;(case hd=>rfl);(case hg=>rfl);(case hr=>first|(go_simp;done)|(go_simp;rfl));intro gb105 hg w51 hbox hb;have n0_:=Aside0.mk (blk_below (g:=gb101) (o:=.cells #[.string a0_0,.int .i64 a0_1,.slice (some ad104) l0_2.length c0_2] 24 (0,0)) (by (with_reducible repeat (first|refine blk_drewN ?_ _|refine blk_drew ?_|refine blk_alloc ?_ _));exact BK101.out) hb);have n1_:=Aside0.mk (below_step (by repeat (first|(with_reducible first|exact HB.out|apply below_alloc|apply pw_below_drewN|apply below_drew1|refine below_set ?_ GE101.out)|exact HB.out)) hb);have n2_:=Aside0.mk (hbox);have n3_:=Aside0.mk ((by rw [hg];exact (below_size (by repeat (first|(with_reducible first|exact HB.out|apply below_alloc|apply pw_below_drewN|apply below_drew1|refine below_set ?_ GE101.out)|exact HB.out))):w.heap.size≤gb105));have n4_:=Aside0.mk ((by rw [hg];exact (below_size (by repeat (first|(with_reducible first|exact HB.out|apply below_alloc|apply pw_below_drewN|apply below_drew1|refine below_set ?_ GE101.out)|exact HB.out))):w.heap.size≤gb105));have n5_:=Aside0.mk ((by rw [hg];exact Nat.ne_of_lt (blk_lt (g:=gb101) (o:=.cells #[.string a0_0,.int .i64 a0_1,.slice (some ad104) l0_2.length c0_2] 24 (0,0)) (by (with_reducible repeat (first|refine blk_drewN ?_ _|refine blk_drew ?_|refine blk_alloc ?_ _));exact BK101.out)):gb101 ≠ gb105));have n6_:=Aside0.mk ((by rw [hg];exact Nat.ne_of_gt (blk_lt (g:=gb101) (o:=.cells #[.string a0_0,.int .i64 a0_1,.slice (some ad104) l0_2.length c0_2] 24 (0,0)) (by (with_reducible repeat (first|refine blk_drewN ?_ _|refine blk_drew ?_|refine blk_alloc ?_ _));exact BK101.out)):gb105 ≠ gb101));clear BK101;clear HB;have BK101:=n0_;have HB:=n1_;have BK105:=n2_;have GW105:=n3_;have GE105:=n4_;have NB101_105:=n5_;have NB105_101:=n6_;clear n0_ n1_ n2_ n3_ n4_ n5_ n6_;clear hb hbox hg;have hnb52:=NB105_101.out;have hnc52:=NB101_105.out;have hcz53_0:w51.cell? ⟨gb105,0,none⟩=some (.int .i64 0):=(blk_cell BK105.out 0).trans rfl;have hcz53_1:w51.cell? ⟨gb105,1,none⟩=some (.int .i64 0):=(blk_cell BK105.out 1).trans rfl;have hcz53_2:w51.cell? ⟨gb105,2,none⟩=some (.int .i64 0):=(blk_cell BK105.out 2).trans rfl;have hcz53_3:w51.cell? ⟨gb105,3,none⟩=some (.int .i64 0):=(blk_cell BK105.out 3).trans rfl;have hfz53_0:=blk_frozen BK105.out 0;have hfz53_1:=blk_frozen BK105.out 1;have hfz53_2:=blk_frozen BK105.out 2;have hfz53_3:=blk_frozen BK105.out 3)|((with_reducible refine gate_callee (f:=33) rfl ?_);refine goesL_ (some 35) rfl rfl Tryd.func33 (by kernel_rfl) rfl #[.int .i64 ((rd_T52 l0_2 x3_1).f0),.int .i64 0,.int .i64 20000] rfl (by (try simp only [List.map_toArray,List.map_cons,List.map_nil]);first|done|rfl|(simp only [List.length_drop,List.length_take];rfl)) ?_;(with_reducible refine (sawmillref37_from.calls ((rd_T52 l0_2 x3_1).f0) 0 20000 true _ A16.out).mono ?_);rintro e w' ⟨rfl,⟨nd,rfl⟩⟩;refine ⟨_,rfl,?_⟩)|(go_at_call 33;(with_reducible refine (sawmillref37_from.calls ((rd_T52 l0_2 x3_1).f1) 0 10000 true _ A18.out).mono ?_);rintro e w' ⟨rfl,⟨nd,rfl⟩⟩)|(go_at_call 33;(with_reducible refine (sawmillref37_from.calls ((rd_T52 l0_2 x3_1).f2) 200 1200 true _ A42.out).mono ?_);rintro e w' ⟨rfl,⟨nd,rfl⟩⟩)|(go_at_call 33;(with_reducible refine (sawmillref37_from.calls ((rd_T52 l0_2 x3_1).f3) 0 400 false _ A44.out).mono ?_);rintro e w' ⟨rfl,⟨nd,rfl⟩⟩))
              go_ret
              exact ⟨by first|rfl|(simp [errW_none,errW_some]<;>rfl)|(simp [*,errW_none,errW_some]<;>rfl),by repeat (first|(with_reducible first|exact HB.out|apply below_alloc|apply pw_below_drewN|apply below_drew1|refine below_set ?_ GE101.out|refine below_set ?_ GE105.out)|exact HB.out)⟩
            ·replace c43:=Bool.eq_false_iff.mpr c43
             subst c43
             have H1:(some 9)=some r:=by rw [if_neg (show ¬ (false=true) by decide)] at H;exact H
             clear H
             have H:=H1
             clear H1
             obtain rfl:=Option.some.inj H
             have hcz54_0:wr.cell? ⟨gb101,0,none⟩=some (.string a0_0):=(blk_cell BK101.out 0).trans rfl
             have hcz54_1:wr.cell? ⟨gb101,1,none⟩=some (.int .i64 a0_1):=(blk_cell BK101.out 1).trans rfl
             have hcz54_2:wr.cell? ⟨gb101,2,none⟩=some (.slice A0_2 l0_2.length c0_2):=(blk_cell BK101.out 2).trans rfl
             have hfz54_0:=blk_frozen BK101.out 0
             have hfz54_1:=blk_frozen BK101.out 1
             have hfz54_2:=blk_frozen BK101.out 2
             have p104:0≤(x3_1:Int):=of_decide_eq_true (by first|(with_reducible assumption)|assumption)
             have q104:x3_1 < (l0_2.length:Int):=of_decide_eq_true (by first|(with_reducible assumption)|assumption)
             obtain ⟨ad104,e104,hx104_0,hx104_1,hx104_2,hx104_3⟩:=at_T52 HR0_2.out x3_1 p104 q104
             cases e104
             replace hx104_0:=(HB.out.cell (World.block_lt_of_cell? w _ hx104_0)).trans hx104_0
             replace hx104_1:=(HB.out.cell (World.block_lt_of_cell? w _ hx104_1)).trans hx104_1
             replace hx104_2:=(HB.out.cell (World.block_lt_of_cell? w _ hx104_2)).trans hx104_2
             replace hx104_3:=(HB.out.cell (World.block_lt_of_cell? w _ hx104_3)).trans hx104_3
             replace p104:=eq_true p104
             replace q104:=eq_true q104
             go_wp2_with (first|((with_reducible refine gate_dst (N:=4) rfl ?_);refine box_event ?hg (N:=4) ?hd (cs:=#[.int .i64 0,.int .i64 0,.int .i64 0,.int .i64 0]) (t:=52) ?hr ?_;(case hd=>rfl);(case hg=>rfl);(case hr=>first|(go_simp;done)|(go_simp;rfl));intro gb105 hg w55 hbox hb;have n0_:=Aside0.mk (blk_below (g:=gb101) (o:=.cells #[.string a0_0,.int .i64 a0_1,.slice (some ad104) l0_2.length c0_2] 24 (0,0)) (by (with_reducible repeat (first|refine blk_drewN ?_ _|refine blk_drew ?_|refine blk_alloc ?_ _));exact BK101.out) hb);have n1_:=Aside0.mk (below_step (by repeat (first|(with_reducible first|exact HB.out|apply below_alloc|apply pw_below_drewN|apply below_drew1|refine below_set ?_ GE101.out)|exact HB.out)) hb);have n2_:=Aside0.mk (hbox);have n3_:=Aside0.mk ((by rw [hg];exact (below_size (by repeat (first|(with_reducible first|exact HB.out|apply below_alloc|apply pw_below_drewN|apply below_drew1|refine below_set ?_ GE101.out)|exact HB.out))):w.heap.size≤gb105));have n4_:=Aside0.mk ((by rw [hg];exact (below_size (by repeat (first|(with_reducible first|exact HB.out|apply below_alloc|apply pw_below_drewN|apply below_drew1|refine below_set ?_ GE101.out)|exact HB.out))):w.heap.size≤gb105));have n5_:=Aside0.mk ((by rw [hg];exact Nat.ne_of_lt (blk_lt (g:=gb101) (o:=.cells #[.string a0_0,.int .i64 a0_1,.slice (some ad104) l0_2.length c0_2] 24 (0,0)) (by (with_reducible repeat (first|refine blk_drewN ?_ _|refine blk_drew ?_|refine blk_alloc ?_ _));exact BK101.out)):gb101 ≠ gb105));have n6_:=Aside0.mk ((by rw [hg];exact Nat.ne_of_gt (blk_lt (g:=gb101) (o:=.cells #[.string a0_0,.int .i64 a0_1,.slice (some ad104) l0_2.length c0_2] 24 (0,0)) (by (with_reducible repeat (first|refine blk_drewN ?_ _|refine blk_drew ?_|refine blk_alloc ?_ _));exact BK101.out)):gb105 ≠ gb101));clear BK101;clear HB;have BK101:=n0_;have HB:=n1_;have BK105:=n2_;have GW105:=n3_;have GE105:=n4_;have NB101_105:=n5_;have NB105_101:=n6_;clear n0_ n1_ n2_ n3_ n4_ n5_ n6_;clear hb hbox hg;have hnb56:=NB105_101.out;have hnc56:=NB101_105.out;have hcz57_0:w55.cell? ⟨gb105,0,none⟩=some (.int .i64 0):=(blk_cell BK105.out 0).trans rfl;have hcz57_1:w55.cell? ⟨gb105,1,none⟩=some (.int .i64 0):=(blk_cell BK105.out 1).trans rfl;have hcz57_2:w55.cell? ⟨gb105,2,none⟩=some (.int .i64 0):=(blk_cell BK105.out 2).trans rfl;have hcz57_3:w55.cell? ⟨gb105,3,none⟩=some (.int .i64 0):=(blk_cell BK105.out 3).trans rfl;have hfz57_0:=blk_frozen BK105.out 0;have hfz57_1:=blk_frozen BK105.out 1;have hfz57_2:=blk_frozen BK105.out 2;have hfz57_3:=blk_frozen BK105.out 3)|((with_reducible refine gate_callee (f:=33) rfl ?_);refine goesL_ (some 35) rfl rfl Tryd.func33 (by kernel_rfl) rfl #[.int .i64 ((rd_T52 l0_2 x3_1).f0),.int .i64 0,.int .i64 20000] rfl (by (try simp only [List.map_toArray,List.map_cons,List.map_nil]);first|done|rfl|(simp only [List.length_drop,List.length_take];rfl)) ?_;(with_reducible refine (sawmillref37_from.calls ((rd_T52 l0_2 x3_1).f0) 0 20000 true _ A16.out).mono ?_);rintro e w' ⟨rfl,⟨nd,rfl⟩⟩;refine ⟨_,rfl,?_⟩)|(go_at_call 33;(with_reducible refine (sawmillref37_from.calls ((rd_T52 l0_2 x3_1).f1) 0 10000 true _ A18.out).mono ?_);rintro e w' ⟨rfl,⟨nd,rfl⟩⟩)|(go_at_call 33;(with_reducible refine (sawmillref37_from.calls ((rd_T52 l0_2 x3_1).f2) 200 1200 false _ A42.out).mono ?_);rintro e w' ⟨rfl,⟨nd,rfl⟩⟩))
             go_ret
             exact ⟨by first|rfl|(simp [errW_none,errW_some]<;>rfl)|(simp [*,errW_none,errW_some]<;>rfl),by repeat (first|(with_reducible first|exact HB.out|apply below_alloc|apply pw_below_drewN|apply below_drew1|refine below_set ?_ GE101.out|refine below_set ?_ GE105.out)|exact HB.out)⟩
          ·replace c19:=Bool.eq_false_iff.mpr c19
           subst c19
           have H1:(some 9)=some r:=by rw [if_neg (show ¬ (false=true) by decide)] at H;exact H
           clear H
           have H:=H1
           clear H1
           obtain rfl:=Option.some.inj H
           have hcz58_0:wr.cell? ⟨gb101,0,none⟩=some (.string a0_0):=(blk_cell BK101.out 0).trans rfl
           have hcz58_1:wr.cell? ⟨gb101,1,none⟩=some (.int .i64 a0_1):=(blk_cell BK101.out 1).trans rfl
           have hcz58_2:wr.cell? ⟨gb101,2,none⟩=some (.slice A0_2 l0_2.length c0_2):=(blk_cell BK101.out 2).trans rfl
           have hfz58_0:=blk_frozen BK101.out 0
           have hfz58_1:=blk_frozen BK101.out 1
           have hfz58_2:=blk_frozen BK101.out 2
           have p104:0≤(x3_1:Int):=of_decide_eq_true (by first|(with_reducible assumption)|assumption)
           have q104:x3_1 < (l0_2.length:Int):=of_decide_eq_true (by first|(with_reducible assumption)|assumption)
           obtain ⟨ad104,e104,hx104_0,hx104_1,hx104_2,hx104_3⟩:=at_T52 HR0_2.out x3_1 p104 q104
           cases e104
           replace hx104_0:=(HB.out.cell (World.block_lt_of_cell? w _ hx104_0)).trans hx104_0
           replace hx104_1:=(HB.out.cell (World.block_lt_of_cell? w _ hx104_1)).trans hx104_1
           replace hx104_2:=(HB.out.cell (World.block_lt_of_cell? w _ hx104_2)).trans hx104_2
           replace hx104_3:=(HB.out.cell (World.block_lt_of_cell? w _ hx104_3)).trans hx104_3
           replace p104:=eq_true p104
           replace q104:=eq_true q104
           go_wp2_with (first|((with_reducible refine gate_dst (N:=4) rfl ?_);refine box_event ?hg (N:=4) ?hd (cs:=#[.int .i64 0,.int .i64 0,.int .i64 0,.int .i64 0]) (t:=52) ?hr ?_;(case hd=>rfl);(case hg=>rfl);(case hr=>first|(go_simp;done)|(go_simp;rfl));intro gb105 hg w59 hbox hb;have n0_:=Aside0.mk (blk_below (g:=gb101) (o:=.cells #[.string a0_0,.int .i64 a0_1,.slice (some ad104) l0_2.length c0_2] 24 (0,0)) (by (with_reducible repeat (first|refine blk_drewN ?_ _|refine blk_drew ?_|refine blk_alloc ?_ _));exact BK101.out) hb);have n1_:=Aside0.mk (below_step (by repeat (first|(with_reducible first|exact HB.out|apply below_alloc|apply pw_below_drewN|apply below_drew1|refine below_set ?_ GE101.out)|exact HB.out)) hb);have n2_:=Aside0.mk (hbox);have n3_:=Aside0.mk ((by rw [hg];exact (below_size (by repeat (first|(with_reducible first|exact HB.out|apply below_alloc|apply pw_below_drewN|apply below_drew1|refine below_set ?_ GE101.out)|exact HB.out))):w.heap.size≤gb105));have n4_:=Aside0.mk ((by rw [hg];exact (below_size (by repeat (first|(with_reducible first|exact HB.out|apply below_alloc|apply pw_below_drewN|apply below_drew1|refine below_set ?_ GE101.out)|exact HB.out))):w.heap.size≤gb105));have n5_:=Aside0.mk ((by rw [hg];exact Nat.ne_of_lt (blk_lt (g:=gb101) (o:=.cells #[.string a0_0,.int .i64 a0_1,.slice (some ad104) l0_2.length c0_2] 24 (0,0)) (by (with_reducible repeat (first|refine blk_drewN ?_ _|refine blk_drew ?_|refine blk_alloc ?_ _));exact BK101.out)):gb101 ≠ gb105));have n6_:=Aside0.mk ((by rw [hg];exact Nat.ne_of_gt (blk_lt (g:=gb101) (o:=.cells #[.string a0_0,.int .i64 a0_1,.slice (some ad104) l0_2.length c0_2] 24 (0,0)) (by (with_reducible repeat (first|refine blk_drewN ?_ _|refine blk_drew ?_|refine blk_alloc ?_ _));exact BK101.out)):gb105 ≠ gb101));clear BK101;clear HB;have BK101:=n0_;have HB:=n1_;have BK105:=n2_;have GW105:=n3_;have GE105:=n4_;have NB101_105:=n5_;have NB105_101:=n6_;clear n0_ n1_ n2_ n3_ n4_ n5_ n6_;clear hb hbox hg;have hnb60:=NB105_101.out;have hnc60:=NB101_105.out;have hcz61_0:w59.cell? ⟨gb105,0,none⟩=some (.int .i64 0):=(blk_cell BK105.out 0).trans rfl;have hcz61_1:w59.cell? ⟨gb105,1,none⟩=some (.int .i64 0):=(blk_cell BK105.out 1).trans rfl;have hcz61_2:w59.cell? ⟨gb105,2,none⟩=some (.int .i64 0):=(blk_cell BK105.out 2).trans rfl;have hcz61_3:w59.cell? ⟨gb105,3,none⟩=some (.int .i64 0):=(blk_cell BK105.out 3).trans rfl;have hfz61_0:=blk_frozen BK105.out 0;have hfz61_1:=blk_frozen BK105.out 1;have hfz61_2:=blk_frozen BK105.out 2;have hfz61_3:=blk_frozen BK105.out 3)|((with_reducible refine gate_callee (f:=33) rfl ?_);refine goesL_ (some 35) rfl rfl Tryd.func33 (by kernel_rfl) rfl #[.int .i64 ((rd_T52 l0_2 x3_1).f0),.int .i64 0,.int .i64 20000] rfl (by (try simp only [List.map_toArray,List.map_cons,List.map_nil]);first|done|rfl|(simp only [List.length_drop,List.length_take];rfl)) ?_;(with_reducible refine (sawmillref37_from.calls ((rd_T52 l0_2 x3_1).f0) 0 20000 true _ A16.out).mono ?_);rintro e w' ⟨rfl,⟨nd,rfl⟩⟩;refine ⟨_,rfl,?_⟩)|(go_at_call 33;(with_reducible refine (sawmillref37_from.calls ((rd_T52 l0_2 x3_1).f1) 0 10000 false _ A18.out).mono ?_);rintro e w' ⟨rfl,⟨nd,rfl⟩⟩))
           go_ret
           exact ⟨by first|rfl|(simp [errW_none,errW_some]<;>rfl)|(simp [*,errW_none,errW_some]<;>rfl),by repeat (first|(with_reducible first|exact HB.out|apply below_alloc|apply pw_below_drewN|apply below_drew1|refine below_set ?_ GE101.out|refine below_set ?_ GE105.out)|exact HB.out)⟩
         ·replace c17:=Bool.eq_false_iff.mpr c17
          subst c17
          have H1:(some 9)=some r:=by rw [if_neg (show ¬ (false=true) by decide)] at H;exact H
          clear H
          have H:=H1
          clear H1
          obtain rfl:=Option.some.inj H
          have hcz62_0:wr.cell? ⟨gb101,0,none⟩=some (.string a0_0):=(blk_cell BK101.out 0).trans rfl
          have hcz62_1:wr.cell? ⟨gb101,1,none⟩=some (.int .i64 a0_1):=(blk_cell BK101.out 1).trans rfl
          have hcz62_2:wr.cell? ⟨gb101,2,none⟩=some (.slice A0_2 l0_2.length c0_2):=(blk_cell BK101.out 2).trans rfl
          have hfz62_0:=blk_frozen BK101.out 0
          have hfz62_1:=blk_frozen BK101.out 1
          have hfz62_2:=blk_frozen BK101.out 2
          have p104:0≤(x3_1:Int):=of_decide_eq_true (by first|(with_reducible assumption)|assumption)
          have q104:x3_1 < (l0_2.length:Int):=of_decide_eq_true (by first|(with_reducible assumption)|assumption)
          obtain ⟨ad104,e104,hx104_0,hx104_1,hx104_2,hx104_3⟩:=at_T52 HR0_2.out x3_1 p104 q104
          cases e104
          replace hx104_0:=(HB.out.cell (World.block_lt_of_cell? w _ hx104_0)).trans hx104_0
          replace hx104_1:=(HB.out.cell (World.block_lt_of_cell? w _ hx104_1)).trans hx104_1
          replace hx104_2:=(HB.out.cell (World.block_lt_of_cell? w _ hx104_2)).trans hx104_2
          replace hx104_3:=(HB.out.cell (World.block_lt_of_cell? w _ hx104_3)).trans hx104_3
          replace p104:=eq_true p104
          replace q104:=eq_true q104
          go_wp2_with (first|((with_reducible refine gate_dst (N:=4) rfl ?_);refine box_event ?hg (N:=4) ?hd (cs:=#[.int .i64 0,.int .i64 0,.int .i64 0,.int .i64 0]) (t:=52) ?hr ?_;(case hd=>rfl);(case hg=>rfl);(case hr=>first|(go_simp;done)|(go_simp;rfl));intro gb105 hg w63 hbox hb;have n0_:=Aside0.mk (blk_below (g:=gb101) (o:=.cells #[.string a0_0,.int .i64 a0_1,.slice (some ad104) l0_2.length c0_2] 24 (0,0)) (by (with_reducible repeat (first|refine blk_drewN ?_ _|refine blk_drew ?_|refine blk_alloc ?_ _));exact BK101.out) hb);have n1_:=Aside0.mk (below_step (by repeat (first|(with_reducible first|exact HB.out|apply below_alloc|apply pw_below_drewN|apply below_drew1|refine below_set ?_ GE101.out)|exact HB.out)) hb);have n2_:=Aside0.mk (hbox);have n3_:=Aside0.mk ((by rw [hg];exact (below_size (by repeat (first|(with_reducible first|exact HB.out|apply below_alloc|apply pw_below_drewN|apply below_drew1|refine below_set ?_ GE101.out)|exact HB.out))):w.heap.size≤gb105));have n4_:=Aside0.mk ((by rw [hg];exact (below_size (by repeat (first|(with_reducible first|exact HB.out|apply below_alloc|apply pw_below_drewN|apply below_drew1|refine below_set ?_ GE101.out)|exact HB.out))):w.heap.size≤gb105));have n5_:=Aside0.mk ((by rw [hg];exact Nat.ne_of_lt (blk_lt (g:=gb101) (o:=.cells #[.string a0_0,.int .i64 a0_1,.slice (some ad104) l0_2.length c0_2] 24 (0,0)) (by (with_reducible repeat (first|refine blk_drewN ?_ _|refine blk_drew ?_|refine blk_alloc ?_ _));exact BK101.out)):gb101 ≠ gb105));have n6_:=Aside0.mk ((by rw [hg];exact Nat.ne_of_gt (blk_lt (g:=gb101) (o:=.cells #[.string a0_0,.int .i64 a0_1,.slice (some ad104) l0_2.length c0_2] 24 (0,0)) (by (with_reducible repeat (first|refine blk_drewN ?_ _|refine blk_drew ?_|refine blk_alloc ?_ _));exact BK101.out)):gb105 ≠ gb101));clear BK101;clear HB;have BK101:=n0_;have HB:=n1_;have BK105:=n2_;have GW105:=n3_;have GE105:=n4_;have NB101_105:=n5_;have NB105_101:=n6_;clear n0_ n1_ n2_ n3_ n4_ n5_ n6_;clear hb hbox hg;have hnb64:=NB105_101.out;have hnc64:=NB101_105.out;have hcz65_0:w63.cell? ⟨gb105,0,none⟩=some (.int .i64 0):=(blk_cell BK105.out 0).trans rfl;have hcz65_1:w63.cell? ⟨gb105,1,none⟩=some (.int .i64 0):=(blk_cell BK105.out 1).trans rfl;have hcz65_2:w63.cell? ⟨gb105,2,none⟩=some (.int .i64 0):=(blk_cell BK105.out 2).trans rfl;have hcz65_3:w63.cell? ⟨gb105,3,none⟩=some (.int .i64 0):=(blk_cell BK105.out 3).trans rfl;have hfz65_0:=blk_frozen BK105.out 0;have hfz65_1:=blk_frozen BK105.out 1;have hfz65_2:=blk_frozen BK105.out 2;have hfz65_3:=blk_frozen BK105.out 3)|((with_reducible refine gate_callee (f:=33) rfl ?_);refine goesL_ (some 35) rfl rfl Tryd.func33 (by kernel_rfl) rfl #[.int .i64 ((rd_T52 l0_2 x3_1).f0),.int .i64 0,.int .i64 20000] rfl (by (try simp only [List.map_toArray,List.map_cons,List.map_nil]);first|done|rfl|(simp only [List.length_drop,List.length_take];rfl)) ?_;(with_reducible refine (sawmillref37_from.calls ((rd_T52 l0_2 x3_1).f0) 0 20000 false _ A16.out).mono ?_);rintro e w' ⟨rfl,⟨nd,rfl⟩⟩;refine ⟨_,rfl,?_⟩))
          go_ret
          exact ⟨by first|rfl|(simp [errW_none,errW_some]<;>rfl)|(simp [*,errW_none,errW_some]<;>rfl),by repeat (first|(with_reducible first|exact HB.out|apply below_alloc|apply pw_below_drewN|apply below_drew1|refine below_set ?_ GE101.out|refine below_set ?_ GE105.out)|exact HB.out)⟩
        ·rw [if_neg c15] at H
         exact absurd H (by simp)
       ·rw [if_neg c14] at H
        have c14b0:decide (x3_1 < (l0_2.length:Int))=false:=decide_eq_false c14
        clear c14
        obtain rfl:=Option.some.inj H
        have hcz66_0:wr.cell? ⟨gb101,0,none⟩=some (.string a0_0):=(blk_cell BK101.out 0).trans rfl
        have hcz66_1:wr.cell? ⟨gb101,1,none⟩=some (.int .i64 a0_1):=(blk_cell BK101.out 1).trans rfl
        have hcz66_2:wr.cell? ⟨gb101,2,none⟩=some (.slice A0_2 l0_2.length c0_2):=(blk_cell BK101.out 2).trans rfl
        have hfz66_0:=blk_frozen BK101.out 0
        have hfz66_1:=blk_frozen BK101.out 1
        have hfz66_2:=blk_frozen BK101.out 2
        go_wp2
        go_ret
        exact ⟨by first|rfl|(simp [errW_none,errW_some]<;>rfl)|(simp [*,errW_none,errW_some]<;>rfl),by repeat (first|(with_reducible first|exact HB.out|apply below_alloc|apply pw_below_drewN|apply below_drew1|refine below_set ?_ GE101.out)|exact HB.out)⟩
  ·replace c5:=Bool.eq_false_iff.mpr c5
   subst c5
   have H1:(some 9)=some r:=by rw [if_neg (show ¬ (false=true) by decide)] at H;exact H
   clear H
   have H:=H1
   clear H1
   obtain rfl:=Option.some.inj H
   go_enter Tryd.func17,Tryd.ntmps17
   go_wp2_with (first|((with_reducible refine gate_dst (N:=1) rfl ?_);refine box_event ?hg (N:=1) ?hd (cs:=#[.string a0_0,.int .i64 a0_1,.slice A0_2 l0_2.length c0_2]) (t:=24) ?hr ?_;(case hd=>rfl);(case hg=>rfl);(case hr=>first|(go_simp;done)|(go_simp;rfl));intro gb101 hg w67 hbox hb;have n0_:=Aside0.mk (below_step (by repeat (first|(with_reducible first|exact HB.out|apply below_alloc|apply pw_below_drewN|apply below_drew1)|exact HB.out)) hb);have n1_:=Aside0.mk (hbox);have n2_:=Aside0.mk ((by rw [hg];exact (below_size (by repeat (first|(with_reducible first|exact HB.out|apply below_alloc|apply pw_below_drewN|apply below_drew1)|exact HB.out))):w.heap.size≤gb101));have n3_:=Aside0.mk ((by rw [hg];exact (below_size (by repeat (first|(with_reducible first|exact HB.out|apply below_alloc|apply pw_below_drewN|apply below_drew1)|exact HB.out))):w.heap.size≤gb101));clear HB;have HB:=n0_;have BK101:=n1_;have GW101:=n2_;have GE101:=n3_;clear n0_ n1_ n2_ n3_;clear hb hbox hg;have hcz68_0:w67.cell? ⟨gb101,0,none⟩=some (.string a0_0):=(blk_cell BK101.out 0).trans rfl;have hcz68_1:w67.cell? ⟨gb101,1,none⟩=some (.int .i64 a0_1):=(blk_cell BK101.out 1).trans rfl;have hcz68_2:w67.cell? ⟨gb101,2,none⟩=some (.slice A0_2 l0_2.length c0_2):=(blk_cell BK101.out 2).trans rfl;have hfz68_0:=blk_frozen BK101.out 0;have hfz68_1:=blk_frozen BK101.out 1;have hfz68_2:=blk_frozen BK101.out 2)|((with_reducible refine gate_callee (f:=32) rfl ?_);refine goesL_ (some 7) rfl rfl Tryd.func32 (by kernel_rfl) rfl #[.string a0_0] rfl (by (try simp only [List.map_toArray,List.map_cons,List.map_nil]);first|done|rfl|(simp only [List.length_drop,List.length_take];rfl)) ?_;(with_reducible refine (sawmillref02_IsName.calls k a0_0 true _ A2.out).mono ?_);rintro e w' ⟨rfl,⟨nd,rfl⟩⟩;refine ⟨_,rfl,?_⟩)|((with_reducible refine gate_callee (f:=33) rfl ?_);refine goesL_ (some 11) rfl rfl Tryd.func33 (by kernel_rfl) rfl #[.int .i64 a0_1,.int .i64 1,.int .i64 1200] rfl (by (try simp only [List.map_toArray,List.map_cons,List.map_nil]);first|done|rfl|(simp only [List.length_drop,List.length_take];rfl)) ?_;(with_reducible refine (sawmillref37_from.calls a0_1 1 1200 false _ A4.out).mono ?_);rintro e w' ⟨rfl,⟨nd,rfl⟩⟩;refine ⟨_,rfl,?_⟩))
   go_ret
   exact ⟨by first|rfl|(simp [errW_none,errW_some]<;>rfl)|(simp [*,errW_none,errW_some]<;>rfl),by repeat (first|(with_reducible first|exact HB.out|apply below_alloc|apply pw_below_drewN|apply below_drew1|refine below_set ?_ GE101.out)|exact HB.out)⟩
 ·replace c3:=Bool.eq_false_iff.mpr c3
  subst c3
  have H1:(some 6)=some r:=by rw [if_neg (show ¬ (false=true) by decide)] at H;exact H
  clear H
  have H:=H1
  clear H1
  obtain rfl:=Option.some.inj H
  go_enter Tryd.func17,Tryd.ntmps17
  go_wp2_with (first|((with_reducible refine gate_dst (N:=1) rfl ?_);refine box_event ?hg (N:=1) ?hd (cs:=#[.string a0_0,.int .i64 a0_1,.slice A0_2 l0_2.length c0_2]) (t:=24) ?hr ?_;(case hd=>rfl);(case hg=>rfl);(case hr=>first|(go_simp;done)|(go_simp;rfl));intro gb101 hg w69 hbox hb;have n0_:=Aside0.mk (below_step (by repeat (first|(with_reducible first|exact HB.out|apply below_alloc|apply pw_below_drewN|apply below_drew1)|exact HB.out)) hb);have n1_:=Aside0.mk (hbox);have n2_:=Aside0.mk ((by rw [hg];exact (below_size (by repeat (first|(with_reducible first|exact HB.out|apply below_alloc|apply pw_below_drewN|apply below_drew1)|exact HB.out))):w.heap.size≤gb101));have n3_:=Aside0.mk ((by rw [hg];exact (below_size (by repeat (first|(with_reducible first|exact HB.out|apply below_alloc|apply pw_below_drewN|apply below_drew1)|exact HB.out))):w.heap.size≤gb101));clear HB;have HB:=n0_;have BK101:=n1_;have GW101:=n2_;have GE101:=n3_;clear n0_ n1_ n2_ n3_;clear hb hbox hg;have hcz70_0:w69.cell? ⟨gb101,0,none⟩=some (.string a0_0):=(blk_cell BK101.out 0).trans rfl;have hcz70_1:w69.cell? ⟨gb101,1,none⟩=some (.int .i64 a0_1):=(blk_cell BK101.out 1).trans rfl;have hcz70_2:w69.cell? ⟨gb101,2,none⟩=some (.slice A0_2 l0_2.length c0_2):=(blk_cell BK101.out 2).trans rfl;have hfz70_0:=blk_frozen BK101.out 0;have hfz70_1:=blk_frozen BK101.out 1;have hfz70_2:=blk_frozen BK101.out 2)|((with_reducible refine gate_callee (f:=32) rfl ?_);refine goesL_ (some 7) rfl rfl Tryd.func32 (by kernel_rfl) rfl #[.string a0_0] rfl (by (try simp only [List.map_toArray,List.map_cons,List.map_nil]);first|done|rfl|(simp only [List.length_drop,List.length_take];rfl)) ?_;(with_reducible refine (sawmillref02_IsName.calls k a0_0 false _ A2.out).mono ?_);rintro e w' ⟨rfl,⟨nd,rfl⟩⟩;refine ⟨_,rfl,?_⟩))
  go_ret
  exact ⟨by first|rfl|(simp [errW_none,errW_some]<;>rfl)|(simp [*,errW_none,errW_some]<;>rfl),by repeat (first|(with_reducible first|exact HB.out|apply below_alloc|apply pw_below_drewN|apply below_drew1|refine below_set ?_ GE101.out)|exact HB.out)⟩
end Go.Proofs.YtehdmplngmbnnaaDoor.P
namespace Go.Proofs.YtehdmplngmbnnaaDoor.P
open Go.RowKit Go.Proofs.YtehdmplngmbnnaaDoorW.PrintWords
set_option linter.unusedVariables false
set_option linter.unusedSimpArgs false
theorem from_f (n lo hi:Int):sawmillref37_from.f n lo hi=some (decide (lo≤n) && decide (n≤hi)):=by
 unfold sawmillref37_from.f
 by_cases g1:n ≥ lo<;>by_cases g2:n≤hi<;>simp [g1,g2]<;>omega
theorem r02_at (n:ByteArray) (hs:n.size≤140737488351232) (k:Nat):sawmillref02_IsName.f (20+k) n=some (isNm n):=by
 induction k with
 | zero=>exact r02_nm n hs
 | succ k ih=>exact sawmillref02_IsName.mono _ _ _ ih
theorem stOk_eq (s:S52):stOk s=(decide (0≤s.f0) && decide (s.f0≤20000) && (decide (0≤s.f1) && decide (s.f1≤10000)) && !(decide (s.f0=0) && decide (s.f1=0)) && (decide (200≤s.f2) && decide (s.f2≤1200)) && (decide (0≤s.f3) && decide (s.f3≤400))):=by
 rw [Bool.eq_iff_iff]
 unfold stOk stChk
 simp only [Bool.and_eq_true,Bool.not_eq_true',Bool.or_eq_false_iff,decide_eq_false_iff_not,beq_eq_false_iff_ne,ne_eq,decide_eq_true_eq,Bool.and_eq_false_iff]
 constructor
 ·rintro ⟨⟨⟨⟨⟨a1,a2⟩,a3,a4⟩,a5,a6⟩,a7,a8⟩,hz⟩
  have hw:wrap64 (s.f0+s.f1)=s.f0+s.f1:=by
   unfold wrap64
   omega
  rw [hw] at hz
  omega
 ·rintro ⟨⟨⟨⟨⟨a1,a2⟩,a3,a4⟩,hz⟩,a5,a6⟩,a7,a8⟩
  have hw:wrap64 (s.f0+s.f1)=s.f0+s.f1:=by
   unfold wrap64
   omega
  rw [hw]
  omega
theorem check_l0 (n:ByteArray) (r:Int) (l:List S52) (hl:l.length≤100):∀ (d k i:Nat),i+d=l.length→d < k→sawmillref37_Check.l0 k (i:Int) n r l=some (if (l.drop i).all stOk=true then 0 else 9):=by
 intro d
 induction d with
 | zero =>
  intro k i hi hk
  obtain ⟨k,rfl⟩:∃ m,k=m+1:=⟨k - 1,by omega⟩
  simp only [sawmillref37_Check.l0]
  rw [if_neg (by omega),List.drop_of_length_le (by omega)]
  rfl
 | succ d ih =>
  intro k i hi hk
  obtain ⟨k,rfl⟩:∃ m,k=m+1:=⟨k - 1,by omega⟩
  have e:wrap64 ((i:Int)+1)=((i+1:Nat):Int):=wrap_nat i 100 (by omega) (by omega)
  have hd:l.drop i=rd_T52 l (i:Int) :: l.drop (i+1):=by
   rw [List.drop_eq_getElem_cons (by omega)]
   unfold rd_T52
   rw [List.getD_eq_getElem?_getD,List.getElem?_eq_getElem (by simp;omega)]
   simp
  simp only [sawmillref37_Check.l0]
  rw [if_pos (by omega),if_pos (by omega),e,ih k (i+1) (by omega) (by omega),hd,List.all_cons]
  generalize rd_T52 l (i:Int)=s
  rw [stOk_eq]
  simp only [from_f,Option.bind_some]
  generalize decide (0≤s.f0)=b1
  generalize decide (s.f0≤20000)=b2
  generalize decide (0≤s.f1)=b3
  generalize decide (s.f1≤10000)=b4
  generalize decide (200≤s.f2)=b7
  generalize decide (s.f2≤1200)=b8
  generalize decide (0≤s.f3)=b9
  generalize decide (s.f3≤400)=b10
  generalize (l.drop (i+1)).all stOk=b11
  by_cases g5:s.f0=0<;>by_cases g6:s.f1=0<;>simp only [g5,g6,decide_true,decide_false,if_true,if_false]<;>cases b1<;>cases b2<;>cases b3<;>cases b4<;>cases b7<;>cases b8<;>cases b9<;>cases b10<;>cases b11<;>rfl
theorem check_same (n:ByteArray) (r:Int) (l:List S52) (hn:n.size≤140737488351232) (k:Nat):sawmillref37_Check.f (20+k) n r l=schedule_Check.f n r l:=by
 unfold sawmillref37_Check.f schedule_Check.f
 rw [r02_at n hn k]
 simp only [Option.bind_some,from_f]
 cases isNm n
 ·simp
 ·rw [if_pos rfl,if_pos rfl]
  by_cases g1:r < 1 ∨ 1200 < r
  ·rw [if_pos g1,if_neg (by simp;omega)]
  ·rw [if_neg g1,if_pos (by simp;omega)]
   by_cases g2:l.length < 1
   ·rw [if_pos g2,if_pos (by omega)]
   ·rw [if_neg g2,if_neg (by omega)]
    by_cases g3:12 < l.length
    ·rw [if_pos g3,if_pos (by omega)]
    ·rw [if_neg g3,if_neg (by omega)]
     have:=check_l0 n r l (by omega) l.length (20+k) 0 (by omega) (by omega)
     simpa using this
end Go.Proofs.YtehdmplngmbnnaaDoor.P
namespace Go.Proofs.YtehdmplngmbnnaaDoor.P
open Go.RowKit Go.Proofs.YtehdmplngmbnnaaDoorW.PrintWords Go.Proofs.YtehdmplngmbnnaaDoorW.PrintLast Go.Proofs.YtehdmplngmbnnaaDoorW.PrintMore
attribute [local go_sem] max2_int min2_int max_two min_two max_three min_three max_four min_four
attribute [local go_sem] cell_twice
set_option linter.unusedVariables false
set_option linter.unusedSimpArgs false
def sawmillref37_last.f (k:Nat) (l0:List (S24)):Option (Int):=if 0≤(wrap64 ((l0.length:Int) - 1)) then (if (wrap64 ((l0.length:Int) - 1)) < (l0.length:Int) then (if (l0.length:Int) > 8 then (some 4) else ((sawmillref37_Check.f k ((rd_T24 l0 (wrap64 ((l0.length:Int) - 1))).f0) ((rd_T24 l0 (wrap64 ((l0.length:Int) - 1))).f1) ((rd_T24 l0 (wrap64 ((l0.length:Int) - 1))).f2)).bind fun t103=>(if t103=0 then (if (wrap64 ((l0.length:Int) - 1))≤(l0.length:Int) then ((sawmillref37_Find.f k (l0.take ((wrap64 ((l0.length:Int) - 1)):Int).toNat) ((rd_T24 l0 (wrap64 ((l0.length:Int) - 1))).f0)).bind fun bt108=>(if bt108.2.2.2=true then (some 7) else (some 0))) else (none)) else (some t103)))) else (none)) else (none)
theorem sawmillref37_last.mono:∀ a0 k,LeO (sawmillref37_last.f k a0) (sawmillref37_last.f (k+1) a0):=by
 intro a0 k
 unfold sawmillref37_last.f
 repeat' first
   | (with_reducible exact sawmillref37_Check.mono _ _ _ _)
   | (with_reducible exact sawmillref37_Find.mono _ _ _)
   | (with_reducible exact LeO.refl _)
   | (with_reducible exact LeO.none _)
   | (with_reducible refine LeO.ite ?_ ?_)
   | (with_reducible refine LeO.bind ?_ (fun _=>?_))
   | exact sawmillref37_Check.mono _ _ _ _
   | exact sawmillref37_Find.mono _ _ _
   | exact LeO.none _
   | refine LeO.ite ?_ ?_
   | refine LeO.bind ?_ (fun _=>?_)
def sawmillref37_last.T7:Bool × List (List Nat × List Nat):=(true,[([],[]),([],[]),([1],[1]),([2],[2]),([0,3],[0,3]),([],[]),([5],[5]),([4,6],[4,6]),([7],[7]),([8],[8]),([8],[8]),([],[]),([11,9,7,0,1,2,3,4,5,6,7,8,9,11],[9,11]),([10,12,0,1,2,3,4,5,6,7,8,9,10,11,12],[10])])
def sawmillref37_last.B7:List Nat:=[0,0,2,6,15,0,32,127,255,511,511,0,3071,8191]
theorem sawmillref37_last.tab7:rtab .any (opsOf Tryd.f43 7)=sawmillref37_last.T7:=by kernel_rfl
theorem sawmillref37_last.bits7:waitsOk sawmillref37_last.T7.2 sawmillref37_last.B7=true:=by kernel_rfl
set_option maxHeartbeats 8000000 in
set_option maxRecDepth 100000 in
theorem sawmillref37_last.calls (k:Nat) (A0:Option Addr) (c0:Nat) (l0:List (S24)) (r:Int) (w:World) (hr0:Kd.C k24 w A0 l0.length l0) (hc0:l0.length≤c0) (h:sawmillref37_last.f k l0=some r) :
  Calls Tryd.prog 43 #[.slice A0 l0.length c0] w fun e w'=>e=.returned (.int .i64 r)∧Below w.heap.size w w':=by
 have hu24:=Tryd.underlying24
 have HR0:=Aside0.mk hr0
 have HC0:=Aside0.mk hc0
 clear hr0 hc0
 have HB:=Aside0.mk (Below.refl w.heap.size w)
 have H:(if 0≤(wrap64 ((l0.length:Int) - 1)) then (if (wrap64 ((l0.length:Int) - 1)) < (l0.length:Int) then (if (l0.length:Int) > 8 then (some 4) else ((sawmillref37_Check.f k ((rd_T24 l0 (wrap64 ((l0.length:Int) - 1))).f0) ((rd_T24 l0 (wrap64 ((l0.length:Int) - 1))).f1) ((rd_T24 l0 (wrap64 ((l0.length:Int) - 1))).f2)).bind fun t103=>(if t103=0 then (if (wrap64 ((l0.length:Int) - 1))≤(l0.length:Int) then ((sawmillref37_Find.f k (l0.take ((wrap64 ((l0.length:Int) - 1)):Int).toNat) ((rd_T24 l0 (wrap64 ((l0.length:Int) - 1))).f0)).bind fun bt108=>(if bt108.2.2.2=true then (some 7) else (some 0))) else (none)) else (some t103)))) else (none)) else (none))=some r:=h
 clear h
 obtain ⟨ji2,hji2⟩:∃ j_:Int,(wrap64 ((l0.length:Int) - 1))=j_:=⟨_,rfl⟩
 replace H:(if 0≤(ji2) then (if (ji2) < (l0.length:Int) then (if (l0.length:Int) > 8 then (some 4) else ((sawmillref37_Check.f k ((rd_T24 l0 (ji2)).f0) ((rd_T24 l0 (ji2)).f1) ((rd_T24 l0 (ji2)).f2)).bind fun t103=>(if t103=0 then (if (ji2)≤(l0.length:Int) then ((sawmillref37_Find.f k (l0.take ((ji2):Int).toNat) ((rd_T24 l0 (ji2)).f0)).bind fun bt108=>(if bt108.2.2.2=true then (some 7) else (some 0))) else (none)) else (some t103)))) else (none)) else (none))=some r:=by first|(rw [hji2] at H;exact H)|(simp only [hji2] at H ⊢;exact H)
 have hji2w:(IntKind.i64.wrap ((l0.length:Int) - 1))=ji2:=(i64_w _).trans hji2
 by_cases c3:0≤(ji2)
 ·rw [if_pos c3] at H
  have c3b0:decide (0≤(ji2))=true:=decide_eq_true c3
  clear c3
  by_cases c4:(ji2) < (l0.length:Int)
  ·rw [if_pos c4] at H
   have c4b0:decide ((ji2) < (l0.length:Int))=true:=decide_eq_true c4
   clear c4
   by_cases c5:(l0.length:Int) > 8
   ·rw [if_pos c5] at H
    have c5b0:decide (8 < (l0.length:Int))=true:=decide_eq_true c5
    have c5b1:decide (8 < l0.length)=true:=decide_eq_true (by omega)
    clear c5
    obtain rfl:=Option.some.inj H
    have p101:0≤((ji2):Int):=of_decide_eq_true (by first|(with_reducible assumption)|assumption)
    have q101:(ji2) < (l0.length:Int):=of_decide_eq_true (by first|(with_reducible assumption)|assumption)
    obtain ⟨ad101,A101_2,c101_2,e101,hx101_0,hx101_1,hx101_2,hl101_2,hi101_2⟩:=at_T24 HR0.out (ji2) p101 q101
    cases e101
    have HR101_2:=Aside0.mk hi101_2
    have HC101_2:=Aside0.mk hl101_2
    clear hi101_2 hl101_2
    replace p101:=eq_true p101
    replace q101:=eq_true q101
    go_enter Tryd.func43,Tryd.ntmps43
    go_wp2_with (first|((with_reducible refine gate_dst (N:=3) rfl ?_);refine box_event ?hg (N:=3) ?hd (cs:=#[.string (⟨#[]⟩:ByteArray),.int .i64 0,.slice none 0 0]) (t:=24) ?hr ?_;(case hd=>rfl);(case hg=>rfl);(case hr=>first|(go_simp;done)|(go_simp;rfl));intro gb102 hg w6 hbox hb;have n0_:=Aside0.mk (below_step (by repeat (first|(with_reducible first|exact HB.out|apply below_alloc|apply pw_below_drewN|apply below_drew1)|exact HB.out)) hb);have n1_:=Aside0.mk (hbox);have n2_:=Aside0.mk ((by rw [hg];exact (below_size (by repeat (first|(with_reducible first|exact HB.out|apply below_alloc|apply pw_below_drewN|apply below_drew1)|exact HB.out))):w.heap.size≤gb102));have n3_:=Aside0.mk ((by rw [hg];exact (below_size (by repeat (first|(with_reducible first|exact HB.out|apply below_alloc|apply pw_below_drewN|apply below_drew1)|exact HB.out))):w.heap.size≤gb102));clear HB;have HB:=n0_;have BK102:=n1_;have GW102:=n2_;have GE102:=n3_;clear n0_ n1_ n2_ n3_;clear hb hbox hg;have hcz7_0:w6.cell? ⟨gb102,0,none⟩=some (.string (⟨#[]⟩:ByteArray)):=(blk_cell BK102.out 0).trans rfl;have hcz7_1:w6.cell? ⟨gb102,1,none⟩=some (.int .i64 0):=(blk_cell BK102.out 1).trans rfl;have hcz7_2:w6.cell? ⟨gb102,2,none⟩=some (.slice none 0 0):=(blk_cell BK102.out 2).trans rfl;have hfz7_0:=blk_frozen BK102.out 0;have hfz7_1:=blk_frozen BK102.out 1;have hfz7_2:=blk_frozen BK102.out 2))
    go_ret
    exact ⟨by first|rfl|(simp [errW_none,errW_some]<;>rfl)|(simp only [← hji2];first|rfl|(simp [errW_none,errW_some]<;>rfl))|(simp [*,errW_none,errW_some]<;>rfl),by repeat (first|(with_reducible first|exact HB.out|apply below_alloc|apply pw_below_drewN|apply below_drew1|refine below_set ?_ GE102.out)|exact HB.out)⟩
   ·rw [if_neg c5] at H
    have c5b0:decide (8 < (l0.length:Int))=false:=decide_eq_false c5
    have c5b1:decide (8 < l0.length)=false:=decide_eq_false (by omega)
    clear c5
    replace H:=Option.bind_eq_some_iff.mp H
    obtain ⟨t103,A80,H⟩:=H
    replace H:(if t103=0 then (if (ji2)≤(l0.length:Int) then ((sawmillref37_Find.f k (l0.take ((ji2):Int).toNat) ((rd_T24 l0 (ji2)).f0)).bind fun bt108=>(if bt108.2.2.2=true then (some 7) else (some 0))) else (none)) else (some t103))=some r:=H
    have A8:=Aside0.mk A80
    clear A80
    by_cases c9:t103=0
    ·rw [if_pos c9] at H
     have c9b0:(t103 == 0)=true:=beq_iff_eq.mpr c9
     have c9b1:(t103 != 0)=false:=bne_eq_false_iff_eq.mpr c9
     clear c9
     have c10b0:=eq_true (of_decide_eq_true (by first|(with_reducible assumption)|assumption):0≤(ji2))
     by_cases c11:(ji2)≤(l0.length:Int)
     ·rw [if_pos c11] at H
      have c11b0:=eq_true c11
      have c11b1:decide ((ji2)≤(l0.length:Int))=true:=decide_eq_true c11
      clear c11
      obtain ⟨y104,hy104⟩:∃ y_:List (S24),y_=(l0.take ((ji2):Int).toNat):=⟨_,rfl⟩
      replace H:((sawmillref37_Find.f k y104 ((rd_T24 l0 (ji2)).f0)).bind fun bt108=>(if bt108.2.2.2=true then (some 7) else (some 0)))=some r:=by first|(rw [hy104];with_reducible exact H)|(have H2_:=(Option.bind_some _ _).symm.trans H;rw [hy104];with_reducible exact H2_)|(have H2_:=(Option.bind_some _ _).symm.trans H;with_reducible exact H2_)|with_reducible exact H|(rw [hy104];exact H)|exact H
      have Ny104:=Aside0.mk hy104
      clear hy104
      replace H:=Option.bind_eq_some_iff.mp H
      obtain ⟨⟨t108,t109,t110,t113⟩,A120,H⟩:=H
      replace H:(if t113=true then (some 7) else (some 0))=some r:=H
      have A12:=Aside0.mk A120
      clear A120
      by_cases c13:t113=true
      ·subst c13
       have H1:(some 7)=some r:=by rw [if_pos rfl] at H;exact H
       clear H
       have H:=H1
       clear H1
       obtain rfl:=Option.some.inj H
       have p101:0≤((ji2):Int):=of_decide_eq_true (by first|(with_reducible assumption)|assumption)
       have q101:(ji2) < (l0.length:Int):=of_decide_eq_true (by first|(with_reducible assumption)|assumption)
       obtain ⟨ad101,A101_2,c101_2,e101,hx101_0,hx101_1,hx101_2,hl101_2,hi101_2⟩:=at_T24 HR0.out (ji2) p101 q101
       cases e101
       have HR101_2:=Aside0.mk hi101_2
       have HC101_2:=Aside0.mk hl101_2
       clear hi101_2 hl101_2
       replace p101:=eq_true p101
       replace q101:=eq_true q101
       go_enter Tryd.func43,Tryd.ntmps43
       try go_wp2_with (first|((with_reducible refine gate_dst (N:=3) rfl ?_);refine box_event ?hg (N:=3) ?hd (cs:=#[.string (⟨#[]⟩:ByteArray),.int .i64 0,.slice none 0 0]) (t:=24) ?hr ?_;(case hd=>rfl);(case hg=>rfl);(case hr=>first|(go_simp;done)|(go_simp;rfl));intro gb102 hg w14 hbox hb;have n0_:=Aside0.mk (below_step (by repeat (first|(with_reducible first|exact HB.out|apply below_alloc|apply pw_below_drewN|apply below_drew1)|exact HB.out)) hb);have n1_:=Aside0.mk (hbox);have n2_:=Aside0.mk ((by rw [hg];exact (below_size (by repeat (first|(with_reducible first|exact HB.out|apply below_alloc|apply pw_below_drewN|apply below_drew1)|exact HB.out))):w.heap.size≤gb102));have n3_:=Aside0.mk ((by rw [hg];exact (below_size (by repeat (first|(with_reducible first|exact HB.out|apply below_alloc|apply pw_below_drewN|apply below_drew1)|exact HB.out))):w.heap.size≤gb102));clear HB;have HB:=n0_;have BK102:=n1_;have GW102:=n2_;have GE102:=n3_;clear n0_ n1_ n2_ n3_;clear hb hbox hg;have hcz15_0:w14.cell? ⟨gb102,0,none⟩=some (.string (⟨#[]⟩:ByteArray)):=(blk_cell BK102.out 0).trans rfl;have hcz15_1:w14.cell? ⟨gb102,1,none⟩=some (.int .i64 0):=(blk_cell BK102.out 1).trans rfl;have hcz15_2:w14.cell? ⟨gb102,2,none⟩=some (.slice none 0 0):=(blk_cell BK102.out 2).trans rfl;have hfz15_0:=blk_frozen BK102.out 0;have hfz15_1:=blk_frozen BK102.out 1;have hfz15_2:=blk_frozen BK102.out 2)|((with_reducible refine gate_callee (f:=17) rfl ?_);refine goesL_ (some 17) rfl rfl Tryd.func17 (by kernel_rfl) rfl #[.agg #[.string ((rd_T24 l0 (ji2)).f0),.int .i64 ((rd_T24 l0 (ji2)).f1),.slice A101_2 ((rd_T24 l0 (ji2)).f2).length c101_2]] rfl (by (try simp only [List.map_toArray,List.map_cons,List.map_nil]);first|done|(simp only [hji2];rfl)|rfl|(simp only [List.length_drop,List.length_take];rfl)) ?_;(with_reducible refine (sawmillref37_Check.calls k ((rd_T24 l0 (ji2)).f0) ((rd_T24 l0 (ji2)).f1) _ _ ((rd_T24 l0 (ji2)).f2) t103 _ ?side1 ?side2 A8.out).mono ?_);(case side1=>exact Kd.C_below HR101_2.out (by repeat (first|(with_reducible first|exact HB.out|apply below_alloc|apply pw_below_drewN|apply below_drew1|refine below_set ?_ GE102.out)|exact HB.out)));(case side2=>exact HC101_2.out);rintro e w16 ⟨rfl,hb⟩;refine ⟨_,rfl,?_⟩;have n0_:=Aside0.mk (blk_below (g:=gb102) (o:=.cells #[.string ((rd_T24 l0 (ji2)).f0),.int .i64 ((rd_T24 l0 (ji2)).f1),.slice A101_2 ((rd_T24 l0 (ji2)).f2).length c101_2] 24 (0,0)) (by (with_reducible repeat (first|refine blk_drewN ?_ _|refine blk_drew ?_|refine blk_alloc ?_ _));refine blk_put (cs:=#[.string ((rd_T24 l0 (ji2)).f0),.int .i64 ((rd_T24 l0 (ji2)).f1),.slice none 0 0]) ?_ 2 _ rfl;(with_reducible repeat (first|refine blk_drewN ?_ _|refine blk_drew ?_|refine blk_alloc ?_ _));refine blk_put (cs:=#[.string ((rd_T24 l0 (ji2)).f0),.int .i64 0,.slice none 0 0]) ?_ 1 _ rfl;(with_reducible repeat (first|refine blk_drewN ?_ _|refine blk_drew ?_|refine blk_alloc ?_ _));refine blk_put (cs:=#[.string (⟨#[]⟩:ByteArray),.int .i64 0,.slice none 0 0]) ?_ 0 _ rfl;(with_reducible repeat (first|refine blk_drewN ?_ _|refine blk_drew ?_|refine blk_alloc ?_ _));exact BK102.out) hb);have n1_:=Aside0.mk (below_step (by repeat (first|(with_reducible first|exact HB.out|apply below_alloc|apply pw_below_drewN|apply below_drew1|refine below_set ?_ GE102.out)|exact HB.out)) hb);clear BK102;clear HB;have BK102:=n0_;have HB:=n1_;clear n0_ n1_;(try clear hb);(try clear hb2);(try clear hk);(try clear hi)))
       have n0_:=Aside0.mk (blk_drew BK102.out)
       have n1_:=Aside0.mk (below_drew1 HB.out)
       clear BK102
       clear HB
       have BK102:=n0_
       have HB:=n1_
       clear n0_ n1_
       have q18:((ji2):Int)≤((l0.length:Int):Int):=of_decide_eq_true (by first|(with_reducible assumption)|assumption)
       obtain ⟨i018,hi018,_,hsz18,_⟩:=info_parts info24
       have hroom18:l0.length≤c0:=HC0.out
       have hC18:Kd.C k24 _ (some ad101) l0.length l0:=HR0.out
       have hcut18:=cut_to (P:=Tryd.prog) 25 24 .i64 Tryd.underlying25 hi018 (some ad101) l0.length c0 (ji2) (of_decide_eq_true (by first|(with_reducible assumption)|assumption)) q18 hroom18
       have hr18:=Kd.C_take (m:=((ji2):Int).toNat) hC18 (by omega)
       have hy18:y104.length=((ji2):Int).toNat:=(by rw [Ny104.out,List.length_take];omega)
       rw [← Ny104.out] at hr18
       rw [← hy18] at hcut18
       have HR107:=Aside0.mk hr18
       have HC107:=Aside0.mk (show y104.length≤c0 from by omega)
       clear hr18 hC18 hroom18 hi018 hsz18
       have KY18:=Aside0.mk hy18
       clear hy18
       replace q18:=eq_true q18
       refine start_ (n:=14) (S:=fun w'=>w'.cell? ⟨gb102,0,none⟩=some (.string ((rd_T24 l0 (ji2)).f0))∧w'.cell? ⟨gb102,1,none⟩=some (.int .i64 ((rd_T24 l0 (ji2)).f1))∧w'.cell? ⟨gb102,2,none⟩=some (.slice A101_2 ((rd_T24 l0 (ji2)).f2).length c101_2)) (ds:=[]) #[false,false,false,false,false,false,false,false,false,false,false,false,false,false] (by kernel_rfl) rfl rfl ⟨(blk_cell BK102.out 0).trans rfl,(blk_cell BK102.out 1).trans rfl,(blk_cell BK102.out 2).trans rfl⟩ (fun hHeld=>?_);refine with_tabW sawmillref37_last.tab7 sawmillref37_last.bits7 (fun HT_ HW_=>?_)
       generalize w16.drew=w17 at BK102 HB HR107 hHeld ⊢
       refine pure_ (i:=0) (N:=some 22) (v:=?_) (a':=?_) #[true,false,false,false,false,false,false,false,false,false,false,false,false,false] rfl rfl (any_of HT_.out (by kernel_rfl)) (fun _ _ _ h=>h) (Or.inl ⟨by rfl,?_⟩) ?_ ?_
       rotate_left
       ·intro w'
        go_simp
        with_reducible rfl
       rotate_left
       ·simp only [Act.put,List.setIfInBounds_toArray,List.set_cons_zero,List.set_cons_succ,i64_w,i32_w]
        rfl
       refine pure_ (i:=1) (N:=some 23) (v:=?_) (a':=?_) #[true,true,false,false,false,false,false,false,false,false,false,false,false,false] rfl rfl (any_of HT_.out (by kernel_rfl)) (fun _ _ _ h=>h) (Or.inl ⟨by rfl,?_⟩) ?_ ?_
       rotate_left
       ·intro w'
        go_simp
        with_reducible rfl
       rotate_left
       ·simp only [Act.put,List.setIfInBounds_toArray,List.set_cons_zero,List.set_cons_succ,i64_w,i32_w]
        rfl
       refine pure_ (i:=2) (N:=some 24) (v:=?_) (a':=?_) #[true,true,true,false,false,false,false,false,false,false,false,false,false,false] rfl rfl (any_of HT_.out (by kernel_rfl)) (fun _ _ _ h=>h) (Or.inl ⟨by rfl,?_⟩) ?_ ?_
       rotate_left
       ·intro w'
        go_simp
        with_reducible rfl
       rotate_left
       ·simp only [Act.put,List.setIfInBounds_toArray,List.set_cons_zero,List.set_cons_succ,i64_w,i32_w]
        rfl
       refine pure_ (i:=3) (N:=some 25) (v:=?_) (a':=?_) #[true,true,true,true,false,false,false,false,false,false,false,false,false,false] rfl rfl (any_of HT_.out (by kernel_rfl)) (fun _ _ _ h=>h) (Or.inl ⟨by rfl,?_⟩) ?_ ?_
       rotate_left
       ·intro w'
        go_simp
        with_reducible rfl
       rotate_left
       ·simp only [Act.put,List.setIfInBounds_toArray,List.set_cons_zero,List.set_cons_succ,i64_w,i32_w]
        rfl
       refine pure_ (i:=4) (N:=some 26) (v:=?_) (a':=?_) #[true,true,true,true,true,false,false,false,false,false,false,false,false,false] rfl rfl (any_of HT_.out (by kernel_rfl)) (fun _ _ _ h=>h) (Or.inl ⟨by rfl,?_⟩) ?_ ?_
       rotate_left
       ·intro w'
        go_simp
        with_reducible rfl
       rotate_left
       ·simp only [Act.put,List.setIfInBounds_toArray,List.set_cons_zero,List.set_cons_succ,i64_w,i32_w]
        rfl
       refine pure_ (i:=5) (N:=some 27) (v:=?_) (a':=?_) #[true,true,true,true,true,true,false,false,false,false,false,false,false,false] rfl rfl (any_of HT_.out (by kernel_rfl)) (fun _ _ _ h=>h) (Or.inl ⟨by rfl,?_⟩) ?_ ?_
       rotate_left
       ·intro w'
        go_simp
        with_reducible rfl
       rotate_left
       ·simp only [Act.put,List.setIfInBounds_toArray,List.set_cons_zero,List.set_cons_succ,i64_w,i32_w]
        rfl
       refine take_ (i:=6) (N:=some 28) (v:=?_) (a':=?_) #[true,true,true,true,true,true,true,false,false,false,false,false,false,false] rfl rfl (take_ofW HT_.out HW_.out (by kernel_rfl)) (fun _ _ _ h=>h) (Or.inl ⟨by rfl,?_⟩) hHeld ?_ ?_
       rotate_left
       ·rintro w' ⟨s0,s1,s2⟩
        go_simp
        with_reducible rfl
       rotate_left
       ·simp only [Act.put,List.setIfInBounds_toArray,List.set_cons_zero,List.set_cons_succ,i64_w,i32_w]
        rfl
       refine join_ (σ:=Value × Nat) 2 #[true,true,true,true,true,true,true,true,true,true,true,true,false,false] (fun s_=>[(29,.tuple #[.agg #[.string t108,.int .i64 t109,s_.1],.bool true]),(5,.pointer (some ⟨s_.2,0,none⟩)),(21,.tuple #[.agg #[.string t108,.int .i64 t109,s_.1],.bool true]),(30,.agg #[.string t108,.int .i64 t109,s_.1]),(31,.bool true)]) (fun s_ w'=>(w'.cell? ⟨gb102,0,none⟩=some (.string ((rd_T24 l0 (ji2)).f0))∧w'.cell? ⟨gb102,1,none⟩=some (.int .i64 ((rd_T24 l0 (ji2)).f1))∧w'.cell? ⟨gb102,2,none⟩=some (.slice A101_2 ((rd_T24 l0 (ji2)).f2).length c101_2))∧(Kd.V k52 52 w' w.heap.size (fun k_=>k_ ≠ gb102∧k_ ≠ s_.2) s_.1 t110)∧(w'.heap[gb102]?=some (.cells #[.string ((rd_T24 l0 (ji2)).f0),.int .i64 ((rd_T24 l0 (ji2)).f1),.slice A101_2 ((rd_T24 l0 (ji2)).f2).length c101_2] 24 (0,0)))∧(w'.heap[s_.2]?=some (.cells #[.string (⟨#[]⟩:ByteArray),.int .i64 0,.slice none 0 0] 24 (0,0)))∧(w.heap.size≤s_.2)∧(w.heap.size≤s_.2)∧(gb102 ≠ s_.2)∧(s_.2 ≠ gb102)∧(Below w.heap.size w w')) ?_ ?_
       rotate_left
       ·intro hCont
        refine two_ (i:=7) (j:=11) (Ni:=some 29) (Nj:=some 5) #[true,true,true,true,true,true,true,true,false,false,false,false,false,false] #[true,true,true,true,true,true,true,false,false,false,false,true,false,false] rfl rfl rfl rfl (two_of HT_.out (by kernel_rfl)) (by decide) (by decide) (fun K hK=>?_) (fun K hK=>?_)
        ·skip
         refine goes_ Tryd.func15 (by kernel_rfl) rfl #[.slice (some ad101) y104.length c0,.string ((rd_T24 l0 (ji2)).f0)] (by rfl) rfl rfl (by (try simp only [List.map_toArray,List.map_cons,List.map_nil]);first|done|(simp only [hji2];rfl)|rfl|(simp only [List.length_drop,List.length_take];rfl)) ?_
         with_reducible refine (sawmillref37_Find.calls k (fun k_=>k_ < w.heap.size) _ _ y104 ((rd_T24 l0 (ji2)).f0) t108 t109 t110 true _ ?side1 A12.out).mono ?_
         (case side1=>exact Kd.V_mk HC107.out (Kd.F_below (Kd.C_F k24_heap HR107.out) (by repeat (first|(with_reducible first|exact HB.out|apply below_alloc|apply pw_below_drewN|apply below_drew1|refine below_set ?_ GE102.out)|exact HB.out))))
         rintro e w19 ⟨v111,rfl,ho0,hb⟩
         refine ⟨_,rfl,?_⟩
         have n0_:=Aside0.mk (Kd.V_lower (Kd.V_mono (ok':=fun k_=>k_ ≠ gb102) ho0 (fun k_ hk_=>Or.elim hk_ (fun hs_=>fun e_=>Nat.not_le.2 hs_ (by rw [e_];exact GW102.out)) (fun hn_=>(Kd.freshB (g:=gb102) (o:=.cells #[.string ((rd_T24 l0 (ji2)).f0),.int .i64 ((rd_T24 l0 (ji2)).f1),.slice A101_2 ((rd_T24 l0 (ji2)).f2).length c101_2] 24 (0,0)) (by (with_reducible repeat (first|refine blk_drewN ?_ _|refine blk_drew ?_|refine blk_alloc ?_ _));exact BK102.out) k_ hn_)))) (below_size (by repeat (first|(with_reducible first|exact HB.out|apply below_alloc|apply pw_below_drewN|apply below_drew1|refine below_set ?_ GE102.out)|exact HB.out))))
         have n1_:=Aside0.mk (blk_below (g:=gb102) (o:=.cells #[.string ((rd_T24 l0 (ji2)).f0),.int .i64 ((rd_T24 l0 (ji2)).f1),.slice A101_2 ((rd_T24 l0 (ji2)).f2).length c101_2] 24 (0,0)) (by (with_reducible repeat (first|refine blk_drewN ?_ _|refine blk_drew ?_|refine blk_alloc ?_ _));exact BK102.out) hb)
         have n2_:=Aside0.mk (below_step (by repeat (first|(with_reducible first|exact HB.out|apply below_alloc|apply pw_below_drewN|apply below_drew1|refine below_set ?_ GE102.out)|exact HB.out)) hb)
         clear BK102
         clear HB
         have HO112:=n0_
         have BK102:=n1_
         have HB:=n2_
         clear n0_ n1_ n2_
         (try clear hb)
         (try clear hb2)
         (try clear hk)
         (try clear hi)
         (try clear ho0)
         refine hK.out _ _ ⟨(blk_cell BK102.out 0).trans rfl,(blk_cell BK102.out 1).trans rfl,(blk_cell BK102.out 2).trans rfl⟩ (fun hHeld=>?_)
         clear hK K
         refine norm_ (a':=?_) ?_ ?_
         rotate_left
         ·show Act.put _ (some 29) _=_
          simp only [Act.put,List.setIfInBounds_toArray,List.set_cons_zero,List.set_cons_succ,i64_w,i32_w]
          rfl
         refine pure_ (i:=8) (N:=some 21) (v:=?_) (a':=?_) #[true,true,true,true,true,true,true,true,true,false,false,false,false,false] rfl rfl (any_of HT_.out (by kernel_rfl)) (fun _ _ _ h=>h) (Or.inl ⟨by rfl,?_⟩) ?_ ?_
         rotate_left
         ·intro w'
          go_simp
          with_reducible rfl
         rotate_left
         ·simp only [Act.put,List.setIfInBounds_toArray,List.set_cons_zero,List.set_cons_succ,i64_w,i32_w]
          rfl
         refine pure_ (i:=9) (N:=some 30) (v:=?_) (a':=?_) #[true,true,true,true,true,true,true,true,true,true,false,false,false,false] rfl rfl (any_of HT_.out (by kernel_rfl)) (fun _ _ _ h=>h) (Or.inl ⟨by rfl,?_⟩) ?_ ?_
         rotate_left
         ·intro w'
          go_simp
          with_reducible rfl
         rotate_left
         ·simp only [Act.put,List.setIfInBounds_toArray,List.set_cons_zero,List.set_cons_succ,i64_w,i32_w]
          rfl
         refine pure_ (i:=10) (N:=some 31) (v:=?_) (a':=?_) #[true,true,true,true,true,true,true,true,true,true,true,false,false,false] rfl rfl (any_of HT_.out (by kernel_rfl)) (fun _ _ _ h=>h) (Or.inl ⟨by rfl,?_⟩) ?_ ?_
         rotate_left
         ·intro w'
          go_simp
          with_reducible rfl
         rotate_left
         ·simp only [Act.put,List.setIfInBounds_toArray,List.set_cons_zero,List.set_cons_succ,i64_w,i32_w]
          rfl
         refine one_ (i:=11) (N:=some 5) #[true,true,true,true,true,true,true,true,true,true,true,true,false,false] rfl rfl (one_of HT_.out (by kernel_rfl)) (by decide) (fun K hK=>?_)
         refine box_step ?hg (N:=5) ?hd (cs:=#[.string (⟨#[]⟩:ByteArray),.int .i64 0,.slice none 0 0]) (t:=24) ?hr ?_;(case hd=>rfl);(case hg=>rfl);(case hr=>first|(go_simp;done)|(go_simp;rfl))
         intro gb114 hg w20 hbox hb
         have n0_:=Aside0.mk (Kd.V_below (Kd.V_elderB (by (with_reducible repeat (first|apply Kd.V_alloc|apply Kd.V_drewN|apply Kd.V_drew));exact HO112.out) gb114 (Nat.le_of_eq hg.symm)) hb)
         have n1_:=Aside0.mk (blk_below (g:=gb102) (o:=.cells #[.string ((rd_T24 l0 (ji2)).f0),.int .i64 ((rd_T24 l0 (ji2)).f1),.slice A101_2 ((rd_T24 l0 (ji2)).f2).length c101_2] 24 (0,0)) (by (with_reducible repeat (first|refine blk_drewN ?_ _|refine blk_drew ?_|refine blk_alloc ?_ _));exact BK102.out) hb)
         have n2_:=Aside0.mk (below_step (by repeat (first|(with_reducible first|exact HB.out|apply below_alloc|apply pw_below_drewN|apply below_drew1|refine below_set ?_ GE102.out)|exact HB.out)) hb)
         have n3_:=Aside0.mk (hbox)
         have n4_:=Aside0.mk ((by rw [hg];exact (below_size (by repeat (first|(with_reducible first|exact HB.out|apply below_alloc|apply pw_below_drewN|apply below_drew1|refine below_set ?_ GE102.out)|exact HB.out))):w.heap.size≤gb114))
         have n5_:=Aside0.mk ((by rw [hg];exact (below_size (by repeat (first|(with_reducible first|exact HB.out|apply below_alloc|apply pw_below_drewN|apply below_drew1|refine below_set ?_ GE102.out)|exact HB.out))):w.heap.size≤gb114))
         have n6_:=Aside0.mk ((by rw [hg];exact Nat.ne_of_lt (blk_lt (g:=gb102) (o:=.cells #[.string ((rd_T24 l0 (ji2)).f0),.int .i64 ((rd_T24 l0 (ji2)).f1),.slice A101_2 ((rd_T24 l0 (ji2)).f2).length c101_2] 24 (0,0)) (by (with_reducible repeat (first|refine blk_drewN ?_ _|refine blk_drew ?_|refine blk_alloc ?_ _));exact BK102.out)):gb102 ≠ gb114))
         have n7_:=Aside0.mk ((by rw [hg];exact Nat.ne_of_gt (blk_lt (g:=gb102) (o:=.cells #[.string ((rd_T24 l0 (ji2)).f0),.int .i64 ((rd_T24 l0 (ji2)).f1),.slice A101_2 ((rd_T24 l0 (ji2)).f2).length c101_2] 24 (0,0)) (by (with_reducible repeat (first|refine blk_drewN ?_ _|refine blk_drew ?_|refine blk_alloc ?_ _));exact BK102.out)):gb114 ≠ gb102))
         clear HO112
         clear BK102
         clear HB
         have HO112:=n0_
         have BK102:=n1_
         have HB:=n2_
         have BK114:=n3_
         have GW114:=n4_
         have GE114:=n5_
         have NB102_114:=n6_
         have NB114_102:=n7_
         clear n0_ n1_ n2_ n3_ n4_ n5_ n6_ n7_
         clear hb hbox hg
         refine hK.out _ _ ⟨(blk_cell BK102.out 0).trans rfl,(blk_cell BK102.out 1).trans rfl,(blk_cell BK102.out 2).trans rfl⟩ (fun hHeld=>?_)
         clear hK K
         refine norm_ (a':=?_) ?_ ?_
         rotate_left
         ·show Act.put _ (some 5) _=_
          simp only [Act.put,List.setIfInBounds_toArray,List.set_cons_zero,List.set_cons_succ,i64_w,i32_w]
          rfl
         exact norm_ (by simp only [putAll,Act.put,List.setIfInBounds_toArray,List.set_cons_zero,List.set_cons_succ]) (hCont (v111,gb114) _ ⟨hHeld,(by (with_reducible repeat (first|apply Kd.V_alloc|apply Kd.V_drewN|apply Kd.V_drew));exact HO112.out),(by (with_reducible repeat (first|refine blk_drewN ?_ _|refine blk_drew ?_|refine blk_alloc ?_ _));exact BK102.out),(by (with_reducible repeat (first|refine blk_drewN ?_ _|refine blk_drew ?_|refine blk_alloc ?_ _));exact BK114.out),GW114.out,GE114.out,NB102_114.out,NB114_102.out,(by repeat (first|(with_reducible first|exact HB.out|apply below_alloc|apply pw_below_drewN|apply below_drew1|refine below_set ?_ GE102.out|refine below_set ?_ GE114.out)|exact HB.out))⟩)
        ·skip
         refine box_step ?hg (N:=5) ?hd (cs:=#[.string (⟨#[]⟩:ByteArray),.int .i64 0,.slice none 0 0]) (t:=24) ?hr ?_;(case hd=>rfl);(case hg=>rfl);(case hr=>first|(go_simp;done)|(go_simp;rfl))
         intro gb114 hg w19 hbox hb
         have n0_:=Aside0.mk (blk_below (g:=gb102) (o:=.cells #[.string ((rd_T24 l0 (ji2)).f0),.int .i64 ((rd_T24 l0 (ji2)).f1),.slice A101_2 ((rd_T24 l0 (ji2)).f2).length c101_2] 24 (0,0)) (by (with_reducible repeat (first|refine blk_drewN ?_ _|refine blk_drew ?_|refine blk_alloc ?_ _));exact BK102.out) hb)
         have n1_:=Aside0.mk (below_step (by repeat (first|(with_reducible first|exact HB.out|apply below_alloc|apply pw_below_drewN|apply below_drew1|refine below_set ?_ GE102.out)|exact HB.out)) hb)
         have n2_:=Aside0.mk (hbox)
         have n3_:=Aside0.mk ((by rw [hg];exact (below_size (by repeat (first|(with_reducible first|exact HB.out|apply below_alloc|apply pw_below_drewN|apply below_drew1|refine below_set ?_ GE102.out)|exact HB.out))):w.heap.size≤gb114))
         have n4_:=Aside0.mk ((by rw [hg];exact (below_size (by repeat (first|(with_reducible first|exact HB.out|apply below_alloc|apply pw_below_drewN|apply below_drew1|refine below_set ?_ GE102.out)|exact HB.out))):w.heap.size≤gb114))
         have n5_:=Aside0.mk ((by rw [hg];exact Nat.ne_of_lt (blk_lt (g:=gb102) (o:=.cells #[.string ((rd_T24 l0 (ji2)).f0),.int .i64 ((rd_T24 l0 (ji2)).f1),.slice A101_2 ((rd_T24 l0 (ji2)).f2).length c101_2] 24 (0,0)) (by (with_reducible repeat (first|refine blk_drewN ?_ _|refine blk_drew ?_|refine blk_alloc ?_ _));exact BK102.out)):gb102 ≠ gb114))
         have n6_:=Aside0.mk ((by rw [hg];exact Nat.ne_of_gt (blk_lt (g:=gb102) (o:=.cells #[.string ((rd_T24 l0 (ji2)).f0),.int .i64 ((rd_T24 l0 (ji2)).f1),.slice A101_2 ((rd_T24 l0 (ji2)).f2).length c101_2] 24 (0,0)) (by (with_reducible repeat (first|refine blk_drewN ?_ _|refine blk_drew ?_|refine blk_alloc ?_ _));exact BK102.out)):gb114 ≠ gb102))
         clear BK102
         clear HB
         have BK102:=n0_
         have HB:=n1_
         have BK114:=n2_
         have GW114:=n3_
         have GE114:=n4_
         have NB102_114:=n5_
         have NB114_102:=n6_
         clear n0_ n1_ n2_ n3_ n4_ n5_ n6_
         clear hb hbox hg
         refine hK.out _ _ ⟨(blk_cell BK102.out 0).trans rfl,(blk_cell BK102.out 1).trans rfl,(blk_cell BK102.out 2).trans rfl⟩ (fun hHeld=>?_)
         clear hK K
         refine norm_ (a':=?_) ?_ ?_
         rotate_left
         ·show Act.put _ (some 5) _=_
          simp only [Act.put,List.setIfInBounds_toArray,List.set_cons_zero,List.set_cons_succ,i64_w,i32_w]
          rfl
         refine one_ (i:=7) (N:=some 29) #[true,true,true,true,true,true,true,true,false,false,false,true,false,false] rfl rfl (one_of HT_.out (by kernel_rfl)) (by decide) (fun K hK=>?_)
         refine goes_ Tryd.func15 (by kernel_rfl) rfl #[.slice (some ad101) y104.length c0,.string ((rd_T24 l0 (ji2)).f0)] (by rfl) rfl rfl (by (try simp only [List.map_toArray,List.map_cons,List.map_nil]);first|done|(simp only [hji2];rfl)|rfl|(simp only [List.length_drop,List.length_take];rfl)) ?_
         with_reducible refine (sawmillref37_Find.calls k (fun k_=>k_ < w.heap.size) _ _ y104 ((rd_T24 l0 (ji2)).f0) t108 t109 t110 true _ ?side1 A12.out).mono ?_
         (case side1=>exact Kd.V_mk HC107.out (Kd.F_below (Kd.C_F k24_heap HR107.out) (by repeat (first|(with_reducible first|exact HB.out|apply below_alloc|apply pw_below_drewN|apply below_drew1|refine below_set ?_ GE102.out|refine below_set ?_ GE114.out)|exact HB.out))))
         rintro e w20 ⟨v111,rfl,ho0,hb⟩
         refine ⟨_,rfl,?_⟩
         have n0_:=Aside0.mk (Kd.V_lower (Kd.V_mono (ok':=fun k_=>k_ ≠ gb102∧k_ ≠ gb114) ho0 (fun k_ hk_=>⟨Or.elim hk_ (fun hs_=>fun e_=>Nat.not_le.2 hs_ (by rw [e_];exact GW102.out)) (fun hn_=>(Kd.freshB (g:=gb102) (o:=.cells #[.string ((rd_T24 l0 (ji2)).f0),.int .i64 ((rd_T24 l0 (ji2)).f1),.slice A101_2 ((rd_T24 l0 (ji2)).f2).length c101_2] 24 (0,0)) (by (with_reducible repeat (first|refine blk_drewN ?_ _|refine blk_drew ?_|refine blk_alloc ?_ _));exact BK102.out) k_ hn_)),Or.elim hk_ (fun hs_=>fun e_=>Nat.not_le.2 hs_ (by rw [e_];exact GW114.out)) (fun hn_=>(Kd.freshB (g:=gb114) (o:=.cells #[.string (⟨#[]⟩:ByteArray),.int .i64 0,.slice none 0 0] 24 (0,0)) (by (with_reducible repeat (first|refine blk_drewN ?_ _|refine blk_drew ?_|refine blk_alloc ?_ _));exact BK114.out) k_ hn_))⟩)) (below_size (by repeat (first|(with_reducible first|exact HB.out|apply below_alloc|apply pw_below_drewN|apply below_drew1|refine below_set ?_ GE102.out|refine below_set ?_ GE114.out)|exact HB.out))))
         have n1_:=Aside0.mk (blk_below (g:=gb102) (o:=.cells #[.string ((rd_T24 l0 (ji2)).f0),.int .i64 ((rd_T24 l0 (ji2)).f1),.slice A101_2 ((rd_T24 l0 (ji2)).f2).length c101_2] 24 (0,0)) (by (with_reducible repeat (first|refine blk_drewN ?_ _|refine blk_drew ?_|refine blk_alloc ?_ _));exact BK102.out) hb)
         have n2_:=Aside0.mk (blk_below (g:=gb114) (o:=.cells #[.string (⟨#[]⟩:ByteArray),.int .i64 0,.slice none 0 0] 24 (0,0)) (by (with_reducible repeat (first|refine blk_drewN ?_ _|refine blk_drew ?_|refine blk_alloc ?_ _));exact BK114.out) hb)
         have n3_:=Aside0.mk (below_step (by repeat (first|(with_reducible first|exact HB.out|apply below_alloc|apply pw_below_drewN|apply below_drew1|refine below_set ?_ GE102.out|refine below_set ?_ GE114.out)|exact HB.out)) hb)
         clear BK102
         clear BK114
         clear HB
         have HO112:=n0_
         have BK102:=n1_
         have BK114:=n2_
         have HB:=n3_
         clear n0_ n1_ n2_ n3_
         (try clear hb)
         (try clear hb2)
         (try clear hk)
         (try clear hi)
         (try clear ho0)
         refine hK.out _ _ ⟨(blk_cell BK102.out 0).trans rfl,(blk_cell BK102.out 1).trans rfl,(blk_cell BK102.out 2).trans rfl⟩ (fun hHeld=>?_)
         clear hK K
         refine norm_ (a':=?_) ?_ ?_
         rotate_left
         ·show Act.put _ (some 29) _=_
          simp only [Act.put,List.setIfInBounds_toArray,List.set_cons_zero,List.set_cons_succ,i64_w,i32_w]
          rfl
         refine pure_ (i:=8) (N:=some 21) (v:=?_) (a':=?_) #[true,true,true,true,true,true,true,true,true,false,false,true,false,false] rfl rfl (any_of HT_.out (by kernel_rfl)) (fun _ _ _ h=>h) (Or.inl ⟨by rfl,?_⟩) ?_ ?_
         rotate_left
         ·intro w'
          go_simp
          with_reducible rfl
         rotate_left
         ·simp only [Act.put,List.setIfInBounds_toArray,List.set_cons_zero,List.set_cons_succ,i64_w,i32_w]
          rfl
         refine pure_ (i:=9) (N:=some 30) (v:=?_) (a':=?_) #[true,true,true,true,true,true,true,true,true,true,false,true,false,false] rfl rfl (any_of HT_.out (by kernel_rfl)) (fun _ _ _ h=>h) (Or.inl ⟨by rfl,?_⟩) ?_ ?_
         rotate_left
         ·intro w'
          go_simp
          with_reducible rfl
         rotate_left
         ·simp only [Act.put,List.setIfInBounds_toArray,List.set_cons_zero,List.set_cons_succ,i64_w,i32_w]
          rfl
         refine pure_ (i:=10) (N:=some 31) (v:=?_) (a':=?_) #[true,true,true,true,true,true,true,true,true,true,true,true,false,false] rfl rfl (any_of HT_.out (by kernel_rfl)) (fun _ _ _ h=>h) (Or.inl ⟨by rfl,?_⟩) ?_ ?_
         rotate_left
         ·intro w'
          go_simp
          with_reducible rfl
         rotate_left
         ·simp only [Act.put,List.setIfInBounds_toArray,List.set_cons_zero,List.set_cons_succ,i64_w,i32_w]
          rfl
         exact norm_ (by simp only [putAll,Act.put,List.setIfInBounds_toArray,List.set_cons_zero,List.set_cons_succ]) (hCont (v111,gb114) _ ⟨hHeld,(by (with_reducible repeat (first|apply Kd.V_alloc|apply Kd.V_drewN|apply Kd.V_drew));exact HO112.out),(by (with_reducible repeat (first|refine blk_drewN ?_ _|refine blk_drew ?_|refine blk_alloc ?_ _));exact BK102.out),(by (with_reducible repeat (first|refine blk_drewN ?_ _|refine blk_drew ?_|refine blk_alloc ?_ _));exact BK114.out),GW114.out,GE114.out,NB102_114.out,NB114_102.out,(by repeat (first|(with_reducible first|exact HB.out|apply below_alloc|apply pw_below_drewN|apply below_drew1|refine below_set ?_ GE102.out|refine below_set ?_ GE114.out)|exact HB.out))⟩)
       rintro ⟨v111,gb114⟩ w21 ⟨hS_,h0_,h1_,h2_,h3_,h4_,h5_,h6_,h7_⟩
       have n0_:Aside0 (Kd.V k52 52 w21 w.heap.size (fun k_=>k_ ≠ gb102∧k_ ≠ gb114) v111 t110):=⟨h0_⟩
       have n1_:Aside0 (w21.heap[gb102]?=some (.cells #[.string ((rd_T24 l0 (ji2)).f0),.int .i64 ((rd_T24 l0 (ji2)).f1),.slice A101_2 ((rd_T24 l0 (ji2)).f2).length c101_2] 24 (0,0))):=⟨h1_⟩
       have n2_:Aside0 (w21.heap[gb114]?=some (.cells #[.string (⟨#[]⟩:ByteArray),.int .i64 0,.slice none 0 0] 24 (0,0))):=⟨h2_⟩
       have n3_:Aside0 (w.heap.size≤gb114):=⟨h3_⟩
       have n4_:Aside0 (w.heap.size≤gb114):=⟨h4_⟩
       have n5_:Aside0 (gb102 ≠ gb114):=⟨h5_⟩
       have n6_:Aside0 (gb114 ≠ gb102):=⟨h6_⟩
       have n7_:Aside0 (Below w.heap.size w w21):=⟨h7_⟩
       clear BK102
       clear HB
       clear h0_ h1_ h2_ h3_ h4_ h5_ h6_ h7_
       have HO112:=n0_
       have BK102:=n1_
       have BK114:=n2_
       have GW114:=n3_
       have GE114:=n4_
       have NB102_114:=n5_
       have NB114_102:=n6_
       have HB:=n7_
       clear n0_ n1_ n2_ n3_ n4_ n5_ n6_ n7_
       have hHeld:w21.cell? ⟨gb102,0,none⟩=some (.string ((rd_T24 l0 (ji2)).f0))∧w21.cell? ⟨gb102,1,none⟩=some (.int .i64 ((rd_T24 l0 (ji2)).f1))∧w21.cell? ⟨gb102,2,none⟩=some (.slice A101_2 ((rd_T24 l0 (ji2)).f2).length c101_2):=hS_
       obtain ⟨Ao24,co24,eo24⟩:=Kd.V_slice HO112.out
       (first|subst eo24|(injection eo24 with f1_ f2_ f3_;have f4_:=f1_.symm;have f5_:=f3_.symm;clear f1_ f2_ f3_;subst f4_;subst f5_))
       refine norm_ (a':=?_) ?_ ?_
       rotate_left
       ·simp only [putAll,Act.put,List.setIfInBounds_toArray,List.set_cons_zero,List.set_cons_succ]
        rfl
       refine one_ (i:=12) (N:=none) #[true,true,true,true,true,true,true,true,true,true,true,true,true,false] rfl rfl (one_of HT_.out (by kernel_rfl)) (by decide) (fun K hK=>?_)
       have hs22:w21.cell? ⟨gb114,0,none⟩=some (.string (⟨#[]⟩:ByteArray)):=(blk_cell BK114.out 0).trans rfl
       have hfs22:=blk_frozen BK114.out 0
       have hns22_0:=NB102_114.out
       have hms22_0:=NB114_102.out
       have hs23:w21.cell? ⟨gb114,1,none⟩=some (.int .i64 0):=(blk_cell BK114.out 1).trans rfl
       have hfs23:=blk_frozen BK114.out 1
       have hns23_0:=NB102_114.out
       have hms23_0:=NB114_102.out
       have hs25:w21.cell? ⟨gb114,2,none⟩=some (.slice none 0 0):=(blk_cell BK114.out 2).trans rfl
       have hfs25:=blk_frozen BK114.out 2
       have hns25_0:=NB102_114.out
       have hms25_0:=NB114_102.out
       refine skip_ (w1:=?_) (by rfl) rfl ?_ ?_
       rotate_left
       ·go_simp
        rfl
       refine hK.out _ _ ⟨((cell_far (p:=⟨gb114,_,none⟩) NB102_114.out _).trans (((cell_far (p:=⟨gb114,_,none⟩) NB102_114.out _).trans (((cell_far (p:=⟨gb114,_,none⟩) NB102_114.out _).trans (hHeld.1)))))),((cell_far (p:=⟨gb114,_,none⟩) NB102_114.out _).trans (((cell_far (p:=⟨gb114,_,none⟩) NB102_114.out _).trans (((cell_far (p:=⟨gb114,_,none⟩) NB102_114.out _).trans (hHeld.2.1)))))),((cell_far (p:=⟨gb114,_,none⟩) NB102_114.out _).trans (((cell_far (p:=⟨gb114,_,none⟩) NB102_114.out _).trans (((cell_far (p:=⟨gb114,_,none⟩) NB102_114.out _).trans (hHeld.2.2))))))⟩ (fun hHeld=>?_)
       clear hK K
       refine pure_ (i:=13) (N:=some 6) (v:=?_) (a':=?_) #[true,true,true,true,true,true,true,true,true,true,true,true,true,true] rfl rfl (any_of HT_.out (by kernel_rfl)) (fun _ _ _ h=>h) (Or.inl ⟨by rfl,?_⟩) ?_ ?_
       rotate_left
       ·intro w'
        go_simp
        with_reducible rfl
       rotate_left
       ·simp only [Act.put,List.setIfInBounds_toArray,List.set_cons_zero,List.set_cons_succ,i64_w,i32_w]
        rfl
       refine done_ (done_of HT_.out (by kernel_rfl)) ?_
       try go_wp2
       go_ret
       exact ⟨by first|rfl|(simp [errW_none,errW_some]<;>rfl)|(simp only [← hji2];first|rfl|(simp [errW_none,errW_some]<;>rfl))|(simp [*,errW_none,errW_some]<;>rfl),by repeat (first|(with_reducible first|exact HB.out|apply below_alloc|apply pw_below_drewN|apply below_drew1|refine below_set ?_ GE102.out|refine below_set ?_ GE114.out)|exact HB.out)⟩
      ·replace c13:=Bool.eq_false_iff.mpr c13
       subst c13
       have H1:(some 0)=some r:=by rw [if_neg (show ¬ (false=true) by decide)] at H;exact H
       clear H
       have H:=H1
       clear H1
       obtain rfl:=Option.some.inj H
       have p101:0≤((ji2):Int):=of_decide_eq_true (by first|(with_reducible assumption)|assumption)
       have q101:(ji2) < (l0.length:Int):=of_decide_eq_true (by first|(with_reducible assumption)|assumption)
       obtain ⟨ad101,A101_2,c101_2,e101,hx101_0,hx101_1,hx101_2,hl101_2,hi101_2⟩:=at_T24 HR0.out (ji2) p101 q101
       cases e101
       have HR101_2:=Aside0.mk hi101_2
       have HC101_2:=Aside0.mk hl101_2
       clear hi101_2 hl101_2
       replace p101:=eq_true p101
       replace q101:=eq_true q101
       go_enter Tryd.func43,Tryd.ntmps43
       try go_wp2_with (first|((with_reducible refine gate_dst (N:=3) rfl ?_);refine box_event ?hg (N:=3) ?hd (cs:=#[.string (⟨#[]⟩:ByteArray),.int .i64 0,.slice none 0 0]) (t:=24) ?hr ?_;(case hd=>rfl);(case hg=>rfl);(case hr=>first|(go_simp;done)|(go_simp;rfl));intro gb102 hg w26 hbox hb;have n0_:=Aside0.mk (below_step (by repeat (first|(with_reducible first|exact HB.out|apply below_alloc|apply pw_below_drewN|apply below_drew1)|exact HB.out)) hb);have n1_:=Aside0.mk (hbox);have n2_:=Aside0.mk ((by rw [hg];exact (below_size (by repeat (first|(with_reducible first|exact HB.out|apply below_alloc|apply pw_below_drewN|apply below_drew1)|exact HB.out))):w.heap.size≤gb102));have n3_:=Aside0.mk ((by rw [hg];exact (below_size (by repeat (first|(with_reducible first|exact HB.out|apply below_alloc|apply pw_below_drewN|apply below_drew1)|exact HB.out))):w.heap.size≤gb102));clear HB;have HB:=n0_;have BK102:=n1_;have GW102:=n2_;have GE102:=n3_;clear n0_ n1_ n2_ n3_;clear hb hbox hg;have hcz27_0:w26.cell? ⟨gb102,0,none⟩=some (.string (⟨#[]⟩:ByteArray)):=(blk_cell BK102.out 0).trans rfl;have hcz27_1:w26.cell? ⟨gb102,1,none⟩=some (.int .i64 0):=(blk_cell BK102.out 1).trans rfl;have hcz27_2:w26.cell? ⟨gb102,2,none⟩=some (.slice none 0 0):=(blk_cell BK102.out 2).trans rfl;have hfz27_0:=blk_frozen BK102.out 0;have hfz27_1:=blk_frozen BK102.out 1;have hfz27_2:=blk_frozen BK102.out 2)|((with_reducible refine gate_callee (f:=17) rfl ?_);refine goesL_ (some 17) rfl rfl Tryd.func17 (by kernel_rfl) rfl #[.agg #[.string ((rd_T24 l0 (ji2)).f0),.int .i64 ((rd_T24 l0 (ji2)).f1),.slice A101_2 ((rd_T24 l0 (ji2)).f2).length c101_2]] rfl (by (try simp only [List.map_toArray,List.map_cons,List.map_nil]);first|done|(simp only [hji2];rfl)|rfl|(simp only [List.length_drop,List.length_take];rfl)) ?_;(with_reducible refine (sawmillref37_Check.calls k ((rd_T24 l0 (ji2)).f0) ((rd_T24 l0 (ji2)).f1) _ _ ((rd_T24 l0 (ji2)).f2) t103 _ ?side1 ?side2 A8.out).mono ?_);(case side1=>exact Kd.C_below HR101_2.out (by repeat (first|(with_reducible first|exact HB.out|apply below_alloc|apply pw_below_drewN|apply below_drew1|refine below_set ?_ GE102.out)|exact HB.out)));(case side2=>exact HC101_2.out);rintro e w28 ⟨rfl,hb⟩;refine ⟨_,rfl,?_⟩;have n0_:=Aside0.mk (blk_below (g:=gb102) (o:=.cells #[.string ((rd_T24 l0 (ji2)).f0),.int .i64 ((rd_T24 l0 (ji2)).f1),.slice A101_2 ((rd_T24 l0 (ji2)).f2).length c101_2] 24 (0,0)) (by (with_reducible repeat (first|refine blk_drewN ?_ _|refine blk_drew ?_|refine blk_alloc ?_ _));refine blk_put (cs:=#[.string ((rd_T24 l0 (ji2)).f0),.int .i64 ((rd_T24 l0 (ji2)).f1),.slice none 0 0]) ?_ 2 _ rfl;(with_reducible repeat (first|refine blk_drewN ?_ _|refine blk_drew ?_|refine blk_alloc ?_ _));refine blk_put (cs:=#[.string ((rd_T24 l0 (ji2)).f0),.int .i64 0,.slice none 0 0]) ?_ 1 _ rfl;(with_reducible repeat (first|refine blk_drewN ?_ _|refine blk_drew ?_|refine blk_alloc ?_ _));refine blk_put (cs:=#[.string (⟨#[]⟩:ByteArray),.int .i64 0,.slice none 0 0]) ?_ 0 _ rfl;(with_reducible repeat (first|refine blk_drewN ?_ _|refine blk_drew ?_|refine blk_alloc ?_ _));exact BK102.out) hb);have n1_:=Aside0.mk (below_step (by repeat (first|(with_reducible first|exact HB.out|apply below_alloc|apply pw_below_drewN|apply below_drew1|refine below_set ?_ GE102.out)|exact HB.out)) hb);clear BK102;clear HB;have BK102:=n0_;have HB:=n1_;clear n0_ n1_;(try clear hb);(try clear hb2);(try clear hk);(try clear hi)))
       have n0_:=Aside0.mk (blk_drew BK102.out)
       have n1_:=Aside0.mk (below_drew1 HB.out)
       clear BK102
       clear HB
       have BK102:=n0_
       have HB:=n1_
       clear n0_ n1_
       have q30:((ji2):Int)≤((l0.length:Int):Int):=of_decide_eq_true (by first|(with_reducible assumption)|assumption)
       obtain ⟨i030,hi030,_,hsz30,_⟩:=info_parts info24
       have hroom30:l0.length≤c0:=HC0.out
       have hC30:Kd.C k24 _ (some ad101) l0.length l0:=HR0.out
       have hcut30:=cut_to (P:=Tryd.prog) 25 24 .i64 Tryd.underlying25 hi030 (some ad101) l0.length c0 (ji2) (of_decide_eq_true (by first|(with_reducible assumption)|assumption)) q30 hroom30
       have hr30:=Kd.C_take (m:=((ji2):Int).toNat) hC30 (by omega)
       have hy30:y104.length=((ji2):Int).toNat:=(by rw [Ny104.out,List.length_take];omega)
       rw [← Ny104.out] at hr30
       rw [← hy30] at hcut30
       have HR107:=Aside0.mk hr30
       have HC107:=Aside0.mk (show y104.length≤c0 from by omega)
       clear hr30 hC30 hroom30 hi030 hsz30
       have KY30:=Aside0.mk hy30
       clear hy30
       replace q30:=eq_true q30
       refine start_ (n:=14) (S:=fun w'=>w'.cell? ⟨gb102,0,none⟩=some (.string ((rd_T24 l0 (ji2)).f0))∧w'.cell? ⟨gb102,1,none⟩=some (.int .i64 ((rd_T24 l0 (ji2)).f1))∧w'.cell? ⟨gb102,2,none⟩=some (.slice A101_2 ((rd_T24 l0 (ji2)).f2).length c101_2)) (ds:=[]) #[false,false,false,false,false,false,false,false,false,false,false,false,false,false] (by kernel_rfl) rfl rfl ⟨(blk_cell BK102.out 0).trans rfl,(blk_cell BK102.out 1).trans rfl,(blk_cell BK102.out 2).trans rfl⟩ (fun hHeld=>?_);refine with_tabW sawmillref37_last.tab7 sawmillref37_last.bits7 (fun HT_ HW_=>?_)
       generalize w28.drew=w29 at BK102 HB HR107 hHeld ⊢
       refine pure_ (i:=0) (N:=some 22) (v:=?_) (a':=?_) #[true,false,false,false,false,false,false,false,false,false,false,false,false,false] rfl rfl (any_of HT_.out (by kernel_rfl)) (fun _ _ _ h=>h) (Or.inl ⟨by rfl,?_⟩) ?_ ?_
       rotate_left
       ·intro w'
        go_simp
        with_reducible rfl
       rotate_left
       ·simp only [Act.put,List.setIfInBounds_toArray,List.set_cons_zero,List.set_cons_succ,i64_w,i32_w]
        rfl
       refine pure_ (i:=1) (N:=some 23) (v:=?_) (a':=?_) #[true,true,false,false,false,false,false,false,false,false,false,false,false,false] rfl rfl (any_of HT_.out (by kernel_rfl)) (fun _ _ _ h=>h) (Or.inl ⟨by rfl,?_⟩) ?_ ?_
       rotate_left
       ·intro w'
        go_simp
        with_reducible rfl
       rotate_left
       ·simp only [Act.put,List.setIfInBounds_toArray,List.set_cons_zero,List.set_cons_succ,i64_w,i32_w]
        rfl
       refine pure_ (i:=2) (N:=some 24) (v:=?_) (a':=?_) #[true,true,true,false,false,false,false,false,false,false,false,false,false,false] rfl rfl (any_of HT_.out (by kernel_rfl)) (fun _ _ _ h=>h) (Or.inl ⟨by rfl,?_⟩) ?_ ?_
       rotate_left
       ·intro w'
        go_simp
        with_reducible rfl
       rotate_left
       ·simp only [Act.put,List.setIfInBounds_toArray,List.set_cons_zero,List.set_cons_succ,i64_w,i32_w]
        rfl
       refine pure_ (i:=3) (N:=some 25) (v:=?_) (a':=?_) #[true,true,true,true,false,false,false,false,false,false,false,false,false,false] rfl rfl (any_of HT_.out (by kernel_rfl)) (fun _ _ _ h=>h) (Or.inl ⟨by rfl,?_⟩) ?_ ?_
       rotate_left
       ·intro w'
        go_simp
        with_reducible rfl
       rotate_left
       ·simp only [Act.put,List.setIfInBounds_toArray,List.set_cons_zero,List.set_cons_succ,i64_w,i32_w]
        rfl
       refine pure_ (i:=4) (N:=some 26) (v:=?_) (a':=?_) #[true,true,true,true,true,false,false,false,false,false,false,false,false,false] rfl rfl (any_of HT_.out (by kernel_rfl)) (fun _ _ _ h=>h) (Or.inl ⟨by rfl,?_⟩) ?_ ?_
       rotate_left
       ·intro w'
        go_simp
        with_reducible rfl
       rotate_left
       ·simp only [Act.put,List.setIfInBounds_toArray,List.set_cons_zero,List.set_cons_succ,i64_w,i32_w]
        rfl
       refine pure_ (i:=5) (N:=some 27) (v:=?_) (a':=?_) #[true,true,true,true,true,true,false,false,false,false,false,false,false,false] rfl rfl (any_of HT_.out (by kernel_rfl)) (fun _ _ _ h=>h) (Or.inl ⟨by rfl,?_⟩) ?_ ?_
       rotate_left
       ·intro w'
        go_simp
        with_reducible rfl
       rotate_left
       ·simp only [Act.put,List.setIfInBounds_toArray,List.set_cons_zero,List.set_cons_succ,i64_w,i32_w]
        rfl
       refine take_ (i:=6) (N:=some 28) (v:=?_) (a':=?_) #[true,true,true,true,true,true,true,false,false,false,false,false,false,false] rfl rfl (take_ofW HT_.out HW_.out (by kernel_rfl)) (fun _ _ _ h=>h) (Or.inl ⟨by rfl,?_⟩) hHeld ?_ ?_
       rotate_left
       ·rintro w' ⟨s0,s1,s2⟩
        go_simp
        with_reducible rfl
       rotate_left
       ·simp only [Act.put,List.setIfInBounds_toArray,List.set_cons_zero,List.set_cons_succ,i64_w,i32_w]
        rfl
       refine join_ (σ:=Value × Nat) 2 #[true,true,true,true,true,true,true,true,true,true,true,true,false,false] (fun s_=>[(29,.tuple #[.agg #[.string t108,.int .i64 t109,s_.1],.bool false]),(5,.pointer (some ⟨s_.2,0,none⟩)),(21,.tuple #[.agg #[.string t108,.int .i64 t109,s_.1],.bool false]),(30,.agg #[.string t108,.int .i64 t109,s_.1]),(31,.bool false)]) (fun s_ w'=>(w'.cell? ⟨gb102,0,none⟩=some (.string ((rd_T24 l0 (ji2)).f0))∧w'.cell? ⟨gb102,1,none⟩=some (.int .i64 ((rd_T24 l0 (ji2)).f1))∧w'.cell? ⟨gb102,2,none⟩=some (.slice A101_2 ((rd_T24 l0 (ji2)).f2).length c101_2))∧(Kd.V k52 52 w' w.heap.size (fun k_=>k_ ≠ gb102∧k_ ≠ s_.2) s_.1 t110)∧(w'.heap[gb102]?=some (.cells #[.string ((rd_T24 l0 (ji2)).f0),.int .i64 ((rd_T24 l0 (ji2)).f1),.slice A101_2 ((rd_T24 l0 (ji2)).f2).length c101_2] 24 (0,0)))∧(w'.heap[s_.2]?=some (.cells #[.string (⟨#[]⟩:ByteArray),.int .i64 0,.slice none 0 0] 24 (0,0)))∧(w.heap.size≤s_.2)∧(w.heap.size≤s_.2)∧(gb102 ≠ s_.2)∧(s_.2 ≠ gb102)∧(Below w.heap.size w w')) ?_ ?_
       rotate_left
       ·intro hCont
        refine two_ (i:=7) (j:=11) (Ni:=some 29) (Nj:=some 5) #[true,true,true,true,true,true,true,true,false,false,false,false,false,false] #[true,true,true,true,true,true,true,false,false,false,false,true,false,false] rfl rfl rfl rfl (two_of HT_.out (by kernel_rfl)) (by decide) (by decide) (fun K hK=>?_) (fun K hK=>?_)
        ·skip
         refine goes_ Tryd.func15 (by kernel_rfl) rfl #[.slice (some ad101) y104.length c0,.string ((rd_T24 l0 (ji2)).f0)] (by rfl) rfl rfl (by (try simp only [List.map_toArray,List.map_cons,List.map_nil]);first|done|(simp only [hji2];rfl)|rfl|(simp only [List.length_drop,List.length_take];rfl)) ?_
         with_reducible refine (sawmillref37_Find.calls k (fun k_=>k_ < w.heap.size) _ _ y104 ((rd_T24 l0 (ji2)).f0) t108 t109 t110 false _ ?side1 A12.out).mono ?_
         (case side1=>exact Kd.V_mk HC107.out (Kd.F_below (Kd.C_F k24_heap HR107.out) (by repeat (first|(with_reducible first|exact HB.out|apply below_alloc|apply pw_below_drewN|apply below_drew1|refine below_set ?_ GE102.out)|exact HB.out))))
         rintro e w31 ⟨v111,rfl,ho0,hb⟩
         refine ⟨_,rfl,?_⟩
         have n0_:=Aside0.mk (Kd.V_lower (Kd.V_mono (ok':=fun k_=>k_ ≠ gb102) ho0 (fun k_ hk_=>Or.elim hk_ (fun hs_=>fun e_=>Nat.not_le.2 hs_ (by rw [e_];exact GW102.out)) (fun hn_=>(Kd.freshB (g:=gb102) (o:=.cells #[.string ((rd_T24 l0 (ji2)).f0),.int .i64 ((rd_T24 l0 (ji2)).f1),.slice A101_2 ((rd_T24 l0 (ji2)).f2).length c101_2] 24 (0,0)) (by (with_reducible repeat (first|refine blk_drewN ?_ _|refine blk_drew ?_|refine blk_alloc ?_ _));exact BK102.out) k_ hn_)))) (below_size (by repeat (first|(with_reducible first|exact HB.out|apply below_alloc|apply pw_below_drewN|apply below_drew1|refine below_set ?_ GE102.out)|exact HB.out))))
         have n1_:=Aside0.mk (blk_below (g:=gb102) (o:=.cells #[.string ((rd_T24 l0 (ji2)).f0),.int .i64 ((rd_T24 l0 (ji2)).f1),.slice A101_2 ((rd_T24 l0 (ji2)).f2).length c101_2] 24 (0,0)) (by (with_reducible repeat (first|refine blk_drewN ?_ _|refine blk_drew ?_|refine blk_alloc ?_ _));exact BK102.out) hb)
         have n2_:=Aside0.mk (below_step (by repeat (first|(with_reducible first|exact HB.out|apply below_alloc|apply pw_below_drewN|apply below_drew1|refine below_set ?_ GE102.out)|exact HB.out)) hb)
         clear BK102
         clear HB
         have HO112:=n0_
         have BK102:=n1_
         have HB:=n2_
         clear n0_ n1_ n2_
         (try clear hb)
         (try clear hb2)
         (try clear hk)
         (try clear hi)
         (try clear ho0)
         refine hK.out _ _ ⟨(blk_cell BK102.out 0).trans rfl,(blk_cell BK102.out 1).trans rfl,(blk_cell BK102.out 2).trans rfl⟩ (fun hHeld=>?_)
         clear hK K
         refine norm_ (a':=?_) ?_ ?_
         rotate_left
         ·show Act.put _ (some 29) _=_
          simp only [Act.put,List.setIfInBounds_toArray,List.set_cons_zero,List.set_cons_succ,i64_w,i32_w]
          rfl
         refine pure_ (i:=8) (N:=some 21) (v:=?_) (a':=?_) #[true,true,true,true,true,true,true,true,true,false,false,false,false,false] rfl rfl (any_of HT_.out (by kernel_rfl)) (fun _ _ _ h=>h) (Or.inl ⟨by rfl,?_⟩) ?_ ?_
         rotate_left
         ·intro w'
          go_simp
          with_reducible rfl
         rotate_left
         ·simp only [Act.put,List.setIfInBounds_toArray,List.set_cons_zero,List.set_cons_succ,i64_w,i32_w]
          rfl
         refine pure_ (i:=9) (N:=some 30) (v:=?_) (a':=?_) #[true,true,true,true,true,true,true,true,true,true,false,false,false,false] rfl rfl (any_of HT_.out (by kernel_rfl)) (fun _ _ _ h=>h) (Or.inl ⟨by rfl,?_⟩) ?_ ?_
         rotate_left
         ·intro w'
          go_simp
          with_reducible rfl
         rotate_left
         ·simp only [Act.put,List.setIfInBounds_toArray,List.set_cons_zero,List.set_cons_succ,i64_w,i32_w]
          rfl
         refine pure_ (i:=10) (N:=some 31) (v:=?_) (a':=?_) #[true,true,true,true,true,true,true,true,true,true,true,false,false,false] rfl rfl (any_of HT_.out (by kernel_rfl)) (fun _ _ _ h=>h) (Or.inl ⟨by rfl,?_⟩) ?_ ?_
         rotate_left
         ·intro w'
          go_simp
          with_reducible rfl
         rotate_left
         ·simp only [Act.put,List.setIfInBounds_toArray,List.set_cons_zero,List.set_cons_succ,i64_w,i32_w]
          rfl
         refine one_ (i:=11) (N:=some 5) #[true,true,true,true,true,true,true,true,true,true,true,true,false,false] rfl rfl (one_of HT_.out (by kernel_rfl)) (by decide) (fun K hK=>?_)
         refine box_step ?hg (N:=5) ?hd (cs:=#[.string (⟨#[]⟩:ByteArray),.int .i64 0,.slice none 0 0]) (t:=24) ?hr ?_;(case hd=>rfl);(case hg=>rfl);(case hr=>first|(go_simp;done)|(go_simp;rfl))
         intro gb114 hg w32 hbox hb
         have n0_:=Aside0.mk (Kd.V_below (Kd.V_elderB (by (with_reducible repeat (first|apply Kd.V_alloc|apply Kd.V_drewN|apply Kd.V_drew));exact HO112.out) gb114 (Nat.le_of_eq hg.symm)) hb)
         have n1_:=Aside0.mk (blk_below (g:=gb102) (o:=.cells #[.string ((rd_T24 l0 (ji2)).f0),.int .i64 ((rd_T24 l0 (ji2)).f1),.slice A101_2 ((rd_T24 l0 (ji2)).f2).length c101_2] 24 (0,0)) (by (with_reducible repeat (first|refine blk_drewN ?_ _|refine blk_drew ?_|refine blk_alloc ?_ _));exact BK102.out) hb)
         have n2_:=Aside0.mk (below_step (by repeat (first|(with_reducible first|exact HB.out|apply below_alloc|apply pw_below_drewN|apply below_drew1|refine below_set ?_ GE102.out)|exact HB.out)) hb)
         have n3_:=Aside0.mk (hbox)
         have n4_:=Aside0.mk ((by rw [hg];exact (below_size (by repeat (first|(with_reducible first|exact HB.out|apply below_alloc|apply pw_below_drewN|apply below_drew1|refine below_set ?_ GE102.out)|exact HB.out))):w.heap.size≤gb114))
         have n5_:=Aside0.mk ((by rw [hg];exact (below_size (by repeat (first|(with_reducible first|exact HB.out|apply below_alloc|apply pw_below_drewN|apply below_drew1|refine below_set ?_ GE102.out)|exact HB.out))):w.heap.size≤gb114))
         have n6_:=Aside0.mk ((by rw [hg];exact Nat.ne_of_lt (blk_lt (g:=gb102) (o:=.cells #[.string ((rd_T24 l0 (ji2)).f0),.int .i64 ((rd_T24 l0 (ji2)).f1),.slice A101_2 ((rd_T24 l0 (ji2)).f2).length c101_2] 24 (0,0)) (by (with_reducible repeat (first|refine blk_drewN ?_ _|refine blk_drew ?_|refine blk_alloc ?_ _));exact BK102.out)):gb102 ≠ gb114))
         have n7_:=Aside0.mk ((by rw [hg];exact Nat.ne_of_gt (blk_lt (g:=gb102) (o:=.cells #[.string ((rd_T24 l0 (ji2)).f0),.int .i64 ((rd_T24 l0 (ji2)).f1),.slice A101_2 ((rd_T24 l0 (ji2)).f2).length c101_2] 24 (0,0)) (by (with_reducible repeat (first|refine blk_drewN ?_ _|refine blk_drew ?_|refine blk_alloc ?_ _));exact BK102.out)):gb114 ≠ gb102))
         clear HO112
         clear BK102
         clear HB
         have HO112:=n0_
         have BK102:=n1_
         have HB:=n2_
         have BK114:=n3_
         have GW114:=n4_
         have GE114:=n5_
         have NB102_114:=n6_
         have NB114_102:=n7_
         clear n0_ n1_ n2_ n3_ n4_ n5_ n6_ n7_
         clear hb hbox hg
         refine hK.out _ _ ⟨(blk_cell BK102.out 0).trans rfl,(blk_cell BK102.out 1).trans rfl,(blk_cell BK102.out 2).trans rfl⟩ (fun hHeld=>?_)
         clear hK K
         refine norm_ (a':=?_) ?_ ?_
         rotate_left
         ·show Act.put _ (some 5) _=_
          simp only [Act.put,List.setIfInBounds_toArray,List.set_cons_zero,List.set_cons_succ,i64_w,i32_w]
          rfl
         exact norm_ (by simp only [putAll,Act.put,List.setIfInBounds_toArray,List.set_cons_zero,List.set_cons_succ]) (hCont (v111,gb114) _ ⟨hHeld,(by (with_reducible repeat (first|apply Kd.V_alloc|apply Kd.V_drewN|apply Kd.V_drew));exact HO112.out),(by (with_reducible repeat (first|refine blk_drewN ?_ _|refine blk_drew ?_|refine blk_alloc ?_ _));exact BK102.out),(by (with_reducible repeat (first|refine blk_drewN ?_ _|refine blk_drew ?_|refine blk_alloc ?_ _));exact BK114.out),GW114.out,GE114.out,NB102_114.out,NB114_102.out,(by repeat (first|(with_reducible first|exact HB.out|apply below_alloc|apply pw_below_drewN|apply below_drew1|refine below_set ?_ GE102.out|refine below_set ?_ GE114.out)|exact HB.out))⟩)
        ·skip
         refine box_step ?hg (N:=5) ?hd (cs:=#[.string (⟨#[]⟩:ByteArray),.int .i64 0,.slice none 0 0]) (t:=24) ?hr ?_;(case hd=>rfl);(case hg=>rfl);(case hr=>first|(go_simp;done)|(go_simp;rfl))
         intro gb114 hg w31 hbox hb
         have n0_:=Aside0.mk (blk_below (g:=gb102) (o:=.cells #[.string ((rd_T24 l0 (ji2)).f0),.int .i64 ((rd_T24 l0 (ji2)).f1),.slice A101_2 ((rd_T24 l0 (ji2)).f2).length c101_2] 24 (0,0)) (by (with_reducible repeat (first|refine blk_drewN ?_ _|refine blk_drew ?_|refine blk_alloc ?_ _));exact BK102.out) hb)
         have n1_:=Aside0.mk (below_step (by repeat (first|(with_reducible first|exact HB.out|apply below_alloc|apply pw_below_drewN|apply below_drew1|refine below_set ?_ GE102.out)|exact HB.out)) hb)
         have n2_:=Aside0.mk (hbox)
         have n3_:=Aside0.mk ((by rw [hg];exact (below_size (by repeat (first|(with_reducible first|exact HB.out|apply below_alloc|apply pw_below_drewN|apply below_drew1|refine below_set ?_ GE102.out)|exact HB.out))):w.heap.size≤gb114))
         have n4_:=Aside0.mk ((by rw [hg];exact (below_size (by repeat (first|(with_reducible first|exact HB.out|apply below_alloc|apply pw_below_drewN|apply below_drew1|refine below_set ?_ GE102.out)|exact HB.out))):w.heap.size≤gb114))
         have n5_:=Aside0.mk ((by rw [hg];exact Nat.ne_of_lt (blk_lt (g:=gb102) (o:=.cells #[.string ((rd_T24 l0 (ji2)).f0),.int .i64 ((rd_T24 l0 (ji2)).f1),.slice A101_2 ((rd_T24 l0 (ji2)).f2).length c101_2] 24 (0,0)) (by (with_reducible repeat (first|refine blk_drewN ?_ _|refine blk_drew ?_|refine blk_alloc ?_ _));exact BK102.out)):gb102 ≠ gb114))
         have n6_:=Aside0.mk ((by rw [hg];exact Nat.ne_of_gt (blk_lt (g:=gb102) (o:=.cells #[.string ((rd_T24 l0 (ji2)).f0),.int .i64 ((rd_T24 l0 (ji2)).f1),.slice A101_2 ((rd_T24 l0 (ji2)).f2).length c101_2] 24 (0,0)) (by (with_reducible repeat (first|refine blk_drewN ?_ _|refine blk_drew ?_|refine blk_alloc ?_ _));exact BK102.out)):gb114 ≠ gb102))
         clear BK102
         clear HB
         have BK102:=n0_
         have HB:=n1_
         have BK114:=n2_
         have GW114:=n3_
         have GE114:=n4_
         have NB102_114:=n5_
         have NB114_102:=n6_
         clear n0_ n1_ n2_ n3_ n4_ n5_ n6_
         clear hb hbox hg
         refine hK.out _ _ ⟨(blk_cell BK102.out 0).trans rfl,(blk_cell BK102.out 1).trans rfl,(blk_cell BK102.out 2).trans rfl⟩ (fun hHeld=>?_)
         clear hK K
         refine norm_ (a':=?_) ?_ ?_
         rotate_left
         ·show Act.put _ (some 5) _=_
          simp only [Act.put,List.setIfInBounds_toArray,List.set_cons_zero,List.set_cons_succ,i64_w,i32_w]
          rfl
         refine one_ (i:=7) (N:=some 29) #[true,true,true,true,true,true,true,true,false,false,false,true,false,false] rfl rfl (one_of HT_.out (by kernel_rfl)) (by decide) (fun K hK=>?_)
         refine goes_ Tryd.func15 (by kernel_rfl) rfl #[.slice (some ad101) y104.length c0,.string ((rd_T24 l0 (ji2)).f0)] (by rfl) rfl rfl (by (try simp only [List.map_toArray,List.map_cons,List.map_nil]);first|done|(simp only [hji2];rfl)|rfl|(simp only [List.length_drop,List.length_take];rfl)) ?_
         with_reducible refine (sawmillref37_Find.calls k (fun k_=>k_ < w.heap.size) _ _ y104 ((rd_T24 l0 (ji2)).f0) t108 t109 t110 false _ ?side1 A12.out).mono ?_
         (case side1=>exact Kd.V_mk HC107.out (Kd.F_below (Kd.C_F k24_heap HR107.out) (by repeat (first|(with_reducible first|exact HB.out|apply below_alloc|apply pw_below_drewN|apply below_drew1|refine below_set ?_ GE102.out|refine below_set ?_ GE114.out)|exact HB.out))))
         rintro e w32 ⟨v111,rfl,ho0,hb⟩
         refine ⟨_,rfl,?_⟩
         have n0_:=Aside0.mk (Kd.V_lower (Kd.V_mono (ok':=fun k_=>k_ ≠ gb102∧k_ ≠ gb114) ho0 (fun k_ hk_=>⟨Or.elim hk_ (fun hs_=>fun e_=>Nat.not_le.2 hs_ (by rw [e_];exact GW102.out)) (fun hn_=>(Kd.freshB (g:=gb102) (o:=.cells #[.string ((rd_T24 l0 (ji2)).f0),.int .i64 ((rd_T24 l0 (ji2)).f1),.slice A101_2 ((rd_T24 l0 (ji2)).f2).length c101_2] 24 (0,0)) (by (with_reducible repeat (first|refine blk_drewN ?_ _|refine blk_drew ?_|refine blk_alloc ?_ _));exact BK102.out) k_ hn_)),Or.elim hk_ (fun hs_=>fun e_=>Nat.not_le.2 hs_ (by rw [e_];exact GW114.out)) (fun hn_=>(Kd.freshB (g:=gb114) (o:=.cells #[.string (⟨#[]⟩:ByteArray),.int .i64 0,.slice none 0 0] 24 (0,0)) (by (with_reducible repeat (first|refine blk_drewN ?_ _|refine blk_drew ?_|refine blk_alloc ?_ _));exact BK114.out) k_ hn_))⟩)) (below_size (by repeat (first|(with_reducible first|exact HB.out|apply below_alloc|apply pw_below_drewN|apply below_drew1|refine below_set ?_ GE102.out|refine below_set ?_ GE114.out)|exact HB.out))))
         have n1_:=Aside0.mk (blk_below (g:=gb102) (o:=.cells #[.string ((rd_T24 l0 (ji2)).f0),.int .i64 ((rd_T24 l0 (ji2)).f1),.slice A101_2 ((rd_T24 l0 (ji2)).f2).length c101_2] 24 (0,0)) (by (with_reducible repeat (first|refine blk_drewN ?_ _|refine blk_drew ?_|refine blk_alloc ?_ _));exact BK102.out) hb)
         have n2_:=Aside0.mk (blk_below (g:=gb114) (o:=.cells #[.string (⟨#[]⟩:ByteArray),.int .i64 0,.slice none 0 0] 24 (0,0)) (by (with_reducible repeat (first|refine blk_drewN ?_ _|refine blk_drew ?_|refine blk_alloc ?_ _));exact BK114.out) hb)
         have n3_:=Aside0.mk (below_step (by repeat (first|(with_reducible first|exact HB.out|apply below_alloc|apply pw_below_drewN|apply below_drew1|refine below_set ?_ GE102.out|refine below_set ?_ GE114.out)|exact HB.out)) hb)
         clear BK102
         clear BK114
         clear HB
         have HO112:=n0_
         have BK102:=n1_
         have BK114:=n2_
         have HB:=n3_
         clear n0_ n1_ n2_ n3_
         (try clear hb)
         (try clear hb2)
         (try clear hk)
         (try clear hi)
         (try clear ho0)
         refine hK.out _ _ ⟨(blk_cell BK102.out 0).trans rfl,(blk_cell BK102.out 1).trans rfl,(blk_cell BK102.out 2).trans rfl⟩ (fun hHeld=>?_)
         clear hK K
         refine norm_ (a':=?_) ?_ ?_
         rotate_left
         ·show Act.put _ (some 29) _=_
          simp only [Act.put,List.setIfInBounds_toArray,List.set_cons_zero,List.set_cons_succ,i64_w,i32_w]
          rfl
         refine pure_ (i:=8) (N:=some 21) (v:=?_) (a':=?_) #[true,true,true,true,true,true,true,true,true,false,false,true,false,false] rfl rfl (any_of HT_.out (by kernel_rfl)) (fun _ _ _ h=>h) (Or.inl ⟨by rfl,?_⟩) ?_ ?_
         rotate_left
         ·intro w'
          go_simp
          with_reducible rfl
         rotate_left
         ·simp only [Act.put,List.setIfInBounds_toArray,List.set_cons_zero,List.set_cons_succ,i64_w,i32_w]
          rfl
         refine pure_ (i:=9) (N:=some 30) (v:=?_) (a':=?_) #[true,true,true,true,true,true,true,true,true,true,false,true,false,false] rfl rfl (any_of HT_.out (by kernel_rfl)) (fun _ _ _ h=>h) (Or.inl ⟨by rfl,?_⟩) ?_ ?_
         rotate_left
         ·intro w'
          go_simp
          with_reducible rfl
         rotate_left
         ·simp only [Act.put,List.setIfInBounds_toArray,List.set_cons_zero,List.set_cons_succ,i64_w,i32_w]
          rfl
         refine pure_ (i:=10) (N:=some 31) (v:=?_) (a':=?_) #[true,true,true,true,true,true,true,true,true,true,true,true,false,false] rfl rfl (any_of HT_.out (by kernel_rfl)) (fun _ _ _ h=>h) (Or.inl ⟨by rfl,?_⟩) ?_ ?_
         rotate_left
         ·intro w'
          go_simp
          with_reducible rfl
         rotate_left
         ·simp only [Act.put,List.setIfInBounds_toArray,List.set_cons_zero,List.set_cons_succ,i64_w,i32_w]
          rfl
         exact norm_ (by simp only [putAll,Act.put,List.setIfInBounds_toArray,List.set_cons_zero,List.set_cons_succ]) (hCont (v111,gb114) _ ⟨hHeld,(by (with_reducible repeat (first|apply Kd.V_alloc|apply Kd.V_drewN|apply Kd.V_drew));exact HO112.out),(by (with_reducible repeat (first|refine blk_drewN ?_ _|refine blk_drew ?_|refine blk_alloc ?_ _));exact BK102.out),(by (with_reducible repeat (first|refine blk_drewN ?_ _|refine blk_drew ?_|refine blk_alloc ?_ _));exact BK114.out),GW114.out,GE114.out,NB102_114.out,NB114_102.out,(by repeat (first|(with_reducible first|exact HB.out|apply below_alloc|apply pw_below_drewN|apply below_drew1|refine below_set ?_ GE102.out|refine below_set ?_ GE114.out)|exact HB.out))⟩)
       rintro ⟨v111,gb114⟩ w33 ⟨hS_,h0_,h1_,h2_,h3_,h4_,h5_,h6_,h7_⟩
       have n0_:Aside0 (Kd.V k52 52 w33 w.heap.size (fun k_=>k_ ≠ gb102∧k_ ≠ gb114) v111 t110):=⟨h0_⟩
       have n1_:Aside0 (w33.heap[gb102]?=some (.cells #[.string ((rd_T24 l0 (ji2)).f0),.int .i64 ((rd_T24 l0 (ji2)).f1),.slice A101_2 ((rd_T24 l0 (ji2)).f2).length c101_2] 24 (0,0))):=⟨h1_⟩
       have n2_:Aside0 (w33.heap[gb114]?=some (.cells #[.string (⟨#[]⟩:ByteArray),.int .i64 0,.slice none 0 0] 24 (0,0))):=⟨h2_⟩
       have n3_:Aside0 (w.heap.size≤gb114):=⟨h3_⟩
       have n4_:Aside0 (w.heap.size≤gb114):=⟨h4_⟩
       have n5_:Aside0 (gb102 ≠ gb114):=⟨h5_⟩
       have n6_:Aside0 (gb114 ≠ gb102):=⟨h6_⟩
       have n7_:Aside0 (Below w.heap.size w w33):=⟨h7_⟩
       clear BK102
       clear HB
       clear h0_ h1_ h2_ h3_ h4_ h5_ h6_ h7_
       have HO112:=n0_
       have BK102:=n1_
       have BK114:=n2_
       have GW114:=n3_
       have GE114:=n4_
       have NB102_114:=n5_
       have NB114_102:=n6_
       have HB:=n7_
       clear n0_ n1_ n2_ n3_ n4_ n5_ n6_ n7_
       have hHeld:w33.cell? ⟨gb102,0,none⟩=some (.string ((rd_T24 l0 (ji2)).f0))∧w33.cell? ⟨gb102,1,none⟩=some (.int .i64 ((rd_T24 l0 (ji2)).f1))∧w33.cell? ⟨gb102,2,none⟩=some (.slice A101_2 ((rd_T24 l0 (ji2)).f2).length c101_2):=hS_
       obtain ⟨Ao36,co36,eo36⟩:=Kd.V_slice HO112.out
       (first|subst eo36|(injection eo36 with f1_ f2_ f3_;have f4_:=f1_.symm;have f5_:=f3_.symm;clear f1_ f2_ f3_;subst f4_;subst f5_))
       refine norm_ (a':=?_) ?_ ?_
       rotate_left
       ·simp only [putAll,Act.put,List.setIfInBounds_toArray,List.set_cons_zero,List.set_cons_succ]
        rfl
       refine one_ (i:=12) (N:=none) #[true,true,true,true,true,true,true,true,true,true,true,true,true,false] rfl rfl (one_of HT_.out (by kernel_rfl)) (by decide) (fun K hK=>?_)
       have hs34:w33.cell? ⟨gb114,0,none⟩=some (.string (⟨#[]⟩:ByteArray)):=(blk_cell BK114.out 0).trans rfl
       have hfs34:=blk_frozen BK114.out 0
       have hns34_0:=NB102_114.out
       have hms34_0:=NB114_102.out
       have hs35:w33.cell? ⟨gb114,1,none⟩=some (.int .i64 0):=(blk_cell BK114.out 1).trans rfl
       have hfs35:=blk_frozen BK114.out 1
       have hns35_0:=NB102_114.out
       have hms35_0:=NB114_102.out
       have hs37:w33.cell? ⟨gb114,2,none⟩=some (.slice none 0 0):=(blk_cell BK114.out 2).trans rfl
       have hfs37:=blk_frozen BK114.out 2
       have hns37_0:=NB102_114.out
       have hms37_0:=NB114_102.out
       refine skip_ (w1:=?_) (by rfl) rfl ?_ ?_
       rotate_left
       ·go_simp
        rfl
       refine hK.out _ _ ⟨((cell_far (p:=⟨gb114,_,none⟩) NB102_114.out _).trans (((cell_far (p:=⟨gb114,_,none⟩) NB102_114.out _).trans (((cell_far (p:=⟨gb114,_,none⟩) NB102_114.out _).trans (hHeld.1)))))),((cell_far (p:=⟨gb114,_,none⟩) NB102_114.out _).trans (((cell_far (p:=⟨gb114,_,none⟩) NB102_114.out _).trans (((cell_far (p:=⟨gb114,_,none⟩) NB102_114.out _).trans (hHeld.2.1)))))),((cell_far (p:=⟨gb114,_,none⟩) NB102_114.out _).trans (((cell_far (p:=⟨gb114,_,none⟩) NB102_114.out _).trans (((cell_far (p:=⟨gb114,_,none⟩) NB102_114.out _).trans (hHeld.2.2))))))⟩ (fun hHeld=>?_)
       clear hK K
       refine pure_ (i:=13) (N:=some 6) (v:=?_) (a':=?_) #[true,true,true,true,true,true,true,true,true,true,true,true,true,true] rfl rfl (any_of HT_.out (by kernel_rfl)) (fun _ _ _ h=>h) (Or.inl ⟨by rfl,?_⟩) ?_ ?_
       rotate_left
       ·intro w'
        go_simp
        with_reducible rfl
       rotate_left
       ·simp only [Act.put,List.setIfInBounds_toArray,List.set_cons_zero,List.set_cons_succ,i64_w,i32_w]
        rfl
       refine done_ (done_of HT_.out (by kernel_rfl)) ?_
       try go_wp2
       go_ret
       exact ⟨by first|rfl|(simp [errW_none,errW_some]<;>rfl)|(simp only [← hji2];first|rfl|(simp [errW_none,errW_some]<;>rfl))|(simp [*,errW_none,errW_some]<;>rfl),by repeat (first|(with_reducible first|exact HB.out|apply below_alloc|apply pw_below_drewN|apply below_drew1|refine below_set ?_ GE102.out|refine below_set ?_ GE114.out)|exact HB.out)⟩
     ·rw [if_neg c11] at H
      exact absurd H (by simp)
    ·rw [if_neg c9] at H
     have c9b0:(t103 == 0)=false:=beq_eq_false_iff_ne.mpr c9
     have c9b1:(t103 != 0)=true:=bne_iff_ne.mpr c9
     obtain rfl:=Option.some.inj H
     have p101:0≤((ji2):Int):=of_decide_eq_true (by first|(with_reducible assumption)|assumption)
     have q101:(ji2) < (l0.length:Int):=of_decide_eq_true (by first|(with_reducible assumption)|assumption)
     obtain ⟨ad101,A101_2,c101_2,e101,hx101_0,hx101_1,hx101_2,hl101_2,hi101_2⟩:=at_T24 HR0.out (ji2) p101 q101
     cases e101
     have HR101_2:=Aside0.mk hi101_2
     have HC101_2:=Aside0.mk hl101_2
     clear hi101_2 hl101_2
     replace p101:=eq_true p101
     replace q101:=eq_true q101
     go_enter Tryd.func43,Tryd.ntmps43
     go_wp2_with (first|((with_reducible refine gate_dst (N:=3) rfl ?_);refine box_event ?hg (N:=3) ?hd (cs:=#[.string (⟨#[]⟩:ByteArray),.int .i64 0,.slice none 0 0]) (t:=24) ?hr ?_;(case hd=>rfl);(case hg=>rfl);(case hr=>first|(go_simp;done)|(go_simp;rfl));intro gb102 hg w38 hbox hb;have n0_:=Aside0.mk (below_step (by repeat (first|(with_reducible first|exact HB.out|apply below_alloc|apply pw_below_drewN|apply below_drew1)|exact HB.out)) hb);have n1_:=Aside0.mk (hbox);have n2_:=Aside0.mk ((by rw [hg];exact (below_size (by repeat (first|(with_reducible first|exact HB.out|apply below_alloc|apply pw_below_drewN|apply below_drew1)|exact HB.out))):w.heap.size≤gb102));have n3_:=Aside0.mk ((by rw [hg];exact (below_size (by repeat (first|(with_reducible first|exact HB.out|apply below_alloc|apply pw_below_drewN|apply below_drew1)|exact HB.out))):w.heap.size≤gb102));clear HB;have HB:=n0_;have BK102:=n1_;have GW102:=n2_;have GE102:=n3_;clear n0_ n1_ n2_ n3_;clear hb hbox hg;have hcz39_0:w38.cell? ⟨gb102,0,none⟩=some (.string (⟨#[]⟩:ByteArray)):=(blk_cell BK102.out 0).trans rfl;have hcz39_1:w38.cell? ⟨gb102,1,none⟩=some (.int .i64 0):=(blk_cell BK102.out 1).trans rfl;have hcz39_2:w38.cell? ⟨gb102,2,none⟩=some (.slice none 0 0):=(blk_cell BK102.out 2).trans rfl;have hfz39_0:=blk_frozen BK102.out 0;have hfz39_1:=blk_frozen BK102.out 1;have hfz39_2:=blk_frozen BK102.out 2)|((with_reducible refine gate_callee (f:=17) rfl ?_);refine goesL_ (some 17) rfl rfl Tryd.func17 (by kernel_rfl) rfl #[.agg #[.string ((rd_T24 l0 (ji2)).f0),.int .i64 ((rd_T24 l0 (ji2)).f1),.slice A101_2 ((rd_T24 l0 (ji2)).f2).length c101_2]] rfl (by (try simp only [List.map_toArray,List.map_cons,List.map_nil]);first|done|(simp only [hji2];rfl)|rfl|(simp only [List.length_drop,List.length_take];rfl)) ?_;(with_reducible refine (sawmillref37_Check.calls k ((rd_T24 l0 (ji2)).f0) ((rd_T24 l0 (ji2)).f1) _ _ ((rd_T24 l0 (ji2)).f2) t103 _ ?side1 ?side2 A8.out).mono ?_);(case side1=>exact Kd.C_below HR101_2.out (by repeat (first|(with_reducible first|exact HB.out|apply below_alloc|apply pw_below_drewN|apply below_drew1|refine below_set ?_ GE102.out)|exact HB.out)));(case side2=>exact HC101_2.out);rintro e w40 ⟨rfl,hb⟩;refine ⟨_,rfl,?_⟩;have n0_:=Aside0.mk (blk_below (g:=gb102) (o:=.cells #[.string ((rd_T24 l0 (ji2)).f0),.int .i64 ((rd_T24 l0 (ji2)).f1),.slice A101_2 ((rd_T24 l0 (ji2)).f2).length c101_2] 24 (0,0)) (by (with_reducible repeat (first|refine blk_drewN ?_ _|refine blk_drew ?_|refine blk_alloc ?_ _));refine blk_put (cs:=#[.string ((rd_T24 l0 (ji2)).f0),.int .i64 ((rd_T24 l0 (ji2)).f1),.slice none 0 0]) ?_ 2 _ rfl;(with_reducible repeat (first|refine blk_drewN ?_ _|refine blk_drew ?_|refine blk_alloc ?_ _));refine blk_put (cs:=#[.string ((rd_T24 l0 (ji2)).f0),.int .i64 0,.slice none 0 0]) ?_ 1 _ rfl;(with_reducible repeat (first|refine blk_drewN ?_ _|refine blk_drew ?_|refine blk_alloc ?_ _));refine blk_put (cs:=#[.string (⟨#[]⟩:ByteArray),.int .i64 0,.slice none 0 0]) ?_ 0 _ rfl;(with_reducible repeat (first|refine blk_drewN ?_ _|refine blk_drew ?_|refine blk_alloc ?_ _));exact BK102.out) hb);have n1_:=Aside0.mk (below_step (by repeat (first|(with_reducible first|exact HB.out|apply below_alloc|apply pw_below_drewN|apply below_drew1|refine below_set ?_ GE102.out)|exact HB.out)) hb);clear BK102;clear HB;have BK102:=n0_;have HB:=n1_;clear n0_ n1_;(try clear hb);(try clear hb2);(try clear hk);(try clear hi)))
     go_ret
     exact ⟨by first|rfl|(simp [errW_none,errW_some]<;>rfl)|(simp only [← hji2];first|rfl|(simp [errW_none,errW_some]<;>rfl))|(simp [*,errW_none,errW_some]<;>rfl),by repeat (first|(with_reducible first|exact HB.out|apply below_alloc|apply pw_below_drewN|apply below_drew1|refine below_set ?_ GE102.out)|exact HB.out)⟩
  ·rw [if_neg c4] at H
   exact absurd H (by simp)
 ·rw [if_neg c3] at H
  exact absurd H (by simp)
end Go.Proofs.YtehdmplngmbnnaaDoor.P
namespace Go.Proofs.YtehdmplngmbnnaaDoor.P
open Go.RowKit Go.Proofs.YtehdmplngmbnnaaDoorW.PrintWords Go.Proofs.YtehdmplngmbnnaaDoorW.PrintLast Go.Proofs.YtehdmplngmbnnaaDoorW.PrintMore
attribute [local go_sem] max2_int min2_int max_two min_two max_three min_three max_four min_four
attribute [local go_sem] cell_twice
set_option linter.unusedVariables false
set_option linter.unusedSimpArgs false
def sawmillref37_Valid.l0:Nat→List (S24)→Int→Option (Bool)
 | 0,_,_=>none
 | k+1,x0,x3=>if x3 < (x0.length:Int) then (if 0≤(wrap64 (x3+1)) then (if (wrap64 (x3+1))≤(x0.length:Int) then ((sawmillref37_last.f k (x0.take ((wrap64 (x3+1)):Int).toNat)).bind fun t105=>(if t105=0 then (sawmillref37_Valid.l0 k x0 (wrap64 (x3+1))) else (some false))) else (none)) else (none)) else (some true)
def sawmillref37_Valid.f (k:Nat) (l0:List (S24)):Option (Bool):=sawmillref37_Valid.l0 k l0 0
theorem sawmillref37_Valid.mono_l:∀ k,(∀ y0 y1,LeO (sawmillref37_Valid.l0 k y0 y1) (sawmillref37_Valid.l0 (k+1) y0 y1))
 | 0=>fun _ _ r h=>by simp [sawmillref37_Valid.l0] at h
 | k+1=>by
  have ih0:=sawmillref37_Valid.mono_l k
  ·intro y0 y1
   unfold sawmillref37_Valid.l0
   repeat' first
   | (with_reducible exact ih0 _ _)
   | (with_reducible exact sawmillref37_last.mono _ _)
   | (with_reducible exact LeO.refl _)
   | (with_reducible exact LeO.none _)
   | (with_reducible refine LeO.ite ?_ ?_)
   | (with_reducible refine LeO.bind ?_ (fun _=>?_))
   | exact ih0 _ _
   | exact sawmillref37_last.mono _ _
   | exact LeO.none _
   | refine LeO.ite ?_ ?_
   | refine LeO.bind ?_ (fun _=>?_)
theorem sawmillref37_Valid.mono:∀ a0 k,LeO (sawmillref37_Valid.f k a0) (sawmillref37_Valid.f (k+1) a0):=by
 intro a0 k
 have ih0:=sawmillref37_Valid.mono_l k
 unfold sawmillref37_Valid.f
 repeat' first
   | (with_reducible exact ih0 _ _)
   | (with_reducible exact sawmillref37_last.mono _ _)
   | (with_reducible exact LeO.refl _)
   | (with_reducible exact LeO.none _)
   | (with_reducible refine LeO.ite ?_ ?_)
   | (with_reducible refine LeO.bind ?_ (fun _=>?_))
   | exact ih0 _ _
   | exact sawmillref37_last.mono _ _
   | exact LeO.none _
   | refine LeO.ite ?_ ?_
   | refine LeO.bind ?_ (fun _=>?_)
set_option maxHeartbeats 8000000 in
set_option maxRecDepth 100000 in
theorem sawmillref37_Valid.calls (k:Nat) (A0:Option Addr) (c0:Nat) (l0:List (S24)) (r:Bool) (w:World) (hr0:Kd.C k24 w A0 l0.length l0) (hc0:l0.length≤c0) (h:sawmillref37_Valid.f k l0=some r) :
  Calls Tryd.prog 36 #[.slice A0 l0.length c0] w fun e w'=>e=.returned (.bool r)∧Below w.heap.size w w':=by
 have HR0:=Aside0.mk hr0
 have HC0:=Aside0.mk hc0
 clear hr0 hc0
 have HB:=Aside0.mk (Below.refl w.heap.size w)
 have H:(sawmillref37_Valid.l0 k l0 0)=some r:=h
 clear h
 have H':=Aside0.mk H
 clear H
 go_enter Tryd.func36,Tryd.ntmps36
 go_wp2
 go_loopg [3] k (fun kq v3 w'=>∃ (x3_1:Int),v3=.int .i64 x3_1∧Aside0 (sawmillref37_Valid.l0 kq l0 x3_1=some r)∧Aside0 (kq≤k)∧Aside0 (Below w.heap.size w w'))
 case atStart=>exact ⟨(0),(by first|rfl|(simp;done)|(simp [*];done)),H',⟨Nat.le_refl _⟩,⟨by repeat (first|(with_reducible first|exact HB.out|apply below_alloc|apply pw_below_drewN|apply below_drew1)|exact HB.out)⟩⟩
 case round =>
  clear H'
  obtain ⟨x3_1,rfl,HA,HK1,HB⟩:=hrel
  cases gk with
  | zero=>exact absurd HA.out (by simp [sawmillref37_Valid.l0])
  | succ k1 =>
   have H:=HA.out
   clear HA
   simp only [sawmillref37_Valid.l0] at H
   by_cases c2:x3_1 < (l0.length:Int)
   ·rw [if_pos c2] at H
    have c2b0:decide (x3_1 < (l0.length:Int))=true:=decide_eq_true c2
    clear c2
    obtain ⟨ji3,hji3⟩:∃ j_:Int,(wrap64 (x3_1+1))=j_:=⟨_,rfl⟩
    replace H:(if 0≤(ji3) then (if (ji3)≤(l0.length:Int) then ((sawmillref37_last.f k1 (l0.take ((ji3):Int).toNat)).bind fun t105=>(if t105=0 then (sawmillref37_Valid.l0 k1 l0 ji3) else (some false))) else (none)) else (none))=some r:=by first|(rw [hji3] at H;exact H)|(simp only [hji3] at H ⊢;exact H)
    have hji3w:(IntKind.i64.wrap (x3_1+1))=ji3:=(i64_w _).trans hji3
    by_cases c4:0≤(ji3)
    ·rw [if_pos c4] at H
     have c4b0:=eq_true c4
     have c4b1:decide (0≤(ji3))=true:=decide_eq_true c4
     clear c4
     by_cases c5:(ji3)≤(l0.length:Int)
     ·rw [if_pos c5] at H
      have c5b0:=eq_true c5
      have c5b1:decide ((ji3)≤(l0.length:Int))=true:=decide_eq_true c5
      clear c5
      obtain ⟨y101,hy101⟩:∃ y_:List (S24),y_=(l0.take ((ji3):Int).toNat):=⟨_,rfl⟩
      replace H:((sawmillref37_last.f k1 y101).bind fun t105=>(if t105=0 then (sawmillref37_Valid.l0 k1 l0 ji3) else (some false)))=some r:=by first|(rw [hy101];with_reducible exact H)|(have H2_:=(Option.bind_some _ _).symm.trans H;rw [hy101];with_reducible exact H2_)|(have H2_:=(Option.bind_some _ _).symm.trans H;with_reducible exact H2_)|with_reducible exact H|(rw [hy101];exact H)|exact H
      have Ny101:=Aside0.mk hy101
      clear hy101
      replace H:=Option.bind_eq_some_iff.mp H
      obtain ⟨t105,A60,H⟩:=H
      replace H:(if t105=0 then (sawmillref37_Valid.l0 k1 l0 ji3) else (some false))=some r:=H
      have A6:=Aside0.mk A60
      clear A60
      by_cases c7:t105=0
      ·rw [if_pos c7] at H
       have c7b0:(t105 == 0)=true:=beq_iff_eq.mpr c7
       have c7b1:(t105 != 0)=false:=bne_eq_false_iff_eq.mpr c7
       clear c7
       have H':=Aside0.mk H
       clear H
       have q8:((ji3):Int)≤((l0.length:Int):Int):=of_decide_eq_true (by first|(with_reducible assumption)|assumption)
       obtain ⟨i08,hi08,_,hsz8,_⟩:=info_parts info24
       have hroom8:l0.length≤c0:=HC0.out
       have hC8:Kd.C k24 _ A0 l0.length l0:=HR0.out
       have hcut8:=cut_to (P:=Tryd.prog) 25 24 .i64 Tryd.underlying25 hi08 A0 l0.length c0 (ji3) (of_decide_eq_true (by first|(with_reducible assumption)|assumption)) q8 hroom8
       have hr8:=Kd.C_take (m:=((ji3):Int).toNat) hC8 (by omega)
       have hy8:y101.length=((ji3):Int).toNat:=(by rw [Ny101.out,List.length_take];omega)
       rw [← Ny101.out] at hr8
       rw [← hy8] at hcut8
       have HR104:=Aside0.mk hr8
       have HC104:=Aside0.mk (show y101.length≤c0 from by omega)
       clear hr8 hC8 hroom8 hi08 hsz8
       have KY8:=Aside0.mk hy8
       clear hy8
       replace q8:=eq_true q8
       go_wp2_with (first|((with_reducible refine gate_callee (f:=43) rfl ?_);refine goesL_ (some 14) rfl rfl Tryd.func43 (by kernel_rfl) rfl #[.slice A0 y101.length c0] rfl (by (try simp only [List.map_toArray,List.map_cons,List.map_nil]);first|done|rfl|(simp only [List.length_drop,List.length_take];rfl)) ?_;(with_reducible refine (sawmillref37_last.calls k1 _ _ y101 t105 _ ?side1 ?side2 A6.out).mono ?_);(case side1=>repeat (first|exact (Kd.C_below HR104.out HB.out)|(with_reducible refine Kd.C_alloc ?_ _)|(with_reducible refine Kd.C_drewN ?_ _)|(with_reducible refine Kd.C_drew ?_)));(case side2=>exact HC104.out);rintro e w9 ⟨rfl,hb⟩;refine ⟨_,rfl,?_⟩;have n0_:=Aside0.mk (below_step (by repeat (first|(with_reducible first|exact HB.out|apply below_alloc|apply pw_below_drewN|apply below_drew1)|exact HB.out)) hb);clear HB;have HB:=n0_;clear n0_;(try clear hb);(try clear hb2);(try clear hk);(try clear hi)))
       go_roundg k1
       case measure=>have:=HK1.out;omega
       case rel=>exact ⟨(ji3),(by first|rfl|(simp;done)|(simp only [← hji3]<;>(first|rfl|simp))|(simp [*];done)),H',⟨by have:=HK1.out;omega⟩,⟨by repeat (first|(with_reducible first|exact HB.out|apply below_alloc|apply pw_below_drewN|apply below_drew1)|exact HB.out)⟩⟩
      ·rw [if_neg c7] at H
       have c7b0:(t105 == 0)=false:=beq_eq_false_iff_ne.mpr c7
       have c7b1:(t105 != 0)=true:=bne_iff_ne.mpr c7
       obtain rfl:=Option.some.inj H
       have q10:((ji3):Int)≤((l0.length:Int):Int):=of_decide_eq_true (by first|(with_reducible assumption)|assumption)
       obtain ⟨i010,hi010,_,hsz10,_⟩:=info_parts info24
       have hroom10:l0.length≤c0:=HC0.out
       have hC10:Kd.C k24 _ A0 l0.length l0:=HR0.out
       have hcut10:=cut_to (P:=Tryd.prog) 25 24 .i64 Tryd.underlying25 hi010 A0 l0.length c0 (ji3) (of_decide_eq_true (by first|(with_reducible assumption)|assumption)) q10 hroom10
       have hr10:=Kd.C_take (m:=((ji3):Int).toNat) hC10 (by omega)
       have hy10:y101.length=((ji3):Int).toNat:=(by rw [Ny101.out,List.length_take];omega)
       rw [← Ny101.out] at hr10
       rw [← hy10] at hcut10
       have HR104:=Aside0.mk hr10
       have HC104:=Aside0.mk (show y101.length≤c0 from by omega)
       clear hr10 hC10 hroom10 hi010 hsz10
       have KY10:=Aside0.mk hy10
       clear hy10
       replace q10:=eq_true q10
       go_wp2_with (first|((with_reducible refine gate_callee (f:=43) rfl ?_);refine goesL_ (some 14) rfl rfl Tryd.func43 (by kernel_rfl) rfl #[.slice A0 y101.length c0] rfl (by (try simp only [List.map_toArray,List.map_cons,List.map_nil]);first|done|rfl|(simp only [List.length_drop,List.length_take];rfl)) ?_;(with_reducible refine (sawmillref37_last.calls k1 _ _ y101 t105 _ ?side1 ?side2 A6.out).mono ?_);(case side1=>repeat (first|exact (Kd.C_below HR104.out HB.out)|(with_reducible refine Kd.C_alloc ?_ _)|(with_reducible refine Kd.C_drewN ?_ _)|(with_reducible refine Kd.C_drew ?_)));(case side2=>exact HC104.out);rintro e w11 ⟨rfl,hb⟩;refine ⟨_,rfl,?_⟩;have n0_:=Aside0.mk (below_step (by repeat (first|(with_reducible first|exact HB.out|apply below_alloc|apply pw_below_drewN|apply below_drew1)|exact HB.out)) hb);clear HB;have HB:=n0_;clear n0_;(try clear hb);(try clear hb2);(try clear hk);(try clear hi)))
       go_ret
       exact ⟨by first|rfl|(simp [errW_none,errW_some]<;>rfl)|(simp only [← hji3];first|rfl|(simp [errW_none,errW_some]<;>rfl))|(simp [*,errW_none,errW_some]<;>rfl),by repeat (first|(with_reducible first|exact HB.out|apply below_alloc|apply pw_below_drewN|apply below_drew1)|exact HB.out)⟩
     ·rw [if_neg c5] at H
      exact absurd H (by simp)
    ·rw [if_neg c4] at H
     exact absurd H (by simp)
   ·rw [if_neg c2] at H
    have c2b0:decide (x3_1 < (l0.length:Int))=false:=decide_eq_false c2
    clear c2
    obtain rfl:=Option.some.inj H
    go_wp2
    go_ret
    exact ⟨by first|rfl|(simp [errW_none,errW_some]<;>rfl)|(simp [*,errW_none,errW_some]<;>rfl),by repeat (first|(with_reducible first|exact HB.out|apply below_alloc|apply pw_below_drewN|apply below_drew1)|exact HB.out)⟩
end Go.Proofs.YtehdmplngmbnnaaDoor.P
namespace Go.Proofs.YtehdmplngmbnnaaDoor.P
open Go.RowKit Go.Proofs.YtehdmplngmbnnaaDoorW.PrintWords
set_option linter.unusedVariables false
set_option linter.unusedSimpArgs false
theorem rd_mem {l:List S24} (i:Int) (h0:0≤i) (h1:i < (l.length:Int)):rd_T24 l i ∈ l:=by
 have hk:i.toNat < l.length:=by omega
 unfold rd_T24
 rw [List.getD_eq_getElem?_getD,List.getElem?_eq_getElem hk]
 simp
theorem last_same (l:List S24) (hl:0 < l.length) (hl2:l.length≤1000) (hs:∀ s ∈ l,s.f0.size≤100∧s.f2.length≤40) (k:Nat) (hk:1100≤k):∃ e,schedule_last.f l=some e∧sawmillref37_last.f k l=some e:=by
 obtain ⟨k,rfl⟩:∃ m,k=20+m:=⟨k - 20,by omega⟩
 have e:wrap64 ((l.length:Int) - 1)=(l.length:Int) - 1:=by
  unfold wrap64
  omega
 unfold schedule_last.f sawmillref37_last.f
 rw [e]
 have q0:0≤(l.length:Int) - 1:=by omega
 have q1:(l.length:Int) - 1 < (l.length:Int):=by omega
 have q3:(l.length:Int) - 1≤(l.length:Int):=by omega
 by_cases g1:(l.length:Int) - 1 ≥ 8
 ·simp only [if_pos g1,if_pos q0,if_pos q1,if_pos (show (l.length:Int) > 8 by omega)]
  exact ⟨_,rfl,rfl⟩
 ·simp only [if_neg g1,if_pos q0,if_pos q1,if_neg (show ¬ (l.length:Int) > 8 by omega),if_pos q3]
  obtain ⟨hm1,hm2⟩:=hs _ (rd_mem ((l.length:Int) - 1) (by omega) (by omega))
  rw [check_same _ _ _ (by omega) k]
  obtain ⟨c,hc⟩:∃ c,schedule_Check.f (rd_T24 l ((l.length:Int) - 1)).f0 (rd_T24 l ((l.length:Int) - 1)).f1 (rd_T24 l ((l.length:Int) - 1)).f2=some c:=⟨_,rfl⟩
  rw [hc,Option.bind_some,Option.bind_some]
  by_cases g2:c=0
  ·rw [if_pos g2,if_pos g2,find_prog _ _ (by rw [List.length_take];omega) (fun s hx=>by have:=(hs s (List.mem_of_mem_take hx)).2;omega),find_ref _ _ (by rw [List.length_take];omega) _ (by rw [List.length_take];omega)]
   simp only [Option.bind_some]
   split<;>exact ⟨_,rfl,rfl⟩
  ·rw [if_neg g2,if_neg g2]
   exact ⟨_,rfl,rfl⟩
end Go.Proofs.YtehdmplngmbnnaaDoor.P
namespace Go.Proofs.YtehdmplngmbnnaaDoor.P
open Go.RowKit Go.Proofs.YtehdmplngmbnnaaDoorW.PrintWords Go.Proofs.YtehdmplngmbnnaaDoorW.PrintLast Go.Proofs.YtehdmplngmbnnaaDoorW.PrintMore
attribute [local go_sem] max2_int min2_int max_two min_two max_three min_three max_four min_four
attribute [local go_sem] cell_twice
set_option linter.unusedVariables false
set_option linter.unusedSimpArgs false
def sawmillref37_decimal.f:Nat→Int→Option (ByteArray)
 | 0,_=>none
 | k+1,a0=>(some (([(wrap64 (48+(Int.tmod a0 10))) % 256]:List Int):List Int)).bind fun y101=>(if a0 < 10 then (some (strOfNums y101)) else ((sawmillref37_decimal.f k (wrap64 (Int.tdiv a0 10))).bind fun t104=>(if t104.size+(strOfNums y101).size≤9223372036854775807 then (some (t104++(strOfNums y101))) else (none))))
theorem sawmillref37_decimal.mono_l:∀ k,(∀ y0,LeO (sawmillref37_decimal.f k y0) (sawmillref37_decimal.f (k+1) y0))
 | 0=>fun _ r h=>by simp [sawmillref37_decimal.f] at h
 | k+1=>by
  have ih0:=sawmillref37_decimal.mono_l k
  ·intro y0
   unfold sawmillref37_decimal.f
   repeat' first
   | (with_reducible exact ih0 _)
   | (with_reducible exact LeO.refl _)
   | (with_reducible exact LeO.none _)
   | (with_reducible refine LeO.ite ?_ ?_)
   | (with_reducible refine LeO.bind ?_ (fun _=>?_))
   | exact ih0 _
   | exact LeO.none _
   | refine LeO.ite ?_ ?_
   | refine LeO.bind ?_ (fun _=>?_)
theorem sawmillref37_decimal.mono:∀ a0 k,LeO (sawmillref37_decimal.f k a0) (sawmillref37_decimal.f (k+1) a0):=by
 intro a0 k
 have ih0:=sawmillref37_decimal.mono_l k
 exact ih0 a0
set_option maxHeartbeats 8000000 in
set_option maxRecDepth 100000 in
theorem sawmillref37_decimal.calls (k:Nat):∀ (a0:Int) (r:ByteArray) (w:World) (h:sawmillref37_decimal.f k a0=some r),
  Calls Tryd.prog 37 #[.int .i64 a0] w fun e w'=>e=.returned (.string r)∧Below w.heap.size w w':=by
 induction k using Nat.strongRecOn with
 | _ k ih =>
 intro a0 r w h
 cases k with
 | zero=>exact absurd h (by simp [sawmillref37_decimal.f])
 | succ k =>
 simp only [sawmillref37_decimal.f] at h
 have HB:=Aside0.mk (Below.refl w.heap.size w)
 have H:((some (([(wrap64 (48+(Int.tmod a0 10))) % 256]:List Int):List Int)).bind fun y101=>(if a0 < 10 then (some (strOfNums y101)) else ((sawmillref37_decimal.f k (wrap64 (Int.tdiv a0 10))).bind fun t104=>(if t104.size+(strOfNums y101).size≤9223372036854775807 then (some (t104++(strOfNums y101))) else (none)))))=some r:=h
 clear h
 obtain ⟨y101,hy101⟩:∃ y_:List Int,y_=(([(wrap64 (48+(Int.tmod a0 10))) % 256]:List Int)):=⟨_,rfl⟩
 replace H:(if a0 < 10 then (some (strOfNums y101)) else ((sawmillref37_decimal.f k (wrap64 (Int.tdiv a0 10))).bind fun t104=>(if t104.size+(strOfNums y101).size≤9223372036854775807 then (some (t104++(strOfNums y101))) else (none))))=some r:=by first|(rw [hy101];with_reducible exact H)|(have H2_:=(Option.bind_some _ _).symm.trans H;rw [hy101];with_reducible exact H2_)|(have H2_:=(Option.bind_some _ _).symm.trans H;with_reducible exact H2_)|with_reducible exact H|(rw [hy101];exact H)|exact H
 have Ny101:=Aside0.mk hy101
 clear hy101
 by_cases c2:a0 < 10
 ·rw [if_pos c2] at H
  have c2b0:decide (a0 < 10)=true:=decide_eq_true c2
  clear c2
  obtain rfl:=Option.some.inj H
  go_enter Tryd.func37,Tryd.ntmps37
  go_wp2_with (first|((with_reducible refine gate_dst (N:=8) rfl ?_);refine Kd.R_lit (Kd.int .u8) _ 5 ?hg (N:=8) ?hd (xs:=([(wrap64 (48+(Int.tmod a0 10))) % 256]:List Int)) (inner:=[.int .u8 ((wrap64 (48+(Int.tmod a0 10))) % 256)]) (ok:=fun _=>True) (okp:=fun _=>True) ?hr ?hp (fun _ hk=>hk) trivial (Below.refl _ _) (Nat.le_refl _) (by simp) ?_;(case hd=>rfl);(case hg=>rfl);(case hr=>first|(go_simp;done)|(go_simp;rfl));(case hp=>exact (Reps.one (show Kd.M (Kd.int .u8) _ _ _ ((wrap64 (48+(Int.tmod a0 10))) % 256) [.int .u8 ((wrap64 (48+(Int.tmod a0 10))) % 256)] from rfl) (Reps.none _ _)));intro v102 w3 ho4 hb hg_ hnew_;clear hg_ hnew_;(first|rw [← Ny101.out] at ho4|(simp only [Int.reduceToNat] at ho4;rw [← Ny101.out] at ho4));have n0_:=Aside0.mk (Kd.R_lower ho4 (below_size (by repeat (first|(with_reducible first|exact HB.out|apply below_alloc|apply pw_below_drewN|apply below_drew1)|exact HB.out))));have n1_:=Aside0.mk (below_step (by repeat (first|(with_reducible first|exact HB.out|apply below_alloc|apply pw_below_drewN|apply below_drew1)|exact HB.out)) hb);clear HB;have HO103:=n0_;have HB:=n1_;clear n0_ n1_;clear hb ho4;have hcv5:=own_string (P:=Tryd.prog) Tryd.underlying81 Tryd.underlying5 Tryd.underlying9 (Kd.own_of_R HO103.out)))
  go_ret
  exact ⟨by first|rfl|(simp [errW_none,errW_some]<;>rfl)|(simp [*,errW_none,errW_some]<;>rfl),by repeat (first|(with_reducible first|exact HB.out|apply below_alloc|apply pw_below_drewN|apply below_drew1)|exact HB.out)⟩
 ·rw [if_neg c2] at H
  have c2b0:decide (a0 < 10)=false:=decide_eq_false c2
  clear c2
  replace H:=Option.bind_eq_some_iff.mp H
  obtain ⟨t104,A60,H⟩:=H
  replace H:(if t104.size+(strOfNums y101).size≤9223372036854775807 then (some (t104++(strOfNums y101))) else (none))=some r:=H
  have A6:=Aside0.mk A60
  clear A60
  by_cases c7:t104.size+(strOfNums y101).size≤9223372036854775807
  ·rw [if_pos c7] at H
   have c7b0:=eq_true c7
   have c7b1:decide (t104.size+(strOfNums y101).size≤9223372036854775807)=true:=decide_eq_true c7
   try have c7b2:(9223372036854775807 < t104.size+(strOfNums y101).size)=False:=eq_false (Nat.not_lt.2 c7)
   obtain rfl:=Option.some.inj H
   go_enter Tryd.func37,Tryd.ntmps37
   go_wp2_with (first|((with_reducible refine gate_dst (N:=8) rfl ?_);refine Kd.R_lit (Kd.int .u8) _ 5 ?hg (N:=8) ?hd (xs:=([(wrap64 (48+(Int.tmod a0 10))) % 256]:List Int)) (inner:=[.int .u8 ((wrap64 (48+(Int.tmod a0 10))) % 256)]) (ok:=fun _=>True) (okp:=fun _=>True) ?hr ?hp (fun _ hk=>hk) trivial (Below.refl _ _) (Nat.le_refl _) (by simp) ?_;(case hd=>rfl);(case hg=>rfl);(case hr=>first|(go_simp;done)|(go_simp;rfl));(case hp=>exact (Reps.one (show Kd.M (Kd.int .u8) _ _ _ ((wrap64 (48+(Int.tmod a0 10))) % 256) [.int .u8 ((wrap64 (48+(Int.tmod a0 10))) % 256)] from rfl) (Reps.none _ _)));intro v102 w8 ho9 hb hg_ hnew_;clear hg_ hnew_;(first|rw [← Ny101.out] at ho9|(simp only [Int.reduceToNat] at ho9;rw [← Ny101.out] at ho9));have n0_:=Aside0.mk (Kd.R_lower ho9 (below_size (by repeat (first|(with_reducible first|exact HB.out|apply below_alloc|apply pw_below_drewN|apply below_drew1)|exact HB.out))));have n1_:=Aside0.mk (below_step (by repeat (first|(with_reducible first|exact HB.out|apply below_alloc|apply pw_below_drewN|apply below_drew1)|exact HB.out)) hb);clear HB;have HO103:=n0_;have HB:=n1_;clear n0_ n1_;clear hb ho9;have hcv10:=own_string (P:=Tryd.prog) Tryd.underlying81 Tryd.underlying5 Tryd.underlying9 (Kd.own_of_R HO103.out))|((with_reducible refine gate_callee (f:=37) rfl ?_);refine goesL_ (some 15) rfl rfl Tryd.func37 (by kernel_rfl) rfl #[.int .i64 (wrap64 (Int.tdiv a0 10))] rfl (by (try simp only [List.map_toArray,List.map_cons,List.map_nil]);first|done|rfl|(simp only [List.length_drop,List.length_take];rfl)) ?_;(with_reducible refine (ih k (by omega) (wrap64 (Int.tdiv a0 10)) t104 _ A6.out).mono ?_);rintro e w11 ⟨rfl,hb⟩;refine ⟨_,rfl,?_⟩;have n0_:=Aside0.mk (Kd.R_below (by (with_reducible repeat (first|apply Kd.R_alloc|apply Kd.R_drewN|apply Kd.R_drew));exact HO103.out) hb);have n1_:=Aside0.mk (below_step (by repeat (first|(with_reducible first|exact HB.out|apply below_alloc|apply pw_below_drewN|apply below_drew1)|exact HB.out)) hb);clear HO103;clear HB;have HO103:=n0_;have HB:=n1_;clear n0_ n1_;(try clear hb);(try clear hb2);(try clear hk);(try clear hi)))
   go_ret
   exact ⟨by first|rfl|(simp [errW_none,errW_some]<;>rfl)|(simp [*,errW_none,errW_some]<;>rfl),by repeat (first|(with_reducible first|exact HB.out|apply below_alloc|apply pw_below_drewN|apply below_drew1)|exact HB.out)⟩
  ·rw [if_neg c7] at H
   exact absurd H (by simp)
end Go.Proofs.YtehdmplngmbnnaaDoor.P
namespace Go.Proofs.YtehdmplngmbnnaaDoor.P
open Go.RowKit Go.Proofs.YtehdmplngmbnnaaDoorW.PrintWords
set_option linter.unusedVariables false
set_option linter.unusedSimpArgs false
theorem decimal_f:∀ (d n k:Nat),n < 10 ^ d→d < k→n≤1000000→sawmillref37_decimal.f k (n:Int)=some ⟨(Lib.decDigits n).toArray⟩:=by
 intro d
 induction d with
 | zero =>
  intro n k hn hk _
  obtain ⟨k,rfl⟩:∃ m,k=m+1:=⟨k - 1,by omega⟩
  obtain rfl:n=0:=by simpa using hn
  simp only [sawmillref37_decimal.f]
  rw [Lib.decDigits_one (by omega),Option.bind_some,if_pos (by omega),show (wrap64 (48+Int.tmod ((0:Nat):Int) 10)) % 256=48 by decide +kernel]
  rfl
 | succ d ih =>
  intro n k hn hk hb
  obtain ⟨k,rfl⟩:∃ m,k=m+1:=⟨k - 1,by omega⟩
  simp only [sawmillref37_decimal.f]
  have e1:(wrap64 (48+Int.tmod (n:Int) 10)) % 256=((48+n % 10:Nat):Int):=by
   rw [show Int.tmod (n:Int) 10=((n % 10:Nat):Int) from rfl]
   unfold wrap64
   omega
  have e2:wrap64 (Int.tdiv (n:Int) 10)=((n / 10:Nat):Int):=by
   rw [show Int.tdiv (n:Int) 10=((n / 10:Nat):Int) from rfl]
   unfold wrap64
   omega
  rw [e1,Option.bind_some]
  have e3:strOfNums [((48+n % 10:Nat):Int)]=⟨#[UInt8.ofNat (48+n % 10)]⟩:=rfl
  rw [e3]
  by_cases g:n < 10
  ·rw [if_pos (by omega),Lib.decDigits_one g,Nat.mod_eq_of_lt g]
  ·rw [if_neg (by omega),e2,ih (n / 10) k (by rw [Nat.pow_succ] at hn;omega) (by omega) (by omega),Option.bind_some]
   have hl:(⟨(Lib.decDigits (n / 10)).toArray⟩:ByteArray).size≤21:=by
    have:=Lib.itoa_length_le ((n / 10:Nat):Int) (by omega) (by omega)
    rw [Lib.itoa_nonneg] at this
    simpa [ByteArray.size] using this
   rw [if_pos (by have:(⟨#[UInt8.ofNat (48+n % 10)]⟩:ByteArray).size=1:=rfl;omega)]
   rw [show Lib.decDigits n=Lib.decDigits (n / 10)++[UInt8.ofNat (48+n % 10)] by rw [Lib.decDigits,dif_neg g]]
   first|(congr 1;done)|(congr 1;apply ByteArray.ext;simp)
end Go.Proofs.YtehdmplngmbnnaaDoor.P
namespace Go.Proofs.YtehdmplngmbnnaaDoor.P
open Go.RowKit Go.Proofs.YtehdmplngmbnnaaDoorW.PrintWords Go.Proofs.YtehdmplngmbnnaaDoorW.PrintLast Go.Proofs.YtehdmplngmbnnaaDoorW.PrintMore
attribute [local go_sem] max2_int min2_int max_two min_two max_three min_three max_four min_four
attribute [local go_sem] cell_twice
set_option linter.unusedVariables false
set_option linter.unusedSimpArgs false
def sawmilllaw37_small.f (a0_0:ByteArray) (a0_1:Int) (l0_2:List (S52)):Option (Bool):=if (a0_0.size:Int)≤100 then (some (decide ((l0_2.length:Int)≤40))) else (some false)
set_option maxHeartbeats 8000000 in
set_option maxRecDepth 100000 in
theorem sawmilllaw37_small.calls (a0_0:ByteArray) (a0_1:Int) (A0_2:Option Addr) (c0_2:Nat) (l0_2:List (S52)) (r:Bool) (w:World) (hr0_2:Kd.C k52 w A0_2 l0_2.length l0_2) (hc0_2:l0_2.length≤c0_2) (h:sawmilllaw37_small.f a0_0 a0_1 l0_2=some r) :
  Calls Tryd.prog 11 #[.agg #[.string a0_0,.int .i64 a0_1,.slice A0_2 l0_2.length c0_2]] w fun e w'=>e=.returned (.bool r)∧Below w.heap.size w w':=by
 have hu24:=Tryd.underlying24
 have HR0_2:=Aside0.mk hr0_2
 have HC0_2:=Aside0.mk hc0_2
 clear hr0_2 hc0_2
 have HB:=Aside0.mk (Below.refl w.heap.size w)
 have H:(if (a0_0.size:Int)≤100 then (some (decide ((l0_2.length:Int)≤40))) else (some false))=some r:=h
 clear h
 by_cases c2:(a0_0.size:Int)≤100
 ·rw [if_pos c2] at H
  have c2b0:decide ((a0_0.size:Int)≤100)=true:=decide_eq_true c2
  have c2b1:decide (a0_0.size≤100)=true:=decide_eq_true (by omega)
  clear c2
  obtain rfl:=Option.some.inj H
  go_enter Tryd.func11,Tryd.ntmps11
  go_wp2_with (first|((with_reducible refine gate_dst (N:=1) rfl ?_);(try (refine gate_guard (by rfl) ?_;dsimp only));refine box_event ?hg (N:=1) ?hd (cs:=#[.string a0_0,.int .i64 a0_1,.slice A0_2 l0_2.length c0_2]) (t:=24) ?hr ?_;(case hd=>rfl);(case hg=>rfl);(case hr=>first|(go_simp;done)|(go_simp;rfl));intro gb101 hg w3 hbox hb;have n0_:=Aside0.mk (below_step (by repeat (first|(with_reducible first|exact HB.out|apply below_alloc|apply pw_below_drewN|apply below_drew1)|exact HB.out)) hb);have n1_:=Aside0.mk (hbox);have n2_:=Aside0.mk ((by rw [hg];exact (below_size (by repeat (first|(with_reducible first|exact HB.out|apply below_alloc|apply pw_below_drewN|apply below_drew1)|exact HB.out))):w.heap.size≤gb101));have n3_:=Aside0.mk ((by rw [hg];exact (below_size (by repeat (first|(with_reducible first|exact HB.out|apply below_alloc|apply pw_below_drewN|apply below_drew1)|exact HB.out))):w.heap.size≤gb101));clear HB;have HB:=n0_;have BK101:=n1_;have GW101:=n2_;have GE101:=n3_;clear n0_ n1_ n2_ n3_;clear hb hbox hg;have hcz4_0:w3.cell? ⟨gb101,0,none⟩=some (.string a0_0):=(blk_cell BK101.out 0).trans rfl;have hcz4_1:w3.cell? ⟨gb101,1,none⟩=some (.int .i64 a0_1):=(blk_cell BK101.out 1).trans rfl;have hcz4_2:w3.cell? ⟨gb101,2,none⟩=some (.slice A0_2 l0_2.length c0_2):=(blk_cell BK101.out 2).trans rfl;have hfz4_0:=blk_frozen BK101.out 0;have hfz4_1:=blk_frozen BK101.out 1;have hfz4_2:=blk_frozen BK101.out 2))
  go_ret
  exact ⟨by first|rfl|(simp [errW_none,errW_some]<;>rfl)|(simp [*,errW_none,errW_some]<;>rfl),by repeat (first|(with_reducible first|exact HB.out|apply below_alloc|apply pw_below_drewN|apply below_drew1|refine below_set ?_ GE101.out)|exact HB.out)⟩
 ·rw [if_neg c2] at H
  have c2b0:decide ((a0_0.size:Int)≤100)=false:=decide_eq_false c2
  have c2b1:decide (a0_0.size≤100)=false:=decide_eq_false (by omega)
  clear c2
  obtain rfl:=Option.some.inj H
  go_enter Tryd.func11,Tryd.ntmps11
  go_wp2_with (first|((with_reducible refine gate_dst (N:=1) rfl ?_);(try (refine gate_guard (by rfl) ?_;dsimp only));refine box_event ?hg (N:=1) ?hd (cs:=#[.string a0_0,.int .i64 a0_1,.slice A0_2 l0_2.length c0_2]) (t:=24) ?hr ?_;(case hd=>rfl);(case hg=>rfl);(case hr=>first|(go_simp;done)|(go_simp;rfl));intro gb101 hg w5 hbox hb;have n0_:=Aside0.mk (below_step (by repeat (first|(with_reducible first|exact HB.out|apply below_alloc|apply pw_below_drewN|apply below_drew1)|exact HB.out)) hb);have n1_:=Aside0.mk (hbox);have n2_:=Aside0.mk ((by rw [hg];exact (below_size (by repeat (first|(with_reducible first|exact HB.out|apply below_alloc|apply pw_below_drewN|apply below_drew1)|exact HB.out))):w.heap.size≤gb101));have n3_:=Aside0.mk ((by rw [hg];exact (below_size (by repeat (first|(with_reducible first|exact HB.out|apply below_alloc|apply pw_below_drewN|apply below_drew1)|exact HB.out))):w.heap.size≤gb101));clear HB;have HB:=n0_;have BK101:=n1_;have GW101:=n2_;have GE101:=n3_;clear n0_ n1_ n2_ n3_;clear hb hbox hg;have hcz6_0:w5.cell? ⟨gb101,0,none⟩=some (.string a0_0):=(blk_cell BK101.out 0).trans rfl;have hcz6_1:w5.cell? ⟨gb101,1,none⟩=some (.int .i64 a0_1):=(blk_cell BK101.out 1).trans rfl;have hcz6_2:w5.cell? ⟨gb101,2,none⟩=some (.slice A0_2 l0_2.length c0_2):=(blk_cell BK101.out 2).trans rfl;have hfz6_0:=blk_frozen BK101.out 0;have hfz6_1:=blk_frozen BK101.out 1;have hfz6_2:=blk_frozen BK101.out 2))
  go_ret
  exact ⟨by first|rfl|(simp [errW_none,errW_some]<;>rfl)|(simp [*,errW_none,errW_some]<;>rfl),by repeat (first|(with_reducible first|exact HB.out|apply below_alloc|apply pw_below_drewN|apply below_drew1|refine below_set ?_ GE101.out)|exact HB.out)⟩
end Go.Proofs.YtehdmplngmbnnaaDoor.P
namespace Go.Proofs.YtehdmplngmbnnaaDoor.P
open Go.RowKit Go.Proofs.YtehdmplngmbnnaaDoorW.PrintWords Go.Proofs.YtehdmplngmbnnaaDoorW.PrintLast Go.Proofs.YtehdmplngmbnnaaDoorW.PrintMore
attribute [local go_sem] max2_int min2_int max_two min_two max_three min_three max_four min_four
attribute [local go_sem] cell_twice
set_option linter.unusedVariables false
set_option linter.unusedSimpArgs false
def sawmilllaw37_few.l0:Nat→List (S24)→Int→Option (Bool)
 | 0,_,_=>none
 | k+1,x0,x3=>if x3 < (x0.length:Int) then (if 0≤x3 then ((sawmilllaw37_small.f ((rd_T24 x0 x3).f0) ((rd_T24 x0 x3).f1) ((rd_T24 x0 x3).f2)).bind fun t102=>(if t102=true then (sawmilllaw37_few.l0 k x0 (wrap64 (x3+1))) else (some false))) else (none)) else (some true)
def sawmilllaw37_few.f (k:Nat) (l0:List (S24)):Option (Bool):=if (l0.length:Int) > 20 then (some false) else (sawmilllaw37_few.l0 k l0 0)
theorem sawmilllaw37_few.mono_l:∀ k,(∀ y0 y1,LeO (sawmilllaw37_few.l0 k y0 y1) (sawmilllaw37_few.l0 (k+1) y0 y1))
 | 0=>fun _ _ r h=>by simp [sawmilllaw37_few.l0] at h
 | k+1=>by
  have ih0:=sawmilllaw37_few.mono_l k
  ·intro y0 y1
   unfold sawmilllaw37_few.l0
   repeat' first
   | (with_reducible exact ih0 _ _)
   | (with_reducible exact LeO.refl _)
   | (with_reducible exact LeO.none _)
   | (with_reducible refine LeO.ite ?_ ?_)
   | (with_reducible refine LeO.bind ?_ (fun _=>?_))
   | exact ih0 _ _
   | exact LeO.none _
   | refine LeO.ite ?_ ?_
   | refine LeO.bind ?_ (fun _=>?_)
theorem sawmilllaw37_few.mono:∀ a0 k,LeO (sawmilllaw37_few.f k a0) (sawmilllaw37_few.f (k+1) a0):=by
 intro a0 k
 have ih0:=sawmilllaw37_few.mono_l k
 unfold sawmilllaw37_few.f
 repeat' first
   | (with_reducible exact ih0 _ _)
   | (with_reducible exact LeO.refl _)
   | (with_reducible exact LeO.none _)
   | (with_reducible refine LeO.ite ?_ ?_)
   | (with_reducible refine LeO.bind ?_ (fun _=>?_))
   | exact ih0 _ _
   | exact LeO.none _
   | refine LeO.ite ?_ ?_
   | refine LeO.bind ?_ (fun _=>?_)
set_option maxHeartbeats 8000000 in
set_option maxRecDepth 100000 in
theorem sawmilllaw37_few.calls (k:Nat) (A0:Option Addr) (c0:Nat) (l0:List (S24)) (r:Bool) (w:World) (hr0:Kd.C k24 w A0 l0.length l0) (hc0:l0.length≤c0) (h:sawmilllaw37_few.f k l0=some r) :
  Calls Tryd.prog 12 #[.slice A0 l0.length c0] w fun e w'=>e=.returned (.bool r)∧Below w.heap.size w w':=by
 have hu24:=Tryd.underlying24
 have HR0:=Aside0.mk hr0
 have HC0:=Aside0.mk hc0
 clear hr0 hc0
 have HB:=Aside0.mk (Below.refl w.heap.size w)
 have H:(if (l0.length:Int) > 20 then (some false) else (sawmilllaw37_few.l0 k l0 0))=some r:=h
 clear h
 by_cases c2:(l0.length:Int) > 20
 ·rw [if_pos c2] at H
  have c2b0:decide (20 < (l0.length:Int))=true:=decide_eq_true c2
  have c2b1:decide (20 < l0.length)=true:=decide_eq_true (by omega)
  clear c2
  obtain rfl:=Option.some.inj H
  go_enter Tryd.func12,Tryd.ntmps12
  go_wp2
  go_ret
  exact ⟨by first|rfl|(simp [errW_none,errW_some]<;>rfl)|(simp [*,errW_none,errW_some]<;>rfl),by repeat (first|(with_reducible first|exact HB.out|apply below_alloc|apply pw_below_drewN|apply below_drew1)|exact HB.out)⟩
 ·rw [if_neg c2] at H
  have c2b0:decide (20 < (l0.length:Int))=false:=decide_eq_false c2
  have c2b1:decide (20 < l0.length)=false:=decide_eq_false (by omega)
  clear c2
  have H':=Aside0.mk H
  clear H
  go_enter Tryd.func12,Tryd.ntmps12
  go_wp2
  go_loopg [3] k (fun kq v3 w'=>∃ (x3_1:Int),v3=.int .i64 x3_1∧Aside0 (sawmilllaw37_few.l0 kq l0 x3_1=some r)∧Aside0 (kq≤k)∧Aside0 (Below w.heap.size w w'))
  case atStart=>exact ⟨(0),(by first|rfl|(simp;done)|(simp [*];done)),H',⟨Nat.le_refl _⟩,⟨by repeat (first|(with_reducible first|exact HB.out|apply below_alloc|apply pw_below_drewN|apply below_drew1)|exact HB.out)⟩⟩
  case round =>
   clear H'
   try clear c1
   try clear c2
   try clear c2b0
   try clear c2b1
   try clear p2
   obtain ⟨x3_1,rfl,HA,HK1,HB⟩:=hrel
   cases gk with
   | zero=>exact absurd HA.out (by simp [sawmilllaw37_few.l0])
   | succ k1 =>
    have H:=HA.out
    clear HA
    simp only [sawmilllaw37_few.l0] at H
    by_cases c3:x3_1 < (l0.length:Int)
    ·rw [if_pos c3] at H
     have c3b0:decide (x3_1 < (l0.length:Int))=true:=decide_eq_true c3
     clear c3
     by_cases c4:0≤x3_1
     ·rw [if_pos c4] at H
      have c4b0:decide (0≤x3_1)=true:=decide_eq_true c4
      clear c4
      replace H:=Option.bind_eq_some_iff.mp H
      obtain ⟨t102,A50,H⟩:=H
      replace H:(if t102=true then (sawmilllaw37_few.l0 k1 l0 (wrap64 (x3_1+1))) else (some false))=some r:=H
      have A5:=Aside0.mk A50
      clear A50
      by_cases c6:t102=true
      ·subst c6
       have H1:(sawmilllaw37_few.l0 k1 l0 (wrap64 (x3_1+1)))=some r:=by rw [if_pos rfl] at H;exact H
       clear H
       have H:=H1
       clear H1
       have H':=Aside0.mk H
       clear H
       have p101:0≤(x3_1:Int):=of_decide_eq_true (by first|(with_reducible assumption)|assumption)
       have q101:x3_1 < (l0.length:Int):=of_decide_eq_true (by first|(with_reducible assumption)|assumption)
       obtain ⟨ad101,A101_2,c101_2,e101,hx101_0,hx101_1,hx101_2,hl101_2,hi101_2⟩:=at_T24 HR0.out x3_1 p101 q101
       cases e101
       replace hx101_0:=(HB.out.cell (World.block_lt_of_cell? w _ hx101_0)).trans hx101_0
       replace hx101_1:=(HB.out.cell (World.block_lt_of_cell? w _ hx101_1)).trans hx101_1
       replace hx101_2:=(HB.out.cell (World.block_lt_of_cell? w _ hx101_2)).trans hx101_2
       have HR101_2:=Aside0.mk hi101_2
       have HC101_2:=Aside0.mk hl101_2
       clear hi101_2 hl101_2
       replace p101:=eq_true p101
       replace q101:=eq_true q101
       go_wp2_with (first|((with_reducible refine gate_callee (f:=11) rfl ?_);refine goesL_ (some 17) rfl rfl Tryd.func11 (by kernel_rfl) rfl #[.agg #[.string ((rd_T24 l0 x3_1).f0),.int .i64 ((rd_T24 l0 x3_1).f1),.slice A101_2 ((rd_T24 l0 x3_1).f2).length c101_2]] rfl (by (try simp only [List.map_toArray,List.map_cons,List.map_nil]);first|done|rfl|(simp only [List.length_drop,List.length_take];rfl)) ?_;(with_reducible refine (sawmilllaw37_small.calls ((rd_T24 l0 x3_1).f0) ((rd_T24 l0 x3_1).f1) _ _ ((rd_T24 l0 x3_1).f2) true _ ?side1 ?side2 A5.out).mono ?_);(case side1=>repeat (first|exact (Kd.C_below HR101_2.out HB.out)|(with_reducible refine Kd.C_alloc ?_ _)|(with_reducible refine Kd.C_drewN ?_ _)|(with_reducible refine Kd.C_drew ?_)));(case side2=>exact HC101_2.out);rintro e w7 ⟨rfl,hb⟩;refine ⟨_,rfl,?_⟩;have n0_:=Aside0.mk (below_step (by repeat (first|(with_reducible first|exact HB.out|apply below_alloc|apply pw_below_drewN|apply below_drew1)|exact HB.out)) hb);clear HB;have HB:=n0_;clear n0_;(try clear hb);(try clear hb2);(try clear hk);(try clear hi)))
       go_roundg k1
       case measure=>have:=HK1.out;omega
       case rel=>exact ⟨(wrap64 (x3_1+1)),(by first|rfl|(simp;done)|(simp [*];done)),H',⟨by have:=HK1.out;omega⟩,⟨by repeat (first|(with_reducible first|exact HB.out|apply below_alloc|apply pw_below_drewN|apply below_drew1)|exact HB.out)⟩⟩
      ·replace c6:=Bool.eq_false_iff.mpr c6
       subst c6
       have H1:(some false)=some r:=by rw [if_neg (show ¬ (false=true) by decide)] at H;exact H
       clear H
       have H:=H1
       clear H1
       obtain rfl:=Option.some.inj H
       have p101:0≤(x3_1:Int):=of_decide_eq_true (by first|(with_reducible assumption)|assumption)
       have q101:x3_1 < (l0.length:Int):=of_decide_eq_true (by first|(with_reducible assumption)|assumption)
       obtain ⟨ad101,A101_2,c101_2,e101,hx101_0,hx101_1,hx101_2,hl101_2,hi101_2⟩:=at_T24 HR0.out x3_1 p101 q101
       cases e101
       replace hx101_0:=(HB.out.cell (World.block_lt_of_cell? w _ hx101_0)).trans hx101_0
       replace hx101_1:=(HB.out.cell (World.block_lt_of_cell? w _ hx101_1)).trans hx101_1
       replace hx101_2:=(HB.out.cell (World.block_lt_of_cell? w _ hx101_2)).trans hx101_2
       have HR101_2:=Aside0.mk hi101_2
       have HC101_2:=Aside0.mk hl101_2
       clear hi101_2 hl101_2
       replace p101:=eq_true p101
       replace q101:=eq_true q101
       go_wp2_with (first|((with_reducible refine gate_callee (f:=11) rfl ?_);refine goesL_ (some 17) rfl rfl Tryd.func11 (by kernel_rfl) rfl #[.agg #[.string ((rd_T24 l0 x3_1).f0),.int .i64 ((rd_T24 l0 x3_1).f1),.slice A101_2 ((rd_T24 l0 x3_1).f2).length c101_2]] rfl (by (try simp only [List.map_toArray,List.map_cons,List.map_nil]);first|done|rfl|(simp only [List.length_drop,List.length_take];rfl)) ?_;(with_reducible refine (sawmilllaw37_small.calls ((rd_T24 l0 x3_1).f0) ((rd_T24 l0 x3_1).f1) _ _ ((rd_T24 l0 x3_1).f2) false _ ?side1 ?side2 A5.out).mono ?_);(case side1=>repeat (first|exact (Kd.C_below HR101_2.out HB.out)|(with_reducible refine Kd.C_alloc ?_ _)|(with_reducible refine Kd.C_drewN ?_ _)|(with_reducible refine Kd.C_drew ?_)));(case side2=>exact HC101_2.out);rintro e w8 ⟨rfl,hb⟩;refine ⟨_,rfl,?_⟩;have n0_:=Aside0.mk (below_step (by repeat (first|(with_reducible first|exact HB.out|apply below_alloc|apply pw_below_drewN|apply below_drew1)|exact HB.out)) hb);clear HB;have HB:=n0_;clear n0_;(try clear hb);(try clear hb2);(try clear hk);(try clear hi)))
       go_ret
       exact ⟨by first|rfl|(simp [errW_none,errW_some]<;>rfl)|(simp [*,errW_none,errW_some]<;>rfl),by repeat (first|(with_reducible first|exact HB.out|apply below_alloc|apply pw_below_drewN|apply below_drew1)|exact HB.out)⟩
     ·rw [if_neg c4] at H
      exact absurd H (by simp)
    ·rw [if_neg c3] at H
     have c3b0:decide (x3_1 < (l0.length:Int))=false:=decide_eq_false c3
     clear c3
     obtain rfl:=Option.some.inj H
     go_wp2
     go_ret
     exact ⟨by first|rfl|(simp [errW_none,errW_some]<;>rfl)|(simp [*,errW_none,errW_some]<;>rfl),by repeat (first|(with_reducible first|exact HB.out|apply below_alloc|apply pw_below_drewN|apply below_drew1)|exact HB.out)⟩
end Go.Proofs.YtehdmplngmbnnaaDoor.P
namespace Go.Proofs.YtehdmplngmbnnaaDoor.P
open Go.RowKit Go.Proofs.YtehdmplngmbnnaaDoorW.PrintWords
set_option linter.unusedVariables false
set_option linter.unusedSimpArgs false
def smallS (s:S24):Bool:=decide ((s.f0.size:Int)≤100) && decide ((s.f2.length:Int)≤40)
theorem small_f (n:ByteArray) (r:Int) (l:List S52):sawmilllaw37_small.f n r l=some (smallS ⟨n,r,l⟩):=by
 unfold sawmilllaw37_small.f smallS
 by_cases g:(n.size:Int)≤100<;>simp [g]
theorem few_l0 (l:List S24) (hl:l.length≤1000000):∀ (d k i:Nat),i+d=l.length→d < k→sawmilllaw37_few.l0 k l (i:Int)=some ((l.drop i).all smallS):=by
 intro d
 induction d with
 | zero =>
  intro k i hi hk
  obtain ⟨k,rfl⟩:∃ m,k=m+1:=⟨k - 1,by omega⟩
  simp only [sawmilllaw37_few.l0]
  rw [if_neg (by omega),List.drop_of_length_le (by omega)]
  rfl
 | succ d ih =>
  intro k i hi hk
  obtain ⟨k,rfl⟩:∃ m,k=m+1:=⟨k - 1,by omega⟩
  have e:wrap64 ((i:Int)+1)=((i+1:Nat):Int):=wrap_nat i 1000000 (by omega) (by omega)
  have hd:l.drop i=rd_T24 l (i:Int) :: l.drop (i+1):=by
   rw [List.drop_eq_getElem_cons (by omega),rd_get i (by omega)]
  simp only [sawmilllaw37_few.l0]
  rw [if_pos (by omega),if_pos (by omega),e,ih k (i+1) (by omega) (by omega),hd,small_f,List.all_cons]
  generalize rd_T24 l (i:Int)=s
  rw [Option.bind_some]
  by_cases g:smallS s=true
  ·rw [if_pos g,show smallS s=true from g,Bool.true_and]
  ·rw [if_neg g,Bool.eq_false_iff.mpr g,Bool.false_and]
theorem few_f (l:List S24) (k:Nat) (hk:30≤k):sawmilllaw37_few.f k l=some (decide (l.length≤20) && l.all smallS):=by
 unfold sawmilllaw37_few.f
 by_cases g:(l.length:Int) > 20
 ·rw [if_pos g,decide_eq_false (by omega),Bool.false_and]
 ·rw [if_neg g,decide_eq_true (show l.length≤20 by omega),Bool.true_and]
  have:=few_l0 l (by omega) l.length k 0 (by omega) (by omega)
  simpa using this
theorem same_l0 (n:ByteArray) (r:Int) (l:List S52) (hl:l.length≤1000000):∀ (d k i:Nat),i+d=l.length→d < k→sawmillref37_SameSchedule.l0 k (i:Int) n r l n r l=some true:=by
 intro d
 induction d with
 | zero =>
  intro k i hi hk
  obtain ⟨k,rfl⟩:∃ m,k=m+1:=⟨k - 1,by omega⟩
  simp only [sawmillref37_SameSchedule.l0]
  rw [if_neg (by omega)]
 | succ d ih =>
  intro k i hi hk
  obtain ⟨k,rfl⟩:∃ m,k=m+1:=⟨k - 1,by omega⟩
  have e:wrap64 ((i:Int)+1)=((i+1:Nat):Int):=wrap_nat i 1000000 (by omega) (by omega)
  simp only [sawmillref37_SameSchedule.l0]
  rw [if_pos (by omega),if_pos (by omega),if_pos (by omega),if_neg (by simp),e,ih k (i+1) (by omega) (by omega)]
theorem same_self (n:ByteArray) (r:Int) (l:List S52) (hl:l.length≤1000000) (k:Nat) (hk:l.length+1 < k):sawmillref37_SameSchedule.f k n r l n r l=some true:=by
 obtain ⟨k,rfl⟩:∃ m,k=m+1:=⟨k - 1,by omega⟩
 unfold sawmillref37_SameSchedule.f
 rw [if_pos rfl,if_pos rfl]
 simp only [sawmillref37_SameSchedule.j0]
 rw [if_neg (by simp)]
 exact same_l0 n r l hl l.length k 0 (by omega) (by omega)
end Go.Proofs.YtehdmplngmbnnaaDoor.P
