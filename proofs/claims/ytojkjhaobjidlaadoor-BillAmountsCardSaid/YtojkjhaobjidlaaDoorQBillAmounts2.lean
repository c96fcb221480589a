/-
  Walks and plain laws on the way to the statement BillAmounts; no conditions.
-/
import Derived.Test.YtojkjhaobjidlaaDoorMb2
import Derived.Test.YtojkjhaobjidlaaDoorQBillAmounts1
namespace Go.Proofs.YtojkjhaobjidlaaDoor.P
open Go.RowKit Go.Proofs.YtojkjhaobjidlaaDoorW.PrintWords Go.Proofs.YtojkjhaobjidlaaDoorW.PrintLast Go.Proofs.YtojkjhaobjidlaaDoorW.PrintMore
attribute [local go_sem] max2_int min2_int max_two min_two max_three min_three max_four min_four
attribute [local go_sem] cell_twice
set_option linter.unusedVariables false
set_option linter.unusedSimpArgs false
mutual
def sawmillref19_Check.l0:Nat→List (S53)→Int→Option (Int)
 | 0,_,_=>none
 | k+1,x0,x3=>if x3 < (x0.length:Int) then (if 0≤x3 then ((sawmillref02_IsName.f k ((rd_T53 x0 x3).f0)).bind fun t103=>(if t103=true then (sawmillref19_Check.l1 k x0 x3 0 ((rd_T53 x0 x3).f0) ((rd_T53 x0 x3).f1) ((rd_T53 x0 x3).f2) ((rd_T53 x0 x3).f3) ((rd_T53 x0 x3).f4) ((rd_T53 x0 x3).f5) ((rd_T53 x0 x3).f6)) else (some 6))) else (none)) else (some 0)
def sawmillref19_Check.l1:Nat→List (S53)→Int→Int→ByteArray→Int→Int→Int→Int→List Int→List Int→Option (Int)
 | 0,_,_,_,_,_,_,_,_,_,_=>none
 | k+1,x0,x3,x5,x103000,x103001,x103002,x103003,x103004,x103005,x103006=>if x5 < x3 then (if 0≤x5 then (if x5 < (x0.length:Int) then (if ((rd_T53 x0 x5).f0).toList=x103000.toList then (some 7) else (sawmillref19_Check.l1 k x0 x3 (wrap64 (x5+1)) x103000 x103001 x103002 x103003 x103004 x103005 x103006)) else (none)) else (none)) else (if x103001 < 5 then (sawmillref19_Check.j2 k x0 x3 true x103000 x103001 x103002 x103003 x103004 x103005 x103006) else (if x103001 > 300 then (sawmillref19_Check.j2 k x0 x3 true x103000 x103001 x103002 x103003 x103004 x103005 x103006) else (if x103002 < x103001 then (sawmillref19_Check.j2 k x0 x3 true x103000 x103001 x103002 x103003 x103004 x103005 x103006) else (if x103002 > 600 then (sawmillref19_Check.j2 k x0 x3 true x103000 x103001 x103002 x103003 x103004 x103005 x103006) else (if x103003 < 0 then (sawmillref19_Check.j2 k x0 x3 true x103000 x103001 x103002 x103003 x103004 x103005 x103006) else (if x103003 > 200 then (sawmillref19_Check.j2 k x0 x3 true x103000 x103001 x103002 x103003 x103004 x103005 x103006) else (if x103004 < 0 then (sawmillref19_Check.j2 k x0 x3 true x103000 x103001 x103002 x103003 x103004 x103005 x103006) else (sawmillref19_Check.j2 k x0 x3 (decide (x103004 > 1000)) x103000 x103001 x103002 x103003 x103004 x103005 x103006))))))))
def sawmillref19_Check.j2:Nat→List (S53)→Int→Bool→ByteArray→Int→Int→Int→Int→List Int→List Int→Option (Int)
 | 0,_,_,_,_,_,_,_,_,_,_=>none
 | k+1,x0,x3,x78,x103000,x103001,x103002,x103003,x103004,x103005,x103006=>if x78=true then (some 9) else ((sawmillref19_Green.f x103000 x103001 x103002 x103003 x103004 x103005 x103006).bind fun bt105=>(if bt105.2 > 600 then (some 9) else ((sawmillref19_checkLengths.f k x103000 x103001 x103002 x103003 x103004 x103005 x103006).bind fun t107=>(if t107=0 then (sawmillref19_Check.l0 k x0 (wrap64 (x3+1))) else (some t107)))))
end
def sawmillref19_Check.f (k:Nat) (l0:List (S53)):Option (Int):=if (l0.length:Int) > 16 then (some 4) else (sawmillref19_Check.l0 k l0 0)
theorem sawmillref19_Check.mono_l:∀ k,(∀ y0 y1,LeO (sawmillref19_Check.l0 k y0 y1) (sawmillref19_Check.l0 (k+1) y0 y1))∧(∀ y0 y1 y2 y3 y4 y5 y6 y7 y8 y9,LeO (sawmillref19_Check.l1 k y0 y1 y2 y3 y4 y5 y6 y7 y8 y9) (sawmillref19_Check.l1 (k+1) y0 y1 y2 y3 y4 y5 y6 y7 y8 y9))∧(∀ y0 y1 y2 y3 y4 y5 y6 y7 y8 y9,LeO (sawmillref19_Check.j2 k y0 y1 y2 y3 y4 y5 y6 y7 y8 y9) (sawmillref19_Check.j2 (k+1) y0 y1 y2 y3 y4 y5 y6 y7 y8 y9))
 | 0=>⟨fun _ _ r h=>by simp [sawmillref19_Check.l0] at h,fun _ _ _ _ _ _ _ _ _ _ r h=>by simp [sawmillref19_Check.l1] at h,fun _ _ _ _ _ _ _ _ _ _ r h=>by simp [sawmillref19_Check.j2] at h⟩
 | k+1=>by
  obtain ⟨ih0,ih1,ih2⟩:=sawmillref19_Check.mono_l k
  refine ⟨?_,?_,?_⟩
  ·intro y0 y1
   unfold sawmillref19_Check.l0
   repeat' first
   | (with_reducible exact ih0 _ _)
   | (with_reducible exact ih1 _ _ _ _ _ _ _ _ _ _)
   | (with_reducible exact ih2 _ _ _ _ _ _ _ _ _ _)
   | (with_reducible exact sawmillref02_IsName.mono _ _)
   | (with_reducible exact sawmillref19_checkLengths.mono _ _ _ _ _ _ _ _)
   | (with_reducible exact LeO.refl _)
   | (with_reducible exact LeO.none _)
   | (with_reducible refine LeO.ite ?_ ?_)
   | (with_reducible refine LeO.bind ?_ (fun _=>?_))
   | exact ih0 _ _
   | exact ih1 _ _ _ _ _ _ _ _ _ _
   | exact ih2 _ _ _ _ _ _ _ _ _ _
   | exact sawmillref02_IsName.mono _ _
   | exact sawmillref19_checkLengths.mono _ _ _ _ _ _ _ _
   | exact LeO.none _
   | refine LeO.ite ?_ ?_
   | refine LeO.bind ?_ (fun _=>?_)
  ·intro y0 y1 y2 y3 y4 y5 y6 y7 y8 y9
   unfold sawmillref19_Check.l1
   repeat' first
   | (with_reducible exact ih0 _ _)
   | (with_reducible exact ih1 _ _ _ _ _ _ _ _ _ _)
   | (with_reducible exact ih2 _ _ _ _ _ _ _ _ _ _)
   | (with_reducible exact sawmillref02_IsName.mono _ _)
   | (with_reducible exact sawmillref19_checkLengths.mono _ _ _ _ _ _ _ _)
   | (with_reducible exact LeO.refl _)
   | (with_reducible exact LeO.none _)
   | (with_reducible refine LeO.ite ?_ ?_)
   | (with_reducible refine LeO.bind ?_ (fun _=>?_))
   | exact ih0 _ _
   | exact ih1 _ _ _ _ _ _ _ _ _ _
   | exact ih2 _ _ _ _ _ _ _ _ _ _
   | exact sawmillref02_IsName.mono _ _
   | exact sawmillref19_checkLengths.mono _ _ _ _ _ _ _ _
   | exact LeO.none _
   | refine LeO.ite ?_ ?_
   | refine LeO.bind ?_ (fun _=>?_)
  ·intro y0 y1 y2 y3 y4 y5 y6 y7 y8 y9
   unfold sawmillref19_Check.j2
   repeat' first
   | (with_reducible exact ih0 _ _)
   | (with_reducible exact ih1 _ _ _ _ _ _ _ _ _ _)
   | (with_reducible exact ih2 _ _ _ _ _ _ _ _ _ _)
   | (with_reducible exact sawmillref02_IsName.mono _ _)
   | (with_reducible exact sawmillref19_checkLengths.mono _ _ _ _ _ _ _ _)
   | (with_reducible exact LeO.refl _)
   | (with_reducible exact LeO.none _)
   | (with_reducible refine LeO.ite ?_ ?_)
   | (with_reducible refine LeO.bind ?_ (fun _=>?_))
   | exact ih0 _ _
   | exact ih1 _ _ _ _ _ _ _ _ _ _
   | exact ih2 _ _ _ _ _ _ _ _ _ _
   | exact sawmillref02_IsName.mono _ _
   | exact sawmillref19_checkLengths.mono _ _ _ _ _ _ _ _
   | exact LeO.none _
   | refine LeO.ite ?_ ?_
   | refine LeO.bind ?_ (fun _=>?_)
theorem sawmillref19_Check.mono:∀ a0 k,LeO (sawmillref19_Check.f k a0) (sawmillref19_Check.f (k+1) a0):=by
 intro a0 k
 obtain ⟨ih0,ih1,ih2⟩:=sawmillref19_Check.mono_l k
 unfold sawmillref19_Check.f
 repeat' first
   | (with_reducible exact ih0 _ _)
   | (with_reducible exact ih1 _ _ _ _ _ _ _ _ _ _)
   | (with_reducible exact ih2 _ _ _ _ _ _ _ _ _ _)
   | (with_reducible exact sawmillref02_IsName.mono _ _)
   | (with_reducible exact sawmillref19_checkLengths.mono _ _ _ _ _ _ _ _)
   | (with_reducible exact LeO.refl _)
   | (with_reducible exact LeO.none _)
   | (with_reducible refine LeO.ite ?_ ?_)
   | (with_reducible refine LeO.bind ?_ (fun _=>?_))
   | exact ih0 _ _
   | exact ih1 _ _ _ _ _ _ _ _ _ _
   | exact ih2 _ _ _ _ _ _ _ _ _ _
   | exact sawmillref02_IsName.mono _ _
   | exact sawmillref19_checkLengths.mono _ _ _ _ _ _ _ _
   | exact LeO.none _
   | refine LeO.ite ?_ ?_
   | refine LeO.bind ?_ (fun _=>?_)
set_option maxHeartbeats 8000000 in
set_option maxRecDepth 100000 in
theorem sawmillref19_Check.calls (k:Nat) (A0:Option Addr) (c0:Nat) (l0:List (S53)) (r:Int) (w:World) (hr0:Kd.C k53 w A0 l0.length l0) (hc0:l0.length≤c0) (h:sawmillref19_Check.f k l0=some r) :
  Calls Tryd.prog 31 #[.slice A0 l0.length c0] w fun e w'=>e=.returned (.int .i64 r)∧Below w.heap.size w w':=by
 have hu53:=Tryd.underlying53
 have HR0:=Aside0.mk hr0
 have HC0:=Aside0.mk hc0
 clear hr0 hc0
 have HB:=Aside0.mk (Below.refl w.heap.size w)
 have H:(if (l0.length:Int) > 16 then (some 4) else (sawmillref19_Check.l0 k l0 0))=some r:=h
 clear h
 by_cases c2:(l0.length:Int) > 16
 ·rw [if_pos c2] at H
  have c2b0:decide (16 < (l0.length:Int))=true:=decide_eq_true c2
  have c2b1:decide (16 < l0.length)=true:=decide_eq_true (by omega)
  clear c2
  obtain rfl:=Option.some.inj H
  go_enter Tryd.func31,Tryd.ntmps31
  go_wp2
  repeat (go_quiet (fail);try go_wp2)
  go_ret
  exact ⟨by first|rfl|(simp [errW_none,errW_some]<;>rfl)|(simp [*,errW_none,errW_some]<;>rfl),by repeat (first|(with_reducible first|exact HB.out|apply below_alloc|apply pw_below_drewN|apply below_drew1)|exact HB.out)⟩
 ·rw [if_neg c2] at H
  have c2b0:decide (16 < (l0.length:Int))=false:=decide_eq_false c2
  have c2b1:decide (16 < l0.length)=false:=decide_eq_false (by omega)
  clear c2
  have H':=Aside0.mk H
  clear H
  go_enter Tryd.func31,Tryd.ntmps31
  go_wp2
  repeat (go_quiet (fail);try go_wp2)
  go_loopg [3] k (fun kq v3 w'=>∃ (x3_1:Int),v3=.int .i64 x3_1∧Aside0 (sawmillref19_Check.l0 kq l0 x3_1=some r)∧Aside0 (kq≤k)∧Aside0 (Below w.heap.size w w'))
  case atStart=>exact ⟨(0),(by first|rfl|(simp;done)|(simp [*];done)),H',⟨Nat.le_refl _⟩,⟨by repeat (first|(with_reducible first|exact HB.out|apply below_alloc|apply pw_below_drewN|apply below_drew1)|exact HB.out)⟩⟩
  case round =>
   clear H'
   try clear c2
   try clear c2b0
   try clear c2b1
   try clear p2
   obtain ⟨x3_1,rfl,HA,HK1,HB⟩:=hrel
   cases gk with
   | zero=>exact absurd HA.out (by simp [sawmillref19_Check.l0])
   | succ k1 =>
    have H:=HA.out
    clear HA
    simp only [sawmillref19_Check.l0] at H
    by_cases c3:x3_1 < (l0.length:Int)
    ·rw [if_pos c3] at H
     have c3b0:decide (x3_1 < (l0.length:Int))=true:=decide_eq_true c3
     clear c3
     by_cases c4:0≤x3_1
     ·rw [if_pos c4] at H
      have c4b0:decide (0≤x3_1)=true:=decide_eq_true c4
      clear c4
      replace H:=Option.bind_eq_some_iff.mp H
      obtain ⟨t103,A50,H⟩:=H
      replace H:(if t103=true then (sawmillref19_Check.l1 k1 l0 x3_1 0 ((rd_T53 l0 x3_1).f0) ((rd_T53 l0 x3_1).f1) ((rd_T53 l0 x3_1).f2) ((rd_T53 l0 x3_1).f3) ((rd_T53 l0 x3_1).f4) ((rd_T53 l0 x3_1).f5) ((rd_T53 l0 x3_1).f6)) else (some 6))=some r:=H
      have A5:=Aside0.mk A50
      clear A50
      by_cases c6:t103=true
      ·subst c6
       have H1:(sawmillref19_Check.l1 k1 l0 x3_1 0 ((rd_T53 l0 x3_1).f0) ((rd_T53 l0 x3_1).f1) ((rd_T53 l0 x3_1).f2) ((rd_T53 l0 x3_1).f3) ((rd_T53 l0 x3_1).f4) ((rd_T53 l0 x3_1).f5) ((rd_T53 l0 x3_1).f6))=some r:=by rw [if_pos rfl] at H;exact H
       clear H
       have H:=H1
       clear H1
       have H':=Aside0.mk H
       clear H
       have p101:0≤(x3_1:Int):=of_decide_eq_true (by first|(with_reducible assumption)|assumption)
       have q101:x3_1 < (l0.length:Int):=of_decide_eq_true (by first|(with_reducible assumption)|assumption)
       obtain ⟨ad101,A101_5,c101_5,A101_6,c101_6,e101,hx101_0,hx101_1,hx101_2,hx101_3,hx101_4,hx101_5,hx101_6,hl101_5,hi101_5,hl101_6,hi101_6⟩:=at_T53 HR0.out x3_1 p101 q101
       cases e101
       replace hx101_0:=(HB.out.cell (World.block_lt_of_cell? w _ hx101_0)).trans hx101_0
       replace hx101_1:=(HB.out.cell (World.block_lt_of_cell? w _ hx101_1)).trans hx101_1
       replace hx101_2:=(HB.out.cell (World.block_lt_of_cell? w _ hx101_2)).trans hx101_2
       replace hx101_3:=(HB.out.cell (World.block_lt_of_cell? w _ hx101_3)).trans hx101_3
       replace hx101_4:=(HB.out.cell (World.block_lt_of_cell? w _ hx101_4)).trans hx101_4
       replace hx101_5:=(HB.out.cell (World.block_lt_of_cell? w _ hx101_5)).trans hx101_5
       replace hx101_6:=(HB.out.cell (World.block_lt_of_cell? w _ hx101_6)).trans hx101_6
       have HR101_5:=Aside0.mk hi101_5
       have HC101_5:=Aside0.mk hl101_5
       clear hi101_5 hl101_5
       have HR101_6:=Aside0.mk hi101_6
       have HC101_6:=Aside0.mk hl101_6
       clear hi101_6 hl101_6
       replace p101:=eq_true p101
       replace q101:=eq_true q101
       go_wp2_with (first|((with_reducible refine gate_dst (N:=4) rfl ?_);refine box_event ?hg (N:=4) ?hd (cs:=#[.string (⟨#[]⟩:ByteArray),.int .i64 0,.int .i64 0,.int .i64 0,.int .i64 0,.slice none 0 0,.slice none 0 0]) (t:=53) ?hr ?_;(case hd=>rfl);(case hg=>rfl);(case hr=>first|(go_simp;done)|(go_simp;rfl));intro gb102 hg w7 hbox hb;have n0_:=Aside0.mk (below_step (by repeat (first|(with_reducible first|exact HB.out|apply below_alloc|apply pw_below_drewN|apply below_drew1)|exact HB.out)) hb);have n1_:=Aside0.mk (hbox);have n2_:=Aside0.mk ((by rw [hg];exact (below_size (by repeat (first|(with_reducible first|exact HB.out|apply below_alloc|apply pw_below_drewN|apply below_drew1)|exact HB.out))):w.heap.size≤gb102));have n3_:=Aside0.mk ((by rw [hg];exact (below_size (by repeat (first|(with_reducible first|exact HB.out|apply below_alloc|apply pw_below_drewN|apply below_drew1)|exact HB.out))):w.heap.size≤gb102));clear HB;have HB:=n0_;have BK102:=n1_;have GW102:=n2_;have GE102:=n3_;clear n0_ n1_ n2_ n3_;clear hb hbox hg;have hcz8_0:w7.cell? ⟨gb102,0,none⟩=some (.string (⟨#[]⟩:ByteArray)):=(blk_cell BK102.out 0).trans rfl;have hcz8_1:w7.cell? ⟨gb102,1,none⟩=some (.int .i64 0):=(blk_cell BK102.out 1).trans rfl;have hcz8_2:w7.cell? ⟨gb102,2,none⟩=some (.int .i64 0):=(blk_cell BK102.out 2).trans rfl;have hcz8_3:w7.cell? ⟨gb102,3,none⟩=some (.int .i64 0):=(blk_cell BK102.out 3).trans rfl;have hcz8_4:w7.cell? ⟨gb102,4,none⟩=some (.int .i64 0):=(blk_cell BK102.out 4).trans rfl;have hcz8_5:w7.cell? ⟨gb102,5,none⟩=some (.slice none 0 0):=(blk_cell BK102.out 5).trans rfl;have hcz8_6:w7.cell? ⟨gb102,6,none⟩=some (.slice none 0 0):=(blk_cell BK102.out 6).trans rfl;have hfz8_0:=blk_frozen BK102.out 0;have hfz8_1:=blk_frozen BK102.out 1;have hfz8_2:=blk_frozen BK102.out 2;have hfz8_3:=blk_frozen BK102.out 3;have hfz8_4:=blk_frozen BK102.out 4;have hfz8_5:=blk_frozen BK102.out 5;have hfz8_6:=blk_frozen BK102.out 6)|(go_at_call 45;(with_reducible refine (sawmillref02_IsName.calls k1 ((rd_T53 l0 x3_1).f0) true _ A5.out).mono ?_);rintro e w' ⟨rfl,⟨nd,rfl⟩⟩;(try first|exact ⟨rfl,_,World.drewN_drewN _ _ _⟩|exact ⟨rfl,_,Eq.trans (World.drewN_drewN _ _ _) (congrArg (World.drewN _) (Nat.add_assoc _ _ _))⟩)))
       repeat (go_quiet (first|((with_reducible refine gate_dst (N:=4) rfl ?_);refine box_event ?hg (N:=4) ?hd (cs:=#[.string (⟨#[]⟩:ByteArray),.int .i64 0,.int .i64 0,.int .i64 0,.int .i64 0,.slice none 0 0,.slice none 0 0]) (t:=53) ?hr ?_;(case hd=>rfl);(case hg=>rfl);(case hr=>first|(go_simp;done)|(go_simp;rfl));intro gb102 hg w7 hbox hb;have n0_:=Aside0.mk (below_step (by repeat (first|(with_reducible first|exact HB.out|apply below_alloc|apply pw_below_drewN|apply below_drew1)|exact HB.out)) hb);have n1_:=Aside0.mk (hbox);have n2_:=Aside0.mk ((by rw [hg];exact (below_size (by repeat (first|(with_reducible first|exact HB.out|apply below_alloc|apply pw_below_drewN|apply below_drew1)|exact HB.out))):w.heap.size≤gb102));have n3_:=Aside0.mk ((by rw [hg];exact (below_size (by repeat (first|(with_reducible first|exact HB.out|apply below_alloc|apply pw_below_drewN|apply below_drew1)|exact HB.out))):w.heap.size≤gb102));clear HB;have HB:=n0_;have BK102:=n1_;have GW102:=n2_;have GE102:=n3_;clear n0_ n1_ n2_ n3_;clear hb hbox hg;have hcz8_0:w7.cell? ⟨gb102,0,none⟩=some (.string (⟨#[]⟩:ByteArray)):=(blk_cell BK102.out 0).trans rfl;have hcz8_1:w7.cell? ⟨gb102,1,none⟩=some (.int .i64 0):=(blk_cell BK102.out 1).trans rfl;have hcz8_2:w7.cell? ⟨gb102,2,none⟩=some (.int .i64 0):=(blk_cell BK102.out 2).trans rfl;have hcz8_3:w7.cell? ⟨gb102,3,none⟩=some (.int .i64 0):=(blk_cell BK102.out 3).trans rfl;have hcz8_4:w7.cell? ⟨gb102,4,none⟩=some (.int .i64 0):=(blk_cell BK102.out 4).trans rfl;have hcz8_5:w7.cell? ⟨gb102,5,none⟩=some (.slice none 0 0):=(blk_cell BK102.out 5).trans rfl;have hcz8_6:w7.cell? ⟨gb102,6,none⟩=some (.slice none 0 0):=(blk_cell BK102.out 6).trans rfl;have hfz8_0:=blk_frozen BK102.out 0;have hfz8_1:=blk_frozen BK102.out 1;have hfz8_2:=blk_frozen BK102.out 2;have hfz8_3:=blk_frozen BK102.out 3;have hfz8_4:=blk_frozen BK102.out 4;have hfz8_5:=blk_frozen BK102.out 5;have hfz8_6:=blk_frozen BK102.out 6)|(go_at_call 45;(with_reducible refine (sawmillref02_IsName.calls k1 ((rd_T53 l0 x3_1).f0) true _ A5.out).mono ?_);rintro e w' ⟨rfl,⟨nd,rfl⟩⟩;(try first|exact ⟨rfl,_,World.drewN_drewN _ _ _⟩|exact ⟨rfl,_,Eq.trans (World.drewN_drewN _ _ _) (congrArg (World.drewN _) (Nat.add_assoc _ _ _))⟩)));try go_wp2_with (first|((with_reducible refine gate_dst (N:=4) rfl ?_);refine box_event ?hg (N:=4) ?hd (cs:=#[.string (⟨#[]⟩:ByteArray),.int .i64 0,.int .i64 0,.int .i64 0,.int .i64 0,.slice none 0 0,.slice none 0 0]) (t:=53) ?hr ?_;(case hd=>rfl);(case hg=>rfl);(case hr=>first|(go_simp;done)|(go_simp;rfl));intro gb102 hg w7 hbox hb;have n0_:=Aside0.mk (below_step (by repeat (first|(with_reducible first|exact HB.out|apply below_alloc|apply pw_below_drewN|apply below_drew1)|exact HB.out)) hb);have n1_:=Aside0.mk (hbox);have n2_:=Aside0.mk ((by rw [hg];exact (below_size (by repeat (first|(with_reducible first|exact HB.out|apply below_alloc|apply pw_below_drewN|apply below_drew1)|exact HB.out))):w.heap.size≤gb102));have n3_:=Aside0.mk ((by rw [hg];exact (below_size (by repeat (first|(with_reducible first|exact HB.out|apply below_alloc|apply pw_below_drewN|apply below_drew1)|exact HB.out))):w.heap.size≤gb102));clear HB;have HB:=n0_;have BK102:=n1_;have GW102:=n2_;have GE102:=n3_;clear n0_ n1_ n2_ n3_;clear hb hbox hg;have hcz8_0:w7.cell? ⟨gb102,0,none⟩=some (.string (⟨#[]⟩:ByteArray)):=(blk_cell BK102.out 0).trans rfl;have hcz8_1:w7.cell? ⟨gb102,1,none⟩=some (.int .i64 0):=(blk_cell BK102.out 1).trans rfl;have hcz8_2:w7.cell? ⟨gb102,2,none⟩=some (.int .i64 0):=(blk_cell BK102.out 2).trans rfl;have hcz8_3:w7.cell? ⟨gb102,3,none⟩=some (.int .i64 0):=(blk_cell BK102.out 3).trans rfl;have hcz8_4:w7.cell? ⟨gb102,4,none⟩=some (.int .i64 0):=(blk_cell BK102.out 4).trans rfl;have hcz8_5:w7.cell? ⟨gb102,5,none⟩=some (.slice none 0 0):=(blk_cell BK102.out 5).trans rfl;have hcz8_6:w7.cell? ⟨gb102,6,none⟩=some (.slice none 0 0):=(blk_cell BK102.out 6).trans rfl;have hfz8_0:=blk_frozen BK102.out 0;have hfz8_1:=blk_frozen BK102.out 1;have hfz8_2:=blk_frozen BK102.out 2;have hfz8_3:=blk_frozen BK102.out 3;have hfz8_4:=blk_frozen BK102.out 4;have hfz8_5:=blk_frozen BK102.out 5;have hfz8_6:=blk_frozen BK102.out 6)|(go_at_call 45;(with_reducible refine (sawmillref02_IsName.calls k1 ((rd_T53 l0 x3_1).f0) true _ A5.out).mono ?_);rintro e w' ⟨rfl,⟨nd,rfl⟩⟩;(try first|exact ⟨rfl,_,World.drewN_drewN _ _ _⟩|exact ⟨rfl,_,Eq.trans (World.drewN_drewN _ _ _) (congrArg (World.drewN _) (Nat.add_assoc _ _ _))⟩))))
       go_loopg [5] k1 (fun kq v5 w'=>∃ (x5_2:Int),v5=.int .i64 x5_2∧Aside0 (sawmillref19_Check.l1 kq l0 x3_1 x5_2 ((rd_T53 l0 x3_1).f0) ((rd_T53 l0 x3_1).f1) ((rd_T53 l0 x3_1).f2) ((rd_T53 l0 x3_1).f3) ((rd_T53 l0 x3_1).f4) ((rd_T53 l0 x3_1).f5) ((rd_T53 l0 x3_1).f6)=some r)∧Aside0 (kq≤k1)∧Aside0 (w'.heap[gb102]?=some (.cells #[.string ((rd_T53 l0 x3_1).f0),.int .i64 ((rd_T53 l0 x3_1).f1),.int .i64 ((rd_T53 l0 x3_1).f2),.int .i64 ((rd_T53 l0 x3_1).f3),.int .i64 ((rd_T53 l0 x3_1).f4),(.slice A101_5 ((rd_T53 l0 x3_1).f5).length c101_5),(.slice A101_6 ((rd_T53 l0 x3_1).f6).length c101_6)] 53 (0,0)))∧Aside0 (Below w.heap.size w w'))
       case atStart=>exact ⟨(0),(by first|rfl|(simp;done)|(simp [*];done)),H',⟨Nat.le_refl _⟩,⟨by (with_reducible repeat (first|refine blk_drewN ?_ _|refine blk_drew ?_|refine blk_alloc ?_ _));refine blk_put (cs:=#[.string ((rd_T53 l0 x3_1).f0),.int .i64 ((rd_T53 l0 x3_1).f1),.int .i64 ((rd_T53 l0 x3_1).f2),.int .i64 ((rd_T53 l0 x3_1).f3),.int .i64 ((rd_T53 l0 x3_1).f4),.slice A101_5 ((rd_T53 l0 x3_1).f5).length c101_5,.slice none 0 0]) ?_ 6 _ rfl;(with_reducible repeat (first|refine blk_drewN ?_ _|refine blk_drew ?_|refine blk_alloc ?_ _));refine blk_put (cs:=#[.string ((rd_T53 l0 x3_1).f0),.int .i64 ((rd_T53 l0 x3_1).f1),.int .i64 ((rd_T53 l0 x3_1).f2),.int .i64 ((rd_T53 l0 x3_1).f3),.int .i64 ((rd_T53 l0 x3_1).f4),.slice none 0 0,.slice none 0 0]) ?_ 5 _ rfl;(with_reducible repeat (first|refine blk_drewN ?_ _|refine blk_drew ?_|refine blk_alloc ?_ _));refine blk_put (cs:=#[.string ((rd_T53 l0 x3_1).f0),.int .i64 ((rd_T53 l0 x3_1).f1),.int .i64 ((rd_T53 l0 x3_1).f2),.int .i64 ((rd_T53 l0 x3_1).f3),.int .i64 0,.slice none 0 0,.slice none 0 0]) ?_ 4 _ rfl;(with_reducible repeat (first|refine blk_drewN ?_ _|refine blk_drew ?_|refine blk_alloc ?_ _));refine blk_put (cs:=#[.string ((rd_T53 l0 x3_1).f0),.int .i64 ((rd_T53 l0 x3_1).f1),.int .i64 ((rd_T53 l0 x3_1).f2),.int .i64 0,.int .i64 0,.slice none 0 0,.slice none 0 0]) ?_ 3 _ rfl;(with_reducible repeat (first|refine blk_drewN ?_ _|refine blk_drew ?_|refine blk_alloc ?_ _));refine blk_put (cs:=#[.string ((rd_T53 l0 x3_1).f0),.int .i64 ((rd_T53 l0 x3_1).f1),.int .i64 0,.int .i64 0,.int .i64 0,.slice none 0 0,.slice none 0 0]) ?_ 2 _ rfl;(with_reducible repeat (first|refine blk_drewN ?_ _|refine blk_drew ?_|refine blk_alloc ?_ _));refine blk_put (cs:=#[.string ((rd_T53 l0 x3_1).f0),.int .i64 0,.int .i64 0,.int .i64 0,.int .i64 0,.slice none 0 0,.slice none 0 0]) ?_ 1 _ rfl;(with_reducible repeat (first|refine blk_drewN ?_ _|refine blk_drew ?_|refine blk_alloc ?_ _));refine blk_put (cs:=#[.string (⟨#[]⟩:ByteArray),.int .i64 0,.int .i64 0,.int .i64 0,.int .i64 0,.slice none 0 0,.slice none 0 0]) ?_ 0 _ rfl;(with_reducible repeat (first|refine blk_drewN ?_ _|refine blk_drew ?_|refine blk_alloc ?_ _));exact BK102.out⟩,⟨by repeat (first|(with_reducible first|exact HB.out|apply below_alloc|apply pw_below_drewN|apply below_drew1|refine below_set ?_ GE102.out)|exact HB.out)⟩⟩
       case round =>
        clear H'
        try clear c1
        try clear p1
        try clear q1
        try clear hx1
        try clear c2
        try clear c2b0
        try clear c2b1
        try clear p2
        try clear c3
        try clear c3b0
        try clear c4
        try clear c4b0
        try clear c6
        try clear hcz8_0
        try clear hcz8_1
        try clear hcz8_2
        try clear hcz8_3
        try clear hcz8_4
        try clear hcz8_5
        try clear hcz8_6
        try clear hfz8_0
        try clear hfz8_1
        try clear hfz8_2
        try clear hfz8_3
        try clear hfz8_4
        try clear hfz8_5
        try clear hfz8_6
        try clear hx101_0
        try clear hx101_1
        try clear hx101_2
        try clear hx101_3
        try clear hx101_4
        try clear hx101_5
        try clear hx101_6
        try clear p101
        try clear p2
        try clear q101
        obtain ⟨x5_2,rfl,HA,HK2,BK102,HB⟩:=hrel
        cases gk with
        | zero=>exact absurd HA.out (by simp [sawmillref19_Check.l1])
        | succ k2 =>
         have H:=HA.out
         clear HA
         simp only [sawmillref19_Check.l1] at H
         by_cases c9:x5_2 < x3_1
         ·rw [if_pos c9] at H
          have c9b0:decide (x5_2 < x3_1)=true:=decide_eq_true c9
          clear c9
          by_cases c10:0≤x5_2
          ·rw [if_pos c10] at H
           have c10b0:decide (0≤x5_2)=true:=decide_eq_true c10
           clear c10
           by_cases c11:x5_2 < (l0.length:Int)
           ·rw [if_pos c11] at H
            have c11b0:decide (x5_2 < (l0.length:Int))=true:=decide_eq_true c11
            clear c11
            by_cases c12:((rd_T53 l0 x5_2).f0).toList=((rd_T53 l0 x3_1).f0).toList
            ·rw [if_pos c12] at H
             have c12b0:(((rd_T53 l0 x5_2).f0).toList == ((rd_T53 l0 x3_1).f0).toList)=true:=beq_iff_eq.mpr c12
             have c12b1:(((rd_T53 l0 x5_2).f0).toList != ((rd_T53 l0 x3_1).f0).toList)=false:=bne_eq_false_iff_eq.mpr c12
             clear c12
             obtain rfl:=Option.some.inj H
             have p104:0≤(x5_2:Int):=of_decide_eq_true (by first|(with_reducible assumption)|assumption)
             have q104:x5_2 < (l0.length:Int):=of_decide_eq_true (by first|(with_reducible assumption)|assumption)
             obtain ⟨ad104,A104_5,c104_5,A104_6,c104_6,e104,hx104_0,hx104_1,hx104_2,hx104_3,hx104_4,hx104_5,hx104_6,hl104_5,hi104_5,hl104_6,hi104_6⟩:=at_T53 HR0.out x5_2 p104 q104
             obtain rfl:ad101=ad104:=(by injection e104)
             replace hx104_0:=(HB.out.cell (World.block_lt_of_cell? w _ hx104_0)).trans hx104_0
             replace hx104_1:=(HB.out.cell (World.block_lt_of_cell? w _ hx104_1)).trans hx104_1
             replace hx104_2:=(HB.out.cell (World.block_lt_of_cell? w _ hx104_2)).trans hx104_2
             replace hx104_3:=(HB.out.cell (World.block_lt_of_cell? w _ hx104_3)).trans hx104_3
             replace hx104_4:=(HB.out.cell (World.block_lt_of_cell? w _ hx104_4)).trans hx104_4
             replace hx104_5:=(HB.out.cell (World.block_lt_of_cell? w _ hx104_5)).trans hx104_5
             replace hx104_6:=(HB.out.cell (World.block_lt_of_cell? w _ hx104_6)).trans hx104_6
             have HR104_5:=Aside0.mk hi104_5
             have HC104_5:=Aside0.mk hl104_5
             clear hi104_5 hl104_5
             have HR104_6:=Aside0.mk hi104_6
             have HC104_6:=Aside0.mk hl104_6
             clear hi104_6 hl104_6
             replace p104:=eq_true p104
             replace q104:=eq_true q104
             have hcz13_0:wr.cell? ⟨gb102,0,none⟩=some (.string ((rd_T53 l0 x3_1).f0)):=(blk_cell BK102.out 0).trans rfl
             have hcz13_1:wr.cell? ⟨gb102,1,none⟩=some (.int .i64 ((rd_T53 l0 x3_1).f1)):=(blk_cell BK102.out 1).trans rfl
             have hcz13_2:wr.cell? ⟨gb102,2,none⟩=some (.int .i64 ((rd_T53 l0 x3_1).f2)):=(blk_cell BK102.out 2).trans rfl
             have hcz13_3:wr.cell? ⟨gb102,3,none⟩=some (.int .i64 ((rd_T53 l0 x3_1).f3)):=(blk_cell BK102.out 3).trans rfl
             have hcz13_4:wr.cell? ⟨gb102,4,none⟩=some (.int .i64 ((rd_T53 l0 x3_1).f4)):=(blk_cell BK102.out 4).trans rfl
             have hcz13_5:wr.cell? ⟨gb102,5,none⟩=some (.slice A101_5 ((rd_T53 l0 x3_1).f5).length c101_5):=(blk_cell BK102.out 5).trans rfl
             have hcz13_6:wr.cell? ⟨gb102,6,none⟩=some (.slice A101_6 ((rd_T53 l0 x3_1).f6).length c101_6):=(blk_cell BK102.out 6).trans rfl
             have hfz13_0:=blk_frozen BK102.out 0
             have hfz13_1:=blk_frozen BK102.out 1
             have hfz13_2:=blk_frozen BK102.out 2
             have hfz13_3:=blk_frozen BK102.out 3
             have hfz13_4:=blk_frozen BK102.out 4
             have hfz13_5:=blk_frozen BK102.out 5
             have hfz13_6:=blk_frozen BK102.out 6
             go_wp2
             repeat (go_quiet (fail);try go_wp2)
             go_ret
             exact ⟨by first|rfl|(simp [errW_none,errW_some]<;>rfl)|(simp [*,errW_none,errW_some]<;>rfl),by repeat (first|(with_reducible first|exact HB.out|apply below_alloc|apply pw_below_drewN|apply below_drew1|refine below_set ?_ GE102.out)|exact HB.out)⟩
            ·rw [if_neg c12] at H
             have c12b0:(((rd_T53 l0 x5_2).f0).toList == ((rd_T53 l0 x3_1).f0).toList)=false:=beq_eq_false_iff_ne.mpr c12
             have c12b1:(((rd_T53 l0 x5_2).f0).toList != ((rd_T53 l0 x3_1).f0).toList)=true:=bne_iff_ne.mpr c12
             have H':=Aside0.mk H
             clear H
             have p104:0≤(x5_2:Int):=of_decide_eq_true (by first|(with_reducible assumption)|assumption)
             have q104:x5_2 < (l0.length:Int):=of_decide_eq_true (by first|(with_reducible assumption)|assumption)
             obtain ⟨ad104,A104_5,c104_5,A104_6,c104_6,e104,hx104_0,hx104_1,hx104_2,hx104_3,hx104_4,hx104_5,hx104_6,hl104_5,hi104_5,hl104_6,hi104_6⟩:=at_T53 HR0.out x5_2 p104 q104
             obtain rfl:ad101=ad104:=(by injection e104)
             replace hx104_0:=(HB.out.cell (World.block_lt_of_cell? w _ hx104_0)).trans hx104_0
             replace hx104_1:=(HB.out.cell (World.block_lt_of_cell? w _ hx104_1)).trans hx104_1
             replace hx104_2:=(HB.out.cell (World.block_lt_of_cell? w _ hx104_2)).trans hx104_2
             replace hx104_3:=(HB.out.cell (World.block_lt_of_cell? w _ hx104_3)).trans hx104_3
             replace hx104_4:=(HB.out.cell (World.block_lt_of_cell? w _ hx104_4)).trans hx104_4
             replace hx104_5:=(HB.out.cell (World.block_lt_of_cell? w _ hx104_5)).trans hx104_5
             replace hx104_6:=(HB.out.cell (World.block_lt_of_cell? w _ hx104_6)).trans hx104_6
             have HR104_5:=Aside0.mk hi104_5
             have HC104_5:=Aside0.mk hl104_5
             clear hi104_5 hl104_5
             have HR104_6:=Aside0.mk hi104_6
             have HC104_6:=Aside0.mk hl104_6
             clear hi104_6 hl104_6
             replace p104:=eq_true p104
             replace q104:=eq_true q104
             have hcz14_0:wr.cell? ⟨gb102,0,none⟩=some (.string ((rd_T53 l0 x3_1).f0)):=(blk_cell BK102.out 0).trans rfl
             have hcz14_1:wr.cell? ⟨gb102,1,none⟩=some (.int .i64 ((rd_T53 l0 x3_1).f1)):=(blk_cell BK102.out 1).trans rfl
             have hcz14_2:wr.cell? ⟨gb102,2,none⟩=some (.int .i64 ((rd_T53 l0 x3_1).f2)):=(blk_cell BK102.out 2).trans rfl
             have hcz14_3:wr.cell? ⟨gb102,3,none⟩=some (.int .i64 ((rd_T53 l0 x3_1).f3)):=(blk_cell BK102.out 3).trans rfl
             have hcz14_4:wr.cell? ⟨gb102,4,none⟩=some (.int .i64 ((rd_T53 l0 x3_1).f4)):=(blk_cell BK102.out 4).trans rfl
             have hcz14_5:wr.cell? ⟨gb102,5,none⟩=some (.slice A101_5 ((rd_T53 l0 x3_1).f5).length c101_5):=(blk_cell BK102.out 5).trans rfl
             have hcz14_6:wr.cell? ⟨gb102,6,none⟩=some (.slice A101_6 ((rd_T53 l0 x3_1).f6).length c101_6):=(blk_cell BK102.out 6).trans rfl
             have hfz14_0:=blk_frozen BK102.out 0
             have hfz14_1:=blk_frozen BK102.out 1
             have hfz14_2:=blk_frozen BK102.out 2
             have hfz14_3:=blk_frozen BK102.out 3
             have hfz14_4:=blk_frozen BK102.out 4
             have hfz14_5:=blk_frozen BK102.out 5
             have hfz14_6:=blk_frozen BK102.out 6
             go_wp2
             repeat (go_quiet (fail);try go_wp2)
             go_roundg k2
             case measure=>have:=HK1.out;have:=HK2.out;omega
             case rel=>exact ⟨(wrap64 (x5_2+1)),(by first|rfl|(simp;done)|(simp [*];done)),H',⟨by have:=HK1.out;have:=HK2.out;omega⟩,⟨by (with_reducible repeat (first|refine blk_drewN ?_ _|refine blk_drew ?_|refine blk_alloc ?_ _));exact BK102.out⟩,⟨by repeat (first|(with_reducible first|exact HB.out|apply below_alloc|apply pw_below_drewN|apply below_drew1|refine below_set ?_ GE102.out)|exact HB.out)⟩⟩
           ·rw [if_neg c11] at H
            exact absurd H (by simp)
          ·rw [if_neg c10] at H
           exact absurd H (by simp)
         ·rw [if_neg c9] at H
          have c9b0:decide (x5_2 < x3_1)=false:=decide_eq_false c9
          clear c9
          have HC15:=Aside0.mk H
          clear H
          go_upto_region 14 with (fail)
          repeat (go_quiet (fail);go_upto_region 14 with (fail))
          go_cut [78] (fun v78 wc=>∃ (kq:Nat) (x78_14:Bool),v78=.bool x78_14∧Aside0 (sawmillref19_Check.j2 kq l0 x3_1 x78_14 ((rd_T53 l0 x3_1).f0) ((rd_T53 l0 x3_1).f1) ((rd_T53 l0 x3_1).f2) ((rd_T53 l0 x3_1).f3) ((rd_T53 l0 x3_1).f4) ((rd_T53 l0 x3_1).f5) ((rd_T53 l0 x3_1).f6)=some r)∧Aside0 (kq≤k2)∧Aside0 (wc.heap[gb102]?=some (.cells #[.string ((rd_T53 l0 x3_1).f0),.int .i64 ((rd_T53 l0 x3_1).f1),.int .i64 ((rd_T53 l0 x3_1).f2),.int .i64 ((rd_T53 l0 x3_1).f3),.int .i64 ((rd_T53 l0 x3_1).f4),(.slice A101_5 ((rd_T53 l0 x3_1).f5).length c101_5),(.slice A101_6 ((rd_T53 l0 x3_1).f6).length c101_6)] 53 (0,0)))∧Aside0 (Below w.heap.size w wc))
          case first =>
           have H:=HC15.out
           clear HC15
           by_cases c16:((rd_T53 l0 x3_1).f1) < 5
           ·rw [if_pos c16] at H
            have c16b0:decide (((rd_T53 l0 x3_1).f1) < 5)=true:=decide_eq_true c16
            clear c16
            (first|rw [c16b0]|(simp only [i64_w,i32_w];rw [c16b0])|skip)
            have H':=Aside0.mk H
            clear H
            have hcz17_0:wr.cell? ⟨gb102,0,none⟩=some (.string ((rd_T53 l0 x3_1).f0)):=(blk_cell BK102.out 0).trans rfl
            have hcz17_1:wr.cell? ⟨gb102,1,none⟩=some (.int .i64 ((rd_T53 l0 x3_1).f1)):=(blk_cell BK102.out 1).trans rfl
            have hcz17_2:wr.cell? ⟨gb102,2,none⟩=some (.int .i64 ((rd_T53 l0 x3_1).f2)):=(blk_cell BK102.out 2).trans rfl
            have hcz17_3:wr.cell? ⟨gb102,3,none⟩=some (.int .i64 ((rd_T53 l0 x3_1).f3)):=(blk_cell BK102.out 3).trans rfl
            have hcz17_4:wr.cell? ⟨gb102,4,none⟩=some (.int .i64 ((rd_T53 l0 x3_1).f4)):=(blk_cell BK102.out 4).trans rfl
            have hcz17_5:wr.cell? ⟨gb102,5,none⟩=some (.slice A101_5 ((rd_T53 l0 x3_1).f5).length c101_5):=(blk_cell BK102.out 5).trans rfl
            have hcz17_6:wr.cell? ⟨gb102,6,none⟩=some (.slice A101_6 ((rd_T53 l0 x3_1).f6).length c101_6):=(blk_cell BK102.out 6).trans rfl
            have hfz17_0:=blk_frozen BK102.out 0
            have hfz17_1:=blk_frozen BK102.out 1
            have hfz17_2:=blk_frozen BK102.out 2
            have hfz17_3:=blk_frozen BK102.out 3
            have hfz17_4:=blk_frozen BK102.out 4
            have hfz17_5:=blk_frozen BK102.out 5
            have hfz17_6:=blk_frozen BK102.out 6
            go_wp2
            repeat (go_quiet (fail);try go_wp2)
            go_meet
            case rel=>exact ⟨_,(true),(by first|rfl|(simp;done)|(simp [*];done)),H',⟨by have:=HK1.out;have:=HK2.out;first|omega|exact Nat.le_refl _⟩,⟨by (with_reducible repeat (first|refine blk_drewN ?_ _|refine blk_drew ?_|refine blk_alloc ?_ _));exact BK102.out⟩,⟨by repeat (first|(with_reducible first|exact HB.out|apply below_alloc|apply pw_below_drewN|apply below_drew1|refine below_set ?_ GE102.out)|exact HB.out)⟩⟩
           ·rw [if_neg c16] at H
            have c16b0:decide (((rd_T53 l0 x3_1).f1) < 5)=false:=decide_eq_false c16
            clear c16
            (first|rw [c16b0]|(simp only [i64_w,i32_w];rw [c16b0])|skip)
            by_cases c18:((rd_T53 l0 x3_1).f1) > 300
            ·rw [if_pos c18] at H
             have c18b0:decide (300 < ((rd_T53 l0 x3_1).f1))=true:=decide_eq_true c18
             clear c18
             have H':=Aside0.mk H
             clear H
             have hcz19_0:wr.cell? ⟨gb102,0,none⟩=some (.string ((rd_T53 l0 x3_1).f0)):=(blk_cell BK102.out 0).trans rfl
             have hcz19_1:wr.cell? ⟨gb102,1,none⟩=some (.int .i64 ((rd_T53 l0 x3_1).f1)):=(blk_cell BK102.out 1).trans rfl
             have hcz19_2:wr.cell? ⟨gb102,2,none⟩=some (.int .i64 ((rd_T53 l0 x3_1).f2)):=(blk_cell BK102.out 2).trans rfl
             have hcz19_3:wr.cell? ⟨gb102,3,none⟩=some (.int .i64 ((rd_T53 l0 x3_1).f3)):=(blk_cell BK102.out 3).trans rfl
             have hcz19_4:wr.cell? ⟨gb102,4,none⟩=some (.int .i64 ((rd_T53 l0 x3_1).f4)):=(blk_cell BK102.out 4).trans rfl
             have hcz19_5:wr.cell? ⟨gb102,5,none⟩=some (.slice A101_5 ((rd_T53 l0 x3_1).f5).length c101_5):=(blk_cell BK102.out 5).trans rfl
             have hcz19_6:wr.cell? ⟨gb102,6,none⟩=some (.slice A101_6 ((rd_T53 l0 x3_1).f6).length c101_6):=(blk_cell BK102.out 6).trans rfl
             have hfz19_0:=blk_frozen BK102.out 0
             have hfz19_1:=blk_frozen BK102.out 1
             have hfz19_2:=blk_frozen BK102.out 2
             have hfz19_3:=blk_frozen BK102.out 3
             have hfz19_4:=blk_frozen BK102.out 4
             have hfz19_5:=blk_frozen BK102.out 5
             have hfz19_6:=blk_frozen BK102.out 6
             go_wp2
             repeat (go_quiet (fail);try go_wp2)
             go_meet
             case rel=>exact ⟨_,(true),(by first|rfl|(simp;done)|(simp [*];done)),H',⟨by have:=HK1.out;have:=HK2.out;first|omega|exact Nat.le_refl _⟩,⟨by (with_reducible repeat (first|refine blk_drewN ?_ _|refine blk_drew ?_|refine blk_alloc ?_ _));exact BK102.out⟩,⟨by repeat (first|(with_reducible first|exact HB.out|apply below_alloc|apply pw_below_drewN|apply below_drew1|refine below_set ?_ GE102.out)|exact HB.out)⟩⟩
            ·rw [if_neg c18] at H
             have c18b0:decide (300 < ((rd_T53 l0 x3_1).f1))=false:=decide_eq_false c18
             clear c18
             by_cases c20:((rd_T53 l0 x3_1).f2) < ((rd_T53 l0 x3_1).f1)
             ·rw [if_pos c20] at H
              have c20b0:decide (((rd_T53 l0 x3_1).f2) < ((rd_T53 l0 x3_1).f1))=true:=decide_eq_true c20
              clear c20
              have H':=Aside0.mk H
              clear H
              have hcz21_0:wr.cell? ⟨gb102,0,none⟩=some (.string ((rd_T53 l0 x3_1).f0)):=(blk_cell BK102.out 0).trans rfl
              have hcz21_1:wr.cell? ⟨gb102,1,none⟩=some (.int .i64 ((rd_T53 l0 x3_1).f1)):=(blk_cell BK102.out 1).trans rfl
              have hcz21_2:wr.cell? ⟨gb102,2,none⟩=some (.int .i64 ((rd_T53 l0 x3_1).f2)):=(blk_cell BK102.out 2).trans rfl
              have hcz21_3:wr.cell? ⟨gb102,3,none⟩=some (.int .i64 ((rd_T53 l0 x3_1).f3)):=(blk_cell BK102.out 3).trans rfl
              have hcz21_4:wr.cell? ⟨gb102,4,none⟩=some (.int .i64 ((rd_T53 l0 x3_1).f4)):=(blk_cell BK102.out 4).trans rfl
              have hcz21_5:wr.cell? ⟨gb102,5,none⟩=some (.slice A101_5 ((rd_T53 l0 x3_1).f5).length c101_5):=(blk_cell BK102.out 5).trans rfl
              have hcz21_6:wr.cell? ⟨gb102,6,none⟩=some (.slice A101_6 ((rd_T53 l0 x3_1).f6).length c101_6):=(blk_cell BK102.out 6).trans rfl
              have hfz21_0:=blk_frozen BK102.out 0
              have hfz21_1:=blk_frozen BK102.out 1
              have hfz21_2:=blk_frozen BK102.out 2
              have hfz21_3:=blk_frozen BK102.out 3
              have hfz21_4:=blk_frozen BK102.out 4
              have hfz21_5:=blk_frozen BK102.out 5
              have hfz21_6:=blk_frozen BK102.out 6
              go_wp2
              repeat (go_quiet (fail);try go_wp2)
              go_meet
              case rel=>exact ⟨_,(true),(by first|rfl|(simp;done)|(simp [*];done)),H',⟨by have:=HK1.out;have:=HK2.out;first|omega|exact Nat.le_refl _⟩,⟨by (with_reducible repeat (first|refine blk_drewN ?_ _|refine blk_drew ?_|refine blk_alloc ?_ _));exact BK102.out⟩,⟨by repeat (first|(with_reducible first|exact HB.out|apply below_alloc|apply pw_below_drewN|apply below_drew1|refine below_set ?_ GE102.out)|exact HB.out)⟩⟩
             ·rw [if_neg c20] at H
              have c20b0:decide (((rd_T53 l0 x3_1).f2) < ((rd_T53 l0 x3_1).f1))=false:=decide_eq_false c20
              clear c20
              by_cases c22:((rd_T53 l0 x3_1).f2) > 600
              ·rw [if_pos c22] at H
               have c22b0:decide (600 < ((rd_T53 l0 x3_1).f2))=true:=decide_eq_true c22
               clear c22
               have H':=Aside0.mk H
               clear H
               have hcz23_0:wr.cell? ⟨gb102,0,none⟩=some (.string ((rd_T53 l0 x3_1).f0)):=(blk_cell BK102.out 0).trans rfl
               have hcz23_1:wr.cell? ⟨gb102,1,none⟩=some (.int .i64 ((rd_T53 l0 x3_1).f1)):=(blk_cell BK102.out 1).trans rfl
               have hcz23_2:wr.cell? ⟨gb102,2,none⟩=some (.int .i64 ((rd_T53 l0 x3_1).f2)):=(blk_cell BK102.out 2).trans rfl
               have hcz23_3:wr.cell? ⟨gb102,3,none⟩=some (.int .i64 ((rd_T53 l0 x3_1).f3)):=(blk_cell BK102.out 3).trans rfl
               have hcz23_4:wr.cell? ⟨gb102,4,none⟩=some (.int .i64 ((rd_T53 l0 x3_1).f4)):=(blk_cell BK102.out 4).trans rfl
               have hcz23_5:wr.cell? ⟨gb102,5,none⟩=some (.slice A101_5 ((rd_T53 l0 x3_1).f5).length c101_5):=(blk_cell BK102.out 5).trans rfl
               have hcz23_6:wr.cell? ⟨gb102,6,none⟩=some (.slice A101_6 ((rd_T53 l0 x3_1).f6).length c101_6):=(blk_cell BK102.out 6).trans rfl
               have hfz23_0:=blk_frozen BK102.out 0
               have hfz23_1:=blk_frozen BK102.out 1
               have hfz23_2:=blk_frozen BK102.out 2
               have hfz23_3:=blk_frozen BK102.out 3
               have hfz23_4:=blk_frozen BK102.out 4
               have hfz23_5:=blk_frozen BK102.out 5
               have hfz23_6:=blk_frozen BK102.out 6
               go_wp2
               repeat (go_quiet (fail);try go_wp2)
               go_meet
               case rel=>exact ⟨_,(true),(by first|rfl|(simp;done)|(simp [*];done)),H',⟨by have:=HK1.out;have:=HK2.out;first|omega|exact Nat.le_refl _⟩,⟨by (with_reducible repeat (first|refine blk_drewN ?_ _|refine blk_drew ?_|refine blk_alloc ?_ _));exact BK102.out⟩,⟨by repeat (first|(with_reducible first|exact HB.out|apply below_alloc|apply pw_below_drewN|apply below_drew1|refine below_set ?_ GE102.out)|exact HB.out)⟩⟩
              ·rw [if_neg c22] at H
               have c22b0:decide (600 < ((rd_T53 l0 x3_1).f2))=false:=decide_eq_false c22
               clear c22
               by_cases c24:((rd_T53 l0 x3_1).f3) < 0
               ·rw [if_pos c24] at H
                have c24b0:decide (((rd_T53 l0 x3_1).f3) < 0)=true:=decide_eq_true c24
                clear c24
                have H':=Aside0.mk H
                clear H
                have hcz25_0:wr.cell? ⟨gb102,0,none⟩=some (.string ((rd_T53 l0 x3_1).f0)):=(blk_cell BK102.out 0).trans rfl
                have hcz25_1:wr.cell? ⟨gb102,1,none⟩=some (.int .i64 ((rd_T53 l0 x3_1).f1)):=(blk_cell BK102.out 1).trans rfl
                have hcz25_2:wr.cell? ⟨gb102,2,none⟩=some (.int .i64 ((rd_T53 l0 x3_1).f2)):=(blk_cell BK102.out 2).trans rfl
                have hcz25_3:wr.cell? ⟨gb102,3,none⟩=some (.int .i64 ((rd_T53 l0 x3_1).f3)):=(blk_cell BK102.out 3).trans rfl
                have hcz25_4:wr.cell? ⟨gb102,4,none⟩=some (.int .i64 ((rd_T53 l0 x3_1).f4)):=(blk_cell BK102.out 4).trans rfl
                have hcz25_5:wr.cell? ⟨gb102,5,none⟩=some (.slice A101_5 ((rd_T53 l0 x3_1).f5).length c101_5):=(blk_cell BK102.out 5).trans rfl
                have hcz25_6:wr.cell? ⟨gb102,6,none⟩=some (.slice A101_6 ((rd_T53 l0 x3_1).f6).length c101_6):=(blk_cell BK102.out 6).trans rfl
                have hfz25_0:=blk_frozen BK102.out 0
                have hfz25_1:=blk_frozen BK102.out 1
                have hfz25_2:=blk_frozen BK102.out 2
                have hfz25_3:=blk_frozen BK102.out 3
                have hfz25_4:=blk_frozen BK102.out 4
                have hfz25_5:=blk_frozen BK102.out 5
                have hfz25_6:=blk_frozen BK102.out 6
                go_wp2
                repeat (go_quiet (fail);try go_wp2)
                go_meet
                case rel=>exact ⟨_,(true),(by first|rfl|(simp;done)|(simp [*];done)),H',⟨by have:=HK1.out;have:=HK2.out;first|omega|exact Nat.le_refl _⟩,⟨by (with_reducible repeat (first|refine blk_drewN ?_ _|refine blk_drew ?_|refine blk_alloc ?_ _));exact BK102.out⟩,⟨by repeat (first|(with_reducible first|exact HB.out|apply below_alloc|apply pw_below_drewN|apply below_drew1|refine below_set ?_ GE102.out)|exact HB.out)⟩⟩
               ·rw [if_neg c24] at H
                have c24b0:decide (((rd_T53 l0 x3_1).f3) < 0)=false:=decide_eq_false c24
                clear c24
                by_cases c26:((rd_T53 l0 x3_1).f3) > 200
                ·rw [if_pos c26] at H
                 have c26b0:decide (200 < ((rd_T53 l0 x3_1).f3))=true:=decide_eq_true c26
                 clear c26
                 have H':=Aside0.mk H
                 clear H
                 have hcz27_0:wr.cell? ⟨gb102,0,none⟩=some (.string ((rd_T53 l0 x3_1).f0)):=(blk_cell BK102.out 0).trans rfl
                 have hcz27_1:wr.cell? ⟨gb102,1,none⟩=some (.int .i64 ((rd_T53 l0 x3_1).f1)):=(blk_cell BK102.out 1).trans rfl
                 have hcz27_2:wr.cell? ⟨gb102,2,none⟩=some (.int .i64 ((rd_T53 l0 x3_1).f2)):=(blk_cell BK102.out 2).trans rfl
                 have hcz27_3:wr.cell? ⟨gb102,3,none⟩=some (.int .i64 ((rd_T53 l0 x3_1).f3)):=(blk_cell BK102.out 3).trans rfl
                 have hcz27_4:wr.cell? ⟨gb102,4,none⟩=some (.int .i64 ((rd_T53 l0 x3_1).f4)):=(blk_cell BK102.out 4).trans rfl
                 have hcz27_5:wr.cell? ⟨gb102,5,none⟩=some (.slice A101_5 ((rd_T53 l0 x3_1).f5).length c101_5):=(blk_cell BK102.out 5).trans rfl
                 have hcz27_6:wr.cell? ⟨gb102,6,none⟩=some (.slice A101_6 ((rd_T53 l0 x3_1).f6).length c101_6):=(blk_cell BK102.out 6).trans rfl
                 have hfz27_0:=blk_frozen BK102.out 0
                 have hfz27_1:=blk_frozen BK102.out 1
                 have hfz27_2:=blk_frozen BK102.out 2
                 have hfz27_3:=blk_frozen BK102.out 3
                 have hfz27_4:=blk_frozen BK102.out 4
                 have hfz27_5:=blk_frozen BK102.out 5
                 have hfz27_6:=blk_frozen BK102.out 6
                 go_wp2
                 repeat (go_quiet (fail);try go_wp2)
                 go_meet
                 case rel=>exact ⟨_,(true),(by first|rfl|(simp;done)|(simp [*];done)),H',⟨by have:=HK1.out;have:=HK2.out;first|omega|exact Nat.le_refl _⟩,⟨by (with_reducible repeat (first|refine blk_drewN ?_ _|refine blk_drew ?_|refine blk_alloc ?_ _));exact BK102.out⟩,⟨by repeat (first|(with_reducible first|exact HB.out|apply below_alloc|apply pw_below_drewN|apply below_drew1|refine below_set ?_ GE102.out)|exact HB.out)⟩⟩
                ·rw [if_neg c26] at H
                 have c26b0:decide (200 < ((rd_T53 l0 x3_1).f3))=false:=decide_eq_false c26
                 clear c26
                 by_cases c28:((rd_T53 l0 x3_1).f4) < 0
                 ·rw [if_pos c28] at H
                  have c28b0:decide (((rd_T53 l0 x3_1).f4) < 0)=true:=decide_eq_true c28
                  clear c28
                  have H':=Aside0.mk H
                  clear H
                  have hcz29_0:wr.cell? ⟨gb102,0,none⟩=some (.string ((rd_T53 l0 x3_1).f0)):=(blk_cell BK102.out 0).trans rfl
                  have hcz29_1:wr.cell? ⟨gb102,1,none⟩=some (.int .i64 ((rd_T53 l0 x3_1).f1)):=(blk_cell BK102.out 1).trans rfl
                  have hcz29_2:wr.cell? ⟨gb102,2,none⟩=some (.int .i64 ((rd_T53 l0 x3_1).f2)):=(blk_cell BK102.out 2).trans rfl
                  have hcz29_3:wr.cell? ⟨gb102,3,none⟩=some (.int .i64 ((rd_T53 l0 x3_1).f3)):=(blk_cell BK102.out 3).trans rfl
                  have hcz29_4:wr.cell? ⟨gb102,4,none⟩=some (.int .i64 ((rd_T53 l0 x3_1).f4)):=(blk_cell BK102.out 4).trans rfl
                  have hcz29_5:wr.cell? ⟨gb102,5,none⟩=some (.slice A101_5 ((rd_T53 l0 x3_1).f5).length c101_5):=(blk_cell BK102.out 5).trans rfl
                  have hcz29_6:wr.cell? ⟨gb102,6,none⟩=some (.slice A101_6 ((rd_T53 l0 x3_1).f6).length c101_6):=(blk_cell BK102.out 6).trans rfl
                  have hfz29_0:=blk_frozen BK102.out 0
                  have hfz29_1:=blk_frozen BK102.out 1
                  have hfz29_2:=blk_frozen BK102.out 2
                  have hfz29_3:=blk_frozen BK102.out 3
                  have hfz29_4:=blk_frozen BK102.out 4
                  have hfz29_5:=blk_frozen BK102.out 5
                  have hfz29_6:=blk_frozen BK102.out 6
                  go_wp2
                  repeat (go_quiet (fail);try go_wp2)
                  go_meet
                  case rel=>exact ⟨_,(true),(by first|rfl|(simp;done)|(simp [*];done)),H',⟨by have:=HK1.out;have:=HK2.out;first|omega|exact Nat.le_refl _⟩,⟨by (with_reducible repeat (first|refine blk_drewN ?_ _|refine blk_drew ?_|refine blk_alloc ?_ _));exact BK102.out⟩,⟨by repeat (first|(with_reducible first|exact HB.out|apply below_alloc|apply pw_below_drewN|apply below_drew1|refine below_set ?_ GE102.out)|exact HB.out)⟩⟩
                 ·rw [if_neg c28] at H
                  have c28b0:decide (((rd_T53 l0 x3_1).f4) < 0)=false:=decide_eq_false c28
                  clear c28
                  have H':=Aside0.mk H
                  clear H
                  have hcz30_0:wr.cell? ⟨gb102,0,none⟩=some (.string ((rd_T53 l0 x3_1).f0)):=(blk_cell BK102.out 0).trans rfl
                  have hcz30_1:wr.cell? ⟨gb102,1,none⟩=some (.int .i64 ((rd_T53 l0 x3_1).f1)):=(blk_cell BK102.out 1).trans rfl
                  have hcz30_2:wr.cell? ⟨gb102,2,none⟩=some (.int .i64 ((rd_T53 l0 x3_1).f2)):=(blk_cell BK102.out 2).trans rfl
                  have hcz30_3:wr.cell? ⟨gb102,3,none⟩=some (.int .i64 ((rd_T53 l0 x3_1).f3)):=(blk_cell BK102.out 3).trans rfl
                  have hcz30_4:wr.cell? ⟨gb102,4,none⟩=some (.int .i64 ((rd_T53 l0 x3_1).f4)):=(blk_cell BK102.out 4).trans rfl
                  have hcz30_5:wr.cell? ⟨gb102,5,none⟩=some (.slice A101_5 ((rd_T53 l0 x3_1).f5).length c101_5):=(blk_cell BK102.out 5).trans rfl
                  have hcz30_6:wr.cell? ⟨gb102,6,none⟩=some (.slice A101_6 ((rd_T53 l0 x3_1).f6).length c101_6):=(blk_cell BK102.out 6).trans rfl
                  have hfz30_0:=blk_frozen BK102.out 0
                  have hfz30_1:=blk_frozen BK102.out 1
                  have hfz30_2:=blk_frozen BK102.out 2
                  have hfz30_3:=blk_frozen BK102.out 3
                  have hfz30_4:=blk_frozen BK102.out 4
                  have hfz30_5:=blk_frozen BK102.out 5
                  have hfz30_6:=blk_frozen BK102.out 6
                  go_wp2
                  repeat (go_quiet (fail);try go_wp2)
                  go_meet
                  case rel=>exact ⟨_,(decide (((rd_T53 l0 x3_1).f4) > 1000)),(by first|rfl|(simp;done)|(simp [*];done)),H',⟨by have:=HK1.out;have:=HK2.out;first|omega|exact Nat.le_refl _⟩,⟨by (with_reducible repeat (first|refine blk_drewN ?_ _|refine blk_drew ?_|refine blk_alloc ?_ _));exact BK102.out⟩,⟨by repeat (first|(with_reducible first|exact HB.out|apply below_alloc|apply pw_below_drewN|apply below_drew1|refine below_set ?_ GE102.out)|exact HB.out)⟩⟩
          case rest =>
           clear HC15
           try clear c1
           try clear p1
           try clear q1
           try clear hx1
           try clear c2
           try clear c2b0
           try clear c2b1
           try clear p2
           try clear c3
           try clear c3b0
           try clear c4
           try clear c4b0
           try clear c6
           try clear p6
           try clear c9
           try clear c9b0
           try clear c10
           try clear c10b0
           try clear p10
           try clear q10
           try clear hx10
           try clear c11
           try clear c11b0
           try clear c12
           try clear c12b0
           try clear c12b1
           try clear c16
           try clear c16b0
           try clear c18
           try clear c18b0
           try clear c20
           try clear c20b0
           try clear c22
           try clear c22b0
           try clear c24
           try clear c24b0
           try clear c26
           try clear c26b0
           try clear c28
           try clear c28b0
           try clear hcz13_0
           try clear hcz13_1
           try clear hcz13_2
           try clear hcz13_3
           try clear hcz13_4
           try clear hcz13_5
           try clear hcz13_6
           try clear hcz14_0
           try clear hcz14_1
           try clear hcz14_2
           try clear hcz14_3
           try clear hcz14_4
           try clear hcz14_5
           try clear hcz14_6
           try clear hcz17_0
           try clear hcz17_1
           try clear hcz17_2
           try clear hcz17_3
           try clear hcz17_4
           try clear hcz17_5
           try clear hcz17_6
           try clear hcz19_0
           try clear hcz19_1
           try clear hcz19_2
           try clear hcz19_3
           try clear hcz19_4
           try clear hcz19_5
           try clear hcz19_6
           try clear hcz21_0
           try clear hcz21_1
           try clear hcz21_2
           try clear hcz21_3
           try clear hcz21_4
           try clear hcz21_5
           try clear hcz21_6
           try clear hcz23_0
           try clear hcz23_1
           try clear hcz23_2
           try clear hcz23_3
           try clear hcz23_4
           try clear hcz23_5
           try clear hcz23_6
           try clear hcz25_0
           try clear hcz25_1
           try clear hcz25_2
           try clear hcz25_3
           try clear hcz25_4
           try clear hcz25_5
           try clear hcz25_6
           try clear hcz27_0
           try clear hcz27_1
           try clear hcz27_2
           try clear hcz27_3
           try clear hcz27_4
           try clear hcz27_5
           try clear hcz27_6
           try clear hcz29_0
           try clear hcz29_1
           try clear hcz29_2
           try clear hcz29_3
           try clear hcz29_4
           try clear hcz29_5
           try clear hcz29_6
           try clear hcz30_0
           try clear hcz30_1
           try clear hcz30_2
           try clear hcz30_3
           try clear hcz30_4
           try clear hcz30_5
           try clear hcz30_6
           try clear hcz8_0
           try clear hcz8_1
           try clear hcz8_2
           try clear hcz8_3
           try clear hcz8_4
           try clear hcz8_5
           try clear hcz8_6
           try clear hfz13_0
           try clear hfz13_1
           try clear hfz13_2
           try clear hfz13_3
           try clear hfz13_4
           try clear hfz13_5
           try clear hfz13_6
           try clear hfz14_0
           try clear hfz14_1
           try clear hfz14_2
           try clear hfz14_3
           try clear hfz14_4
           try clear hfz14_5
           try clear hfz14_6
           try clear hfz17_0
           try clear hfz17_1
           try clear hfz17_2
           try clear hfz17_3
           try clear hfz17_4
           try clear hfz17_5
           try clear hfz17_6
           try clear hfz19_0
           try clear hfz19_1
           try clear hfz19_2
           try clear hfz19_3
           try clear hfz19_4
           try clear hfz19_5
           try clear hfz19_6
           try clear hfz21_0
           try clear hfz21_1
           try clear hfz21_2
           try clear hfz21_3
           try clear hfz21_4
           try clear hfz21_5
           try clear hfz21_6
           try clear hfz23_0
           try clear hfz23_1
           try clear hfz23_2
           try clear hfz23_3
           try clear hfz23_4
           try clear hfz23_5
           try clear hfz23_6
           try clear hfz25_0
           try clear hfz25_1
           try clear hfz25_2
           try clear hfz25_3
           try clear hfz25_4
           try clear hfz25_5
           try clear hfz25_6
           try clear hfz27_0
           try clear hfz27_1
           try clear hfz27_2
           try clear hfz27_3
           try clear hfz27_4
           try clear hfz27_5
           try clear hfz27_6
           try clear hfz29_0
           try clear hfz29_1
           try clear hfz29_2
           try clear hfz29_3
           try clear hfz29_4
           try clear hfz29_5
           try clear hfz29_6
           try clear hfz30_0
           try clear hfz30_1
           try clear hfz30_2
           try clear hfz30_3
           try clear hfz30_4
           try clear hfz30_5
           try clear hfz30_6
           try clear hfz8_0
           try clear hfz8_1
           try clear hfz8_2
           try clear hfz8_3
           try clear hfz8_4
           try clear hfz8_5
           try clear hfz8_6
           try clear hx101_0
           try clear hx101_1
           try clear hx101_2
           try clear hx101_3
           try clear hx101_4
           try clear hx101_5
           try clear hx101_6
           try clear hx104_0
           try clear hx104_1
           try clear hx104_2
           try clear hx104_3
           try clear hx104_4
           try clear hx104_5
           try clear hx104_6
           try clear p1
           try clear p101
           try clear p104
           try clear p2
           try clear q1
           try clear q101
           try clear q104
           obtain ⟨kq,x78_14,rfl,HA,HJ14,BK102,HB⟩:=hcut
           cases kq with
           | zero=>exact absurd HA.out (by simp [sawmillref19_Check.j2])
           | succ kj14 =>
            have H:=HA.out
            clear HA
            simp only [sawmillref19_Check.j2] at H
            by_cases c31:x78_14=true
            ·subst c31
             have H1:(some 9)=some r:=by rw [if_pos rfl] at H;exact H
             clear H
             have H:=H1
             clear H1
             obtain rfl:=Option.some.inj H
             go_wp2
             repeat (go_quiet (fail);try go_wp2)
             go_ret
             exact ⟨by first|rfl|(simp [errW_none,errW_some]<;>rfl)|(simp [*,errW_none,errW_some]<;>rfl),by repeat (first|(with_reducible first|exact HB.out|apply below_alloc|apply pw_below_drewN|apply below_drew1|refine below_set ?_ GE102.out)|exact HB.out)⟩
            ·replace c31:=Bool.eq_false_iff.mpr c31
             subst c31
             have H1:((sawmillref19_Green.f ((rd_T53 l0 x3_1).f0) ((rd_T53 l0 x3_1).f1) ((rd_T53 l0 x3_1).f2) ((rd_T53 l0 x3_1).f3) ((rd_T53 l0 x3_1).f4) ((rd_T53 l0 x3_1).f5) ((rd_T53 l0 x3_1).f6)).bind fun bt105=>(if bt105.2 > 600 then (some 9) else ((sawmillref19_checkLengths.f kj14 ((rd_T53 l0 x3_1).f0) ((rd_T53 l0 x3_1).f1) ((rd_T53 l0 x3_1).f2) ((rd_T53 l0 x3_1).f3) ((rd_T53 l0 x3_1).f4) ((rd_T53 l0 x3_1).f5) ((rd_T53 l0 x3_1).f6)).bind fun t107=>(if t107=0 then (sawmillref19_Check.l0 kj14 l0 (wrap64 (x3_1+1))) else (some t107)))))=some r:=by rw [if_neg (show ¬ (false=true) by decide)] at H;exact H
             clear H
             have H:=H1
             clear H1
             replace H:=Option.bind_eq_some_iff.mp H
             obtain ⟨⟨t105,t106⟩,A320,H⟩:=H
             replace H:(if t106 > 600 then (some 9) else ((sawmillref19_checkLengths.f kj14 ((rd_T53 l0 x3_1).f0) ((rd_T53 l0 x3_1).f1) ((rd_T53 l0 x3_1).f2) ((rd_T53 l0 x3_1).f3) ((rd_T53 l0 x3_1).f4) ((rd_T53 l0 x3_1).f5) ((rd_T53 l0 x3_1).f6)).bind fun t107=>(if t107=0 then (sawmillref19_Check.l0 kj14 l0 (wrap64 (x3_1+1))) else (some t107))))=some r:=H
             have A32:=Aside0.mk A320
             clear A320
             by_cases c33:t106 > 600
             ·rw [if_pos c33] at H
              have c33b0:decide (600 < t106)=true:=decide_eq_true c33
              clear c33
              obtain rfl:=Option.some.inj H
              have hcz34_0:wc.cell? ⟨gb102,0,none⟩=some (.string ((rd_T53 l0 x3_1).f0)):=(blk_cell BK102.out 0).trans rfl
              have hcz34_1:wc.cell? ⟨gb102,1,none⟩=some (.int .i64 ((rd_T53 l0 x3_1).f1)):=(blk_cell BK102.out 1).trans rfl
              have hcz34_2:wc.cell? ⟨gb102,2,none⟩=some (.int .i64 ((rd_T53 l0 x3_1).f2)):=(blk_cell BK102.out 2).trans rfl
              have hcz34_3:wc.cell? ⟨gb102,3,none⟩=some (.int .i64 ((rd_T53 l0 x3_1).f3)):=(blk_cell BK102.out 3).trans rfl
              have hcz34_4:wc.cell? ⟨gb102,4,none⟩=some (.int .i64 ((rd_T53 l0 x3_1).f4)):=(blk_cell BK102.out 4).trans rfl
              have hcz34_5:wc.cell? ⟨gb102,5,none⟩=some (.slice A101_5 ((rd_T53 l0 x3_1).f5).length c101_5):=(blk_cell BK102.out 5).trans rfl
              have hcz34_6:wc.cell? ⟨gb102,6,none⟩=some (.slice A101_6 ((rd_T53 l0 x3_1).f6).length c101_6):=(blk_cell BK102.out 6).trans rfl
              have hfz34_0:=blk_frozen BK102.out 0
              have hfz34_1:=blk_frozen BK102.out 1
              have hfz34_2:=blk_frozen BK102.out 2
              have hfz34_3:=blk_frozen BK102.out 3
              have hfz34_4:=blk_frozen BK102.out 4
              have hfz34_5:=blk_frozen BK102.out 5
              have hfz34_6:=blk_frozen BK102.out 6
              go_wp2_with (first|(go_at_call 46;(with_reducible refine (sawmillref19_Green.calls ((rd_T53 l0 x3_1).f0) ((rd_T53 l0 x3_1).f1) ((rd_T53 l0 x3_1).f2) ((rd_T53 l0 x3_1).f3) ((rd_T53 l0 x3_1).f4) _ _ ((rd_T53 l0 x3_1).f5) _ _ ((rd_T53 l0 x3_1).f6) t105 t106 _ ?side1 ?side2 ?side3 ?side4 A32.out).mono ?_);(case side1=>repeat (first|exact (Kd.C_below HR101_5.out HB.out)|(with_reducible refine Kd.C_alloc ?_ _)|(with_reducible refine Kd.C_drewN ?_ _)|(with_reducible refine Kd.C_drew ?_)));(case side2=>exact HC101_5.out);(case side3=>repeat (first|exact (Kd.C_below HR101_6.out HB.out)|(with_reducible refine Kd.C_alloc ?_ _)|(with_reducible refine Kd.C_drewN ?_ _)|(with_reducible refine Kd.C_drew ?_)));(case side4=>exact HC101_6.out);rintro e w35 ⟨rfl,hb⟩;have n0_:=Aside0.mk (blk_below (g:=gb102) (o:=.cells #[.string ((rd_T53 l0 x3_1).f0),.int .i64 ((rd_T53 l0 x3_1).f1),.int .i64 ((rd_T53 l0 x3_1).f2),.int .i64 ((rd_T53 l0 x3_1).f3),.int .i64 ((rd_T53 l0 x3_1).f4),.slice A101_5 ((rd_T53 l0 x3_1).f5).length c101_5,.slice A101_6 ((rd_T53 l0 x3_1).f6).length c101_6] 53 (0,0)) (by (with_reducible repeat (first|refine blk_drewN ?_ _|refine blk_drew ?_|refine blk_alloc ?_ _));exact BK102.out) hb);have n1_:=Aside0.mk (below_step (by repeat (first|(with_reducible first|exact HB.out|apply below_alloc|apply pw_below_drewN|apply below_drew1|refine below_set ?_ GE102.out)|exact HB.out)) hb);clear BK102;clear HB;have BK102:=n0_;have HB:=n1_;clear n0_ n1_;(try clear hb);(try clear hb2);(try clear hk);(try clear hi)))
              repeat (go_quiet (first|(go_at_call 46;(with_reducible refine (sawmillref19_Green.calls ((rd_T53 l0 x3_1).f0) ((rd_T53 l0 x3_1).f1) ((rd_T53 l0 x3_1).f2) ((rd_T53 l0 x3_1).f3) ((rd_T53 l0 x3_1).f4) _ _ ((rd_T53 l0 x3_1).f5) _ _ ((rd_T53 l0 x3_1).f6) t105 t106 _ ?side1 ?side2 ?side3 ?side4 A32.out).mono ?_);(case side1=>repeat (first|exact (Kd.C_below HR101_5.out HB.out)|(with_reducible refine Kd.C_alloc ?_ _)|(with_reducible refine Kd.C_drewN ?_ _)|(with_reducible refine Kd.C_drew ?_)));(case side2=>exact HC101_5.out);(case side3=>repeat (first|exact (Kd.C_below HR101_6.out HB.out)|(with_reducible refine Kd.C_alloc ?_ _)|(with_reducible refine Kd.C_drewN ?_ _)|(with_reducible refine Kd.C_drew ?_)));(case side4=>exact HC101_6.out);rintro e w35 ⟨rfl,hb⟩;have n0_:=Aside0.mk (blk_below (g:=gb102) (o:=.cells #[.string ((rd_T53 l0 x3_1).f0),.int .i64 ((rd_T53 l0 x3_1).f1),.int .i64 ((rd_T53 l0 x3_1).f2),.int .i64 ((rd_T53 l0 x3_1).f3),.int .i64 ((rd_T53 l0 x3_1).f4),.slice A101_5 ((rd_T53 l0 x3_1).f5).length c101_5,.slice A101_6 ((rd_T53 l0 x3_1).f6).length c101_6] 53 (0,0)) (by (with_reducible repeat (first|refine blk_drewN ?_ _|refine blk_drew ?_|refine blk_alloc ?_ _));exact BK102.out) hb);have n1_:=Aside0.mk (below_step (by repeat (first|(with_reducible first|exact HB.out|apply below_alloc|apply pw_below_drewN|apply below_drew1|refine below_set ?_ GE102.out)|exact HB.out)) hb);clear BK102;clear HB;have BK102:=n0_;have HB:=n1_;clear n0_ n1_;(try clear hb);(try clear hb2);(try clear hk);(try clear hi)));try go_wp2_with (first|(go_at_call 46;(with_reducible refine (sawmillref19_Green.calls ((rd_T53 l0 x3_1).f0) ((rd_T53 l0 x3_1).f1) ((rd_T53 l0 x3_1).f2) ((rd_T53 l0 x3_1).f3) ((rd_T53 l0 x3_1).f4) _ _ ((rd_T53 l0 x3_1).f5) _ _ ((rd_T53 l0 x3_1).f6) t105 t106 _ ?side1 ?side2 ?side3 ?side4 A32.out).mono ?_);(case side1=>repeat (first|exact (Kd.C_below HR101_5.out HB.out)|(with_reducible refine Kd.C_alloc ?_ _)|(with_reducible refine Kd.C_drewN ?_ _)|(with_reducible refine Kd.C_drew ?_)));(case side2=>exact HC101_5.out);(case side3=>repeat (first|exact (Kd.C_below HR101_6.out HB.out)|(with_reducible refine Kd.C_alloc ?_ _)|(with_reducible refine Kd.C_drewN ?_ _)|(with_reducible refine Kd.C_drew ?_)));(case side4=>exact HC101_6.out);rintro e w35 ⟨rfl,hb⟩;have n0_:=Aside0.mk (blk_below (g:=gb102) (o:=.cells #[.string ((rd_T53 l0 x3_1).f0),.int .i64 ((rd_T53 l0 x3_1).f1),.int .i64 ((rd_T53 l0 x3_1).f2),.int .i64 ((rd_T53 l0 x3_1).f3),.int .i64 ((rd_T53 l0 x3_1).f4),.slice A101_5 ((rd_T53 l0 x3_1).f5).length c101_5,.slice A101_6 ((rd_T53 l0 x3_1).f6).length c101_6] 53 (0,0)) (by (with_reducible repeat (first|refine blk_drewN ?_ _|refine blk_drew ?_|refine blk_alloc ?_ _));exact BK102.out) hb);have n1_:=Aside0.mk (below_step (by repeat (first|(with_reducible first|exact HB.out|apply below_alloc|apply pw_below_drewN|apply below_drew1|refine below_set ?_ GE102.out)|exact HB.out)) hb);clear BK102;clear HB;have BK102:=n0_;have HB:=n1_;clear n0_ n1_;(try clear hb);(try clear hb2);(try clear hk);(try clear hi))))
              go_ret
              exact ⟨by first|rfl|(simp [errW_none,errW_some]<;>rfl)|(simp [*,errW_none,errW_some]<;>rfl),by repeat (first|(with_reducible first|exact HB.out|apply below_alloc|apply pw_below_drewN|apply below_drew1|refine below_set ?_ GE102.out)|exact HB.out)⟩
             ·rw [if_neg c33] at H
              have c33b0:decide (600 < t106)=false:=decide_eq_false c33
              clear c33
              replace H:=Option.bind_eq_some_iff.mp H
              obtain ⟨t107,A360,H⟩:=H
              replace H:(if t107=0 then (sawmillref19_Check.l0 kj14 l0 (wrap64 (x3_1+1))) else (some t107))=some r:=H
              have A36:=Aside0.mk A360
              clear A360
              by_cases c37:t107=0
              ·rw [if_pos c37] at H
               have c37b0:(t107 == 0)=true:=beq_iff_eq.mpr c37
               have c37b1:(t107 != 0)=false:=bne_eq_false_iff_eq.mpr c37
               clear c37
               have H':=Aside0.mk H
               clear H
               have hcz38_0:wc.cell? ⟨gb102,0,none⟩=some (.string ((rd_T53 l0 x3_1).f0)):=(blk_cell BK102.out 0).trans rfl
               have hcz38_1:wc.cell? ⟨gb102,1,none⟩=some (.int .i64 ((rd_T53 l0 x3_1).f1)):=(blk_cell BK102.out 1).trans rfl
               have hcz38_2:wc.cell? ⟨gb102,2,none⟩=some (.int .i64 ((rd_T53 l0 x3_1).f2)):=(blk_cell BK102.out 2).trans rfl
               have hcz38_3:wc.cell? ⟨gb102,3,none⟩=some (.int .i64 ((rd_T53 l0 x3_1).f3)):=(blk_cell BK102.out 3).trans rfl
               have hcz38_4:wc.cell? ⟨gb102,4,none⟩=some (.int .i64 ((rd_T53 l0 x3_1).f4)):=(blk_cell BK102.out 4).trans rfl
               have hcz38_5:wc.cell? ⟨gb102,5,none⟩=some (.slice A101_5 ((rd_T53 l0 x3_1).f5).length c101_5):=(blk_cell BK102.out 5).trans rfl
               have hcz38_6:wc.cell? ⟨gb102,6,none⟩=some (.slice A101_6 ((rd_T53 l0 x3_1).f6).length c101_6):=(blk_cell BK102.out 6).trans rfl
               have hfz38_0:=blk_frozen BK102.out 0
               have hfz38_1:=blk_frozen BK102.out 1
               have hfz38_2:=blk_frozen BK102.out 2
               have hfz38_3:=blk_frozen BK102.out 3
               have hfz38_4:=blk_frozen BK102.out 4
               have hfz38_5:=blk_frozen BK102.out 5
               have hfz38_6:=blk_frozen BK102.out 6
               go_wp2_with (first|(go_at_call 46;(with_reducible refine (sawmillref19_Green.calls ((rd_T53 l0 x3_1).f0) ((rd_T53 l0 x3_1).f1) ((rd_T53 l0 x3_1).f2) ((rd_T53 l0 x3_1).f3) ((rd_T53 l0 x3_1).f4) _ _ ((rd_T53 l0 x3_1).f5) _ _ ((rd_T53 l0 x3_1).f6) t105 t106 _ ?side1 ?side2 ?side3 ?side4 A32.out).mono ?_);(case side1=>repeat (first|exact (Kd.C_below HR101_5.out HB.out)|(with_reducible refine Kd.C_alloc ?_ _)|(with_reducible refine Kd.C_drewN ?_ _)|(with_reducible refine Kd.C_drew ?_)));(case side2=>exact HC101_5.out);(case side3=>repeat (first|exact (Kd.C_below HR101_6.out HB.out)|(with_reducible refine Kd.C_alloc ?_ _)|(with_reducible refine Kd.C_drewN ?_ _)|(with_reducible refine Kd.C_drew ?_)));(case side4=>exact HC101_6.out);rintro e w39 ⟨rfl,hb⟩;have n0_:=Aside0.mk (blk_below (g:=gb102) (o:=.cells #[.string ((rd_T53 l0 x3_1).f0),.int .i64 ((rd_T53 l0 x3_1).f1),.int .i64 ((rd_T53 l0 x3_1).f2),.int .i64 ((rd_T53 l0 x3_1).f3),.int .i64 ((rd_T53 l0 x3_1).f4),.slice A101_5 ((rd_T53 l0 x3_1).f5).length c101_5,.slice A101_6 ((rd_T53 l0 x3_1).f6).length c101_6] 53 (0,0)) (by (with_reducible repeat (first|refine blk_drewN ?_ _|refine blk_drew ?_|refine blk_alloc ?_ _));exact BK102.out) hb);have n1_:=Aside0.mk (below_step (by repeat (first|(with_reducible first|exact HB.out|apply below_alloc|apply pw_below_drewN|apply below_drew1|refine below_set ?_ GE102.out)|exact HB.out)) hb);clear BK102;clear HB;have BK102:=n0_;have HB:=n1_;clear n0_ n1_;(try clear hb);(try clear hb2);(try clear hk);(try clear hi);have hcz40_0:w39.cell? ⟨gb102,0,none⟩=some (.string ((rd_T53 l0 x3_1).f0)):=(blk_cell BK102.out 0).trans rfl;have hcz40_1:w39.cell? ⟨gb102,1,none⟩=some (.int .i64 ((rd_T53 l0 x3_1).f1)):=(blk_cell BK102.out 1).trans rfl;have hcz40_2:w39.cell? ⟨gb102,2,none⟩=some (.int .i64 ((rd_T53 l0 x3_1).f2)):=(blk_cell BK102.out 2).trans rfl;have hcz40_3:w39.cell? ⟨gb102,3,none⟩=some (.int .i64 ((rd_T53 l0 x3_1).f3)):=(blk_cell BK102.out 3).trans rfl;have hcz40_4:w39.cell? ⟨gb102,4,none⟩=some (.int .i64 ((rd_T53 l0 x3_1).f4)):=(blk_cell BK102.out 4).trans rfl;have hcz40_5:w39.cell? ⟨gb102,5,none⟩=some (.slice A101_5 ((rd_T53 l0 x3_1).f5).length c101_5):=(blk_cell BK102.out 5).trans rfl;have hcz40_6:w39.cell? ⟨gb102,6,none⟩=some (.slice A101_6 ((rd_T53 l0 x3_1).f6).length c101_6):=(blk_cell BK102.out 6).trans rfl;have hfz40_0:=blk_frozen BK102.out 0;have hfz40_1:=blk_frozen BK102.out 1;have hfz40_2:=blk_frozen BK102.out 2;have hfz40_3:=blk_frozen BK102.out 3;have hfz40_4:=blk_frozen BK102.out 4;have hfz40_5:=blk_frozen BK102.out 5;have hfz40_6:=blk_frozen BK102.out 6)|(go_at_call 47;(with_reducible refine (sawmillref19_checkLengths.calls kj14 ((rd_T53 l0 x3_1).f0) ((rd_T53 l0 x3_1).f1) ((rd_T53 l0 x3_1).f2) ((rd_T53 l0 x3_1).f3) ((rd_T53 l0 x3_1).f4) _ _ ((rd_T53 l0 x3_1).f5) _ _ ((rd_T53 l0 x3_1).f6) t107 _ ?side1 ?side2 ?side3 ?side4 A36.out).mono ?_);(case side1=>repeat (first|exact (Kd.C_below HR101_5.out HB.out)|(with_reducible refine Kd.C_alloc ?_ _)|(with_reducible refine Kd.C_drewN ?_ _)|(with_reducible refine Kd.C_drew ?_)));(case side2=>exact HC101_5.out);(case side3=>repeat (first|exact (Kd.C_below HR101_6.out HB.out)|(with_reducible refine Kd.C_alloc ?_ _)|(with_reducible refine Kd.C_drewN ?_ _)|(with_reducible refine Kd.C_drew ?_)));(case side4=>exact HC101_6.out);rintro e w41 ⟨rfl,hb⟩;have n0_:=Aside0.mk (blk_below (g:=gb102) (o:=.cells #[.string ((rd_T53 l0 x3_1).f0),.int .i64 ((rd_T53 l0 x3_1).f1),.int .i64 ((rd_T53 l0 x3_1).f2),.int .i64 ((rd_T53 l0 x3_1).f3),.int .i64 ((rd_T53 l0 x3_1).f4),.slice A101_5 ((rd_T53 l0 x3_1).f5).length c101_5,.slice A101_6 ((rd_T53 l0 x3_1).f6).length c101_6] 53 (0,0)) (by (with_reducible repeat (first|refine blk_drewN ?_ _|refine blk_drew ?_|refine blk_alloc ?_ _));exact BK102.out) hb);have n1_:=Aside0.mk (below_step (by repeat (first|(with_reducible first|exact HB.out|apply below_alloc|apply pw_below_drewN|apply below_drew1|refine below_set ?_ GE102.out)|exact HB.out)) hb);clear BK102;clear HB;have BK102:=n0_;have HB:=n1_;clear n0_ n1_;(try clear hb);(try clear hb2);(try clear hk);(try clear hi)))
               repeat (go_quiet (first|(go_at_call 46;(with_reducible refine (sawmillref19_Green.calls ((rd_T53 l0 x3_1).f0) ((rd_T53 l0 x3_1).f1) ((rd_T53 l0 x3_1).f2) ((rd_T53 l0 x3_1).f3) ((rd_T53 l0 x3_1).f4) _ _ ((rd_T53 l0 x3_1).f5) _ _ ((rd_T53 l0 x3_1).f6) t105 t106 _ ?side1 ?side2 ?side3 ?side4 A32.out).mono ?_);(case side1=>repeat (first|exact (Kd.C_below HR101_5.out HB.out)|(with_reducible refine Kd.C_alloc ?_ _)|(with_reducible refine Kd.C_drewN ?_ _)|(with_reducible refine Kd.C_drew ?_)));(case side2=>exact HC101_5.out);(case side3=>repeat (first|exact (Kd.C_below HR101_6.out HB.out)|(with_reducible refine Kd.C_alloc ?_ _)|(with_reducible refine Kd.C_drewN ?_ _)|(with_reducible refine Kd.C_drew ?_)));(case side4=>exact HC101_6.out);rintro e w39 ⟨rfl,hb⟩;have n0_:=Aside0.mk (blk_below (g:=gb102) (o:=.cells #[.string ((rd_T53 l0 x3_1).f0),.int .i64 ((rd_T53 l0 x3_1).f1),.int .i64 ((rd_T53 l0 x3_1).f2),.int .i64 ((rd_T53 l0 x3_1).f3),.int .i64 ((rd_T53 l0 x3_1).f4),.slice A101_5 ((rd_T53 l0 x3_1).f5).length c101_5,.slice A101_6 ((rd_T53 l0 x3_1).f6).length c101_6] 53 (0,0)) (by (with_reducible repeat (first|refine blk_drewN ?_ _|refine blk_drew ?_|refine blk_alloc ?_ _));exact BK102.out) hb);have n1_:=Aside0.mk (below_step (by repeat (first|(with_reducible first|exact HB.out|apply below_alloc|apply pw_below_drewN|apply below_drew1|refine below_set ?_ GE102.out)|exact HB.out)) hb);clear BK102;clear HB;have BK102:=n0_;have HB:=n1_;clear n0_ n1_;(try clear hb);(try clear hb2);(try clear hk);(try clear hi);have hcz40_0:w39.cell? ⟨gb102,0,none⟩=some (.string ((rd_T53 l0 x3_1).f0)):=(blk_cell BK102.out 0).trans rfl;have hcz40_1:w39.cell? ⟨gb102,1,none⟩=some (.int .i64 ((rd_T53 l0 x3_1).f1)):=(blk_cell BK102.out 1).trans rfl;have hcz40_2:w39.cell? ⟨gb102,2,none⟩=some (.int .i64 ((rd_T53 l0 x3_1).f2)):=(blk_cell BK102.out 2).trans rfl;have hcz40_3:w39.cell? ⟨gb102,3,none⟩=some (.int .i64 ((rd_T53 l0 x3_1).f3)):=(blk_cell BK102.out 3).trans rfl;have hcz40_4:w39.cell? ⟨gb102,4,none⟩=some (.int .i64 ((rd_T53 l0 x3_1).f4)):=(blk_cell BK102.out 4).trans rfl;have hcz40_5:w39.cell? ⟨gb102,5,none⟩=some (.slice A101_5 ((rd_T53 l0 x3_1).f5).length c101_5):=(blk_cell BK102.out 5).trans rfl;have hcz40_6:w39.cell? ⟨gb102,6,none⟩=some (.slice A101_6 ((rd_T53 l0 x3_1).f6).length c101_6):=(blk_cell BK102.out 6).trans rfl;have hfz40_0:=blk_frozen BK102.out 0;have hfz40_1:=blk_frozen BK102.out 1;have hfz40_2:=blk_frozen BK102.out 2;have hfz40_3:=blk_frozen BK102.out 3;have hfz40_4:=blk_frozen BK102.out 4;have hfz40_5:=blk_frozen BK102.out 5;have hfz40_6:=blk_frozen BK102.out 6)|(go_at_call 47;(with_reducible refine (sawmillref19_checkLengths.calls kj14 ((rd_T53 l0 x3_1).f0) ((rd_T53 l0 x3_1).f1) ((rd_T53 l0 x3_1).f2) ((rd_T53 l0 x3_1).f3) ((rd_T53 l0 x3_1).f4) _ _ ((rd_T53 l0 x3_1).f5) _ _ ((rd_T53 l0 x3_1).f6) t107 _ ?side1 ?side2 ?side3 ?side4 A36.out).mono ?_);(case side1=>repeat (first|exact (Kd.C_below HR101_5.out HB.out)|(with_reducible refine Kd.C_alloc ?_ _)|(with_reducible refine Kd.C_drewN ?_ _)|(with_reducible refine Kd.C_drew ?_)));(case side2=>exact HC101_5.out);(case side3=>repeat (first|exact (Kd.C_below HR101_6.out HB.out)|(with_reducible refine Kd.C_alloc ?_ _)|(with_reducible refine Kd.C_drewN ?_ _)|(with_reducible refine Kd.C_drew ?_)));(case side4=>exact HC101_6.out);rintro e w41 ⟨rfl,hb⟩;have n0_:=Aside0.mk (blk_below (g:=gb102) (o:=.cells #[.string ((rd_T53 l0 x3_1).f0),.int .i64 ((rd_T53 l0 x3_1).f1),.int .i64 ((rd_T53 l0 x3_1).f2),.int .i64 ((rd_T53 l0 x3_1).f3),.int .i64 ((rd_T53 l0 x3_1).f4),.slice A101_5 ((rd_T53 l0 x3_1).f5).length c101_5,.slice A101_6 ((rd_T53 l0 x3_1).f6).length c101_6] 53 (0,0)) (by (with_reducible repeat (first|refine blk_drewN ?_ _|refine blk_drew ?_|refine blk_alloc ?_ _));exact BK102.out) hb);have n1_:=Aside0.mk (below_step (by repeat (first|(with_reducible first|exact HB.out|apply below_alloc|apply pw_below_drewN|apply below_drew1|refine below_set ?_ GE102.out)|exact HB.out)) hb);clear BK102;clear HB;have BK102:=n0_;have HB:=n1_;clear n0_ n1_;(try clear hb);(try clear hb2);(try clear hk);(try clear hi)));try go_wp2_with (first|(go_at_call 46;(with_reducible refine (sawmillref19_Green.calls ((rd_T53 l0 x3_1).f0) ((rd_T53 l0 x3_1).f1) ((rd_T53 l0 x3_1).f2) ((rd_T53 l0 x3_1).f3) ((rd_T53 l0 x3_1).f4) _ _ ((rd_T53 l0 x3_1).f5) _ _ ((rd_T53 l0 x3_1).f6) t105 t106 _ ?side1 ?side2 ?side3 ?side4 A32.out).mono ?_);(case side1=>repeat (first|exact (Kd.C_below HR101_5.out HB.out)|(with_reducible refine Kd.C_alloc ?_ _)|(with_reducible refine Kd.C_drewN ?_ _)|(with_reducible refine Kd.C_drew ?_)));(case side2=>exact HC101_5.out);(case side3=>repeat (first|exact (Kd.C_below HR101_6.out HB.out)|(with_reducible refine Kd.C_alloc ?_ _)|(with_reducible refine Kd.C_drewN ?_ _)|(with_reducible refine Kd.C_drew ?_)));(case side4=>exact HC101_6.out);rintro e w39 ⟨rfl,hb⟩;have n0_:=Aside0.mk (blk_below (g:=gb102) (o:=.cells #[.string ((rd_T53 l0 x3_1).f0),.int .i64 ((rd_T53 l0 x3_1).f1),.int .i64 ((rd_T53 l0 x3_1).f2),.int .i64 ((rd_T53 l0 x3_1).f3),.int .i64 ((rd_T53 l0 x3_1).f4),.slice A101_5 ((rd_T53 l0 x3_1).f5).length c101_5,.slice A101_6 ((rd_T53 l0 x3_1).f6).length c101_6] 53 (0,0)) (by (with_reducible repeat (first|refine blk_drewN ?_ _|refine blk_drew ?_|refine blk_alloc ?_ _));exact BK102.out) hb);have n1_:=Aside0.mk (below_step (by repeat (first|(with_reducible first|exact HB.out|apply below_alloc|apply pw_below_drewN|apply below_drew1|refine below_set ?_ GE102.out)|exact HB.out)) hb);clear BK102;clear HB;have BK102:=n0_;have HB:=n1_;clear n0_ n1_;(try clear hb);(try clear hb2);(try clear hk);(try clear hi);have hcz40_0:w39.cell? ⟨gb102,0,none⟩=some (.string ((rd_T53 l0 x3_1).f0)):=(blk_cell BK102.out 0).trans rfl;have hcz40_1:w39.cell? ⟨gb102,1,none⟩=some (.int .i64 ((rd_T53 l0 x3_1).f1)):=(blk_cell BK102.out 1).trans rfl;have hcz40_2:w39.cell? ⟨gb102,2,none⟩=some (.int .i64 ((rd_T53 l0 x3_1).f2)):=(blk_cell BK102.out 2).trans rfl;have hcz40_3:w39.cell? ⟨gb102,3,none⟩=some (.int .i64 ((rd_T53 l0 x3_1).f3)):=(blk_cell BK102.out 3).trans rfl;have hcz40_4:w39.cell? ⟨gb102,4,none⟩=some (.int .i64 ((rd_T53 l0 x3_1).f4)):=(blk_cell BK102.out 4).trans rfl;have hcz40_5:w39.cell? ⟨gb102,5,none⟩=some (.slice A101_5 ((rd_T53 l0 x3_1).f5).length c101_5):=(blk_cell BK102.out 5).trans rfl;have hcz40_6:w39.cell? ⟨gb102,6,none⟩=some (.slice A101_6 ((rd_T53 l0 x3_1).f6).length c101_6):=(blk_cell BK102.out 6).trans rfl;have hfz40_0:=blk_frozen BK102.out 0;have hfz40_1:=blk_frozen BK102.out 1;have hfz40_2:=blk_frozen BK102.out 2;have hfz40_3:=blk_frozen BK102.out 3;have hfz40_4:=blk_frozen BK102.out 4;have hfz40_5:=blk_frozen BK102.out 5;have hfz40_6:=blk_frozen BK102.out 6)|(go_at_call 47;(with_reducible refine (sawmillref19_checkLengths.calls kj14 ((rd_T53 l0 x3_1).f0) ((rd_T53 l0 x3_1).f1) ((rd_T53 l0 x3_1).f2) ((rd_T53 l0 x3_1).f3) ((rd_T53 l0 x3_1).f4) _ _ ((rd_T53 l0 x3_1).f5) _ _ ((rd_T53 l0 x3_1).f6) t107 _ ?side1 ?side2 ?side3 ?side4 A36.out).mono ?_);(case side1=>repeat (first|exact (Kd.C_below HR101_5.out HB.out)|(with_reducible refine Kd.C_alloc ?_ _)|(with_reducible refine Kd.C_drewN ?_ _)|(with_reducible refine Kd.C_drew ?_)));(case side2=>exact HC101_5.out);(case side3=>repeat (first|exact (Kd.C_below HR101_6.out HB.out)|(with_reducible refine Kd.C_alloc ?_ _)|(with_reducible refine Kd.C_drewN ?_ _)|(with_reducible refine Kd.C_drew ?_)));(case side4=>exact HC101_6.out);rintro e w41 ⟨rfl,hb⟩;have n0_:=Aside0.mk (blk_below (g:=gb102) (o:=.cells #[.string ((rd_T53 l0 x3_1).f0),.int .i64 ((rd_T53 l0 x3_1).f1),.int .i64 ((rd_T53 l0 x3_1).f2),.int .i64 ((rd_T53 l0 x3_1).f3),.int .i64 ((rd_T53 l0 x3_1).f4),.slice A101_5 ((rd_T53 l0 x3_1).f5).length c101_5,.slice A101_6 ((rd_T53 l0 x3_1).f6).length c101_6] 53 (0,0)) (by (with_reducible repeat (first|refine blk_drewN ?_ _|refine blk_drew ?_|refine blk_alloc ?_ _));exact BK102.out) hb);have n1_:=Aside0.mk (below_step (by repeat (first|(with_reducible first|exact HB.out|apply below_alloc|apply pw_below_drewN|apply below_drew1|refine below_set ?_ GE102.out)|exact HB.out)) hb);clear BK102;clear HB;have BK102:=n0_;have HB:=n1_;clear n0_ n1_;(try clear hb);(try clear hb2);(try clear hk);(try clear hi))))
               go_roundg kj14
               case measure=>have:=HK1.out;have:=HK2.out;have:=HJ14.out;omega
               case rel=>exact ⟨(wrap64 (x3_1+1)),(by first|rfl|(simp;done)|(simp [*];done)),H',⟨by have:=HK1.out;have:=HK2.out;have:=HJ14.out;omega⟩,⟨by repeat (first|(with_reducible first|exact HB.out|apply below_alloc|apply pw_below_drewN|apply below_drew1|refine below_set ?_ GE102.out)|exact HB.out)⟩⟩
              ·rw [if_neg c37] at H
               have c37b0:(t107 == 0)=false:=beq_eq_false_iff_ne.mpr c37
               have c37b1:(t107 != 0)=true:=bne_iff_ne.mpr c37
               obtain rfl:=Option.some.inj H
               have hcz42_0:wc.cell? ⟨gb102,0,none⟩=some (.string ((rd_T53 l0 x3_1).f0)):=(blk_cell BK102.out 0).trans rfl
               have hcz42_1:wc.cell? ⟨gb102,1,none⟩=some (.int .i64 ((rd_T53 l0 x3_1).f1)):=(blk_cell BK102.out 1).trans rfl
               have hcz42_2:wc.cell? ⟨gb102,2,none⟩=some (.int .i64 ((rd_T53 l0 x3_1).f2)):=(blk_cell BK102.out 2).trans rfl
               have hcz42_3:wc.cell? ⟨gb102,3,none⟩=some (.int .i64 ((rd_T53 l0 x3_1).f3)):=(blk_cell BK102.out 3).trans rfl
               have hcz42_4:wc.cell? ⟨gb102,4,none⟩=some (.int .i64 ((rd_T53 l0 x3_1).f4)):=(blk_cell BK102.out 4).trans rfl
               have hcz42_5:wc.cell? ⟨gb102,5,none⟩=some (.slice A101_5 ((rd_T53 l0 x3_1).f5).length c101_5):=(blk_cell BK102.out 5).trans rfl
               have hcz42_6:wc.cell? ⟨gb102,6,none⟩=some (.slice A101_6 ((rd_T53 l0 x3_1).f6).length c101_6):=(blk_cell BK102.out 6).trans rfl
               have hfz42_0:=blk_frozen BK102.out 0
               have hfz42_1:=blk_frozen BK102.out 1
               have hfz42_2:=blk_frozen BK102.out 2
               have hfz42_3:=blk_frozen BK102.out 3
               have hfz42_4:=blk_frozen BK102.out 4
               have hfz42_5:=blk_frozen BK102.out 5
               have hfz42_6:=blk_frozen BK102.out 6
               go_wp2_with (first|(go_at_call 46;(with_reducible refine (sawmillref19_Green.calls ((rd_T53 l0 x3_1).f0) ((rd_T53 l0 x3_1).f1) ((rd_T53 l0 x3_1).f2) ((rd_T53 l0 x3_1).f3) ((rd_T53 l0 x3_1).f4) _ _ ((rd_T53 l0 x3_1).f5) _ _ ((rd_T53 l0 x3_1).f6) t105 t106 _ ?side1 ?side2 ?side3 ?side4 A32.out).mono ?_);(case side1=>repeat (first|exact (Kd.C_below HR101_5.out HB.out)|(with_reducible refine Kd.C_alloc ?_ _)|(with_reducible refine Kd.C_drewN ?_ _)|(with_reducible refine Kd.C_drew ?_)));(case side2=>exact HC101_5.out);(case side3=>repeat (first|exact (Kd.C_below HR101_6.out HB.out)|(with_reducible refine Kd.C_alloc ?_ _)|(with_reducible refine Kd.C_drewN ?_ _)|(with_reducible refine Kd.C_drew ?_)));(case side4=>exact HC101_6.out);rintro e w43 ⟨rfl,hb⟩;have n0_:=Aside0.mk (blk_below (g:=gb102) (o:=.cells #[.string ((rd_T53 l0 x3_1).f0),.int .i64 ((rd_T53 l0 x3_1).f1),.int .i64 ((rd_T53 l0 x3_1).f2),.int .i64 ((rd_T53 l0 x3_1).f3),.int .i64 ((rd_T53 l0 x3_1).f4),.slice A101_5 ((rd_T53 l0 x3_1).f5).length c101_5,.slice A101_6 ((rd_T53 l0 x3_1).f6).length c101_6] 53 (0,0)) (by (with_reducible repeat (first|refine blk_drewN ?_ _|refine blk_drew ?_|refine blk_alloc ?_ _));exact BK102.out) hb);have n1_:=Aside0.mk (below_step (by repeat (first|(with_reducible first|exact HB.out|apply below_alloc|apply pw_below_drewN|apply below_drew1|refine below_set ?_ GE102.out)|exact HB.out)) hb);clear BK102;clear HB;have BK102:=n0_;have HB:=n1_;clear n0_ n1_;(try clear hb);(try clear hb2);(try clear hk);(try clear hi);have hcz44_0:w43.cell? ⟨gb102,0,none⟩=some (.string ((rd_T53 l0 x3_1).f0)):=(blk_cell BK102.out 0).trans rfl;have hcz44_1:w43.cell? ⟨gb102,1,none⟩=some (.int .i64 ((rd_T53 l0 x3_1).f1)):=(blk_cell BK102.out 1).trans rfl;have hcz44_2:w43.cell? ⟨gb102,2,none⟩=some (.int .i64 ((rd_T53 l0 x3_1).f2)):=(blk_cell BK102.out 2).trans rfl;have hcz44_3:w43.cell? ⟨gb102,3,none⟩=some (.int .i64 ((rd_T53 l0 x3_1).f3)):=(blk_cell BK102.out 3).trans rfl;have hcz44_4:w43.cell? ⟨gb102,4,none⟩=some (.int .i64 ((rd_T53 l0 x3_1).f4)):=(blk_cell BK102.out 4).trans rfl;have hcz44_5:w43.cell? ⟨gb102,5,none⟩=some (.slice A101_5 ((rd_T53 l0 x3_1).f5).length c101_5):=(blk_cell BK102.out 5).trans rfl;have hcz44_6:w43.cell? ⟨gb102,6,none⟩=some (.slice A101_6 ((rd_T53 l0 x3_1).f6).length c101_6):=(blk_cell BK102.out 6).trans rfl;have hfz44_0:=blk_frozen BK102.out 0;have hfz44_1:=blk_frozen BK102.out 1;have hfz44_2:=blk_frozen BK102.out 2;have hfz44_3:=blk_frozen BK102.out 3;have hfz44_4:=blk_frozen BK102.out 4;have hfz44_5:=blk_frozen BK102.out 5;have hfz44_6:=blk_frozen BK102.out 6)|(go_at_call 47;(with_reducible refine (sawmillref19_checkLengths.calls kj14 ((rd_T53 l0 x3_1).f0) ((rd_T53 l0 x3_1).f1) ((rd_T53 l0 x3_1).f2) ((rd_T53 l0 x3_1).f3) ((rd_T53 l0 x3_1).f4) _ _ ((rd_T53 l0 x3_1).f5) _ _ ((rd_T53 l0 x3_1).f6) t107 _ ?side1 ?side2 ?side3 ?side4 A36.out).mono ?_);(case side1=>repeat (first|exact (Kd.C_below HR101_5.out HB.out)|(with_reducible refine Kd.C_alloc ?_ _)|(with_reducible refine Kd.C_drewN ?_ _)|(with_reducible refine Kd.C_drew ?_)));(case side2=>exact HC101_5.out);(case side3=>repeat (first|exact (Kd.C_below HR101_6.out HB.out)|(with_reducible refine Kd.C_alloc ?_ _)|(with_reducible refine Kd.C_drewN ?_ _)|(with_reducible refine Kd.C_drew ?_)));(case side4=>exact HC101_6.out);rintro e w45 ⟨rfl,hb⟩;have n0_:=Aside0.mk (blk_below (g:=gb102) (o:=.cells #[.string ((rd_T53 l0 x3_1).f0),.int .i64 ((rd_T53 l0 x3_1).f1),.int .i64 ((rd_T53 l0 x3_1).f2),.int .i64 ((rd_T53 l0 x3_1).f3),.int .i64 ((rd_T53 l0 x3_1).f4),.slice A101_5 ((rd_T53 l0 x3_1).f5).length c101_5,.slice A101_6 ((rd_T53 l0 x3_1).f6).length c101_6] 53 (0,0)) (by (with_reducible repeat (first|refine blk_drewN ?_ _|refine blk_drew ?_|refine blk_alloc ?_ _));exact BK102.out) hb);have n1_:=Aside0.mk (below_step (by repeat (first|(with_reducible first|exact HB.out|apply below_alloc|apply pw_below_drewN|apply below_drew1|refine below_set ?_ GE102.out)|exact HB.out)) hb);clear BK102;clear HB;have BK102:=n0_;have HB:=n1_;clear n0_ n1_;(try clear hb);(try clear hb2);(try clear hk);(try clear hi)))
               repeat (go_quiet (first|(go_at_call 46;(with_reducible refine (sawmillref19_Green.calls ((rd_T53 l0 x3_1).f0) ((rd_T53 l0 x3_1).f1) ((rd_T53 l0 x3_1).f2) ((rd_T53 l0 x3_1).f3) ((rd_T53 l0 x3_1).f4) _ _ ((rd_T53 l0 x3_1).f5) _ _ ((rd_T53 l0 x3_1).f6) t105 t106 _ ?side1 ?side2 ?side3 ?side4 A32.out).mono ?_);(case side1=>repeat (first|exact (Kd.C_below HR101_5.out HB.out)|(with_reducible refine Kd.C_alloc ?_ _)|(with_reducible refine Kd.C_drewN ?_ _)|(with_reducible refine Kd.C_drew ?_)));(case side2=>exact HC101_5.out);(case side3=>repeat (first|exact (Kd.C_below HR101_6.out HB.out)|(with_reducible refine Kd.C_alloc ?_ _)|(with_reducible refine Kd.C_drewN ?_ _)|(with_reducible refine Kd.C_drew ?_)));(case side4=>exact HC101_6.out);rintro e w43 ⟨rfl,hb⟩;have n0_:=Aside0.mk (blk_below (g:=gb102) (o:=.cells #[.string ((rd_T53 l0 x3_1).f0),.int .i64 ((rd_T53 l0 x3_1).f1),.int .i64 ((rd_T53 l0 x3_1).f2),.int .i64 ((rd_T53 l0 x3_1).f3),.int .i64 ((rd_T53 l0 x3_1).f4),.slice A101_5 ((rd_T53 l0 x3_1).f5).length c101_5,.slice A101_6 ((rd_T53 l0 x3_1).f6).length c101_6] 53 (0,0)) (by (with_reducible repeat (first|refine blk_drewN ?_ _|refine blk_drew ?_|refine blk_alloc ?_ _));exact BK102.out) hb);have n1_:=Aside0.mk (below_step (by repeat (first|(with_reducible first|exact HB.out|apply below_alloc|apply pw_below_drewN|apply below_drew1|refine below_set ?_ GE102.out)|exact HB.out)) hb);clear BK102;clear HB;have BK102:=n0_;have HB:=n1_;clear n0_ n1_;(try clear hb);(try clear hb2);(try clear hk);(try clear hi);have hcz44_0:w43.cell? ⟨gb102,0,none⟩=some (.string ((rd_T53 l0 x3_1).f0)):=(blk_cell BK102.out 0).trans rfl;have hcz44_1:w43.cell? ⟨gb102,1,none⟩=some (.int .i64 ((rd_T53 l0 x3_1).f1)):=(blk_cell BK102.out 1).trans rfl;have hcz44_2:w43.cell? ⟨gb102,2,none⟩=some (.int .i64 ((rd_T53 l0 x3_1).f2)):=(blk_cell BK102.out 2).trans rfl;have hcz44_3:w43.cell? ⟨gb102,3,none⟩=some (.int .i64 ((rd_T53 l0 x3_1).f3)):=(blk_cell BK102.out 3).trans rfl;have hcz44_4:w43.cell? ⟨gb102,4,none⟩=some (.int .i64 ((rd_T53 l0 x3_1).f4)):=(blk_cell BK102.out 4).trans rfl;have hcz44_5:w43.cell? ⟨gb102,5,none⟩=some (.slice A101_5 ((rd_T53 l0 x3_1).f5).length c101_5):=(blk_cell BK102.out 5).trans rfl;have hcz44_6:w43.cell? ⟨gb102,6,none⟩=some (.slice A101_6 ((rd_T53 l0 x3_1).f6).length c101_6):=(blk_cell BK102.out 6).trans rfl;have hfz44_0:=blk_frozen BK102.out 0;have hfz44_1:=blk_frozen BK102.out 1;have hfz44_2:=blk_frozen BK102.out 2;have hfz44_3:=blk_frozen BK102.out 3;have hfz44_4:=blk_frozen BK102.out 4;have hfz44_5:=blk_frozen BK102.out 5;have hfz44_6:=blk_frozen BK102.out 6)|(go_at_call 47;(with_reducible refine (sawmillref19_checkLengths.calls kj14 ((rd_T53 l0 x3_1).f0) ((rd_T53 l0 x3_1).f1) ((rd_T53 l0 x3_1).f2) ((rd_T53 l0 x3_1).f3) ((rd_T53 l0 x3_1).f4) _ _ ((rd_T53 l0 x3_1).f5) _ _ ((rd_T53 l0 x3_1).f6) t107 _ ?side1 ?side2 ?side3 ?side4 A36.out).mono ?_);(case side1=>repeat (first|exact (Kd.C_below HR101_5.out HB.out)|(with_reducible refine Kd.C_alloc ?_ _)|(with_reducible refine Kd.C_drewN ?_ _)|(with_reducible refine Kd.C_drew ?_)));(case side2=>exact HC101_5.out);(case side3=>repeat (first|exact (Kd.C_below HR101_6.out HB.out)|(with_reducible refine Kd.C_alloc ?_ _)|(with_reducible refine Kd.C_drewN ?_ _)|(with_reducible refine Kd.C_drew ?_)));(case side4=>exact HC101_6.out);rintro e w45 ⟨rfl,hb⟩;have n0_:=Aside0.mk (blk_below (g:=gb102) (o:=.cells #[.string ((rd_T53 l0 x3_1).f0),.int .i64 ((rd_T53 l0 x3_1).f1),.int .i64 ((rd_T53 l0 x3_1).f2),.int .i64 ((rd_T53 l0 x3_1).f3),.int .i64 ((rd_T53 l0 x3_1).f4),.slice A101_5 ((rd_T53 l0 x3_1).f5).length c101_5,.slice A101_6 ((rd_T53 l0 x3_1).f6).length c101_6] 53 (0,0)) (by (with_reducible repeat (first|refine blk_drewN ?_ _|refine blk_drew ?_|refine blk_alloc ?_ _));exact BK102.out) hb);have n1_:=Aside0.mk (below_step (by repeat (first|(with_reducible first|exact HB.out|apply below_alloc|apply pw_below_drewN|apply below_drew1|refine below_set ?_ GE102.out)|exact HB.out)) hb);clear BK102;clear HB;have BK102:=n0_;have HB:=n1_;clear n0_ n1_;(try clear hb);(try clear hb2);(try clear hk);(try clear hi)));try go_wp2_with (first|(go_at_call 46;(with_reducible refine (sawmillref19_Green.calls ((rd_T53 l0 x3_1).f0) ((rd_T53 l0 x3_1).f1) ((rd_T53 l0 x3_1).f2) ((rd_T53 l0 x3_1).f3) ((rd_T53 l0 x3_1).f4) _ _ ((rd_T53 l0 x3_1).f5) _ _ ((rd_T53 l0 x3_1).f6) t105 t106 _ ?side1 ?side2 ?side3 ?side4 A32.out).mono ?_);(case side1=>repeat (first|exact (Kd.C_below HR101_5.out HB.out)|(with_reducible refine Kd.C_alloc ?_ _)|(with_reducible refine Kd.C_drewN ?_ _)|(with_reducible refine Kd.C_drew ?_)));(case side2=>exact HC101_5.out);(case side3=>repeat (first|exact (Kd.C_below HR101_6.out HB.out)|(with_reducible refine Kd.C_alloc ?_ _)|(with_reducible refine Kd.C_drewN ?_ _)|(with_reducible refine Kd.C_drew ?_)));(case side4=>exact HC101_6.out);rintro e w43 ⟨rfl,hb⟩;have n0_:=Aside0.mk (blk_below (g:=gb102) (o:=.cells #[.string ((rd_T53 l0 x3_1).f0),.int .i64 ((rd_T53 l0 x3_1).f1),.int .i64 ((rd_T53 l0 x3_1).f2),.int .i64 ((rd_T53 l0 x3_1).f3),.int .i64 ((rd_T53 l0 x3_1).f4),.slice A101_5 ((rd_T53 l0 x3_1).f5).length c101_5,.slice A101_6 ((rd_T53 l0 x3_1).f6).length c101_6] 53 (0,0)) (by (with_reducible repeat (first|refine blk_drewN ?_ _|refine blk_drew ?_|refine blk_alloc ?_ _));exact BK102.out) hb);have n1_:=Aside0.mk (below_step (by repeat (first|(with_reducible first|exact HB.out|apply below_alloc|apply pw_below_drewN|apply below_drew1|refine below_set ?_ GE102.out)|exact HB.out)) hb);clear BK102;clear HB;have BK102:=n0_;have HB:=n1_;clear n0_ n1_;(try clear hb);(try clear hb2);(try clear hk);(try clear hi);have hcz44_0:w43.cell? ⟨gb102,0,none⟩=some (.string ((rd_T53 l0 x3_1).f0)):=(blk_cell BK102.out 0).trans rfl;have hcz44_1:w43.cell? ⟨gb102,1,none⟩=some (.int .i64 ((rd_T53 l0 x3_1).f1)):=(blk_cell BK102.out 1).trans rfl;have hcz44_2:w43.cell? ⟨gb102,2,none⟩=some (.int .i64 ((rd_T53 l0 x3_1).f2)):=(blk_cell BK102.out 2).trans rfl;have hcz44_3:w43.cell? ⟨gb102,3,none⟩=some (.int .i64 ((rd_T53 l0 x3_1).f3)):=(blk_cell BK102.out 3).trans rfl;have hcz44_4:w43.cell? ⟨gb102,4,none⟩=some (.int .i64 ((rd_T53 l0 x3_1).f4)):=(blk_cell BK102.out 4).trans rfl;have hcz44_5:w43.cell? ⟨gb102,5,none⟩=some (.slice A101_5 ((rd_T53 l0 x3_1).f5).length c101_5):=(blk_cell BK102.out 5).trans rfl;have hcz44_6:w43.cell? ⟨gb102,6,none⟩=some (.slice A101_6 ((rd_T53 l0 x3_1).f6).length c101_6):=(blk_cell BK102.out 6).trans rfl;have hfz44_0:=blk_frozen BK102.out 0;have hfz44_1:=blk_frozen BK102.out 1;have hfz44_2:=blk_frozen BK102.out 2;have hfz44_3:=blk_frozen BK102.out 3;have hfz44_4:=blk_frozen BK102.out 4;have hfz44_5:=blk_frozen BK102.out 5;have hfz44_6:=blk_frozen BK102.out 6)|(go_at_call 47;(with_reducible refine (sawmillref19_checkLengths.calls kj14 ((rd_T53 l0 x3_1).f0) ((rd_T53 l0 x3_1).f1) ((rd_T53 l0 x3_1).f2) ((rd_T53 l0 x3_1).f3) ((rd_T53 l0 x3_1).f4) _ _ ((rd_T53 l0 x3_1).f5) _ _ ((rd_T53 l0 x3_1).f6) t107 _ ?side1 ?side2 ?side3 ?side4 A36.out).mono ?_);(case side1=>repeat (first|exact (Kd.C_below HR101_5.out HB.out)|(with_reducible refine Kd.C_alloc ?_ _)|(with_reducible refine Kd.C_drewN ?_ _)|(with_reducible refine Kd.C_drew ?_)));(case side2=>exact HC101_5.out);(case side3=>repeat (first|exact (Kd.C_below HR101_6.out HB.out)|(with_reducible refine Kd.C_alloc ?_ _)|(with_reducible refine Kd.C_drewN ?_ _)|(with_reducible refine Kd.C_drew ?_)));(case side4=>exact HC101_6.out);rintro e w45 ⟨rfl,hb⟩;have n0_:=Aside0.mk (blk_below (g:=gb102) (o:=.cells #[.string ((rd_T53 l0 x3_1).f0),.int .i64 ((rd_T53 l0 x3_1).f1),.int .i64 ((rd_T53 l0 x3_1).f2),.int .i64 ((rd_T53 l0 x3_1).f3),.int .i64 ((rd_T53 l0 x3_1).f4),.slice A101_5 ((rd_T53 l0 x3_1).f5).length c101_5,.slice A101_6 ((rd_T53 l0 x3_1).f6).length c101_6] 53 (0,0)) (by (with_reducible repeat (first|refine blk_drewN ?_ _|refine blk_drew ?_|refine blk_alloc ?_ _));exact BK102.out) hb);have n1_:=Aside0.mk (below_step (by repeat (first|(with_reducible first|exact HB.out|apply below_alloc|apply pw_below_drewN|apply below_drew1|refine below_set ?_ GE102.out)|exact HB.out)) hb);clear BK102;clear HB;have BK102:=n0_;have HB:=n1_;clear n0_ n1_;(try clear hb);(try clear hb2);(try clear hk);(try clear hi))))
               go_ret
               exact ⟨by first|rfl|(simp [errW_none,errW_some]<;>rfl)|(simp [*,errW_none,errW_some]<;>rfl),by repeat (first|(with_reducible first|exact HB.out|apply below_alloc|apply pw_below_drewN|apply below_drew1|refine below_set ?_ GE102.out)|exact HB.out)⟩
      ·replace c6:=Bool.eq_false_iff.mpr c6
       subst c6
       have H1:(some 6)=some r:=by rw [if_neg (show ¬ (false=true) by decide)] at H;exact H
       clear H
       have H:=H1
       clear H1
       obtain rfl:=Option.some.inj H
       have p101:0≤(x3_1:Int):=of_decide_eq_true (by first|(with_reducible assumption)|assumption)
       have q101:x3_1 < (l0.length:Int):=of_decide_eq_true (by first|(with_reducible assumption)|assumption)
       obtain ⟨ad101,A101_5,c101_5,A101_6,c101_6,e101,hx101_0,hx101_1,hx101_2,hx101_3,hx101_4,hx101_5,hx101_6,hl101_5,hi101_5,hl101_6,hi101_6⟩:=at_T53 HR0.out x3_1 p101 q101
       cases e101
       replace hx101_0:=(HB.out.cell (World.block_lt_of_cell? w _ hx101_0)).trans hx101_0
       replace hx101_1:=(HB.out.cell (World.block_lt_of_cell? w _ hx101_1)).trans hx101_1
       replace hx101_2:=(HB.out.cell (World.block_lt_of_cell? w _ hx101_2)).trans hx101_2
       replace hx101_3:=(HB.out.cell (World.block_lt_of_cell? w _ hx101_3)).trans hx101_3
       replace hx101_4:=(HB.out.cell (World.block_lt_of_cell? w _ hx101_4)).trans hx101_4
       replace hx101_5:=(HB.out.cell (World.block_lt_of_cell? w _ hx101_5)).trans hx101_5
       replace hx101_6:=(HB.out.cell (World.block_lt_of_cell? w _ hx101_6)).trans hx101_6
       have HR101_5:=Aside0.mk hi101_5
       have HC101_5:=Aside0.mk hl101_5
       clear hi101_5 hl101_5
       have HR101_6:=Aside0.mk hi101_6
       have HC101_6:=Aside0.mk hl101_6
       clear hi101_6 hl101_6
       replace p101:=eq_true p101
       replace q101:=eq_true q101
       go_wp2_with (first|((with_reducible refine gate_dst (N:=4) rfl ?_);refine box_event ?hg (N:=4) ?hd (cs:=#[.string (⟨#[]⟩:ByteArray),.int .i64 0,.int .i64 0,.int .i64 0,.int .i64 0,.slice none 0 0,.slice none 0 0]) (t:=53) ?hr ?_;(case hd=>rfl);(case hg=>rfl);(case hr=>first|(go_simp;done)|(go_simp;rfl));intro gb102 hg w46 hbox hb;have n0_:=Aside0.mk (below_step (by repeat (first|(with_reducible first|exact HB.out|apply below_alloc|apply pw_below_drewN|apply below_drew1)|exact HB.out)) hb);have n1_:=Aside0.mk (hbox);have n2_:=Aside0.mk ((by rw [hg];exact (below_size (by repeat (first|(with_reducible first|exact HB.out|apply below_alloc|apply pw_below_drewN|apply below_drew1)|exact HB.out))):w.heap.size≤gb102));have n3_:=Aside0.mk ((by rw [hg];exact (below_size (by repeat (first|(with_reducible first|exact HB.out|apply below_alloc|apply pw_below_drewN|apply below_drew1)|exact HB.out))):w.heap.size≤gb102));clear HB;have HB:=n0_;have BK102:=n1_;have GW102:=n2_;have GE102:=n3_;clear n0_ n1_ n2_ n3_;clear hb hbox hg;have hcz47_0:w46.cell? ⟨gb102,0,none⟩=some (.string (⟨#[]⟩:ByteArray)):=(blk_cell BK102.out 0).trans rfl;have hcz47_1:w46.cell? ⟨gb102,1,none⟩=some (.int .i64 0):=(blk_cell BK102.out 1).trans rfl;have hcz47_2:w46.cell? ⟨gb102,2,none⟩=some (.int .i64 0):=(blk_cell BK102.out 2).trans rfl;have hcz47_3:w46.cell? ⟨gb102,3,none⟩=some (.int .i64 0):=(blk_cell BK102.out 3).trans rfl;have hcz47_4:w46.cell? ⟨gb102,4,none⟩=some (.int .i64 0):=(blk_cell BK102.out 4).trans rfl;have hcz47_5:w46.cell? ⟨gb102,5,none⟩=some (.slice none 0 0):=(blk_cell BK102.out 5).trans rfl;have hcz47_6:w46.cell? ⟨gb102,6,none⟩=some (.slice none 0 0):=(blk_cell BK102.out 6).trans rfl;have hfz47_0:=blk_frozen BK102.out 0;have hfz47_1:=blk_frozen BK102.out 1;have hfz47_2:=blk_frozen BK102.out 2;have hfz47_3:=blk_frozen BK102.out 3;have hfz47_4:=blk_frozen BK102.out 4;have hfz47_5:=blk_frozen BK102.out 5;have hfz47_6:=blk_frozen BK102.out 6)|(go_at_call 45;(with_reducible refine (sawmillref02_IsName.calls k1 ((rd_T53 l0 x3_1).f0) false _ A5.out).mono ?_);rintro e w' ⟨rfl,⟨nd,rfl⟩⟩;(try first|exact ⟨rfl,_,World.drewN_drewN _ _ _⟩|exact ⟨rfl,_,Eq.trans (World.drewN_drewN _ _ _) (congrArg (World.drewN _) (Nat.add_assoc _ _ _))⟩)))
       repeat (go_quiet (first|((with_reducible refine gate_dst (N:=4) rfl ?_);refine box_event ?hg (N:=4) ?hd (cs:=#[.string (⟨#[]⟩:ByteArray),.int .i64 0,.int .i64 0,.int .i64 0,.int .i64 0,.slice none 0 0,.slice none 0 0]) (t:=53) ?hr ?_;(case hd=>rfl);(case hg=>rfl);(case hr=>first|(go_simp;done)|(go_simp;rfl));intro gb102 hg w46 hbox hb;have n0_:=Aside0.mk (below_step (by repeat (first|(with_reducible first|exact HB.out|apply below_alloc|apply pw_below_drewN|apply below_drew1)|exact HB.out)) hb);have n1_:=Aside0.mk (hbox);have n2_:=Aside0.mk ((by rw [hg];exact (below_size (by repeat (first|(with_reducible first|exact HB.out|apply below_alloc|apply pw_below_drewN|apply below_drew1)|exact HB.out))):w.heap.size≤gb102));have n3_:=Aside0.mk ((by rw [hg];exact (below_size (by repeat (first|(with_reducible first|exact HB.out|apply below_alloc|apply pw_below_drewN|apply below_drew1)|exact HB.out))):w.heap.size≤gb102));clear HB;have HB:=n0_;have BK102:=n1_;have GW102:=n2_;have GE102:=n3_;clear n0_ n1_ n2_ n3_;clear hb hbox hg;have hcz47_0:w46.cell? ⟨gb102,0,none⟩=some (.string (⟨#[]⟩:ByteArray)):=(blk_cell BK102.out 0).trans rfl;have hcz47_1:w46.cell? ⟨gb102,1,none⟩=some (.int .i64 0):=(blk_cell BK102.out 1).trans rfl;have hcz47_2:w46.cell? ⟨gb102,2,none⟩=some (.int .i64 0):=(blk_cell BK102.out 2).trans rfl;have hcz47_3:w46.cell? ⟨gb102,3,none⟩=some (.int .i64 0):=(blk_cell BK102.out 3).trans rfl;have hcz47_4:w46.cell? ⟨gb102,4,none⟩=some (.int .i64 0):=(blk_cell BK102.out 4).trans rfl;have hcz47_5:w46.cell? ⟨gb102,5,none⟩=some (.slice none 0 0):=(blk_cell BK102.out 5).trans rfl;have hcz47_6:w46.cell? ⟨gb102,6,none⟩=some (.slice none 0 0):=(blk_cell BK102.out 6).trans rfl;have hfz47_0:=blk_frozen BK102.out 0;have hfz47_1:=blk_frozen BK102.out 1;have hfz47_2:=blk_frozen BK102.out 2;have hfz47_3:=blk_frozen BK102.out 3;have hfz47_4:=blk_frozen BK102.out 4;have hfz47_5:=blk_frozen BK102.out 5;have hfz47_6:=blk_frozen BK102.out 6)|(go_at_call 45;(with_reducible refine (sawmillref02_IsName.calls k1 ((rd_T53 l0 x3_1).f0) false _ A5.out).mono ?_);rintro e w' ⟨rfl,⟨nd,rfl⟩⟩;(try first|exact ⟨rfl,_,World.drewN_drewN _ _ _⟩|exact ⟨rfl,_,Eq.trans (World.drewN_drewN _ _ _) (congrArg (World.drewN _) (Nat.add_assoc _ _ _))⟩)));try go_wp2_with (first|((with_reducible refine gate_dst (N:=4) rfl ?_);refine box_event ?hg (N:=4) ?hd (cs:=#[.string (⟨#[]⟩:ByteArray),.int .i64 0,.int .i64 0,.int .i64 0,.int .i64 0,.slice none 0 0,.slice none 0 0]) (t:=53) ?hr ?_;(case hd=>rfl);(case hg=>rfl);(case hr=>first|(go_simp;done)|(go_simp;rfl));intro gb102 hg w46 hbox hb;have n0_:=Aside0.mk (below_step (by repeat (first|(with_reducible first|exact HB.out|apply below_alloc|apply pw_below_drewN|apply below_drew1)|exact HB.out)) hb);have n1_:=Aside0.mk (hbox);have n2_:=Aside0.mk ((by rw [hg];exact (below_size (by repeat (first|(with_reducible first|exact HB.out|apply below_alloc|apply pw_below_drewN|apply below_drew1)|exact HB.out))):w.heap.size≤gb102));have n3_:=Aside0.mk ((by rw [hg];exact (below_size (by repeat (first|(with_reducible first|exact HB.out|apply below_alloc|apply pw_below_drewN|apply below_drew1)|exact HB.out))):w.heap.size≤gb102));clear HB;have HB:=n0_;have BK102:=n1_;have GW102:=n2_;have GE102:=n3_;clear n0_ n1_ n2_ n3_;clear hb hbox hg;have hcz47_0:w46.cell? ⟨gb102,0,none⟩=some (.string (⟨#[]⟩:ByteArray)):=(blk_cell BK102.out 0).trans rfl;have hcz47_1:w46.cell? ⟨gb102,1,none⟩=some (.int .i64 0):=(blk_cell BK102.out 1).trans rfl;have hcz47_2:w46.cell? ⟨gb102,2,none⟩=some (.int .i64 0):=(blk_cell BK102.out 2).trans rfl;have hcz47_3:w46.cell? ⟨gb102,3,none⟩=some (.int .i64 0):=(blk_cell BK102.out 3).trans rfl;have hcz47_4:w46.cell? ⟨gb102,4,none⟩=some (.int .i64 0):=(blk_cell BK102.out 4).trans rfl;have hcz47_5:w46.cell? ⟨gb102,5,none⟩=some (.slice none 0 0):=(blk_cell BK102.out 5).trans rfl;have hcz47_6:w46.cell? ⟨gb102,6,none⟩=some (.slice none 0 0):=(blk_cell BK102.out 6).trans rfl;have hfz47_0:=blk_frozen BK102.out 0;have hfz47_1:=blk_frozen BK102.out 1;have hfz47_2:=blk_frozen BK102.out 2;have hfz47_3:=blk_frozen BK102.out 3;have hfz47_4:=blk_frozen BK102.out 4;have hfz47_5:=blk_frozen BK102.out 5;have hfz47_6:=blk_frozen BK102.out 6)|(go_at_call 45;(with_reducible refine (sawmillref02_IsName.calls k1 ((rd_T53 l0 x3_1).f0) false _ A5.out).mono ?_);rintro e w' ⟨rfl,⟨nd,rfl⟩⟩;(try first|exact ⟨rfl,_,World.drewN_drewN _ _ _⟩|exact ⟨rfl,_,Eq.trans (World.drewN_drewN _ _ _) (congrArg (World.drewN _) (Nat.add_assoc _ _ _))⟩))))
       go_ret
       exact ⟨by first|rfl|(simp [errW_none,errW_some]<;>rfl)|(simp [*,errW_none,errW_some]<;>rfl),by repeat (first|(with_reducible first|exact HB.out|apply below_alloc|apply pw_below_drewN|apply below_drew1|refine below_set ?_ GE102.out)|exact HB.out)⟩
     ·rw [if_neg c4] at H
      exact absurd H (by simp)
    ·rw [if_neg c3] at H
     have c3b0:decide (x3_1 < (l0.length:Int))=false:=decide_eq_false c3
     clear c3
     obtain rfl:=Option.some.inj H
     go_wp2
     repeat (go_quiet (fail);try go_wp2)
     go_ret
     exact ⟨by first|rfl|(simp [errW_none,errW_some]<;>rfl)|(simp [*,errW_none,errW_some]<;>rfl),by repeat (first|(with_reducible first|exact HB.out|apply below_alloc|apply pw_below_drewN|apply below_drew1)|exact HB.out)⟩
end Go.Proofs.YtojkjhaobjidlaaDoor.P
namespace Go.Proofs.YtojkjhaobjidlaaDoor.P
open Go.RowKit Go.Proofs.YtojkjhaobjidlaaDoorW.PrintWords Go.Proofs.YtojkjhaobjidlaaDoorW.PrintLast Go.Proofs.YtojkjhaobjidlaaDoorW.PrintMore
attribute [local go_sem] max2_int min2_int max_two min_two max_three min_three max_four min_four
attribute [local go_sem] cell_twice
set_option linter.unusedVariables false
set_option linter.unusedSimpArgs false
def sawmillref19_Price.l0:Nat→Int→Int→ByteArray→Int→Int→Int→Int→List Int→List Int→Option (Int × Bool)
 | 0,_,_,_,_,_,_,_,_,_=>none
 | k+1,x1,x6,x102000,x102001,x102002,x102003,x102004,x102005,x102006=>if x6 < (x102005.length:Int) then (if 0≤x6 then (if (rd x102005 x6)=x1 then (if x6 ≥ (x102006.length:Int) then (some (0,false)) else (if x6 < (x102006.length:Int) then (some (rd x102006 x6,true)) else (none))) else (sawmillref19_Price.l0 k x1 (wrap64 (x6+1)) x102000 x102001 x102002 x102003 x102004 x102005 x102006)) else (none)) else (some (0,false))
def sawmillref19_Price.f (k:Nat) (a0_0:ByteArray) (a0_1:Int) (a0_2:Int) (a0_3:Int) (a0_4:Int) (l0_5:List Int) (l0_6:List Int) (a1:Int):Option (Int × Bool):=sawmillref19_Price.l0 k a1 0 a0_0 a0_1 a0_2 a0_3 a0_4 l0_5 l0_6
theorem sawmillref19_Price.mono_l:∀ k,(∀ y0 y1 y2 y3 y4 y5 y6 y7 y8,LeO (sawmillref19_Price.l0 k y0 y1 y2 y3 y4 y5 y6 y7 y8) (sawmillref19_Price.l0 (k+1) y0 y1 y2 y3 y4 y5 y6 y7 y8))
 | 0=>fun _ _ _ _ _ _ _ _ _ r h=>by simp [sawmillref19_Price.l0] at h
 | k+1=>by
  have ih0:=sawmillref19_Price.mono_l k
  ·intro y0 y1 y2 y3 y4 y5 y6 y7 y8
   unfold sawmillref19_Price.l0
   repeat' first
   | (with_reducible exact ih0 _ _ _ _ _ _ _ _ _)
   | (with_reducible exact LeO.refl _)
   | (with_reducible exact LeO.none _)
   | (with_reducible refine LeO.ite ?_ ?_)
   | (with_reducible refine LeO.bind ?_ (fun _=>?_))
   | exact ih0 _ _ _ _ _ _ _ _ _
   | exact LeO.none _
   | refine LeO.ite ?_ ?_
   | refine LeO.bind ?_ (fun _=>?_)
theorem sawmillref19_Price.mono:∀ a0 a1 a2 a3 a4 a5 a6 a7 k,LeO (sawmillref19_Price.f k a0 a1 a2 a3 a4 a5 a6 a7) (sawmillref19_Price.f (k+1) a0 a1 a2 a3 a4 a5 a6 a7):=by
 intro a0 a1 a2 a3 a4 a5 a6 a7 k
 have ih0:=sawmillref19_Price.mono_l k
 unfold sawmillref19_Price.f
 repeat' first
   | (with_reducible exact ih0 _ _ _ _ _ _ _ _ _)
   | (with_reducible exact LeO.refl _)
   | (with_reducible exact LeO.none _)
   | (with_reducible refine LeO.ite ?_ ?_)
   | (with_reducible refine LeO.bind ?_ (fun _=>?_))
   | exact ih0 _ _ _ _ _ _ _ _ _
   | exact LeO.none _
   | refine LeO.ite ?_ ?_
   | refine LeO.bind ?_ (fun _=>?_)
set_option maxHeartbeats 8000000 in
set_option maxRecDepth 100000 in
theorem sawmillref19_Price.calls (k:Nat) (a0_0:ByteArray) (a0_1:Int) (a0_2:Int) (a0_3:Int) (a0_4:Int) (A0_5:Option Addr) (c0_5:Nat) (l0_5:List Int) (A0_6:Option Addr) (c0_6:Nat) (l0_6:List Int) (a1:Int) (r1:Int) (r2:Bool) (w:World) (hr0_5:Kd.C (Kd.int .i64) w A0_5 l0_5.length l0_5) (hc0_5:l0_5.length≤c0_5) (hr0_6:Kd.C (Kd.int .i64) w A0_6 l0_6.length l0_6) (hc0_6:l0_6.length≤c0_6) (h:sawmillref19_Price.f k a0_0 a0_1 a0_2 a0_3 a0_4 l0_5 l0_6 a1=some (r1,r2)) :
  Calls Tryd.prog 32 #[.agg #[.string a0_0,.int .i64 a0_1,.int .i64 a0_2,.int .i64 a0_3,.int .i64 a0_4,.slice A0_5 l0_5.length c0_5,.slice A0_6 l0_6.length c0_6],.int .i64 a1] w fun e w'=>e=.returned (.tuple #[.int .i64 r1,.bool r2])∧Below w.heap.size w w':=by
 have hu53:=Tryd.underlying53
 have HR0_5:=Aside0.mk hr0_5
 have HC0_5:=Aside0.mk hc0_5
 clear hr0_5 hc0_5
 have HR0_6:=Aside0.mk hr0_6
 have HC0_6:=Aside0.mk hc0_6
 clear hr0_6 hc0_6
 have HB:=Aside0.mk (Below.refl w.heap.size w)
 have H:(sawmillref19_Price.l0 k a1 0 a0_0 a0_1 a0_2 a0_3 a0_4 l0_5 l0_6)=some (r1,r2):=h
 clear h
 have H':=Aside0.mk H
 clear H
 go_enter Tryd.func32,Tryd.ntmps32
 go_wp2_with (first|((with_reducible refine gate_dst (N:=2) rfl ?_);refine box_event ?hg (N:=2) ?hd (cs:=#[.string a0_0,.int .i64 a0_1,.int .i64 a0_2,.int .i64 a0_3,.int .i64 a0_4,.slice A0_5 l0_5.length c0_5,.slice A0_6 l0_6.length c0_6]) (t:=53) ?hr ?_;(case hd=>rfl);(case hg=>rfl);(case hr=>first|(go_simp;done)|(go_simp;rfl));intro gb101 hg w3 hbox hb;have n0_:=Aside0.mk (below_step (by repeat (first|(with_reducible first|exact HB.out|apply below_alloc|apply pw_below_drewN|apply below_drew1)|exact HB.out)) hb);have n1_:=Aside0.mk (hbox);have n2_:=Aside0.mk ((by rw [hg];exact (below_size (by repeat (first|(with_reducible first|exact HB.out|apply below_alloc|apply pw_below_drewN|apply below_drew1)|exact HB.out))):w.heap.size≤gb101));have n3_:=Aside0.mk ((by rw [hg];exact (below_size (by repeat (first|(with_reducible first|exact HB.out|apply below_alloc|apply pw_below_drewN|apply below_drew1)|exact HB.out))):w.heap.size≤gb101));clear HB;have HB:=n0_;have BK101:=n1_;have GW101:=n2_;have GE101:=n3_;clear n0_ n1_ n2_ n3_;clear hb hbox hg))
 go_loopg [6] k (fun kq v6 w'=>∃ (x6_1:Int),v6=.int .i64 x6_1∧Aside0 (sawmillref19_Price.l0 kq a1 x6_1 a0_0 a0_1 a0_2 a0_3 a0_4 l0_5 l0_6=some (r1,r2))∧Aside0 (kq≤k)∧Aside0 (w'.heap[gb101]?=some (.cells #[.string a0_0,.int .i64 a0_1,.int .i64 a0_2,.int .i64 a0_3,.int .i64 a0_4,(.slice A0_5 l0_5.length c0_5),(.slice A0_6 l0_6.length c0_6)] 53 (0,0)))∧Aside0 (Below w.heap.size w w'))
 case atStart=>exact ⟨(0),(by first|rfl|(simp;done)|(simp [*];done)),H',⟨Nat.le_refl _⟩,⟨by (with_reducible repeat (first|refine blk_drewN ?_ _|refine blk_drew ?_|refine blk_alloc ?_ _));exact BK101.out⟩,⟨by repeat (first|(with_reducible first|exact HB.out|apply below_alloc|apply pw_below_drewN|apply below_drew1|refine below_set ?_ GE101.out)|exact HB.out)⟩⟩
 case round =>
  clear H'
  try clear p2
  try clear c3
  obtain ⟨x6_1,rfl,HA,HK1,BK101,HB⟩:=hrel
  cases gk with
  | zero=>exact absurd HA.out (by simp [sawmillref19_Price.l0])
  | succ k1 =>
   have H:=HA.out
   clear HA
   simp only [sawmillref19_Price.l0] at H
   by_cases c4:x6_1 < (l0_5.length:Int)
   ·rw [if_pos c4] at H
    have c4b0:decide (x6_1 < (l0_5.length:Int))=true:=decide_eq_true c4
    clear c4
    by_cases c5:0≤x6_1
    ·rw [if_pos c5] at H
     have c5b0:decide (0≤x6_1)=true:=decide_eq_true c5
     clear c5
     by_cases c6:(rd l0_5 x6_1)=a1
     ·rw [if_pos c6] at H
      have c6b0:((rd l0_5 x6_1) == a1)=true:=beq_iff_eq.mpr c6
      have c6b1:((rd l0_5 x6_1) != a1)=false:=bne_eq_false_iff_eq.mpr c6
      clear c6
      by_cases c7:x6_1 ≥ (l0_6.length:Int)
      ·rw [if_pos c7] at H
       have c7b0:decide ((l0_6.length:Int)≤x6_1)=true:=decide_eq_true c7
       clear c7
       simp only [Option.some.injEq,Prod.mk.injEq] at H
       obtain ⟨rfl,rfl⟩:=H
       have hcz8_0:wr.cell? ⟨gb101,0,none⟩=some (.string a0_0):=(blk_cell BK101.out 0).trans rfl
       have hcz8_1:wr.cell? ⟨gb101,1,none⟩=some (.int .i64 a0_1):=(blk_cell BK101.out 1).trans rfl
       have hcz8_2:wr.cell? ⟨gb101,2,none⟩=some (.int .i64 a0_2):=(blk_cell BK101.out 2).trans rfl
       have hcz8_3:wr.cell? ⟨gb101,3,none⟩=some (.int .i64 a0_3):=(blk_cell BK101.out 3).trans rfl
       have hcz8_4:wr.cell? ⟨gb101,4,none⟩=some (.int .i64 a0_4):=(blk_cell BK101.out 4).trans rfl
       have hcz8_5:wr.cell? ⟨gb101,5,none⟩=some (.slice A0_5 l0_5.length c0_5):=(blk_cell BK101.out 5).trans rfl
       have hcz8_6:wr.cell? ⟨gb101,6,none⟩=some (.slice A0_6 l0_6.length c0_6):=(blk_cell BK101.out 6).trans rfl
       have hfz8_0:=blk_frozen BK101.out 0
       have hfz8_1:=blk_frozen BK101.out 1
       have hfz8_2:=blk_frozen BK101.out 2
       have hfz8_3:=blk_frozen BK101.out 3
       have hfz8_4:=blk_frozen BK101.out 4
       have hfz8_5:=blk_frozen BK101.out 5
       have hfz8_6:=blk_frozen BK101.out 6
       have p102:0≤(x6_1:Int):=of_decide_eq_true (by first|(with_reducible assumption)|assumption)
       have q102:x6_1 < (l0_5.length:Int):=of_decide_eq_true (by first|(with_reducible assumption)|assumption)
       obtain ⟨ad102,e102,hx102_0⟩:=Kd.at_int HR0_5.out x6_1 p102 q102
       cases e102
       replace hx102_0:=(HB.out.cell (World.block_lt_of_cell? w _ hx102_0)).trans hx102_0
       replace p102:=eq_true p102
       replace q102:=eq_true q102
       go_wp2
       go_ret2
       exact ⟨by first|rfl|(simp [errW_none,errW_some]<;>rfl)|(simp [*,errW_none,errW_some]<;>rfl),by repeat (first|(with_reducible first|exact HB.out|apply below_alloc|apply pw_below_drewN|apply below_drew1|refine below_set ?_ GE101.out)|exact HB.out)⟩
      ·rw [if_neg c7] at H
       have c7b0:decide ((l0_6.length:Int)≤x6_1)=false:=decide_eq_false c7
       clear c7
       by_cases c9:x6_1 < (l0_6.length:Int)
       ·rw [if_pos c9] at H
        have c9b0:decide (x6_1 < (l0_6.length:Int))=true:=decide_eq_true c9
        clear c9
        simp only [Option.some.injEq,Prod.mk.injEq] at H
        obtain ⟨rfl,rfl⟩:=H
        have hcz10_0:wr.cell? ⟨gb101,0,none⟩=some (.string a0_0):=(blk_cell BK101.out 0).trans rfl
        have hcz10_1:wr.cell? ⟨gb101,1,none⟩=some (.int .i64 a0_1):=(blk_cell BK101.out 1).trans rfl
        have hcz10_2:wr.cell? ⟨gb101,2,none⟩=some (.int .i64 a0_2):=(blk_cell BK101.out 2).trans rfl
        have hcz10_3:wr.cell? ⟨gb101,3,none⟩=some (.int .i64 a0_3):=(blk_cell BK101.out 3).trans rfl
        have hcz10_4:wr.cell? ⟨gb101,4,none⟩=some (.int .i64 a0_4):=(blk_cell BK101.out 4).trans rfl
        have hcz10_5:wr.cell? ⟨gb101,5,none⟩=some (.slice A0_5 l0_5.length c0_5):=(blk_cell BK101.out 5).trans rfl
        have hcz10_6:wr.cell? ⟨gb101,6,none⟩=some (.slice A0_6 l0_6.length c0_6):=(blk_cell BK101.out 6).trans rfl
        have hfz10_0:=blk_frozen BK101.out 0
        have hfz10_1:=blk_frozen BK101.out 1
        have hfz10_2:=blk_frozen BK101.out 2
        have hfz10_3:=blk_frozen BK101.out 3
        have hfz10_4:=blk_frozen BK101.out 4
        have hfz10_5:=blk_frozen BK101.out 5
        have hfz10_6:=blk_frozen BK101.out 6
        have p102:0≤(x6_1:Int):=of_decide_eq_true (by first|(with_reducible assumption)|assumption)
        have q102:x6_1 < (l0_5.length:Int):=of_decide_eq_true (by first|(with_reducible assumption)|assumption)
        obtain ⟨ad102,e102,hx102_0⟩:=Kd.at_int HR0_5.out x6_1 p102 q102
        cases e102
        replace hx102_0:=(HB.out.cell (World.block_lt_of_cell? w _ hx102_0)).trans hx102_0
        replace p102:=eq_true p102
        replace q102:=eq_true q102
        have p103:0≤(x6_1:Int):=of_decide_eq_true (by first|(with_reducible assumption)|assumption)
        have q103:x6_1 < (l0_6.length:Int):=of_decide_eq_true (by first|(with_reducible assumption)|assumption)
        obtain ⟨ad103,e103,hx103_0⟩:=Kd.at_int HR0_6.out x6_1 p103 q103
        cases e103
        replace hx103_0:=(HB.out.cell (World.block_lt_of_cell? w _ hx103_0)).trans hx103_0
        replace p103:=eq_true p103
        replace q103:=eq_true q103
        go_wp2
        go_ret2
        exact ⟨by first|rfl|(simp [errW_none,errW_some]<;>rfl)|(simp [*,errW_none,errW_some]<;>rfl),by repeat (first|(with_reducible first|exact HB.out|apply below_alloc|apply pw_below_drewN|apply below_drew1|refine below_set ?_ GE101.out)|exact HB.out)⟩
       ·rw [if_neg c9] at H
        exact absurd H (by simp)
     ·rw [if_neg c6] at H
      have c6b0:((rd l0_5 x6_1) == a1)=false:=beq_eq_false_iff_ne.mpr c6
      have c6b1:((rd l0_5 x6_1) != a1)=true:=bne_iff_ne.mpr c6
      have H':=Aside0.mk H
      clear H
      have hcz11_0:wr.cell? ⟨gb101,0,none⟩=some (.string a0_0):=(blk_cell BK101.out 0).trans rfl
      have hcz11_1:wr.cell? ⟨gb101,1,none⟩=some (.int .i64 a0_1):=(blk_cell BK101.out 1).trans rfl
      have hcz11_2:wr.cell? ⟨gb101,2,none⟩=some (.int .i64 a0_2):=(blk_cell BK101.out 2).trans rfl
      have hcz11_3:wr.cell? ⟨gb101,3,none⟩=some (.int .i64 a0_3):=(blk_cell BK101.out 3).trans rfl
      have hcz11_4:wr.cell? ⟨gb101,4,none⟩=some (.int .i64 a0_4):=(blk_cell BK101.out 4).trans rfl
      have hcz11_5:wr.cell? ⟨gb101,5,none⟩=some (.slice A0_5 l0_5.length c0_5):=(blk_cell BK101.out 5).trans rfl
      have hcz11_6:wr.cell? ⟨gb101,6,none⟩=some (.slice A0_6 l0_6.length c0_6):=(blk_cell BK101.out 6).trans rfl
      have hfz11_0:=blk_frozen BK101.out 0
      have hfz11_1:=blk_frozen BK101.out 1
      have hfz11_2:=blk_frozen BK101.out 2
      have hfz11_3:=blk_frozen BK101.out 3
      have hfz11_4:=blk_frozen BK101.out 4
      have hfz11_5:=blk_frozen BK101.out 5
      have hfz11_6:=blk_frozen BK101.out 6
      have p102:0≤(x6_1:Int):=of_decide_eq_true (by first|(with_reducible assumption)|assumption)
      have q102:x6_1 < (l0_5.length:Int):=of_decide_eq_true (by first|(with_reducible assumption)|assumption)
      obtain ⟨ad102,e102,hx102_0⟩:=Kd.at_int HR0_5.out x6_1 p102 q102
      cases e102
      replace hx102_0:=(HB.out.cell (World.block_lt_of_cell? w _ hx102_0)).trans hx102_0
      replace p102:=eq_true p102
      replace q102:=eq_true q102
      go_wp2
      go_roundg k1
      case measure=>have:=HK1.out;omega
      case rel=>exact ⟨(wrap64 (x6_1+1)),(by first|rfl|(simp;done)|(simp [*];done)),H',⟨by have:=HK1.out;omega⟩,⟨by (with_reducible repeat (first|refine blk_drewN ?_ _|refine blk_drew ?_|refine blk_alloc ?_ _));exact BK101.out⟩,⟨by repeat (first|(with_reducible first|exact HB.out|apply below_alloc|apply pw_below_drewN|apply below_drew1|refine below_set ?_ GE101.out)|exact HB.out)⟩⟩
    ·rw [if_neg c5] at H
     exact absurd H (by simp)
   ·rw [if_neg c4] at H
    have c4b0:decide (x6_1 < (l0_5.length:Int))=false:=decide_eq_false c4
    clear c4
    simp only [Option.some.injEq,Prod.mk.injEq] at H
    obtain ⟨rfl,rfl⟩:=H
    have hcz12_0:wr.cell? ⟨gb101,0,none⟩=some (.string a0_0):=(blk_cell BK101.out 0).trans rfl
    have hcz12_1:wr.cell? ⟨gb101,1,none⟩=some (.int .i64 a0_1):=(blk_cell BK101.out 1).trans rfl
    have hcz12_2:wr.cell? ⟨gb101,2,none⟩=some (.int .i64 a0_2):=(blk_cell BK101.out 2).trans rfl
    have hcz12_3:wr.cell? ⟨gb101,3,none⟩=some (.int .i64 a0_3):=(blk_cell BK101.out 3).trans rfl
    have hcz12_4:wr.cell? ⟨gb101,4,none⟩=some (.int .i64 a0_4):=(blk_cell BK101.out 4).trans rfl
    have hcz12_5:wr.cell? ⟨gb101,5,none⟩=some (.slice A0_5 l0_5.length c0_5):=(blk_cell BK101.out 5).trans rfl
    have hcz12_6:wr.cell? ⟨gb101,6,none⟩=some (.slice A0_6 l0_6.length c0_6):=(blk_cell BK101.out 6).trans rfl
    have hfz12_0:=blk_frozen BK101.out 0
    have hfz12_1:=blk_frozen BK101.out 1
    have hfz12_2:=blk_frozen BK101.out 2
    have hfz12_3:=blk_frozen BK101.out 3
    have hfz12_4:=blk_frozen BK101.out 4
    have hfz12_5:=blk_frozen BK101.out 5
    have hfz12_6:=blk_frozen BK101.out 6
    go_wp2
    go_ret2
    exact ⟨by first|rfl|(simp [errW_none,errW_some]<;>rfl)|(simp [*,errW_none,errW_some]<;>rfl),by repeat (first|(with_reducible first|exact HB.out|apply below_alloc|apply pw_below_drewN|apply below_drew1|refine below_set ?_ GE101.out)|exact HB.out)⟩
end Go.Proofs.YtojkjhaobjidlaaDoor.P
namespace Go.Proofs.YtojkjhaobjidlaaDoor.P
open Go.RowKit Go.Proofs.YtojkjhaobjidlaaDoorW.PrintWords Go.Proofs.YtojkjhaobjidlaaDoorW.PrintLast Go.Proofs.YtojkjhaobjidlaaDoorW.PrintMore
attribute [local go_sem] max2_int min2_int max_two min_two max_three min_three max_four min_four
attribute [local go_sem] cell_twice
set_option linter.unusedVariables false
set_option linter.unusedSimpArgs false
def sawmillref19_Volume.f (a0_0:ByteArray) (a0_1:Int) (a0_2:Int) (a0_3:Int) (a0_4:Int) (l0_5:List Int) (l0_6:List Int) (a1:Int):Option (Int):=(sawmillref19_sized.f a0_0 a0_1 a0_2 a0_3 a0_4 l0_5 l0_6).bind fun t102=>(if t102=true then (if a1 < 1 then (some 0) else (if a1 > 20000 then (some 0) else (some (wrap64 ((wrap64 (a0_1 * a0_2)) * a1))))) else (some 0))
set_option maxHeartbeats 8000000 in
set_option maxRecDepth 100000 in
theorem sawmillref19_Volume.calls (a0_0:ByteArray) (a0_1:Int) (a0_2:Int) (a0_3:Int) (a0_4:Int) (A0_5:Option Addr) (c0_5:Nat) (l0_5:List Int) (A0_6:Option Addr) (c0_6:Nat) (l0_6:List Int) (a1:Int) (r:Int) (w:World) (hr0_5:Kd.C (Kd.int .i64) w A0_5 l0_5.length l0_5) (hc0_5:l0_5.length≤c0_5) (hr0_6:Kd.C (Kd.int .i64) w A0_6 l0_6.length l0_6) (hc0_6:l0_6.length≤c0_6) (h:sawmillref19_Volume.f a0_0 a0_1 a0_2 a0_3 a0_4 l0_5 l0_6 a1=some r) :
  Calls Tryd.prog 33 #[.agg #[.string a0_0,.int .i64 a0_1,.int .i64 a0_2,.int .i64 a0_3,.int .i64 a0_4,.slice A0_5 l0_5.length c0_5,.slice A0_6 l0_6.length c0_6],.int .i64 a1] w fun e w'=>e=.returned (.int .i64 r)∧Below w.heap.size w w':=by
 have hu53:=Tryd.underlying53
 have HR0_5:=Aside0.mk hr0_5
 have HC0_5:=Aside0.mk hc0_5
 clear hr0_5 hc0_5
 have HR0_6:=Aside0.mk hr0_6
 have HC0_6:=Aside0.mk hc0_6
 clear hr0_6 hc0_6
 have HB:=Aside0.mk (Below.refl w.heap.size w)
 have H:((sawmillref19_sized.f a0_0 a0_1 a0_2 a0_3 a0_4 l0_5 l0_6).bind fun t102=>(if t102=true then (if a1 < 1 then (some 0) else (if a1 > 20000 then (some 0) else (some (wrap64 ((wrap64 (a0_1 * a0_2)) * a1))))) else (some 0)))=some r:=h
 clear h
 replace H:=Option.bind_eq_some_iff.mp H
 obtain ⟨t102,A30,H⟩:=H
 replace H:(if t102=true then (if a1 < 1 then (some 0) else (if a1 > 20000 then (some 0) else (some (wrap64 ((wrap64 (a0_1 * a0_2)) * a1))))) else (some 0))=some r:=H
 have A3:=Aside0.mk A30
 clear A30
 by_cases c4:t102=true
 ·subst c4
  have H1:(if a1 < 1 then (some 0) else (if a1 > 20000 then (some 0) else (some (wrap64 ((wrap64 (a0_1 * a0_2)) * a1)))))=some r:=by rw [if_pos rfl] at H;exact H
  clear H
  have H:=H1
  clear H1
  by_cases c5:a1 < 1
  ·rw [if_pos c5] at H
   have c5b0:decide (a1 < 1)=true:=decide_eq_true c5
   clear c5
   obtain rfl:=Option.some.inj H
   go_enter Tryd.func33,Tryd.ntmps33
   go_wp2_with (first|((with_reducible refine gate_dst (N:=2) rfl ?_);refine box_event ?hg (N:=2) ?hd (cs:=#[.string a0_0,.int .i64 a0_1,.int .i64 a0_2,.int .i64 a0_3,.int .i64 a0_4,.slice A0_5 l0_5.length c0_5,.slice A0_6 l0_6.length c0_6]) (t:=53) ?hr ?_;(case hd=>rfl);(case hg=>rfl);(case hr=>first|(go_simp;done)|(go_simp;rfl));intro gb101 hg w6 hbox hb;have n0_:=Aside0.mk (below_step (by repeat (first|(with_reducible first|exact HB.out|apply below_alloc|apply pw_below_drewN|apply below_drew1)|exact HB.out)) hb);have n1_:=Aside0.mk (hbox);have n2_:=Aside0.mk ((by rw [hg];exact (below_size (by repeat (first|(with_reducible first|exact HB.out|apply below_alloc|apply pw_below_drewN|apply below_drew1)|exact HB.out))):w.heap.size≤gb101));have n3_:=Aside0.mk ((by rw [hg];exact (below_size (by repeat (first|(with_reducible first|exact HB.out|apply below_alloc|apply pw_below_drewN|apply below_drew1)|exact HB.out))):w.heap.size≤gb101));clear HB;have HB:=n0_;have BK101:=n1_;have GW101:=n2_;have GE101:=n3_;clear n0_ n1_ n2_ n3_;clear hb hbox hg;have hcz7_0:w6.cell? ⟨gb101,0,none⟩=some (.string a0_0):=(blk_cell BK101.out 0).trans rfl;have hcz7_1:w6.cell? ⟨gb101,1,none⟩=some (.int .i64 a0_1):=(blk_cell BK101.out 1).trans rfl;have hcz7_2:w6.cell? ⟨gb101,2,none⟩=some (.int .i64 a0_2):=(blk_cell BK101.out 2).trans rfl;have hcz7_3:w6.cell? ⟨gb101,3,none⟩=some (.int .i64 a0_3):=(blk_cell BK101.out 3).trans rfl;have hcz7_4:w6.cell? ⟨gb101,4,none⟩=some (.int .i64 a0_4):=(blk_cell BK101.out 4).trans rfl;have hcz7_5:w6.cell? ⟨gb101,5,none⟩=some (.slice A0_5 l0_5.length c0_5):=(blk_cell BK101.out 5).trans rfl;have hcz7_6:w6.cell? ⟨gb101,6,none⟩=some (.slice A0_6 l0_6.length c0_6):=(blk_cell BK101.out 6).trans rfl;have hfz7_0:=blk_frozen BK101.out 0;have hfz7_1:=blk_frozen BK101.out 1;have hfz7_2:=blk_frozen BK101.out 2;have hfz7_3:=blk_frozen BK101.out 3;have hfz7_4:=blk_frozen BK101.out 4;have hfz7_5:=blk_frozen BK101.out 5;have hfz7_6:=blk_frozen BK101.out 6)|((with_reducible refine gate_callee (f:=48) rfl ?_);refine goesL_ (some 6) rfl rfl Tryd.func48 (by kernel_rfl) rfl #[.agg #[.string a0_0,.int .i64 a0_1,.int .i64 a0_2,.int .i64 a0_3,.int .i64 a0_4,.slice A0_5 l0_5.length c0_5,.slice A0_6 l0_6.length c0_6]] rfl (by (try simp only [List.map_toArray,List.map_cons,List.map_nil]);first|done|rfl|(simp only [List.length_drop,List.length_take];rfl)) ?_;(with_reducible refine (sawmillref19_sized.calls a0_0 a0_1 a0_2 a0_3 a0_4 _ _ l0_5 _ _ l0_6 true _ ?side1 ?side2 ?side3 ?side4 A3.out).mono ?_);(case side1=>repeat (first|exact (Kd.C_below HR0_5.out HB.out)|(with_reducible refine Kd.C_alloc ?_ _)|(with_reducible refine Kd.C_drewN ?_ _)|(with_reducible refine Kd.C_drew ?_)));(case side2=>exact HC0_5.out);(case side3=>repeat (first|exact (Kd.C_below HR0_6.out HB.out)|(with_reducible refine Kd.C_alloc ?_ _)|(with_reducible refine Kd.C_drewN ?_ _)|(with_reducible refine Kd.C_drew ?_)));(case side4=>exact HC0_6.out);rintro e w8 ⟨rfl,hb⟩;refine ⟨_,rfl,?_⟩;have n0_:=Aside0.mk (blk_below (g:=gb101) (o:=.cells #[.string a0_0,.int .i64 a0_1,.int .i64 a0_2,.int .i64 a0_3,.int .i64 a0_4,.slice A0_5 l0_5.length c0_5,.slice A0_6 l0_6.length c0_6] 53 (0,0)) (by (with_reducible repeat (first|refine blk_drewN ?_ _|refine blk_drew ?_|refine blk_alloc ?_ _));exact BK101.out) hb);have n1_:=Aside0.mk (below_step (by repeat (first|(with_reducible first|exact HB.out|apply below_alloc|apply pw_below_drewN|apply below_drew1|refine below_set ?_ GE101.out)|exact HB.out)) hb);clear BK101;clear HB;have BK101:=n0_;have HB:=n1_;clear n0_ n1_;(try clear hb);(try clear hb2);(try clear hk);(try clear hi)))
   go_ret
   exact ⟨by first|rfl|(simp [errW_none,errW_some]<;>rfl)|(simp [*,errW_none,errW_some]<;>rfl),by repeat (first|(with_reducible first|exact HB.out|apply below_alloc|apply pw_below_drewN|apply below_drew1|refine below_set ?_ GE101.out)|exact HB.out)⟩
  ·rw [if_neg c5] at H
   have c5b0:decide (a1 < 1)=false:=decide_eq_false c5
   clear c5
   by_cases c9:a1 > 20000
   ·rw [if_pos c9] at H
    have c9b0:decide (20000 < a1)=true:=decide_eq_true c9
    clear c9
    obtain rfl:=Option.some.inj H
    go_enter Tryd.func33,Tryd.ntmps33
    go_wp2_with (first|((with_reducible refine gate_dst (N:=2) rfl ?_);refine box_event ?hg (N:=2) ?hd (cs:=#[.string a0_0,.int .i64 a0_1,.int .i64 a0_2,.int .i64 a0_3,.int .i64 a0_4,.slice A0_5 l0_5.length c0_5,.slice A0_6 l0_6.length c0_6]) (t:=53) ?hr ?_;(case hd=>rfl);(case hg=>rfl);(case hr=>first|(go_simp;done)|(go_simp;rfl));intro gb101 hg w10 hbox hb;have n0_:=Aside0.mk (below_step (by repeat (first|(with_reducible first|exact HB.out|apply below_alloc|apply pw_below_drewN|apply below_drew1)|exact HB.out)) hb);have n1_:=Aside0.mk (hbox);have n2_:=Aside0.mk ((by rw [hg];exact (below_size (by repeat (first|(with_reducible first|exact HB.out|apply below_alloc|apply pw_below_drewN|apply below_drew1)|exact HB.out))):w.heap.size≤gb101));have n3_:=Aside0.mk ((by rw [hg];exact (below_size (by repeat (first|(with_reducible first|exact HB.out|apply below_alloc|apply pw_below_drewN|apply below_drew1)|exact HB.out))):w.heap.size≤gb101));clear HB;have HB:=n0_;have BK101:=n1_;have GW101:=n2_;have GE101:=n3_;clear n0_ n1_ n2_ n3_;clear hb hbox hg;have hcz11_0:w10.cell? ⟨gb101,0,none⟩=some (.string a0_0):=(blk_cell BK101.out 0).trans rfl;have hcz11_1:w10.cell? ⟨gb101,1,none⟩=some (.int .i64 a0_1):=(blk_cell BK101.out 1).trans rfl;have hcz11_2:w10.cell? ⟨gb101,2,none⟩=some (.int .i64 a0_2):=(blk_cell BK101.out 2).trans rfl;have hcz11_3:w10.cell? ⟨gb101,3,none⟩=some (.int .i64 a0_3):=(blk_cell BK101.out 3).trans rfl;have hcz11_4:w10.cell? ⟨gb101,4,none⟩=some (.int .i64 a0_4):=(blk_cell BK101.out 4).trans rfl;have hcz11_5:w10.cell? ⟨gb101,5,none⟩=some (.slice A0_5 l0_5.length c0_5):=(blk_cell BK101.out 5).trans rfl;have hcz11_6:w10.cell? ⟨gb101,6,none⟩=some (.slice A0_6 l0_6.length c0_6):=(blk_cell BK101.out 6).trans rfl;have hfz11_0:=blk_frozen BK101.out 0;have hfz11_1:=blk_frozen BK101.out 1;have hfz11_2:=blk_frozen BK101.out 2;have hfz11_3:=blk_frozen BK101.out 3;have hfz11_4:=blk_frozen BK101.out 4;have hfz11_5:=blk_frozen BK101.out 5;have hfz11_6:=blk_frozen BK101.out 6)|((with_reducible refine gate_callee (f:=48) rfl ?_);refine goesL_ (some 6) rfl rfl Tryd.func48 (by kernel_rfl) rfl #[.agg #[.string a0_0,.int .i64 a0_1,.int .i64 a0_2,.int .i64 a0_3,.int .i64 a0_4,.slice A0_5 l0_5.length c0_5,.slice A0_6 l0_6.length c0_6]] rfl (by (try simp only [List.map_toArray,List.map_cons,List.map_nil]);first|done|rfl|(simp only [List.length_drop,List.length_take];rfl)) ?_;(with_reducible refine (sawmillref19_sized.calls a0_0 a0_1 a0_2 a0_3 a0_4 _ _ l0_5 _ _ l0_6 true _ ?side1 ?side2 ?side3 ?side4 A3.out).mono ?_);(case side1=>repeat (first|exact (Kd.C_below HR0_5.out HB.out)|(with_reducible refine Kd.C_alloc ?_ _)|(with_reducible refine Kd.C_drewN ?_ _)|(with_reducible refine Kd.C_drew ?_)));(case side2=>exact HC0_5.out);(case side3=>repeat (first|exact (Kd.C_below HR0_6.out HB.out)|(with_reducible refine Kd.C_alloc ?_ _)|(with_reducible refine Kd.C_drewN ?_ _)|(with_reducible refine Kd.C_drew ?_)));(case side4=>exact HC0_6.out);rintro e w12 ⟨rfl,hb⟩;refine ⟨_,rfl,?_⟩;have n0_:=Aside0.mk (blk_below (g:=gb101) (o:=.cells #[.string a0_0,.int .i64 a0_1,.int .i64 a0_2,.int .i64 a0_3,.int .i64 a0_4,.slice A0_5 l0_5.length c0_5,.slice A0_6 l0_6.length c0_6] 53 (0,0)) (by (with_reducible repeat (first|refine blk_drewN ?_ _|refine blk_drew ?_|refine blk_alloc ?_ _));exact BK101.out) hb);have n1_:=Aside0.mk (below_step (by repeat (first|(with_reducible first|exact HB.out|apply below_alloc|apply pw_below_drewN|apply below_drew1|refine below_set ?_ GE101.out)|exact HB.out)) hb);clear BK101;clear HB;have BK101:=n0_;have HB:=n1_;clear n0_ n1_;(try clear hb);(try clear hb2);(try clear hk);(try clear hi)))
    go_ret
    exact ⟨by first|rfl|(simp [errW_none,errW_some]<;>rfl)|(simp [*,errW_none,errW_some]<;>rfl),by repeat (first|(with_reducible first|exact HB.out|apply below_alloc|apply pw_below_drewN|apply below_drew1|refine below_set ?_ GE101.out)|exact HB.out)⟩
   ·rw [if_neg c9] at H
    have c9b0:decide (20000 < a1)=false:=decide_eq_false c9
    clear c9
    obtain rfl:=Option.some.inj H
    go_enter Tryd.func33,Tryd.ntmps33
    go_wp2_with (first|((with_reducible refine gate_dst (N:=2) rfl ?_);refine box_event ?hg (N:=2) ?hd (cs:=#[.string a0_0,.int .i64 a0_1,.int .i64 a0_2,.int .i64 a0_3,.int .i64 a0_4,.slice A0_5 l0_5.length c0_5,.slice A0_6 l0_6.length c0_6]) (t:=53) ?hr ?_;(case hd=>rfl);(case hg=>rfl);(case hr=>first|(go_simp;done)|(go_simp;rfl));intro gb101 hg w13 hbox hb;have n0_:=Aside0.mk (below_step (by repeat (first|(with_reducible first|exact HB.out|apply below_alloc|apply pw_below_drewN|apply below_drew1)|exact HB.out)) hb);have n1_:=Aside0.mk (hbox);have n2_:=Aside0.mk ((by rw [hg];exact (below_size (by repeat (first|(with_reducible first|exact HB.out|apply below_alloc|apply pw_below_drewN|apply below_drew1)|exact HB.out))):w.heap.size≤gb101));have n3_:=Aside0.mk ((by rw [hg];exact (below_size (by repeat (first|(with_reducible first|exact HB.out|apply below_alloc|apply pw_below_drewN|apply below_drew1)|exact HB.out))):w.heap.size≤gb101));clear HB;have HB:=n0_;have BK101:=n1_;have GW101:=n2_;have GE101:=n3_;clear n0_ n1_ n2_ n3_;clear hb hbox hg;have hcz14_0:w13.cell? ⟨gb101,0,none⟩=some (.string a0_0):=(blk_cell BK101.out 0).trans rfl;have hcz14_1:w13.cell? ⟨gb101,1,none⟩=some (.int .i64 a0_1):=(blk_cell BK101.out 1).trans rfl;have hcz14_2:w13.cell? ⟨gb101,2,none⟩=some (.int .i64 a0_2):=(blk_cell BK101.out 2).trans rfl;have hcz14_3:w13.cell? ⟨gb101,3,none⟩=some (.int .i64 a0_3):=(blk_cell BK101.out 3).trans rfl;have hcz14_4:w13.cell? ⟨gb101,4,none⟩=some (.int .i64 a0_4):=(blk_cell BK101.out 4).trans rfl;have hcz14_5:w13.cell? ⟨gb101,5,none⟩=some (.slice A0_5 l0_5.length c0_5):=(blk_cell BK101.out 5).trans rfl;have hcz14_6:w13.cell? ⟨gb101,6,none⟩=some (.slice A0_6 l0_6.length c0_6):=(blk_cell BK101.out 6).trans rfl;have hfz14_0:=blk_frozen BK101.out 0;have hfz14_1:=blk_frozen BK101.out 1;have hfz14_2:=blk_frozen BK101.out 2;have hfz14_3:=blk_frozen BK101.out 3;have hfz14_4:=blk_frozen BK101.out 4;have hfz14_5:=blk_frozen BK101.out 5;have hfz14_6:=blk_frozen BK101.out 6)|((with_reducible refine gate_callee (f:=48) rfl ?_);refine goesL_ (some 6) rfl rfl Tryd.func48 (by kernel_rfl) rfl #[.agg #[.string a0_0,.int .i64 a0_1,.int .i64 a0_2,.int .i64 a0_3,.int .i64 a0_4,.slice A0_5 l0_5.length c0_5,.slice A0_6 l0_6.length c0_6]] rfl (by (try simp only [List.map_toArray,List.map_cons,List.map_nil]);first|done|rfl|(simp only [List.length_drop,List.length_take];rfl)) ?_;(with_reducible refine (sawmillref19_sized.calls a0_0 a0_1 a0_2 a0_3 a0_4 _ _ l0_5 _ _ l0_6 true _ ?side1 ?side2 ?side3 ?side4 A3.out).mono ?_);(case side1=>repeat (first|exact (Kd.C_below HR0_5.out HB.out)|(with_reducible refine Kd.C_alloc ?_ _)|(with_reducible refine Kd.C_drewN ?_ _)|(with_reducible refine Kd.C_drew ?_)));(case side2=>exact HC0_5.out);(case side3=>repeat (first|exact (Kd.C_below HR0_6.out HB.out)|(with_reducible refine Kd.C_alloc ?_ _)|(with_reducible refine Kd.C_drewN ?_ _)|(with_reducible refine Kd.C_drew ?_)));(case side4=>exact HC0_6.out);rintro e w15 ⟨rfl,hb⟩;refine ⟨_,rfl,?_⟩;have n0_:=Aside0.mk (blk_below (g:=gb101) (o:=.cells #[.string a0_0,.int .i64 a0_1,.int .i64 a0_2,.int .i64 a0_3,.int .i64 a0_4,.slice A0_5 l0_5.length c0_5,.slice A0_6 l0_6.length c0_6] 53 (0,0)) (by (with_reducible repeat (first|refine blk_drewN ?_ _|refine blk_drew ?_|refine blk_alloc ?_ _));exact BK101.out) hb);have n1_:=Aside0.mk (below_step (by repeat (first|(with_reducible first|exact HB.out|apply below_alloc|apply pw_below_drewN|apply below_drew1|refine below_set ?_ GE101.out)|exact HB.out)) hb);clear BK101;clear HB;have BK101:=n0_;have HB:=n1_;clear n0_ n1_;(try clear hb);(try clear hb2);(try clear hk);(try clear hi);have hcz16_0:w15.cell? ⟨gb101,0,none⟩=some (.string a0_0):=(blk_cell BK101.out 0).trans rfl;have hcz16_1:w15.cell? ⟨gb101,1,none⟩=some (.int .i64 a0_1):=(blk_cell BK101.out 1).trans rfl;have hcz16_2:w15.cell? ⟨gb101,2,none⟩=some (.int .i64 a0_2):=(blk_cell BK101.out 2).trans rfl;have hcz16_3:w15.cell? ⟨gb101,3,none⟩=some (.int .i64 a0_3):=(blk_cell BK101.out 3).trans rfl;have hcz16_4:w15.cell? ⟨gb101,4,none⟩=some (.int .i64 a0_4):=(blk_cell BK101.out 4).trans rfl;have hcz16_5:w15.cell? ⟨gb101,5,none⟩=some (.slice A0_5 l0_5.length c0_5):=(blk_cell BK101.out 5).trans rfl;have hcz16_6:w15.cell? ⟨gb101,6,none⟩=some (.slice A0_6 l0_6.length c0_6):=(blk_cell BK101.out 6).trans rfl;have hfz16_0:=blk_frozen BK101.out 0;have hfz16_1:=blk_frozen BK101.out 1;have hfz16_2:=blk_frozen BK101.out 2;have hfz16_3:=blk_frozen BK101.out 3;have hfz16_4:=blk_frozen BK101.out 4;have hfz16_5:=blk_frozen BK101.out 5;have hfz16_6:=blk_frozen BK101.out 6))
    go_ret
    exact ⟨by first|rfl|(simp [errW_none,errW_some]<;>rfl)|(simp [*,errW_none,errW_some]<;>rfl),by repeat (first|(with_reducible first|exact HB.out|apply below_alloc|apply pw_below_drewN|apply below_drew1|refine below_set ?_ GE101.out)|exact HB.out)⟩
 ·replace c4:=Bool.eq_false_iff.mpr c4
  subst c4
  have H1:(some 0)=some r:=by rw [if_neg (show ¬ (false=true) by decide)] at H;exact H
  clear H
  have H:=H1
  clear H1
  obtain rfl:=Option.some.inj H
  go_enter Tryd.func33,Tryd.ntmps33
  go_wp2_with (first|((with_reducible refine gate_dst (N:=2) rfl ?_);refine box_event ?hg (N:=2) ?hd (cs:=#[.string a0_0,.int .i64 a0_1,.int .i64 a0_2,.int .i64 a0_3,.int .i64 a0_4,.slice A0_5 l0_5.length c0_5,.slice A0_6 l0_6.length c0_6]) (t:=53) ?hr ?_;(case hd=>rfl);(case hg=>rfl);(case hr=>first|(go_simp;done)|(go_simp;rfl));intro gb101 hg w17 hbox hb;have n0_:=Aside0.mk (below_step (by repeat (first|(with_reducible first|exact HB.out|apply below_alloc|apply pw_below_drewN|apply below_drew1)|exact HB.out)) hb);have n1_:=Aside0.mk (hbox);have n2_:=Aside0.mk ((by rw [hg];exact (below_size (by repeat (first|(with_reducible first|exact HB.out|apply below_alloc|apply pw_below_drewN|apply below_drew1)|exact HB.out))):w.heap.size≤gb101));have n3_:=Aside0.mk ((by rw [hg];exact (below_size (by repeat (first|(with_reducible first|exact HB.out|apply below_alloc|apply pw_below_drewN|apply below_drew1)|exact HB.out))):w.heap.size≤gb101));clear HB;have HB:=n0_;have BK101:=n1_;have GW101:=n2_;have GE101:=n3_;clear n0_ n1_ n2_ n3_;clear hb hbox hg;have hcz18_0:w17.cell? ⟨gb101,0,none⟩=some (.string a0_0):=(blk_cell BK101.out 0).trans rfl;have hcz18_1:w17.cell? ⟨gb101,1,none⟩=some (.int .i64 a0_1):=(blk_cell BK101.out 1).trans rfl;have hcz18_2:w17.cell? ⟨gb101,2,none⟩=some (.int .i64 a0_2):=(blk_cell BK101.out 2).trans rfl;have hcz18_3:w17.cell? ⟨gb101,3,none⟩=some (.int .i64 a0_3):=(blk_cell BK101.out 3).trans rfl;have hcz18_4:w17.cell? ⟨gb101,4,none⟩=some (.int .i64 a0_4):=(blk_cell BK101.out 4).trans rfl;have hcz18_5:w17.cell? ⟨gb101,5,none⟩=some (.slice A0_5 l0_5.length c0_5):=(blk_cell BK101.out 5).trans rfl;have hcz18_6:w17.cell? ⟨gb101,6,none⟩=some (.slice A0_6 l0_6.length c0_6):=(blk_cell BK101.out 6).trans rfl;have hfz18_0:=blk_frozen BK101.out 0;have hfz18_1:=blk_frozen BK101.out 1;have hfz18_2:=blk_frozen BK101.out 2;have hfz18_3:=blk_frozen BK101.out 3;have hfz18_4:=blk_frozen BK101.out 4;have hfz18_5:=blk_frozen BK101.out 5;have hfz18_6:=blk_frozen BK101.out 6)|((with_reducible refine gate_callee (f:=48) rfl ?_);refine goesL_ (some 6) rfl rfl Tryd.func48 (by kernel_rfl) rfl #[.agg #[.string a0_0,.int .i64 a0_1,.int .i64 a0_2,.int .i64 a0_3,.int .i64 a0_4,.slice A0_5 l0_5.length c0_5,.slice A0_6 l0_6.length c0_6]] rfl (by (try simp only [List.map_toArray,List.map_cons,List.map_nil]);first|done|rfl|(simp only [List.length_drop,List.length_take];rfl)) ?_;(with_reducible refine (sawmillref19_sized.calls a0_0 a0_1 a0_2 a0_3 a0_4 _ _ l0_5 _ _ l0_6 false _ ?side1 ?side2 ?side3 ?side4 A3.out).mono ?_);(case side1=>repeat (first|exact (Kd.C_below HR0_5.out HB.out)|(with_reducible refine Kd.C_alloc ?_ _)|(with_reducible refine Kd.C_drewN ?_ _)|(with_reducible refine Kd.C_drew ?_)));(case side2=>exact HC0_5.out);(case side3=>repeat (first|exact (Kd.C_below HR0_6.out HB.out)|(with_reducible refine Kd.C_alloc ?_ _)|(with_reducible refine Kd.C_drewN ?_ _)|(with_reducible refine Kd.C_drew ?_)));(case side4=>exact HC0_6.out);rintro e w19 ⟨rfl,hb⟩;refine ⟨_,rfl,?_⟩;have n0_:=Aside0.mk (blk_below (g:=gb101) (o:=.cells #[.string a0_0,.int .i64 a0_1,.int .i64 a0_2,.int .i64 a0_3,.int .i64 a0_4,.slice A0_5 l0_5.length c0_5,.slice A0_6 l0_6.length c0_6] 53 (0,0)) (by (with_reducible repeat (first|refine blk_drewN ?_ _|refine blk_drew ?_|refine blk_alloc ?_ _));exact BK101.out) hb);have n1_:=Aside0.mk (below_step (by repeat (first|(with_reducible first|exact HB.out|apply below_alloc|apply pw_below_drewN|apply below_drew1|refine below_set ?_ GE101.out)|exact HB.out)) hb);clear BK101;clear HB;have BK101:=n0_;have HB:=n1_;clear n0_ n1_;(try clear hb);(try clear hb2);(try clear hk);(try clear hi)))
  go_ret
  exact ⟨by first|rfl|(simp [errW_none,errW_some]<;>rfl)|(simp [*,errW_none,errW_some]<;>rfl),by repeat (first|(with_reducible first|exact HB.out|apply below_alloc|apply pw_below_drewN|apply below_drew1|refine below_set ?_ GE101.out)|exact HB.out)⟩
end Go.Proofs.YtojkjhaobjidlaaDoor.P
namespace Go.Proofs.YtojkjhaobjidlaaDoor.P
open Go.RowKit Go.Proofs.YtojkjhaobjidlaaDoorW.PrintWords Go.Proofs.YtojkjhaobjidlaaDoorW.PrintLast Go.Proofs.YtojkjhaobjidlaaDoorW.PrintMore
attribute [local go_sem] max2_int min2_int max_two min_two max_three min_three max_four min_four
attribute [local go_sem] cell_twice
set_option linter.unusedVariables false
set_option linter.unusedSimpArgs false
def sawmillref50_Amount.j0:Nat→List (S53)→Bool→Int→Int→Int→Int→Option (Int × Int)
 | 0,_,_,_,_,_,_=>none
 | k+1,x0,x24,x102000,x102001,x102002,x102003=>if x24=true then (some (0,8)) else (if 0≤x102000 then (if x102000 < (x0.length:Int) then ((sawmillref19_Price.f k ((rd_T53 x0 x102000).f0) ((rd_T53 x0 x102000).f1) ((rd_T53 x0 x102000).f2) ((rd_T53 x0 x102000).f3) ((rd_T53 x0 x102000).f4) ((rd_T53 x0 x102000).f5) ((rd_T53 x0 x102000).f6) x102001).bind fun bt104=>(if bt104.2=true then (if x102002 < 0 then (some (0,9)) else (if x102002 > 200 then (some (0,9)) else (if x102003 < 0 then (some (0,9)) else (if x102003 > 1000000000 then (some (0,9)) else ((sawmillref19_Volume.f ((rd_T53 x0 x102000).f0) ((rd_T53 x0 x102000).f1) ((rd_T53 x0 x102000).f2) ((rd_T53 x0 x102000).f3) ((rd_T53 x0 x102000).f4) ((rd_T53 x0 x102000).f5) ((rd_T53 x0 x102000).f6) x102001).bind fun t107=>(some (wrap64 ((wrap64 ((wrap64 (Int.tdiv (wrap64 (t107 * x102002)) 1000000000)) * x102003))+(wrap64 (Int.tdiv (wrap64 ((wrap64 ((Int.tmod (wrap64 (t107 * x102002)) 1000000000) * x102003))+500000000)) 1000000000))),0))))))) else (some (0,20)))) else (none)) else (none))
def sawmillref50_Amount.f (k:Nat) (l0:List (S53)) (a1_0:Int) (a1_1:Int) (a1_2:Int) (a1_3:Int):Option (Int × Int):=(sawmillref19_Check.f k l0).bind fun t102=>(if t102=0 then (if a1_0 < 0 then (sawmillref50_Amount.j0 k l0 true a1_0 a1_1 a1_2 a1_3) else (sawmillref50_Amount.j0 k l0 (decide (a1_0 ≥ (l0.length:Int))) a1_0 a1_1 a1_2 a1_3)) else (some (0,t102)))
theorem sawmillref50_Amount.mono_l:∀ k,(∀ y0 y1 y2 y3 y4 y5,LeO (sawmillref50_Amount.j0 k y0 y1 y2 y3 y4 y5) (sawmillref50_Amount.j0 (k+1) y0 y1 y2 y3 y4 y5))
 | 0=>fun _ _ _ _ _ _ r h=>by simp [sawmillref50_Amount.j0] at h
 | k+1=>by
  have ih0:=sawmillref50_Amount.mono_l k
  ·intro y0 y1 y2 y3 y4 y5
   unfold sawmillref50_Amount.j0
   repeat' first
   | (with_reducible exact ih0 _ _ _ _ _ _)
   | (with_reducible exact sawmillref19_Check.mono _ _)
   | (with_reducible exact sawmillref19_Price.mono _ _ _ _ _ _ _ _ _)
   | (with_reducible exact LeO.refl _)
   | (with_reducible exact LeO.none _)
   | (with_reducible refine LeO.ite ?_ ?_)
   | (with_reducible refine LeO.bind ?_ (fun _=>?_))
   | exact ih0 _ _ _ _ _ _
   | exact sawmillref19_Check.mono _ _
   | exact sawmillref19_Price.mono _ _ _ _ _ _ _ _ _
   | exact LeO.none _
   | refine LeO.ite ?_ ?_
   | refine LeO.bind ?_ (fun _=>?_)
theorem sawmillref50_Amount.mono:∀ a0 a1 a2 a3 a4 k,LeO (sawmillref50_Amount.f k a0 a1 a2 a3 a4) (sawmillref50_Amount.f (k+1) a0 a1 a2 a3 a4):=by
 intro a0 a1 a2 a3 a4 k
 have ih0:=sawmillref50_Amount.mono_l k
 unfold sawmillref50_Amount.f
 repeat' first
   | (with_reducible exact ih0 _ _ _ _ _ _)
   | (with_reducible exact sawmillref19_Check.mono _ _)
   | (with_reducible exact sawmillref19_Price.mono _ _ _ _ _ _ _ _ _)
   | (with_reducible exact LeO.refl _)
   | (with_reducible exact LeO.none _)
   | (with_reducible refine LeO.ite ?_ ?_)
   | (with_reducible refine LeO.bind ?_ (fun _=>?_))
   | exact ih0 _ _ _ _ _ _
   | exact sawmillref19_Check.mono _ _
   | exact sawmillref19_Price.mono _ _ _ _ _ _ _ _ _
   | exact LeO.none _
   | refine LeO.ite ?_ ?_
   | refine LeO.bind ?_ (fun _=>?_)
def sawmillref50_Amount.T6:Bool × List (List Nat × List Nat):=(true,[([],[]),([],[]),([1],[1]),([0,2],[0,2]),([3],[3]),([],[]),([5],[5]),([4,6],[4,6]),([7],[7]),([8],[8]),([8],[8]),([9,7,0,1,2,3,4,5,6,7,8,9],[9]),([10,11,0,1,2,3,4,5,6,7,8,9,10,11],[10])])
def sawmillref50_Amount.B6:List Nat:=[0,0,2,7,15,0,32,127,255,511,511,1023,4095]
theorem sawmillref50_Amount.tab6:rtab .any (opsOf Tryd.f15 6)=sawmillref50_Amount.T6:=by kernel_rfl
theorem sawmillref50_Amount.bits6:waitsOk sawmillref50_Amount.T6.2 sawmillref50_Amount.B6=true:=by kernel_rfl
def sawmillref50_Amount.T11:Bool × List (List Nat × List Nat):=(true,[([],[]),([],[]),([1],[1]),([0,2],[0,2]),([3],[3]),([],[]),([5],[5]),([4,6],[4,6]),([],[]),([8],[8]),([7,9],[7,9]),([10,7,0,1,2,3,4,5,6,7,8,9,10],[10])])
def sawmillref50_Amount.B11:List Nat:=[0,0,2,7,15,0,32,127,0,256,1023,2047]
theorem sawmillref50_Amount.tab11:rtab .any (opsOf Tryd.f15 11)=sawmillref50_Amount.T11:=by kernel_rfl
theorem sawmillref50_Amount.bits11:waitsOk sawmillref50_Amount.T11.2 sawmillref50_Amount.B11=true:=by kernel_rfl
set_option maxHeartbeats 8000000 in
set_option maxRecDepth 100000 in
theorem sawmillref50_Amount.calls (k:Nat) (A0:Option Addr) (c0:Nat) (l0:List (S53)) (a1_0:Int) (a1_1:Int) (a1_2:Int) (a1_3:Int) (r1:Int) (r2:Int) (w:World) (hr0:Kd.C k53 w A0 l0.length l0) (hc0:l0.length≤c0) (h:sawmillref50_Amount.f k l0 a1_0 a1_1 a1_2 a1_3=some (r1,r2)) :
  Calls Tryd.prog 15 #[.slice A0 l0.length c0,.agg #[.int .i64 a1_0,.int .i64 a1_1,.int .i64 a1_2,.int .i64 a1_3]] w fun e w'=>e=.returned (.tuple #[.int .i64 r1,.int .i64 r2])∧Below w.heap.size w w':=by
 have hu38:=Tryd.underlying38
 have hu53:=Tryd.underlying53
 have HR0:=Aside0.mk hr0
 have HC0:=Aside0.mk hc0
 clear hr0 hc0
 have HB:=Aside0.mk (Below.refl w.heap.size w)
 have H:((sawmillref19_Check.f k l0).bind fun t102=>(if t102=0 then (if a1_0 < 0 then (sawmillref50_Amount.j0 k l0 true a1_0 a1_1 a1_2 a1_3) else (sawmillref50_Amount.j0 k l0 (decide (a1_0 ≥ (l0.length:Int))) a1_0 a1_1 a1_2 a1_3)) else (some (0,t102))))=some (r1,r2):=h
 clear h
 replace H:=Option.bind_eq_some_iff.mp H
 obtain ⟨t102,A30,H⟩:=H
 replace H:(if t102=0 then (if a1_0 < 0 then (sawmillref50_Amount.j0 k l0 true a1_0 a1_1 a1_2 a1_3) else (sawmillref50_Amount.j0 k l0 (decide (a1_0 ≥ (l0.length:Int))) a1_0 a1_1 a1_2 a1_3)) else (some (0,t102)))=some (r1,r2):=H
 have A3:=Aside0.mk A30
 clear A30
 by_cases c4:t102=0
 ·rw [if_pos c4] at H
  have c4b0:(t102 == 0)=true:=beq_iff_eq.mpr c4
  have c4b1:(t102 != 0)=false:=bne_eq_false_iff_eq.mpr c4
  clear c4
  have HC5:=Aside0.mk H
  clear H
  go_enter Tryd.func15,Tryd.ntmps15
  go_upto_region 4 with (first|((with_reducible refine gate_dst (N:=3) rfl ?_);(try (refine gate_guard (by rfl) ?_;dsimp only));refine box_event ?hg (N:=3) ?hd (cs:=#[.int .i64 a1_0,.int .i64 a1_1,.int .i64 a1_2,.int .i64 a1_3]) (t:=38) ?hr ?_;(case hd=>rfl);(case hg=>rfl);(case hr=>first|(go_simp;done)|(go_simp;rfl));intro gb101 hg w6 hbox hb;have n0_:=Aside0.mk (below_step (by repeat (first|(with_reducible first|exact HB.out|apply below_alloc|apply pw_below_drewN|apply below_drew1)|exact HB.out)) hb);have n1_:=Aside0.mk (hbox);have n2_:=Aside0.mk ((by rw [hg];exact (below_size (by repeat (first|(with_reducible first|exact HB.out|apply below_alloc|apply pw_below_drewN|apply below_drew1)|exact HB.out))):w.heap.size≤gb101));have n3_:=Aside0.mk ((by rw [hg];exact (below_size (by repeat (first|(with_reducible first|exact HB.out|apply below_alloc|apply pw_below_drewN|apply below_drew1)|exact HB.out))):w.heap.size≤gb101));clear HB;have HB:=n0_;have BK101:=n1_;have GW101:=n2_;have GE101:=n3_;clear n0_ n1_ n2_ n3_;clear hb hbox hg)|((with_reducible refine gate_callee (f:=31) rfl ?_);refine goesL_ (some 11) rfl rfl Tryd.func31 (by kernel_rfl) rfl #[.slice A0 l0.length c0] rfl (by (try simp only [List.map_toArray,List.map_cons,List.map_nil]);first|done|rfl|(simp only [List.length_drop,List.length_take];rfl)) ?_;(with_reducible refine (sawmillref19_Check.calls k _ _ l0 t102 _ ?side1 ?side2 A3.out).mono ?_);(case side1=>repeat (first|exact (Kd.C_below HR0.out HB.out)|(with_reducible refine Kd.C_alloc ?_ _)|(with_reducible refine Kd.C_drewN ?_ _)|(with_reducible refine Kd.C_drew ?_)));(case side2=>exact HC0.out);rintro e w7 ⟨rfl,hb⟩;refine ⟨_,rfl,?_⟩;have n0_:=Aside0.mk (blk_below (g:=gb101) (o:=.cells #[.int .i64 a1_0,.int .i64 a1_1,.int .i64 a1_2,.int .i64 a1_3] 38 (0,0)) (by (with_reducible repeat (first|refine blk_drewN ?_ _|refine blk_drew ?_|refine blk_alloc ?_ _));exact BK101.out) hb);have n1_:=Aside0.mk (below_step (by repeat (first|(with_reducible first|exact HB.out|apply below_alloc|apply pw_below_drewN|apply below_drew1|refine below_set ?_ GE101.out)|exact HB.out)) hb);clear BK101;clear HB;have BK101:=n0_;have HB:=n1_;clear n0_ n1_;(try clear hb);(try clear hb2);(try clear hk);(try clear hi)))
  (try simp only [Act.put,List.setIfInBounds_toArray,List.set_cons_zero,List.set_cons_succ])
  go_cut [24] (fun v24 wc=>∃ (kq:Nat) (x24_4:Bool),v24=.bool x24_4∧Aside0 (sawmillref50_Amount.j0 kq l0 x24_4 a1_0 a1_1 a1_2 a1_3=some (r1,r2))∧Aside0 (kq≤k)∧Aside0 (wc.heap[gb101]?=some (.cells #[.int .i64 a1_0,.int .i64 a1_1,.int .i64 a1_2,.int .i64 a1_3] 38 (0,0)))∧Aside0 (Below w.heap.size w wc))
  case first =>
   have H:=HC5.out
   clear HC5
   by_cases c8:a1_0 < 0
   ·rw [if_pos c8] at H
    have c8b0:decide (a1_0 < 0)=true:=decide_eq_true c8
    clear c8
    (first|rw [c8b0]|(simp only [i64_w,i32_w];rw [c8b0])|skip)
    have H':=Aside0.mk H
    clear H
    have hcz9_0:w7.cell? ⟨gb101,0,none⟩=some (.int .i64 a1_0):=(blk_cell BK101.out 0).trans rfl
    have hcz9_1:w7.cell? ⟨gb101,1,none⟩=some (.int .i64 a1_1):=(blk_cell BK101.out 1).trans rfl
    have hcz9_2:w7.cell? ⟨gb101,2,none⟩=some (.int .i64 a1_2):=(blk_cell BK101.out 2).trans rfl
    have hcz9_3:w7.cell? ⟨gb101,3,none⟩=some (.int .i64 a1_3):=(blk_cell BK101.out 3).trans rfl
    have hfz9_0:=blk_frozen BK101.out 0
    have hfz9_1:=blk_frozen BK101.out 1
    have hfz9_2:=blk_frozen BK101.out 2
    have hfz9_3:=blk_frozen BK101.out 3
    go_wp2
    go_meet
    case rel=>exact ⟨_,(true),(by first|rfl|(simp;done)|(simp [*];done)),H',⟨by first|omega|exact Nat.le_refl _⟩,⟨by (with_reducible repeat (first|refine blk_drewN ?_ _|refine blk_drew ?_|refine blk_alloc ?_ _));exact BK101.out⟩,⟨by repeat (first|(with_reducible first|exact HB.out|apply below_alloc|apply pw_below_drewN|apply below_drew1|refine below_set ?_ GE101.out)|exact HB.out)⟩⟩
   ·rw [if_neg c8] at H
    have c8b0:decide (a1_0 < 0)=false:=decide_eq_false c8
    clear c8
    (first|rw [c8b0]|(simp only [i64_w,i32_w];rw [c8b0])|skip)
    have H':=Aside0.mk H
    clear H
    have hcz10_0:w7.cell? ⟨gb101,0,none⟩=some (.int .i64 a1_0):=(blk_cell BK101.out 0).trans rfl
    have hcz10_1:w7.cell? ⟨gb101,1,none⟩=some (.int .i64 a1_1):=(blk_cell BK101.out 1).trans rfl
    have hcz10_2:w7.cell? ⟨gb101,2,none⟩=some (.int .i64 a1_2):=(blk_cell BK101.out 2).trans rfl
    have hcz10_3:w7.cell? ⟨gb101,3,none⟩=some (.int .i64 a1_3):=(blk_cell BK101.out 3).trans rfl
    have hfz10_0:=blk_frozen BK101.out 0
    have hfz10_1:=blk_frozen BK101.out 1
    have hfz10_2:=blk_frozen BK101.out 2
    have hfz10_3:=blk_frozen BK101.out 3
    go_wp2
    go_meet
    case rel=>exact ⟨_,(decide (a1_0 ≥ (l0.length:Int))),(by first|rfl|(simp;done)|(simp [*];done)),H',⟨by first|omega|exact Nat.le_refl _⟩,⟨by (with_reducible repeat (first|refine blk_drewN ?_ _|refine blk_drew ?_|refine blk_alloc ?_ _));exact BK101.out⟩,⟨by repeat (first|(with_reducible first|exact HB.out|apply below_alloc|apply pw_below_drewN|apply below_drew1|refine below_set ?_ GE101.out)|exact HB.out)⟩⟩
  case rest =>
   clear HC5
   try clear c1
   try clear p2
   try clear c3
   try clear c4
   try clear c4b0
   try clear c4b1
   try clear c8
   try clear c8b0
   try clear hcz10_0
   try clear hcz10_1
   try clear hcz10_2
   try clear hcz10_3
   try clear hcz9_0
   try clear hcz9_1
   try clear hcz9_2
   try clear hcz9_3
   try clear hfz10_0
   try clear hfz10_1
   try clear hfz10_2
   try clear hfz10_3
   try clear hfz9_0
   try clear hfz9_1
   try clear hfz9_2
   try clear hfz9_3
   obtain ⟨kq,x24_4,rfl,HA,HJ4,BK101,HB⟩:=hcut
   cases kq with
   | zero=>exact absurd HA.out (by simp [sawmillref50_Amount.j0])
   | succ kj4 =>
    have H:=HA.out
    clear HA
    simp only [sawmillref50_Amount.j0] at H
    by_cases c11:x24_4=true
    ·subst c11
     have H1:(some (0,8))=some (r1,r2):=by rw [if_pos rfl] at H;exact H
     clear H
     have H:=H1
     clear H1
     simp only [Option.some.injEq,Prod.mk.injEq] at H
     obtain ⟨rfl,rfl⟩:=H
     go_wp2
     go_ret2
     exact ⟨by first|rfl|(simp [errW_none,errW_some]<;>rfl)|(simp [*,errW_none,errW_some]<;>rfl),by repeat (first|(with_reducible first|exact HB.out|apply below_alloc|apply pw_below_drewN|apply below_drew1|refine below_set ?_ GE101.out)|exact HB.out)⟩
    ·replace c11:=Bool.eq_false_iff.mpr c11
     subst c11
     have H1:(if 0≤a1_0 then (if a1_0 < (l0.length:Int) then ((sawmillref19_Price.f kj4 ((rd_T53 l0 a1_0).f0) ((rd_T53 l0 a1_0).f1) ((rd_T53 l0 a1_0).f2) ((rd_T53 l0 a1_0).f3) ((rd_T53 l0 a1_0).f4) ((rd_T53 l0 a1_0).f5) ((rd_T53 l0 a1_0).f6) a1_1).bind fun bt104=>(if bt104.2=true then (if a1_2 < 0 then (some (0,9)) else (if a1_2 > 200 then (some (0,9)) else (if a1_3 < 0 then (some (0,9)) else (if a1_3 > 1000000000 then (some (0,9)) else ((sawmillref19_Volume.f ((rd_T53 l0 a1_0).f0) ((rd_T53 l0 a1_0).f1) ((rd_T53 l0 a1_0).f2) ((rd_T53 l0 a1_0).f3) ((rd_T53 l0 a1_0).f4) ((rd_T53 l0 a1_0).f5) ((rd_T53 l0 a1_0).f6) a1_1).bind fun t107=>(some (wrap64 ((wrap64 ((wrap64 (Int.tdiv (wrap64 (t107 * a1_2)) 1000000000)) * a1_3))+(wrap64 (Int.tdiv (wrap64 ((wrap64 ((Int.tmod (wrap64 (t107 * a1_2)) 1000000000) * a1_3))+500000000)) 1000000000))),0))))))) else (some (0,20)))) else (none)) else (none))=some (r1,r2):=by rw [if_neg (show ¬ (false=true) by decide)] at H;exact H
     clear H
     have H:=H1
     clear H1
     by_cases c12:0≤a1_0
     ·rw [if_pos c12] at H
      have c12b0:decide (0≤a1_0)=true:=decide_eq_true c12
      clear c12
      by_cases c13:a1_0 < (l0.length:Int)
      ·rw [if_pos c13] at H
       have c13b0:decide (a1_0 < (l0.length:Int))=true:=decide_eq_true c13
       clear c13
       replace H:=Option.bind_eq_some_iff.mp H
       obtain ⟨⟨t104,t105⟩,A140,H⟩:=H
       replace H:(if t105=true then (if a1_2 < 0 then (some (0,9)) else (if a1_2 > 200 then (some (0,9)) else (if a1_3 < 0 then (some (0,9)) else (if a1_3 > 1000000000 then (some (0,9)) else ((sawmillref19_Volume.f ((rd_T53 l0 a1_0).f0) ((rd_T53 l0 a1_0).f1) ((rd_T53 l0 a1_0).f2) ((rd_T53 l0 a1_0).f3) ((rd_T53 l0 a1_0).f4) ((rd_T53 l0 a1_0).f5) ((rd_T53 l0 a1_0).f6) a1_1).bind fun t107=>(some (wrap64 ((wrap64 ((wrap64 (Int.tdiv (wrap64 (t107 * a1_2)) 1000000000)) * a1_3))+(wrap64 (Int.tdiv (wrap64 ((wrap64 ((Int.tmod (wrap64 (t107 * a1_2)) 1000000000) * a1_3))+500000000)) 1000000000))),0))))))) else (some (0,20)))=some (r1,r2):=H
       have A14:=Aside0.mk A140
       clear A140
       by_cases c15:t105=true
       ·subst c15
        have H1:(if a1_2 < 0 then (some (0,9)) else (if a1_2 > 200 then (some (0,9)) else (if a1_3 < 0 then (some (0,9)) else (if a1_3 > 1000000000 then (some (0,9)) else ((sawmillref19_Volume.f ((rd_T53 l0 a1_0).f0) ((rd_T53 l0 a1_0).f1) ((rd_T53 l0 a1_0).f2) ((rd_T53 l0 a1_0).f3) ((rd_T53 l0 a1_0).f4) ((rd_T53 l0 a1_0).f5) ((rd_T53 l0 a1_0).f6) a1_1).bind fun t107=>(some (wrap64 ((wrap64 ((wrap64 (Int.tdiv (wrap64 (t107 * a1_2)) 1000000000)) * a1_3))+(wrap64 (Int.tdiv (wrap64 ((wrap64 ((Int.tmod (wrap64 (t107 * a1_2)) 1000000000) * a1_3))+500000000)) 1000000000))),0)))))))=some (r1,r2):=by rw [if_pos rfl] at H;exact H
        clear H
        have H:=H1
        clear H1
        by_cases c16:a1_2 < 0
        ·rw [if_pos c16] at H
         have c16b0:decide (a1_2 < 0)=true:=decide_eq_true c16
         clear c16
         simp only [Option.some.injEq,Prod.mk.injEq] at H
         obtain ⟨rfl,rfl⟩:=H
         try go_wp2
         have n0_:=Aside0.mk (blk_drew BK101.out)
         have n1_:=Aside0.mk (below_drew1 HB.out)
         clear BK101
         clear HB
         have BK101:=n0_
         have HB:=n1_
         clear n0_ n1_
         have p103:0≤(a1_0:Int):=of_decide_eq_true (by first|(with_reducible assumption)|assumption)
         have q103:a1_0 < (l0.length:Int):=of_decide_eq_true (by first|(with_reducible assumption)|assumption)
         obtain ⟨ad103,A103_5,c103_5,A103_6,c103_6,e103,hx103_0,hx103_1,hx103_2,hx103_3,hx103_4,hx103_5,hx103_6,hl103_5,hi103_5,hl103_6,hi103_6⟩:=at_T53 HR0.out a1_0 p103 q103
         have hw103_6:=hx103_6
         have hw103_5:=hx103_5
         have hw103_4:=hx103_4
         have hw103_3:=hx103_3
         have hw103_2:=hx103_2
         have hw103_1:=hx103_1
         have hw103_0:=hx103_0
         cases e103
         replace hx103_0:=(HB.out.cell (World.block_lt_of_cell? w _ hx103_0)).trans hx103_0
         replace hx103_1:=(HB.out.cell (World.block_lt_of_cell? w _ hx103_1)).trans hx103_1
         replace hx103_2:=(HB.out.cell (World.block_lt_of_cell? w _ hx103_2)).trans hx103_2
         replace hx103_3:=(HB.out.cell (World.block_lt_of_cell? w _ hx103_3)).trans hx103_3
         replace hx103_4:=(HB.out.cell (World.block_lt_of_cell? w _ hx103_4)).trans hx103_4
         replace hx103_5:=(HB.out.cell (World.block_lt_of_cell? w _ hx103_5)).trans hx103_5
         replace hx103_6:=(HB.out.cell (World.block_lt_of_cell? w _ hx103_6)).trans hx103_6
         have HR103_5:=Aside0.mk hi103_5
         have HC103_5:=Aside0.mk hl103_5
         clear hi103_5 hl103_5
         have HR103_6:=Aside0.mk hi103_6
         have HC103_6:=Aside0.mk hl103_6
         clear hi103_6 hl103_6
         replace p103:=eq_true p103
         replace q103:=eq_true q103
         refine start_ (n:=13) (S:=fun w'=>w'.cell? ⟨gb101,0,none⟩=some (.int .i64 a1_0)∧w'.cell? ⟨gb101,1,none⟩=some (.int .i64 a1_1)∧w'.cell? ⟨gb101,2,none⟩=some (.int .i64 a1_2)∧w'.cell? ⟨gb101,3,none⟩=some (.int .i64 a1_3)∧w'.cell? (ad103.add ((a1_0).toNat * 7))=some (.string ((rd_T53 l0 a1_0).f0))∧w'.cell? ⟨(ad103.add ((a1_0).toNat * 7)).block,(ad103.add ((a1_0).toNat * 7)).off+1,none⟩=some (.int .i64 ((rd_T53 l0 a1_0).f1))∧w'.cell? ⟨(ad103.add ((a1_0).toNat * 7)).block,(ad103.add ((a1_0).toNat * 7)).off+2,none⟩=some (.int .i64 ((rd_T53 l0 a1_0).f2))∧w'.cell? ⟨(ad103.add ((a1_0).toNat * 7)).block,(ad103.add ((a1_0).toNat * 7)).off+3,none⟩=some (.int .i64 ((rd_T53 l0 a1_0).f3))∧w'.cell? ⟨(ad103.add ((a1_0).toNat * 7)).block,(ad103.add ((a1_0).toNat * 7)).off+4,none⟩=some (.int .i64 ((rd_T53 l0 a1_0).f4))∧w'.cell? ⟨(ad103.add ((a1_0).toNat * 7)).block,(ad103.add ((a1_0).toNat * 7)).off+5,none⟩=some (.slice A103_5 ((rd_T53 l0 a1_0).f5).length c103_5)∧w'.cell? ⟨(ad103.add ((a1_0).toNat * 7)).block,(ad103.add ((a1_0).toNat * 7)).off+6,none⟩=some (.slice A103_6 ((rd_T53 l0 a1_0).f6).length c103_6)) (ds:=[]) (bitsA 13 0) (by kernel_rfl) rfl rfl ⟨(blk_cell BK101.out 0).trans rfl,(blk_cell BK101.out 1).trans rfl,(blk_cell BK101.out 2).trans rfl,(blk_cell BK101.out 3).trans rfl,((HB.out.cell (World.block_lt_of_cell? w _ hw103_0)).trans hw103_0),((HB.out.cell (World.block_lt_of_cell? w _ hw103_1)).trans hw103_1),((HB.out.cell (World.block_lt_of_cell? w _ hw103_2)).trans hw103_2),((HB.out.cell (World.block_lt_of_cell? w _ hw103_3)).trans hw103_3),((HB.out.cell (World.block_lt_of_cell? w _ hw103_4)).trans hw103_4),((HB.out.cell (World.block_lt_of_cell? w _ hw103_5)).trans hw103_5),((HB.out.cell (World.block_lt_of_cell? w _ hw103_6)).trans hw103_6)⟩ (fun hHeld=>?_);refine with_tabW sawmillref50_Amount.tab6 sawmillref50_Amount.bits6 (fun HT_ HW_=>?_)
         generalize wc.drew=w17 at BK101 HB HR103_5 HR103_6 hx103_0 hx103_1 hx103_2 hx103_3 hx103_4 hx103_5 hx103_6 hHeld ⊢
         refine pure_ (i:=0) (N:=some 26) (v:=?_) (a':=?_) (bitsA 13 1) rfl rfl (any_of HT_.out (by kernel_rfl)) (fun _ _ _ h=>h) (Or.inl ⟨by rfl,?_⟩) ?_ ?_
         rotate_left;(intro w';go_simp;with_reducible rfl);rotate_left;(simp only [Act.put,List.setIfInBounds_toArray,List.set_cons_zero,List.set_cons_succ,i64_w,i32_w];rfl)
         refine pure_ (i:=1) (N:=some 27) (v:=?_) (a':=?_) (bitsA 13 3) rfl rfl (any_of HT_.out (by kernel_rfl)) (fun _ _ _ h=>h) (Or.inl ⟨by rfl,?_⟩) ?_ ?_
         rotate_left;(intro w';go_simp;with_reducible rfl);rotate_left;(simp only [Act.put,List.setIfInBounds_toArray,List.set_cons_zero,List.set_cons_succ,i64_w,i32_w];rfl)
         refine pure_ (i:=5) (N:=some 31) (v:=?_) (a':=?_) (bitsA 13 35) rfl rfl (any_of HT_.out (by kernel_rfl)) (fun _ _ _ h=>h) (Or.inl ⟨by rfl,?_⟩) ?_ ?_
         rotate_left;(intro w';go_simp;with_reducible rfl);rotate_left;(simp only [Act.put,List.setIfInBounds_toArray,List.set_cons_zero,List.set_cons_succ,i64_w,i32_w];rfl)
         refine take_ (i:=2) (N:=some 28) (v:=?_) (a':=?_) (bitsA 13 39) rfl rfl (take_ofW HT_.out HW_.out (by kernel_rfl)) (fun _ _ _ h=>h) (Or.inl ⟨by rfl,?_⟩) hHeld ?_ ?_
         rotate_left;(rintro w' ⟨s0,s1,s2,s3,s4,s5,s6,s7,s8,s9,s10⟩;go_simp;with_reducible rfl);rotate_left;(simp only [Act.put,List.setIfInBounds_toArray,List.set_cons_zero,List.set_cons_succ,i64_w,i32_w];rfl)
         refine pure_ (i:=3) (N:=some 29) (v:=?_) (a':=?_) (bitsA 13 47) rfl rfl (any_of HT_.out (by kernel_rfl)) (fun _ _ _ h=>h) (Or.inl ⟨by rfl,?_⟩) ?_ ?_
         rotate_left;(intro w';go_simp;with_reducible rfl);rotate_left;(simp only [Act.put,List.setIfInBounds_toArray,List.set_cons_zero,List.set_cons_succ,i64_w,i32_w];rfl)
         refine take_ (i:=4) (N:=some 30) (v:=?_) (a':=?_) (bitsA 13 63) rfl rfl (take_ofW HT_.out HW_.out (by kernel_rfl)) (fun _ _ _ h=>h) (Or.inl ⟨by rfl,?_⟩) hHeld ?_ ?_
         rotate_left;(rintro w' ⟨s0,s1,s2,s3,s4,s5,s6,s7,s8,s9,s10⟩;go_simp;with_reducible rfl);rotate_left;(simp only [Act.put,List.setIfInBounds_toArray,List.set_cons_zero,List.set_cons_succ,i64_w,i32_w];rfl)
         refine take_ (i:=6) (N:=some 32) (v:=?_) (a':=?_) (bitsA 13 127) rfl rfl (take_ofW HT_.out HW_.out (by kernel_rfl)) (fun _ _ _ h=>h) (Or.inl ⟨by rfl,?_⟩) hHeld ?_ ?_
         rotate_left;(rintro w' ⟨s0,s1,s2,s3,s4,s5,s6,s7,s8,s9,s10⟩;go_simp;with_reducible rfl);rotate_left;(simp only [Act.put,List.setIfInBounds_toArray,List.set_cons_zero,List.set_cons_succ,i64_w,i32_w];rfl)
         refine one_ (i:=7) (N:=some 33) (bitsA 13 255) rfl rfl (one_of HT_.out (by kernel_rfl)) (by decide) (fun K hK=>?_)
         refine goes_ Tryd.func32 (by kernel_rfl) rfl #[.agg #[.string ((rd_T53 l0 a1_0).f0),.int .i64 ((rd_T53 l0 a1_0).f1),.int .i64 ((rd_T53 l0 a1_0).f2),.int .i64 ((rd_T53 l0 a1_0).f3),.int .i64 ((rd_T53 l0 a1_0).f4),.slice A103_5 ((rd_T53 l0 a1_0).f5).length c103_5,.slice A103_6 ((rd_T53 l0 a1_0).f6).length c103_6],.int .i64 a1_1] (by rfl) rfl rfl (by (try simp only [List.map_toArray,List.map_cons,List.map_nil]);first|done|rfl|(simp only [List.length_drop,List.length_take];rfl)) ?_
         with_reducible refine (sawmillref19_Price.calls kj4 ((rd_T53 l0 a1_0).f0) ((rd_T53 l0 a1_0).f1) ((rd_T53 l0 a1_0).f2) ((rd_T53 l0 a1_0).f3) ((rd_T53 l0 a1_0).f4) _ _ ((rd_T53 l0 a1_0).f5) _ _ ((rd_T53 l0 a1_0).f6) a1_1 t104 true _ ?side1 ?side2 ?side3 ?side4 A14.out).mono ?_
         (case side1=>repeat (first|exact (Kd.C_below HR103_5.out HB.out)|(with_reducible refine Kd.C_alloc ?_ _)|(with_reducible refine Kd.C_drewN ?_ _)|(with_reducible refine Kd.C_drew ?_)))
         (case side2=>exact HC103_5.out)
         (case side3=>repeat (first|exact (Kd.C_below HR103_6.out HB.out)|(with_reducible refine Kd.C_alloc ?_ _)|(with_reducible refine Kd.C_drewN ?_ _)|(with_reducible refine Kd.C_drew ?_)))
         (case side4=>exact HC103_6.out)
         rintro e w18 ⟨rfl,hb⟩
         refine ⟨_,rfl,?_⟩
         have n0_:=Aside0.mk (blk_below (g:=gb101) (o:=.cells #[.int .i64 a1_0,.int .i64 a1_1,.int .i64 a1_2,.int .i64 a1_3] 38 (0,0)) (by (with_reducible repeat (first|refine blk_drewN ?_ _|refine blk_drew ?_|refine blk_alloc ?_ _));exact BK101.out) hb)
         have n1_:=Aside0.mk (below_step (by repeat (first|(with_reducible first|exact HB.out|apply below_alloc|apply pw_below_drewN|apply below_drew1|refine below_set ?_ GE101.out)|exact HB.out)) hb)
         clear BK101
         clear HB
         have BK101:=n0_
         have HB:=n1_
         clear n0_ n1_
         (try clear hb)
         (try clear hb2)
         (try clear hk)
         (try clear hi)
         refine hK.out _ _ ⟨(blk_cell BK101.out 0).trans rfl,(blk_cell BK101.out 1).trans rfl,(blk_cell BK101.out 2).trans rfl,(blk_cell BK101.out 3).trans rfl,((HB.out.cell (World.block_lt_of_cell? w _ hw103_0)).trans hw103_0),((HB.out.cell (World.block_lt_of_cell? w _ hw103_1)).trans hw103_1),((HB.out.cell (World.block_lt_of_cell? w _ hw103_2)).trans hw103_2),((HB.out.cell (World.block_lt_of_cell? w _ hw103_3)).trans hw103_3),((HB.out.cell (World.block_lt_of_cell? w _ hw103_4)).trans hw103_4),((HB.out.cell (World.block_lt_of_cell? w _ hw103_5)).trans hw103_5),((HB.out.cell (World.block_lt_of_cell? w _ hw103_6)).trans hw103_6)⟩ (fun hHeld=>?_)
         clear hK K
         refine norm_ (a':=?_) ?_ ?_
         rotate_left
         ·show Act.put _ (some 33) _=_
          simp only [Act.put,List.setIfInBounds_toArray,List.set_cons_zero,List.set_cons_succ,i64_w,i32_w]
          rfl
         refine pure_ (i:=8) (N:=some 25) (v:=?_) (a':=?_) (bitsA 13 511) rfl rfl (any_of HT_.out (by kernel_rfl)) (fun _ _ _ h=>h) (Or.inl ⟨by rfl,?_⟩) ?_ ?_
         rotate_left;(intro w';go_simp;with_reducible rfl);rotate_left;(simp only [Act.put,List.setIfInBounds_toArray,List.set_cons_zero,List.set_cons_succ,i64_w,i32_w];rfl)
         refine pure_ (i:=9) (N:=some 34) (v:=?_) (a':=?_) (bitsA 13 1023) rfl rfl (any_of HT_.out (by kernel_rfl)) (fun _ _ _ h=>h) (Or.inl ⟨by rfl,?_⟩) ?_ ?_
         rotate_left;(intro w';go_simp;with_reducible rfl);rotate_left;(simp only [Act.put,List.setIfInBounds_toArray,List.set_cons_zero,List.set_cons_succ,i64_w,i32_w];rfl)
         refine pure_ (i:=10) (N:=some 35) (v:=?_) (a':=?_) (bitsA 13 2047) rfl rfl (any_of HT_.out (by kernel_rfl)) (fun _ _ _ h=>h) (Or.inl ⟨by rfl,?_⟩) ?_ ?_
         rotate_left;(intro w';go_simp;with_reducible rfl);rotate_left;(simp only [Act.put,List.setIfInBounds_toArray,List.set_cons_zero,List.set_cons_succ,i64_w,i32_w];rfl)
         refine pure_ (i:=11) (N:=some 7) (v:=?_) (a':=?_) (bitsA 13 4095) rfl rfl (any_of HT_.out (by kernel_rfl)) (fun _ _ _ h=>h) (Or.inl ⟨by rfl,?_⟩) ?_ ?_
         rotate_left;(intro w';go_simp;with_reducible rfl);rotate_left;(simp only [Act.put,List.setIfInBounds_toArray,List.set_cons_zero,List.set_cons_succ,i64_w,i32_w];rfl)
         refine pure_ (i:=12) (N:=some 8) (v:=?_) (a':=?_) (bitsA 13 8191) rfl rfl (any_of HT_.out (by kernel_rfl)) (fun _ _ _ h=>h) (Or.inl ⟨by rfl,?_⟩) ?_ ?_
         rotate_left;(intro w';go_simp;with_reducible rfl);rotate_left;(simp only [Act.put,List.setIfInBounds_toArray,List.set_cons_zero,List.set_cons_succ,i64_w,i32_w];rfl)
         refine done_ (done_of HT_.out (by kernel_rfl)) ?_
         have hcz19_0:w18.cell? ⟨gb101,0,none⟩=some (.int .i64 a1_0):=(blk_cell BK101.out 0).trans rfl
         have hcz19_1:w18.cell? ⟨gb101,1,none⟩=some (.int .i64 a1_1):=(blk_cell BK101.out 1).trans rfl
         have hcz19_2:w18.cell? ⟨gb101,2,none⟩=some (.int .i64 a1_2):=(blk_cell BK101.out 2).trans rfl
         have hcz19_3:w18.cell? ⟨gb101,3,none⟩=some (.int .i64 a1_3):=(blk_cell BK101.out 3).trans rfl
         have hfz19_0:=blk_frozen BK101.out 0
         have hfz19_1:=blk_frozen BK101.out 1
         have hfz19_2:=blk_frozen BK101.out 2
         have hfz19_3:=blk_frozen BK101.out 3
         try go_wp2
         go_ret2
         exact ⟨by first|rfl|(simp [errW_none,errW_some]<;>rfl)|(simp [*,errW_none,errW_some]<;>rfl),by repeat (first|(with_reducible first|exact HB.out|apply below_alloc|apply pw_below_drewN|apply below_drew1|refine below_set ?_ GE101.out)|exact HB.out)⟩
        ·rw [if_neg c16] at H
         have c16b0:decide (a1_2 < 0)=false:=decide_eq_false c16
         clear c16
         by_cases c20:a1_2 > 200
         ·rw [if_pos c20] at H
          have c20b0:decide (200 < a1_2)=true:=decide_eq_true c20
          clear c20
          simp only [Option.some.injEq,Prod.mk.injEq] at H
          obtain ⟨rfl,rfl⟩:=H
          try go_wp2
          have n0_:=Aside0.mk (blk_drew BK101.out)
          have n1_:=Aside0.mk (below_drew1 HB.out)
          clear BK101
          clear HB
          have BK101:=n0_
          have HB:=n1_
          clear n0_ n1_
          have p103:0≤(a1_0:Int):=of_decide_eq_true (by first|(with_reducible assumption)|assumption)
          have q103:a1_0 < (l0.length:Int):=of_decide_eq_true (by first|(with_reducible assumption)|assumption)
          obtain ⟨ad103,A103_5,c103_5,A103_6,c103_6,e103,hx103_0,hx103_1,hx103_2,hx103_3,hx103_4,hx103_5,hx103_6,hl103_5,hi103_5,hl103_6,hi103_6⟩:=at_T53 HR0.out a1_0 p103 q103
          have hw103_6:=hx103_6
          have hw103_5:=hx103_5
          have hw103_4:=hx103_4
          have hw103_3:=hx103_3
          have hw103_2:=hx103_2
          have hw103_1:=hx103_1
          have hw103_0:=hx103_0
          cases e103
          replace hx103_0:=(HB.out.cell (World.block_lt_of_cell? w _ hx103_0)).trans hx103_0
          replace hx103_1:=(HB.out.cell (World.block_lt_of_cell? w _ hx103_1)).trans hx103_1
          replace hx103_2:=(HB.out.cell (World.block_lt_of_cell? w _ hx103_2)).trans hx103_2
          replace hx103_3:=(HB.out.cell (World.block_lt_of_cell? w _ hx103_3)).trans hx103_3
          replace hx103_4:=(HB.out.cell (World.block_lt_of_cell? w _ hx103_4)).trans hx103_4
          replace hx103_5:=(HB.out.cell (World.block_lt_of_cell? w _ hx103_5)).trans hx103_5
          replace hx103_6:=(HB.out.cell (World.block_lt_of_cell? w _ hx103_6)).trans hx103_6
          have HR103_5:=Aside0.mk hi103_5
          have HC103_5:=Aside0.mk hl103_5
          clear hi103_5 hl103_5
          have HR103_6:=Aside0.mk hi103_6
          have HC103_6:=Aside0.mk hl103_6
          clear hi103_6 hl103_6
          replace p103:=eq_true p103
          replace q103:=eq_true q103
          refine start_ (n:=13) (S:=fun w'=>w'.cell? ⟨gb101,0,none⟩=some (.int .i64 a1_0)∧w'.cell? ⟨gb101,1,none⟩=some (.int .i64 a1_1)∧w'.cell? ⟨gb101,2,none⟩=some (.int .i64 a1_2)∧w'.cell? ⟨gb101,3,none⟩=some (.int .i64 a1_3)∧w'.cell? (ad103.add ((a1_0).toNat * 7))=some (.string ((rd_T53 l0 a1_0).f0))∧w'.cell? ⟨(ad103.add ((a1_0).toNat * 7)).block,(ad103.add ((a1_0).toNat * 7)).off+1,none⟩=some (.int .i64 ((rd_T53 l0 a1_0).f1))∧w'.cell? ⟨(ad103.add ((a1_0).toNat * 7)).block,(ad103.add ((a1_0).toNat * 7)).off+2,none⟩=some (.int .i64 ((rd_T53 l0 a1_0).f2))∧w'.cell? ⟨(ad103.add ((a1_0).toNat * 7)).block,(ad103.add ((a1_0).toNat * 7)).off+3,none⟩=some (.int .i64 ((rd_T53 l0 a1_0).f3))∧w'.cell? ⟨(ad103.add ((a1_0).toNat * 7)).block,(ad103.add ((a1_0).toNat * 7)).off+4,none⟩=some (.int .i64 ((rd_T53 l0 a1_0).f4))∧w'.cell? ⟨(ad103.add ((a1_0).toNat * 7)).block,(ad103.add ((a1_0).toNat * 7)).off+5,none⟩=some (.slice A103_5 ((rd_T53 l0 a1_0).f5).length c103_5)∧w'.cell? ⟨(ad103.add ((a1_0).toNat * 7)).block,(ad103.add ((a1_0).toNat * 7)).off+6,none⟩=some (.slice A103_6 ((rd_T53 l0 a1_0).f6).length c103_6)) (ds:=[]) (bitsA 13 0) (by kernel_rfl) rfl rfl ⟨(blk_cell BK101.out 0).trans rfl,(blk_cell BK101.out 1).trans rfl,(blk_cell BK101.out 2).trans rfl,(blk_cell BK101.out 3).trans rfl,((HB.out.cell (World.block_lt_of_cell? w _ hw103_0)).trans hw103_0),((HB.out.cell (World.block_lt_of_cell? w _ hw103_1)).trans hw103_1),((HB.out.cell (World.block_lt_of_cell? w _ hw103_2)).trans hw103_2),((HB.out.cell (World.block_lt_of_cell? w _ hw103_3)).trans hw103_3),((HB.out.cell (World.block_lt_of_cell? w _ hw103_4)).trans hw103_4),((HB.out.cell (World.block_lt_of_cell? w _ hw103_5)).trans hw103_5),((HB.out.cell (World.block_lt_of_cell? w _ hw103_6)).trans hw103_6)⟩ (fun hHeld=>?_);refine with_tabW sawmillref50_Amount.tab6 sawmillref50_Amount.bits6 (fun HT_ HW_=>?_)
          generalize wc.drew=w21 at BK101 HB HR103_5 HR103_6 hx103_0 hx103_1 hx103_2 hx103_3 hx103_4 hx103_5 hx103_6 hHeld ⊢
          refine pure_ (i:=0) (N:=some 26) (v:=?_) (a':=?_) (bitsA 13 1) rfl rfl (any_of HT_.out (by kernel_rfl)) (fun _ _ _ h=>h) (Or.inl ⟨by rfl,?_⟩) ?_ ?_
          rotate_left;(intro w';go_simp;with_reducible rfl);rotate_left;(simp only [Act.put,List.setIfInBounds_toArray,List.set_cons_zero,List.set_cons_succ,i64_w,i32_w];rfl)
          refine pure_ (i:=1) (N:=some 27) (v:=?_) (a':=?_) (bitsA 13 3) rfl rfl (any_of HT_.out (by kernel_rfl)) (fun _ _ _ h=>h) (Or.inl ⟨by rfl,?_⟩) ?_ ?_
          rotate_left;(intro w';go_simp;with_reducible rfl);rotate_left;(simp only [Act.put,List.setIfInBounds_toArray,List.set_cons_zero,List.set_cons_succ,i64_w,i32_w];rfl)
          refine pure_ (i:=5) (N:=some 31) (v:=?_) (a':=?_) (bitsA 13 35) rfl rfl (any_of HT_.out (by kernel_rfl)) (fun _ _ _ h=>h) (Or.inl ⟨by rfl,?_⟩) ?_ ?_
          rotate_left;(intro w';go_simp;with_reducible rfl);rotate_left;(simp only [Act.put,List.setIfInBounds_toArray,List.set_cons_zero,List.set_cons_succ,i64_w,i32_w];rfl)
          refine take_ (i:=2) (N:=some 28) (v:=?_) (a':=?_) (bitsA 13 39) rfl rfl (take_ofW HT_.out HW_.out (by kernel_rfl)) (fun _ _ _ h=>h) (Or.inl ⟨by rfl,?_⟩) hHeld ?_ ?_
          rotate_left;(rintro w' ⟨s0,s1,s2,s3,s4,s5,s6,s7,s8,s9,s10⟩;go_simp;with_reducible rfl);rotate_left;(simp only [Act.put,List.setIfInBounds_toArray,List.set_cons_zero,List.set_cons_succ,i64_w,i32_w];rfl)
          refine pure_ (i:=3) (N:=some 29) (v:=?_) (a':=?_) (bitsA 13 47) rfl rfl (any_of HT_.out (by kernel_rfl)) (fun _ _ _ h=>h) (Or.inl ⟨by rfl,?_⟩) ?_ ?_
          rotate_left;(intro w';go_simp;with_reducible rfl);rotate_left;(simp only [Act.put,List.setIfInBounds_toArray,List.set_cons_zero,List.set_cons_succ,i64_w,i32_w];rfl)
          refine take_ (i:=4) (N:=some 30) (v:=?_) (a':=?_) (bitsA 13 63) rfl rfl (take_ofW HT_.out HW_.out (by kernel_rfl)) (fun _ _ _ h=>h) (Or.inl ⟨by rfl,?_⟩) hHeld ?_ ?_
          rotate_left;(rintro w' ⟨s0,s1,s2,s3,s4,s5,s6,s7,s8,s9,s10⟩;go_simp;with_reducible rfl);rotate_left;(simp only [Act.put,List.setIfInBounds_toArray,List.set_cons_zero,List.set_cons_succ,i64_w,i32_w];rfl)
          refine take_ (i:=6) (N:=some 32) (v:=?_) (a':=?_) (bitsA 13 127) rfl rfl (take_ofW HT_.out HW_.out (by kernel_rfl)) (fun _ _ _ h=>h) (Or.inl ⟨by rfl,?_⟩) hHeld ?_ ?_
          rotate_left;(rintro w' ⟨s0,s1,s2,s3,s4,s5,s6,s7,s8,s9,s10⟩;go_simp;with_reducible rfl);rotate_left;(simp only [Act.put,List.setIfInBounds_toArray,List.set_cons_zero,List.set_cons_succ,i64_w,i32_w];rfl)
          refine one_ (i:=7) (N:=some 33) (bitsA 13 255) rfl rfl (one_of HT_.out (by kernel_rfl)) (by decide) (fun K hK=>?_)
          refine goes_ Tryd.func32 (by kernel_rfl) rfl #[.agg #[.string ((rd_T53 l0 a1_0).f0),.int .i64 ((rd_T53 l0 a1_0).f1),.int .i64 ((rd_T53 l0 a1_0).f2),.int .i64 ((rd_T53 l0 a1_0).f3),.int .i64 ((rd_T53 l0 a1_0).f4),.slice A103_5 ((rd_T53 l0 a1_0).f5).length c103_5,.slice A103_6 ((rd_T53 l0 a1_0).f6).length c103_6],.int .i64 a1_1] (by rfl) rfl rfl (by (try simp only [List.map_toArray,List.map_cons,List.map_nil]);first|done|rfl|(simp only [List.length_drop,List.length_take];rfl)) ?_
          with_reducible refine (sawmillref19_Price.calls kj4 ((rd_T53 l0 a1_0).f0) ((rd_T53 l0 a1_0).f1) ((rd_T53 l0 a1_0).f2) ((rd_T53 l0 a1_0).f3) ((rd_T53 l0 a1_0).f4) _ _ ((rd_T53 l0 a1_0).f5) _ _ ((rd_T53 l0 a1_0).f6) a1_1 t104 true _ ?side1 ?side2 ?side3 ?side4 A14.out).mono ?_
          (case side1=>repeat (first|exact (Kd.C_below HR103_5.out HB.out)|(with_reducible refine Kd.C_alloc ?_ _)|(with_reducible refine Kd.C_drewN ?_ _)|(with_reducible refine Kd.C_drew ?_)))
          (case side2=>exact HC103_5.out)
          (case side3=>repeat (first|exact (Kd.C_below HR103_6.out HB.out)|(with_reducible refine Kd.C_alloc ?_ _)|(with_reducible refine Kd.C_drewN ?_ _)|(with_reducible refine Kd.C_drew ?_)))
          (case side4=>exact HC103_6.out)
          rintro e w22 ⟨rfl,hb⟩
          refine ⟨_,rfl,?_⟩
          have n0_:=Aside0.mk (blk_below (g:=gb101) (o:=.cells #[.int .i64 a1_0,.int .i64 a1_1,.int .i64 a1_2,.int .i64 a1_3] 38 (0,0)) (by (with_reducible repeat (first|refine blk_drewN ?_ _|refine blk_drew ?_|refine blk_alloc ?_ _));exact BK101.out) hb)
          have n1_:=Aside0.mk (below_step (by repeat (first|(with_reducible first|exact HB.out|apply below_alloc|apply pw_below_drewN|apply below_drew1|refine below_set ?_ GE101.out)|exact HB.out)) hb)
          clear BK101
          clear HB
          have BK101:=n0_
          have HB:=n1_
          clear n0_ n1_
          (try clear hb)
          (try clear hb2)
          (try clear hk)
          (try clear hi)
          refine hK.out _ _ ⟨(blk_cell BK101.out 0).trans rfl,(blk_cell BK101.out 1).trans rfl,(blk_cell BK101.out 2).trans rfl,(blk_cell BK101.out 3).trans rfl,((HB.out.cell (World.block_lt_of_cell? w _ hw103_0)).trans hw103_0),((HB.out.cell (World.block_lt_of_cell? w _ hw103_1)).trans hw103_1),((HB.out.cell (World.block_lt_of_cell? w _ hw103_2)).trans hw103_2),((HB.out.cell (World.block_lt_of_cell? w _ hw103_3)).trans hw103_3),((HB.out.cell (World.block_lt_of_cell? w _ hw103_4)).trans hw103_4),((HB.out.cell (World.block_lt_of_cell? w _ hw103_5)).trans hw103_5),((HB.out.cell (World.block_lt_of_cell? w _ hw103_6)).trans hw103_6)⟩ (fun hHeld=>?_)
          clear hK K
          refine norm_ (a':=?_) ?_ ?_
          rotate_left
          ·show Act.put _ (some 33) _=_
           simp only [Act.put,List.setIfInBounds_toArray,List.set_cons_zero,List.set_cons_succ,i64_w,i32_w]
           rfl
          refine pure_ (i:=8) (N:=some 25) (v:=?_) (a':=?_) (bitsA 13 511) rfl rfl (any_of HT_.out (by kernel_rfl)) (fun _ _ _ h=>h) (Or.inl ⟨by rfl,?_⟩) ?_ ?_
          rotate_left;(intro w';go_simp;with_reducible rfl);rotate_left;(simp only [Act.put,List.setIfInBounds_toArray,List.set_cons_zero,List.set_cons_succ,i64_w,i32_w];rfl)
          refine pure_ (i:=9) (N:=some 34) (v:=?_) (a':=?_) (bitsA 13 1023) rfl rfl (any_of HT_.out (by kernel_rfl)) (fun _ _ _ h=>h) (Or.inl ⟨by rfl,?_⟩) ?_ ?_
          rotate_left;(intro w';go_simp;with_reducible rfl);rotate_left;(simp only [Act.put,List.setIfInBounds_toArray,List.set_cons_zero,List.set_cons_succ,i64_w,i32_w];rfl)
          refine pure_ (i:=10) (N:=some 35) (v:=?_) (a':=?_) (bitsA 13 2047) rfl rfl (any_of HT_.out (by kernel_rfl)) (fun _ _ _ h=>h) (Or.inl ⟨by rfl,?_⟩) ?_ ?_
          rotate_left;(intro w';go_simp;with_reducible rfl);rotate_left;(simp only [Act.put,List.setIfInBounds_toArray,List.set_cons_zero,List.set_cons_succ,i64_w,i32_w];rfl)
          refine pure_ (i:=11) (N:=some 7) (v:=?_) (a':=?_) (bitsA 13 4095) rfl rfl (any_of HT_.out (by kernel_rfl)) (fun _ _ _ h=>h) (Or.inl ⟨by rfl,?_⟩) ?_ ?_
          rotate_left;(intro w';go_simp;with_reducible rfl);rotate_left;(simp only [Act.put,List.setIfInBounds_toArray,List.set_cons_zero,List.set_cons_succ,i64_w,i32_w];rfl)
          refine pure_ (i:=12) (N:=some 8) (v:=?_) (a':=?_) (bitsA 13 8191) rfl rfl (any_of HT_.out (by kernel_rfl)) (fun _ _ _ h=>h) (Or.inl ⟨by rfl,?_⟩) ?_ ?_
          rotate_left;(intro w';go_simp;with_reducible rfl);rotate_left;(simp only [Act.put,List.setIfInBounds_toArray,List.set_cons_zero,List.set_cons_succ,i64_w,i32_w];rfl)
          refine done_ (done_of HT_.out (by kernel_rfl)) ?_
          have hcz23_0:w22.cell? ⟨gb101,0,none⟩=some (.int .i64 a1_0):=(blk_cell BK101.out 0).trans rfl
          have hcz23_1:w22.cell? ⟨gb101,1,none⟩=some (.int .i64 a1_1):=(blk_cell BK101.out 1).trans rfl
          have hcz23_2:w22.cell? ⟨gb101,2,none⟩=some (.int .i64 a1_2):=(blk_cell BK101.out 2).trans rfl
          have hcz23_3:w22.cell? ⟨gb101,3,none⟩=some (.int .i64 a1_3):=(blk_cell BK101.out 3).trans rfl
          have hfz23_0:=blk_frozen BK101.out 0
          have hfz23_1:=blk_frozen BK101.out 1
          have hfz23_2:=blk_frozen BK101.out 2
          have hfz23_3:=blk_frozen BK101.out 3
          try go_wp2
          go_ret2
          exact ⟨by first|rfl|(simp [errW_none,errW_some]<;>rfl)|(simp [*,errW_none,errW_some]<;>rfl),by repeat (first|(with_reducible first|exact HB.out|apply below_alloc|apply pw_below_drewN|apply below_drew1|refine below_set ?_ GE101.out)|exact HB.out)⟩
         ·rw [if_neg c20] at H
          have c20b0:decide (200 < a1_2)=false:=decide_eq_false c20
          clear c20
          by_cases c24:a1_3 < 0
          ·rw [if_pos c24] at H
           have c24b0:decide (a1_3 < 0)=true:=decide_eq_true c24
           clear c24
           simp only [Option.some.injEq,Prod.mk.injEq] at H
           obtain ⟨rfl,rfl⟩:=H
           try go_wp2
           have n0_:=Aside0.mk (blk_drew BK101.out)
           have n1_:=Aside0.mk (below_drew1 HB.out)
           clear BK101
           clear HB
           have BK101:=n0_
           have HB:=n1_
           clear n0_ n1_
           have p103:0≤(a1_0:Int):=of_decide_eq_true (by first|(with_reducible assumption)|assumption)
           have q103:a1_0 < (l0.length:Int):=of_decide_eq_true (by first|(with_reducible assumption)|assumption)
           obtain ⟨ad103,A103_5,c103_5,A103_6,c103_6,e103,hx103_0,hx103_1,hx103_2,hx103_3,hx103_4,hx103_5,hx103_6,hl103_5,hi103_5,hl103_6,hi103_6⟩:=at_T53 HR0.out a1_0 p103 q103
           have hw103_6:=hx103_6
           have hw103_5:=hx103_5
           have hw103_4:=hx103_4
           have hw103_3:=hx103_3
           have hw103_2:=hx103_2
           have hw103_1:=hx103_1
           have hw103_0:=hx103_0
           cases e103
           replace hx103_0:=(HB.out.cell (World.block_lt_of_cell? w _ hx103_0)).trans hx103_0
           replace hx103_1:=(HB.out.cell (World.block_lt_of_cell? w _ hx103_1)).trans hx103_1
           replace hx103_2:=(HB.out.cell (World.block_lt_of_cell? w _ hx103_2)).trans hx103_2
           replace hx103_3:=(HB.out.cell (World.block_lt_of_cell? w _ hx103_3)).trans hx103_3
           replace hx103_4:=(HB.out.cell (World.block_lt_of_cell? w _ hx103_4)).trans hx103_4
           replace hx103_5:=(HB.out.cell (World.block_lt_of_cell? w _ hx103_5)).trans hx103_5
           replace hx103_6:=(HB.out.cell (World.block_lt_of_cell? w _ hx103_6)).trans hx103_6
           have HR103_5:=Aside0.mk hi103_5
           have HC103_5:=Aside0.mk hl103_5
           clear hi103_5 hl103_5
           have HR103_6:=Aside0.mk hi103_6
           have HC103_6:=Aside0.mk hl103_6
           clear hi103_6 hl103_6
           replace p103:=eq_true p103
           replace q103:=eq_true q103
           refine start_ (n:=13) (S:=fun w'=>w'.cell? ⟨gb101,0,none⟩=some (.int .i64 a1_0)∧w'.cell? ⟨gb101,1,none⟩=some (.int .i64 a1_1)∧w'.cell? ⟨gb101,2,none⟩=some (.int .i64 a1_2)∧w'.cell? ⟨gb101,3,none⟩=some (.int .i64 a1_3)∧w'.cell? (ad103.add ((a1_0).toNat * 7))=some (.string ((rd_T53 l0 a1_0).f0))∧w'.cell? ⟨(ad103.add ((a1_0).toNat * 7)).block,(ad103.add ((a1_0).toNat * 7)).off+1,none⟩=some (.int .i64 ((rd_T53 l0 a1_0).f1))∧w'.cell? ⟨(ad103.add ((a1_0).toNat * 7)).block,(ad103.add ((a1_0).toNat * 7)).off+2,none⟩=some (.int .i64 ((rd_T53 l0 a1_0).f2))∧w'.cell? ⟨(ad103.add ((a1_0).toNat * 7)).block,(ad103.add ((a1_0).toNat * 7)).off+3,none⟩=some (.int .i64 ((rd_T53 l0 a1_0).f3))∧w'.cell? ⟨(ad103.add ((a1_0).toNat * 7)).block,(ad103.add ((a1_0).toNat * 7)).off+4,none⟩=some (.int .i64 ((rd_T53 l0 a1_0).f4))∧w'.cell? ⟨(ad103.add ((a1_0).toNat * 7)).block,(ad103.add ((a1_0).toNat * 7)).off+5,none⟩=some (.slice A103_5 ((rd_T53 l0 a1_0).f5).length c103_5)∧w'.cell? ⟨(ad103.add ((a1_0).toNat * 7)).block,(ad103.add ((a1_0).toNat * 7)).off+6,none⟩=some (.slice A103_6 ((rd_T53 l0 a1_0).f6).length c103_6)) (ds:=[]) (bitsA 13 0) (by kernel_rfl) rfl rfl ⟨(blk_cell BK101.out 0).trans rfl,(blk_cell BK101.out 1).trans rfl,(blk_cell BK101.out 2).trans rfl,(blk_cell BK101.out 3).trans rfl,((HB.out.cell (World.block_lt_of_cell? w _ hw103_0)).trans hw103_0),((HB.out.cell (World.block_lt_of_cell? w _ hw103_1)).trans hw103_1),((HB.out.cell (World.block_lt_of_cell? w _ hw103_2)).trans hw103_2),((HB.out.cell (World.block_lt_of_cell? w _ hw103_3)).trans hw103_3),((HB.out.cell (World.block_lt_of_cell? w _ hw103_4)).trans hw103_4),((HB.out.cell (World.block_lt_of_cell? w _ hw103_5)).trans hw103_5),((HB.out.cell (World.block_lt_of_cell? w _ hw103_6)).trans hw103_6)⟩ (fun hHeld=>?_);refine with_tabW sawmillref50_Amount.tab6 sawmillref50_Amount.bits6 (fun HT_ HW_=>?_)
           generalize wc.drew=w25 at BK101 HB HR103_5 HR103_6 hx103_0 hx103_1 hx103_2 hx103_3 hx103_4 hx103_5 hx103_6 hHeld ⊢
           refine pure_ (i:=0) (N:=some 26) (v:=?_) (a':=?_) (bitsA 13 1) rfl rfl (any_of HT_.out (by kernel_rfl)) (fun _ _ _ h=>h) (Or.inl ⟨by rfl,?_⟩) ?_ ?_
           rotate_left;(intro w';go_simp;with_reducible rfl);rotate_left;(simp only [Act.put,List.setIfInBounds_toArray,List.set_cons_zero,List.set_cons_succ,i64_w,i32_w];rfl)
           refine pure_ (i:=1) (N:=some 27) (v:=?_) (a':=?_) (bitsA 13 3) rfl rfl (any_of HT_.out (by kernel_rfl)) (fun _ _ _ h=>h) (Or.inl ⟨by rfl,?_⟩) ?_ ?_
           rotate_left;(intro w';go_simp;with_reducible rfl);rotate_left;(simp only [Act.put,List.setIfInBounds_toArray,List.set_cons_zero,List.set_cons_succ,i64_w,i32_w];rfl)
           refine pure_ (i:=5) (N:=some 31) (v:=?_) (a':=?_) (bitsA 13 35) rfl rfl (any_of HT_.out (by kernel_rfl)) (fun _ _ _ h=>h) (Or.inl ⟨by rfl,?_⟩) ?_ ?_
           rotate_left;(intro w';go_simp;with_reducible rfl);rotate_left;(simp only [Act.put,List.setIfInBounds_toArray,List.set_cons_zero,List.set_cons_succ,i64_w,i32_w];rfl)
           refine take_ (i:=2) (N:=some 28) (v:=?_) (a':=?_) (bitsA 13 39) rfl rfl (take_ofW HT_.out HW_.out (by kernel_rfl)) (fun _ _ _ h=>h) (Or.inl ⟨by rfl,?_⟩) hHeld ?_ ?_
           rotate_left;(rintro w' ⟨s0,s1,s2,s3,s4,s5,s6,s7,s8,s9,s10⟩;go_simp;with_reducible rfl);rotate_left;(simp only [Act.put,List.setIfInBounds_toArray,List.set_cons_zero,List.set_cons_succ,i64_w,i32_w];rfl)
           refine pure_ (i:=3) (N:=some 29) (v:=?_) (a':=?_) (bitsA 13 47) rfl rfl (any_of HT_.out (by kernel_rfl)) (fun _ _ _ h=>h) (Or.inl ⟨by rfl,?_⟩) ?_ ?_
           rotate_left;(intro w';go_simp;with_reducible rfl);rotate_left;(simp only [Act.put,List.setIfInBounds_toArray,List.set_cons_zero,List.set_cons_succ,i64_w,i32_w];rfl)
           refine take_ (i:=4) (N:=some 30) (v:=?_) (a':=?_) (bitsA 13 63) rfl rfl (take_ofW HT_.out HW_.out (by kernel_rfl)) (fun _ _ _ h=>h) (Or.inl ⟨by rfl,?_⟩) hHeld ?_ ?_
           rotate_left;(rintro w' ⟨s0,s1,s2,s3,s4,s5,s6,s7,s8,s9,s10⟩;go_simp;with_reducible rfl);rotate_left;(simp only [Act.put,List.setIfInBounds_toArray,List.set_cons_zero,List.set_cons_succ,i64_w,i32_w];rfl)
           refine take_ (i:=6) (N:=some 32) (v:=?_) (a':=?_) (bitsA 13 127) rfl rfl (take_ofW HT_.out HW_.out (by kernel_rfl)) (fun _ _ _ h=>h) (Or.inl ⟨by rfl,?_⟩) hHeld ?_ ?_
           rotate_left;(rintro w' ⟨s0,s1,s2,s3,s4,s5,s6,s7,s8,s9,s10⟩;go_simp;with_reducible rfl);rotate_left;(simp only [Act.put,List.setIfInBounds_toArray,List.set_cons_zero,List.set_cons_succ,i64_w,i32_w];rfl)
           refine one_ (i:=7) (N:=some 33) (bitsA 13 255) rfl rfl (one_of HT_.out (by kernel_rfl)) (by decide) (fun K hK=>?_)
           refine goes_ Tryd.func32 (by kernel_rfl) rfl #[.agg #[.string ((rd_T53 l0 a1_0).f0),.int .i64 ((rd_T53 l0 a1_0).f1),.int .i64 ((rd_T53 l0 a1_0).f2),.int .i64 ((rd_T53 l0 a1_0).f3),.int .i64 ((rd_T53 l0 a1_0).f4),.slice A103_5 ((rd_T53 l0 a1_0).f5).length c103_5,.slice A103_6 ((rd_T53 l0 a1_0).f6).length c103_6],.int .i64 a1_1] (by rfl) rfl rfl (by (try simp only [List.map_toArray,List.map_cons,List.map_nil]);first|done|rfl|(simp only [List.length_drop,List.length_take];rfl)) ?_
           with_reducible refine (sawmillref19_Price.calls kj4 ((rd_T53 l0 a1_0).f0) ((rd_T53 l0 a1_0).f1) ((rd_T53 l0 a1_0).f2) ((rd_T53 l0 a1_0).f3) ((rd_T53 l0 a1_0).f4) _ _ ((rd_T53 l0 a1_0).f5) _ _ ((rd_T53 l0 a1_0).f6) a1_1 t104 true _ ?side1 ?side2 ?side3 ?side4 A14.out).mono ?_
           (case side1=>repeat (first|exact (Kd.C_below HR103_5.out HB.out)|(with_reducible refine Kd.C_alloc ?_ _)|(with_reducible refine Kd.C_drewN ?_ _)|(with_reducible refine Kd.C_drew ?_)))
           (case side2=>exact HC103_5.out)
           (case side3=>repeat (first|exact (Kd.C_below HR103_6.out HB.out)|(with_reducible refine Kd.C_alloc ?_ _)|(with_reducible refine Kd.C_drewN ?_ _)|(with_reducible refine Kd.C_drew ?_)))
           (case side4=>exact HC103_6.out)
           rintro e w26 ⟨rfl,hb⟩
           refine ⟨_,rfl,?_⟩
           have n0_:=Aside0.mk (blk_below (g:=gb101) (o:=.cells #[.int .i64 a1_0,.int .i64 a1_1,.int .i64 a1_2,.int .i64 a1_3] 38 (0,0)) (by (with_reducible repeat (first|refine blk_drewN ?_ _|refine blk_drew ?_|refine blk_alloc ?_ _));exact BK101.out) hb)
           have n1_:=Aside0.mk (below_step (by repeat (first|(with_reducible first|exact HB.out|apply below_alloc|apply pw_below_drewN|apply below_drew1|refine below_set ?_ GE101.out)|exact HB.out)) hb)
           clear BK101
           clear HB
           have BK101:=n0_
           have HB:=n1_
           clear n0_ n1_
           (try clear hb)
           (try clear hb2)
           (try clear hk)
           (try clear hi)
           refine hK.out _ _ ⟨(blk_cell BK101.out 0).trans rfl,(blk_cell BK101.out 1).trans rfl,(blk_cell BK101.out 2).trans rfl,(blk_cell BK101.out 3).trans rfl,((HB.out.cell (World.block_lt_of_cell? w _ hw103_0)).trans hw103_0),((HB.out.cell (World.block_lt_of_cell? w _ hw103_1)).trans hw103_1),((HB.out.cell (World.block_lt_of_cell? w _ hw103_2)).trans hw103_2),((HB.out.cell (World.block_lt_of_cell? w _ hw103_3)).trans hw103_3),((HB.out.cell (World.block_lt_of_cell? w _ hw103_4)).trans hw103_4),((HB.out.cell (World.block_lt_of_cell? w _ hw103_5)).trans hw103_5),((HB.out.cell (World.block_lt_of_cell? w _ hw103_6)).trans hw103_6)⟩ (fun hHeld=>?_)
           clear hK K
           refine norm_ (a':=?_) ?_ ?_
           rotate_left
           ·show Act.put _ (some 33) _=_
            simp only [Act.put,List.setIfInBounds_toArray,List.set_cons_zero,List.set_cons_succ,i64_w,i32_w]
            rfl
           refine pure_ (i:=8) (N:=some 25) (v:=?_) (a':=?_) (bitsA 13 511) rfl rfl (any_of HT_.out (by kernel_rfl)) (fun _ _ _ h=>h) (Or.inl ⟨by rfl,?_⟩) ?_ ?_
           rotate_left;(intro w';go_simp;with_reducible rfl);rotate_left;(simp only [Act.put,List.setIfInBounds_toArray,List.set_cons_zero,List.set_cons_succ,i64_w,i32_w];rfl)
           refine pure_ (i:=9) (N:=some 34) (v:=?_) (a':=?_) (bitsA 13 1023) rfl rfl (any_of HT_.out (by kernel_rfl)) (fun _ _ _ h=>h) (Or.inl ⟨by rfl,?_⟩) ?_ ?_
           rotate_left;(intro w';go_simp;with_reducible rfl);rotate_left;(simp only [Act.put,List.setIfInBounds_toArray,List.set_cons_zero,List.set_cons_succ,i64_w,i32_w];rfl)
           refine pure_ (i:=10) (N:=some 35) (v:=?_) (a':=?_) (bitsA 13 2047) rfl rfl (any_of HT_.out (by kernel_rfl)) (fun _ _ _ h=>h) (Or.inl ⟨by rfl,?_⟩) ?_ ?_
           rotate_left;(intro w';go_simp;with_reducible rfl);rotate_left;(simp only [Act.put,List.setIfInBounds_toArray,List.set_cons_zero,List.set_cons_succ,i64_w,i32_w];rfl)
           refine pure_ (i:=11) (N:=some 7) (v:=?_) (a':=?_) (bitsA 13 4095) rfl rfl (any_of HT_.out (by kernel_rfl)) (fun _ _ _ h=>h) (Or.inl ⟨by rfl,?_⟩) ?_ ?_
           rotate_left;(intro w';go_simp;with_reducible rfl);rotate_left;(simp only [Act.put,List.setIfInBounds_toArray,List.set_cons_zero,List.set_cons_succ,i64_w,i32_w];rfl)
           refine pure_ (i:=12) (N:=some 8) (v:=?_) (a':=?_) (bitsA 13 8191) rfl rfl (any_of HT_.out (by kernel_rfl)) (fun _ _ _ h=>h) (Or.inl ⟨by rfl,?_⟩) ?_ ?_
           rotate_left;(intro w';go_simp;with_reducible rfl);rotate_left;(simp only [Act.put,List.setIfInBounds_toArray,List.set_cons_zero,List.set_cons_succ,i64_w,i32_w];rfl)
           refine done_ (done_of HT_.out (by kernel_rfl)) ?_
           have hcz27_0:w26.cell? ⟨gb101,0,none⟩=some (.int .i64 a1_0):=(blk_cell BK101.out 0).trans rfl
           have hcz27_1:w26.cell? ⟨gb101,1,none⟩=some (.int .i64 a1_1):=(blk_cell BK101.out 1).trans rfl
           have hcz27_2:w26.cell? ⟨gb101,2,none⟩=some (.int .i64 a1_2):=(blk_cell BK101.out 2).trans rfl
           have hcz27_3:w26.cell? ⟨gb101,3,none⟩=some (.int .i64 a1_3):=(blk_cell BK101.out 3).trans rfl
           have hfz27_0:=blk_frozen BK101.out 0
           have hfz27_1:=blk_frozen BK101.out 1
           have hfz27_2:=blk_frozen BK101.out 2
           have hfz27_3:=blk_frozen BK101.out 3
           try go_wp2
           go_ret2
           exact ⟨by first|rfl|(simp [errW_none,errW_some]<;>rfl)|(simp [*,errW_none,errW_some]<;>rfl),by repeat (first|(with_reducible first|exact HB.out|apply below_alloc|apply pw_below_drewN|apply below_drew1|refine below_set ?_ GE101.out)|exact HB.out)⟩
          ·rw [if_neg c24] at H
           have c24b0:decide (a1_3 < 0)=false:=decide_eq_false c24
           clear c24
           by_cases c28:a1_3 > 1000000000
           ·rw [if_pos c28] at H
            have c28b0:decide (1000000000 < a1_3)=true:=decide_eq_true c28
            clear c28
            simp only [Option.some.injEq,Prod.mk.injEq] at H
            obtain ⟨rfl,rfl⟩:=H
            try go_wp2
            have n0_:=Aside0.mk (blk_drew BK101.out)
            have n1_:=Aside0.mk (below_drew1 HB.out)
            clear BK101
            clear HB
            have BK101:=n0_
            have HB:=n1_
            clear n0_ n1_
            have p103:0≤(a1_0:Int):=of_decide_eq_true (by first|(with_reducible assumption)|assumption)
            have q103:a1_0 < (l0.length:Int):=of_decide_eq_true (by first|(with_reducible assumption)|assumption)
            obtain ⟨ad103,A103_5,c103_5,A103_6,c103_6,e103,hx103_0,hx103_1,hx103_2,hx103_3,hx103_4,hx103_5,hx103_6,hl103_5,hi103_5,hl103_6,hi103_6⟩:=at_T53 HR0.out a1_0 p103 q103
            have hw103_6:=hx103_6
            have hw103_5:=hx103_5
            have hw103_4:=hx103_4
            have hw103_3:=hx103_3
            have hw103_2:=hx103_2
            have hw103_1:=hx103_1
            have hw103_0:=hx103_0
            cases e103
            replace hx103_0:=(HB.out.cell (World.block_lt_of_cell? w _ hx103_0)).trans hx103_0
            replace hx103_1:=(HB.out.cell (World.block_lt_of_cell? w _ hx103_1)).trans hx103_1
            replace hx103_2:=(HB.out.cell (World.block_lt_of_cell? w _ hx103_2)).trans hx103_2
            replace hx103_3:=(HB.out.cell (World.block_lt_of_cell? w _ hx103_3)).trans hx103_3
            replace hx103_4:=(HB.out.cell (World.block_lt_of_cell? w _ hx103_4)).trans hx103_4
            replace hx103_5:=(HB.out.cell (World.block_lt_of_cell? w _ hx103_5)).trans hx103_5
            replace hx103_6:=(HB.out.cell (World.block_lt_of_cell? w _ hx103_6)).trans hx103_6
            have HR103_5:=Aside0.mk hi103_5
            have HC103_5:=Aside0.mk hl103_5
            clear hi103_5 hl103_5
            have HR103_6:=Aside0.mk hi103_6
            have HC103_6:=Aside0.mk hl103_6
            clear hi103_6 hl103_6
            replace p103:=eq_true p103
            replace q103:=eq_true q103
            refine start_ (n:=13) (S:=fun w'=>w'.cell? ⟨gb101,0,none⟩=some (.int .i64 a1_0)∧w'.cell? ⟨gb101,1,none⟩=some (.int .i64 a1_1)∧w'.cell? ⟨gb101,2,none⟩=some (.int .i64 a1_2)∧w'.cell? ⟨gb101,3,none⟩=some (.int .i64 a1_3)∧w'.cell? (ad103.add ((a1_0).toNat * 7))=some (.string ((rd_T53 l0 a1_0).f0))∧w'.cell? ⟨(ad103.add ((a1_0).toNat * 7)).block,(ad103.add ((a1_0).toNat * 7)).off+1,none⟩=some (.int .i64 ((rd_T53 l0 a1_0).f1))∧w'.cell? ⟨(ad103.add ((a1_0).toNat * 7)).block,(ad103.add ((a1_0).toNat * 7)).off+2,none⟩=some (.int .i64 ((rd_T53 l0 a1_0).f2))∧w'.cell? ⟨(ad103.add ((a1_0).toNat * 7)).block,(ad103.add ((a1_0).toNat * 7)).off+3,none⟩=some (.int .i64 ((rd_T53 l0 a1_0).f3))∧w'.cell? ⟨(ad103.add ((a1_0).toNat * 7)).block,(ad103.add ((a1_0).toNat * 7)).off+4,none⟩=some (.int .i64 ((rd_T53 l0 a1_0).f4))∧w'.cell? ⟨(ad103.add ((a1_0).toNat * 7)).block,(ad103.add ((a1_0).toNat * 7)).off+5,none⟩=some (.slice A103_5 ((rd_T53 l0 a1_0).f5).length c103_5)∧w'.cell? ⟨(ad103.add ((a1_0).toNat * 7)).block,(ad103.add ((a1_0).toNat * 7)).off+6,none⟩=some (.slice A103_6 ((rd_T53 l0 a1_0).f6).length c103_6)) (ds:=[]) (bitsA 13 0) (by kernel_rfl) rfl rfl ⟨(blk_cell BK101.out 0).trans rfl,(blk_cell BK101.out 1).trans rfl,(blk_cell BK101.out 2).trans rfl,(blk_cell BK101.out 3).trans rfl,((HB.out.cell (World.block_lt_of_cell? w _ hw103_0)).trans hw103_0),((HB.out.cell (World.block_lt_of_cell? w _ hw103_1)).trans hw103_1),((HB.out.cell (World.block_lt_of_cell? w _ hw103_2)).trans hw103_2),((HB.out.cell (World.block_lt_of_cell? w _ hw103_3)).trans hw103_3),((HB.out.cell (World.block_lt_of_cell? w _ hw103_4)).trans hw103_4),((HB.out.cell (World.block_lt_of_cell? w _ hw103_5)).trans hw103_5),((HB.out.cell (World.block_lt_of_cell? w _ hw103_6)).trans hw103_6)⟩ (fun hHeld=>?_);refine with_tabW sawmillref50_Amount.tab6 sawmillref50_Amount.bits6 (fun HT_ HW_=>?_)
            generalize wc.drew=w29 at BK101 HB HR103_5 HR103_6 hx103_0 hx103_1 hx103_2 hx103_3 hx103_4 hx103_5 hx103_6 hHeld ⊢
            refine pure_ (i:=0) (N:=some 26) (v:=?_) (a':=?_) (bitsA 13 1) rfl rfl (any_of HT_.out (by kernel_rfl)) (fun _ _ _ h=>h) (Or.inl ⟨by rfl,?_⟩) ?_ ?_
            rotate_left;(intro w';go_simp;with_reducible rfl);rotate_left;(simp only [Act.put,List.setIfInBounds_toArray,List.set_cons_zero,List.set_cons_succ,i64_w,i32_w];rfl)
            refine pure_ (i:=1) (N:=some 27) (v:=?_) (a':=?_) (bitsA 13 3) rfl rfl (any_of HT_.out (by kernel_rfl)) (fun _ _ _ h=>h) (Or.inl ⟨by rfl,?_⟩) ?_ ?_
            rotate_left;(intro w';go_simp;with_reducible rfl);rotate_left;(simp only [Act.put,List.setIfInBounds_toArray,List.set_cons_zero,List.set_cons_succ,i64_w,i32_w];rfl)
            refine pure_ (i:=5) (N:=some 31) (v:=?_) (a':=?_) (bitsA 13 35) rfl rfl (any_of HT_.out (by kernel_rfl)) (fun _ _ _ h=>h) (Or.inl ⟨by rfl,?_⟩) ?_ ?_
            rotate_left;(intro w';go_simp;with_reducible rfl);rotate_left;(simp only [Act.put,List.setIfInBounds_toArray,List.set_cons_zero,List.set_cons_succ,i64_w,i32_w];rfl)
            refine take_ (i:=2) (N:=some 28) (v:=?_) (a':=?_) (bitsA 13 39) rfl rfl (take_ofW HT_.out HW_.out (by kernel_rfl)) (fun _ _ _ h=>h) (Or.inl ⟨by rfl,?_⟩) hHeld ?_ ?_
            rotate_left;(rintro w' ⟨s0,s1,s2,s3,s4,s5,s6,s7,s8,s9,s10⟩;go_simp;with_reducible rfl);rotate_left;(simp only [Act.put,List.setIfInBounds_toArray,List.set_cons_zero,List.set_cons_succ,i64_w,i32_w];rfl)
            refine pure_ (i:=3) (N:=some 29) (v:=?_) (a':=?_) (bitsA 13 47) rfl rfl (any_of HT_.out (by kernel_rfl)) (fun _ _ _ h=>h) (Or.inl ⟨by rfl,?_⟩) ?_ ?_
            rotate_left;(intro w';go_simp;with_reducible rfl);rotate_left;(simp only [Act.put,List.setIfInBounds_toArray,List.set_cons_zero,List.set_cons_succ,i64_w,i32_w];rfl)
            refine take_ (i:=4) (N:=some 30) (v:=?_) (a':=?_) (bitsA 13 63) rfl rfl (take_ofW HT_.out HW_.out (by kernel_rfl)) (fun _ _ _ h=>h) (Or.inl ⟨by rfl,?_⟩) hHeld ?_ ?_
            rotate_left;(rintro w' ⟨s0,s1,s2,s3,s4,s5,s6,s7,s8,s9,s10⟩;go_simp;with_reducible rfl);rotate_left;(simp only [Act.put,List.setIfInBounds_toArray,List.set_cons_zero,List.set_cons_succ,i64_w,i32_w];rfl)
            refine take_ (i:=6) (N:=some 32) (v:=?_) (a':=?_) (bitsA 13 127) rfl rfl (take_ofW HT_.out HW_.out (by kernel_rfl)) (fun _ _ _ h=>h) (Or.inl ⟨by rfl,?_⟩) hHeld ?_ ?_
            rotate_left;(rintro w' ⟨s0,s1,s2,s3,s4,s5,s6,s7,s8,s9,s10⟩;go_simp;with_reducible rfl);rotate_left;(simp only [Act.put,List.setIfInBounds_toArray,List.set_cons_zero,List.set_cons_succ,i64_w,i32_w];rfl)
            refine one_ (i:=7) (N:=some 33) (bitsA 13 255) rfl rfl (one_of HT_.out (by kernel_rfl)) (by decide) (fun K hK=>?_)
            refine goes_ Tryd.func32 (by kernel_rfl) rfl #[.agg #[.string ((rd_T53 l0 a1_0).f0),.int .i64 ((rd_T53 l0 a1_0).f1),.int .i64 ((rd_T53 l0 a1_0).f2),.int .i64 ((rd_T53 l0 a1_0).f3),.int .i64 ((rd_T53 l0 a1_0).f4),.slice A103_5 ((rd_T53 l0 a1_0).f5).length c103_5,.slice A103_6 ((rd_T53 l0 a1_0).f6).length c103_6],.int .i64 a1_1] (by rfl) rfl rfl (by (try simp only [List.map_toArray,List.map_cons,List.map_nil]);first|done|rfl|(simp only [List.length_drop,List.length_take];rfl)) ?_
            with_reducible refine (sawmillref19_Price.calls kj4 ((rd_T53 l0 a1_0).f0) ((rd_T53 l0 a1_0).f1) ((rd_T53 l0 a1_0).f2) ((rd_T53 l0 a1_0).f3) ((rd_T53 l0 a1_0).f4) _ _ ((rd_T53 l0 a1_0).f5) _ _ ((rd_T53 l0 a1_0).f6) a1_1 t104 true _ ?side1 ?side2 ?side3 ?side4 A14.out).mono ?_
            (case side1=>repeat (first|exact (Kd.C_below HR103_5.out HB.out)|(with_reducible refine Kd.C_alloc ?_ _)|(with_reducible refine Kd.C_drewN ?_ _)|(with_reducible refine Kd.C_drew ?_)))
            (case side2=>exact HC103_5.out)
            (case side3=>repeat (first|exact (Kd.C_below HR103_6.out HB.out)|(with_reducible refine Kd.C_alloc ?_ _)|(with_reducible refine Kd.C_drewN ?_ _)|(with_reducible refine Kd.C_drew ?_)))
            (case side4=>exact HC103_6.out)
            rintro e w30 ⟨rfl,hb⟩
            refine ⟨_,rfl,?_⟩
            have n0_:=Aside0.mk (blk_below (g:=gb101) (o:=.cells #[.int .i64 a1_0,.int .i64 a1_1,.int .i64 a1_2,.int .i64 a1_3] 38 (0,0)) (by (with_reducible repeat (first|refine blk_drewN ?_ _|refine blk_drew ?_|refine blk_alloc ?_ _));exact BK101.out) hb)
            have n1_:=Aside0.mk (below_step (by repeat (first|(with_reducible first|exact HB.out|apply below_alloc|apply pw_below_drewN|apply below_drew1|refine below_set ?_ GE101.out)|exact HB.out)) hb)
            clear BK101
            clear HB
            have BK101:=n0_
            have HB:=n1_
            clear n0_ n1_
            (try clear hb)
            (try clear hb2)
            (try clear hk)
            (try clear hi)
            refine hK.out _ _ ⟨(blk_cell BK101.out 0).trans rfl,(blk_cell BK101.out 1).trans rfl,(blk_cell BK101.out 2).trans rfl,(blk_cell BK101.out 3).trans rfl,((HB.out.cell (World.block_lt_of_cell? w _ hw103_0)).trans hw103_0),((HB.out.cell (World.block_lt_of_cell? w _ hw103_1)).trans hw103_1),((HB.out.cell (World.block_lt_of_cell? w _ hw103_2)).trans hw103_2),((HB.out.cell (World.block_lt_of_cell? w _ hw103_3)).trans hw103_3),((HB.out.cell (World.block_lt_of_cell? w _ hw103_4)).trans hw103_4),((HB.out.cell (World.block_lt_of_cell? w _ hw103_5)).trans hw103_5),((HB.out.cell (World.block_lt_of_cell? w _ hw103_6)).trans hw103_6)⟩ (fun hHeld=>?_)
            clear hK K
            refine norm_ (a':=?_) ?_ ?_
            rotate_left
            ·show Act.put _ (some 33) _=_
             simp only [Act.put,List.setIfInBounds_toArray,List.set_cons_zero,List.set_cons_succ,i64_w,i32_w]
             rfl
            refine pure_ (i:=8) (N:=some 25) (v:=?_) (a':=?_) (bitsA 13 511) rfl rfl (any_of HT_.out (by kernel_rfl)) (fun _ _ _ h=>h) (Or.inl ⟨by rfl,?_⟩) ?_ ?_
            rotate_left;(intro w';go_simp;with_reducible rfl);rotate_left;(simp only [Act.put,List.setIfInBounds_toArray,List.set_cons_zero,List.set_cons_succ,i64_w,i32_w];rfl)
            refine pure_ (i:=9) (N:=some 34) (v:=?_) (a':=?_) (bitsA 13 1023) rfl rfl (any_of HT_.out (by kernel_rfl)) (fun _ _ _ h=>h) (Or.inl ⟨by rfl,?_⟩) ?_ ?_
            rotate_left;(intro w';go_simp;with_reducible rfl);rotate_left;(simp only [Act.put,List.setIfInBounds_toArray,List.set_cons_zero,List.set_cons_succ,i64_w,i32_w];rfl)
            refine pure_ (i:=10) (N:=some 35) (v:=?_) (a':=?_) (bitsA 13 2047) rfl rfl (any_of HT_.out (by kernel_rfl)) (fun _ _ _ h=>h) (Or.inl ⟨by rfl,?_⟩) ?_ ?_
            rotate_left;(intro w';go_simp;with_reducible rfl);rotate_left;(simp only [Act.put,List.setIfInBounds_toArray,List.set_cons_zero,List.set_cons_succ,i64_w,i32_w];rfl)
            refine pure_ (i:=11) (N:=some 7) (v:=?_) (a':=?_) (bitsA 13 4095) rfl rfl (any_of HT_.out (by kernel_rfl)) (fun _ _ _ h=>h) (Or.inl ⟨by rfl,?_⟩) ?_ ?_
            rotate_left;(intro w';go_simp;with_reducible rfl);rotate_left;(simp only [Act.put,List.setIfInBounds_toArray,List.set_cons_zero,List.set_cons_succ,i64_w,i32_w];rfl)
            refine pure_ (i:=12) (N:=some 8) (v:=?_) (a':=?_) (bitsA 13 8191) rfl rfl (any_of HT_.out (by kernel_rfl)) (fun _ _ _ h=>h) (Or.inl ⟨by rfl,?_⟩) ?_ ?_
            rotate_left;(intro w';go_simp;with_reducible rfl);rotate_left;(simp only [Act.put,List.setIfInBounds_toArray,List.set_cons_zero,List.set_cons_succ,i64_w,i32_w];rfl)
            refine done_ (done_of HT_.out (by kernel_rfl)) ?_
            have hcz31_0:w30.cell? ⟨gb101,0,none⟩=some (.int .i64 a1_0):=(blk_cell BK101.out 0).trans rfl
            have hcz31_1:w30.cell? ⟨gb101,1,none⟩=some (.int .i64 a1_1):=(blk_cell BK101.out 1).trans rfl
            have hcz31_2:w30.cell? ⟨gb101,2,none⟩=some (.int .i64 a1_2):=(blk_cell BK101.out 2).trans rfl
            have hcz31_3:w30.cell? ⟨gb101,3,none⟩=some (.int .i64 a1_3):=(blk_cell BK101.out 3).trans rfl
            have hfz31_0:=blk_frozen BK101.out 0
            have hfz31_1:=blk_frozen BK101.out 1
            have hfz31_2:=blk_frozen BK101.out 2
            have hfz31_3:=blk_frozen BK101.out 3
            try go_wp2
            go_ret2
            exact ⟨by first|rfl|(simp [errW_none,errW_some]<;>rfl)|(simp [*,errW_none,errW_some]<;>rfl),by repeat (first|(with_reducible first|exact HB.out|apply below_alloc|apply pw_below_drewN|apply below_drew1|refine below_set ?_ GE101.out)|exact HB.out)⟩
           ·rw [if_neg c28] at H
            have c28b0:decide (1000000000 < a1_3)=false:=decide_eq_false c28
            clear c28
            replace H:=Option.bind_eq_some_iff.mp H
            obtain ⟨t107,A320,H⟩:=H
            replace H:(some (wrap64 ((wrap64 ((wrap64 (Int.tdiv (wrap64 (t107 * a1_2)) 1000000000)) * a1_3))+(wrap64 (Int.tdiv (wrap64 ((wrap64 ((Int.tmod (wrap64 (t107 * a1_2)) 1000000000) * a1_3))+500000000)) 1000000000))),0))=some (r1,r2):=H
            have A32:=Aside0.mk A320
            clear A320
            simp only [Option.some.injEq,Prod.mk.injEq] at H
            obtain ⟨rfl,rfl⟩:=H
            try go_wp2
            have n0_:=Aside0.mk (blk_drew BK101.out)
            have n1_:=Aside0.mk (below_drew1 HB.out)
            clear BK101
            clear HB
            have BK101:=n0_
            have HB:=n1_
            clear n0_ n1_
            have p103:0≤(a1_0:Int):=of_decide_eq_true (by first|(with_reducible assumption)|assumption)
            have q103:a1_0 < (l0.length:Int):=of_decide_eq_true (by first|(with_reducible assumption)|assumption)
            obtain ⟨ad103,A103_5,c103_5,A103_6,c103_6,e103,hx103_0,hx103_1,hx103_2,hx103_3,hx103_4,hx103_5,hx103_6,hl103_5,hi103_5,hl103_6,hi103_6⟩:=at_T53 HR0.out a1_0 p103 q103
            have hw103_6:=hx103_6
            have hw103_5:=hx103_5
            have hw103_4:=hx103_4
            have hw103_3:=hx103_3
            have hw103_2:=hx103_2
            have hw103_1:=hx103_1
            have hw103_0:=hx103_0
            cases e103
            replace hx103_0:=(HB.out.cell (World.block_lt_of_cell? w _ hx103_0)).trans hx103_0
            replace hx103_1:=(HB.out.cell (World.block_lt_of_cell? w _ hx103_1)).trans hx103_1
            replace hx103_2:=(HB.out.cell (World.block_lt_of_cell? w _ hx103_2)).trans hx103_2
            replace hx103_3:=(HB.out.cell (World.block_lt_of_cell? w _ hx103_3)).trans hx103_3
            replace hx103_4:=(HB.out.cell (World.block_lt_of_cell? w _ hx103_4)).trans hx103_4
            replace hx103_5:=(HB.out.cell (World.block_lt_of_cell? w _ hx103_5)).trans hx103_5
            replace hx103_6:=(HB.out.cell (World.block_lt_of_cell? w _ hx103_6)).trans hx103_6
            have HR103_5:=Aside0.mk hi103_5
            have HC103_5:=Aside0.mk hl103_5
            clear hi103_5 hl103_5
            have HR103_6:=Aside0.mk hi103_6
            have HC103_6:=Aside0.mk hl103_6
            clear hi103_6 hl103_6
            replace p103:=eq_true p103
            replace q103:=eq_true q103
            refine start_ (n:=13) (S:=fun w'=>w'.cell? ⟨gb101,0,none⟩=some (.int .i64 a1_0)∧w'.cell? ⟨gb101,1,none⟩=some (.int .i64 a1_1)∧w'.cell? ⟨gb101,2,none⟩=some (.int .i64 a1_2)∧w'.cell? ⟨gb101,3,none⟩=some (.int .i64 a1_3)∧w'.cell? (ad103.add ((a1_0).toNat * 7))=some (.string ((rd_T53 l0 a1_0).f0))∧w'.cell? ⟨(ad103.add ((a1_0).toNat * 7)).block,(ad103.add ((a1_0).toNat * 7)).off+1,none⟩=some (.int .i64 ((rd_T53 l0 a1_0).f1))∧w'.cell? ⟨(ad103.add ((a1_0).toNat * 7)).block,(ad103.add ((a1_0).toNat * 7)).off+2,none⟩=some (.int .i64 ((rd_T53 l0 a1_0).f2))∧w'.cell? ⟨(ad103.add ((a1_0).toNat * 7)).block,(ad103.add ((a1_0).toNat * 7)).off+3,none⟩=some (.int .i64 ((rd_T53 l0 a1_0).f3))∧w'.cell? ⟨(ad103.add ((a1_0).toNat * 7)).block,(ad103.add ((a1_0).toNat * 7)).off+4,none⟩=some (.int .i64 ((rd_T53 l0 a1_0).f4))∧w'.cell? ⟨(ad103.add ((a1_0).toNat * 7)).block,(ad103.add ((a1_0).toNat * 7)).off+5,none⟩=some (.slice A103_5 ((rd_T53 l0 a1_0).f5).length c103_5)∧w'.cell? ⟨(ad103.add ((a1_0).toNat * 7)).block,(ad103.add ((a1_0).toNat * 7)).off+6,none⟩=some (.slice A103_6 ((rd_T53 l0 a1_0).f6).length c103_6)) (ds:=[]) (bitsA 13 0) (by kernel_rfl) rfl rfl ⟨(blk_cell BK101.out 0).trans rfl,(blk_cell BK101.out 1).trans rfl,(blk_cell BK101.out 2).trans rfl,(blk_cell BK101.out 3).trans rfl,((HB.out.cell (World.block_lt_of_cell? w _ hw103_0)).trans hw103_0),((HB.out.cell (World.block_lt_of_cell? w _ hw103_1)).trans hw103_1),((HB.out.cell (World.block_lt_of_cell? w _ hw103_2)).trans hw103_2),((HB.out.cell (World.block_lt_of_cell? w _ hw103_3)).trans hw103_3),((HB.out.cell (World.block_lt_of_cell? w _ hw103_4)).trans hw103_4),((HB.out.cell (World.block_lt_of_cell? w _ hw103_5)).trans hw103_5),((HB.out.cell (World.block_lt_of_cell? w _ hw103_6)).trans hw103_6)⟩ (fun hHeld=>?_);refine with_tabW sawmillref50_Amount.tab6 sawmillref50_Amount.bits6 (fun HT_ HW_=>?_)
            generalize wc.drew=w33 at BK101 HB HR103_5 HR103_6 hx103_0 hx103_1 hx103_2 hx103_3 hx103_4 hx103_5 hx103_6 hHeld ⊢
            refine pure_ (i:=0) (N:=some 26) (v:=?_) (a':=?_) (bitsA 13 1) rfl rfl (any_of HT_.out (by kernel_rfl)) (fun _ _ _ h=>h) (Or.inl ⟨by rfl,?_⟩) ?_ ?_
            rotate_left;(intro w';go_simp;with_reducible rfl);rotate_left;(simp only [Act.put,List.setIfInBounds_toArray,List.set_cons_zero,List.set_cons_succ,i64_w,i32_w];rfl)
            refine pure_ (i:=1) (N:=some 27) (v:=?_) (a':=?_) (bitsA 13 3) rfl rfl (any_of HT_.out (by kernel_rfl)) (fun _ _ _ h=>h) (Or.inl ⟨by rfl,?_⟩) ?_ ?_
            rotate_left;(intro w';go_simp;with_reducible rfl);rotate_left;(simp only [Act.put,List.setIfInBounds_toArray,List.set_cons_zero,List.set_cons_succ,i64_w,i32_w];rfl)
            refine pure_ (i:=5) (N:=some 31) (v:=?_) (a':=?_) (bitsA 13 35) rfl rfl (any_of HT_.out (by kernel_rfl)) (fun _ _ _ h=>h) (Or.inl ⟨by rfl,?_⟩) ?_ ?_
            rotate_left;(intro w';go_simp;with_reducible rfl);rotate_left;(simp only [Act.put,List.setIfInBounds_toArray,List.set_cons_zero,List.set_cons_succ,i64_w,i32_w];rfl)
            refine take_ (i:=2) (N:=some 28) (v:=?_) (a':=?_) (bitsA 13 39) rfl rfl (take_ofW HT_.out HW_.out (by kernel_rfl)) (fun _ _ _ h=>h) (Or.inl ⟨by rfl,?_⟩) hHeld ?_ ?_
            rotate_left;(rintro w' ⟨s0,s1,s2,s3,s4,s5,s6,s7,s8,s9,s10⟩;go_simp;with_reducible rfl);rotate_left;(simp only [Act.put,List.setIfInBounds_toArray,List.set_cons_zero,List.set_cons_succ,i64_w,i32_w];rfl)
            refine pure_ (i:=3) (N:=some 29) (v:=?_) (a':=?_) (bitsA 13 47) rfl rfl (any_of HT_.out (by kernel_rfl)) (fun _ _ _ h=>h) (Or.inl ⟨by rfl,?_⟩) ?_ ?_
            rotate_left;(intro w';go_simp;with_reducible rfl);rotate_left;(simp only [Act.put,List.setIfInBounds_toArray,List.set_cons_zero,List.set_cons_succ,i64_w,i32_w];rfl)
            refine take_ (i:=4) (N:=some 30) (v:=?_) (a':=?_) (bitsA 13 63) rfl rfl (take_ofW HT_.out HW_.out (by kernel_rfl)) (fun _ _ _ h=>h) (Or.inl ⟨by rfl,?_⟩) hHeld ?_ ?_
            rotate_left;(rintro w' ⟨s0,s1,s2,s3,s4,s5,s6,s7,s8,s9,s10⟩;go_simp;with_reducible rfl);rotate_left;(simp only [Act.put,List.setIfInBounds_toArray,List.set_cons_zero,List.set_cons_succ,i64_w,i32_w];rfl)
            refine take_ (i:=6) (N:=some 32) (v:=?_) (a':=?_) (bitsA 13 127) rfl rfl (take_ofW HT_.out HW_.out (by kernel_rfl)) (fun _ _ _ h=>h) (Or.inl ⟨by rfl,?_⟩) hHeld ?_ ?_
            rotate_left;(rintro w' ⟨s0,s1,s2,s3,s4,s5,s6,s7,s8,s9,s10⟩;go_simp;with_reducible rfl);rotate_left;(simp only [Act.put,List.setIfInBounds_toArray,List.set_cons_zero,List.set_cons_succ,i64_w,i32_w];rfl)
            refine one_ (i:=7) (N:=some 33) (bitsA 13 255) rfl rfl (one_of HT_.out (by kernel_rfl)) (by decide) (fun K hK=>?_)
            refine goes_ Tryd.func32 (by kernel_rfl) rfl #[.agg #[.string ((rd_T53 l0 a1_0).f0),.int .i64 ((rd_T53 l0 a1_0).f1),.int .i64 ((rd_T53 l0 a1_0).f2),.int .i64 ((rd_T53 l0 a1_0).f3),.int .i64 ((rd_T53 l0 a1_0).f4),.slice A103_5 ((rd_T53 l0 a1_0).f5).length c103_5,.slice A103_6 ((rd_T53 l0 a1_0).f6).length c103_6],.int .i64 a1_1] (by rfl) rfl rfl (by (try simp only [List.map_toArray,List.map_cons,List.map_nil]);first|done|rfl|(simp only [List.length_drop,List.length_take];rfl)) ?_
            with_reducible refine (sawmillref19_Price.calls kj4 ((rd_T53 l0 a1_0).f0) ((rd_T53 l0 a1_0).f1) ((rd_T53 l0 a1_0).f2) ((rd_T53 l0 a1_0).f3) ((rd_T53 l0 a1_0).f4) _ _ ((rd_T53 l0 a1_0).f5) _ _ ((rd_T53 l0 a1_0).f6) a1_1 t104 true _ ?side1 ?side2 ?side3 ?side4 A14.out).mono ?_
            (case side1=>repeat (first|exact (Kd.C_below HR103_5.out HB.out)|(with_reducible refine Kd.C_alloc ?_ _)|(with_reducible refine Kd.C_drewN ?_ _)|(with_reducible refine Kd.C_drew ?_)))
            (case side2=>exact HC103_5.out)
            (case side3=>repeat (first|exact (Kd.C_below HR103_6.out HB.out)|(with_reducible refine Kd.C_alloc ?_ _)|(with_reducible refine Kd.C_drewN ?_ _)|(with_reducible refine Kd.C_drew ?_)))
            (case side4=>exact HC103_6.out)
            rintro e w34 ⟨rfl,hb⟩
            refine ⟨_,rfl,?_⟩
            have n0_:=Aside0.mk (blk_below (g:=gb101) (o:=.cells #[.int .i64 a1_0,.int .i64 a1_1,.int .i64 a1_2,.int .i64 a1_3] 38 (0,0)) (by (with_reducible repeat (first|refine blk_drewN ?_ _|refine blk_drew ?_|refine blk_alloc ?_ _));exact BK101.out) hb)
            have n1_:=Aside0.mk (below_step (by repeat (first|(with_reducible first|exact HB.out|apply below_alloc|apply pw_below_drewN|apply below_drew1|refine below_set ?_ GE101.out)|exact HB.out)) hb)
            clear BK101
            clear HB
            have BK101:=n0_
            have HB:=n1_
            clear n0_ n1_
            (try clear hb)
            (try clear hb2)
            (try clear hk)
            (try clear hi)
            refine hK.out _ _ ⟨(blk_cell BK101.out 0).trans rfl,(blk_cell BK101.out 1).trans rfl,(blk_cell BK101.out 2).trans rfl,(blk_cell BK101.out 3).trans rfl,((HB.out.cell (World.block_lt_of_cell? w _ hw103_0)).trans hw103_0),((HB.out.cell (World.block_lt_of_cell? w _ hw103_1)).trans hw103_1),((HB.out.cell (World.block_lt_of_cell? w _ hw103_2)).trans hw103_2),((HB.out.cell (World.block_lt_of_cell? w _ hw103_3)).trans hw103_3),((HB.out.cell (World.block_lt_of_cell? w _ hw103_4)).trans hw103_4),((HB.out.cell (World.block_lt_of_cell? w _ hw103_5)).trans hw103_5),((HB.out.cell (World.block_lt_of_cell? w _ hw103_6)).trans hw103_6)⟩ (fun hHeld=>?_)
            clear hK K
            refine norm_ (a':=?_) ?_ ?_
            rotate_left
            ·show Act.put _ (some 33) _=_
             simp only [Act.put,List.setIfInBounds_toArray,List.set_cons_zero,List.set_cons_succ,i64_w,i32_w]
             rfl
            refine pure_ (i:=8) (N:=some 25) (v:=?_) (a':=?_) (bitsA 13 511) rfl rfl (any_of HT_.out (by kernel_rfl)) (fun _ _ _ h=>h) (Or.inl ⟨by rfl,?_⟩) ?_ ?_
            rotate_left;(intro w';go_simp;with_reducible rfl);rotate_left;(simp only [Act.put,List.setIfInBounds_toArray,List.set_cons_zero,List.set_cons_succ,i64_w,i32_w];rfl)
            refine pure_ (i:=9) (N:=some 34) (v:=?_) (a':=?_) (bitsA 13 1023) rfl rfl (any_of HT_.out (by kernel_rfl)) (fun _ _ _ h=>h) (Or.inl ⟨by rfl,?_⟩) ?_ ?_
            rotate_left;(intro w';go_simp;with_reducible rfl);rotate_left;(simp only [Act.put,List.setIfInBounds_toArray,List.set_cons_zero,List.set_cons_succ,i64_w,i32_w];rfl)
            refine pure_ (i:=10) (N:=some 35) (v:=?_) (a':=?_) (bitsA 13 2047) rfl rfl (any_of HT_.out (by kernel_rfl)) (fun _ _ _ h=>h) (Or.inl ⟨by rfl,?_⟩) ?_ ?_
            rotate_left;(intro w';go_simp;with_reducible rfl);rotate_left;(simp only [Act.put,List.setIfInBounds_toArray,List.set_cons_zero,List.set_cons_succ,i64_w,i32_w];rfl)
            refine pure_ (i:=11) (N:=some 7) (v:=?_) (a':=?_) (bitsA 13 4095) rfl rfl (any_of HT_.out (by kernel_rfl)) (fun _ _ _ h=>h) (Or.inl ⟨by rfl,?_⟩) ?_ ?_
            rotate_left;(intro w';go_simp;with_reducible rfl);rotate_left;(simp only [Act.put,List.setIfInBounds_toArray,List.set_cons_zero,List.set_cons_succ,i64_w,i32_w];rfl)
            refine pure_ (i:=12) (N:=some 8) (v:=?_) (a':=?_) (bitsA 13 8191) rfl rfl (any_of HT_.out (by kernel_rfl)) (fun _ _ _ h=>h) (Or.inl ⟨by rfl,?_⟩) ?_ ?_
            rotate_left;(intro w';go_simp;with_reducible rfl);rotate_left;(simp only [Act.put,List.setIfInBounds_toArray,List.set_cons_zero,List.set_cons_succ,i64_w,i32_w];rfl)
            refine done_ (done_of HT_.out (by kernel_rfl)) ?_
            have hcz35_0:w34.cell? ⟨gb101,0,none⟩=some (.int .i64 a1_0):=(blk_cell BK101.out 0).trans rfl
            have hcz35_1:w34.cell? ⟨gb101,1,none⟩=some (.int .i64 a1_1):=(blk_cell BK101.out 1).trans rfl
            have hcz35_2:w34.cell? ⟨gb101,2,none⟩=some (.int .i64 a1_2):=(blk_cell BK101.out 2).trans rfl
            have hcz35_3:w34.cell? ⟨gb101,3,none⟩=some (.int .i64 a1_3):=(blk_cell BK101.out 3).trans rfl
            have hfz35_0:=blk_frozen BK101.out 0
            have hfz35_1:=blk_frozen BK101.out 1
            have hfz35_2:=blk_frozen BK101.out 2
            have hfz35_3:=blk_frozen BK101.out 3
            try go_wp2
            have n0_:=Aside0.mk (blk_drew BK101.out)
            have n1_:=Aside0.mk (below_drew1 HB.out)
            clear BK101
            clear HB
            have BK101:=n0_
            have HB:=n1_
            clear n0_ n1_
            have p106:0≤(a1_0:Int):=of_decide_eq_true (by first|(with_reducible assumption)|assumption)
            have q106:a1_0 < (l0.length:Int):=of_decide_eq_true (by first|(with_reducible assumption)|assumption)
            obtain ⟨ad106,A106_5,c106_5,A106_6,c106_6,e106,hx106_0,hx106_1,hx106_2,hx106_3,hx106_4,hx106_5,hx106_6,hl106_5,hi106_5,hl106_6,hi106_6⟩:=at_T53 HR0.out a1_0 p106 q106
            have hw106_6:=hx106_6
            have hw106_5:=hx106_5
            have hw106_4:=hx106_4
            have hw106_3:=hx106_3
            have hw106_2:=hx106_2
            have hw106_1:=hx106_1
            have hw106_0:=hx106_0
            obtain rfl:ad103=ad106:=(by injection e106)
            replace hx106_0:=(HB.out.cell (World.block_lt_of_cell? w _ hx106_0)).trans hx106_0
            replace hx106_1:=(HB.out.cell (World.block_lt_of_cell? w _ hx106_1)).trans hx106_1
            replace hx106_2:=(HB.out.cell (World.block_lt_of_cell? w _ hx106_2)).trans hx106_2
            replace hx106_3:=(HB.out.cell (World.block_lt_of_cell? w _ hx106_3)).trans hx106_3
            replace hx106_4:=(HB.out.cell (World.block_lt_of_cell? w _ hx106_4)).trans hx106_4
            replace hx106_5:=(HB.out.cell (World.block_lt_of_cell? w _ hx106_5)).trans hx106_5
            replace hx106_6:=(HB.out.cell (World.block_lt_of_cell? w _ hx106_6)).trans hx106_6
            have HR106_5:=Aside0.mk hi106_5
            have HC106_5:=Aside0.mk hl106_5
            clear hi106_5 hl106_5
            have HR106_6:=Aside0.mk hi106_6
            have HC106_6:=Aside0.mk hl106_6
            clear hi106_6 hl106_6
            replace p106:=eq_true p106
            replace q106:=eq_true q106
            refine start_ (n:=12) (S:=fun w'=>w'.cell? ⟨gb101,0,none⟩=some (.int .i64 a1_0)∧w'.cell? ⟨gb101,1,none⟩=some (.int .i64 a1_1)∧w'.cell? ⟨gb101,2,none⟩=some (.int .i64 a1_2)∧w'.cell? ⟨gb101,3,none⟩=some (.int .i64 a1_3)∧w'.cell? (ad103.add ((a1_0).toNat * 7))=some (.string ((rd_T53 l0 a1_0).f0))∧w'.cell? ⟨(ad103.add ((a1_0).toNat * 7)).block,(ad103.add ((a1_0).toNat * 7)).off+1,none⟩=some (.int .i64 ((rd_T53 l0 a1_0).f1))∧w'.cell? ⟨(ad103.add ((a1_0).toNat * 7)).block,(ad103.add ((a1_0).toNat * 7)).off+2,none⟩=some (.int .i64 ((rd_T53 l0 a1_0).f2))∧w'.cell? ⟨(ad103.add ((a1_0).toNat * 7)).block,(ad103.add ((a1_0).toNat * 7)).off+3,none⟩=some (.int .i64 ((rd_T53 l0 a1_0).f3))∧w'.cell? ⟨(ad103.add ((a1_0).toNat * 7)).block,(ad103.add ((a1_0).toNat * 7)).off+4,none⟩=some (.int .i64 ((rd_T53 l0 a1_0).f4))∧w'.cell? ⟨(ad103.add ((a1_0).toNat * 7)).block,(ad103.add ((a1_0).toNat * 7)).off+5,none⟩=some (.slice A106_5 ((rd_T53 l0 a1_0).f5).length c106_5)∧w'.cell? ⟨(ad103.add ((a1_0).toNat * 7)).block,(ad103.add ((a1_0).toNat * 7)).off+6,none⟩=some (.slice A106_6 ((rd_T53 l0 a1_0).f6).length c106_6)) (ds:=[]) (bitsA 12 0) (by kernel_rfl) rfl rfl ⟨(blk_cell BK101.out 0).trans rfl,(blk_cell BK101.out 1).trans rfl,(blk_cell BK101.out 2).trans rfl,(blk_cell BK101.out 3).trans rfl,((HB.out.cell (World.block_lt_of_cell? w _ hw106_0)).trans hw106_0),((HB.out.cell (World.block_lt_of_cell? w _ hw106_1)).trans hw106_1),((HB.out.cell (World.block_lt_of_cell? w _ hw106_2)).trans hw106_2),((HB.out.cell (World.block_lt_of_cell? w _ hw106_3)).trans hw106_3),((HB.out.cell (World.block_lt_of_cell? w _ hw106_4)).trans hw106_4),((HB.out.cell (World.block_lt_of_cell? w _ hw106_5)).trans hw106_5),((HB.out.cell (World.block_lt_of_cell? w _ hw106_6)).trans hw106_6)⟩ (fun hHeld=>?_);refine with_tabW sawmillref50_Amount.tab11 sawmillref50_Amount.bits11 (fun HT_ HW_=>?_)
            generalize w34.drew=w36 at BK101 HB HR106_5 HR106_6 hx106_0 hx106_1 hx106_2 hx106_3 hx106_4 hx106_5 hx106_6 hHeld ⊢
            refine pure_ (i:=0) (N:=some 56) (v:=?_) (a':=?_) (bitsA 12 1) rfl rfl (any_of HT_.out (by kernel_rfl)) (fun _ _ _ h=>h) (Or.inl ⟨by rfl,?_⟩) ?_ ?_
            rotate_left;(intro w';go_simp;with_reducible rfl);rotate_left;(simp only [Act.put,List.setIfInBounds_toArray,List.set_cons_zero,List.set_cons_succ,i64_w,i32_w];rfl)
            refine pure_ (i:=1) (N:=some 57) (v:=?_) (a':=?_) (bitsA 12 3) rfl rfl (any_of HT_.out (by kernel_rfl)) (fun _ _ _ h=>h) (Or.inl ⟨by rfl,?_⟩) ?_ ?_
            rotate_left;(intro w';go_simp;with_reducible rfl);rotate_left;(simp only [Act.put,List.setIfInBounds_toArray,List.set_cons_zero,List.set_cons_succ,i64_w,i32_w];rfl)
            refine pure_ (i:=5) (N:=some 61) (v:=?_) (a':=?_) (bitsA 12 35) rfl rfl (any_of HT_.out (by kernel_rfl)) (fun _ _ _ h=>h) (Or.inl ⟨by rfl,?_⟩) ?_ ?_
            rotate_left;(intro w';go_simp;with_reducible rfl);rotate_left;(simp only [Act.put,List.setIfInBounds_toArray,List.set_cons_zero,List.set_cons_succ,i64_w,i32_w];rfl)
            refine pure_ (i:=8) (N:=some 64) (v:=?_) (a':=?_) (bitsA 12 291) rfl rfl (any_of HT_.out (by kernel_rfl)) (fun _ _ _ h=>h) (Or.inl ⟨by rfl,?_⟩) ?_ ?_
            rotate_left;(intro w';go_simp;with_reducible rfl);rotate_left;(simp only [Act.put,List.setIfInBounds_toArray,List.set_cons_zero,List.set_cons_succ,i64_w,i32_w];rfl)
            refine take_ (i:=2) (N:=some 58) (v:=?_) (a':=?_) (bitsA 12 295) rfl rfl (take_ofW HT_.out HW_.out (by kernel_rfl)) (fun _ _ _ h=>h) (Or.inl ⟨by rfl,?_⟩) hHeld ?_ ?_
            rotate_left;(rintro w' ⟨s0,s1,s2,s3,s4,s5,s6,s7,s8,s9,s10⟩;go_simp;with_reducible rfl);rotate_left;(simp only [Act.put,List.setIfInBounds_toArray,List.set_cons_zero,List.set_cons_succ,i64_w,i32_w];rfl)
            refine pure_ (i:=3) (N:=some 59) (v:=?_) (a':=?_) (bitsA 12 303) rfl rfl (any_of HT_.out (by kernel_rfl)) (fun _ _ _ h=>h) (Or.inl ⟨by rfl,?_⟩) ?_ ?_
            rotate_left;(intro w';go_simp;with_reducible rfl);rotate_left;(simp only [Act.put,List.setIfInBounds_toArray,List.set_cons_zero,List.set_cons_succ,i64_w,i32_w];rfl)
            refine take_ (i:=4) (N:=some 60) (v:=?_) (a':=?_) (bitsA 12 319) rfl rfl (take_ofW HT_.out HW_.out (by kernel_rfl)) (fun _ _ _ h=>h) (Or.inl ⟨by rfl,?_⟩) hHeld ?_ ?_
            rotate_left;(rintro w' ⟨s0,s1,s2,s3,s4,s5,s6,s7,s8,s9,s10⟩;go_simp;with_reducible rfl);rotate_left;(simp only [Act.put,List.setIfInBounds_toArray,List.set_cons_zero,List.set_cons_succ,i64_w,i32_w];rfl)
            refine take_ (i:=6) (N:=some 62) (v:=?_) (a':=?_) (bitsA 12 383) rfl rfl (take_ofW HT_.out HW_.out (by kernel_rfl)) (fun _ _ _ h=>h) (Or.inl ⟨by rfl,?_⟩) hHeld ?_ ?_
            rotate_left;(rintro w' ⟨s0,s1,s2,s3,s4,s5,s6,s7,s8,s9,s10⟩;go_simp;with_reducible rfl);rotate_left;(simp only [Act.put,List.setIfInBounds_toArray,List.set_cons_zero,List.set_cons_succ,i64_w,i32_w];rfl)
            refine take_ (i:=9) (N:=some 65) (v:=?_) (a':=?_) (bitsA 12 895) rfl rfl (take_ofW HT_.out HW_.out (by kernel_rfl)) (fun _ _ _ h=>h) (Or.inl ⟨by rfl,?_⟩) hHeld ?_ ?_
            rotate_left;(rintro w' ⟨s0,s1,s2,s3,s4,s5,s6,s7,s8,s9,s10⟩;go_simp;with_reducible rfl);rotate_left;(simp only [Act.put,List.setIfInBounds_toArray,List.set_cons_zero,List.set_cons_succ,i64_w,i32_w];rfl)
            refine one_ (i:=7) (N:=some 63) (bitsA 12 1023) rfl rfl (one_of HT_.out (by kernel_rfl)) (by decide) (fun K hK=>?_)
            refine goes_ Tryd.func33 (by kernel_rfl) rfl #[.agg #[.string ((rd_T53 l0 a1_0).f0),.int .i64 ((rd_T53 l0 a1_0).f1),.int .i64 ((rd_T53 l0 a1_0).f2),.int .i64 ((rd_T53 l0 a1_0).f3),.int .i64 ((rd_T53 l0 a1_0).f4),.slice A106_5 ((rd_T53 l0 a1_0).f5).length c106_5,.slice A106_6 ((rd_T53 l0 a1_0).f6).length c106_6],.int .i64 a1_1] (by rfl) rfl rfl (by (try simp only [List.map_toArray,List.map_cons,List.map_nil]);first|done|rfl|(simp only [List.length_drop,List.length_take];rfl)) ?_
            with_reducible refine (sawmillref19_Volume.calls ((rd_T53 l0 a1_0).f0) ((rd_T53 l0 a1_0).f1) ((rd_T53 l0 a1_0).f2) ((rd_T53 l0 a1_0).f3) ((rd_T53 l0 a1_0).f4) _ _ ((rd_T53 l0 a1_0).f5) _ _ ((rd_T53 l0 a1_0).f6) a1_1 t107 _ ?side1 ?side2 ?side3 ?side4 A32.out).mono ?_
            (case side1=>repeat (first|exact (Kd.C_below HR106_5.out HB.out)|(with_reducible refine Kd.C_alloc ?_ _)|(with_reducible refine Kd.C_drewN ?_ _)|(with_reducible refine Kd.C_drew ?_)))
            (case side2=>exact HC106_5.out)
            (case side3=>repeat (first|exact (Kd.C_below HR106_6.out HB.out)|(with_reducible refine Kd.C_alloc ?_ _)|(with_reducible refine Kd.C_drewN ?_ _)|(with_reducible refine Kd.C_drew ?_)))
            (case side4=>exact HC106_6.out)
            rintro e w37 ⟨rfl,hb⟩
            refine ⟨_,rfl,?_⟩
            have n0_:=Aside0.mk (blk_below (g:=gb101) (o:=.cells #[.int .i64 a1_0,.int .i64 a1_1,.int .i64 a1_2,.int .i64 a1_3] 38 (0,0)) (by (with_reducible repeat (first|refine blk_drewN ?_ _|refine blk_drew ?_|refine blk_alloc ?_ _));exact BK101.out) hb)
            have n1_:=Aside0.mk (below_step (by repeat (first|(with_reducible first|exact HB.out|apply below_alloc|apply pw_below_drewN|apply below_drew1|refine below_set ?_ GE101.out)|exact HB.out)) hb)
            clear BK101
            clear HB
            have BK101:=n0_
            have HB:=n1_
            clear n0_ n1_
            (try clear hb)
            (try clear hb2)
            (try clear hk)
            (try clear hi)
            refine hK.out _ _ ⟨(blk_cell BK101.out 0).trans rfl,(blk_cell BK101.out 1).trans rfl,(blk_cell BK101.out 2).trans rfl,(blk_cell BK101.out 3).trans rfl,((HB.out.cell (World.block_lt_of_cell? w _ hw106_0)).trans hw106_0),((HB.out.cell (World.block_lt_of_cell? w _ hw106_1)).trans hw106_1),((HB.out.cell (World.block_lt_of_cell? w _ hw106_2)).trans hw106_2),((HB.out.cell (World.block_lt_of_cell? w _ hw106_3)).trans hw106_3),((HB.out.cell (World.block_lt_of_cell? w _ hw106_4)).trans hw106_4),((HB.out.cell (World.block_lt_of_cell? w _ hw106_5)).trans hw106_5),((HB.out.cell (World.block_lt_of_cell? w _ hw106_6)).trans hw106_6)⟩ (fun hHeld=>?_)
            clear hK K
            refine norm_ (a':=?_) ?_ ?_
            rotate_left
            ·show Act.put _ (some 63) _=_
             simp only [Act.put,List.setIfInBounds_toArray,List.set_cons_zero,List.set_cons_succ,i64_w,i32_w]
             rfl
            refine pure_ (i:=10) (N:=some 66) (v:=?_) (a':=?_) (bitsA 12 2047) rfl rfl (any_of HT_.out (by kernel_rfl)) (fun _ _ _ h=>h) (Or.inl ⟨by rfl,?_⟩) ?_ ?_
            rotate_left;(intro w';go_simp;with_reducible rfl);rotate_left;(simp only [Act.put,List.setIfInBounds_toArray,List.set_cons_zero,List.set_cons_succ,i64_w,i32_w];rfl)
            refine pure_ (i:=11) (N:=some 9) (v:=?_) (a':=?_) (bitsA 12 4095) rfl rfl (any_of HT_.out (by kernel_rfl)) (fun _ _ _ h=>h) (Or.inl ⟨by rfl,?_⟩) ?_ ?_
            rotate_left;(intro w';go_simp;with_reducible rfl);rotate_left;(simp only [Act.put,List.setIfInBounds_toArray,List.set_cons_zero,List.set_cons_succ,i64_w,i32_w];rfl)
            refine done_ (done_of HT_.out (by kernel_rfl)) ?_
            have hcz38_0:w37.cell? ⟨gb101,0,none⟩=some (.int .i64 a1_0):=(blk_cell BK101.out 0).trans rfl
            have hcz38_1:w37.cell? ⟨gb101,1,none⟩=some (.int .i64 a1_1):=(blk_cell BK101.out 1).trans rfl
            have hcz38_2:w37.cell? ⟨gb101,2,none⟩=some (.int .i64 a1_2):=(blk_cell BK101.out 2).trans rfl
            have hcz38_3:w37.cell? ⟨gb101,3,none⟩=some (.int .i64 a1_3):=(blk_cell BK101.out 3).trans rfl
            have hfz38_0:=blk_frozen BK101.out 0
            have hfz38_1:=blk_frozen BK101.out 1
            have hfz38_2:=blk_frozen BK101.out 2
            have hfz38_3:=blk_frozen BK101.out 3
            try go_wp2
            go_ret2
            exact ⟨by first|rfl|(simp [errW_none,errW_some]<;>rfl)|(simp [*,errW_none,errW_some]<;>rfl),by repeat (first|(with_reducible first|exact HB.out|apply below_alloc|apply pw_below_drewN|apply below_drew1|refine below_set ?_ GE101.out)|exact HB.out)⟩
       ·replace c15:=Bool.eq_false_iff.mpr c15
        subst c15
        have H1:(some (0,20))=some (r1,r2):=by rw [if_neg (show ¬ (false=true) by decide)] at H;exact H
        clear H
        have H:=H1
        clear H1
        simp only [Option.some.injEq,Prod.mk.injEq] at H
        obtain ⟨rfl,rfl⟩:=H
        try go_wp2
        have n0_:=Aside0.mk (blk_drew BK101.out)
        have n1_:=Aside0.mk (below_drew1 HB.out)
        clear BK101
        clear HB
        have BK101:=n0_
        have HB:=n1_
        clear n0_ n1_
        have p103:0≤(a1_0:Int):=of_decide_eq_true (by first|(with_reducible assumption)|assumption)
        have q103:a1_0 < (l0.length:Int):=of_decide_eq_true (by first|(with_reducible assumption)|assumption)
        obtain ⟨ad103,A103_5,c103_5,A103_6,c103_6,e103,hx103_0,hx103_1,hx103_2,hx103_3,hx103_4,hx103_5,hx103_6,hl103_5,hi103_5,hl103_6,hi103_6⟩:=at_T53 HR0.out a1_0 p103 q103
        have hw103_6:=hx103_6
        have hw103_5:=hx103_5
        have hw103_4:=hx103_4
        have hw103_3:=hx103_3
        have hw103_2:=hx103_2
        have hw103_1:=hx103_1
        have hw103_0:=hx103_0
        cases e103
        replace hx103_0:=(HB.out.cell (World.block_lt_of_cell? w _ hx103_0)).trans hx103_0
        replace hx103_1:=(HB.out.cell (World.block_lt_of_cell? w _ hx103_1)).trans hx103_1
        replace hx103_2:=(HB.out.cell (World.block_lt_of_cell? w _ hx103_2)).trans hx103_2
        replace hx103_3:=(HB.out.cell (World.block_lt_of_cell? w _ hx103_3)).trans hx103_3
        replace hx103_4:=(HB.out.cell (World.block_lt_of_cell? w _ hx103_4)).trans hx103_4
        replace hx103_5:=(HB.out.cell (World.block_lt_of_cell? w _ hx103_5)).trans hx103_5
        replace hx103_6:=(HB.out.cell (World.block_lt_of_cell? w _ hx103_6)).trans hx103_6
        have HR103_5:=Aside0.mk hi103_5
        have HC103_5:=Aside0.mk hl103_5
        clear hi103_5 hl103_5
        have HR103_6:=Aside0.mk hi103_6
        have HC103_6:=Aside0.mk hl103_6
        clear hi103_6 hl103_6
        replace p103:=eq_true p103
        replace q103:=eq_true q103
        refine start_ (n:=13) (S:=fun w'=>w'.cell? ⟨gb101,0,none⟩=some (.int .i64 a1_0)∧w'.cell? ⟨gb101,1,none⟩=some (.int .i64 a1_1)∧w'.cell? ⟨gb101,2,none⟩=some (.int .i64 a1_2)∧w'.cell? ⟨gb101,3,none⟩=some (.int .i64 a1_3)∧w'.cell? (ad103.add ((a1_0).toNat * 7))=some (.string ((rd_T53 l0 a1_0).f0))∧w'.cell? ⟨(ad103.add ((a1_0).toNat * 7)).block,(ad103.add ((a1_0).toNat * 7)).off+1,none⟩=some (.int .i64 ((rd_T53 l0 a1_0).f1))∧w'.cell? ⟨(ad103.add ((a1_0).toNat * 7)).block,(ad103.add ((a1_0).toNat * 7)).off+2,none⟩=some (.int .i64 ((rd_T53 l0 a1_0).f2))∧w'.cell? ⟨(ad103.add ((a1_0).toNat * 7)).block,(ad103.add ((a1_0).toNat * 7)).off+3,none⟩=some (.int .i64 ((rd_T53 l0 a1_0).f3))∧w'.cell? ⟨(ad103.add ((a1_0).toNat * 7)).block,(ad103.add ((a1_0).toNat * 7)).off+4,none⟩=some (.int .i64 ((rd_T53 l0 a1_0).f4))∧w'.cell? ⟨(ad103.add ((a1_0).toNat * 7)).block,(ad103.add ((a1_0).toNat * 7)).off+5,none⟩=some (.slice A103_5 ((rd_T53 l0 a1_0).f5).length c103_5)∧w'.cell? ⟨(ad103.add ((a1_0).toNat * 7)).block,(ad103.add ((a1_0).toNat * 7)).off+6,none⟩=some (.slice A103_6 ((rd_T53 l0 a1_0).f6).length c103_6)) (ds:=[]) (bitsA 13 0) (by kernel_rfl) rfl rfl ⟨(blk_cell BK101.out 0).trans rfl,(blk_cell BK101.out 1).trans rfl,(blk_cell BK101.out 2).trans rfl,(blk_cell BK101.out 3).trans rfl,((HB.out.cell (World.block_lt_of_cell? w _ hw103_0)).trans hw103_0),((HB.out.cell (World.block_lt_of_cell? w _ hw103_1)).trans hw103_1),((HB.out.cell (World.block_lt_of_cell? w _ hw103_2)).trans hw103_2),((HB.out.cell (World.block_lt_of_cell? w _ hw103_3)).trans hw103_3),((HB.out.cell (World.block_lt_of_cell? w _ hw103_4)).trans hw103_4),((HB.out.cell (World.block_lt_of_cell? w _ hw103_5)).trans hw103_5),((HB.out.cell (World.block_lt_of_cell? w _ hw103_6)).trans hw103_6)⟩ (fun hHeld=>?_);refine with_tabW sawmillref50_Amount.tab6 sawmillref50_Amount.bits6 (fun HT_ HW_=>?_)
        generalize wc.drew=w39 at BK101 HB HR103_5 HR103_6 hx103_0 hx103_1 hx103_2 hx103_3 hx103_4 hx103_5 hx103_6 hHeld ⊢
        refine pure_ (i:=0) (N:=some 26) (v:=?_) (a':=?_) (bitsA 13 1) rfl rfl (any_of HT_.out (by kernel_rfl)) (fun _ _ _ h=>h) (Or.inl ⟨by rfl,?_⟩) ?_ ?_
        rotate_left;(intro w';go_simp;with_reducible rfl);rotate_left;(simp only [Act.put,List.setIfInBounds_toArray,List.set_cons_zero,List.set_cons_succ,i64_w,i32_w];rfl)
        refine pure_ (i:=1) (N:=some 27) (v:=?_) (a':=?_) (bitsA 13 3) rfl rfl (any_of HT_.out (by kernel_rfl)) (fun _ _ _ h=>h) (Or.inl ⟨by rfl,?_⟩) ?_ ?_
        rotate_left;(intro w';go_simp;with_reducible rfl);rotate_left;(simp only [Act.put,List.setIfInBounds_toArray,List.set_cons_zero,List.set_cons_succ,i64_w,i32_w];rfl)
        refine pure_ (i:=5) (N:=some 31) (v:=?_) (a':=?_) (bitsA 13 35) rfl rfl (any_of HT_.out (by kernel_rfl)) (fun _ _ _ h=>h) (Or.inl ⟨by rfl,?_⟩) ?_ ?_
        rotate_left;(intro w';go_simp;with_reducible rfl);rotate_left;(simp only [Act.put,List.setIfInBounds_toArray,List.set_cons_zero,List.set_cons_succ,i64_w,i32_w];rfl)
        refine take_ (i:=2) (N:=some 28) (v:=?_) (a':=?_) (bitsA 13 39) rfl rfl (take_ofW HT_.out HW_.out (by kernel_rfl)) (fun _ _ _ h=>h) (Or.inl ⟨by rfl,?_⟩) hHeld ?_ ?_
        rotate_left;(rintro w' ⟨s0,s1,s2,s3,s4,s5,s6,s7,s8,s9,s10⟩;go_simp;with_reducible rfl);rotate_left;(simp only [Act.put,List.setIfInBounds_toArray,List.set_cons_zero,List.set_cons_succ,i64_w,i32_w];rfl)
        refine pure_ (i:=3) (N:=some 29) (v:=?_) (a':=?_) (bitsA 13 47) rfl rfl (any_of HT_.out (by kernel_rfl)) (fun _ _ _ h=>h) (Or.inl ⟨by rfl,?_⟩) ?_ ?_
        rotate_left;(intro w';go_simp;with_reducible rfl);rotate_left;(simp only [Act.put,List.setIfInBounds_toArray,List.set_cons_zero,List.set_cons_succ,i64_w,i32_w];rfl)
        refine take_ (i:=4) (N:=some 30) (v:=?_) (a':=?_) (bitsA 13 63) rfl rfl (take_ofW HT_.out HW_.out (by kernel_rfl)) (fun _ _ _ h=>h) (Or.inl ⟨by rfl,?_⟩) hHeld ?_ ?_
        rotate_left;(rintro w' ⟨s0,s1,s2,s3,s4,s5,s6,s7,s8,s9,s10⟩;go_simp;with_reducible rfl);rotate_left;(simp only [Act.put,List.setIfInBounds_toArray,List.set_cons_zero,List.set_cons_succ,i64_w,i32_w];rfl)
        refine take_ (i:=6) (N:=some 32) (v:=?_) (a':=?_) (bitsA 13 127) rfl rfl (take_ofW HT_.out HW_.out (by kernel_rfl)) (fun _ _ _ h=>h) (Or.inl ⟨by rfl,?_⟩) hHeld ?_ ?_
        rotate_left;(rintro w' ⟨s0,s1,s2,s3,s4,s5,s6,s7,s8,s9,s10⟩;go_simp;with_reducible rfl);rotate_left;(simp only [Act.put,List.setIfInBounds_toArray,List.set_cons_zero,List.set_cons_succ,i64_w,i32_w];rfl)
        refine one_ (i:=7) (N:=some 33) (bitsA 13 255) rfl rfl (one_of HT_.out (by kernel_rfl)) (by decide) (fun K hK=>?_)
        refine goes_ Tryd.func32 (by kernel_rfl) rfl #[.agg #[.string ((rd_T53 l0 a1_0).f0),.int .i64 ((rd_T53 l0 a1_0).f1),.int .i64 ((rd_T53 l0 a1_0).f2),.int .i64 ((rd_T53 l0 a1_0).f3),.int .i64 ((rd_T53 l0 a1_0).f4),.slice A103_5 ((rd_T53 l0 a1_0).f5).length c103_5,.slice A103_6 ((rd_T53 l0 a1_0).f6).length c103_6],.int .i64 a1_1] (by rfl) rfl rfl (by (try simp only [List.map_toArray,List.map_cons,List.map_nil]);first|done|rfl|(simp only [List.length_drop,List.length_take];rfl)) ?_
        with_reducible refine (sawmillref19_Price.calls kj4 ((rd_T53 l0 a1_0).f0) ((rd_T53 l0 a1_0).f1) ((rd_T53 l0 a1_0).f2) ((rd_T53 l0 a1_0).f3) ((rd_T53 l0 a1_0).f4) _ _ ((rd_T53 l0 a1_0).f5) _ _ ((rd_T53 l0 a1_0).f6) a1_1 t104 false _ ?side1 ?side2 ?side3 ?side4 A14.out).mono ?_
        (case side1=>repeat (first|exact (Kd.C_below HR103_5.out HB.out)|(with_reducible refine Kd.C_alloc ?_ _)|(with_reducible refine Kd.C_drewN ?_ _)|(with_reducible refine Kd.C_drew ?_)))
        (case side2=>exact HC103_5.out)
        (case side3=>repeat (first|exact (Kd.C_below HR103_6.out HB.out)|(with_reducible refine Kd.C_alloc ?_ _)|(with_reducible refine Kd.C_drewN ?_ _)|(with_reducible refine Kd.C_drew ?_)))
        (case side4=>exact HC103_6.out)
        rintro e w40 ⟨rfl,hb⟩
        refine ⟨_,rfl,?_⟩
        have n0_:=Aside0.mk (blk_below (g:=gb101) (o:=.cells #[.int .i64 a1_0,.int .i64 a1_1,.int .i64 a1_2,.int .i64 a1_3] 38 (0,0)) (by (with_reducible repeat (first|refine blk_drewN ?_ _|refine blk_drew ?_|refine blk_alloc ?_ _));exact BK101.out) hb)
        have n1_:=Aside0.mk (below_step (by repeat (first|(with_reducible first|exact HB.out|apply below_alloc|apply pw_below_drewN|apply below_drew1|refine below_set ?_ GE101.out)|exact HB.out)) hb)
        clear BK101
        clear HB
        have BK101:=n0_
        have HB:=n1_
        clear n0_ n1_
        (try clear hb)
        (try clear hb2)
        (try clear hk)
        (try clear hi)
        refine hK.out _ _ ⟨(blk_cell BK101.out 0).trans rfl,(blk_cell BK101.out 1).trans rfl,(blk_cell BK101.out 2).trans rfl,(blk_cell BK101.out 3).trans rfl,((HB.out.cell (World.block_lt_of_cell? w _ hw103_0)).trans hw103_0),((HB.out.cell (World.block_lt_of_cell? w _ hw103_1)).trans hw103_1),((HB.out.cell (World.block_lt_of_cell? w _ hw103_2)).trans hw103_2),((HB.out.cell (World.block_lt_of_cell? w _ hw103_3)).trans hw103_3),((HB.out.cell (World.block_lt_of_cell? w _ hw103_4)).trans hw103_4),((HB.out.cell (World.block_lt_of_cell? w _ hw103_5)).trans hw103_5),((HB.out.cell (World.block_lt_of_cell? w _ hw103_6)).trans hw103_6)⟩ (fun hHeld=>?_)
        clear hK K
        refine norm_ (a':=?_) ?_ ?_
        rotate_left
        ·show Act.put _ (some 33) _=_
         simp only [Act.put,List.setIfInBounds_toArray,List.set_cons_zero,List.set_cons_succ,i64_w,i32_w]
         rfl
        refine pure_ (i:=8) (N:=some 25) (v:=?_) (a':=?_) (bitsA 13 511) rfl rfl (any_of HT_.out (by kernel_rfl)) (fun _ _ _ h=>h) (Or.inl ⟨by rfl,?_⟩) ?_ ?_
        rotate_left;(intro w';go_simp;with_reducible rfl);rotate_left;(simp only [Act.put,List.setIfInBounds_toArray,List.set_cons_zero,List.set_cons_succ,i64_w,i32_w];rfl)
        refine pure_ (i:=9) (N:=some 34) (v:=?_) (a':=?_) (bitsA 13 1023) rfl rfl (any_of HT_.out (by kernel_rfl)) (fun _ _ _ h=>h) (Or.inl ⟨by rfl,?_⟩) ?_ ?_
        rotate_left;(intro w';go_simp;with_reducible rfl);rotate_left;(simp only [Act.put,List.setIfInBounds_toArray,List.set_cons_zero,List.set_cons_succ,i64_w,i32_w];rfl)
        refine pure_ (i:=10) (N:=some 35) (v:=?_) (a':=?_) (bitsA 13 2047) rfl rfl (any_of HT_.out (by kernel_rfl)) (fun _ _ _ h=>h) (Or.inl ⟨by rfl,?_⟩) ?_ ?_
        rotate_left;(intro w';go_simp;with_reducible rfl);rotate_left;(simp only [Act.put,List.setIfInBounds_toArray,List.set_cons_zero,List.set_cons_succ,i64_w,i32_w];rfl)
        refine pure_ (i:=11) (N:=some 7) (v:=?_) (a':=?_) (bitsA 13 4095) rfl rfl (any_of HT_.out (by kernel_rfl)) (fun _ _ _ h=>h) (Or.inl ⟨by rfl,?_⟩) ?_ ?_
        rotate_left;(intro w';go_simp;with_reducible rfl);rotate_left;(simp only [Act.put,List.setIfInBounds_toArray,List.set_cons_zero,List.set_cons_succ,i64_w,i32_w];rfl)
        refine pure_ (i:=12) (N:=some 8) (v:=?_) (a':=?_) (bitsA 13 8191) rfl rfl (any_of HT_.out (by kernel_rfl)) (fun _ _ _ h=>h) (Or.inl ⟨by rfl,?_⟩) ?_ ?_
        rotate_left;(intro w';go_simp;with_reducible rfl);rotate_left;(simp only [Act.put,List.setIfInBounds_toArray,List.set_cons_zero,List.set_cons_succ,i64_w,i32_w];rfl)
        refine done_ (done_of HT_.out (by kernel_rfl)) ?_
        try go_wp2
        go_ret2
        exact ⟨by first|rfl|(simp [errW_none,errW_some]<;>rfl)|(simp [*,errW_none,errW_some]<;>rfl),by repeat (first|(with_reducible first|exact HB.out|apply below_alloc|apply pw_below_drewN|apply below_drew1|refine below_set ?_ GE101.out)|exact HB.out)⟩
      ·rw [if_neg c13] at H
       exact absurd H (by simp)
     ·rw [if_neg c12] at H
      exact absurd H (by simp)
 ·rw [if_neg c4] at H
  have c4b0:(t102 == 0)=false:=beq_eq_false_iff_ne.mpr c4
  have c4b1:(t102 != 0)=true:=bne_iff_ne.mpr c4
  simp only [Option.some.injEq,Prod.mk.injEq] at H
  obtain ⟨rfl,rfl⟩:=H
  go_enter Tryd.func15,Tryd.ntmps15
  go_wp2_with (first|((with_reducible refine gate_dst (N:=3) rfl ?_);(try (refine gate_guard (by rfl) ?_;dsimp only));refine box_event ?hg (N:=3) ?hd (cs:=#[.int .i64 a1_0,.int .i64 a1_1,.int .i64 a1_2,.int .i64 a1_3]) (t:=38) ?hr ?_;(case hd=>rfl);(case hg=>rfl);(case hr=>first|(go_simp;done)|(go_simp;rfl));intro gb101 hg w41 hbox hb;have n0_:=Aside0.mk (below_step (by repeat (first|(with_reducible first|exact HB.out|apply below_alloc|apply pw_below_drewN|apply below_drew1)|exact HB.out)) hb);have n1_:=Aside0.mk (hbox);have n2_:=Aside0.mk ((by rw [hg];exact (below_size (by repeat (first|(with_reducible first|exact HB.out|apply below_alloc|apply pw_below_drewN|apply below_drew1)|exact HB.out))):w.heap.size≤gb101));have n3_:=Aside0.mk ((by rw [hg];exact (below_size (by repeat (first|(with_reducible first|exact HB.out|apply below_alloc|apply pw_below_drewN|apply below_drew1)|exact HB.out))):w.heap.size≤gb101));clear HB;have HB:=n0_;have BK101:=n1_;have GW101:=n2_;have GE101:=n3_;clear n0_ n1_ n2_ n3_;clear hb hbox hg)|((with_reducible refine gate_callee (f:=31) rfl ?_);refine goesL_ (some 11) rfl rfl Tryd.func31 (by kernel_rfl) rfl #[.slice A0 l0.length c0] rfl (by (try simp only [List.map_toArray,List.map_cons,List.map_nil]);first|done|rfl|(simp only [List.length_drop,List.length_take];rfl)) ?_;(with_reducible refine (sawmillref19_Check.calls k _ _ l0 t102 _ ?side1 ?side2 A3.out).mono ?_);(case side1=>repeat (first|exact (Kd.C_below HR0.out HB.out)|(with_reducible refine Kd.C_alloc ?_ _)|(with_reducible refine Kd.C_drewN ?_ _)|(with_reducible refine Kd.C_drew ?_)));(case side2=>exact HC0.out);rintro e w42 ⟨rfl,hb⟩;refine ⟨_,rfl,?_⟩;have n0_:=Aside0.mk (blk_below (g:=gb101) (o:=.cells #[.int .i64 a1_0,.int .i64 a1_1,.int .i64 a1_2,.int .i64 a1_3] 38 (0,0)) (by (with_reducible repeat (first|refine blk_drewN ?_ _|refine blk_drew ?_|refine blk_alloc ?_ _));exact BK101.out) hb);have n1_:=Aside0.mk (below_step (by repeat (first|(with_reducible first|exact HB.out|apply below_alloc|apply pw_below_drewN|apply below_drew1|refine below_set ?_ GE101.out)|exact HB.out)) hb);clear BK101;clear HB;have BK101:=n0_;have HB:=n1_;clear n0_ n1_;(try clear hb);(try clear hb2);(try clear hk);(try clear hi)))
  go_ret2
  exact ⟨by first|rfl|(simp [errW_none,errW_some]<;>rfl)|(simp [*,errW_none,errW_some]<;>rfl),by repeat (first|(with_reducible first|exact HB.out|apply below_alloc|apply pw_below_drewN|apply below_drew1|refine below_set ?_ GE101.out)|exact HB.out)⟩
end Go.Proofs.YtojkjhaobjidlaaDoor.P
namespace Go.Proofs.YtojkjhaobjidlaaDoor.P
open Go.RowKit Go.Proofs.YtojkjhaobjidlaaDoorW.PrintWords Go.Proofs.YtojkjhaobjidlaaDoorW.PrintMore
set_option linter.unusedVariables false
set_option linter.unusedSimpArgs false
theorem r02_at (n:ByteArray) (hs:n.size≤140737488351232) (k:Nat):sawmillref02_IsName.f (20+k) n=some (isNm n):=by
 induction k with
 | zero=>exact r02_nm n hs
 | succ k ih=>exact sawmillref02_IsName.mono _ _ _ ih
theorem wrap_in (x:Int) (h0:-4611686018427387904≤x) (h1:x≤4611686018427387904):wrap64 x=x:=by
 unfold wrap64
 omega
theorem r19_sized (n:ByteArray) (t w a x:Int) (L P:List Int):sawmillref19_sized.f n t w a x L P=some (!(decide (t < 1) || (decide (w < 1) || (decide (600 < t) || decide (600 < w))))):=by
 unfold sawmillref19_sized.f
 by_cases h1:t < 1
 ·rw [if_neg (by omega)];simp [h1]
 rw [if_pos (by omega)]
 by_cases h2:600 < t
 ·rw [if_neg (by omega)];simp [h2]
 rw [if_pos (by omega)]
 by_cases h3:w < 1
 ·rw [if_neg (by omega)];simp [h3]
 rw [if_pos (by omega)]
 by_cases h4:600 < w
 ·rw [show decide (w≤600)=false from decide_eq_false (by omega)];simp [h4]
 ·rw [show decide (w≤600)=true from decide_eq_true (by omega)];simp [h1,h2,h3,h4]
theorem r19_one (t a:Int) (h1:1≤t) (h2:t≤600) (h3:0≤a) (h4:a≤200):wrap64 (Int.tdiv (wrap64 ((wrap64 (t * (wrap64 (1000+a))))+999)) 1000)=(t * (1000+a)+999) / 1000:=by
 rw [wrap_in (1000+a) (by omega) (by omega)]
 have hm0:0≤t * (1000+a):=Int.mul_nonneg (by omega) (by omega)
 have hm1:t * (1000+a)≤600 * 1200:=Int.mul_le_mul h2 (by omega) (by omega) (by omega)
 generalize t * (1000+a)=m at hm0 hm1 ⊢
 rw [wrap_in m (by omega) (by omega),wrap_in (m+999) (by omega) (by omega),Int.tdiv_eq_ediv_of_nonneg (by omega),wrap_in _ (by omega) (by omega)]
theorem r19_green (n:ByteArray) (t w a x:Int) (L P:List Int):sawmillref19_Green.f n t w a x L P=some (greenB t w a):=by
 unfold sawmillref19_Green.f greenB
 rw [r19_sized,Option.bind_some]
 by_cases h:t < 1 ∨ w < 1 ∨ 600 < t ∨ 600 < w
 ·rw [if_neg (by simp;omega),if_pos (by omega)]
 ·rw [if_pos (by simp;omega)]
  by_cases h3:a < 0
  ·rw [if_pos h3,if_pos (by omega)]
  rw [if_neg h3]
  by_cases h4:200 < a
  ·rw [if_pos h4,if_pos (by omega)]
  rw [if_neg h4,if_neg (by omega),r19_one t a (by omega) (by omega) (by omega) (by omega),r19_one w a (by omega) (by omega) (by omega) (by omega)]
theorem r19_prices (n:ByteArray) (t w a x:Int) (L P:List Int) (hP:P.length≤1000):∀ (d k i:Nat),i+d=P.length→d < k→sawmillref19_checkLengths.l1 k (i:Int) n t w a x L P=some (pricesE (P.drop i)):=by
 intro d
 induction d with
 | zero =>
  intro k i hi hk
  obtain ⟨k,rfl⟩:∃ m,k=m+1:=⟨k - 1,by omega⟩
  simp only [sawmillref19_checkLengths.l1]
  rw [if_neg (by omega),List.drop_of_length_le (by omega)]
  rfl
 | succ d ih =>
  intro k i hi hk
  obtain ⟨k,rfl⟩:∃ m,k=m+1:=⟨k - 1,by omega⟩
  have h2:i < P.length:=by omega
  simp only [sawmillref19_checkLengths.l1]
  rw [if_pos (by omega),if_pos (by omega),wrap_nat i 1000000 (by omega) (by omega),ih k (i+1) (by omega) (by omega),rd_drop_ i h2]
  unfold pricesE
  rw [List.all_cons]
  generalize rd P (i:Int)=c
  generalize (P.drop (i+1)).all priceOk=b
  unfold priceOk
  by_cases g1:c < 0
  ·simp [g1]
  ·by_cases g2:c > 1000000
   ·simp [g1,g2]
   ·simp [g1,g2]
theorem r19_lens_l0 (n:ByteArray) (t w a x:Int) (L P:List Int) (hL:L.length≤1000) (hP:P.length≤1000):∀ (d k i:Nat),i+d=L.length→2 * d+P.length+1 < k→sawmillref19_checkLengths.l0 k (i:Int) n t w a x L P=some (if lensGo (prevOf L i) (L.drop i)=0 then pricesE P else lensGo (prevOf L i) (L.drop i)):=by
 intro d
 induction d with
 | zero =>
  intro k i hi hk
  obtain ⟨k,rfl⟩:∃ m,k=m+1:=⟨k - 1,by omega⟩
  simp only [sawmillref19_checkLengths.l0]
  rw [if_neg (by omega),List.drop_of_length_le (by omega)]
  have:=r19_prices n t w a x L P hP P.length k 0 (by omega) (by omega)
  rw [show ((0:Nat):Int)=0 from rfl] at this
  rw [this]
  simp [lensGo]
 | succ d ih =>
  intro k i hi hk
  obtain ⟨k,rfl⟩:∃ m,k=m+2:=⟨k - 2,by omega⟩
  have h2:i < L.length:=by omega
  have e:wrap64 ((i:Int)+1)=((i+1:Nat):Int):=wrap_nat i 1000000 (by omega) (by omega)
  have hi2:=ih k (i+1) (by omega) (by omega)
  have hp:prevOf L (i+1)=some (rd L (i:Int)):=by
   unfold prevOf
   rw [if_neg (by omega),show ((i+1:Nat):Int) - 1=(i:Int) by omega]
  rw [hp] at hi2
  have q0:(i:Int) < (L.length:Int):=by omega
  have q1:(0:Int)≤(i:Int):=by omega
  simp only [sawmillref19_checkLengths.l0,sawmillref19_checkLengths.j1]
  rw [if_pos q0,if_pos q1,e,hi2,rd_drop_ i h2]
  rw [lensGo]
  obtain ⟨q,hq⟩:∃ q,q=rd L ((i:Int) - 1):=⟨_,rfl⟩
  have hpv:prevOf L i=if i=0 then none else some q:=by rw [hq];rfl
  rw [hpv]
  generalize hc:rd L (i:Int)=c
  by_cases g1:c < 100
  ·simp [g1]
  by_cases g2:20000 < c
  ·simp [g1,g2]
  simp only [g1,g2,or_self,if_false,decide_false,Bool.false_eq_true,if_neg,gt_iff_lt]
  by_cases hz:i=0
  ·subst hz
   simp [leQ]
  ·have hw:wrap64 ((i:Int) - 1)=(i:Int) - 1:=wrap_in _ (by omega) (by omega)
   rw [if_pos (by omega),if_pos q1,if_pos q0,hw,if_pos (by omega),if_pos (by omega),if_neg hz,← hq]
   by_cases g3:c≤q
   ·simp [leQ,g3]
   ·simp [leQ,g3]
theorem r19_lens (n:ByteArray) (t w a x:Int) (L P:List Int) (k:Nat) (hk:26 < k):sawmillref19_checkLengths.f k n t w a x L P=some (lensE L P):=by
 unfold sawmillref19_checkLengths.f lensE
 by_cases h1:L.length=0
 ·rw [if_pos (by omega),if_pos h1]
 rw [if_neg (by omega),if_neg h1]
 by_cases h2:8 < L.length
 ·rw [if_pos (by omega),if_pos h2]
 rw [if_neg (by omega),if_neg h2]
 by_cases h3:L.length=P.length
 ·rw [if_pos (by omega),if_pos h3]
  have:=r19_lens_l0 n t w a x L P (by omega) (by omega) L.length k 0 (by omega) (by omega)
  rw [show ((0:Nat):Int)=0 from rfl] at this
  rw [this]
  rfl
 ·rw [if_neg (by omega),if_neg h3]
theorem r19_j2 (l:List PR) (i:Nat) (hi:i≤1000) (p:PR) (X:Int) (F:Nat) (hX:∀ k,F≤k→sawmillref19_Check.l0 k l ((i+1:Nat):Int)=some X) (b:Bool) (k:Nat) (hk:F+40≤k):sawmillref19_Check.j2 k l (i:Int) b p.f0 p.f1 p.f2 p.f3 p.f4 p.f5 p.f6=some (if b=true then 9 else if 600 < (greenB p.f1 p.f2 p.f3).2 then 9 else if lensE p.f5 p.f6=0 then X else lensE p.f5 p.f6):=by
 obtain ⟨k,rfl⟩:∃ m,k=m+1:=⟨k - 1,by omega⟩
 simp only [sawmillref19_Check.j2]
 rw [r19_green,Option.bind_some,r19_lens _ _ _ _ _ _ _ k (by omega),Option.bind_some,wrap_nat i 1000000 (by omega) (by omega),hX k (by omega)]
 cases b
 ·simp only [Bool.false_eq_true,if_false]
  by_cases h1:600 < (greenB p.f1 p.f2 p.f3).2
  ·rw [if_pos h1,if_pos h1]
  ·rw [if_neg h1,if_neg h1]
   by_cases h2:lensE p.f5 p.f6=0
   ·rw [if_pos h2,if_pos h2]
   ·rw [if_neg h2,if_neg h2]
 ·simp only [if_true]
theorem r19_l1 (l:List PR) (i:Nat) (hi:i < l.length) (hl:l.length≤1000) (p:PR) (X:Int) (F:Nat) (hX:∀ k,F≤k→sawmillref19_Check.l0 k l ((i+1:Nat):Int)=some X):∀ (d k j:Nat),j+d=i→F+d+45 < k→sawmillref19_Check.l1 k l (i:Int) (j:Int) p.f0 p.f1 p.f2 p.f3 p.f4 p.f5 p.f6=some (if (fnd p.f0 ((l.take i).drop j) j).2=true then 7 else if sizedB p.f1 p.f2 p.f3 p.f4=true then (if lensE p.f5 p.f6=0 then X else lensE p.f5 p.f6) else 9):=by
 intro d
 induction d with
 | zero =>
  intro k j hj hk
  obtain ⟨k,rfl⟩:∃ m,k=m+1:=⟨k - 1,by omega⟩
  simp only [sawmillref19_Check.l1]
  rw [if_neg (by omega),List.drop_of_length_le (by rw [List.length_take];omega)]
  simp only [r19_j2 l i (by omega) p X F hX _ k (by omega),fnd,Bool.false_eq_true,if_false,if_true]
  unfold sizedB
  by_cases h1:p.f1 < 5
  ·simp [h1]
  by_cases h2:300 < p.f1
  ·simp [h1,h2]
  by_cases h3:p.f2 < p.f1
  ·simp [h1,h2,h3]
  by_cases h4:600 < p.f2
  ·simp [h1,h2,h3,h4]
  by_cases h5:p.f3 < 0
  ·simp [h1,h2,h3,h4,h5]
  by_cases h6:200 < p.f3
  ·simp [h1,h2,h3,h4,h5,h6]
  by_cases h7:p.f4 < 0
  ·simp [h1,h2,h3,h4,h5,h6,h7]
  by_cases h8:1000 < p.f4
  ·simp [h1,h2,h3,h4,h5,h6,h7,h8]
  by_cases h9:600 < (greenB p.f1 p.f2 p.f3).2
  ·simp [h1,h2,h3,h4,h5,h6,h7,h8,h9]
  ·simp [h1,h2,h3,h4,h5,h6,h7,h8,h9]
 | succ d ih =>
  intro k j hj hk
  obtain ⟨k,rfl⟩:∃ m,k=m+1:=⟨k - 1,by omega⟩
  have hjl:j < (l.take i).length:=by rw [List.length_take];omega
  have q0:(j:Int) < (i:Int):=by omega
  have q1:(0:Int)≤(j:Int):=by omega
  have q2:(j:Int) < (l.length:Int):=by omega
  have hs:=ih k (j+1) (by omega) (by omega)
  simp only [sawmillref19_Check.l1]
  rw [if_pos q0,if_pos q1,if_pos q2,wrap_nat j 1000000 (by omega) (by omega),hs,List.drop_eq_getElem_cons hjl,fnd,List.getElem_take,rdP_get j (by omega)]
  by_cases h:l[j].f0.toList=p.f0.toList
  ·rw [if_pos h,if_pos h]
   simp
  ·rw [if_neg h,if_neg h]
theorem r19_l0 (l:List PR) (hl:l.length≤16) (hn:∀ p ∈ l,p.f0.size≤100):∀ (d k i:Nat),i+d=l.length→70 * d+10 < k→sawmillref19_Check.l0 k l (i:Int)=some (chkGo l d i):=by
 intro d
 induction d with
 | zero =>
  intro k i hi hk
  obtain ⟨k,rfl⟩:∃ m,k=m+1:=⟨k - 1,by omega⟩
  simp only [sawmillref19_Check.l0]
  rw [if_neg (by omega)]
  rfl
 | succ d ih =>
  intro k i hi hk
  obtain ⟨k,rfl⟩:∃ m,k=m+1:=⟨k - 1,by omega⟩
  obtain ⟨q,rfl⟩:∃ q,k=20+q:=⟨k - 20,by omega⟩
  have h2:i < l.length:=by omega
  have q0:(i:Int) < (l.length:Int):=by omega
  have q1:(0:Int)≤(i:Int):=by omega
  have hnm:=hn _ (List.getElem_mem h2)
  have hX:∀ k,70 * d+11≤k→sawmillref19_Check.l0 k l ((i+1:Nat):Int)=some (chkGo l d (i+1)):=fun k hk=>ih k (i+1) (by omega) (by omega)
  have h1:=r19_l1 l i h2 (by omega) l[i] _ _ hX i (20+q) 0 (by omega) (by omega)
  rw [show ((0:Nat):Int)=0 from rfl,List.drop_zero] at h1
  simp only [sawmillref19_Check.l0]
  rw [if_pos q0,if_pos q1,rdP_get i h2,r02_at _ (by omega),Option.bind_some,h1,chkGo,rdP_get i h2]
  unfold prodE
  cases isNm l[i].f0
  ·simp
  ·simp only [if_true]
   generalize (fnd l[i].f0 (l.take i) 0).2=b
   cases b
   ·simp only [Bool.false_eq_true,if_false]
    generalize sizedB l[i].f1 l[i].f2 l[i].f3 l[i].f4=b2
    cases b2
    ·simp
    ·simp only [if_true]
   ·simp
theorem r19_chk (l:List PR) (hn:∀ p ∈ l,p.f0.size≤100) (k:Nat) (hk:1200 < k):sawmillref19_Check.f k l=some (chkB l):=by
 unfold sawmillref19_Check.f chkB
 by_cases h:16 < l.length
 ·rw [if_pos (by omega),if_pos h]
 ·rw [if_neg (by omega),if_neg h]
  exact r19_l0 l (by omega) hn l.length k 0 (by omega) (by omega)
theorem r19_price_l0 (nm:ByteArray) (t w a x n:Int) (L P:List Int) (hL:L.length≤1000):∀ (d k i:Nat),i+d=L.length→d < k→sawmillref19_Price.l0 k n (i:Int) nm t w a x L P=some (prcGo P n (L.drop i) i):=by
 intro d
 induction d with
 | zero =>
  intro k i hi hk
  obtain ⟨k,rfl⟩:∃ m,k=m+1:=⟨k - 1,by omega⟩
  simp only [sawmillref19_Price.l0]
  rw [if_neg (by omega),List.drop_of_length_le (by omega)]
  rfl
 | succ d ih =>
  intro k i hi hk
  obtain ⟨k,rfl⟩:∃ m,k=m+1:=⟨k - 1,by omega⟩
  have h2:i < L.length:=by omega
  simp only [sawmillref19_Price.l0]
  rw [if_pos (by omega),if_pos (by omega),wrap_nat i 1000000 (by omega) (by omega),ih k (i+1) (by omega) (by omega),rd_drop_ i h2,prcGo]
  by_cases h:rd L (i:Int)=n
  ·rw [if_pos h,if_pos h]
   by_cases g:P.length≤i
   ·rw [if_pos (by omega),if_pos g]
   ·rw [if_neg (by omega),if_neg g,if_pos (by omega)]
  ·rw [if_neg h,if_neg h]
theorem split_amount (v c:Int) (h0:0≤v) (h1:v≤720000000000) (h2:0≤c) (h3:c≤1000000000):wrap64 ((wrap64 ((wrap64 (Int.tdiv v 1000000000)) * c))+(wrap64 (Int.tdiv (wrap64 ((wrap64 ((Int.tmod v 1000000000) * c))+500000000)) 1000000000)))=(c * v+500000000) / 1000000000:=by
 rw [Int.tdiv_eq_ediv_of_nonneg h0,Int.tmod_eq_emod_of_nonneg h0]
 obtain ⟨q,hq⟩:∃ q,q=v / 1000000000:=⟨_,rfl⟩
 obtain ⟨r,hr⟩:∃ r,r=v % 1000000000:=⟨_,rfl⟩
 rw [← hq,← hr]
 have hv:v=q * 1000000000+r:=by omega
 have q0:0≤q∧q≤720:=by omega
 have r0:0≤r∧r < 1000000000:=by omega
 clear hq hr
 have e:c * v=q * c * 1000000000+r * c:=by
  rw [hv,Int.mul_add,Int.mul_comm c r,← Int.mul_assoc,Int.mul_comm c q]
 rw [e]
 clear e hv h0 h1
 have a0:0≤q * c:=Int.mul_nonneg q0.1 h2
 have a1:q * c≤720 * 1000000000:=Int.mul_le_mul q0.2 h3 h2 (by decide)
 have b0:0≤r * c:=Int.mul_nonneg r0.1 h2
 have b1:r * c≤1000000000 * 1000000000:=Int.mul_le_mul (by omega) h3 h2 (by decide)
 rw [wrap_in q (by omega) (by omega)]
 generalize q * c=m at a0 a1 ⊢
 generalize r * c=n at b0 b1 ⊢
 rw [wrap_in m (by omega) (by omega),wrap_in n (by omega) (by omega),wrap_in (n+500000000) (by omega) (by omega),Int.tdiv_eq_ediv_of_nonneg (by omega),wrap_in ((n+500000000) / 1000000000) (by omega) (by omega),wrap_in _ (by omega) (by omega)]
 omega
theorem r50_amount (c:List PR) (hn:∀ p ∈ c,p.f0.size≤100) (x:IT) (k:Nat) (hk:1210 < k):sawmillref50_Amount.f k c x.f0 x.f1 x.f2 x.f3=some (amountB c x):=by
 obtain ⟨k,rfl⟩:∃ m,k=m+1:=⟨k - 1,by omega⟩
 unfold sawmillref50_Amount.f amountB
 rw [r19_chk c hn _ (by omega),Option.bind_some]
 by_cases h0:chkB c=0
 case neg=>rw [if_neg h0,if_neg h0]
 rw [if_pos h0,if_pos h0]
 simp only [sawmillref50_Amount.j0,if_true,decide_eq_true_eq,ge_iff_le,gt_iff_lt]
 by_cases h1:x.f0 < 0
 ·rw [if_pos h1,if_pos (Or.inl h1)]
 rw [if_neg h1]
 by_cases h2:(c.length:Int)≤x.f0
 ·rw [if_pos h2,if_pos (Or.inr h2)]
 rw [if_neg h2,if_neg (show ¬ (x.f0 < 0 ∨ (c.length:Int)≤x.f0) by omega),if_pos (by omega),if_pos (by omega)]
 have hp:=(chk_ok c h0).2 _ (rdP_mem (c:=c) (i:=x.f0) (by omega) (by omega))
 generalize rd_T53 c x.f0=p at hp ⊢
 obtain ⟨l1,l2,l3,l4,l5⟩:=lensE_ok p.f5 p.f6 hp.ln
 have hpr:sawmillref19_Price.f k p.f0 p.f1 p.f2 p.f3 p.f4 p.f5 p.f6 x.f1=some (prcGo p.f6 x.f1 p.f5 0):=by
  unfold sawmillref19_Price.f
  exact r19_price_l0 _ _ _ _ _ _ _ _ (by omega) p.f5.length k 0 (by omega) (by omega)
 rw [hpr,Option.bind_some]
 by_cases h3:(prcGo p.f6 x.f1 p.f5 0).2=true
 case neg=>rw [if_neg h3,if_neg h3]
 rw [if_pos h3,if_pos h3]
 have hx:=l4 _ (prcGo_mem _ _ _ _ h3)
 clear hpr h3
 by_cases h4:x.f2 < 0
 ·rw [if_pos h4,if_pos (Or.inl h4)]
 rw [if_neg h4]
 by_cases h5:200 < x.f2
 ·rw [if_pos h5,if_pos (Or.inr (Or.inl h5))]
 rw [if_neg h5]
 by_cases h6:x.f3 < 0
 ·rw [if_pos h6,if_pos (Or.inr (Or.inr (Or.inl h6)))]
 rw [if_neg h6]
 by_cases h7:1000000000 < x.f3
 ·rw [if_pos h7,if_pos (Or.inr (Or.inr (Or.inr h7)))]
 rw [if_neg h7,if_neg (show ¬ (x.f2 < 0 ∨ 200 < x.f2 ∨ x.f3 < 0 ∨ 1000000000 < x.f3) by omega)]
 obtain ⟨s1,s2,s3,s4,s5,s6⟩:=sized_nums hp.sz
 obtain ⟨v1,v2,v3,v4,v5,v6⟩:=vol_le s1 s2 s3 s4 hx.1 hx.2 (show 0≤x.f2 by omega) (show x.f2≤200 by omega)
 unfold sawmillref19_Volume.f
 rw [r19_sized,Option.bind_some,if_pos (by simp;omega),if_neg (by omega),if_neg (by omega),Option.bind_some]
 have e1:wrap64 (p.f1 * p.f2)=p.f1 * p.f2:=wrap_in _ (by omega) (by omega)
 have e2:wrap64 (p.f1 * p.f2 * x.f1)=p.f1 * p.f2 * x.f1:=wrap_in _ (by omega) (by omega)
 have e3:wrap64 (p.f1 * p.f2 * x.f1 * x.f2)=p.f1 * p.f2 * x.f1 * x.f2:=wrap_in _ (by omega) (by omega)
 rw [e1,e2,e3]
 generalize p.f1 * p.f2 * x.f1 * x.f2=m at v5 v6 ⊢
 rw [split_amount m x.f3 v5 v6 (by omega) (by omega)]
end Go.Proofs.YtojkjhaobjidlaaDoor.P
