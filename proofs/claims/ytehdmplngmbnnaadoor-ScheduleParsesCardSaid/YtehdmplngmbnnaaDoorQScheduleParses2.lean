/-
  Walks and plain laws on the way to the statement ScheduleParses; no conditions.
-/
import Derived.Test.YtehdmplngmbnnaaDoorMb2
import Derived.Test.YtehdmplngmbnnaaDoorQScheduleParses1
import Derived.Test.YtehdmplngmbnnaaDoorMb3
namespace Go.Proofs.YtehdmplngmbnnaaDoor.P
open Go.RowKit Go.Proofs.YtehdmplngmbnnaaDoorW.PrintWords Go.Proofs.YtehdmplngmbnnaaDoorW.PrintLast Go.Proofs.YtehdmplngmbnnaaDoorW.PrintMore
attribute [local go_sem] qbV qbW qcC qcD qbQ qbR qbX qbY
attribute [local go_sem] qbL
set_option linter.unusedVariables false
set_option linter.unusedSimpArgs false
def sawmillref37_last.f (k:Nat) (l0:List (S24)):Option (Int):=if 0≤(wrap64 ((l0.length:Int) - 1)) then (if (wrap64 ((l0.length:Int) - 1)) < (l0.length:Int) then (if (l0.length:Int) > 8 then (some 4) else ((sawmillref37_Check.f k ((qaP l0 (wrap64 ((l0.length:Int) - 1))).f0) ((qaP l0 (wrap64 ((l0.length:Int) - 1))).f1) ((qaP l0 (wrap64 ((l0.length:Int) - 1))).f2)).bind fun t103=>(if t103=0 then (if (wrap64 ((l0.length:Int) - 1))≤(l0.length:Int) then ((sawmillref37_Find.f k (l0.take ((wrap64 ((l0.length:Int) - 1)):Int).toNat) ((qaP l0 (wrap64 ((l0.length:Int) - 1))).f0)).bind fun bt108=>(if bt108.2.2.2=true then (some 7) else (some 0))) else (none)) else (some t103)))) else (none)) else (none)
def sawmillref37_last.T7:Bool × List (List Nat × List Nat):=(true,[([],[]),([],[]),([1],[1]),([2],[2]),([0,3],[0,3]),([],[]),([5],[5]),([4,6],[4,6]),([7],[7]),([8],[8]),([8],[8]),([],[]),([11,9,7,0,1,2,3,4,5,6,7,8,9,11],[9,11]),([10,12,0,1,2,3,4,5,6,7,8,9,10,11,12],[10])])
def sawmillref37_last.B7:List Nat:=[0,0,2,6,15,0,32,127,255,511,511,0,3071,8191]
theorem sawmillref37_last.tab7:rtab .any (opsOf Tryd.f43 7)=sawmillref37_last.T7:=by kernel_rfl
theorem sawmillref37_last.bits7:waitsOk sawmillref37_last.T7.2 sawmillref37_last.B7=true:=by kernel_rfl
set_option maxHeartbeats 8000000 in
set_option maxRecDepth 100000 in
theorem sawmillref37_last.calls (k:Nat) (A0:Option Addr) (c0:Nat) (l0:List (S24)) (r:Int) (w:World) (hr0:Kd.C k24 w A0 l0.length l0) (hc0:l0.length≤c0) (h:sawmillref37_last.f k l0=some r) :
  Calls Tryd.prog 43 #[.slice A0 l0.length c0] w fun e w'=>e=.returned (.int .i64 r)∧Below w.heap.size w w':=by
 have hu24:=Tryd.underlying24
 have HR0:=Aside0.mk hr0
 have HC0:=Aside0.mk hc0
 clear hr0 hc0
 have HB:=Aside0.mk (Below.refl w.heap.size w)
 have H:(if 0≤(wrap64 ((l0.length:Int) - 1)) then (if (wrap64 ((l0.length:Int) - 1)) < (l0.length:Int) then (if (l0.length:Int) > 8 then (some 4) else ((sawmillref37_Check.f k ((qaP l0 (wrap64 ((l0.length:Int) - 1))).f0) ((qaP l0 (wrap64 ((l0.length:Int) - 1))).f1) ((qaP l0 (wrap64 ((l0.length:Int) - 1))).f2)).bind fun t103=>(if t103=0 then (if (wrap64 ((l0.length:Int) - 1))≤(l0.length:Int) then ((sawmillref37_Find.f k (l0.take ((wrap64 ((l0.length:Int) - 1)):Int).toNat) ((qaP l0 (wrap64 ((l0.length:Int) - 1))).f0)).bind fun bt108=>(if bt108.2.2.2=true then (some 7) else (some 0))) else (none)) else (some t103)))) else (none)) else (none))=some r:=h
 clear h
 obtain ⟨ji2,hji2⟩:∃ j_:Int,(wrap64 ((l0.length:Int) - 1))=j_:=⟨_,rfl⟩
 replace H:(if 0≤(ji2) then (if (ji2) < (l0.length:Int) then (if (l0.length:Int) > 8 then (some 4) else ((sawmillref37_Check.f k ((qaP l0 (ji2)).f0) ((qaP l0 (ji2)).f1) ((qaP l0 (ji2)).f2)).bind fun t103=>(if t103=0 then (if (ji2)≤(l0.length:Int) then ((sawmillref37_Find.f k (l0.take ((ji2):Int).toNat) ((qaP l0 (ji2)).f0)).bind fun bt108=>(if bt108.2.2.2=true then (some 7) else (some 0))) else (none)) else (some t103)))) else (none)) else (none))=some r:=by first|(rw [hji2] at H;exact H)|(simp only [hji2] at H ⊢;exact H)
 have hji2w:(IntKind.i64.wrap ((l0.length:Int) - 1))=ji2:=(qaX _).trans hji2
 by_cases c3:0≤(ji2)
 ·rw [if_pos c3] at H
  have c3b0:decide (0≤(ji2))=true:=decide_eq_true c3
  clear c3
  by_cases c4:(ji2) < (l0.length:Int)
  ·rw [if_pos c4] at H
   have c4b0:decide ((ji2) < (l0.length:Int))=true:=decide_eq_true c4
   clear c4
   by_cases c5:(l0.length:Int) > 8
   ·rw [if_pos c5] at H
    have c5b0:decide (8 < (l0.length:Int))=true:=decide_eq_true c5
    have c5b1:decide (8 < l0.length)=true:=decide_eq_true (by omega)
    clear c5
    obtain rfl:=Option.some.inj H
    have p101:0≤((ji2):Int):=of_decide_eq_true (by first|(with_reducible assumption)|assumption)
    have q101:(ji2) < (l0.length:Int):=of_decide_eq_true (by first|(with_reducible assumption)|assumption)
    obtain ⟨ad101,A101_2,c101_2,e101,hx101_0,hx101_1,hx101_2,hl101_2,hi101_2⟩:=at_T24 HR0.out (ji2) p101 q101
    cases e101
    have HR101_2:=Aside0.mk hi101_2
    have HC101_2:=Aside0.mk hl101_2
    clear hi101_2 hl101_2
    replace p101:=eq_true p101
    replace q101:=eq_true q101
    go_enter Tryd.func43,Tryd.ntmps43
    go_wp2_with (first|((with_reducible refine qbE (N:=3) rfl ?_);refine qbC ?hg (N:=3) ?hd (cs:=#[.string (⟨#[]⟩:ByteArray),.int .i64 0,.slice none 0 0]) (t:=24) ?hr ?_;(case hd=>rfl);(case hg=>rfl);(case hr=>first|(go_simp;done)|(go_simp;rfl));intro gb102 hg w6 hbox hb;have n0_:=Aside0.mk (qaN (by repeat (first|(with_reducible first|exact HB.out|apply qaB|apply qaA|apply qaC)|exact HB.out)) hb);have n1_:=Aside0.mk (hbox);have n2_:=Aside0.mk ((by rw [hg];exact (qaK (by repeat (first|(with_reducible first|exact HB.out|apply qaB|apply qaA|apply qaC)|exact HB.out))):w.heap.size≤gb102));have n3_:=Aside0.mk ((by rw [hg];exact (qaK (by repeat (first|(with_reducible first|exact HB.out|apply qaB|apply qaA|apply qaC)|exact HB.out))):w.heap.size≤gb102));clear HB;have HB:=n0_;have BK102:=n1_;have GW102:=n2_;have GE102:=n3_;clear n0_ n1_ n2_ n3_;clear hb hbox hg;have hcz7_0:w6.cell? ⟨gb102,0,none⟩=some (.string (⟨#[]⟩:ByteArray)):=(qaE BK102.out 0).trans rfl;have hcz7_1:w6.cell? ⟨gb102,1,none⟩=some (.int .i64 0):=(qaE BK102.out 1).trans rfl;have hcz7_2:w6.cell? ⟨gb102,2,none⟩=some (.slice none 0 0):=(qaE BK102.out 2).trans rfl;have hfz7_0:=qaD BK102.out 0;have hfz7_1:=qaD BK102.out 1;have hfz7_2:=qaD BK102.out 2))
    go_ret
    exact ⟨by first|rfl|(simp [qaL,qaM]<;>rfl)|(simp only [← hji2];first|rfl|(simp [qaL,qaM]<;>rfl))|(simp [*,qaL,qaM]<;>rfl),by repeat (first|(with_reducible first|exact HB.out|apply qaB|apply qaA|apply qaC|refine qaF ?_ GE102.out)|exact HB.out)⟩
   ·rw [if_neg c5] at H
    have c5b0:decide (8 < (l0.length:Int))=false:=decide_eq_false c5
    have c5b1:decide (8 < l0.length)=false:=decide_eq_false (by omega)
    clear c5
    replace H:=Option.bind_eq_some_iff.mp H
    obtain ⟨t103,A80,H⟩:=H
    replace H:(if t103=0 then (if (ji2)≤(l0.length:Int) then ((sawmillref37_Find.f k (l0.take ((ji2):Int).toNat) ((qaP l0 (ji2)).f0)).bind fun bt108=>(if bt108.2.2.2=true then (some 7) else (some 0))) else (none)) else (some t103))=some r:=H
    have A8:=Aside0.mk A80
    clear A80
    by_cases c9:t103=0
    ·rw [if_pos c9] at H
     have c9b0:(t103 == 0)=true:=beq_iff_eq.mpr c9
     have c9b1:(t103 != 0)=false:=bne_eq_false_iff_eq.mpr c9
     clear c9
     have c10b0:=eq_true (of_decide_eq_true (by first|(with_reducible assumption)|assumption):0≤(ji2))
     by_cases c11:(ji2)≤(l0.length:Int)
     ·rw [if_pos c11] at H
      have c11b0:=eq_true c11
      have c11b1:decide ((ji2)≤(l0.length:Int))=true:=decide_eq_true c11
      clear c11
      obtain ⟨y104,hy104⟩:∃ y_:List (S24),y_=(l0.take ((ji2):Int).toNat):=⟨_,rfl⟩
      replace H:((sawmillref37_Find.f k y104 ((qaP l0 (ji2)).f0)).bind fun bt108=>(if bt108.2.2.2=true then (some 7) else (some 0)))=some r:=by first|(rw [hy104];with_reducible exact H)|(have H2_:=(Option.bind_some _ _).symm.trans H;rw [hy104];with_reducible exact H2_)|(have H2_:=(Option.bind_some _ _).symm.trans H;with_reducible exact H2_)|with_reducible exact H|(rw [hy104];exact H)|exact H
      have Ny104:=Aside0.mk hy104
      clear hy104
      replace H:=Option.bind_eq_some_iff.mp H
      obtain ⟨⟨t108,t109,t110,t113⟩,A120,H⟩:=H
      replace H:(if t113=true then (some 7) else (some 0))=some r:=H
      have A12:=Aside0.mk A120
      clear A120
      have HBr:=Aside0.mk H
      clear H
      have p101:0≤((ji2):Int):=of_decide_eq_true (by first|(with_reducible assumption)|assumption)
      have q101:(ji2) < (l0.length:Int):=of_decide_eq_true (by first|(with_reducible assumption)|assumption)
      obtain ⟨ad101,A101_2,c101_2,e101,hx101_0,hx101_1,hx101_2,hl101_2,hi101_2⟩:=at_T24 HR0.out (ji2) p101 q101
      cases e101
      have HR101_2:=Aside0.mk hi101_2
      have HC101_2:=Aside0.mk hl101_2
      clear hi101_2 hl101_2
      replace p101:=eq_true p101
      replace q101:=eq_true q101
      go_enter Tryd.func43,Tryd.ntmps43
      try go_wp2_with (first|((with_reducible refine qbE (N:=3) rfl ?_);refine qbC ?hg (N:=3) ?hd (cs:=#[.string (⟨#[]⟩:ByteArray),.int .i64 0,.slice none 0 0]) (t:=24) ?hr ?_;(case hd=>rfl);(case hg=>rfl);(case hr=>first|(go_simp;done)|(go_simp;rfl));intro gb102 hg w14 hbox hb;have n0_:=Aside0.mk (qaN (by repeat (first|(with_reducible first|exact HB.out|apply qaB|apply qaA|apply qaC)|exact HB.out)) hb);have n1_:=Aside0.mk (hbox);have n2_:=Aside0.mk ((by rw [hg];exact (qaK (by repeat (first|(with_reducible first|exact HB.out|apply qaB|apply qaA|apply qaC)|exact HB.out))):w.heap.size≤gb102));have n3_:=Aside0.mk ((by rw [hg];exact (qaK (by repeat (first|(with_reducible first|exact HB.out|apply qaB|apply qaA|apply qaC)|exact HB.out))):w.heap.size≤gb102));clear HB;have HB:=n0_;have BK102:=n1_;have GW102:=n2_;have GE102:=n3_;clear n0_ n1_ n2_ n3_;clear hb hbox hg;have hcz15_0:w14.cell? ⟨gb102,0,none⟩=some (.string (⟨#[]⟩:ByteArray)):=(qaE BK102.out 0).trans rfl;have hcz15_1:w14.cell? ⟨gb102,1,none⟩=some (.int .i64 0):=(qaE BK102.out 1).trans rfl;have hcz15_2:w14.cell? ⟨gb102,2,none⟩=some (.slice none 0 0):=(qaE BK102.out 2).trans rfl;have hfz15_0:=qaD BK102.out 0;have hfz15_1:=qaD BK102.out 1;have hfz15_2:=qaD BK102.out 2)|((with_reducible refine qaO (f:=17) rfl ?_);refine qbG (some 17) rfl rfl Tryd.func17 (by kernel_rfl) rfl #[.agg #[.string ((qaP l0 (ji2)).f0),.int .i64 ((qaP l0 (ji2)).f1),.slice A101_2 ((qaP l0 (ji2)).f2).length c101_2]] rfl (by (try simp only [List.map_toArray,List.map_cons,List.map_nil]);first|done|(simp only [hji2];rfl)|rfl|(simp only [List.length_drop,List.length_take];rfl)) ?_;(with_reducible refine (sawmillref37_Check.calls k ((qaP l0 (ji2)).f0) ((qaP l0 (ji2)).f1) _ _ ((qaP l0 (ji2)).f2) t103 _ ?side1 ?side2 A8.out).mono ?_);(case side1=>exact Kd.C_below HR101_2.out (by repeat (first|(with_reducible first|exact HB.out|apply qaB|apply qaA|apply qaC|refine qaF ?_ GE102.out)|exact HB.out)));(case side2=>exact HC101_2.out);rintro e w16 ⟨rfl,hb⟩;refine ⟨_,rfl,?_⟩;have n0_:=Aside0.mk (qaS (g:=gb102) (o:=.cells #[.string ((qaP l0 (ji2)).f0),.int .i64 ((qaP l0 (ji2)).f1),.slice A101_2 ((qaP l0 (ji2)).f2).length c101_2] 24 (0,0)) (by (with_reducible repeat (first|refine qaH ?_ _|refine qaI ?_|refine qaG ?_ _));refine qaR (cs:=#[.string ((qaP l0 (ji2)).f0),.int .i64 ((qaP l0 (ji2)).f1),.slice none 0 0]) ?_ 2 _ rfl;(with_reducible repeat (first|refine qaH ?_ _|refine qaI ?_|refine qaG ?_ _));refine qaR (cs:=#[.string ((qaP l0 (ji2)).f0),.int .i64 0,.slice none 0 0]) ?_ 1 _ rfl;(with_reducible repeat (first|refine qaH ?_ _|refine qaI ?_|refine qaG ?_ _));refine qaR (cs:=#[.string (⟨#[]⟩:ByteArray),.int .i64 0,.slice none 0 0]) ?_ 0 _ rfl;(with_reducible repeat (first|refine qaH ?_ _|refine qaI ?_|refine qaG ?_ _));exact BK102.out) hb);have n1_:=Aside0.mk (qaN (by repeat (first|(with_reducible first|exact HB.out|apply qaB|apply qaA|apply qaC|refine qaF ?_ GE102.out)|exact HB.out)) hb);clear BK102;clear HB;have BK102:=n0_;have HB:=n1_;clear n0_ n1_;(try clear hb);(try clear hb2);(try clear hk);(try clear hi)))
      have n0_:=Aside0.mk (qaI BK102.out)
      have n1_:=Aside0.mk (qaC HB.out)
      clear BK102
      clear HB
      have BK102:=n0_
      have HB:=n1_
      clear n0_ n1_
      have q18:((ji2):Int)≤((l0.length:Int):Int):=of_decide_eq_true (by first|(with_reducible assumption)|assumption)
      obtain ⟨i018,hi018,_,hsz18,_⟩:=info_parts info24
      have hroom18:l0.length≤c0:=HC0.out
      have hC18:Kd.C k24 _ (some ad101) l0.length l0:=HR0.out
      have hcut18:=cut_to (P:=Tryd.prog) 25 24 .i64 Tryd.underlying25 hi018 (some ad101) l0.length c0 (ji2) (of_decide_eq_true (by first|(with_reducible assumption)|assumption)) q18 hroom18
      have hr18:=Kd.C_take (m:=((ji2):Int).toNat) hC18 (by omega)
      have hy18:y104.length=((ji2):Int).toNat:=(by rw [Ny104.out,List.length_take];omega)
      rw [← Ny104.out] at hr18
      rw [← hy18] at hcut18
      have HR107:=Aside0.mk hr18
      have HC107:=Aside0.mk (show y104.length≤c0 from by omega)
      clear hr18 hC18 hroom18 hi018 hsz18
      have KY18:=Aside0.mk hy18
      clear hy18
      replace q18:=eq_true q18
      refine start_ (n:=14) (S:=fun w'=>w'.cell? ⟨gb102,0,none⟩=some (.string ((qaP l0 (ji2)).f0))∧w'.cell? ⟨gb102,1,none⟩=some (.int .i64 ((qaP l0 (ji2)).f1))∧w'.cell? ⟨gb102,2,none⟩=some (.slice A101_2 ((qaP l0 (ji2)).f2).length c101_2)) (ds:=[]) (bitsA 14 0) (by kernel_rfl) rfl rfl ⟨(qaE BK102.out 0).trans rfl,(qaE BK102.out 1).trans rfl,(qaE BK102.out 2).trans rfl⟩ (fun hHeld=>?_);refine with_tabW sawmillref37_last.tab7 sawmillref37_last.bits7 (fun HT_ HW_=>?_)
      generalize w16.drew=w17 at BK102 HB HR107 hHeld ⊢
      refine qbD (i:=0) (N:=some 22) (v:=?_) (a':=?_) #[true,false,false,false,false,false,false,false,false,false,false,false,false,false] rfl rfl (qaW HT_.out (by kernel_rfl)) (fun _ _ _ h=>h) (Or.inl ⟨by rfl,?_⟩) ?_ ?_
      rotate_left;(intro w';go_simp;with_reducible rfl);rotate_left;(simp only [Act.put,List.setIfInBounds_toArray,List.set_cons_zero,List.set_cons_succ,qaX,qaY];rfl)
      refine qbD (i:=1) (N:=some 23) (v:=?_) (a':=?_) #[true,true,false,false,false,false,false,false,false,false,false,false,false,false] rfl rfl (qaW HT_.out (by kernel_rfl)) (fun _ _ _ h=>h) (Or.inl ⟨by rfl,?_⟩) ?_ ?_
      rotate_left;(intro w';go_simp;with_reducible rfl);rotate_left;(simp only [Act.put,List.setIfInBounds_toArray,List.set_cons_zero,List.set_cons_succ,qaX,qaY];rfl)
      refine qbD (i:=2) (N:=some 24) (v:=?_) (a':=?_) #[true,true,true,false,false,false,false,false,false,false,false,false,false,false] rfl rfl (qaW HT_.out (by kernel_rfl)) (fun _ _ _ h=>h) (Or.inl ⟨by rfl,?_⟩) ?_ ?_
      rotate_left;(intro w';go_simp;with_reducible rfl);rotate_left;(simp only [Act.put,List.setIfInBounds_toArray,List.set_cons_zero,List.set_cons_succ,qaX,qaY];rfl)
      refine qbD (i:=3) (N:=some 25) (v:=?_) (a':=?_) #[true,true,true,true,false,false,false,false,false,false,false,false,false,false] rfl rfl (qaW HT_.out (by kernel_rfl)) (fun _ _ _ h=>h) (Or.inl ⟨by rfl,?_⟩) ?_ ?_
      rotate_left;(intro w';go_simp;with_reducible rfl);rotate_left;(simp only [Act.put,List.setIfInBounds_toArray,List.set_cons_zero,List.set_cons_succ,qaX,qaY];rfl)
      refine qbD (i:=4) (N:=some 26) (v:=?_) (a':=?_) #[true,true,true,true,true,false,false,false,false,false,false,false,false,false] rfl rfl (qaW HT_.out (by kernel_rfl)) (fun _ _ _ h=>h) (Or.inl ⟨by rfl,?_⟩) ?_ ?_
      rotate_left;(intro w';go_simp;with_reducible rfl);rotate_left;(simp only [Act.put,List.setIfInBounds_toArray,List.set_cons_zero,List.set_cons_succ,qaX,qaY];rfl)
      refine qbD (i:=5) (N:=some 27) (v:=?_) (a':=?_) #[true,true,true,true,true,true,false,false,false,false,false,false,false,false] rfl rfl (qaW HT_.out (by kernel_rfl)) (fun _ _ _ h=>h) (Or.inl ⟨by rfl,?_⟩) ?_ ?_
      rotate_left;(intro w';go_simp;with_reducible rfl);rotate_left;(simp only [Act.put,List.setIfInBounds_toArray,List.set_cons_zero,List.set_cons_succ,qaX,qaY];rfl)
      refine take_ (i:=6) (N:=some 28) (v:=?_) (a':=?_) (bitsA 14 127) rfl rfl (qcK HT_.out HW_.out (by kernel_rfl)) (fun _ _ _ h=>h) (Or.inl ⟨by rfl,?_⟩) hHeld ?_ ?_
      rotate_left;(rintro w' ⟨s0,s1,s2⟩;go_simp;with_reducible rfl);rotate_left;(simp only [Act.put,List.setIfInBounds_toArray,List.set_cons_zero,List.set_cons_succ,qaX,qaY];rfl)
      refine join_ (σ:=Value × Nat) 2 #[true,true,true,true,true,true,true,true,true,true,true,true,false,false] (fun s_=>[(29,.tuple #[.agg #[.string t108,.int .i64 t109,s_.1],.bool t113]),(5,.pointer (some ⟨s_.2,0,none⟩)),(21,.tuple #[.agg #[.string t108,.int .i64 t109,s_.1],.bool t113]),(30,.agg #[.string t108,.int .i64 t109,s_.1]),(31,.bool t113)]) (fun s_ w'=>(w'.cell? ⟨gb102,0,none⟩=some (.string ((qaP l0 (ji2)).f0))∧w'.cell? ⟨gb102,1,none⟩=some (.int .i64 ((qaP l0 (ji2)).f1))∧w'.cell? ⟨gb102,2,none⟩=some (.slice A101_2 ((qaP l0 (ji2)).f2).length c101_2))∧(Kd.V k52 52 w' w.heap.size (fun k_=>k_ ≠ gb102∧k_ ≠ s_.2) s_.1 t110)∧(w'.heap[gb102]?=some (.cells #[.string ((qaP l0 (ji2)).f0),.int .i64 ((qaP l0 (ji2)).f1),.slice A101_2 ((qaP l0 (ji2)).f2).length c101_2] 24 (0,0)))∧(w'.heap[s_.2]?=some (.cells #[.string (⟨#[]⟩:ByteArray),.int .i64 0,.slice none 0 0] 24 (0,0)))∧(w.heap.size≤s_.2)∧(w.heap.size≤s_.2)∧(gb102 ≠ s_.2)∧(s_.2 ≠ gb102)∧(Below w.heap.size w w')) ?_ ?_
      rotate_left
      ·intro hCont
       refine two_ (i:=7) (j:=11) (Ni:=some 29) (Nj:=some 5) #[true,true,true,true,true,true,true,true,false,false,false,false,false,false] #[true,true,true,true,true,true,true,false,false,false,false,true,false,false] rfl rfl rfl rfl (two_of HT_.out (by kernel_rfl)) (by decide) (by decide) (fun K hK=>?_) (fun K hK=>?_)
       ·skip
        refine goes_ Tryd.func15 (by kernel_rfl) rfl #[.slice (some ad101) y104.length c0,.string ((qaP l0 (ji2)).f0)] (by rfl) rfl rfl (by (try simp only [List.map_toArray,List.map_cons,List.map_nil]);first|done|(simp only [hji2];rfl)|rfl|(simp only [List.length_drop,List.length_take];rfl)) ?_
        with_reducible refine (sawmillref37_Find.calls k (fun k_=>k_ < w.heap.size) _ _ y104 ((qaP l0 (ji2)).f0) t108 t109 t110 t113 _ ?side1 A12.out).mono ?_
        (case side1=>exact Kd.V_mk HC107.out (Kd.F_below (Kd.C_F k24_heap HR107.out) (by repeat (first|(with_reducible first|exact HB.out|apply qaB|apply qaA|apply qaC|refine qaF ?_ GE102.out)|exact HB.out))))
        rintro e w19 ⟨v111,rfl,ho0,hb⟩
        refine ⟨_,rfl,?_⟩
        have n0_:=Aside0.mk (Kd.V_lower (Kd.V_mono (ok':=fun k_=>k_ ≠ gb102) ho0 (fun k_ hk_=>Or.elim hk_ (fun hs_=>fun e_=>Nat.not_le.2 hs_ (by rw [e_];exact GW102.out)) (fun hn_=>(Kd.freshB (g:=gb102) (o:=.cells #[.string ((qaP l0 (ji2)).f0),.int .i64 ((qaP l0 (ji2)).f1),.slice A101_2 ((qaP l0 (ji2)).f2).length c101_2] 24 (0,0)) (by (with_reducible repeat (first|refine qaH ?_ _|refine qaI ?_|refine qaG ?_ _));exact BK102.out) k_ hn_)))) (qaK (by repeat (first|(with_reducible first|exact HB.out|apply qaB|apply qaA|apply qaC|refine qaF ?_ GE102.out)|exact HB.out))))
        have n1_:=Aside0.mk (qaS (g:=gb102) (o:=.cells #[.string ((qaP l0 (ji2)).f0),.int .i64 ((qaP l0 (ji2)).f1),.slice A101_2 ((qaP l0 (ji2)).f2).length c101_2] 24 (0,0)) (by (with_reducible repeat (first|refine qaH ?_ _|refine qaI ?_|refine qaG ?_ _));exact BK102.out) hb)
        have n2_:=Aside0.mk (qaN (by repeat (first|(with_reducible first|exact HB.out|apply qaB|apply qaA|apply qaC|refine qaF ?_ GE102.out)|exact HB.out)) hb)
        clear BK102
        clear HB
        have HO112:=n0_
        have BK102:=n1_
        have HB:=n2_
        clear n0_ n1_ n2_
        (try clear hb)
        (try clear hb2)
        (try clear hk)
        (try clear hi)
        (try clear ho0)
        refine hK.out _ _ ⟨(qaE BK102.out 0).trans rfl,(qaE BK102.out 1).trans rfl,(qaE BK102.out 2).trans rfl⟩ (fun hHeld=>?_)
        clear hK K
        refine norm_ (a':=?_) ?_ ?_
        rotate_left
        ·show Act.put _ (some 29) _=_
         simp only [Act.put,List.setIfInBounds_toArray,List.set_cons_zero,List.set_cons_succ,qaX,qaY]
         rfl
        refine qbD (i:=8) (N:=some 21) (v:=?_) (a':=?_) #[true,true,true,true,true,true,true,true,true,false,false,false,false,false] rfl rfl (qaW HT_.out (by kernel_rfl)) (fun _ _ _ h=>h) (Or.inl ⟨by rfl,?_⟩) ?_ ?_
        rotate_left;(intro w';go_simp;with_reducible rfl);rotate_left;(simp only [Act.put,List.setIfInBounds_toArray,List.set_cons_zero,List.set_cons_succ,qaX,qaY];rfl)
        refine qbD (i:=9) (N:=some 30) (v:=?_) (a':=?_) #[true,true,true,true,true,true,true,true,true,true,false,false,false,false] rfl rfl (qaW HT_.out (by kernel_rfl)) (fun _ _ _ h=>h) (Or.inl ⟨by rfl,?_⟩) ?_ ?_
        rotate_left;(intro w';go_simp;with_reducible rfl);rotate_left;(simp only [Act.put,List.setIfInBounds_toArray,List.set_cons_zero,List.set_cons_succ,qaX,qaY];rfl)
        refine qbD (i:=10) (N:=some 31) (v:=?_) (a':=?_) #[true,true,true,true,true,true,true,true,true,true,true,false,false,false] rfl rfl (qaW HT_.out (by kernel_rfl)) (fun _ _ _ h=>h) (Or.inl ⟨by rfl,?_⟩) ?_ ?_
        rotate_left;(intro w';go_simp;with_reducible rfl);rotate_left;(simp only [Act.put,List.setIfInBounds_toArray,List.set_cons_zero,List.set_cons_succ,qaX,qaY];rfl)
        refine one_ (i:=11) (N:=some 5) (bitsA 14 4095) rfl rfl (one_of HT_.out (by kernel_rfl)) (by decide) (fun K hK=>?_)
        refine box_step ?hg (N:=5) ?hd (cs:=#[.string (⟨#[]⟩:ByteArray),.int .i64 0,.slice none 0 0]) (t:=24) ?hr ?_;(case hd=>rfl);(case hg=>rfl);(case hr=>first|(go_simp;done)|(go_simp;rfl))
        intro gb114 hg w20 hbox hb
        have n0_:=Aside0.mk (Kd.V_below (Kd.V_elderB (by (with_reducible repeat (first|apply Kd.V_alloc|apply Kd.V_drewN|apply Kd.V_drew));exact HO112.out) gb114 (Nat.le_of_eq hg.symm)) hb)
        have n1_:=Aside0.mk (qaS (g:=gb102) (o:=.cells #[.string ((qaP l0 (ji2)).f0),.int .i64 ((qaP l0 (ji2)).f1),.slice A101_2 ((qaP l0 (ji2)).f2).length c101_2] 24 (0,0)) (by (with_reducible repeat (first|refine qaH ?_ _|refine qaI ?_|refine qaG ?_ _));exact BK102.out) hb)
        have n2_:=Aside0.mk (qaN (by repeat (first|(with_reducible first|exact HB.out|apply qaB|apply qaA|apply qaC|refine qaF ?_ GE102.out)|exact HB.out)) hb)
        have n3_:=Aside0.mk (hbox)
        have n4_:=Aside0.mk ((by rw [hg];exact (qaK (by repeat (first|(with_reducible first|exact HB.out|apply qaB|apply qaA|apply qaC|refine qaF ?_ GE102.out)|exact HB.out))):w.heap.size≤gb114))
        have n5_:=Aside0.mk ((by rw [hg];exact (qaK (by repeat (first|(with_reducible first|exact HB.out|apply qaB|apply qaA|apply qaC|refine qaF ?_ GE102.out)|exact HB.out))):w.heap.size≤gb114))
        have n6_:=Aside0.mk ((by rw [hg];exact Nat.ne_of_lt (qbF (g:=gb102) (o:=.cells #[.string ((qaP l0 (ji2)).f0),.int .i64 ((qaP l0 (ji2)).f1),.slice A101_2 ((qaP l0 (ji2)).f2).length c101_2] 24 (0,0)) (by (with_reducible repeat (first|refine qaH ?_ _|refine qaI ?_|refine qaG ?_ _));exact BK102.out)):gb102 ≠ gb114))
        have n7_:=Aside0.mk ((by rw [hg];exact Nat.ne_of_gt (qbF (g:=gb102) (o:=.cells #[.string ((qaP l0 (ji2)).f0),.int .i64 ((qaP l0 (ji2)).f1),.slice A101_2 ((qaP l0 (ji2)).f2).length c101_2] 24 (0,0)) (by (with_reducible repeat (first|refine qaH ?_ _|refine qaI ?_|refine qaG ?_ _));exact BK102.out)):gb114 ≠ gb102))
        clear HO112
        clear BK102
        clear HB
        have HO112:=n0_
        have BK102:=n1_
        have HB:=n2_
        have BK114:=n3_
        have GW114:=n4_
        have GE114:=n5_
        have NB102_114:=n6_
        have NB114_102:=n7_
        clear n0_ n1_ n2_ n3_ n4_ n5_ n6_ n7_
        clear hb hbox hg
        refine hK.out _ _ ⟨(qaE BK102.out 0).trans rfl,(qaE BK102.out 1).trans rfl,(qaE BK102.out 2).trans rfl⟩ (fun hHeld=>?_)
        clear hK K
        refine norm_ (a':=?_) ?_ ?_
        rotate_left
        ·show Act.put _ (some 5) _=_
         simp only [Act.put,List.setIfInBounds_toArray,List.set_cons_zero,List.set_cons_succ,qaX,qaY]
         rfl
        exact norm_ (by simp only [putAll,Act.put,List.setIfInBounds_toArray,List.set_cons_zero,List.set_cons_succ]) (hCont (v111,gb114) _ ⟨hHeld,(by (with_reducible repeat (first|apply Kd.V_alloc|apply Kd.V_drewN|apply Kd.V_drew));exact HO112.out),(by (with_reducible repeat (first|refine qaH ?_ _|refine qaI ?_|refine qaG ?_ _));exact BK102.out),(by (with_reducible repeat (first|refine qaH ?_ _|refine qaI ?_|refine qaG ?_ _));exact BK114.out),GW114.out,GE114.out,NB102_114.out,NB114_102.out,(by repeat (first|(with_reducible first|exact HB.out|apply qaB|apply qaA|apply qaC|refine qaF ?_ GE102.out|refine qaF ?_ GE114.out)|exact HB.out))⟩)
       ·skip
        refine box_step ?hg (N:=5) ?hd (cs:=#[.string (⟨#[]⟩:ByteArray),.int .i64 0,.slice none 0 0]) (t:=24) ?hr ?_;(case hd=>rfl);(case hg=>rfl);(case hr=>first|(go_simp;done)|(go_simp;rfl))
        intro gb114 hg w19 hbox hb
        have n0_:=Aside0.mk (qaS (g:=gb102) (o:=.cells #[.string ((qaP l0 (ji2)).f0),.int .i64 ((qaP l0 (ji2)).f1),.slice A101_2 ((qaP l0 (ji2)).f2).length c101_2] 24 (0,0)) (by (with_reducible repeat (first|refine qaH ?_ _|refine qaI ?_|refine qaG ?_ _));exact BK102.out) hb)
        have n1_:=Aside0.mk (qaN (by repeat (first|(with_reducible first|exact HB.out|apply qaB|apply qaA|apply qaC|refine qaF ?_ GE102.out)|exact HB.out)) hb)
        have n2_:=Aside0.mk (hbox)
        have n3_:=Aside0.mk ((by rw [hg];exact (qaK (by repeat (first|(with_reducible first|exact HB.out|apply qaB|apply qaA|apply qaC|refine qaF ?_ GE102.out)|exact HB.out))):w.heap.size≤gb114))
        have n4_:=Aside0.mk ((by rw [hg];exact (qaK (by repeat (first|(with_reducible first|exact HB.out|apply qaB|apply qaA|apply qaC|refine qaF ?_ GE102.out)|exact HB.out))):w.heap.size≤gb114))
        have n5_:=Aside0.mk ((by rw [hg];exact Nat.ne_of_lt (qbF (g:=gb102) (o:=.cells #[.string ((qaP l0 (ji2)).f0),.int .i64 ((qaP l0 (ji2)).f1),.slice A101_2 ((qaP l0 (ji2)).f2).length c101_2] 24 (0,0)) (by (with_reducible repeat (first|refine qaH ?_ _|refine qaI ?_|refine qaG ?_ _));exact BK102.out)):gb102 ≠ gb114))
        have n6_:=Aside0.mk ((by rw [hg];exact Nat.ne_of_gt (qbF (g:=gb102) (o:=.cells #[.string ((qaP l0 (ji2)).f0),.int .i64 ((qaP l0 (ji2)).f1),.slice A101_2 ((qaP l0 (ji2)).f2).length c101_2] 24 (0,0)) (by (with_reducible repeat (first|refine qaH ?_ _|refine qaI ?_|refine qaG ?_ _));exact BK102.out)):gb114 ≠ gb102))
        clear BK102
        clear HB
        have BK102:=n0_
        have HB:=n1_
        have BK114:=n2_
        have GW114:=n3_
        have GE114:=n4_
        have NB102_114:=n5_
        have NB114_102:=n6_
        clear n0_ n1_ n2_ n3_ n4_ n5_ n6_
        clear hb hbox hg
        refine hK.out _ _ ⟨(qaE BK102.out 0).trans rfl,(qaE BK102.out 1).trans rfl,(qaE BK102.out 2).trans rfl⟩ (fun hHeld=>?_)
        clear hK K
        refine norm_ (a':=?_) ?_ ?_
        rotate_left
        ·show Act.put _ (some 5) _=_
         simp only [Act.put,List.setIfInBounds_toArray,List.set_cons_zero,List.set_cons_succ,qaX,qaY]
         rfl
        refine one_ (i:=7) (N:=some 29) (bitsA 14 2303) rfl rfl (one_of HT_.out (by kernel_rfl)) (by decide) (fun K hK=>?_)
        refine goes_ Tryd.func15 (by kernel_rfl) rfl #[.slice (some ad101) y104.length c0,.string ((qaP l0 (ji2)).f0)] (by rfl) rfl rfl (by (try simp only [List.map_toArray,List.map_cons,List.map_nil]);first|done|(simp only [hji2];rfl)|rfl|(simp only [List.length_drop,List.length_take];rfl)) ?_
        with_reducible refine (sawmillref37_Find.calls k (fun k_=>k_ < w.heap.size) _ _ y104 ((qaP l0 (ji2)).f0) t108 t109 t110 t113 _ ?side1 A12.out).mono ?_
        (case side1=>exact Kd.V_mk HC107.out (Kd.F_below (Kd.C_F k24_heap HR107.out) (by repeat (first|(with_reducible first|exact HB.out|apply qaB|apply qaA|apply qaC|refine qaF ?_ GE102.out|refine qaF ?_ GE114.out)|exact HB.out))))
        rintro e w20 ⟨v111,rfl,ho0,hb⟩
        refine ⟨_,rfl,?_⟩
        have n0_:=Aside0.mk (Kd.V_lower (Kd.V_mono (ok':=fun k_=>k_ ≠ gb102∧k_ ≠ gb114) ho0 (fun k_ hk_=>⟨Or.elim hk_ (fun hs_=>fun e_=>Nat.not_le.2 hs_ (by rw [e_];exact GW102.out)) (fun hn_=>(Kd.freshB (g:=gb102) (o:=.cells #[.string ((qaP l0 (ji2)).f0),.int .i64 ((qaP l0 (ji2)).f1),.slice A101_2 ((qaP l0 (ji2)).f2).length c101_2] 24 (0,0)) (by (with_reducible repeat (first|refine qaH ?_ _|refine qaI ?_|refine qaG ?_ _));exact BK102.out) k_ hn_)),Or.elim hk_ (fun hs_=>fun e_=>Nat.not_le.2 hs_ (by rw [e_];exact GW114.out)) (fun hn_=>(Kd.freshB (g:=gb114) (o:=.cells #[.string (⟨#[]⟩:ByteArray),.int .i64 0,.slice none 0 0] 24 (0,0)) (by (with_reducible repeat (first|refine qaH ?_ _|refine qaI ?_|refine qaG ?_ _));exact BK114.out) k_ hn_))⟩)) (qaK (by repeat (first|(with_reducible first|exact HB.out|apply qaB|apply qaA|apply qaC|refine qaF ?_ GE102.out|refine qaF ?_ GE114.out)|exact HB.out))))
        have n1_:=Aside0.mk (qaS (g:=gb102) (o:=.cells #[.string ((qaP l0 (ji2)).f0),.int .i64 ((qaP l0 (ji2)).f1),.slice A101_2 ((qaP l0 (ji2)).f2).length c101_2] 24 (0,0)) (by (with_reducible repeat (first|refine qaH ?_ _|refine qaI ?_|refine qaG ?_ _));exact BK102.out) hb)
        have n2_:=Aside0.mk (qaS (g:=gb114) (o:=.cells #[.string (⟨#[]⟩:ByteArray),.int .i64 0,.slice none 0 0] 24 (0,0)) (by (with_reducible repeat (first|refine qaH ?_ _|refine qaI ?_|refine qaG ?_ _));exact BK114.out) hb)
        have n3_:=Aside0.mk (qaN (by repeat (first|(with_reducible first|exact HB.out|apply qaB|apply qaA|apply qaC|refine qaF ?_ GE102.out|refine qaF ?_ GE114.out)|exact HB.out)) hb)
        clear BK102
        clear BK114
        clear HB
        have HO112:=n0_
        have BK102:=n1_
        have BK114:=n2_
        have HB:=n3_
        clear n0_ n1_ n2_ n3_
        (try clear hb)
        (try clear hb2)
        (try clear hk)
        (try clear hi)
        (try clear ho0)
        refine hK.out _ _ ⟨(qaE BK102.out 0).trans rfl,(qaE BK102.out 1).trans rfl,(qaE BK102.out 2).trans rfl⟩ (fun hHeld=>?_)
        clear hK K
        refine norm_ (a':=?_) ?_ ?_
        rotate_left
        ·show Act.put _ (some 29) _=_
         simp only [Act.put,List.setIfInBounds_toArray,List.set_cons_zero,List.set_cons_succ,qaX,qaY]
         rfl
        refine qbD (i:=8) (N:=some 21) (v:=?_) (a':=?_) #[true,true,true,true,true,true,true,true,true,false,false,true,false,false] rfl rfl (qaW HT_.out (by kernel_rfl)) (fun _ _ _ h=>h) (Or.inl ⟨by rfl,?_⟩) ?_ ?_
        rotate_left;(intro w';go_simp;with_reducible rfl);rotate_left;(simp only [Act.put,List.setIfInBounds_toArray,List.set_cons_zero,List.set_cons_succ,qaX,qaY];rfl)
        refine qbD (i:=9) (N:=some 30) (v:=?_) (a':=?_) #[true,true,true,true,true,true,true,true,true,true,false,true,false,false] rfl rfl (qaW HT_.out (by kernel_rfl)) (fun _ _ _ h=>h) (Or.inl ⟨by rfl,?_⟩) ?_ ?_
        rotate_left;(intro w';go_simp;with_reducible rfl);rotate_left;(simp only [Act.put,List.setIfInBounds_toArray,List.set_cons_zero,List.set_cons_succ,qaX,qaY];rfl)
        refine qbD (i:=10) (N:=some 31) (v:=?_) (a':=?_) #[true,true,true,true,true,true,true,true,true,true,true,true,false,false] rfl rfl (qaW HT_.out (by kernel_rfl)) (fun _ _ _ h=>h) (Or.inl ⟨by rfl,?_⟩) ?_ ?_
        rotate_left;(intro w';go_simp;with_reducible rfl);rotate_left;(simp only [Act.put,List.setIfInBounds_toArray,List.set_cons_zero,List.set_cons_succ,qaX,qaY];rfl)
        exact norm_ (by simp only [putAll,Act.put,List.setIfInBounds_toArray,List.set_cons_zero,List.set_cons_succ]) (hCont (v111,gb114) _ ⟨hHeld,(by (with_reducible repeat (first|apply Kd.V_alloc|apply Kd.V_drewN|apply Kd.V_drew));exact HO112.out),(by (with_reducible repeat (first|refine qaH ?_ _|refine qaI ?_|refine qaG ?_ _));exact BK102.out),(by (with_reducible repeat (first|refine qaH ?_ _|refine qaI ?_|refine qaG ?_ _));exact BK114.out),GW114.out,GE114.out,NB102_114.out,NB114_102.out,(by repeat (first|(with_reducible first|exact HB.out|apply qaB|apply qaA|apply qaC|refine qaF ?_ GE102.out|refine qaF ?_ GE114.out)|exact HB.out))⟩)
      rintro ⟨v111,gb114⟩ w21 ⟨hS_,h0_,h1_,h2_,h3_,h4_,h5_,h6_,h7_⟩
      have n0_:Aside0 (Kd.V k52 52 w21 w.heap.size (fun k_=>k_ ≠ gb102∧k_ ≠ gb114) v111 t110):=⟨h0_⟩
      have n1_:Aside0 (w21.heap[gb102]?=some (.cells #[.string ((qaP l0 (ji2)).f0),.int .i64 ((qaP l0 (ji2)).f1),.slice A101_2 ((qaP l0 (ji2)).f2).length c101_2] 24 (0,0))):=⟨h1_⟩
      have n2_:Aside0 (w21.heap[gb114]?=some (.cells #[.string (⟨#[]⟩:ByteArray),.int .i64 0,.slice none 0 0] 24 (0,0))):=⟨h2_⟩
      have n3_:Aside0 (w.heap.size≤gb114):=⟨h3_⟩
      have n4_:Aside0 (w.heap.size≤gb114):=⟨h4_⟩
      have n5_:Aside0 (gb102 ≠ gb114):=⟨h5_⟩
      have n6_:Aside0 (gb114 ≠ gb102):=⟨h6_⟩
      have n7_:Aside0 (Below w.heap.size w w21):=⟨h7_⟩
      clear BK102
      clear HB
      clear h0_ h1_ h2_ h3_ h4_ h5_ h6_ h7_
      have HO112:=n0_
      have BK102:=n1_
      have BK114:=n2_
      have GW114:=n3_
      have GE114:=n4_
      have NB102_114:=n5_
      have NB114_102:=n6_
      have HB:=n7_
      clear n0_ n1_ n2_ n3_ n4_ n5_ n6_ n7_
      have hHeld:w21.cell? ⟨gb102,0,none⟩=some (.string ((qaP l0 (ji2)).f0))∧w21.cell? ⟨gb102,1,none⟩=some (.int .i64 ((qaP l0 (ji2)).f1))∧w21.cell? ⟨gb102,2,none⟩=some (.slice A101_2 ((qaP l0 (ji2)).f2).length c101_2):=hS_
      obtain ⟨Ao24,co24,eo24⟩:=Kd.V_slice HO112.out
      (first|subst eo24|(injection eo24 with f1_ f2_ f3_;have f4_:=f1_.symm;have f5_:=f3_.symm;clear f1_ f2_ f3_;subst f4_;subst f5_))
      refine norm_ (a':=?_) ?_ ?_
      rotate_left
      ·simp only [putAll,Act.put,List.setIfInBounds_toArray,List.set_cons_zero,List.set_cons_succ]
       rfl
      refine one_ (i:=12) (N:=none) (bitsA 14 8191) rfl rfl (one_of HT_.out (by kernel_rfl)) (by decide) (fun K hK=>?_)
      have hs22:w21.cell? ⟨gb114,0,none⟩=some (.string (⟨#[]⟩:ByteArray)):=(qaE BK114.out 0).trans rfl
      have hfs22:=qaD BK114.out 0
      have hns22_0:=NB102_114.out
      have hms22_0:=NB114_102.out
      have hs23:w21.cell? ⟨gb114,1,none⟩=some (.int .i64 0):=(qaE BK114.out 1).trans rfl
      have hfs23:=qaD BK114.out 1
      have hns23_0:=NB102_114.out
      have hms23_0:=NB114_102.out
      have hs25:w21.cell? ⟨gb114,2,none⟩=some (.slice none 0 0):=(qaE BK114.out 2).trans rfl
      have hfs25:=qaD BK114.out 2
      have hns25_0:=NB102_114.out
      have hms25_0:=NB114_102.out
      refine skip_ (w1:=?_) (by rfl) rfl ?_ ?_
      rotate_left
      ·go_simp
       rfl
      refine hK.out _ _ ⟨((qbO (p:=⟨gb114,_,none⟩) NB102_114.out _).trans (((qbO (p:=⟨gb114,_,none⟩) NB102_114.out _).trans (((qbO (p:=⟨gb114,_,none⟩) NB102_114.out _).trans (hHeld.1)))))),((qbO (p:=⟨gb114,_,none⟩) NB102_114.out _).trans (((qbO (p:=⟨gb114,_,none⟩) NB102_114.out _).trans (((qbO (p:=⟨gb114,_,none⟩) NB102_114.out _).trans (hHeld.2.1)))))),((qbO (p:=⟨gb114,_,none⟩) NB102_114.out _).trans (((qbO (p:=⟨gb114,_,none⟩) NB102_114.out _).trans (((qbO (p:=⟨gb114,_,none⟩) NB102_114.out _).trans (hHeld.2.2))))))⟩ (fun hHeld=>?_)
      clear hK K
      refine qbD (i:=13) (N:=some 6) (v:=?_) (a':=?_) #[true,true,true,true,true,true,true,true,true,true,true,true,true,true] rfl rfl (qaW HT_.out (by kernel_rfl)) (fun _ _ _ h=>h) (Or.inl ⟨by rfl,?_⟩) ?_ ?_
      rotate_left;(intro w';go_simp;with_reducible rfl);rotate_left;(simp only [Act.put,List.setIfInBounds_toArray,List.set_cons_zero,List.set_cons_succ,qaX,qaY];rfl)
      refine done_ (done_of HT_.out (by kernel_rfl)) ?_
      have H:=HBr.out
      cases t113
      ·have H1:(some 0)=some r:=by rw [if_neg (show ¬ (false=true) by decide)] at H;exact H
       obtain rfl:=Option.some.inj H1
       try go_wp2
       go_ret
       exact ⟨by first|rfl|(simp [qaL,qaM]<;>rfl)|(simp only [← hji2];first|rfl|(simp [qaL,qaM]<;>rfl))|(simp [*,qaL,qaM]<;>rfl),by repeat (first|(with_reducible first|exact HB.out|apply qaB|apply qaA|apply qaC|refine qaF ?_ GE102.out|refine qaF ?_ GE114.out)|exact HB.out)⟩
      ·have H1:(some 7)=some r:=by rw [if_pos rfl] at H;exact H
       obtain rfl:=Option.some.inj H1
       try go_wp2
       go_ret
       exact ⟨by first|rfl|(simp [qaL,qaM]<;>rfl)|(simp only [← hji2];first|rfl|(simp [qaL,qaM]<;>rfl))|(simp [*,qaL,qaM]<;>rfl),by repeat (first|(with_reducible first|exact HB.out|apply qaB|apply qaA|apply qaC|refine qaF ?_ GE102.out|refine qaF ?_ GE114.out)|exact HB.out)⟩
     ·rw [if_neg c11] at H
      exact absurd H (by simp)
    ·rw [if_neg c9] at H
     have c9b0:(t103 == 0)=false:=beq_eq_false_iff_ne.mpr c9
     have c9b1:(t103 != 0)=true:=bne_iff_ne.mpr c9
     obtain rfl:=Option.some.inj H
     have p101:0≤((ji2):Int):=of_decide_eq_true (by first|(with_reducible assumption)|assumption)
     have q101:(ji2) < (l0.length:Int):=of_decide_eq_true (by first|(with_reducible assumption)|assumption)
     obtain ⟨ad101,A101_2,c101_2,e101,hx101_0,hx101_1,hx101_2,hl101_2,hi101_2⟩:=at_T24 HR0.out (ji2) p101 q101
     cases e101
     have HR101_2:=Aside0.mk hi101_2
     have HC101_2:=Aside0.mk hl101_2
     clear hi101_2 hl101_2
     replace p101:=eq_true p101
     replace q101:=eq_true q101
     go_enter Tryd.func43,Tryd.ntmps43
     go_wp2_with (first|((with_reducible refine qbE (N:=3) rfl ?_);refine qbC ?hg (N:=3) ?hd (cs:=#[.string (⟨#[]⟩:ByteArray),.int .i64 0,.slice none 0 0]) (t:=24) ?hr ?_;(case hd=>rfl);(case hg=>rfl);(case hr=>first|(go_simp;done)|(go_simp;rfl));intro gb102 hg w38 hbox hb;have n0_:=Aside0.mk (qaN (by repeat (first|(with_reducible first|exact HB.out|apply qaB|apply qaA|apply qaC)|exact HB.out)) hb);have n1_:=Aside0.mk (hbox);have n2_:=Aside0.mk ((by rw [hg];exact (qaK (by repeat (first|(with_reducible first|exact HB.out|apply qaB|apply qaA|apply qaC)|exact HB.out))):w.heap.size≤gb102));have n3_:=Aside0.mk ((by rw [hg];exact (qaK (by repeat (first|(with_reducible first|exact HB.out|apply qaB|apply qaA|apply qaC)|exact HB.out))):w.heap.size≤gb102));clear HB;have HB:=n0_;have BK102:=n1_;have GW102:=n2_;have GE102:=n3_;clear n0_ n1_ n2_ n3_;clear hb hbox hg;have hcz39_0:w38.cell? ⟨gb102,0,none⟩=some (.string (⟨#[]⟩:ByteArray)):=(qaE BK102.out 0).trans rfl;have hcz39_1:w38.cell? ⟨gb102,1,none⟩=some (.int .i64 0):=(qaE BK102.out 1).trans rfl;have hcz39_2:w38.cell? ⟨gb102,2,none⟩=some (.slice none 0 0):=(qaE BK102.out 2).trans rfl;have hfz39_0:=qaD BK102.out 0;have hfz39_1:=qaD BK102.out 1;have hfz39_2:=qaD BK102.out 2)|((with_reducible refine qaO (f:=17) rfl ?_);refine qbG (some 17) rfl rfl Tryd.func17 (by kernel_rfl) rfl #[.agg #[.string ((qaP l0 (ji2)).f0),.int .i64 ((qaP l0 (ji2)).f1),.slice A101_2 ((qaP l0 (ji2)).f2).length c101_2]] rfl (by (try simp only [List.map_toArray,List.map_cons,List.map_nil]);first|done|(simp only [hji2];rfl)|rfl|(simp only [List.length_drop,List.length_take];rfl)) ?_;(with_reducible refine (sawmillref37_Check.calls k ((qaP l0 (ji2)).f0) ((qaP l0 (ji2)).f1) _ _ ((qaP l0 (ji2)).f2) t103 _ ?side1 ?side2 A8.out).mono ?_);(case side1=>exact Kd.C_below HR101_2.out (by repeat (first|(with_reducible first|exact HB.out|apply qaB|apply qaA|apply qaC|refine qaF ?_ GE102.out)|exact HB.out)));(case side2=>exact HC101_2.out);rintro e w40 ⟨rfl,hb⟩;refine ⟨_,rfl,?_⟩;have n0_:=Aside0.mk (qaS (g:=gb102) (o:=.cells #[.string ((qaP l0 (ji2)).f0),.int .i64 ((qaP l0 (ji2)).f1),.slice A101_2 ((qaP l0 (ji2)).f2).length c101_2] 24 (0,0)) (by (with_reducible repeat (first|refine qaH ?_ _|refine qaI ?_|refine qaG ?_ _));refine qaR (cs:=#[.string ((qaP l0 (ji2)).f0),.int .i64 ((qaP l0 (ji2)).f1),.slice none 0 0]) ?_ 2 _ rfl;(with_reducible repeat (first|refine qaH ?_ _|refine qaI ?_|refine qaG ?_ _));refine qaR (cs:=#[.string ((qaP l0 (ji2)).f0),.int .i64 0,.slice none 0 0]) ?_ 1 _ rfl;(with_reducible repeat (first|refine qaH ?_ _|refine qaI ?_|refine qaG ?_ _));refine qaR (cs:=#[.string (⟨#[]⟩:ByteArray),.int .i64 0,.slice none 0 0]) ?_ 0 _ rfl;(with_reducible repeat (first|refine qaH ?_ _|refine qaI ?_|refine qaG ?_ _));exact BK102.out) hb);have n1_:=Aside0.mk (qaN (by repeat (first|(with_reducible first|exact HB.out|apply qaB|apply qaA|apply qaC|refine qaF ?_ GE102.out)|exact HB.out)) hb);clear BK102;clear HB;have BK102:=n0_;have HB:=n1_;clear n0_ n1_;(try clear hb);(try clear hb2);(try clear hk);(try clear hi)))
     go_ret
     exact ⟨by first|rfl|(simp [qaL,qaM]<;>rfl)|(simp only [← hji2];first|rfl|(simp [qaL,qaM]<;>rfl))|(simp [*,qaL,qaM]<;>rfl),by repeat (first|(with_reducible first|exact HB.out|apply qaB|apply qaA|apply qaC|refine qaF ?_ GE102.out)|exact HB.out)⟩
  ·rw [if_neg c4] at H
   exact absurd H (by simp)
 ·rw [if_neg c3] at H
  exact absurd H (by simp)
end Go.Proofs.YtehdmplngmbnnaaDoor.P
namespace Go.Proofs.YtehdmplngmbnnaaDoor.P
open Go.RowKit Go.Proofs.YtehdmplngmbnnaaDoorW.PrintWords
set_option linter.unusedVariables false
set_option linter.unusedSimpArgs false
theorem last_same_g (l:List S24) (hl:0 < l.length) (hl2:l.length≤1000) (hs:∀ s ∈ l,s.f0.size≤100000∧s.f2.length≤1000000) (k:Nat) (hk:1100≤k):∃ e,schedule_last.f l=some e∧sawmillref37_last.f k l=some e:=by
 obtain ⟨k,rfl⟩:∃ m,k=20+m:=⟨k - 20,by omega⟩
 have e:wrap64 ((l.length:Int) - 1)=(l.length:Int) - 1:=by
  unfold wrap64
  omega
 unfold schedule_last.f sawmillref37_last.f
 rw [e]
 have q0:0≤(l.length:Int) - 1:=by omega
 have q1:(l.length:Int) - 1 < (l.length:Int):=by omega
 have q3:(l.length:Int) - 1≤(l.length:Int):=by omega
 by_cases g1:(l.length:Int) - 1 ≥ 8
 ·simp only [if_pos g1,if_pos q0,if_pos q1,if_pos (show (l.length:Int) > 8 by omega)]
  exact ⟨_,rfl,rfl⟩
 ·simp only [if_neg g1,if_pos q0,if_pos q1,if_neg (show ¬ (l.length:Int) > 8 by omega),if_pos q3]
  obtain ⟨hm1,hm2⟩:=hs _ (rd_mem ((l.length:Int) - 1) (by omega) (by omega))
  rw [check_same _ _ _ (by omega) k]
  obtain ⟨c,hc⟩:∃ c,schedule_Check.f (qaP l ((l.length:Int) - 1)).f0 (qaP l ((l.length:Int) - 1)).f1 (qaP l ((l.length:Int) - 1)).f2=some c:=⟨_,rfl⟩
  rw [hc,Option.bind_some,Option.bind_some]
  by_cases g2:c=0
  ·rw [if_pos g2,if_pos g2,find_prog _ _ (by rw [List.length_take];omega) (fun s hx=>by have:=(hs s (List.mem_of_mem_take hx)).2;omega),find_ref _ _ (by rw [List.length_take];omega) _ (by rw [List.length_take];omega)]
   simp only [Option.bind_some]
   split<;>exact ⟨_,rfl,rfl⟩
  ·rw [if_neg g2,if_neg g2]
   exact ⟨_,rfl,rfl⟩
end Go.Proofs.YtehdmplngmbnnaaDoor.P
namespace Go.Proofs.YtehdmplngmbnnaaDoor.P
open Go.RowKit Go.Proofs.YtehdmplngmbnnaaDoorW.PrintWords
set_option linter.unusedVariables false
set_option linter.unusedSimpArgs false
theorem same_l0 (n:ByteArray) (r:Int) (l:List S52) (hl:l.length≤1000000):∀ (d k i:Nat),i+d=l.length→d < k→sawmillref37_SameSchedule.l0 k (i:Int) n r l n r l=some true:=by
 intro d
 induction d with
 | zero =>
  intro k i hi hk
  obtain ⟨k,rfl⟩:∃ m,k=m+1:=⟨k - 1,by omega⟩
  simp only [sawmillref37_SameSchedule.l0]
  rw [if_neg (by omega)]
 | succ d ih =>
  intro k i hi hk
  obtain ⟨k,rfl⟩:∃ m,k=m+1:=⟨k - 1,by omega⟩
  have e:wrap64 ((i:Int)+1)=((i+1:Nat):Int):=wrap_nat i 1000000 (by omega) (by omega)
  simp only [sawmillref37_SameSchedule.l0]
  rw [if_pos (by omega),if_pos (by omega),if_pos (by omega),if_neg (by simp),e,ih k (i+1) (by omega) (by omega)]
theorem same_self (n:ByteArray) (r:Int) (l:List S52) (hl:l.length≤1000000) (k:Nat) (hk:l.length+1 < k):sawmillref37_SameSchedule.f k n r l n r l=some true:=by
 obtain ⟨k,rfl⟩:∃ m,k=m+1:=⟨k - 1,by omega⟩
 unfold sawmillref37_SameSchedule.f
 rw [if_pos rfl,if_pos rfl]
 simp only [sawmillref37_SameSchedule.j0]
 rw [if_neg (by simp)]
 exact same_l0 n r l hl l.length k 0 (by omega) (by omega)
end Go.Proofs.YtehdmplngmbnnaaDoor.P
namespace Go.Proofs.YtehdmplngmbnnaaDoor.P
open Go.RowKit Go.Proofs.YtehdmplngmbnnaaDoorW.PrintWords Go.Proofs.YtehdmplngmbnnaaDoorW.PrintLast Go.Proofs.YtehdmplngmbnnaaDoorW.PrintMore
attribute [local go_sem] qbV qbW qcC qcD qbQ qbR qbX qbY
attribute [local go_sem] qbL
set_option linter.unusedVariables false
set_option linter.unusedSimpArgs false
def sawmillref37_Same.l0:Nat→List (S24)→List (S24)→Int→Option (Bool)
 | 0,_,_,_=>none
 | k+1,x0,x1,x5=>if x5 < (x0.length:Int) then (if 0≤x5 then (if x5 < (x1.length:Int) then ((sawmillref37_SameSchedule.f k ((qaP x0 x5).f0) ((qaP x0 x5).f1) ((qaP x0 x5).f2) ((qaP x1 x5).f0) ((qaP x1 x5).f1) ((qaP x1 x5).f2)).bind fun t103=>(if t103=true then (sawmillref37_Same.l0 k x0 x1 (wrap64 (x5+1))) else (some false))) else (none)) else (none)) else (some true)
def sawmillref37_Same.f (k:Nat) (l0:List (S24)) (l1:List (S24)):Option (Bool):=if (l0.length:Int)=(l1.length:Int) then (sawmillref37_Same.l0 k l0 l1 0) else (some false)
def sawmillref37_Same.T6:Bool × List (List Nat × List Nat):=(true,[([],[]),([],[]),([0,1],[0,1]),([2],[2]),([],[]),([],[]),([4,5],[4,5]),([6],[6]),([3,7],[3,7]),([8],[8])])
def sawmillref37_Same.B6:List Nat:=[0,0,3,7,0,0,48,112,255,511]
theorem sawmillref37_Same.tab6:rtab .any (opsOf Tryd.f27 6)=sawmillref37_Same.T6:=by kernel_rfl
theorem sawmillref37_Same.bits6:waitsOk sawmillref37_Same.T6.2 sawmillref37_Same.B6=true:=by kernel_rfl
set_option maxHeartbeats 8000000 in
set_option maxRecDepth 100000 in
theorem sawmillref37_Same.calls (k:Nat) (A0:Option Addr) (c0:Nat) (l0:List (S24)) (A1:Option Addr) (c1:Nat) (l1:List (S24)) (r:Bool) (w:World) (hr0:Kd.C k24 w A0 l0.length l0) (hc0:l0.length≤c0) (hr1:Kd.C k24 w A1 l1.length l1) (hc1:l1.length≤c1) (h:sawmillref37_Same.f k l0 l1=some r) :
  Calls Tryd.prog 27 #[.slice A0 l0.length c0,.slice A1 l1.length c1] w fun e w'=>e=.returned (.bool r)∧Below w.heap.size w w':=by
 have hu24:=Tryd.underlying24
 have HR0:=Aside0.mk hr0
 have HC0:=Aside0.mk hc0
 clear hr0 hc0
 have HR1:=Aside0.mk hr1
 have HC1:=Aside0.mk hc1
 clear hr1 hc1
 have HB:=Aside0.mk (Below.refl w.heap.size w)
 have H:(if (l0.length:Int)=(l1.length:Int) then (sawmillref37_Same.l0 k l0 l1 0) else (some false))=some r:=h
 clear h
 by_cases c3:(l0.length:Int)=(l1.length:Int)
 ·rw [if_pos c3] at H
  have c3b0:((l0.length:Int) == (l1.length:Int))=true:=beq_iff_eq.mpr c3
  have c3b1:((l0.length:Int) != (l1.length:Int))=false:=bne_eq_false_iff_eq.mpr c3
  have c3b2:(l0.length == l1.length)=true:=by first|simpa using c3|(simp at c3 ⊢;omega)
  clear c3
  have H':=Aside0.mk H
  clear H
  go_enter Tryd.func27,Tryd.ntmps27
  go_wp2
  go_loopg [5] k (fun kq v5 w'=>∃ (x5_1:Int),v5=.int .i64 x5_1∧Aside0 (sawmillref37_Same.l0 kq l0 l1 x5_1=some r)∧Aside0 (kq≤k)∧Aside0 (Below w.heap.size w w'))
  case atStart=>exact ⟨(0),(by first|rfl|(simp;done)|(simp [*];done)),H',⟨Nat.le_refl _⟩,⟨by repeat (first|(with_reducible first|exact HB.out|apply qaB|apply qaA|apply qaC)|exact HB.out)⟩⟩
  case round =>
   clear H'
   try clear c1
   try clear c2
   try clear p2
   try clear c3
   try clear c3b0
   try clear c3b1
   try clear c3b2
   obtain ⟨x5_1,rfl,HA,HK1,HB⟩:=hrel
   cases gk with
   | zero=>exact absurd HA.out (by simp [sawmillref37_Same.l0])
   | succ k1 =>
    have H:=HA.out
    clear HA
    simp only [sawmillref37_Same.l0] at H
    by_cases c4:x5_1 < (l0.length:Int)
    ·rw [if_pos c4] at H
     have c4b0:decide (x5_1 < (l0.length:Int))=true:=decide_eq_true c4
     clear c4
     by_cases c5:0≤x5_1
     ·rw [if_pos c5] at H
      have c5b0:decide (0≤x5_1)=true:=decide_eq_true c5
      clear c5
      by_cases c6:x5_1 < (l1.length:Int)
      ·rw [if_pos c6] at H
       have c6b0:decide (x5_1 < (l1.length:Int))=true:=decide_eq_true c6
       clear c6
       replace H:=Option.bind_eq_some_iff.mp H
       obtain ⟨t103,A70,H⟩:=H
       replace H:(if t103=true then (sawmillref37_Same.l0 k1 l0 l1 (wrap64 (x5_1+1))) else (some false))=some r:=H
       have A7:=Aside0.mk A70
       clear A70
       by_cases c8:t103=true
       ·subst c8
        have H1:(sawmillref37_Same.l0 k1 l0 l1 (wrap64 (x5_1+1)))=some r:=by rw [if_pos rfl] at H;exact H
        clear H
        have H:=H1
        clear H1
        have H':=Aside0.mk H
        clear H
        try go_wp2
        have n0_:=Aside0.mk (qaC HB.out)
        clear HB
        have HB:=n0_
        clear n0_
        have p101:0≤(x5_1:Int):=of_decide_eq_true (by first|(with_reducible assumption)|assumption)
        have q101:x5_1 < (l0.length:Int):=of_decide_eq_true (by first|(with_reducible assumption)|assumption)
        obtain ⟨ad101,A101_2,c101_2,e101,hx101_0,hx101_1,hx101_2,hl101_2,hi101_2⟩:=at_T24 HR0.out x5_1 p101 q101
        have hw101_2:=hx101_2
        have hw101_1:=hx101_1
        have hw101_0:=hx101_0
        cases e101
        replace hx101_0:=(HB.out.cell (World.block_lt_of_cell? w _ hx101_0)).trans hx101_0
        replace hx101_1:=(HB.out.cell (World.block_lt_of_cell? w _ hx101_1)).trans hx101_1
        replace hx101_2:=(HB.out.cell (World.block_lt_of_cell? w _ hx101_2)).trans hx101_2
        have HR101_2:=Aside0.mk hi101_2
        have HC101_2:=Aside0.mk hl101_2
        clear hi101_2 hl101_2
        replace p101:=eq_true p101
        replace q101:=eq_true q101
        have p102:0≤(x5_1:Int):=of_decide_eq_true (by first|(with_reducible assumption)|assumption)
        have q102:x5_1 < (l1.length:Int):=of_decide_eq_true (by first|(with_reducible assumption)|assumption)
        obtain ⟨ad102,A102_2,c102_2,e102,hx102_0,hx102_1,hx102_2,hl102_2,hi102_2⟩:=at_T24 HR1.out x5_1 p102 q102
        have hw102_2:=hx102_2
        have hw102_1:=hx102_1
        have hw102_0:=hx102_0
        cases e102
        replace hx102_0:=(HB.out.cell (World.block_lt_of_cell? w _ hx102_0)).trans hx102_0
        replace hx102_1:=(HB.out.cell (World.block_lt_of_cell? w _ hx102_1)).trans hx102_1
        replace hx102_2:=(HB.out.cell (World.block_lt_of_cell? w _ hx102_2)).trans hx102_2
        have HR102_2:=Aside0.mk hi102_2
        have HC102_2:=Aside0.mk hl102_2
        clear hi102_2 hl102_2
        replace p102:=eq_true p102
        replace q102:=eq_true q102
        refine start_ (n:=10) (S:=fun w'=>w'.cell? (ad101.add ((x5_1).toNat * 3))=some (.string ((qaP l0 x5_1).f0))∧w'.cell? ⟨(ad101.add ((x5_1).toNat * 3)).block,(ad101.add ((x5_1).toNat * 3)).off+1,none⟩=some (.int .i64 ((qaP l0 x5_1).f1))∧w'.cell? ⟨(ad101.add ((x5_1).toNat * 3)).block,(ad101.add ((x5_1).toNat * 3)).off+2,none⟩=some (.slice A101_2 ((qaP l0 x5_1).f2).length c101_2)∧w'.cell? (ad102.add ((x5_1).toNat * 3))=some (.string ((qaP l1 x5_1).f0))∧w'.cell? ⟨(ad102.add ((x5_1).toNat * 3)).block,(ad102.add ((x5_1).toNat * 3)).off+1,none⟩=some (.int .i64 ((qaP l1 x5_1).f1))∧w'.cell? ⟨(ad102.add ((x5_1).toNat * 3)).block,(ad102.add ((x5_1).toNat * 3)).off+2,none⟩=some (.slice A102_2 ((qaP l1 x5_1).f2).length c102_2)) (ds:=[]) (bitsA 10 0) (by kernel_rfl) rfl rfl ⟨((HB.out.cell (World.block_lt_of_cell? w _ hw101_0)).trans hw101_0),((HB.out.cell (World.block_lt_of_cell? w _ hw101_1)).trans hw101_1),((HB.out.cell (World.block_lt_of_cell? w _ hw101_2)).trans hw101_2),((HB.out.cell (World.block_lt_of_cell? w _ hw102_0)).trans hw102_0),((HB.out.cell (World.block_lt_of_cell? w _ hw102_1)).trans hw102_1),((HB.out.cell (World.block_lt_of_cell? w _ hw102_2)).trans hw102_2)⟩ (fun hHeld=>?_);refine with_tabW sawmillref37_Same.tab6 sawmillref37_Same.bits6 (fun HT_ HW_=>?_)
        generalize wr.drew=w9 at HB HR101_2 HR102_2 hx101_0 hx101_1 hx101_2 hx102_0 hx102_1 hx102_2 hHeld ⊢
        refine qbD (i:=0) (N:=some 17) (v:=?_) (a':=?_) #[true,false,false,false,false,false,false,false,false,false] rfl rfl (qaW HT_.out (by kernel_rfl)) (fun _ _ _ h=>h) (Or.inl ⟨by rfl,?_⟩) ?_ ?_
        rotate_left;(intro w';go_simp;with_reducible rfl);rotate_left;(simp only [Act.put,List.setIfInBounds_toArray,List.set_cons_zero,List.set_cons_succ,qaX,qaY];rfl)
        refine qbD (i:=1) (N:=some 18) (v:=?_) (a':=?_) #[true,true,false,false,false,false,false,false,false,false] rfl rfl (qaW HT_.out (by kernel_rfl)) (fun _ _ _ h=>h) (Or.inl ⟨by rfl,?_⟩) ?_ ?_
        rotate_left;(intro w';go_simp;with_reducible rfl);rotate_left;(simp only [Act.put,List.setIfInBounds_toArray,List.set_cons_zero,List.set_cons_succ,qaX,qaY];rfl)
        refine qbD (i:=2) (N:=some 19) (v:=?_) (a':=?_) #[true,true,true,false,false,false,false,false,false,false] rfl rfl (qaW HT_.out (by kernel_rfl)) (fun _ _ _ h=>h) (Or.inl ⟨by rfl,?_⟩) ?_ ?_
        rotate_left;(intro w';go_simp;with_reducible rfl);rotate_left;(simp only [Act.put,List.setIfInBounds_toArray,List.set_cons_zero,List.set_cons_succ,qaX,qaY];rfl)
        refine qbD (i:=4) (N:=some 21) (v:=?_) (a':=?_) #[true,true,true,false,true,false,false,false,false,false] rfl rfl (qaW HT_.out (by kernel_rfl)) (fun _ _ _ h=>h) (Or.inl ⟨by rfl,?_⟩) ?_ ?_
        rotate_left;(intro w';go_simp;with_reducible rfl);rotate_left;(simp only [Act.put,List.setIfInBounds_toArray,List.set_cons_zero,List.set_cons_succ,qaX,qaY];rfl)
        refine qbD (i:=5) (N:=some 22) (v:=?_) (a':=?_) #[true,true,true,false,true,true,false,false,false,false] rfl rfl (qaW HT_.out (by kernel_rfl)) (fun _ _ _ h=>h) (Or.inl ⟨by rfl,?_⟩) ?_ ?_
        rotate_left;(intro w';go_simp;with_reducible rfl);rotate_left;(simp only [Act.put,List.setIfInBounds_toArray,List.set_cons_zero,List.set_cons_succ,qaX,qaY];rfl)
        refine qbD (i:=6) (N:=some 23) (v:=?_) (a':=?_) #[true,true,true,false,true,true,true,false,false,false] rfl rfl (qaW HT_.out (by kernel_rfl)) (fun _ _ _ h=>h) (Or.inl ⟨by rfl,?_⟩) ?_ ?_
        rotate_left;(intro w';go_simp;with_reducible rfl);rotate_left;(simp only [Act.put,List.setIfInBounds_toArray,List.set_cons_zero,List.set_cons_succ,qaX,qaY];rfl)
        refine take_ (i:=3) (N:=some 20) (v:=?_) (a':=?_) (bitsA 10 127) rfl rfl (qcK HT_.out HW_.out (by kernel_rfl)) (fun _ _ _ h=>h) (Or.inl ⟨by rfl,?_⟩) hHeld ?_ ?_
        rotate_left;(rintro w' ⟨s0,s1,s2,s3,s4,s5⟩;go_simp;with_reducible rfl);rotate_left;(simp only [Act.put,List.setIfInBounds_toArray,List.set_cons_zero,List.set_cons_succ,qaX,qaY];rfl)
        refine take_ (i:=7) (N:=some 24) (v:=?_) (a':=?_) (bitsA 10 255) rfl rfl (qcK HT_.out HW_.out (by kernel_rfl)) (fun _ _ _ h=>h) (Or.inl ⟨by rfl,?_⟩) hHeld ?_ ?_
        rotate_left;(rintro w' ⟨s0,s1,s2,s3,s4,s5⟩;go_simp;with_reducible rfl);rotate_left;(simp only [Act.put,List.setIfInBounds_toArray,List.set_cons_zero,List.set_cons_succ,qaX,qaY];rfl)
        refine one_ (i:=8) (N:=some 25) (bitsA 10 511) rfl rfl (one_of HT_.out (by kernel_rfl)) (by decide) (fun K hK=>?_)
        refine goes_ Tryd.func18 (by kernel_rfl) rfl #[.agg #[.string ((qaP l0 x5_1).f0),.int .i64 ((qaP l0 x5_1).f1),.slice A101_2 ((qaP l0 x5_1).f2).length c101_2],.agg #[.string ((qaP l1 x5_1).f0),.int .i64 ((qaP l1 x5_1).f1),.slice A102_2 ((qaP l1 x5_1).f2).length c102_2]] (by rfl) rfl rfl (by (try simp only [List.map_toArray,List.map_cons,List.map_nil]);first|done|rfl|(simp only [List.length_drop,List.length_take];rfl)) ?_
        with_reducible refine (sawmillref37_SameSchedule.calls k1 ((qaP l0 x5_1).f0) ((qaP l0 x5_1).f1) _ _ ((qaP l0 x5_1).f2) ((qaP l1 x5_1).f0) ((qaP l1 x5_1).f1) _ _ ((qaP l1 x5_1).f2) true _ ?side1 ?side2 ?side3 ?side4 A7.out).mono ?_
        (case side1=>repeat (first|exact (Kd.C_below HR101_2.out HB.out)|(with_reducible refine Kd.C_alloc ?_ _)|(with_reducible refine Kd.C_drewN ?_ _)|(with_reducible refine Kd.C_drew ?_)))
        (case side2=>exact HC101_2.out)
        (case side3=>repeat (first|exact (Kd.C_below HR102_2.out HB.out)|(with_reducible refine Kd.C_alloc ?_ _)|(with_reducible refine Kd.C_drewN ?_ _)|(with_reducible refine Kd.C_drew ?_)))
        (case side4=>exact HC102_2.out)
        rintro e w10 ⟨rfl,hb⟩
        refine ⟨_,rfl,?_⟩
        have n0_:=Aside0.mk (qaN (by repeat (first|(with_reducible first|exact HB.out|apply qaB|apply qaA|apply qaC)|exact HB.out)) hb)
        clear HB
        have HB:=n0_
        clear n0_
        (try clear hb)
        (try clear hb2)
        (try clear hk)
        (try clear hi)
        refine hK.out _ _ ⟨((HB.out.cell (World.block_lt_of_cell? w _ hw101_0)).trans hw101_0),((HB.out.cell (World.block_lt_of_cell? w _ hw101_1)).trans hw101_1),((HB.out.cell (World.block_lt_of_cell? w _ hw101_2)).trans hw101_2),((HB.out.cell (World.block_lt_of_cell? w _ hw102_0)).trans hw102_0),((HB.out.cell (World.block_lt_of_cell? w _ hw102_1)).trans hw102_1),((HB.out.cell (World.block_lt_of_cell? w _ hw102_2)).trans hw102_2)⟩ (fun hHeld=>?_)
        clear hK K
        refine norm_ (a':=?_) ?_ ?_
        rotate_left
        ·show Act.put _ (some 25) _=_
         simp only [Act.put,List.setIfInBounds_toArray,List.set_cons_zero,List.set_cons_succ,qaX,qaY]
         rfl
        refine qbD (i:=9) (N:=some 26) (v:=?_) (a':=?_) #[true,true,true,true,true,true,true,true,true,true] rfl rfl (qaW HT_.out (by kernel_rfl)) (fun _ _ _ h=>h) (Or.inl ⟨by rfl,?_⟩) ?_ ?_
        rotate_left;(intro w';go_simp;with_reducible rfl);rotate_left;(simp only [Act.put,List.setIfInBounds_toArray,List.set_cons_zero,List.set_cons_succ,qaX,qaY];rfl)
        refine done_ (done_of HT_.out (by kernel_rfl)) ?_
        try go_wp2
        go_roundg k1
        case measure=>have:=HK1.out;omega
        case rel=>exact ⟨(wrap64 (x5_1+1)),(by first|rfl|(simp;done)|(simp [*];done)),H',⟨by have:=HK1.out;omega⟩,⟨by repeat (first|(with_reducible first|exact HB.out|apply qaB|apply qaA|apply qaC)|exact HB.out)⟩⟩
       ·replace c8:=Bool.eq_false_iff.mpr c8
        subst c8
        have H1:(some false)=some r:=by rw [if_neg (show ¬ (false=true) by decide)] at H;exact H
        clear H
        have H:=H1
        clear H1
        obtain rfl:=Option.some.inj H
        try go_wp2
        have n0_:=Aside0.mk (qaC HB.out)
        clear HB
        have HB:=n0_
        clear n0_
        have p101:0≤(x5_1:Int):=of_decide_eq_true (by first|(with_reducible assumption)|assumption)
        have q101:x5_1 < (l0.length:Int):=of_decide_eq_true (by first|(with_reducible assumption)|assumption)
        obtain ⟨ad101,A101_2,c101_2,e101,hx101_0,hx101_1,hx101_2,hl101_2,hi101_2⟩:=at_T24 HR0.out x5_1 p101 q101
        have hw101_2:=hx101_2
        have hw101_1:=hx101_1
        have hw101_0:=hx101_0
        cases e101
        replace hx101_0:=(HB.out.cell (World.block_lt_of_cell? w _ hx101_0)).trans hx101_0
        replace hx101_1:=(HB.out.cell (World.block_lt_of_cell? w _ hx101_1)).trans hx101_1
        replace hx101_2:=(HB.out.cell (World.block_lt_of_cell? w _ hx101_2)).trans hx101_2
        have HR101_2:=Aside0.mk hi101_2
        have HC101_2:=Aside0.mk hl101_2
        clear hi101_2 hl101_2
        replace p101:=eq_true p101
        replace q101:=eq_true q101
        have p102:0≤(x5_1:Int):=of_decide_eq_true (by first|(with_reducible assumption)|assumption)
        have q102:x5_1 < (l1.length:Int):=of_decide_eq_true (by first|(with_reducible assumption)|assumption)
        obtain ⟨ad102,A102_2,c102_2,e102,hx102_0,hx102_1,hx102_2,hl102_2,hi102_2⟩:=at_T24 HR1.out x5_1 p102 q102
        have hw102_2:=hx102_2
        have hw102_1:=hx102_1
        have hw102_0:=hx102_0
        cases e102
        replace hx102_0:=(HB.out.cell (World.block_lt_of_cell? w _ hx102_0)).trans hx102_0
        replace hx102_1:=(HB.out.cell (World.block_lt_of_cell? w _ hx102_1)).trans hx102_1
        replace hx102_2:=(HB.out.cell (World.block_lt_of_cell? w _ hx102_2)).trans hx102_2
        have HR102_2:=Aside0.mk hi102_2
        have HC102_2:=Aside0.mk hl102_2
        clear hi102_2 hl102_2
        replace p102:=eq_true p102
        replace q102:=eq_true q102
        refine start_ (n:=10) (S:=fun w'=>w'.cell? (ad101.add ((x5_1).toNat * 3))=some (.string ((qaP l0 x5_1).f0))∧w'.cell? ⟨(ad101.add ((x5_1).toNat * 3)).block,(ad101.add ((x5_1).toNat * 3)).off+1,none⟩=some (.int .i64 ((qaP l0 x5_1).f1))∧w'.cell? ⟨(ad101.add ((x5_1).toNat * 3)).block,(ad101.add ((x5_1).toNat * 3)).off+2,none⟩=some (.slice A101_2 ((qaP l0 x5_1).f2).length c101_2)∧w'.cell? (ad102.add ((x5_1).toNat * 3))=some (.string ((qaP l1 x5_1).f0))∧w'.cell? ⟨(ad102.add ((x5_1).toNat * 3)).block,(ad102.add ((x5_1).toNat * 3)).off+1,none⟩=some (.int .i64 ((qaP l1 x5_1).f1))∧w'.cell? ⟨(ad102.add ((x5_1).toNat * 3)).block,(ad102.add ((x5_1).toNat * 3)).off+2,none⟩=some (.slice A102_2 ((qaP l1 x5_1).f2).length c102_2)) (ds:=[]) (bitsA 10 0) (by kernel_rfl) rfl rfl ⟨((HB.out.cell (World.block_lt_of_cell? w _ hw101_0)).trans hw101_0),((HB.out.cell (World.block_lt_of_cell? w _ hw101_1)).trans hw101_1),((HB.out.cell (World.block_lt_of_cell? w _ hw101_2)).trans hw101_2),((HB.out.cell (World.block_lt_of_cell? w _ hw102_0)).trans hw102_0),((HB.out.cell (World.block_lt_of_cell? w _ hw102_1)).trans hw102_1),((HB.out.cell (World.block_lt_of_cell? w _ hw102_2)).trans hw102_2)⟩ (fun hHeld=>?_);refine with_tabW sawmillref37_Same.tab6 sawmillref37_Same.bits6 (fun HT_ HW_=>?_)
        generalize wr.drew=w11 at HB HR101_2 HR102_2 hx101_0 hx101_1 hx101_2 hx102_0 hx102_1 hx102_2 hHeld ⊢
        refine qbD (i:=0) (N:=some 17) (v:=?_) (a':=?_) #[true,false,false,false,false,false,false,false,false,false] rfl rfl (qaW HT_.out (by kernel_rfl)) (fun _ _ _ h=>h) (Or.inl ⟨by rfl,?_⟩) ?_ ?_
        rotate_left;(intro w';go_simp;with_reducible rfl);rotate_left;(simp only [Act.put,List.setIfInBounds_toArray,List.set_cons_zero,List.set_cons_succ,qaX,qaY];rfl)
        refine qbD (i:=1) (N:=some 18) (v:=?_) (a':=?_) #[true,true,false,false,false,false,false,false,false,false] rfl rfl (qaW HT_.out (by kernel_rfl)) (fun _ _ _ h=>h) (Or.inl ⟨by rfl,?_⟩) ?_ ?_
        rotate_left;(intro w';go_simp;with_reducible rfl);rotate_left;(simp only [Act.put,List.setIfInBounds_toArray,List.set_cons_zero,List.set_cons_succ,qaX,qaY];rfl)
        refine qbD (i:=2) (N:=some 19) (v:=?_) (a':=?_) #[true,true,true,false,false,false,false,false,false,false] rfl rfl (qaW HT_.out (by kernel_rfl)) (fun _ _ _ h=>h) (Or.inl ⟨by rfl,?_⟩) ?_ ?_
        rotate_left;(intro w';go_simp;with_reducible rfl);rotate_left;(simp only [Act.put,List.setIfInBounds_toArray,List.set_cons_zero,List.set_cons_succ,qaX,qaY];rfl)
        refine qbD (i:=4) (N:=some 21) (v:=?_) (a':=?_) #[true,true,true,false,true,false,false,false,false,false] rfl rfl (qaW HT_.out (by kernel_rfl)) (fun _ _ _ h=>h) (Or.inl ⟨by rfl,?_⟩) ?_ ?_
        rotate_left;(intro w';go_simp;with_reducible rfl);rotate_left;(simp only [Act.put,List.setIfInBounds_toArray,List.set_cons_zero,List.set_cons_succ,qaX,qaY];rfl)
        refine qbD (i:=5) (N:=some 22) (v:=?_) (a':=?_) #[true,true,true,false,true,true,false,false,false,false] rfl rfl (qaW HT_.out (by kernel_rfl)) (fun _ _ _ h=>h) (Or.inl ⟨by rfl,?_⟩) ?_ ?_
        rotate_left;(intro w';go_simp;with_reducible rfl);rotate_left;(simp only [Act.put,List.setIfInBounds_toArray,List.set_cons_zero,List.set_cons_succ,qaX,qaY];rfl)
        refine qbD (i:=6) (N:=some 23) (v:=?_) (a':=?_) #[true,true,true,false,true,true,true,false,false,false] rfl rfl (qaW HT_.out (by kernel_rfl)) (fun _ _ _ h=>h) (Or.inl ⟨by rfl,?_⟩) ?_ ?_
        rotate_left;(intro w';go_simp;with_reducible rfl);rotate_left;(simp only [Act.put,List.setIfInBounds_toArray,List.set_cons_zero,List.set_cons_succ,qaX,qaY];rfl)
        refine take_ (i:=3) (N:=some 20) (v:=?_) (a':=?_) (bitsA 10 127) rfl rfl (qcK HT_.out HW_.out (by kernel_rfl)) (fun _ _ _ h=>h) (Or.inl ⟨by rfl,?_⟩) hHeld ?_ ?_
        rotate_left;(rintro w' ⟨s0,s1,s2,s3,s4,s5⟩;go_simp;with_reducible rfl);rotate_left;(simp only [Act.put,List.setIfInBounds_toArray,List.set_cons_zero,List.set_cons_succ,qaX,qaY];rfl)
        refine take_ (i:=7) (N:=some 24) (v:=?_) (a':=?_) (bitsA 10 255) rfl rfl (qcK HT_.out HW_.out (by kernel_rfl)) (fun _ _ _ h=>h) (Or.inl ⟨by rfl,?_⟩) hHeld ?_ ?_
        rotate_left;(rintro w' ⟨s0,s1,s2,s3,s4,s5⟩;go_simp;with_reducible rfl);rotate_left;(simp only [Act.put,List.setIfInBounds_toArray,List.set_cons_zero,List.set_cons_succ,qaX,qaY];rfl)
        refine one_ (i:=8) (N:=some 25) (bitsA 10 511) rfl rfl (one_of HT_.out (by kernel_rfl)) (by decide) (fun K hK=>?_)
        refine goes_ Tryd.func18 (by kernel_rfl) rfl #[.agg #[.string ((qaP l0 x5_1).f0),.int .i64 ((qaP l0 x5_1).f1),.slice A101_2 ((qaP l0 x5_1).f2).length c101_2],.agg #[.string ((qaP l1 x5_1).f0),.int .i64 ((qaP l1 x5_1).f1),.slice A102_2 ((qaP l1 x5_1).f2).length c102_2]] (by rfl) rfl rfl (by (try simp only [List.map_toArray,List.map_cons,List.map_nil]);first|done|rfl|(simp only [List.length_drop,List.length_take];rfl)) ?_
        with_reducible refine (sawmillref37_SameSchedule.calls k1 ((qaP l0 x5_1).f0) ((qaP l0 x5_1).f1) _ _ ((qaP l0 x5_1).f2) ((qaP l1 x5_1).f0) ((qaP l1 x5_1).f1) _ _ ((qaP l1 x5_1).f2) false _ ?side1 ?side2 ?side3 ?side4 A7.out).mono ?_
        (case side1=>repeat (first|exact (Kd.C_below HR101_2.out HB.out)|(with_reducible refine Kd.C_alloc ?_ _)|(with_reducible refine Kd.C_drewN ?_ _)|(with_reducible refine Kd.C_drew ?_)))
        (case side2=>exact HC101_2.out)
        (case side3=>repeat (first|exact (Kd.C_below HR102_2.out HB.out)|(with_reducible refine Kd.C_alloc ?_ _)|(with_reducible refine Kd.C_drewN ?_ _)|(with_reducible refine Kd.C_drew ?_)))
        (case side4=>exact HC102_2.out)
        rintro e w12 ⟨rfl,hb⟩
        refine ⟨_,rfl,?_⟩
        have n0_:=Aside0.mk (qaN (by repeat (first|(with_reducible first|exact HB.out|apply qaB|apply qaA|apply qaC)|exact HB.out)) hb)
        clear HB
        have HB:=n0_
        clear n0_
        (try clear hb)
        (try clear hb2)
        (try clear hk)
        (try clear hi)
        refine hK.out _ _ ⟨((HB.out.cell (World.block_lt_of_cell? w _ hw101_0)).trans hw101_0),((HB.out.cell (World.block_lt_of_cell? w _ hw101_1)).trans hw101_1),((HB.out.cell (World.block_lt_of_cell? w _ hw101_2)).trans hw101_2),((HB.out.cell (World.block_lt_of_cell? w _ hw102_0)).trans hw102_0),((HB.out.cell (World.block_lt_of_cell? w _ hw102_1)).trans hw102_1),((HB.out.cell (World.block_lt_of_cell? w _ hw102_2)).trans hw102_2)⟩ (fun hHeld=>?_)
        clear hK K
        refine norm_ (a':=?_) ?_ ?_
        rotate_left
        ·show Act.put _ (some 25) _=_
         simp only [Act.put,List.setIfInBounds_toArray,List.set_cons_zero,List.set_cons_succ,qaX,qaY]
         rfl
        refine qbD (i:=9) (N:=some 26) (v:=?_) (a':=?_) #[true,true,true,true,true,true,true,true,true,true] rfl rfl (qaW HT_.out (by kernel_rfl)) (fun _ _ _ h=>h) (Or.inl ⟨by rfl,?_⟩) ?_ ?_
        rotate_left;(intro w';go_simp;with_reducible rfl);rotate_left;(simp only [Act.put,List.setIfInBounds_toArray,List.set_cons_zero,List.set_cons_succ,qaX,qaY];rfl)
        refine done_ (done_of HT_.out (by kernel_rfl)) ?_
        try go_wp2
        go_ret
        exact ⟨by first|rfl|(simp [qaL,qaM]<;>rfl)|(simp [*,qaL,qaM]<;>rfl),by repeat (first|(with_reducible first|exact HB.out|apply qaB|apply qaA|apply qaC)|exact HB.out)⟩
      ·rw [if_neg c6] at H
       exact absurd H (by simp)
     ·rw [if_neg c5] at H
      exact absurd H (by simp)
    ·rw [if_neg c4] at H
     have c4b0:decide (x5_1 < (l0.length:Int))=false:=decide_eq_false c4
     clear c4
     obtain rfl:=Option.some.inj H
     go_wp2
     go_ret
     exact ⟨by first|rfl|(simp [qaL,qaM]<;>rfl)|(simp [*,qaL,qaM]<;>rfl),by repeat (first|(with_reducible first|exact HB.out|apply qaB|apply qaA|apply qaC)|exact HB.out)⟩
 ·rw [if_neg c3] at H
  have c3b0:((l0.length:Int) == (l1.length:Int))=false:=beq_eq_false_iff_ne.mpr c3
  have c3b1:((l0.length:Int) != (l1.length:Int))=true:=bne_iff_ne.mpr c3
  have c3b2:(l0.length == l1.length)=false:=by first|simpa using c3|(simp at c3 ⊢;omega)
  obtain rfl:=Option.some.inj H
  go_enter Tryd.func27,Tryd.ntmps27
  go_wp2
  go_ret
  exact ⟨by first|rfl|(simp [qaL,qaM]<;>rfl)|(simp [*,qaL,qaM]<;>rfl),by repeat (first|(with_reducible first|exact HB.out|apply qaB|apply qaA|apply qaC)|exact HB.out)⟩
end Go.Proofs.YtehdmplngmbnnaaDoor.P
namespace Go.Proofs.YtehdmplngmbnnaaDoor.P
open Go.RowKit Go.Proofs.YtehdmplngmbnnaaDoorW.PrintWords
set_option linter.unusedVariables false
set_option linter.unusedSimpArgs false
theorem sameL_l0 (l:List S24) (hs:∀ s ∈ l,s.f2.length≤1000) (hl:l.length≤1000):∀ (m i K:Nat),i+m=l.length→m+1010≤K→sawmillref37_Same.l0 K l l i=some true:=by
 intro m
 induction m with
 | zero =>
  intro i K hi hK
  obtain ⟨K,rfl⟩:∃ q,K=q+1:=⟨K - 1,by omega⟩
  rw [sawmillref37_Same.l0,if_neg (by omega)]
 | succ m ih =>
  intro i K hi hK
  obtain ⟨K,rfl⟩:∃ q,K=q+1:=⟨K - 1,by omega⟩
  have q1:(i:Int) < (l.length:Int):=by omega
  have q2:(0:Int)≤(i:Int):=by omega
  have e:wrap64 ((i:Int)+1)=((i+1:Nat):Int):=qcH (i+1) (by omega)
  have:=hs _ (rd_mem (l:=l) (i:Int) q2 q1)
  rw [sawmillref37_Same.l0,if_pos q1,if_pos q2,if_pos q1,same_self _ _ _ (by omega) K (by omega),Option.bind_some,if_pos rfl,e]
  exact ih (i+1) K (by omega) (by omega)
theorem sameL_prog (l:List S24) (hs:∀ s ∈ l,s.f2.length≤1000) (hl:l.length≤100) (K:Nat) (hK:1200≤K):sawmillref37_Same.f K l l=some true:=by
 unfold sawmillref37_Same.f
 rw [if_pos rfl]
 exact sameL_l0 l hs (by omega) l.length 0 K (by omega) (by omega)
end Go.Proofs.YtehdmplngmbnnaaDoor.P
namespace Go.Proofs.YtehdmplngmbnnaaDoor.P
open Go.RowKit Go.Proofs.YtehdmplngmbnnaaDoorW.PrintWords
theorem S_far3 {α:Type} {d:Kd α} {e base:Nat} {ok:Nat→Prop} {w:World} {v:Value} {xs:List α} (h:Kd.S d e w base ok v xs) {g:Nat} (hok:∀ k,ok k→k ≠ g) (u0 u1 u2:Value):Kd.S d e (((w.setCell ⟨g,0,none⟩ u0).setCell ⟨g,1,none⟩ u1).setCell ⟨g,2,none⟩ u2) base ok v xs:=Kd.S_far (p:=⟨g,2,none⟩) (Kd.S_far (p:=⟨g,1,none⟩) (Kd.S_far (p:=⟨g,0,none⟩) h hok u0) hok u1) hok u2
theorem R_far3 {α:Type} {d:Kd α} {e base:Nat} {ok:Nat→Prop} {w:World} {v:Value} {xs:List α} (h:Kd.R d e w base ok v xs) {g:Nat} (hok:∀ k,ok k→k ≠ g) (u0 u1 u2:Value):Kd.R d e (((w.setCell ⟨g,0,none⟩ u0).setCell ⟨g,1,none⟩ u1).setCell ⟨g,2,none⟩ u2) base ok v xs:=Kd.R_far (p:=⟨g,2,none⟩) (Kd.R_far (p:=⟨g,1,none⟩) (Kd.R_far (p:=⟨g,0,none⟩) h hok u0) hok u1) hok u2
theorem V_far3 {α:Type} {d:Kd α} {e base:Nat} {ok:Nat→Prop} {w:World} {v:Value} {xs:List α} (h:Kd.V d e w base ok v xs) {g:Nat} (hok:∀ k,ok k→k ≠ g) (u0 u1 u2:Value):Kd.V d e (((w.setCell ⟨g,0,none⟩ u0).setCell ⟨g,1,none⟩ u1).setCell ⟨g,2,none⟩ u2) base ok v xs:=Kd.V_far (p:=⟨g,2,none⟩) (Kd.V_far (p:=⟨g,1,none⟩) (Kd.V_far (p:=⟨g,0,none⟩) h hok u0) hok u1) hok u2
theorem qbZ {w:World} {b g:Nat} {t:TypeId} {cs:Array Value} (h:w.heap[b]?=some (.cells cs t (0,0))) (hne:b ≠ g) (u0 u1 u2:Value):(((w.setCell ⟨g,0,none⟩ u0).setCell ⟨g,1,none⟩ u1).setCell ⟨g,2,none⟩ u2).heap[b]?=some (.cells cs t (0,0)):=qbI (p:=⟨g,2,none⟩) (qbI (p:=⟨g,1,none⟩) (qbI (p:=⟨g,0,none⟩) h hne u0) hne u1) hne u2
theorem blk_put3' {W:World} {b t:Nat} {x0 x1 x2 y0 y1 y2:Value} (h:W.heap[b]?=some (.cells #[x0,x1,x2] t (0,0))) :
  (((W.setCell ⟨b,0,none⟩ y0).setCell ⟨b,1,none⟩ y1).setCell ⟨b,2,none⟩ y2).heap[b]?=some (.cells #[y0,y1,y2] t (0,0)) :=
 qaR (qaR (qaR h 0 y0 rfl) 1 y1 rfl) 2 y2 rfl
end Go.Proofs.YtehdmplngmbnnaaDoor.P
namespace Go.Proofs.YtehdmplngmbnnaaDoor.P
open Go.RowKit Go.Proofs.YtehdmplngmbnnaaDoorW.PrintWords Go.Proofs.YtehdmplngmbnnaaDoorW.PrintLast Go.Proofs.YtehdmplngmbnnaaDoorW.PrintMore
attribute [local go_sem] qbV qbW qcC qcD qbQ qbR qbX qbY
attribute [local go_sem] qbL
set_option linter.unusedVariables false
set_option linter.unusedSimpArgs false
def sawmillref37_is.f (l0_0:List (S68)) (a0_1:Int) (a0_2:Bool) (a1:Int) (a2:ByteArray):Option (Bool):=if 0≤a0_1 then (if a0_1 < (l0_0.length:Int) then (if ((qaZ l0_0 a0_1).f0)=a1 then (some (((qaZ l0_0 a0_1).f1).toList == a2.toList)) else (some false)) else (none)) else (none)
set_option maxHeartbeats 8000000 in
set_option maxRecDepth 100000 in
theorem sawmillref37_is.calls (A0_0:Option Addr) (c0_0:Nat) (l0_0:List (S68)) (a0_1:Int) (a0_2:Bool) (a1:Int) (a2:ByteArray) (r:Bool) (w:World) (hr0_0:Kd.C k68 w A0_0 l0_0.length l0_0) (hc0_0:l0_0.length≤c0_0) (h:sawmillref37_is.f l0_0 a0_1 a0_2 a1 a2=some r) :
  Calls Tryd.prog 59 #[.agg #[.slice A0_0 l0_0.length c0_0,.int .i64 a0_1,.bool a0_2],.int .i64 a1,.string a2] w fun e w'=>e=.returned (.bool r)∧Below w.heap.size w w':=by
 have hu72:=Tryd.underlying72
 have HR0_0:=Aside0.mk hr0_0
 have HC0_0:=Aside0.mk hc0_0
 clear hr0_0 hc0_0
 have HB:=Aside0.mk (Below.refl w.heap.size w)
 have H:(if 0≤a0_1 then (if a0_1 < (l0_0.length:Int) then (if ((qaZ l0_0 a0_1).f0)=a1 then (some (((qaZ l0_0 a0_1).f1).toList == a2.toList)) else (some false)) else (none)) else (none))=some r:=h
 clear h
 by_cases c4:0≤a0_1
 ·rw [if_pos c4] at H
  have c4b0:decide (0≤a0_1)=true:=decide_eq_true c4
  clear c4
  by_cases c5:a0_1 < (l0_0.length:Int)
  ·rw [if_pos c5] at H
   have c5b0:decide (a0_1 < (l0_0.length:Int))=true:=decide_eq_true c5
   clear c5
   by_cases c6:((qaZ l0_0 a0_1).f0)=a1
   ·rw [if_pos c6] at H
    have c6b0:(((qaZ l0_0 a0_1).f0) == a1)=true:=beq_iff_eq.mpr c6
    have c6b1:(((qaZ l0_0 a0_1).f0) != a1)=false:=bne_eq_false_iff_eq.mpr c6
    clear c6
    obtain rfl:=Option.some.inj H
    go_enter Tryd.func59,Tryd.ntmps59
    go_wp2_with (first|((with_reducible refine qbE (N:=3) rfl ?_);refine qbC ?hg (N:=3) ?hd (cs:=#[.slice A0_0 l0_0.length c0_0,.int .i64 a0_1,.bool a0_2]) (t:=72) ?hr ?_;(case hd=>rfl);(case hg=>rfl);(case hr=>first|(go_simp;done)|(go_simp;rfl));intro gb101 hg w7 hbox hb;have n0_:=Aside0.mk (qaN (by repeat (first|(with_reducible first|exact HB.out|apply qaB|apply qaA|apply qaC)|exact HB.out)) hb);have n1_:=Aside0.mk (hbox);have n2_:=Aside0.mk ((by rw [hg];exact (qaK (by repeat (first|(with_reducible first|exact HB.out|apply qaB|apply qaA|apply qaC)|exact HB.out))):w.heap.size≤gb101));have n3_:=Aside0.mk ((by rw [hg];exact (qaK (by repeat (first|(with_reducible first|exact HB.out|apply qaB|apply qaA|apply qaC)|exact HB.out))):w.heap.size≤gb101));clear HB;have HB:=n0_;have BK101:=n1_;have GW101:=n2_;have GE101:=n3_;clear n0_ n1_ n2_ n3_;clear hb hbox hg;have hcz8_0:w7.cell? ⟨gb101,0,none⟩=some (.slice A0_0 l0_0.length c0_0):=(qaE BK101.out 0).trans rfl;have hcz8_1:w7.cell? ⟨gb101,1,none⟩=some (.int .i64 a0_1):=(qaE BK101.out 1).trans rfl;have hcz8_2:w7.cell? ⟨gb101,2,none⟩=some (.bool a0_2):=(qaE BK101.out 2).trans rfl;have hfz8_0:=qaD BK101.out 0;have hfz8_1:=qaD BK101.out 1;have hfz8_2:=qaD BK101.out 2;have p102:0≤(a0_1:Int):=of_decide_eq_true (by first|(with_reducible assumption)|assumption);have q102:a0_1 < (l0_0.length:Int):=of_decide_eq_true (by first|(with_reducible assumption)|assumption);obtain ⟨ad102,e102,hx102_0,hx102_1,hx102_2,hx102_3⟩:=at_T68 HR0_0.out a0_1 p102 q102;cases e102;replace hx102_0:=(HB.out.cell (World.block_lt_of_cell? w _ hx102_0)).trans hx102_0;replace hx102_1:=(HB.out.cell (World.block_lt_of_cell? w _ hx102_1)).trans hx102_1;replace hx102_2:=(HB.out.cell (World.block_lt_of_cell? w _ hx102_2)).trans hx102_2;replace hx102_3:=(HB.out.cell (World.block_lt_of_cell? w _ hx102_3)).trans hx102_3;replace p102:=eq_true p102;replace q102:=eq_true q102;have p103:0≤(a0_1:Int):=of_decide_eq_true (by first|(with_reducible assumption)|assumption);have q103:a0_1 < (l0_0.length:Int):=of_decide_eq_true (by first|(with_reducible assumption)|assumption);obtain ⟨ad103,e103,hx103_0,hx103_1,hx103_2,hx103_3⟩:=at_T68 HR0_0.out a0_1 p103 q103;obtain rfl:ad102=ad103:=(by injection e103);replace hx103_0:=(HB.out.cell (World.block_lt_of_cell? w _ hx103_0)).trans hx103_0;replace hx103_1:=(HB.out.cell (World.block_lt_of_cell? w _ hx103_1)).trans hx103_1;replace hx103_2:=(HB.out.cell (World.block_lt_of_cell? w _ hx103_2)).trans hx103_2;replace hx103_3:=(HB.out.cell (World.block_lt_of_cell? w _ hx103_3)).trans hx103_3;replace p103:=eq_true p103;replace q103:=eq_true q103))
    go_ret
    exact ⟨by first|rfl|(simp [qaL,qaM]<;>rfl)|(simp [*,qaL,qaM]<;>rfl),by repeat (first|(with_reducible first|exact HB.out|apply qaB|apply qaA|apply qaC|refine qaF ?_ GE101.out)|exact HB.out)⟩
   ·rw [if_neg c6] at H
    have c6b0:(((qaZ l0_0 a0_1).f0) == a1)=false:=beq_eq_false_iff_ne.mpr c6
    have c6b1:(((qaZ l0_0 a0_1).f0) != a1)=true:=bne_iff_ne.mpr c6
    obtain rfl:=Option.some.inj H
    go_enter Tryd.func59,Tryd.ntmps59
    go_wp2_with (first|((with_reducible refine qbE (N:=3) rfl ?_);refine qbC ?hg (N:=3) ?hd (cs:=#[.slice A0_0 l0_0.length c0_0,.int .i64 a0_1,.bool a0_2]) (t:=72) ?hr ?_;(case hd=>rfl);(case hg=>rfl);(case hr=>first|(go_simp;done)|(go_simp;rfl));intro gb101 hg w9 hbox hb;have n0_:=Aside0.mk (qaN (by repeat (first|(with_reducible first|exact HB.out|apply qaB|apply qaA|apply qaC)|exact HB.out)) hb);have n1_:=Aside0.mk (hbox);have n2_:=Aside0.mk ((by rw [hg];exact (qaK (by repeat (first|(with_reducible first|exact HB.out|apply qaB|apply qaA|apply qaC)|exact HB.out))):w.heap.size≤gb101));have n3_:=Aside0.mk ((by rw [hg];exact (qaK (by repeat (first|(with_reducible first|exact HB.out|apply qaB|apply qaA|apply qaC)|exact HB.out))):w.heap.size≤gb101));clear HB;have HB:=n0_;have BK101:=n1_;have GW101:=n2_;have GE101:=n3_;clear n0_ n1_ n2_ n3_;clear hb hbox hg;have hcz10_0:w9.cell? ⟨gb101,0,none⟩=some (.slice A0_0 l0_0.length c0_0):=(qaE BK101.out 0).trans rfl;have hcz10_1:w9.cell? ⟨gb101,1,none⟩=some (.int .i64 a0_1):=(qaE BK101.out 1).trans rfl;have hcz10_2:w9.cell? ⟨gb101,2,none⟩=some (.bool a0_2):=(qaE BK101.out 2).trans rfl;have hfz10_0:=qaD BK101.out 0;have hfz10_1:=qaD BK101.out 1;have hfz10_2:=qaD BK101.out 2;have p102:0≤(a0_1:Int):=of_decide_eq_true (by first|(with_reducible assumption)|assumption);have q102:a0_1 < (l0_0.length:Int):=of_decide_eq_true (by first|(with_reducible assumption)|assumption);obtain ⟨ad102,e102,hx102_0,hx102_1,hx102_2,hx102_3⟩:=at_T68 HR0_0.out a0_1 p102 q102;cases e102;replace hx102_0:=(HB.out.cell (World.block_lt_of_cell? w _ hx102_0)).trans hx102_0;replace hx102_1:=(HB.out.cell (World.block_lt_of_cell? w _ hx102_1)).trans hx102_1;replace hx102_2:=(HB.out.cell (World.block_lt_of_cell? w _ hx102_2)).trans hx102_2;replace hx102_3:=(HB.out.cell (World.block_lt_of_cell? w _ hx102_3)).trans hx102_3;replace p102:=eq_true p102;replace q102:=eq_true q102))
    go_ret
    exact ⟨by first|rfl|(simp [qaL,qaM]<;>rfl)|(simp [*,qaL,qaM]<;>rfl),by repeat (first|(with_reducible first|exact HB.out|apply qaB|apply qaA|apply qaC|refine qaF ?_ GE101.out)|exact HB.out)⟩
  ·rw [if_neg c5] at H
   exact absurd H (by simp)
 ·rw [if_neg c4] at H
  exact absurd H (by simp)
end Go.Proofs.YtehdmplngmbnnaaDoor.P
namespace Go.Proofs.YtehdmplngmbnnaaDoor.P
open Go.RowKit Go.Proofs.YtehdmplngmbnnaaDoorW.PrintWords Go.Proofs.YtehdmplngmbnnaaDoorW.PrintLast Go.Proofs.YtehdmplngmbnnaaDoorW.PrintMore
attribute [local go_sem] qbV qbW qcC qcD qbQ qbR qbX qbY
attribute [local go_sem] qbL
set_option linter.unusedVariables false
set_option linter.unusedSimpArgs false
def sawmillref37_number.f (l0_0:List (S68)) (a0_1:Int) (a0_2:Bool):Option ((List (S68)) × Int × Bool × Int):=if a0_2=true then (some (l0_0,a0_1,true,0)) else (if 0≤a0_1 then (if a0_1 < (l0_0.length:Int) then (if ((qaZ l0_0 a0_1).f0)=2 then (if 0≤(wrap64 ((wrap64 (a0_1+1)) - 1)) then (if (wrap64 ((wrap64 (a0_1+1)) - 1)) < (l0_0.length:Int) then (some (l0_0,wrap64 (a0_1+1),a0_2,(qaZ l0_0 (wrap64 ((wrap64 (a0_1+1)) - 1))).f2)) else (none)) else (none)) else (some (l0_0,a0_1,true,0))) else (none)) else (none))
theorem qbM {α:Type} {d:Kd α} {e base n c:Nat} {ok:Nat→Prop} {W:World} {xs:List α} {ad:Addr} {g:Nat} (h:Kd.V d e W base ok (.slice (some ad) n c) xs) (hn:0 < xs.length) (hs:0 < d.sz) (hok:∀ k,ok k→k ≠ g):some g ≠ (Value.slice (some ad) n c).ownBlock:=by
 obtain ⟨ad',c',he,-,-,-,hin⟩:=Kd.F_get (Kd.V_F h) xs[0] 0 (Int.le_refl 0) (by have:=(Kd.V_at h).1;omega)
 injection he with he
 subst he
 have:=hok _ (hin hs)
 simp only [Value.ownBlock,ne_eq,Option.map_some,Option.some.injEq]
 exact fun h=>this h.symm
def sawmillref37_number.T5:Bool × List (List Nat × List Nat):=(true,[([],[]),([],[]),([1],[1]),([],[]),([3],[3]),([4],[4]),([2,5],[2,5]),([6],[6]),([7],[7]),([0,0],[0]),([8,9,0,1,2,3,4,5,6,7,8,9],[8])])
def sawmillref37_number.B5:List Nat:=[0,0,2,0,8,24,62,126,254,1,1023]
theorem sawmillref37_number.tab5:rtab .any (opsOf Tryd.f58 5)=sawmillref37_number.T5:=by kernel_rfl
theorem sawmillref37_number.bits5:waitsOk sawmillref37_number.T5.2 sawmillref37_number.B5=true:=by kernel_rfl
set_option maxHeartbeats 8000000 in
set_option maxRecDepth 100000 in
theorem sawmillref37_number.calls (P0_0_:Nat→Prop) (A0_0:Option Addr) (c0_0:Nat) (l0_0:List (S68)) (a0_1:Int) (a0_2:Bool) (r1:List (S68)) (r2:Int) (r3:Bool) (r4:Int) (w:World) (hs0_0:Kd.V k68 68 w w.heap.size (fun k_=>P0_0_ k_) (.slice A0_0 l0_0.length c0_0) l0_0) (h:sawmillref37_number.f l0_0 a0_1 a0_2=some (r1,r2,r3,r4)) :
  Calls Tryd.prog 58 #[.agg #[.slice A0_0 l0_0.length c0_0,.int .i64 a0_1,.bool a0_2]] w fun e w'=>∃ v0_:Value,e=.returned (.tuple #[.agg #[v0_,.int .i64 r2,.bool r3],.int .i64 r4])∧Kd.V k68 68 w' w.heap.size (fun k_=>(P0_0_ k_ ∨ w.heap.size≤k_)) v0_ r1∧Below w.heap.size w w':=by
 have hu72:=Tryd.underlying72
 have HO0_0:=Aside0.mk (show Kd.V k68 68 w w.heap.size (fun k_=>(P0_0_ k_ ∨ w.heap.size≤k_)) (.slice A0_0 l0_0.length c0_0) l0_0 from Kd.V_mono hs0_0 (fun k_ hk=>.inl hk))
 have HB:=Aside0.mk (Below.refl w.heap.size w)
 have H:(if a0_2=true then (some (l0_0,a0_1,true,0)) else (if 0≤a0_1 then (if a0_1 < (l0_0.length:Int) then (if ((qaZ l0_0 a0_1).f0)=2 then (if 0≤(wrap64 ((wrap64 (a0_1+1)) - 1)) then (if (wrap64 ((wrap64 (a0_1+1)) - 1)) < (l0_0.length:Int) then (some (l0_0,wrap64 (a0_1+1),a0_2,(qaZ l0_0 (wrap64 ((wrap64 (a0_1+1)) - 1))).f2)) else (none)) else (none)) else (some (l0_0,a0_1,true,0))) else (none)) else (none)))=some (r1,r2,r3,r4):=h
 clear h
 by_cases c2:a0_2=true
 ·subst c2
  have H1:(some (l0_0,a0_1,true,0))=some (r1,r2,r3,r4):=by rw [if_pos rfl] at H;exact H
  clear H
  have H:=H1
  clear H1
  simp only [Option.some.injEq,Prod.mk.injEq] at H
  obtain ⟨rfl,rfl,rfl,rfl⟩:=H
  go_enter Tryd.func58,Tryd.ntmps58
  go_wp2_with (first|((with_reducible refine qbE (N:=1) rfl ?_);refine qbC ?hg (N:=1) ?hd (cs:=#[.slice A0_0 l0_0.length c0_0,.int .i64 a0_1,.bool true]) (t:=72) ?hr ?_;(case hd=>rfl);(case hg=>rfl);(case hr=>first|(go_simp;done)|(go_simp;rfl));intro gb101 hg w3 hbox hb;have n0_:=Aside0.mk (Kd.V_below (Kd.V_elderB (by (with_reducible repeat (first|apply Kd.V_alloc|apply Kd.V_drewN|apply Kd.V_drew));exact HO0_0.out) gb101 (Nat.le_of_eq hg.symm)) hb);have n1_:=Aside0.mk (qaN (by repeat (first|(with_reducible first|exact HB.out|apply qaB|apply qaA|apply qaC)|exact HB.out)) hb);have n2_:=Aside0.mk (hbox);have n3_:=Aside0.mk ((by rw [hg];exact (qaK (by repeat (first|(with_reducible first|exact HB.out|apply qaB|apply qaA|apply qaC)|exact HB.out))):w.heap.size≤gb101));have n4_:=Aside0.mk ((by rw [hg];exact (qaK (by repeat (first|(with_reducible first|exact HB.out|apply qaB|apply qaA|apply qaC)|exact HB.out))):w.heap.size≤gb101));clear HO0_0;clear HB;have HO0_0:=n0_;have HB:=n1_;have BK101:=n2_;have GW101:=n3_;have GE101:=n4_;clear n0_ n1_ n2_ n3_ n4_;clear hb hbox hg)|((with_reducible refine qbE (N:=2) rfl ?_);refine qbC ?hg (N:=2) ?hd (cs:=#[.slice none 0 0,.int .i64 0,.bool false]) (t:=72) ?hr ?_;(case hd=>rfl);(case hg=>rfl);(case hr=>first|(go_simp;done)|(go_simp;rfl));intro gb102 hg w4 hbox hb;have n0_:=Aside0.mk (Kd.V_below (Kd.V_elderB (by (with_reducible repeat (first|apply Kd.V_alloc|apply Kd.V_drewN|apply Kd.V_drew));exact HO0_0.out) gb102 (Nat.le_of_eq hg.symm)) hb);have n1_:=Aside0.mk (qaS (g:=gb101) (o:=.cells #[.slice A0_0 l0_0.length c0_0,.int .i64 a0_1,.bool true] 72 (0,0)) (by (with_reducible repeat (first|refine qaH ?_ _|refine qaI ?_|refine qaG ?_ _));exact BK101.out) hb);have n2_:=Aside0.mk (qaN (by repeat (first|(with_reducible first|exact HB.out|apply qaB|apply qaA|apply qaC|refine qaF ?_ GE101.out)|exact HB.out)) hb);have n3_:=Aside0.mk (hbox);have n4_:=Aside0.mk ((by rw [hg];exact (qaK (by repeat (first|(with_reducible first|exact HB.out|apply qaB|apply qaA|apply qaC|refine qaF ?_ GE101.out)|exact HB.out))):w.heap.size≤gb102));have n5_:=Aside0.mk ((by rw [hg];exact (qaK (by repeat (first|(with_reducible first|exact HB.out|apply qaB|apply qaA|apply qaC|refine qaF ?_ GE101.out)|exact HB.out))):w.heap.size≤gb102));have n6_:=Aside0.mk ((by rw [hg];exact Nat.ne_of_lt (qbF (g:=gb101) (o:=.cells #[.slice A0_0 l0_0.length c0_0,.int .i64 a0_1,.bool true] 72 (0,0)) (by (with_reducible repeat (first|refine qaH ?_ _|refine qaI ?_|refine qaG ?_ _));exact BK101.out)):gb101 ≠ gb102));have n7_:=Aside0.mk ((by rw [hg];exact Nat.ne_of_gt (qbF (g:=gb101) (o:=.cells #[.slice A0_0 l0_0.length c0_0,.int .i64 a0_1,.bool true] 72 (0,0)) (by (with_reducible repeat (first|refine qaH ?_ _|refine qaI ?_|refine qaG ?_ _));exact BK101.out)):gb102 ≠ gb101));clear HO0_0;clear BK101;clear HB;have HO0_0:=n0_;have BK101:=n1_;have HB:=n2_;have BK102:=n3_;have GW102:=n4_;have GE102:=n5_;have NB101_102:=n6_;have NB102_101:=n7_;clear n0_ n1_ n2_ n3_ n4_ n5_ n6_ n7_;clear hb hbox hg;have hnb5:=NB101_102.out;have hnc5:=NB102_101.out;have hcz6_0:w4.cell? ⟨gb101,0,none⟩=some (.slice A0_0 l0_0.length c0_0):=(qaE BK101.out 0).trans rfl;have hcz6_1:w4.cell? ⟨gb101,1,none⟩=some (.int .i64 a0_1):=(qaE BK101.out 1).trans rfl;have hcz6_2:w4.cell? ⟨gb101,2,none⟩=some (.bool true):=(qaE BK101.out 2).trans rfl;have hfz6_0:=qaD BK101.out 0;have hfz6_1:=qaD BK101.out 1;have hfz6_2:=qaD BK101.out 2;have hcz7_0:w4.cell? ⟨gb102,0,none⟩=some (.slice none 0 0):=(qaE BK102.out 0).trans rfl;have hcz7_1:w4.cell? ⟨gb102,1,none⟩=some (.int .i64 0):=(qaE BK102.out 1).trans rfl;have hcz7_2:w4.cell? ⟨gb102,2,none⟩=some (.bool false):=(qaE BK102.out 2).trans rfl;have hfz7_0:=qaD BK102.out 0;have hfz7_1:=qaD BK102.out 1;have hfz7_2:=qaD BK102.out 2))
  refine bodyPost_ret (qcF rfl _ _ gb102 72 #[.slice A0_0 l0_0.length c0_0,.int .i64 a0_1,.bool true] (0,0) _ rfl (by (with_reducible repeat (first|refine qaH ?_ _|refine qaI ?_|refine qaG ?_ _));refine qaR (cs:=#[.slice A0_0 l0_0.length c0_0,.int .i64 a0_1,.bool false]) ?_ 2 _ rfl;(with_reducible repeat (first|refine qaH ?_ _|refine qaI ?_|refine qaG ?_ _));refine qaR (cs:=#[.slice A0_0 l0_0.length c0_0,.int .i64 0,.bool false]) ?_ 1 _ rfl;(with_reducible repeat (first|refine qaH ?_ _|refine qaI ?_|refine qaG ?_ _));refine qaR (cs:=#[.slice none 0 0,.int .i64 0,.bool false]) ?_ 0 _ rfl;(with_reducible repeat (first|refine qaH ?_ _|refine qaI ?_|refine qaG ?_ _));refine qbI ?_ NB102_101.out _;(with_reducible repeat (first|refine qaH ?_ _|refine qaI ?_|refine qaG ?_ _));exact BK102.out) Tryd.underlying72 rfl (by kernel_rfl)) rfl ?_
  exact ⟨_,by first|rfl|(simp [qaL,qaM]<;>rfl)|(simp [*,qaL,qaM]<;>rfl),by (with_reducible repeat (first|apply Kd.V_alloc|apply Kd.V_drewN|apply Kd.V_drew));exact Kd.V_mono (Kd.V_far (p:=⟨gb102,2,none⟩) (Kd.V_far (p:=⟨gb102,1,none⟩) (Kd.V_far (p:=⟨gb102,0,none⟩) (Kd.V_far (p:=⟨gb101,2,none⟩) (Kd.V_mono (Kd.V_mono HO0_0.out (fun k_ hk=>(⟨hk,hk.1.2⟩:_∧k_ ≠ gb101))) (fun k_ hk=>(⟨hk,hk.1.2⟩:_∧k_ ≠ gb102))) (fun _ hk=>hk.1.2) (.bool true)) (fun _ hk=>hk.2) (.slice A0_0 l0_0.length c0_0)) (fun _ hk=>hk.2) (.int .i64 a0_1)) (fun _ hk=>hk.2) (.bool true)) (fun _ hk=>hk.1.1.1.1),by repeat (first|(with_reducible first|exact HB.out|apply qaB|apply qaA|apply qaC|refine qaF ?_ GE101.out|refine qaF ?_ GE102.out)|exact HB.out)⟩
 ·replace c2:=Bool.eq_false_iff.mpr c2
  subst c2
  have H1:(if 0≤a0_1 then (if a0_1 < (l0_0.length:Int) then (if ((qaZ l0_0 a0_1).f0)=2 then (if 0≤(wrap64 ((wrap64 (a0_1+1)) - 1)) then (if (wrap64 ((wrap64 (a0_1+1)) - 1)) < (l0_0.length:Int) then (some (l0_0,wrap64 (a0_1+1),false,(qaZ l0_0 (wrap64 ((wrap64 (a0_1+1)) - 1))).f2)) else (none)) else (none)) else (some (l0_0,a0_1,true,0))) else (none)) else (none))=some (r1,r2,r3,r4):=by rw [if_neg (show ¬ (false=true) by decide)] at H;exact H
  clear H
  have H:=H1
  clear H1
  by_cases c8:0≤a0_1
  ·rw [if_pos c8] at H
   have c8b0:decide (0≤a0_1)=true:=decide_eq_true c8
   clear c8
   by_cases c9:a0_1 < (l0_0.length:Int)
   ·rw [if_pos c9] at H
    have c9b0:decide (a0_1 < (l0_0.length:Int))=true:=decide_eq_true c9
    clear c9
    by_cases c10:((qaZ l0_0 a0_1).f0)=2
    ·rw [if_pos c10] at H
     have c10b0:(((qaZ l0_0 a0_1).f0) == 2)=true:=beq_iff_eq.mpr c10
     have c10b1:(((qaZ l0_0 a0_1).f0) != 2)=false:=bne_eq_false_iff_eq.mpr c10
     clear c10
     obtain ⟨ji11,hji11⟩:∃ j_:Int,(wrap64 ((wrap64 (a0_1+1)) - 1))=j_:=⟨_,rfl⟩
     replace H:(if 0≤(ji11) then (if (ji11) < (l0_0.length:Int) then (some (l0_0,wrap64 (a0_1+1),false,(qaZ l0_0 (ji11)).f2)) else (none)) else (none))=some (r1,r2,r3,r4):=by first|(rw [hji11] at H;exact H)|(simp only [hji11] at H ⊢;exact H)
     have hji11w:(IntKind.i64.wrap ((wrap64 (a0_1+1)) - 1))=ji11:=(qaX _).trans hji11
     by_cases c12:0≤(ji11)
     ·rw [if_pos c12] at H
      have c12b0:decide (0≤(ji11))=true:=decide_eq_true c12
      clear c12
      by_cases c13:(ji11) < (l0_0.length:Int)
      ·rw [if_pos c13] at H
       have c13b0:decide ((ji11) < (l0_0.length:Int))=true:=decide_eq_true c13
       clear c13
       simp only [Option.some.injEq,Prod.mk.injEq] at H
       obtain ⟨rfl,rfl,rfl,rfl⟩:=H
       go_enter Tryd.func58,Tryd.ntmps58
       try go_wp2_with (first|((with_reducible refine qbE (N:=1) rfl ?_);refine qbC ?hg (N:=1) ?hd (cs:=#[.slice A0_0 l0_0.length c0_0,.int .i64 a0_1,.bool false]) (t:=72) ?hr ?_;(case hd=>rfl);(case hg=>rfl);(case hr=>first|(go_simp;done)|(go_simp;rfl));intro gb101 hg w14 hbox hb;have n0_:=Aside0.mk (Kd.V_below (Kd.V_elderB (by (with_reducible repeat (first|apply Kd.V_alloc|apply Kd.V_drewN|apply Kd.V_drew));exact HO0_0.out) gb101 (Nat.le_of_eq hg.symm)) hb);have n1_:=Aside0.mk (qaN (by repeat (first|(with_reducible first|exact HB.out|apply qaB|apply qaA|apply qaC)|exact HB.out)) hb);have n2_:=Aside0.mk (hbox);have n3_:=Aside0.mk ((by rw [hg];exact (qaK (by repeat (first|(with_reducible first|exact HB.out|apply qaB|apply qaA|apply qaC)|exact HB.out))):w.heap.size≤gb101));have n4_:=Aside0.mk ((by rw [hg];exact (qaK (by repeat (first|(with_reducible first|exact HB.out|apply qaB|apply qaA|apply qaC)|exact HB.out))):w.heap.size≤gb101));clear HO0_0;clear HB;have HO0_0:=n0_;have HB:=n1_;have BK101:=n2_;have GW101:=n3_;have GE101:=n4_;clear n0_ n1_ n2_ n3_ n4_;clear hb hbox hg)|((with_reducible refine qbE (N:=2) rfl ?_);refine qbC ?hg (N:=2) ?hd (cs:=#[.slice none 0 0,.int .i64 0,.bool false]) (t:=72) ?hr ?_;(case hd=>rfl);(case hg=>rfl);(case hr=>first|(go_simp;done)|(go_simp;rfl));intro gb102 hg w15 hbox hb;have n0_:=Aside0.mk (Kd.V_below (Kd.V_elderB (by (with_reducible repeat (first|apply Kd.V_alloc|apply Kd.V_drewN|apply Kd.V_drew));exact HO0_0.out) gb102 (Nat.le_of_eq hg.symm)) hb);have n1_:=Aside0.mk (qaS (g:=gb101) (o:=.cells #[.slice A0_0 l0_0.length c0_0,.int .i64 a0_1,.bool false] 72 (0,0)) (by (with_reducible repeat (first|refine qaH ?_ _|refine qaI ?_|refine qaG ?_ _));exact BK101.out) hb);have n2_:=Aside0.mk (qaN (by repeat (first|(with_reducible first|exact HB.out|apply qaB|apply qaA|apply qaC|refine qaF ?_ GE101.out)|exact HB.out)) hb);have n3_:=Aside0.mk (hbox);have n4_:=Aside0.mk ((by rw [hg];exact (qaK (by repeat (first|(with_reducible first|exact HB.out|apply qaB|apply qaA|apply qaC|refine qaF ?_ GE101.out)|exact HB.out))):w.heap.size≤gb102));have n5_:=Aside0.mk ((by rw [hg];exact (qaK (by repeat (first|(with_reducible first|exact HB.out|apply qaB|apply qaA|apply qaC|refine qaF ?_ GE101.out)|exact HB.out))):w.heap.size≤gb102));have n6_:=Aside0.mk ((by rw [hg];exact Nat.ne_of_lt (qbF (g:=gb101) (o:=.cells #[.slice A0_0 l0_0.length c0_0,.int .i64 a0_1,.bool false] 72 (0,0)) (by (with_reducible repeat (first|refine qaH ?_ _|refine qaI ?_|refine qaG ?_ _));exact BK101.out)):gb101 ≠ gb102));have n7_:=Aside0.mk ((by rw [hg];exact Nat.ne_of_gt (qbF (g:=gb101) (o:=.cells #[.slice A0_0 l0_0.length c0_0,.int .i64 a0_1,.bool false] 72 (0,0)) (by (with_reducible repeat (first|refine qaH ?_ _|refine qaI ?_|refine qaG ?_ _));exact BK101.out)):gb102 ≠ gb101));clear HO0_0;clear BK101;clear HB;have HO0_0:=n0_;have BK101:=n1_;have HB:=n2_;have BK102:=n3_;have GW102:=n4_;have GE102:=n5_;have NB101_102:=n6_;have NB102_101:=n7_;clear n0_ n1_ n2_ n3_ n4_ n5_ n6_ n7_;clear hb hbox hg;have hnb16:=NB101_102.out;have hnc16:=NB102_101.out;have hcz17_0:w15.cell? ⟨gb101,0,none⟩=some (.slice A0_0 l0_0.length c0_0):=(qaE BK101.out 0).trans rfl;have hcz17_1:w15.cell? ⟨gb101,1,none⟩=some (.int .i64 a0_1):=(qaE BK101.out 1).trans rfl;have hcz17_2:w15.cell? ⟨gb101,2,none⟩=some (.bool false):=(qaE BK101.out 2).trans rfl;have hfz17_0:=qaD BK101.out 0;have hfz17_1:=qaD BK101.out 1;have hfz17_2:=qaD BK101.out 2;have p103:0≤(a0_1:Int):=of_decide_eq_true (by first|(with_reducible assumption)|assumption);have q103:a0_1 < (l0_0.length:Int):=of_decide_eq_true (by first|(with_reducible assumption)|assumption);obtain ⟨ad103,e103,hx103_0,hx103_1,hx103_2,hx103_3⟩:=at_T68 (Kd.V_reads' HO0_0.out).2.2 a0_1 p103 q103;cases e103;replace p103:=eq_true p103;replace q103:=eq_true q103))
       have n0_:Aside0 (Kd.V k68 68 (w15.setCell ⟨gb101,1,none⟩ (.int .i64 (wrap64 (a0_1+1)))) w.heap.size (fun k_=>(P0_0_ k_ ∨ w.heap.size≤k_)∧k_ ≠ gb101∧k_ ≠ gb102) (.slice (some ad103) l0_0.length c0_0) l0_0):=⟨by (with_reducible repeat (first|apply Kd.V_alloc|apply Kd.V_drewN|apply Kd.V_drew));exact Kd.V_mono (Kd.V_far (p:=⟨gb101,1,none⟩) (Kd.V_mono HO0_0.out (fun k_ hk=>(⟨hk,hk.1.2⟩:_∧k_ ≠ gb101))) (fun _ hk=>hk.2) (.int .i64 (wrap64 (a0_1+1)))) (fun _ hk=>⟨hk.1.1.1,⟨hk.1.1.2,hk.1.2⟩⟩)⟩
       have n1_:Aside0 ((w15.setCell ⟨gb101,1,none⟩ (.int .i64 (wrap64 (a0_1+1)))).heap[gb101]?=some (.cells #[.slice (some ad103) l0_0.length c0_0,.int .i64 (wrap64 (a0_1+1)),.bool false] 72 (0,0))):=⟨by (with_reducible repeat (first|refine qaH ?_ _|refine qaI ?_|refine qaG ?_ _));refine qaR (cs:=#[.slice (some ad103) l0_0.length c0_0,.int .i64 a0_1,.bool false]) ?_ 1 _ rfl;(with_reducible repeat (first|refine qaH ?_ _|refine qaI ?_|refine qaG ?_ _));exact BK101.out⟩
       have n2_:Aside0 ((w15.setCell ⟨gb101,1,none⟩ (.int .i64 (wrap64 (a0_1+1)))).heap[gb102]?=some (.cells #[.slice none 0 0,.int .i64 0,.bool false] 72 (0,0))):=⟨by (with_reducible repeat (first|refine qaH ?_ _|refine qaI ?_|refine qaG ?_ _));refine qbI ?_ NB102_101.out _;(with_reducible repeat (first|refine qaH ?_ _|refine qaI ?_|refine qaG ?_ _));exact BK102.out⟩
       have n3_:Aside0 (Below w.heap.size w (w15.setCell ⟨gb101,1,none⟩ (.int .i64 (wrap64 (a0_1+1))))):=⟨by repeat (first|(with_reducible first|exact HB.out|apply qaB|apply qaA|apply qaC|refine qaF ?_ GE101.out|refine qaF ?_ GE102.out)|exact HB.out)⟩
       (try clear HO0_0)
       (try clear BK101)
       (try clear BK102)
       (try clear HB)
       generalize (w15.setCell ⟨gb101,1,none⟩ (.int .i64 (wrap64 (a0_1+1))))=w18 at n0_ n1_ n2_ n3_ ⊢
       have HO0_0:=n0_
       have BK101:=n1_
       have BK102:=n2_
       have HB:=n3_
       clear n0_ n1_ n2_ n3_
       have n0_:=Aside0.mk (Kd.V_drew HO0_0.out)
       have n1_:=Aside0.mk (qaI BK101.out)
       have n2_:=Aside0.mk (qaI BK102.out)
       have n3_:=Aside0.mk (qaC HB.out)
       clear HO0_0
       clear BK101
       clear BK102
       clear HB
       have HO0_0:=n0_
       have BK101:=n1_
       have BK102:=n2_
       have HB:=n3_
       clear n0_ n1_ n2_ n3_
       have p104:0≤((ji11):Int):=of_decide_eq_true (by first|(with_reducible assumption)|assumption)
       have q104:(ji11) < (l0_0.length:Int):=of_decide_eq_true (by first|(with_reducible assumption)|assumption)
       obtain ⟨ad104,e104,hx104_0,hx104_1,hx104_2,hx104_3⟩:=at_T68 (Kd.V_reads' HO0_0.out).2.2 (ji11) p104 q104
       obtain rfl:ad103=ad104:=(by injection e104)
       replace p104:=eq_true p104
       replace q104:=eq_true q104
       refine start_ (n:=11) (S:=fun w'=>w'.cell? ⟨gb101,0,none⟩=some (.slice (some ad103) l0_0.length c0_0)∧w'.cell? ⟨gb101,1,none⟩=some (.int .i64 (wrap64 (a0_1+1)))∧w'.cell? ⟨gb101,2,none⟩=some (.bool false)∧w'.cell? (ad103.add (((ji11)).toNat * 4))=some (.int .i64 ((qaZ l0_0 (ji11)).f0))∧w'.cell? ⟨(ad103.add (((ji11)).toNat * 4)).block,(ad103.add (((ji11)).toNat * 4)).off+1,none⟩=some (.string ((qaZ l0_0 (ji11)).f1))∧w'.cell? ⟨(ad103.add (((ji11)).toNat * 4)).block,(ad103.add (((ji11)).toNat * 4)).off+2,none⟩=some (.int .i64 ((qaZ l0_0 (ji11)).f2))∧w'.cell? ⟨(ad103.add (((ji11)).toNat * 4)).block,(ad103.add (((ji11)).toNat * 4)).off+3,none⟩=some (.int .i64 ((qaZ l0_0 (ji11)).f3))) (ds:=[]) (bitsA 11 0) (by kernel_rfl) rfl rfl ⟨(qaE BK101.out 0).trans rfl,(qaE BK101.out 1).trans rfl,(qaE BK101.out 2).trans rfl,hx104_0,hx104_1,hx104_2,hx104_3⟩ (fun hHeld=>?_);refine with_tabW sawmillref37_number.tab5 sawmillref37_number.bits5 (fun HT_ HW_=>?_)
       generalize w18.drew=w19 at HO0_0 BK101 BK102 HB hx104_0 hx104_1 hx104_2 hx104_3 hHeld ⊢
       refine qbD (i:=1) (N:=some 23) (v:=?_) (a':=?_) #[false,true,false,false,false,false,false,false,false,false,false] rfl rfl (qaW HT_.out (by kernel_rfl)) (fun _ _ _ h=>h) (Or.inl ⟨by rfl,?_⟩) ?_ ?_
       rotate_left;(intro w';go_simp;with_reducible rfl);rotate_left;(simp only [Act.put,List.setIfInBounds_toArray,List.set_cons_zero,List.set_cons_succ,qaX,qaY];rfl)
       refine qbD (i:=3) (N:=some 25) (v:=?_) (a':=?_) #[false,true,false,true,false,false,false,false,false,false,false] rfl rfl (qaW HT_.out (by kernel_rfl)) (fun _ _ _ h=>h) (Or.inl ⟨by rfl,?_⟩) ?_ ?_
       rotate_left;(intro w';go_simp;with_reducible rfl);rotate_left;(simp only [Act.put,List.setIfInBounds_toArray,List.set_cons_zero,List.set_cons_succ,qaX,qaY];rfl)
       refine take_ (i:=0) (N:=some 22) (v:=?_) (a':=?_) (bitsA 11 11) rfl rfl (qcK HT_.out HW_.out (by kernel_rfl)) (fun _ _ _ h=>h) (Or.inl ⟨by rfl,?_⟩) hHeld ?_ ?_
       rotate_left;(rintro w' ⟨s0,s1,s2,s3,s4,s5,s6⟩;go_simp;with_reducible rfl);rotate_left;(simp only [Act.put,List.setIfInBounds_toArray,List.set_cons_zero,List.set_cons_succ,qaX,qaY];rfl)
       refine take_ (i:=2) (N:=some 24) (v:=?_) (a':=?_) (bitsA 11 15) rfl rfl (qcK HT_.out HW_.out (by kernel_rfl)) (fun _ _ _ h=>h) (Or.inl ⟨by rfl,?_⟩) hHeld ?_ ?_
       rotate_left;(rintro w' ⟨s0,s1,s2,s3,s4,s5,s6⟩;go_simp;with_reducible rfl);rotate_left;(simp only [Act.put,List.setIfInBounds_toArray,List.set_cons_zero,List.set_cons_succ,qaX,qaY];rfl)
       refine take_ (i:=4) (N:=some 26) (v:=?_) (a':=?_) (bitsA 11 31) rfl rfl (qcK HT_.out HW_.out (by kernel_rfl)) (fun _ _ _ h=>h) (Or.inl ⟨by rfl,?_⟩) hHeld ?_ ?_
       rotate_left;(rintro w' ⟨s0,s1,s2,s3,s4,s5,s6⟩;go_simp;with_reducible rfl);rotate_left;(simp only [Act.put,List.setIfInBounds_toArray,List.set_cons_zero,List.set_cons_succ,qaX,qaY];rfl)
       refine qbD (i:=5) (N:=some 27) (v:=?_) (a':=?_) #[true,true,true,true,true,true,false,false,false,false,false] rfl rfl (qaW HT_.out (by kernel_rfl)) (fun _ _ _ h=>h) (Or.inl ⟨by rfl,?_⟩) ?_ ?_
       rotate_left;(intro w';go_simp;with_reducible rfl);rotate_left;(simp only [Act.put,List.setIfInBounds_toArray,List.set_cons_zero,List.set_cons_succ,qaX,qaY];rfl)
       refine qbD (i:=6) (N:=some 28) (v:=?_) (a':=?_) #[true,true,true,true,true,true,true,false,false,false,false] rfl rfl (qaW HT_.out (by kernel_rfl)) (fun _ _ _ h=>h) (Or.inl ⟨by rfl,?_⟩) ?_ ?_
       rotate_left;(intro w';go_simp;with_reducible rfl);rotate_left;(simp only [Act.put,List.setIfInBounds_toArray,List.set_cons_zero,List.set_cons_succ,qaX,qaY];rfl)
       refine qbD (i:=7) (N:=some 29) (v:=?_) (a':=?_) #[true,true,true,true,true,true,true,true,false,false,false] rfl rfl (qaW HT_.out (by kernel_rfl)) (fun _ _ _ h=>h) (Or.inl ⟨by rfl,?_⟩) ?_ ?_
       rotate_left;(intro w';go_simp;with_reducible rfl);rotate_left;(simp only [Act.put,List.setIfInBounds_toArray,List.set_cons_zero,List.set_cons_succ,qaX,qaY];rfl)
       refine take_ (i:=8) (N:=some 30) (v:=?_) (a':=?_) (bitsA 11 511) rfl rfl (qcK HT_.out HW_.out (by kernel_rfl)) (fun _ _ _ h=>h) (Or.inl ⟨by rfl,?_⟩) hHeld ?_ ?_
       rotate_left;(rintro w' ⟨s0,s1,s2,s3,s4,s5,s6⟩;go_simp;with_reducible rfl);rotate_left;(simp only [Act.put,List.setIfInBounds_toArray,List.set_cons_zero,List.set_cons_succ,qaX,qaY];rfl)
       refine one_ (i:=9) (N:=none) (bitsA 11 1023) rfl rfl (one_of HT_.out (by kernel_rfl)) (by decide) (fun K hK=>?_)
       have hs20:w19.cell? ⟨gb102,0,none⟩=some (.slice none 0 0):=(qaE BK102.out 0).trans rfl
       have hfs20:=qaD BK102.out 0
       have hns20_0:=NB101_102.out
       have hms20_0:=NB102_101.out
       have hs21:w19.cell? ⟨gb102,1,none⟩=some (.int .i64 0):=(qaE BK102.out 1).trans rfl
       have hfs21:=qaD BK102.out 1
       have hns21_0:=NB101_102.out
       have hms21_0:=NB102_101.out
       have hs22:w19.cell? ⟨gb102,2,none⟩=some (.bool false):=(qaE BK102.out 2).trans rfl
       have hfs22:=qaD BK102.out 2
       have hns22_0:=NB101_102.out
       have hms22_0:=NB102_101.out
       refine skip_ (w1:=?_) (by rfl) rfl ?_ ?_
       rotate_left
       ·go_simp
        rfl
       refine hK.out _ _ ⟨((qbO (p:=⟨gb102,_,none⟩) NB101_102.out _).trans (((qbO (p:=⟨gb102,_,none⟩) NB101_102.out _).trans (((qbO (p:=⟨gb102,_,none⟩) NB101_102.out _).trans (hHeld.1)))))),((qbO (p:=⟨gb102,_,none⟩) NB101_102.out _).trans (((qbO (p:=⟨gb102,_,none⟩) NB101_102.out _).trans (((qbO (p:=⟨gb102,_,none⟩) NB101_102.out _).trans (hHeld.2.1)))))),((qbO (p:=⟨gb102,_,none⟩) NB101_102.out _).trans (((qbO (p:=⟨gb102,_,none⟩) NB101_102.out _).trans (((qbO (p:=⟨gb102,_,none⟩) NB101_102.out _).trans (hHeld.2.2.1)))))),((qbO (p:=⟨gb102,_,none⟩) (by first|exact Kd.own_blk (qbM HO0_0.out (by have h1:=of_decide_eq_true c8b0;have h2:=of_decide_eq_true c9b0;omega) (by decide) (fun _ hk=>hk.2.2))|(rw [qaT];exact Kd.own_blk (qbM HO0_0.out (by have h1:=of_decide_eq_true c8b0;have h2:=of_decide_eq_true c9b0;omega) (by decide) (fun _ hk=>hk.2.2)))|(show (Addr.add _ _).block ≠ _;rw [qaT];exact Kd.own_blk (qbM HO0_0.out (by have h1:=of_decide_eq_true c8b0;have h2:=of_decide_eq_true c9b0;omega) (by decide) (fun _ hk=>hk.2.2)))|(dsimp only;exact Kd.own_blk (qbM HO0_0.out (by have h1:=of_decide_eq_true c8b0;have h2:=of_decide_eq_true c9b0;omega) (by decide) (fun _ hk=>hk.2.2)))) _).trans (((qbO (p:=⟨gb102,_,none⟩) (by first|exact Kd.own_blk (qbM HO0_0.out (by have h1:=of_decide_eq_true c8b0;have h2:=of_decide_eq_true c9b0;omega) (by decide) (fun _ hk=>hk.2.2))|(rw [qaT];exact Kd.own_blk (qbM HO0_0.out (by have h1:=of_decide_eq_true c8b0;have h2:=of_decide_eq_true c9b0;omega) (by decide) (fun _ hk=>hk.2.2)))|(show (Addr.add _ _).block ≠ _;rw [qaT];exact Kd.own_blk (qbM HO0_0.out (by have h1:=of_decide_eq_true c8b0;have h2:=of_decide_eq_true c9b0;omega) (by decide) (fun _ hk=>hk.2.2)))|(dsimp only;exact Kd.own_blk (qbM HO0_0.out (by have h1:=of_decide_eq_true c8b0;have h2:=of_decide_eq_true c9b0;omega) (by decide) (fun _ hk=>hk.2.2)))) _).trans (((qbO (p:=⟨gb102,_,none⟩) (by first|exact Kd.own_blk (qbM HO0_0.out (by have h1:=of_decide_eq_true c8b0;have h2:=of_decide_eq_true c9b0;omega) (by decide) (fun _ hk=>hk.2.2))|(rw [qaT];exact Kd.own_blk (qbM HO0_0.out (by have h1:=of_decide_eq_true c8b0;have h2:=of_decide_eq_true c9b0;omega) (by decide) (fun _ hk=>hk.2.2)))|(show (Addr.add _ _).block ≠ _;rw [qaT];exact Kd.own_blk (qbM HO0_0.out (by have h1:=of_decide_eq_true c8b0;have h2:=of_decide_eq_true c9b0;omega) (by decide) (fun _ hk=>hk.2.2)))|(dsimp only;exact Kd.own_blk (qbM HO0_0.out (by have h1:=of_decide_eq_true c8b0;have h2:=of_decide_eq_true c9b0;omega) (by decide) (fun _ hk=>hk.2.2)))) _).trans (hHeld.2.2.2.1)))))),((qbO (p:=⟨gb102,_,none⟩) (by first|exact Kd.own_blk (qbM HO0_0.out (by have h1:=of_decide_eq_true c8b0;have h2:=of_decide_eq_true c9b0;omega) (by decide) (fun _ hk=>hk.2.2))|(rw [qaT];exact Kd.own_blk (qbM HO0_0.out (by have h1:=of_decide_eq_true c8b0;have h2:=of_decide_eq_true c9b0;omega) (by decide) (fun _ hk=>hk.2.2)))|(show (Addr.add _ _).block ≠ _;rw [qaT];exact Kd.own_blk (qbM HO0_0.out (by have h1:=of_decide_eq_true c8b0;have h2:=of_decide_eq_true c9b0;omega) (by decide) (fun _ hk=>hk.2.2)))|(dsimp only;exact Kd.own_blk (qbM HO0_0.out (by have h1:=of_decide_eq_true c8b0;have h2:=of_decide_eq_true c9b0;omega) (by decide) (fun _ hk=>hk.2.2)))) _).trans (((qbO (p:=⟨gb102,_,none⟩) (by first|exact Kd.own_blk (qbM HO0_0.out (by have h1:=of_decide_eq_true c8b0;have h2:=of_decide_eq_true c9b0;omega) (by decide) (fun _ hk=>hk.2.2))|(rw [qaT];exact Kd.own_blk (qbM HO0_0.out (by have h1:=of_decide_eq_true c8b0;have h2:=of_decide_eq_true c9b0;omega) (by decide) (fun _ hk=>hk.2.2)))|(show (Addr.add _ _).block ≠ _;rw [qaT];exact Kd.own_blk (qbM HO0_0.out (by have h1:=of_decide_eq_true c8b0;have h2:=of_decide_eq_true c9b0;omega) (by decide) (fun _ hk=>hk.2.2)))|(dsimp only;exact Kd.own_blk (qbM HO0_0.out (by have h1:=of_decide_eq_true c8b0;have h2:=of_decide_eq_true c9b0;omega) (by decide) (fun _ hk=>hk.2.2)))) _).trans (((qbO (p:=⟨gb102,_,none⟩) (by first|exact Kd.own_blk (qbM HO0_0.out (by have h1:=of_decide_eq_true c8b0;have h2:=of_decide_eq_true c9b0;omega) (by decide) (fun _ hk=>hk.2.2))|(rw [qaT];exact Kd.own_blk (qbM HO0_0.out (by have h1:=of_decide_eq_true c8b0;have h2:=of_decide_eq_true c9b0;omega) (by decide) (fun _ hk=>hk.2.2)))|(show (Addr.add _ _).block ≠ _;rw [qaT];exact Kd.own_blk (qbM HO0_0.out (by have h1:=of_decide_eq_true c8b0;have h2:=of_decide_eq_true c9b0;omega) (by decide) (fun _ hk=>hk.2.2)))|(dsimp only;exact Kd.own_blk (qbM HO0_0.out (by have h1:=of_decide_eq_true c8b0;have h2:=of_decide_eq_true c9b0;omega) (by decide) (fun _ hk=>hk.2.2)))) _).trans (hHeld.2.2.2.2.1)))))),((qbO (p:=⟨gb102,_,none⟩) (by first|exact Kd.own_blk (qbM HO0_0.out (by have h1:=of_decide_eq_true c8b0;have h2:=of_decide_eq_true c9b0;omega) (by decide) (fun _ hk=>hk.2.2))|(rw [qaT];exact Kd.own_blk (qbM HO0_0.out (by have h1:=of_decide_eq_true c8b0;have h2:=of_decide_eq_true c9b0;omega) (by decide) (fun _ hk=>hk.2.2)))|(show (Addr.add _ _).block ≠ _;rw [qaT];exact Kd.own_blk (qbM HO0_0.out (by have h1:=of_decide_eq_true c8b0;have h2:=of_decide_eq_true c9b0;omega) (by decide) (fun _ hk=>hk.2.2)))|(dsimp only;exact Kd.own_blk (qbM HO0_0.out (by have h1:=of_decide_eq_true c8b0;have h2:=of_decide_eq_true c9b0;omega) (by decide) (fun _ hk=>hk.2.2)))) _).trans (((qbO (p:=⟨gb102,_,none⟩) (by first|exact Kd.own_blk (qbM HO0_0.out (by have h1:=of_decide_eq_true c8b0;have h2:=of_decide_eq_true c9b0;omega) (by decide) (fun _ hk=>hk.2.2))|(rw [qaT];exact Kd.own_blk (qbM HO0_0.out (by have h1:=of_decide_eq_true c8b0;have h2:=of_decide_eq_true c9b0;omega) (by decide) (fun _ hk=>hk.2.2)))|(show (Addr.add _ _).block ≠ _;rw [qaT];exact Kd.own_blk (qbM HO0_0.out (by have h1:=of_decide_eq_true c8b0;have h2:=of_decide_eq_true c9b0;omega) (by decide) (fun _ hk=>hk.2.2)))|(dsimp only;exact Kd.own_blk (qbM HO0_0.out (by have h1:=of_decide_eq_true c8b0;have h2:=of_decide_eq_true c9b0;omega) (by decide) (fun _ hk=>hk.2.2)))) _).trans (((qbO (p:=⟨gb102,_,none⟩) (by first|exact Kd.own_blk (qbM HO0_0.out (by have h1:=of_decide_eq_true c8b0;have h2:=of_decide_eq_true c9b0;omega) (by decide) (fun _ hk=>hk.2.2))|(rw [qaT];exact Kd.own_blk (qbM HO0_0.out (by have h1:=of_decide_eq_true c8b0;have h2:=of_decide_eq_true c9b0;omega) (by decide) (fun _ hk=>hk.2.2)))|(show (Addr.add _ _).block ≠ _;rw [qaT];exact Kd.own_blk (qbM HO0_0.out (by have h1:=of_decide_eq_true c8b0;have h2:=of_decide_eq_true c9b0;omega) (by decide) (fun _ hk=>hk.2.2)))|(dsimp only;exact Kd.own_blk (qbM HO0_0.out (by have h1:=of_decide_eq_true c8b0;have h2:=of_decide_eq_true c9b0;omega) (by decide) (fun _ hk=>hk.2.2)))) _).trans (hHeld.2.2.2.2.2.1)))))),((qbO (p:=⟨gb102,_,none⟩) (by first|exact Kd.own_blk (qbM HO0_0.out (by have h1:=of_decide_eq_true c8b0;have h2:=of_decide_eq_true c9b0;omega) (by decide) (fun _ hk=>hk.2.2))|(rw [qaT];exact Kd.own_blk (qbM HO0_0.out (by have h1:=of_decide_eq_true c8b0;have h2:=of_decide_eq_true c9b0;omega) (by decide) (fun _ hk=>hk.2.2)))|(show (Addr.add _ _).block ≠ _;rw [qaT];exact Kd.own_blk (qbM HO0_0.out (by have h1:=of_decide_eq_true c8b0;have h2:=of_decide_eq_true c9b0;omega) (by decide) (fun _ hk=>hk.2.2)))|(dsimp only;exact Kd.own_blk (qbM HO0_0.out (by have h1:=of_decide_eq_true c8b0;have h2:=of_decide_eq_true c9b0;omega) (by decide) (fun _ hk=>hk.2.2)))) _).trans (((qbO (p:=⟨gb102,_,none⟩) (by first|exact Kd.own_blk (qbM HO0_0.out (by have h1:=of_decide_eq_true c8b0;have h2:=of_decide_eq_true c9b0;omega) (by decide) (fun _ hk=>hk.2.2))|(rw [qaT];exact Kd.own_blk (qbM HO0_0.out (by have h1:=of_decide_eq_true c8b0;have h2:=of_decide_eq_true c9b0;omega) (by decide) (fun _ hk=>hk.2.2)))|(show (Addr.add _ _).block ≠ _;rw [qaT];exact Kd.own_blk (qbM HO0_0.out (by have h1:=of_decide_eq_true c8b0;have h2:=of_decide_eq_true c9b0;omega) (by decide) (fun _ hk=>hk.2.2)))|(dsimp only;exact Kd.own_blk (qbM HO0_0.out (by have h1:=of_decide_eq_true c8b0;have h2:=of_decide_eq_true c9b0;omega) (by decide) (fun _ hk=>hk.2.2)))) _).trans (((qbO (p:=⟨gb102,_,none⟩) (by first|exact Kd.own_blk (qbM HO0_0.out (by have h1:=of_decide_eq_true c8b0;have h2:=of_decide_eq_true c9b0;omega) (by decide) (fun _ hk=>hk.2.2))|(rw [qaT];exact Kd.own_blk (qbM HO0_0.out (by have h1:=of_decide_eq_true c8b0;have h2:=of_decide_eq_true c9b0;omega) (by decide) (fun _ hk=>hk.2.2)))|(show (Addr.add _ _).block ≠ _;rw [qaT];exact Kd.own_blk (qbM HO0_0.out (by have h1:=of_decide_eq_true c8b0;have h2:=of_decide_eq_true c9b0;omega) (by decide) (fun _ hk=>hk.2.2)))|(dsimp only;exact Kd.own_blk (qbM HO0_0.out (by have h1:=of_decide_eq_true c8b0;have h2:=of_decide_eq_true c9b0;omega) (by decide) (fun _ hk=>hk.2.2)))) _).trans (hHeld.2.2.2.2.2.2))))))⟩ (fun hHeld=>?_)
       clear hK K
       refine qbD (i:=10) (N:=some 3) (v:=?_) (a':=?_) #[true,true,true,true,true,true,true,true,true,true,true] rfl rfl (qaW HT_.out (by kernel_rfl)) (fun _ _ _ h=>h) (Or.inl ⟨by rfl,?_⟩) ?_ ?_
       rotate_left;(intro w';go_simp;with_reducible rfl);rotate_left;(simp only [Act.put,List.setIfInBounds_toArray,List.set_cons_zero,List.set_cons_succ,qaX,qaY];rfl)
       refine done_ (done_of HT_.out (by kernel_rfl)) ?_
       try go_wp2
       refine bodyPost_ret (qcF rfl _ _ gb102 72 #[.slice (some ad103) l0_0.length c0_0,.int .i64 (wrap64 (a0_1+1)),.bool false] (0,0) _ rfl (by (with_reducible repeat (first|refine qaH ?_ _|refine qaI ?_|refine qaG ?_ _));refine qaR (cs:=#[.slice (some ad103) l0_0.length c0_0,.int .i64 (wrap64 (a0_1+1)),.bool false]) ?_ 2 _ rfl;(with_reducible repeat (first|refine qaH ?_ _|refine qaI ?_|refine qaG ?_ _));refine qaR (cs:=#[.slice (some ad103) l0_0.length c0_0,.int .i64 0,.bool false]) ?_ 1 _ rfl;(with_reducible repeat (first|refine qaH ?_ _|refine qaI ?_|refine qaG ?_ _));refine qaR (cs:=#[.slice none 0 0,.int .i64 0,.bool false]) ?_ 0 _ rfl;(with_reducible repeat (first|refine qaH ?_ _|refine qaI ?_|refine qaG ?_ _));exact BK102.out) Tryd.underlying72 rfl (by kernel_rfl)) rfl ?_
       exact ⟨_,by first|rfl|(simp [qaL,qaM]<;>rfl)|(simp only [← hji11];first|rfl|(simp [qaL,qaM]<;>rfl))|(simp [*,qaL,qaM]<;>rfl),by (with_reducible repeat (first|apply Kd.V_alloc|apply Kd.V_drewN|apply Kd.V_drew));exact Kd.V_mono (Kd.V_far (p:=⟨gb102,2,none⟩) (Kd.V_far (p:=⟨gb102,1,none⟩) (Kd.V_far (p:=⟨gb102,0,none⟩) (Kd.V_mono HO0_0.out (fun k_ hk=>(⟨hk,hk.2.2⟩:_∧k_ ≠ gb102))) (fun _ hk=>hk.2) (.slice (some ad103) l0_0.length c0_0)) (fun _ hk=>hk.2) (.int .i64 (wrap64 (a0_1+1)))) (fun _ hk=>hk.2) (.bool false)) (fun _ hk=>hk.1.1),by repeat (first|(with_reducible first|exact HB.out|apply qaB|apply qaA|apply qaC|refine qaF ?_ GE101.out|refine qaF ?_ GE102.out)|exact HB.out)⟩
      ·rw [if_neg c13] at H
       exact absurd H (by simp)
     ·rw [if_neg c12] at H
      exact absurd H (by simp)
    ·rw [if_neg c10] at H
     have c10b0:(((qaZ l0_0 a0_1).f0) == 2)=false:=beq_eq_false_iff_ne.mpr c10
     have c10b1:(((qaZ l0_0 a0_1).f0) != 2)=true:=bne_iff_ne.mpr c10
     simp only [Option.some.injEq,Prod.mk.injEq] at H
     obtain ⟨rfl,rfl,rfl,rfl⟩:=H
     go_enter Tryd.func58,Tryd.ntmps58
     go_wp2_with (first|((with_reducible refine qbE (N:=1) rfl ?_);refine qbC ?hg (N:=1) ?hd (cs:=#[.slice A0_0 l0_0.length c0_0,.int .i64 a0_1,.bool false]) (t:=72) ?hr ?_;(case hd=>rfl);(case hg=>rfl);(case hr=>first|(go_simp;done)|(go_simp;rfl));intro gb101 hg w23 hbox hb;have n0_:=Aside0.mk (Kd.V_below (Kd.V_elderB (by (with_reducible repeat (first|apply Kd.V_alloc|apply Kd.V_drewN|apply Kd.V_drew));exact HO0_0.out) gb101 (Nat.le_of_eq hg.symm)) hb);have n1_:=Aside0.mk (qaN (by repeat (first|(with_reducible first|exact HB.out|apply qaB|apply qaA|apply qaC)|exact HB.out)) hb);have n2_:=Aside0.mk (hbox);have n3_:=Aside0.mk ((by rw [hg];exact (qaK (by repeat (first|(with_reducible first|exact HB.out|apply qaB|apply qaA|apply qaC)|exact HB.out))):w.heap.size≤gb101));have n4_:=Aside0.mk ((by rw [hg];exact (qaK (by repeat (first|(with_reducible first|exact HB.out|apply qaB|apply qaA|apply qaC)|exact HB.out))):w.heap.size≤gb101));clear HO0_0;clear HB;have HO0_0:=n0_;have HB:=n1_;have BK101:=n2_;have GW101:=n3_;have GE101:=n4_;clear n0_ n1_ n2_ n3_ n4_;clear hb hbox hg)|((with_reducible refine qbE (N:=2) rfl ?_);refine qbC ?hg (N:=2) ?hd (cs:=#[.slice none 0 0,.int .i64 0,.bool false]) (t:=72) ?hr ?_;(case hd=>rfl);(case hg=>rfl);(case hr=>first|(go_simp;done)|(go_simp;rfl));intro gb102 hg w24 hbox hb;have n0_:=Aside0.mk (Kd.V_below (Kd.V_elderB (by (with_reducible repeat (first|apply Kd.V_alloc|apply Kd.V_drewN|apply Kd.V_drew));exact HO0_0.out) gb102 (Nat.le_of_eq hg.symm)) hb);have n1_:=Aside0.mk (qaS (g:=gb101) (o:=.cells #[.slice A0_0 l0_0.length c0_0,.int .i64 a0_1,.bool false] 72 (0,0)) (by (with_reducible repeat (first|refine qaH ?_ _|refine qaI ?_|refine qaG ?_ _));exact BK101.out) hb);have n2_:=Aside0.mk (qaN (by repeat (first|(with_reducible first|exact HB.out|apply qaB|apply qaA|apply qaC|refine qaF ?_ GE101.out)|exact HB.out)) hb);have n3_:=Aside0.mk (hbox);have n4_:=Aside0.mk ((by rw [hg];exact (qaK (by repeat (first|(with_reducible first|exact HB.out|apply qaB|apply qaA|apply qaC|refine qaF ?_ GE101.out)|exact HB.out))):w.heap.size≤gb102));have n5_:=Aside0.mk ((by rw [hg];exact (qaK (by repeat (first|(with_reducible first|exact HB.out|apply qaB|apply qaA|apply qaC|refine qaF ?_ GE101.out)|exact HB.out))):w.heap.size≤gb102));have n6_:=Aside0.mk ((by rw [hg];exact Nat.ne_of_lt (qbF (g:=gb101) (o:=.cells #[.slice A0_0 l0_0.length c0_0,.int .i64 a0_1,.bool false] 72 (0,0)) (by (with_reducible repeat (first|refine qaH ?_ _|refine qaI ?_|refine qaG ?_ _));exact BK101.out)):gb101 ≠ gb102));have n7_:=Aside0.mk ((by rw [hg];exact Nat.ne_of_gt (qbF (g:=gb101) (o:=.cells #[.slice A0_0 l0_0.length c0_0,.int .i64 a0_1,.bool false] 72 (0,0)) (by (with_reducible repeat (first|refine qaH ?_ _|refine qaI ?_|refine qaG ?_ _));exact BK101.out)):gb102 ≠ gb101));clear HO0_0;clear BK101;clear HB;have HO0_0:=n0_;have BK101:=n1_;have HB:=n2_;have BK102:=n3_;have GW102:=n4_;have GE102:=n5_;have NB101_102:=n6_;have NB102_101:=n7_;clear n0_ n1_ n2_ n3_ n4_ n5_ n6_ n7_;clear hb hbox hg;have hnb25:=NB101_102.out;have hnc25:=NB102_101.out;have hcz26_0:w24.cell? ⟨gb101,0,none⟩=some (.slice A0_0 l0_0.length c0_0):=(qaE BK101.out 0).trans rfl;have hcz26_1:w24.cell? ⟨gb101,1,none⟩=some (.int .i64 a0_1):=(qaE BK101.out 1).trans rfl;have hcz26_2:w24.cell? ⟨gb101,2,none⟩=some (.bool false):=(qaE BK101.out 2).trans rfl;have hfz26_0:=qaD BK101.out 0;have hfz26_1:=qaD BK101.out 1;have hfz26_2:=qaD BK101.out 2;have p103:0≤(a0_1:Int):=of_decide_eq_true (by first|(with_reducible assumption)|assumption);have q103:a0_1 < (l0_0.length:Int):=of_decide_eq_true (by first|(with_reducible assumption)|assumption);obtain ⟨ad103,e103,hx103_0,hx103_1,hx103_2,hx103_3⟩:=at_T68 (Kd.V_reads' HO0_0.out).2.2 a0_1 p103 q103;cases e103;replace p103:=eq_true p103;replace q103:=eq_true q103;have hcz27_0:w24.cell? ⟨gb102,0,none⟩=some (.slice none 0 0):=(qaE BK102.out 0).trans rfl;have hcz27_1:w24.cell? ⟨gb102,1,none⟩=some (.int .i64 0):=(qaE BK102.out 1).trans rfl;have hcz27_2:w24.cell? ⟨gb102,2,none⟩=some (.bool false):=(qaE BK102.out 2).trans rfl;have hfz27_0:=qaD BK102.out 0;have hfz27_1:=qaD BK102.out 1;have hfz27_2:=qaD BK102.out 2))
     refine bodyPost_ret (qcF rfl _ _ gb102 72 #[.slice (some ad103) l0_0.length c0_0,.int .i64 a0_1,.bool true] (0,0) _ rfl (by (with_reducible repeat (first|refine qaH ?_ _|refine qaI ?_|refine qaG ?_ _));refine qaR (cs:=#[.slice (some ad103) l0_0.length c0_0,.int .i64 a0_1,.bool false]) ?_ 2 _ rfl;(with_reducible repeat (first|refine qaH ?_ _|refine qaI ?_|refine qaG ?_ _));refine qaR (cs:=#[.slice (some ad103) l0_0.length c0_0,.int .i64 0,.bool false]) ?_ 1 _ rfl;(with_reducible repeat (first|refine qaH ?_ _|refine qaI ?_|refine qaG ?_ _));refine qaR (cs:=#[.slice none 0 0,.int .i64 0,.bool false]) ?_ 0 _ rfl;(with_reducible repeat (first|refine qaH ?_ _|refine qaI ?_|refine qaG ?_ _));refine qbI ?_ NB102_101.out _;(with_reducible repeat (first|refine qaH ?_ _|refine qaI ?_|refine qaG ?_ _));exact BK102.out) Tryd.underlying72 rfl (by kernel_rfl)) rfl ?_
     exact ⟨_,by first|rfl|(simp [qaL,qaM]<;>rfl)|(simp [*,qaL,qaM]<;>rfl),by (with_reducible repeat (first|apply Kd.V_alloc|apply Kd.V_drewN|apply Kd.V_drew));exact Kd.V_mono (Kd.V_far (p:=⟨gb102,2,none⟩) (Kd.V_far (p:=⟨gb102,1,none⟩) (Kd.V_far (p:=⟨gb102,0,none⟩) (Kd.V_far (p:=⟨gb101,2,none⟩) (Kd.V_mono (Kd.V_mono HO0_0.out (fun k_ hk=>(⟨hk,hk.1.2⟩:_∧k_ ≠ gb101))) (fun k_ hk=>(⟨hk,hk.1.2⟩:_∧k_ ≠ gb102))) (fun _ hk=>hk.1.2) (.bool true)) (fun _ hk=>hk.2) (.slice (some ad103) l0_0.length c0_0)) (fun _ hk=>hk.2) (.int .i64 a0_1)) (fun _ hk=>hk.2) (.bool true)) (fun _ hk=>hk.1.1.1.1),by repeat (first|(with_reducible first|exact HB.out|apply qaB|apply qaA|apply qaC|refine qaF ?_ GE101.out|refine qaF ?_ GE102.out)|exact HB.out)⟩
   ·rw [if_neg c9] at H
    exact absurd H (by simp)
  ·rw [if_neg c8] at H
   exact absurd H (by simp)
end Go.Proofs.YtehdmplngmbnnaaDoor.P
namespace Go.Proofs.YtehdmplngmbnnaaDoor.P
open Go.RowKit Go.Proofs.YtehdmplngmbnnaaDoorW.PrintWords Go.Proofs.YtehdmplngmbnnaaDoorW.PrintLast Go.Proofs.YtehdmplngmbnnaaDoorW.PrintMore
attribute [local go_sem] qbV qbW qcC qcD qbQ qbR qbX qbY
attribute [local go_sem] qbL
set_option linter.unusedVariables false
set_option linter.unusedSimpArgs false
def sawmillref37_part.j0:Nat→Bool→List (S68)→Int→Bool→Option ((List (S68)) × Int × Bool × Int)
 | 0,_,_,_,_=>none
 | k+1,x13,x102000,x102001,x102002=>if x13=true then (some (x102000,x102001,x102002,0)) else (if 0≤(wrap64 (x102001+1)) then (if (wrap64 (x102001+1)) < (x102000.length:Int) then (if ((qaZ x102000 (wrap64 (x102001+1))).f0)=2 then (if ((qaZ x102000 (wrap64 (x102001+1))).f2)=0 then (some (x102000,wrap64 (x102001+1),true,0)) else ((sawmillref37_number.f x102000 (wrap64 (x102001+1)) x102002).bind fun bt106=>(some (bt106.1,bt106.2.1,bt106.2.2.1,bt106.2.2.2)))) else ((sawmillref37_number.f x102000 (wrap64 (x102001+1)) x102002).bind fun bt112=>(some (bt112.1,bt112.2.1,bt112.2.2.1,bt112.2.2.2)))) else (none)) else (none))
def sawmillref37_part.f (k:Nat) (l0_0:List (S68)) (a0_1:Int) (a0_2:Bool) (a1:ByteArray):Option ((List (S68)) × Int × Bool × Int):=if a0_2=true then (sawmillref37_part.j0 k true l0_0 a0_1 a0_2) else ((sawmillref37_is.f l0_0 a0_1 a0_2 1 a1).bind fun t103=>(sawmillref37_part.j0 k (!t103) l0_0 a0_1 a0_2))
set_option maxHeartbeats 8000000 in
set_option maxRecDepth 100000 in
theorem sawmillref37_part.calls (k:Nat) (P0_0_:Nat→Prop) (A0_0:Option Addr) (c0_0:Nat) (l0_0:List (S68)) (a0_1:Int) (a0_2:Bool) (a1:ByteArray) (r1:List (S68)) (r2:Int) (r3:Bool) (r4:Int) (w:World) (hs0_0:Kd.V k68 68 w w.heap.size (fun k_=>P0_0_ k_) (.slice A0_0 l0_0.length c0_0) l0_0) (h:sawmillref37_part.f k l0_0 a0_1 a0_2 a1=some (r1,r2,r3,r4)) :
  Calls Tryd.prog 69 #[.agg #[.slice A0_0 l0_0.length c0_0,.int .i64 a0_1,.bool a0_2],.string a1] w fun e w'=>∃ v0_:Value,e=.returned (.tuple #[.agg #[v0_,.int .i64 r2,.bool r3],.int .i64 r4])∧Kd.V k68 68 w' w.heap.size (fun k_=>(P0_0_ k_ ∨ w.heap.size≤k_)) v0_ r1∧Below w.heap.size w w':=by
 have hu72:=Tryd.underlying72
 have HO0_0:=Aside0.mk (show Kd.V k68 68 w w.heap.size (fun k_=>(P0_0_ k_ ∨ w.heap.size≤k_)) (.slice A0_0 l0_0.length c0_0) l0_0 from Kd.V_mono hs0_0 (fun k_ hk=>.inl hk))
 have HB:=Aside0.mk (Below.refl w.heap.size w)
 have H:(if a0_2=true then (sawmillref37_part.j0 k true l0_0 a0_1 a0_2) else ((sawmillref37_is.f l0_0 a0_1 a0_2 1 a1).bind fun t103=>(sawmillref37_part.j0 k (!t103) l0_0 a0_1 a0_2)))=some (r1,r2,r3,r4):=h
 clear h
 have HC3:=Aside0.mk H
 clear H
 go_enter Tryd.func69,Tryd.ntmps69
 go_upto_region 1 with (first|((with_reducible refine qbE (N:=2) rfl ?_);refine qbC ?hg (N:=2) ?hd (cs:=#[.slice A0_0 l0_0.length c0_0,.int .i64 a0_1,.bool a0_2]) (t:=72) ?hr ?_;(case hd=>rfl);(case hg=>rfl);(case hr=>first|(go_simp;done)|(go_simp;rfl));intro gb101 hg w4 hbox hb;have n0_:=Aside0.mk (Kd.V_below (Kd.V_elderB (by (with_reducible repeat (first|apply Kd.V_alloc|apply Kd.V_drewN|apply Kd.V_drew));exact HO0_0.out) gb101 (Nat.le_of_eq hg.symm)) hb);have n1_:=Aside0.mk (qaN (by repeat (first|(with_reducible first|exact HB.out|apply qaB|apply qaA|apply qaC)|exact HB.out)) hb);have n2_:=Aside0.mk (hbox);have n3_:=Aside0.mk ((by rw [hg];exact (qaK (by repeat (first|(with_reducible first|exact HB.out|apply qaB|apply qaA|apply qaC)|exact HB.out))):w.heap.size≤gb101));have n4_:=Aside0.mk ((by rw [hg];exact (qaK (by repeat (first|(with_reducible first|exact HB.out|apply qaB|apply qaA|apply qaC)|exact HB.out))):w.heap.size≤gb101));clear HO0_0;clear HB;have HO0_0:=n0_;have HB:=n1_;have BK101:=n2_;have GW101:=n3_;have GE101:=n4_;clear n0_ n1_ n2_ n3_ n4_;clear hb hbox hg)|((with_reducible refine qbE (N:=4) rfl ?_);refine qbC ?hg (N:=4) ?hd (cs:=#[.slice none 0 0,.int .i64 0,.bool false]) (t:=72) ?hr ?_;(case hd=>rfl);(case hg=>rfl);(case hr=>first|(go_simp;done)|(go_simp;rfl));intro gb102 hg w5 hbox hb;have n0_:=Aside0.mk (Kd.V_below (Kd.V_elderB (by (with_reducible repeat (first|apply Kd.V_alloc|apply Kd.V_drewN|apply Kd.V_drew));exact HO0_0.out) gb102 (Nat.le_of_eq hg.symm)) hb);have n1_:=Aside0.mk (qaS (g:=gb101) (o:=.cells #[.slice A0_0 l0_0.length c0_0,.int .i64 a0_1,.bool a0_2] 72 (0,0)) (by (with_reducible repeat (first|refine qaH ?_ _|refine qaI ?_|refine qaG ?_ _));exact BK101.out) hb);have n2_:=Aside0.mk (qaN (by repeat (first|(with_reducible first|exact HB.out|apply qaB|apply qaA|apply qaC|refine qaF ?_ GE101.out)|exact HB.out)) hb);have n3_:=Aside0.mk (hbox);have n4_:=Aside0.mk ((by rw [hg];exact (qaK (by repeat (first|(with_reducible first|exact HB.out|apply qaB|apply qaA|apply qaC|refine qaF ?_ GE101.out)|exact HB.out))):w.heap.size≤gb102));have n5_:=Aside0.mk ((by rw [hg];exact (qaK (by repeat (first|(with_reducible first|exact HB.out|apply qaB|apply qaA|apply qaC|refine qaF ?_ GE101.out)|exact HB.out))):w.heap.size≤gb102));have n6_:=Aside0.mk ((by rw [hg];exact Nat.ne_of_lt (qbF (g:=gb101) (o:=.cells #[.slice A0_0 l0_0.length c0_0,.int .i64 a0_1,.bool a0_2] 72 (0,0)) (by (with_reducible repeat (first|refine qaH ?_ _|refine qaI ?_|refine qaG ?_ _));exact BK101.out)):gb101 ≠ gb102));have n7_:=Aside0.mk ((by rw [hg];exact Nat.ne_of_gt (qbF (g:=gb101) (o:=.cells #[.slice A0_0 l0_0.length c0_0,.int .i64 a0_1,.bool a0_2] 72 (0,0)) (by (with_reducible repeat (first|refine qaH ?_ _|refine qaI ?_|refine qaG ?_ _));exact BK101.out)):gb102 ≠ gb101));clear HO0_0;clear BK101;clear HB;have HO0_0:=n0_;have BK101:=n1_;have HB:=n2_;have BK102:=n3_;have GW102:=n4_;have GE102:=n5_;have NB101_102:=n6_;have NB102_101:=n7_;clear n0_ n1_ n2_ n3_ n4_ n5_ n6_ n7_;clear hb hbox hg))
 (try simp only [Act.put,List.setIfInBounds_toArray,List.set_cons_zero,List.set_cons_succ])
 go_cut [13] (fun v13 wc=>∃ (kq:Nat) (x13_2:Bool),v13=.bool x13_2∧Aside0 (sawmillref37_part.j0 kq x13_2 l0_0 a0_1 a0_2=some (r1,r2,r3,r4))∧Aside0 (kq≤k)∧Aside0 (Kd.V k68 68 wc w.heap.size (fun k_=>(P0_0_ k_ ∨ w.heap.size≤k_)∧k_ ≠ gb101∧k_ ≠ gb102) (.slice A0_0 l0_0.length c0_0) l0_0)∧Aside0 (wc.heap[gb101]?=some (.cells #[(.slice A0_0 l0_0.length c0_0),.int .i64 a0_1,.bool a0_2] 72 (0,0)))∧Aside0 (wc.heap[gb102]?=some (.cells #[(.slice none 0 0),.int .i64 0,.bool false] 72 (0,0)))∧Aside0 (Below w.heap.size w wc))
 case first =>
  have H:=HC3.out
  clear HC3
  by_cases c6:a0_2=true
  ·subst c6
   have H1:(sawmillref37_part.j0 k true l0_0 a0_1 true)=some (r1,r2,r3,r4):=by rw [if_pos rfl] at H;exact H
   clear H
   have H:=H1
   clear H1
   have H':=Aside0.mk H
   clear H
   have hnb7:=NB101_102.out
   have hnc7:=NB102_101.out
   have hcz8_0:w5.cell? ⟨gb101,0,none⟩=some (.slice A0_0 l0_0.length c0_0):=(qaE BK101.out 0).trans rfl
   have hcz8_1:w5.cell? ⟨gb101,1,none⟩=some (.int .i64 a0_1):=(qaE BK101.out 1).trans rfl
   have hcz8_2:w5.cell? ⟨gb101,2,none⟩=some (.bool true):=(qaE BK101.out 2).trans rfl
   have hfz8_0:=qaD BK101.out 0
   have hfz8_1:=qaD BK101.out 1
   have hfz8_2:=qaD BK101.out 2
   go_wp2
   go_meet
   case rel=>exact ⟨_,(true),(by first|rfl|(simp;done)|(simp [*];done)),H',⟨by first|omega|exact Nat.le_refl _⟩,⟨by (with_reducible repeat (first|apply Kd.V_alloc|apply Kd.V_drewN|apply Kd.V_drew));exact Kd.V_mono HO0_0.out (fun _ hk=>⟨hk.1.1,⟨hk.1.2,hk.2⟩⟩)⟩,⟨by (with_reducible repeat (first|refine qaH ?_ _|refine qaI ?_|refine qaG ?_ _));exact BK101.out⟩,⟨by (with_reducible repeat (first|refine qaH ?_ _|refine qaI ?_|refine qaG ?_ _));exact BK102.out⟩,⟨by repeat (first|(with_reducible first|exact HB.out|apply qaB|apply qaA|apply qaC|refine qaF ?_ GE101.out|refine qaF ?_ GE102.out)|exact HB.out)⟩⟩
  ·replace c6:=Bool.eq_false_iff.mpr c6
   subst c6
   have H1:((sawmillref37_is.f l0_0 a0_1 false 1 a1).bind fun t103=>(sawmillref37_part.j0 k (!t103) l0_0 a0_1 false))=some (r1,r2,r3,r4):=by rw [if_neg (show ¬ (false=true) by decide)] at H;exact H
   clear H
   have H:=H1
   clear H1
   replace H:=Option.bind_eq_some_iff.mp H
   obtain ⟨t103,A90,H⟩:=H
   replace H:(sawmillref37_part.j0 k (!t103) l0_0 a0_1 false)=some (r1,r2,r3,r4):=H
   have A9:=Aside0.mk A90
   clear A90
   have H':=Aside0.mk H
   clear H
   have hnb10:=NB101_102.out
   have hnc10:=NB102_101.out
   have hcz11_0:w5.cell? ⟨gb101,0,none⟩=some (.slice A0_0 l0_0.length c0_0):=(qaE BK101.out 0).trans rfl
   have hcz11_1:w5.cell? ⟨gb101,1,none⟩=some (.int .i64 a0_1):=(qaE BK101.out 1).trans rfl
   have hcz11_2:w5.cell? ⟨gb101,2,none⟩=some (.bool false):=(qaE BK101.out 2).trans rfl
   have hfz11_0:=qaD BK101.out 0
   have hfz11_1:=qaD BK101.out 1
   have hfz11_2:=qaD BK101.out 2
   go_wp2_with (first|(go_at_call 59;(with_reducible refine (sawmillref37_is.calls _ _ l0_0 a0_1 false 1 a1 t103 _ ?side1 ?side2 A9.out).mono ?_);(case side1=>repeat (first|exact (Kd.V_reads' HO0_0.out).2.2|(with_reducible refine Kd.C_alloc ?_ _)|(with_reducible refine Kd.C_drewN ?_ _)|(with_reducible refine Kd.C_drew ?_)));(case side2=>exact (Kd.V_reads' HO0_0.out).2.1);rintro e w12 ⟨rfl,hb⟩;have n0_:=Aside0.mk (Kd.V_below (by (with_reducible repeat (first|apply Kd.V_alloc|apply Kd.V_drewN|apply Kd.V_drew));exact HO0_0.out) hb);have n1_:=Aside0.mk (qaS (g:=gb101) (o:=.cells #[.slice A0_0 l0_0.length c0_0,.int .i64 a0_1,.bool false] 72 (0,0)) (by (with_reducible repeat (first|refine qaH ?_ _|refine qaI ?_|refine qaG ?_ _));exact BK101.out) hb);have n2_:=Aside0.mk (qaS (g:=gb102) (o:=.cells #[.slice none 0 0,.int .i64 0,.bool false] 72 (0,0)) (by (with_reducible repeat (first|refine qaH ?_ _|refine qaI ?_|refine qaG ?_ _));exact BK102.out) hb);have n3_:=Aside0.mk (qaN (by repeat (first|(with_reducible first|exact HB.out|apply qaB|apply qaA|apply qaC|refine qaF ?_ GE101.out|refine qaF ?_ GE102.out)|exact HB.out)) hb);clear HO0_0;clear BK101;clear BK102;clear HB;have HO0_0:=n0_;have BK101:=n1_;have BK102:=n2_;have HB:=n3_;clear n0_ n1_ n2_ n3_;(try clear hb);(try clear hb2);(try clear hk);(try clear hi)))
   go_meet
   case rel=>exact ⟨_,(!t103),(by first|rfl|(simp;done)|(simp [*];done)),H',⟨by first|omega|exact Nat.le_refl _⟩,⟨by (with_reducible repeat (first|apply Kd.V_alloc|apply Kd.V_drewN|apply Kd.V_drew));exact Kd.V_mono HO0_0.out (fun _ hk=>⟨hk.1.1,⟨hk.1.2,hk.2⟩⟩)⟩,⟨by (with_reducible repeat (first|refine qaH ?_ _|refine qaI ?_|refine qaG ?_ _));exact BK101.out⟩,⟨by (with_reducible repeat (first|refine qaH ?_ _|refine qaI ?_|refine qaG ?_ _));exact BK102.out⟩,⟨by repeat (first|(with_reducible first|exact HB.out|apply qaB|apply qaA|apply qaC|refine qaF ?_ GE101.out|refine qaF ?_ GE102.out)|exact HB.out)⟩⟩
 case rest =>
  clear HC3
  try clear c1
  try clear p2
  try clear c6
  try clear c7
  try clear c10
  try clear hcz11_0
  try clear hcz11_1
  try clear hcz11_2
  try clear hcz8_0
  try clear hcz8_1
  try clear hcz8_2
  try clear hfz11_0
  try clear hfz11_1
  try clear hfz11_2
  try clear hfz8_0
  try clear hfz8_1
  try clear hfz8_2
  obtain ⟨kq,x13_2,rfl,HA,HJ2,HO_102000,BK101,BK102,HB⟩:=hcut
  cases kq with
  | zero=>exact absurd HA.out (by simp [sawmillref37_part.j0])
  | succ kj2 =>
   have H:=HA.out
   clear HA
   simp only [sawmillref37_part.j0] at H
   by_cases c13:x13_2=true
   ·subst c13
    have H1:(some (l0_0,a0_1,a0_2,0))=some (r1,r2,r3,r4):=by rw [if_pos rfl] at H;exact H
    clear H
    have H:=H1
    clear H1
    simp only [Option.some.injEq,Prod.mk.injEq] at H
    obtain ⟨rfl,rfl,rfl,rfl⟩:=H
    have hnb14:=NB101_102.out
    have hnc14:=NB102_101.out
    have hcz15_0:wc.cell? ⟨gb101,0,none⟩=some (.slice A0_0 l0_0.length c0_0):=(qaE BK101.out 0).trans rfl
    have hcz15_1:wc.cell? ⟨gb101,1,none⟩=some (.int .i64 a0_1):=(qaE BK101.out 1).trans rfl
    have hcz15_2:wc.cell? ⟨gb101,2,none⟩=some (.bool a0_2):=(qaE BK101.out 2).trans rfl
    have hfz15_0:=qaD BK101.out 0
    have hfz15_1:=qaD BK101.out 1
    have hfz15_2:=qaD BK101.out 2
    have hcz16_0:wc.cell? ⟨gb102,0,none⟩=some (.slice none 0 0):=(qaE BK102.out 0).trans rfl
    have hcz16_1:wc.cell? ⟨gb102,1,none⟩=some (.int .i64 0):=(qaE BK102.out 1).trans rfl
    have hcz16_2:wc.cell? ⟨gb102,2,none⟩=some (.bool false):=(qaE BK102.out 2).trans rfl
    have hfz16_0:=qaD BK102.out 0
    have hfz16_1:=qaD BK102.out 1
    have hfz16_2:=qaD BK102.out 2
    go_wp2
    refine bodyPost_ret (qcF rfl _ _ gb102 72 #[.slice A0_0 l0_0.length c0_0,.int .i64 a0_1,.bool a0_2] (0,0) _ rfl (by (with_reducible repeat (first|refine qaH ?_ _|refine qaI ?_|refine qaG ?_ _));refine qaR (cs:=#[.slice A0_0 l0_0.length c0_0,.int .i64 a0_1,.bool false]) ?_ 2 _ rfl;(with_reducible repeat (first|refine qaH ?_ _|refine qaI ?_|refine qaG ?_ _));refine qaR (cs:=#[.slice A0_0 l0_0.length c0_0,.int .i64 0,.bool false]) ?_ 1 _ rfl;(with_reducible repeat (first|refine qaH ?_ _|refine qaI ?_|refine qaG ?_ _));refine qaR (cs:=#[.slice none 0 0,.int .i64 0,.bool false]) ?_ 0 _ rfl;(with_reducible repeat (first|refine qaH ?_ _|refine qaI ?_|refine qaG ?_ _));exact BK102.out) Tryd.underlying72 rfl (by kernel_rfl)) rfl ?_
    exact ⟨_,by first|rfl|(simp [qaL,qaM]<;>rfl)|(simp [*,qaL,qaM]<;>rfl),by (with_reducible repeat (first|apply Kd.V_alloc|apply Kd.V_drewN|apply Kd.V_drew));exact Kd.V_mono (Kd.V_far (p:=⟨gb102,2,none⟩) (Kd.V_far (p:=⟨gb102,1,none⟩) (Kd.V_far (p:=⟨gb102,0,none⟩) (Kd.V_mono HO_102000.out (fun k_ hk=>(⟨hk,hk.2.2⟩:_∧k_ ≠ gb102))) (fun _ hk=>hk.2) (.slice A0_0 l0_0.length c0_0)) (fun _ hk=>hk.2) (.int .i64 a0_1)) (fun _ hk=>hk.2) (.bool a0_2)) (fun _ hk=>hk.1.1),by repeat (first|(with_reducible first|exact HB.out|apply qaB|apply qaA|apply qaC|refine qaF ?_ GE101.out|refine qaF ?_ GE102.out)|exact HB.out)⟩
   ·replace c13:=Bool.eq_false_iff.mpr c13
    subst c13
    have H1:(if 0≤(wrap64 (a0_1+1)) then (if (wrap64 (a0_1+1)) < (l0_0.length:Int) then (if ((qaZ l0_0 (wrap64 (a0_1+1))).f0)=2 then (if ((qaZ l0_0 (wrap64 (a0_1+1))).f2)=0 then (some (l0_0,wrap64 (a0_1+1),true,0)) else ((sawmillref37_number.f l0_0 (wrap64 (a0_1+1)) a0_2).bind fun bt106=>(some (bt106.1,bt106.2.1,bt106.2.2.1,bt106.2.2.2)))) else ((sawmillref37_number.f l0_0 (wrap64 (a0_1+1)) a0_2).bind fun bt112=>(some (bt112.1,bt112.2.1,bt112.2.2.1,bt112.2.2.2)))) else (none)) else (none))=some (r1,r2,r3,r4):=by rw [if_neg (show ¬ (false=true) by decide)] at H;exact H
    clear H
    have H:=H1
    clear H1
    obtain ⟨ji17,hji17⟩:∃ j_:Int,(wrap64 (a0_1+1))=j_:=⟨_,rfl⟩
    replace H:(if 0≤(ji17) then (if (ji17) < (l0_0.length:Int) then (if ((qaZ l0_0 (ji17)).f0)=2 then (if ((qaZ l0_0 (ji17)).f2)=0 then (some (l0_0,ji17,true,0)) else ((sawmillref37_number.f l0_0 (ji17) a0_2).bind fun bt106=>(some (bt106.1,bt106.2.1,bt106.2.2.1,bt106.2.2.2)))) else ((sawmillref37_number.f l0_0 (ji17) a0_2).bind fun bt112=>(some (bt112.1,bt112.2.1,bt112.2.2.1,bt112.2.2.2)))) else (none)) else (none))=some (r1,r2,r3,r4):=by first|(rw [hji17] at H;exact H)|(simp only [hji17] at H ⊢;exact H)
    have hji17w:(IntKind.i64.wrap (a0_1+1))=ji17:=(qaX _).trans hji17
    by_cases c18:0≤(ji17)
    ·rw [if_pos c18] at H
     have c18b0:decide (0≤(ji17))=true:=decide_eq_true c18
     clear c18
     by_cases c19:(ji17) < (l0_0.length:Int)
     ·rw [if_pos c19] at H
      have c19b0:decide ((ji17) < (l0_0.length:Int))=true:=decide_eq_true c19
      clear c19
      by_cases c20:((qaZ l0_0 (ji17)).f0)=2
      ·rw [if_pos c20] at H
       have c20b0:(((qaZ l0_0 (ji17)).f0) == 2)=true:=beq_iff_eq.mpr c20
       have c20b1:(((qaZ l0_0 (ji17)).f0) != 2)=false:=bne_eq_false_iff_eq.mpr c20
       clear c20
       by_cases c21:((qaZ l0_0 (ji17)).f2)=0
       ·rw [if_pos c21] at H
        have c21b0:(((qaZ l0_0 (ji17)).f2) == 0)=true:=beq_iff_eq.mpr c21
        have c21b1:(((qaZ l0_0 (ji17)).f2) != 0)=false:=bne_eq_false_iff_eq.mpr c21
        clear c21
        simp only [Option.some.injEq,Prod.mk.injEq] at H
        obtain ⟨rfl,rfl,rfl,rfl⟩:=H
        have hnb22:=NB101_102.out
        have hnc22:=NB102_101.out
        have hcz23_0:wc.cell? ⟨gb101,0,none⟩=some (.slice A0_0 l0_0.length c0_0):=(qaE BK101.out 0).trans rfl
        have hcz23_1:wc.cell? ⟨gb101,1,none⟩=some (.int .i64 a0_1):=(qaE BK101.out 1).trans rfl
        have hcz23_2:wc.cell? ⟨gb101,2,none⟩=some (.bool a0_2):=(qaE BK101.out 2).trans rfl
        have hfz23_0:=qaD BK101.out 0
        have hfz23_1:=qaD BK101.out 1
        have hfz23_2:=qaD BK101.out 2
        have p104:0≤((ji17):Int):=of_decide_eq_true (by first|(with_reducible assumption)|assumption)
        have q104:(ji17) < (l0_0.length:Int):=of_decide_eq_true (by first|(with_reducible assumption)|assumption)
        obtain ⟨ad104,e104,hx104_0,hx104_1,hx104_2,hx104_3⟩:=at_T68 (Kd.V_reads' HO_102000.out).2.2 (ji17) p104 q104
        cases e104
        have hn104_0:ad104.block ≠ gb101:=Kd.own_blk (qbM HO_102000.out (by omega) (by decide) (fun _ hk=>hk.2.1))
        replace hx104_0:=(qbO (p:=⟨gb101,1,none⟩) (by first|(rw [qaT];exact hn104_0)|(show (Addr.add _ _).block ≠ _;rw [qaT];exact hn104_0)|exact hn104_0) (.int .i64 ji17)).trans hx104_0
        replace hx104_1:=(qbO (p:=⟨gb101,1,none⟩) (by first|(rw [qaT];exact hn104_0)|(show (Addr.add _ _).block ≠ _;rw [qaT];exact hn104_0)|exact hn104_0) (.int .i64 ji17)).trans hx104_1
        replace hx104_2:=(qbO (p:=⟨gb101,1,none⟩) (by first|(rw [qaT];exact hn104_0)|(show (Addr.add _ _).block ≠ _;rw [qaT];exact hn104_0)|exact hn104_0) (.int .i64 ji17)).trans hx104_2
        replace hx104_3:=(qbO (p:=⟨gb101,1,none⟩) (by first|(rw [qaT];exact hn104_0)|(show (Addr.add _ _).block ≠ _;rw [qaT];exact hn104_0)|exact hn104_0) (.int .i64 ji17)).trans hx104_3
        clear hn104_0
        replace p104:=eq_true p104
        replace q104:=eq_true q104
        have p105:0≤((ji17):Int):=of_decide_eq_true (by first|(with_reducible assumption)|assumption)
        have q105:(ji17) < (l0_0.length:Int):=of_decide_eq_true (by first|(with_reducible assumption)|assumption)
        obtain ⟨ad105,e105,hx105_0,hx105_1,hx105_2,hx105_3⟩:=at_T68 (Kd.V_reads' HO_102000.out).2.2 (ji17) p105 q105
        obtain rfl:ad104=ad105:=(by injection e105)
        have hn105_0:ad104.block ≠ gb101:=Kd.own_blk (qbM HO_102000.out (by omega) (by decide) (fun _ hk=>hk.2.1))
        replace hx105_0:=(qbO (p:=⟨gb101,1,none⟩) (by first|(rw [qaT];exact hn105_0)|(show (Addr.add _ _).block ≠ _;rw [qaT];exact hn105_0)|exact hn105_0) (.int .i64 ji17)).trans hx105_0
        replace hx105_1:=(qbO (p:=⟨gb101,1,none⟩) (by first|(rw [qaT];exact hn105_0)|(show (Addr.add _ _).block ≠ _;rw [qaT];exact hn105_0)|exact hn105_0) (.int .i64 ji17)).trans hx105_1
        replace hx105_2:=(qbO (p:=⟨gb101,1,none⟩) (by first|(rw [qaT];exact hn105_0)|(show (Addr.add _ _).block ≠ _;rw [qaT];exact hn105_0)|exact hn105_0) (.int .i64 ji17)).trans hx105_2
        replace hx105_3:=(qbO (p:=⟨gb101,1,none⟩) (by first|(rw [qaT];exact hn105_0)|(show (Addr.add _ _).block ≠ _;rw [qaT];exact hn105_0)|exact hn105_0) (.int .i64 ji17)).trans hx105_3
        clear hn105_0
        replace p105:=eq_true p105
        replace q105:=eq_true q105
        have hcz24_0:wc.cell? ⟨gb102,0,none⟩=some (.slice none 0 0):=(qaE BK102.out 0).trans rfl
        have hcz24_1:wc.cell? ⟨gb102,1,none⟩=some (.int .i64 0):=(qaE BK102.out 1).trans rfl
        have hcz24_2:wc.cell? ⟨gb102,2,none⟩=some (.bool false):=(qaE BK102.out 2).trans rfl
        have hfz24_0:=qaD BK102.out 0
        have hfz24_1:=qaD BK102.out 1
        have hfz24_2:=qaD BK102.out 2
        go_wp2
        refine bodyPost_ret (qcF rfl _ _ gb102 72 #[.slice (some ad104) l0_0.length c0_0,.int .i64 ji17,.bool true] (0,0) _ rfl (by (with_reducible repeat (first|refine qaH ?_ _|refine qaI ?_|refine qaG ?_ _));refine qaR (cs:=#[.slice (some ad104) l0_0.length c0_0,.int .i64 ji17,.bool false]) ?_ 2 _ rfl;(with_reducible repeat (first|refine qaH ?_ _|refine qaI ?_|refine qaG ?_ _));refine qaR (cs:=#[.slice (some ad104) l0_0.length c0_0,.int .i64 0,.bool false]) ?_ 1 _ rfl;(with_reducible repeat (first|refine qaH ?_ _|refine qaI ?_|refine qaG ?_ _));refine qaR (cs:=#[.slice none 0 0,.int .i64 0,.bool false]) ?_ 0 _ rfl;(with_reducible repeat (first|refine qaH ?_ _|refine qaI ?_|refine qaG ?_ _));refine qbI ?_ NB102_101.out _;(with_reducible repeat (first|refine qaH ?_ _|refine qaI ?_|refine qaG ?_ _));refine qbI ?_ NB102_101.out _;(with_reducible repeat (first|refine qaH ?_ _|refine qaI ?_|refine qaG ?_ _));exact BK102.out) Tryd.underlying72 rfl (by kernel_rfl)) rfl ?_
        exact ⟨_,by first|rfl|(simp [qaL,qaM]<;>rfl)|(simp only [← hji17];first|rfl|(simp [qaL,qaM]<;>rfl))|(simp [*,qaL,qaM]<;>rfl),by (with_reducible repeat (first|apply Kd.V_alloc|apply Kd.V_drewN|apply Kd.V_drew));exact Kd.V_mono (Kd.V_far (p:=⟨gb102,2,none⟩) (Kd.V_far (p:=⟨gb102,1,none⟩) (Kd.V_far (p:=⟨gb102,0,none⟩) (Kd.V_far (p:=⟨gb101,2,none⟩) (Kd.V_far (p:=⟨gb101,1,none⟩) (Kd.V_mono (Kd.V_mono HO_102000.out (fun k_ hk=>(⟨hk,hk.2.1⟩:_∧k_ ≠ gb101))) (fun k_ hk=>(⟨hk,hk.1.2.2⟩:_∧k_ ≠ gb102))) (fun _ hk=>hk.1.2) (.int .i64 ji17)) (fun _ hk=>hk.1.2) (.bool true)) (fun _ hk=>hk.2) (.slice (some ad104) l0_0.length c0_0)) (fun _ hk=>hk.2) (.int .i64 ji17)) (fun _ hk=>hk.2) (.bool true)) (fun _ hk=>hk.1.1.1),by repeat (first|(with_reducible first|exact HB.out|apply qaB|apply qaA|apply qaC|refine qaF ?_ GE101.out|refine qaF ?_ GE102.out)|exact HB.out)⟩
       ·rw [if_neg c21] at H
        have c21b0:(((qaZ l0_0 (ji17)).f2) == 0)=false:=beq_eq_false_iff_ne.mpr c21
        have c21b1:(((qaZ l0_0 (ji17)).f2) != 0)=true:=bne_iff_ne.mpr c21
        replace H:=Option.bind_eq_some_iff.mp H
        obtain ⟨⟨t106,t109,t110,t111⟩,A250,H⟩:=H
        replace H:(some (t106,t109,t110,t111))=some (r1,r2,r3,r4):=H
        have A25:=Aside0.mk A250
        clear A250
        simp only [Option.some.injEq,Prod.mk.injEq] at H
        obtain ⟨rfl,rfl,rfl,rfl⟩:=H
        have hnb26:=NB101_102.out
        have hnc26:=NB102_101.out
        have hcz27_0:wc.cell? ⟨gb101,0,none⟩=some (.slice A0_0 l0_0.length c0_0):=(qaE BK101.out 0).trans rfl
        have hcz27_1:wc.cell? ⟨gb101,1,none⟩=some (.int .i64 a0_1):=(qaE BK101.out 1).trans rfl
        have hcz27_2:wc.cell? ⟨gb101,2,none⟩=some (.bool a0_2):=(qaE BK101.out 2).trans rfl
        have hfz27_0:=qaD BK101.out 0
        have hfz27_1:=qaD BK101.out 1
        have hfz27_2:=qaD BK101.out 2
        go_wp2_with (first|((with_reducible refine gate_store (t:=3) (p:=18) rfl ?_);refine store_event (t:=3) (p:=18) (v:=?vo_w28) (w1:=(wc.setCell ⟨gb101,1,none⟩ (.int .i64 ji17))) ?hg ?ho ?hn ?hr ?_;(case ho=>rfl);(case hg=>rfl);(case hn=>rfl);(case hr=>first|(go_simp;done)|(go_simp;rfl));intro w28 hw;have n0_:Aside0 (Kd.V k68 68 w28 w.heap.size (fun k_=>(P0_0_ k_ ∨ w.heap.size≤k_)∧k_ ≠ gb101∧k_ ≠ gb102) (.slice A0_0 l0_0.length c0_0) l0_0):=⟨(by rw [hw];exact (by (with_reducible repeat (first|apply Kd.V_alloc|apply Kd.V_drewN|apply Kd.V_drew));exact Kd.V_mono (Kd.V_far (p:=⟨gb101,1,none⟩) (Kd.V_mono HO_102000.out (fun k_ hk=>(⟨hk,hk.2.1⟩:_∧k_ ≠ gb101))) (fun _ hk=>hk.2) (.int .i64 ji17)) (fun _ hk=>⟨hk.1.1,⟨hk.1.2.1,hk.1.2.2⟩⟩)))⟩;have n1_:Aside0 (w28.heap[gb101]?=some (.cells #[.slice A0_0 l0_0.length c0_0,.int .i64 ji17,.bool a0_2] 72 (0,0))):=⟨(by rw [hw];exact (by (with_reducible repeat (first|refine qaH ?_ _|refine qaI ?_|refine qaG ?_ _));refine qaR (cs:=#[.slice A0_0 l0_0.length c0_0,.int .i64 a0_1,.bool a0_2]) ?_ 1 _ rfl;(with_reducible repeat (first|refine qaH ?_ _|refine qaI ?_|refine qaG ?_ _));exact BK101.out))⟩;have n2_:Aside0 (w28.heap[gb102]?=some (.cells #[.slice none 0 0,.int .i64 0,.bool false] 72 (0,0))):=⟨(by rw [hw];exact (by (with_reducible repeat (first|refine qaH ?_ _|refine qaI ?_|refine qaG ?_ _));refine qbI ?_ NB102_101.out _;(with_reducible repeat (first|refine qaH ?_ _|refine qaI ?_|refine qaG ?_ _));exact BK102.out))⟩;have n3_:Aside0 (Below w.heap.size w w28):=⟨(by rw [hw];exact (by repeat (first|(with_reducible first|exact HB.out|apply qaB|apply qaA|apply qaC|refine qaF ?_ GE101.out|refine qaF ?_ GE102.out)|exact HB.out)))⟩;clear hw;clear HO_102000;clear BK101;clear BK102;clear HB;have HO_102000:=n0_;have BK101:=n1_;have BK102:=n2_;have HB:=n3_;clear n0_ n1_ n2_ n3_;have hcz29_0:w28.cell? ⟨gb101,0,none⟩=some (.slice A0_0 l0_0.length c0_0):=(qaE BK101.out 0).trans rfl;have hcz29_1:w28.cell? ⟨gb101,1,none⟩=some (.int .i64 ji17):=(qaE BK101.out 1).trans rfl;have hcz29_2:w28.cell? ⟨gb101,2,none⟩=some (.bool a0_2):=(qaE BK101.out 2).trans rfl;have hfz29_0:=qaD BK101.out 0;have hfz29_1:=qaD BK101.out 1;have hfz29_2:=qaD BK101.out 2;have p104:0≤((ji17):Int):=of_decide_eq_true (by first|(with_reducible assumption)|assumption);have q104:(ji17) < (l0_0.length:Int):=of_decide_eq_true (by first|(with_reducible assumption)|assumption);obtain ⟨ad104,e104,hx104_0,hx104_1,hx104_2,hx104_3⟩:=at_T68 (Kd.V_reads' HO_102000.out).2.2 (ji17) p104 q104;cases e104;replace p104:=eq_true p104;replace q104:=eq_true q104;have p105:0≤((ji17):Int):=of_decide_eq_true (by first|(with_reducible assumption)|assumption);have q105:(ji17) < (l0_0.length:Int):=of_decide_eq_true (by first|(with_reducible assumption)|assumption);obtain ⟨ad105,e105,hx105_0,hx105_1,hx105_2,hx105_3⟩:=at_T68 (Kd.V_reads' HO_102000.out).2.2 (ji17) p105 q105;obtain rfl:ad104=ad105:=(by injection e105);replace p105:=eq_true p105;replace q105:=eq_true q105)|((with_reducible refine qaO (f:=58) rfl ?_);refine qbG (some 40) rfl rfl Tryd.func58 (by kernel_rfl) rfl #[.agg #[.slice (some ad104) l0_0.length c0_0,.int .i64 ji17,.bool a0_2]] rfl (by (try simp only [List.map_toArray,List.map_cons,List.map_nil]);first|done|(simp only [hji17];rfl)|rfl|(simp only [List.length_drop,List.length_take];rfl)) ?_;(with_reducible refine (sawmillref37_number.calls (fun k_=>((P0_0_ k_ ∨ w.heap.size≤k_)∧(k_ ≠ gb101∧k_ ≠ gb102))) _ _ l0_0 ji17 a0_2 t106 t109 t110 t111 _ ?side1 A25.out).mono ?_);(case side1=>exact HO_102000.out);rintro e w30 ⟨v107,rfl,ho0,hb⟩;refine ⟨_,rfl,?_⟩;have n0_:=Aside0.mk (Kd.V_below (by (with_reducible repeat (first|apply Kd.V_alloc|apply Kd.V_drewN|apply Kd.V_drew));exact HO_102000.out) hb);have n1_:=Aside0.mk (Kd.V_lower (Kd.V_mono (ok':=fun k_=>(P0_0_ k_ ∨ w.heap.size≤k_)∧k_ ≠ gb101∧k_ ≠ gb102) ho0 (fun k_ hk_=>⟨Or.elim hk_ (fun hs_=>hs_.1) (fun hn_=>(.inr (Nat.le_trans (qaK (by repeat (first|(with_reducible first|exact HB.out|apply qaB|apply qaA|apply qaC|refine qaF ?_ GE101.out|refine qaF ?_ GE102.out)|exact HB.out))) hn_))),Or.elim hk_ (fun hs_=>hs_.2.1) (fun hn_=>(Kd.freshB (g:=gb101) (o:=.cells #[.slice (some ad104) l0_0.length c0_0,.int .i64 ji17,.bool a0_2] 72 (0,0)) (by (with_reducible repeat (first|refine qaH ?_ _|refine qaI ?_|refine qaG ?_ _));exact BK101.out) k_ hn_)),Or.elim hk_ (fun hs_=>hs_.2.2) (fun hn_=>(Kd.freshB (g:=gb102) (o:=.cells #[.slice none 0 0,.int .i64 0,.bool false] 72 (0,0)) (by (with_reducible repeat (first|refine qaH ?_ _|refine qaI ?_|refine qaG ?_ _));exact BK102.out) k_ hn_))⟩)) (qaK (by repeat (first|(with_reducible first|exact HB.out|apply qaB|apply qaA|apply qaC|refine qaF ?_ GE101.out|refine qaF ?_ GE102.out)|exact HB.out))));have n2_:=Aside0.mk (qaS (g:=gb101) (o:=.cells #[.slice (some ad104) l0_0.length c0_0,.int .i64 ji17,.bool a0_2] 72 (0,0)) (by (with_reducible repeat (first|refine qaH ?_ _|refine qaI ?_|refine qaG ?_ _));exact BK101.out) hb);have n3_:=Aside0.mk (qaS (g:=gb102) (o:=.cells #[.slice none 0 0,.int .i64 0,.bool false] 72 (0,0)) (by (with_reducible repeat (first|refine qaH ?_ _|refine qaI ?_|refine qaG ?_ _));exact BK102.out) hb);have n4_:=Aside0.mk (qaN (by repeat (first|(with_reducible first|exact HB.out|apply qaB|apply qaA|apply qaC|refine qaF ?_ GE101.out|refine qaF ?_ GE102.out)|exact HB.out)) hb);clear HO_102000;clear BK101;clear BK102;clear HB;have HO_102000:=n0_;have HO108:=n1_;have BK101:=n2_;have BK102:=n3_;have HB:=n4_;clear n0_ n1_ n2_ n3_ n4_;(try clear hb);(try clear hb2);(try clear hk);(try clear hi);(try clear ho0);obtain ⟨Ao31,co31,eo31⟩:=Kd.V_slice HO108.out;subst eo31;have hcz32_0:w30.cell? ⟨gb102,0,none⟩=some (.slice none 0 0):=(qaE BK102.out 0).trans rfl;have hcz32_1:w30.cell? ⟨gb102,1,none⟩=some (.int .i64 0):=(qaE BK102.out 1).trans rfl;have hcz32_2:w30.cell? ⟨gb102,2,none⟩=some (.bool false):=(qaE BK102.out 2).trans rfl;have hfz32_0:=qaD BK102.out 0;have hfz32_1:=qaD BK102.out 1;have hfz32_2:=qaD BK102.out 2))
        refine bodyPost_ret (qcF rfl _ _ gb102 72 #[.slice Ao31 t106.length co31,.int .i64 t109,.bool t110] (0,0) _ rfl (by (with_reducible repeat (first|refine qaH ?_ _|refine qaI ?_|refine qaG ?_ _));refine qaR (cs:=#[.slice Ao31 t106.length co31,.int .i64 t109,.bool false]) ?_ 2 _ rfl;(with_reducible repeat (first|refine qaH ?_ _|refine qaI ?_|refine qaG ?_ _));refine qaR (cs:=#[.slice Ao31 t106.length co31,.int .i64 0,.bool false]) ?_ 1 _ rfl;(with_reducible repeat (first|refine qaH ?_ _|refine qaI ?_|refine qaG ?_ _));refine qaR (cs:=#[.slice none 0 0,.int .i64 0,.bool false]) ?_ 0 _ rfl;(with_reducible repeat (first|refine qaH ?_ _|refine qaI ?_|refine qaG ?_ _));exact BK102.out) Tryd.underlying72 rfl (by kernel_rfl)) rfl ?_
        exact ⟨_,by first|rfl|(simp [qaL,qaM]<;>rfl)|(simp only [← hji17];first|rfl|(simp [qaL,qaM]<;>rfl))|(simp [*,qaL,qaM]<;>rfl),by (with_reducible repeat (first|apply Kd.V_alloc|apply Kd.V_drewN|apply Kd.V_drew));exact Kd.V_mono (Kd.V_far (p:=⟨gb102,2,none⟩) (Kd.V_far (p:=⟨gb102,1,none⟩) (Kd.V_far (p:=⟨gb102,0,none⟩) (Kd.V_mono HO108.out (fun k_ hk=>(⟨hk,hk.2.2⟩:_∧k_ ≠ gb102))) (fun _ hk=>hk.2) (.slice Ao31 t106.length co31)) (fun _ hk=>hk.2) (.int .i64 t109)) (fun _ hk=>hk.2) (.bool t110)) (fun _ hk=>hk.1.1),by repeat (first|(with_reducible first|exact HB.out|apply qaB|apply qaA|apply qaC|refine qaF ?_ GE101.out|refine qaF ?_ GE102.out)|exact HB.out)⟩
      ·rw [if_neg c20] at H
       have c20b0:(((qaZ l0_0 (ji17)).f0) == 2)=false:=beq_eq_false_iff_ne.mpr c20
       have c20b1:(((qaZ l0_0 (ji17)).f0) != 2)=true:=bne_iff_ne.mpr c20
       replace H:=Option.bind_eq_some_iff.mp H
       obtain ⟨⟨t112,t115,t116,t117⟩,A330,H⟩:=H
       replace H:(some (t112,t115,t116,t117))=some (r1,r2,r3,r4):=H
       have A33:=Aside0.mk A330
       clear A330
       simp only [Option.some.injEq,Prod.mk.injEq] at H
       obtain ⟨rfl,rfl,rfl,rfl⟩:=H
       have hnb34:=NB101_102.out
       have hnc34:=NB102_101.out
       have hcz35_0:wc.cell? ⟨gb101,0,none⟩=some (.slice A0_0 l0_0.length c0_0):=(qaE BK101.out 0).trans rfl
       have hcz35_1:wc.cell? ⟨gb101,1,none⟩=some (.int .i64 a0_1):=(qaE BK101.out 1).trans rfl
       have hcz35_2:wc.cell? ⟨gb101,2,none⟩=some (.bool a0_2):=(qaE BK101.out 2).trans rfl
       have hfz35_0:=qaD BK101.out 0
       have hfz35_1:=qaD BK101.out 1
       have hfz35_2:=qaD BK101.out 2
       go_wp2_with (first|((with_reducible refine gate_store (t:=3) (p:=18) rfl ?_);refine store_event (t:=3) (p:=18) (v:=?vo_w36) (w1:=(wc.setCell ⟨gb101,1,none⟩ (.int .i64 ji17))) ?hg ?ho ?hn ?hr ?_;(case ho=>rfl);(case hg=>rfl);(case hn=>rfl);(case hr=>first|(go_simp;done)|(go_simp;rfl));intro w36 hw;have n0_:Aside0 (Kd.V k68 68 w36 w.heap.size (fun k_=>(P0_0_ k_ ∨ w.heap.size≤k_)∧k_ ≠ gb101∧k_ ≠ gb102) (.slice A0_0 l0_0.length c0_0) l0_0):=⟨(by rw [hw];exact (by (with_reducible repeat (first|apply Kd.V_alloc|apply Kd.V_drewN|apply Kd.V_drew));exact Kd.V_mono (Kd.V_far (p:=⟨gb101,1,none⟩) (Kd.V_mono HO_102000.out (fun k_ hk=>(⟨hk,hk.2.1⟩:_∧k_ ≠ gb101))) (fun _ hk=>hk.2) (.int .i64 ji17)) (fun _ hk=>⟨hk.1.1,⟨hk.1.2.1,hk.1.2.2⟩⟩)))⟩;have n1_:Aside0 (w36.heap[gb101]?=some (.cells #[.slice A0_0 l0_0.length c0_0,.int .i64 ji17,.bool a0_2] 72 (0,0))):=⟨(by rw [hw];exact (by (with_reducible repeat (first|refine qaH ?_ _|refine qaI ?_|refine qaG ?_ _));refine qaR (cs:=#[.slice A0_0 l0_0.length c0_0,.int .i64 a0_1,.bool a0_2]) ?_ 1 _ rfl;(with_reducible repeat (first|refine qaH ?_ _|refine qaI ?_|refine qaG ?_ _));exact BK101.out))⟩;have n2_:Aside0 (w36.heap[gb102]?=some (.cells #[.slice none 0 0,.int .i64 0,.bool false] 72 (0,0))):=⟨(by rw [hw];exact (by (with_reducible repeat (first|refine qaH ?_ _|refine qaI ?_|refine qaG ?_ _));refine qbI ?_ NB102_101.out _;(with_reducible repeat (first|refine qaH ?_ _|refine qaI ?_|refine qaG ?_ _));exact BK102.out))⟩;have n3_:Aside0 (Below w.heap.size w w36):=⟨(by rw [hw];exact (by repeat (first|(with_reducible first|exact HB.out|apply qaB|apply qaA|apply qaC|refine qaF ?_ GE101.out|refine qaF ?_ GE102.out)|exact HB.out)))⟩;clear hw;clear HO_102000;clear BK101;clear BK102;clear HB;have HO_102000:=n0_;have BK101:=n1_;have BK102:=n2_;have HB:=n3_;clear n0_ n1_ n2_ n3_;have hcz37_0:w36.cell? ⟨gb101,0,none⟩=some (.slice A0_0 l0_0.length c0_0):=(qaE BK101.out 0).trans rfl;have hcz37_1:w36.cell? ⟨gb101,1,none⟩=some (.int .i64 ji17):=(qaE BK101.out 1).trans rfl;have hcz37_2:w36.cell? ⟨gb101,2,none⟩=some (.bool a0_2):=(qaE BK101.out 2).trans rfl;have hfz37_0:=qaD BK101.out 0;have hfz37_1:=qaD BK101.out 1;have hfz37_2:=qaD BK101.out 2;have p104:0≤((ji17):Int):=of_decide_eq_true (by first|(with_reducible assumption)|assumption);have q104:(ji17) < (l0_0.length:Int):=of_decide_eq_true (by first|(with_reducible assumption)|assumption);obtain ⟨ad104,e104,hx104_0,hx104_1,hx104_2,hx104_3⟩:=at_T68 (Kd.V_reads' HO_102000.out).2.2 (ji17) p104 q104;cases e104;replace p104:=eq_true p104;replace q104:=eq_true q104)|((with_reducible refine qaO (f:=58) rfl ?_);refine qbG (some 40) rfl rfl Tryd.func58 (by kernel_rfl) rfl #[.agg #[.slice (some ad104) l0_0.length c0_0,.int .i64 ji17,.bool a0_2]] rfl (by (try simp only [List.map_toArray,List.map_cons,List.map_nil]);first|done|(simp only [hji17];rfl)|rfl|(simp only [List.length_drop,List.length_take];rfl)) ?_;(with_reducible refine (sawmillref37_number.calls (fun k_=>((P0_0_ k_ ∨ w.heap.size≤k_)∧(k_ ≠ gb101∧k_ ≠ gb102))) _ _ l0_0 ji17 a0_2 t112 t115 t116 t117 _ ?side1 A33.out).mono ?_);(case side1=>exact HO_102000.out);rintro e w38 ⟨v113,rfl,ho0,hb⟩;refine ⟨_,rfl,?_⟩;have n0_:=Aside0.mk (Kd.V_below (by (with_reducible repeat (first|apply Kd.V_alloc|apply Kd.V_drewN|apply Kd.V_drew));exact HO_102000.out) hb);have n1_:=Aside0.mk (Kd.V_lower (Kd.V_mono (ok':=fun k_=>(P0_0_ k_ ∨ w.heap.size≤k_)∧k_ ≠ gb101∧k_ ≠ gb102) ho0 (fun k_ hk_=>⟨Or.elim hk_ (fun hs_=>hs_.1) (fun hn_=>(.inr (Nat.le_trans (qaK (by repeat (first|(with_reducible first|exact HB.out|apply qaB|apply qaA|apply qaC|refine qaF ?_ GE101.out|refine qaF ?_ GE102.out)|exact HB.out))) hn_))),Or.elim hk_ (fun hs_=>hs_.2.1) (fun hn_=>(Kd.freshB (g:=gb101) (o:=.cells #[.slice (some ad104) l0_0.length c0_0,.int .i64 ji17,.bool a0_2] 72 (0,0)) (by (with_reducible repeat (first|refine qaH ?_ _|refine qaI ?_|refine qaG ?_ _));exact BK101.out) k_ hn_)),Or.elim hk_ (fun hs_=>hs_.2.2) (fun hn_=>(Kd.freshB (g:=gb102) (o:=.cells #[.slice none 0 0,.int .i64 0,.bool false] 72 (0,0)) (by (with_reducible repeat (first|refine qaH ?_ _|refine qaI ?_|refine qaG ?_ _));exact BK102.out) k_ hn_))⟩)) (qaK (by repeat (first|(with_reducible first|exact HB.out|apply qaB|apply qaA|apply qaC|refine qaF ?_ GE101.out|refine qaF ?_ GE102.out)|exact HB.out))));have n2_:=Aside0.mk (qaS (g:=gb101) (o:=.cells #[.slice (some ad104) l0_0.length c0_0,.int .i64 ji17,.bool a0_2] 72 (0,0)) (by (with_reducible repeat (first|refine qaH ?_ _|refine qaI ?_|refine qaG ?_ _));exact BK101.out) hb);have n3_:=Aside0.mk (qaS (g:=gb102) (o:=.cells #[.slice none 0 0,.int .i64 0,.bool false] 72 (0,0)) (by (with_reducible repeat (first|refine qaH ?_ _|refine qaI ?_|refine qaG ?_ _));exact BK102.out) hb);have n4_:=Aside0.mk (qaN (by repeat (first|(with_reducible first|exact HB.out|apply qaB|apply qaA|apply qaC|refine qaF ?_ GE101.out|refine qaF ?_ GE102.out)|exact HB.out)) hb);clear HO_102000;clear BK101;clear BK102;clear HB;have HO_102000:=n0_;have HO114:=n1_;have BK101:=n2_;have BK102:=n3_;have HB:=n4_;clear n0_ n1_ n2_ n3_ n4_;(try clear hb);(try clear hb2);(try clear hk);(try clear hi);(try clear ho0);obtain ⟨Ao39,co39,eo39⟩:=Kd.V_slice HO114.out;subst eo39;have hcz40_0:w38.cell? ⟨gb102,0,none⟩=some (.slice none 0 0):=(qaE BK102.out 0).trans rfl;have hcz40_1:w38.cell? ⟨gb102,1,none⟩=some (.int .i64 0):=(qaE BK102.out 1).trans rfl;have hcz40_2:w38.cell? ⟨gb102,2,none⟩=some (.bool false):=(qaE BK102.out 2).trans rfl;have hfz40_0:=qaD BK102.out 0;have hfz40_1:=qaD BK102.out 1;have hfz40_2:=qaD BK102.out 2))
       refine bodyPost_ret (qcF rfl _ _ gb102 72 #[.slice Ao39 t112.length co39,.int .i64 t115,.bool t116] (0,0) _ rfl (by (with_reducible repeat (first|refine qaH ?_ _|refine qaI ?_|refine qaG ?_ _));refine qaR (cs:=#[.slice Ao39 t112.length co39,.int .i64 t115,.bool false]) ?_ 2 _ rfl;(with_reducible repeat (first|refine qaH ?_ _|refine qaI ?_|refine qaG ?_ _));refine qaR (cs:=#[.slice Ao39 t112.length co39,.int .i64 0,.bool false]) ?_ 1 _ rfl;(with_reducible repeat (first|refine qaH ?_ _|refine qaI ?_|refine qaG ?_ _));refine qaR (cs:=#[.slice none 0 0,.int .i64 0,.bool false]) ?_ 0 _ rfl;(with_reducible repeat (first|refine qaH ?_ _|refine qaI ?_|refine qaG ?_ _));exact BK102.out) Tryd.underlying72 rfl (by kernel_rfl)) rfl ?_
       exact ⟨_,by first|rfl|(simp [qaL,qaM]<;>rfl)|(simp only [← hji17];first|rfl|(simp [qaL,qaM]<;>rfl))|(simp [*,qaL,qaM]<;>rfl),by (with_reducible repeat (first|apply Kd.V_alloc|apply Kd.V_drewN|apply Kd.V_drew));exact Kd.V_mono (Kd.V_far (p:=⟨gb102,2,none⟩) (Kd.V_far (p:=⟨gb102,1,none⟩) (Kd.V_far (p:=⟨gb102,0,none⟩) (Kd.V_mono HO114.out (fun k_ hk=>(⟨hk,hk.2.2⟩:_∧k_ ≠ gb102))) (fun _ hk=>hk.2) (.slice Ao39 t112.length co39)) (fun _ hk=>hk.2) (.int .i64 t115)) (fun _ hk=>hk.2) (.bool t116)) (fun _ hk=>hk.1.1),by repeat (first|(with_reducible first|exact HB.out|apply qaB|apply qaA|apply qaC|refine qaF ?_ GE101.out|refine qaF ?_ GE102.out)|exact HB.out)⟩
     ·rw [if_neg c19] at H
      exact absurd H (by simp)
    ·rw [if_neg c18] at H
     exact absurd H (by simp)
end Go.Proofs.YtehdmplngmbnnaaDoor.P
namespace Go.Proofs.YtehdmplngmbnnaaDoor.P
open Go.RowKit Go.Proofs.YtehdmplngmbnnaaDoorW.PrintWords Go.Proofs.YtehdmplngmbnnaaDoorW.PrintLast Go.Proofs.YtehdmplngmbnnaaDoorW.PrintMore
attribute [local go_sem] qbV qbW qcC qcD qbQ qbR qbX qbY
attribute [local go_sem] qbL
set_option linter.unusedVariables false
set_option linter.unusedSimpArgs false
def sawmillref37_take.f (l0_0:List (S68)) (a0_1:Int) (a0_2:Bool) (a1:Int) (a2:ByteArray):Option ((List (S68)) × Int × Bool):=if a0_2=true then (some (l0_0,a0_1,true)) else ((sawmillref37_is.f l0_0 a0_1 a0_2 a1 a2).bind fun t103=>(if t103=true then (some (l0_0,wrap64 (a0_1+1),a0_2)) else (some (l0_0,a0_1,true))))
set_option maxHeartbeats 8000000 in
set_option maxRecDepth 100000 in
theorem sawmillref37_take.calls (P0_0_:Nat→Prop) (A0_0:Option Addr) (c0_0:Nat) (l0_0:List (S68)) (a0_1:Int) (a0_2:Bool) (a1:Int) (a2:ByteArray) (r1:List (S68)) (r2:Int) (r3:Bool) (w:World) (hs0_0:Kd.V k68 68 w w.heap.size (fun k_=>P0_0_ k_) (.slice A0_0 l0_0.length c0_0) l0_0) (h:sawmillref37_take.f l0_0 a0_1 a0_2 a1 a2=some (r1,r2,r3)) :
  Calls Tryd.prog 57 #[.agg #[.slice A0_0 l0_0.length c0_0,.int .i64 a0_1,.bool a0_2],.int .i64 a1,.string a2] w fun e w'=>∃ v0_:Value,e=.returned (.agg #[v0_,.int .i64 r2,.bool r3])∧Kd.V k68 68 w' w.heap.size (fun k_=>(P0_0_ k_ ∨ w.heap.size≤k_)) v0_ r1∧Below w.heap.size w w':=by
 have hu72:=Tryd.underlying72
 have HO0_0:=Aside0.mk (show Kd.V k68 68 w w.heap.size (fun k_=>(P0_0_ k_ ∨ w.heap.size≤k_)) (.slice A0_0 l0_0.length c0_0) l0_0 from Kd.V_mono hs0_0 (fun k_ hk=>.inl hk))
 have HB:=Aside0.mk (Below.refl w.heap.size w)
 have H:(if a0_2=true then (some (l0_0,a0_1,true)) else ((sawmillref37_is.f l0_0 a0_1 a0_2 a1 a2).bind fun t103=>(if t103=true then (some (l0_0,wrap64 (a0_1+1),a0_2)) else (some (l0_0,a0_1,true)))))=some (r1,r2,r3):=h
 clear h
 by_cases c4:a0_2=true
 ·subst c4
  have H1:(some (l0_0,a0_1,true))=some (r1,r2,r3):=by rw [if_pos rfl] at H;exact H
  clear H
  have H:=H1
  clear H1
  simp only [Option.some.injEq,Prod.mk.injEq] at H
  obtain ⟨rfl,rfl,rfl⟩:=H
  go_enter Tryd.func57,Tryd.ntmps57
  go_wp2_with (first|((with_reducible refine qbE (N:=3) rfl ?_);refine qbC ?hg (N:=3) ?hd (cs:=#[.slice A0_0 l0_0.length c0_0,.int .i64 a0_1,.bool true]) (t:=72) ?hr ?_;(case hd=>rfl);(case hg=>rfl);(case hr=>first|(go_simp;done)|(go_simp;rfl));intro gb101 hg w5 hbox hb;have n0_:=Aside0.mk (Kd.V_below (Kd.V_elderB (by (with_reducible repeat (first|apply Kd.V_alloc|apply Kd.V_drewN|apply Kd.V_drew));exact HO0_0.out) gb101 (Nat.le_of_eq hg.symm)) hb);have n1_:=Aside0.mk (qaN (by repeat (first|(with_reducible first|exact HB.out|apply qaB|apply qaA|apply qaC)|exact HB.out)) hb);have n2_:=Aside0.mk (hbox);have n3_:=Aside0.mk ((by rw [hg];exact (qaK (by repeat (first|(with_reducible first|exact HB.out|apply qaB|apply qaA|apply qaC)|exact HB.out))):w.heap.size≤gb101));have n4_:=Aside0.mk ((by rw [hg];exact (qaK (by repeat (first|(with_reducible first|exact HB.out|apply qaB|apply qaA|apply qaC)|exact HB.out))):w.heap.size≤gb101));clear HO0_0;clear HB;have HO0_0:=n0_;have HB:=n1_;have BK101:=n2_;have GW101:=n3_;have GE101:=n4_;clear n0_ n1_ n2_ n3_ n4_;clear hb hbox hg)|((with_reducible refine qbE (N:=6) rfl ?_);refine qbC ?hg (N:=6) ?hd (cs:=#[.slice none 0 0,.int .i64 0,.bool false]) (t:=72) ?hr ?_;(case hd=>rfl);(case hg=>rfl);(case hr=>first|(go_simp;done)|(go_simp;rfl));intro gb102 hg w6 hbox hb;have n0_:=Aside0.mk (Kd.V_below (Kd.V_elderB (by (with_reducible repeat (first|apply Kd.V_alloc|apply Kd.V_drewN|apply Kd.V_drew));exact HO0_0.out) gb102 (Nat.le_of_eq hg.symm)) hb);have n1_:=Aside0.mk (qaS (g:=gb101) (o:=.cells #[.slice A0_0 l0_0.length c0_0,.int .i64 a0_1,.bool true] 72 (0,0)) (by (with_reducible repeat (first|refine qaH ?_ _|refine qaI ?_|refine qaG ?_ _));exact BK101.out) hb);have n2_:=Aside0.mk (qaN (by repeat (first|(with_reducible first|exact HB.out|apply qaB|apply qaA|apply qaC|refine qaF ?_ GE101.out)|exact HB.out)) hb);have n3_:=Aside0.mk (hbox);have n4_:=Aside0.mk ((by rw [hg];exact (qaK (by repeat (first|(with_reducible first|exact HB.out|apply qaB|apply qaA|apply qaC|refine qaF ?_ GE101.out)|exact HB.out))):w.heap.size≤gb102));have n5_:=Aside0.mk ((by rw [hg];exact (qaK (by repeat (first|(with_reducible first|exact HB.out|apply qaB|apply qaA|apply qaC|refine qaF ?_ GE101.out)|exact HB.out))):w.heap.size≤gb102));have n6_:=Aside0.mk ((by rw [hg];exact Nat.ne_of_lt (qbF (g:=gb101) (o:=.cells #[.slice A0_0 l0_0.length c0_0,.int .i64 a0_1,.bool true] 72 (0,0)) (by (with_reducible repeat (first|refine qaH ?_ _|refine qaI ?_|refine qaG ?_ _));exact BK101.out)):gb101 ≠ gb102));have n7_:=Aside0.mk ((by rw [hg];exact Nat.ne_of_gt (qbF (g:=gb101) (o:=.cells #[.slice A0_0 l0_0.length c0_0,.int .i64 a0_1,.bool true] 72 (0,0)) (by (with_reducible repeat (first|refine qaH ?_ _|refine qaI ?_|refine qaG ?_ _));exact BK101.out)):gb102 ≠ gb101));clear HO0_0;clear BK101;clear HB;have HO0_0:=n0_;have BK101:=n1_;have HB:=n2_;have BK102:=n3_;have GW102:=n4_;have GE102:=n5_;have NB101_102:=n6_;have NB102_101:=n7_;clear n0_ n1_ n2_ n3_ n4_ n5_ n6_ n7_;clear hb hbox hg;have hnb7:=NB101_102.out;have hnc7:=NB102_101.out;have hcz8_0:w6.cell? ⟨gb101,0,none⟩=some (.slice A0_0 l0_0.length c0_0):=(qaE BK101.out 0).trans rfl;have hcz8_1:w6.cell? ⟨gb101,1,none⟩=some (.int .i64 a0_1):=(qaE BK101.out 1).trans rfl;have hcz8_2:w6.cell? ⟨gb101,2,none⟩=some (.bool true):=(qaE BK101.out 2).trans rfl;have hfz8_0:=qaD BK101.out 0;have hfz8_1:=qaD BK101.out 1;have hfz8_2:=qaD BK101.out 2;have hcz9_0:w6.cell? ⟨gb102,0,none⟩=some (.slice none 0 0):=(qaE BK102.out 0).trans rfl;have hcz9_1:w6.cell? ⟨gb102,1,none⟩=some (.int .i64 0):=(qaE BK102.out 1).trans rfl;have hcz9_2:w6.cell? ⟨gb102,2,none⟩=some (.bool false):=(qaE BK102.out 2).trans rfl;have hfz9_0:=qaD BK102.out 0;have hfz9_1:=qaD BK102.out 1;have hfz9_2:=qaD BK102.out 2))
  refine bodyPost_ret (results_cell_row rfl _ _ gb102 72 #[.slice A0_0 l0_0.length c0_0,.int .i64 a0_1,.bool true] (0,0) _ rfl (by (with_reducible repeat (first|refine qaH ?_ _|refine qaI ?_|refine qaG ?_ _));refine qaR (cs:=#[.slice A0_0 l0_0.length c0_0,.int .i64 a0_1,.bool false]) ?_ 2 _ rfl;(with_reducible repeat (first|refine qaH ?_ _|refine qaI ?_|refine qaG ?_ _));refine qaR (cs:=#[.slice A0_0 l0_0.length c0_0,.int .i64 0,.bool false]) ?_ 1 _ rfl;(with_reducible repeat (first|refine qaH ?_ _|refine qaI ?_|refine qaG ?_ _));refine qaR (cs:=#[.slice none 0 0,.int .i64 0,.bool false]) ?_ 0 _ rfl;(with_reducible repeat (first|refine qaH ?_ _|refine qaI ?_|refine qaG ?_ _));refine qbI ?_ NB102_101.out _;(with_reducible repeat (first|refine qaH ?_ _|refine qaI ?_|refine qaG ?_ _));exact BK102.out) Tryd.underlying72 rfl (by kernel_rfl)) rfl ?_
  exact ⟨_,by first|rfl|(simp [qaL,qaM]<;>rfl)|(simp [*,qaL,qaM]<;>rfl),by (with_reducible repeat (first|apply Kd.V_alloc|apply Kd.V_drewN|apply Kd.V_drew));exact Kd.V_mono (Kd.V_far (p:=⟨gb102,2,none⟩) (Kd.V_far (p:=⟨gb102,1,none⟩) (Kd.V_far (p:=⟨gb102,0,none⟩) (Kd.V_far (p:=⟨gb101,2,none⟩) (Kd.V_mono (Kd.V_mono HO0_0.out (fun k_ hk=>(⟨hk,hk.1.2⟩:_∧k_ ≠ gb101))) (fun k_ hk=>(⟨hk,hk.1.2⟩:_∧k_ ≠ gb102))) (fun _ hk=>hk.1.2) (.bool true)) (fun _ hk=>hk.2) (.slice A0_0 l0_0.length c0_0)) (fun _ hk=>hk.2) (.int .i64 a0_1)) (fun _ hk=>hk.2) (.bool true)) (fun _ hk=>hk.1.1.1.1),by repeat (first|(with_reducible first|exact HB.out|apply qaB|apply qaA|apply qaC|refine qaF ?_ GE101.out|refine qaF ?_ GE102.out)|exact HB.out)⟩
 ·replace c4:=Bool.eq_false_iff.mpr c4
  subst c4
  have H1:((sawmillref37_is.f l0_0 a0_1 false a1 a2).bind fun t103=>(if t103=true then (some (l0_0,wrap64 (a0_1+1),false)) else (some (l0_0,a0_1,true))))=some (r1,r2,r3):=by rw [if_neg (show ¬ (false=true) by decide)] at H;exact H
  clear H
  have H:=H1
  clear H1
  replace H:=Option.bind_eq_some_iff.mp H
  obtain ⟨t103,A100,H⟩:=H
  replace H:(if t103=true then (some (l0_0,wrap64 (a0_1+1),false)) else (some (l0_0,a0_1,true)))=some (r1,r2,r3):=H
  have A10:=Aside0.mk A100
  clear A100
  by_cases c11:t103=true
  ·subst c11
   have H1:(some (l0_0,wrap64 (a0_1+1),false))=some (r1,r2,r3):=by rw [if_pos rfl] at H;exact H
   clear H
   have H:=H1
   clear H1
   simp only [Option.some.injEq,Prod.mk.injEq] at H
   obtain ⟨rfl,rfl,rfl⟩:=H
   go_enter Tryd.func57,Tryd.ntmps57
   go_wp2_with (first|((with_reducible refine qbE (N:=3) rfl ?_);refine qbC ?hg (N:=3) ?hd (cs:=#[.slice A0_0 l0_0.length c0_0,.int .i64 a0_1,.bool false]) (t:=72) ?hr ?_;(case hd=>rfl);(case hg=>rfl);(case hr=>first|(go_simp;done)|(go_simp;rfl));intro gb101 hg w12 hbox hb;have n0_:=Aside0.mk (Kd.V_below (Kd.V_elderB (by (with_reducible repeat (first|apply Kd.V_alloc|apply Kd.V_drewN|apply Kd.V_drew));exact HO0_0.out) gb101 (Nat.le_of_eq hg.symm)) hb);have n1_:=Aside0.mk (qaN (by repeat (first|(with_reducible first|exact HB.out|apply qaB|apply qaA|apply qaC)|exact HB.out)) hb);have n2_:=Aside0.mk (hbox);have n3_:=Aside0.mk ((by rw [hg];exact (qaK (by repeat (first|(with_reducible first|exact HB.out|apply qaB|apply qaA|apply qaC)|exact HB.out))):w.heap.size≤gb101));have n4_:=Aside0.mk ((by rw [hg];exact (qaK (by repeat (first|(with_reducible first|exact HB.out|apply qaB|apply qaA|apply qaC)|exact HB.out))):w.heap.size≤gb101));clear HO0_0;clear HB;have HO0_0:=n0_;have HB:=n1_;have BK101:=n2_;have GW101:=n3_;have GE101:=n4_;clear n0_ n1_ n2_ n3_ n4_;clear hb hbox hg)|((with_reducible refine qbE (N:=6) rfl ?_);refine qbC ?hg (N:=6) ?hd (cs:=#[.slice none 0 0,.int .i64 0,.bool false]) (t:=72) ?hr ?_;(case hd=>rfl);(case hg=>rfl);(case hr=>first|(go_simp;done)|(go_simp;rfl));intro gb102 hg w13 hbox hb;have n0_:=Aside0.mk (Kd.V_below (Kd.V_elderB (by (with_reducible repeat (first|apply Kd.V_alloc|apply Kd.V_drewN|apply Kd.V_drew));exact HO0_0.out) gb102 (Nat.le_of_eq hg.symm)) hb);have n1_:=Aside0.mk (qaS (g:=gb101) (o:=.cells #[.slice A0_0 l0_0.length c0_0,.int .i64 a0_1,.bool false] 72 (0,0)) (by (with_reducible repeat (first|refine qaH ?_ _|refine qaI ?_|refine qaG ?_ _));exact BK101.out) hb);have n2_:=Aside0.mk (qaN (by repeat (first|(with_reducible first|exact HB.out|apply qaB|apply qaA|apply qaC|refine qaF ?_ GE101.out)|exact HB.out)) hb);have n3_:=Aside0.mk (hbox);have n4_:=Aside0.mk ((by rw [hg];exact (qaK (by repeat (first|(with_reducible first|exact HB.out|apply qaB|apply qaA|apply qaC|refine qaF ?_ GE101.out)|exact HB.out))):w.heap.size≤gb102));have n5_:=Aside0.mk ((by rw [hg];exact (qaK (by repeat (first|(with_reducible first|exact HB.out|apply qaB|apply qaA|apply qaC|refine qaF ?_ GE101.out)|exact HB.out))):w.heap.size≤gb102));have n6_:=Aside0.mk ((by rw [hg];exact Nat.ne_of_lt (qbF (g:=gb101) (o:=.cells #[.slice A0_0 l0_0.length c0_0,.int .i64 a0_1,.bool false] 72 (0,0)) (by (with_reducible repeat (first|refine qaH ?_ _|refine qaI ?_|refine qaG ?_ _));exact BK101.out)):gb101 ≠ gb102));have n7_:=Aside0.mk ((by rw [hg];exact Nat.ne_of_gt (qbF (g:=gb101) (o:=.cells #[.slice A0_0 l0_0.length c0_0,.int .i64 a0_1,.bool false] 72 (0,0)) (by (with_reducible repeat (first|refine qaH ?_ _|refine qaI ?_|refine qaG ?_ _));exact BK101.out)):gb102 ≠ gb101));clear HO0_0;clear BK101;clear HB;have HO0_0:=n0_;have BK101:=n1_;have HB:=n2_;have BK102:=n3_;have GW102:=n4_;have GE102:=n5_;have NB101_102:=n6_;have NB102_101:=n7_;clear n0_ n1_ n2_ n3_ n4_ n5_ n6_ n7_;clear hb hbox hg;have hnb14:=NB101_102.out;have hnc14:=NB102_101.out;have hcz15_0:w13.cell? ⟨gb101,0,none⟩=some (.slice A0_0 l0_0.length c0_0):=(qaE BK101.out 0).trans rfl;have hcz15_1:w13.cell? ⟨gb101,1,none⟩=some (.int .i64 a0_1):=(qaE BK101.out 1).trans rfl;have hcz15_2:w13.cell? ⟨gb101,2,none⟩=some (.bool false):=(qaE BK101.out 2).trans rfl;have hfz15_0:=qaD BK101.out 0;have hfz15_1:=qaD BK101.out 1;have hfz15_2:=qaD BK101.out 2)|(go_at_call 59;(with_reducible refine (sawmillref37_is.calls _ _ l0_0 a0_1 false a1 a2 true _ ?side1 ?side2 A10.out).mono ?_);(case side1=>repeat (first|exact (Kd.V_reads' HO0_0.out).2.2|(with_reducible refine Kd.C_alloc ?_ _)|(with_reducible refine Kd.C_drewN ?_ _)|(with_reducible refine Kd.C_drew ?_)));(case side2=>exact (Kd.V_reads' HO0_0.out).2.1);rintro e w16 ⟨rfl,hb⟩;have n0_:=Aside0.mk (Kd.V_below (by (with_reducible repeat (first|apply Kd.V_alloc|apply Kd.V_drewN|apply Kd.V_drew));exact HO0_0.out) hb);have n1_:=Aside0.mk (qaS (g:=gb101) (o:=.cells #[.slice A0_0 l0_0.length c0_0,.int .i64 a0_1,.bool false] 72 (0,0)) (by (with_reducible repeat (first|refine qaH ?_ _|refine qaI ?_|refine qaG ?_ _));exact BK101.out) hb);have n2_:=Aside0.mk (qaS (g:=gb102) (o:=.cells #[.slice none 0 0,.int .i64 0,.bool false] 72 (0,0)) (by (with_reducible repeat (first|refine qaH ?_ _|refine qaI ?_|refine qaG ?_ _));exact BK102.out) hb);have n3_:=Aside0.mk (qaN (by repeat (first|(with_reducible first|exact HB.out|apply qaB|apply qaA|apply qaC|refine qaF ?_ GE101.out|refine qaF ?_ GE102.out)|exact HB.out)) hb);clear HO0_0;clear BK101;clear BK102;clear HB;have HO0_0:=n0_;have BK101:=n1_;have BK102:=n2_;have HB:=n3_;clear n0_ n1_ n2_ n3_;(try clear hb);(try clear hb2);(try clear hk);(try clear hi);have hcz17_0:w16.cell? ⟨gb101,0,none⟩=some (.slice A0_0 l0_0.length c0_0):=(qaE BK101.out 0).trans rfl;have hcz17_1:w16.cell? ⟨gb101,1,none⟩=some (.int .i64 a0_1):=(qaE BK101.out 1).trans rfl;have hcz17_2:w16.cell? ⟨gb101,2,none⟩=some (.bool false):=(qaE BK101.out 2).trans rfl;have hfz17_0:=qaD BK101.out 0;have hfz17_1:=qaD BK101.out 1;have hfz17_2:=qaD BK101.out 2;have hcz18_0:w16.cell? ⟨gb102,0,none⟩=some (.slice none 0 0):=(qaE BK102.out 0).trans rfl;have hcz18_1:w16.cell? ⟨gb102,1,none⟩=some (.int .i64 0):=(qaE BK102.out 1).trans rfl;have hcz18_2:w16.cell? ⟨gb102,2,none⟩=some (.bool false):=(qaE BK102.out 2).trans rfl;have hfz18_0:=qaD BK102.out 0;have hfz18_1:=qaD BK102.out 1;have hfz18_2:=qaD BK102.out 2))
   refine bodyPost_ret (results_cell_row rfl _ _ gb102 72 #[.slice A0_0 l0_0.length c0_0,.int .i64 (wrap64 (a0_1+1)),.bool false] (0,0) _ rfl (by (with_reducible repeat (first|refine qaH ?_ _|refine qaI ?_|refine qaG ?_ _));refine qaR (cs:=#[.slice A0_0 l0_0.length c0_0,.int .i64 (wrap64 (a0_1+1)),.bool false]) ?_ 2 _ rfl;(with_reducible repeat (first|refine qaH ?_ _|refine qaI ?_|refine qaG ?_ _));refine qaR (cs:=#[.slice A0_0 l0_0.length c0_0,.int .i64 0,.bool false]) ?_ 1 _ rfl;(with_reducible repeat (first|refine qaH ?_ _|refine qaI ?_|refine qaG ?_ _));refine qaR (cs:=#[.slice none 0 0,.int .i64 0,.bool false]) ?_ 0 _ rfl;(with_reducible repeat (first|refine qaH ?_ _|refine qaI ?_|refine qaG ?_ _));refine qbI ?_ NB102_101.out _;(with_reducible repeat (first|refine qaH ?_ _|refine qaI ?_|refine qaG ?_ _));exact BK102.out) Tryd.underlying72 rfl (by kernel_rfl)) rfl ?_
   exact ⟨_,by first|rfl|(simp [qaL,qaM]<;>rfl)|(simp [*,qaL,qaM]<;>rfl),by (with_reducible repeat (first|apply Kd.V_alloc|apply Kd.V_drewN|apply Kd.V_drew));exact Kd.V_mono (Kd.V_far (p:=⟨gb102,2,none⟩) (Kd.V_far (p:=⟨gb102,1,none⟩) (Kd.V_far (p:=⟨gb102,0,none⟩) (Kd.V_far (p:=⟨gb101,1,none⟩) (Kd.V_mono (Kd.V_mono HO0_0.out (fun k_ hk=>(⟨hk,hk.1.2⟩:_∧k_ ≠ gb101))) (fun k_ hk=>(⟨hk,hk.1.2⟩:_∧k_ ≠ gb102))) (fun _ hk=>hk.1.2) (.int .i64 (wrap64 (a0_1+1)))) (fun _ hk=>hk.2) (.slice A0_0 l0_0.length c0_0)) (fun _ hk=>hk.2) (.int .i64 (wrap64 (a0_1+1)))) (fun _ hk=>hk.2) (.bool false)) (fun _ hk=>hk.1.1.1.1),by repeat (first|(with_reducible first|exact HB.out|apply qaB|apply qaA|apply qaC|refine qaF ?_ GE101.out|refine qaF ?_ GE102.out)|exact HB.out)⟩
  ·replace c11:=Bool.eq_false_iff.mpr c11
   subst c11
   have H1:(some (l0_0,a0_1,true))=some (r1,r2,r3):=by rw [if_neg (show ¬ (false=true) by decide)] at H;exact H
   clear H
   have H:=H1
   clear H1
   simp only [Option.some.injEq,Prod.mk.injEq] at H
   obtain ⟨rfl,rfl,rfl⟩:=H
   go_enter Tryd.func57,Tryd.ntmps57
   go_wp2_with (first|((with_reducible refine qbE (N:=3) rfl ?_);refine qbC ?hg (N:=3) ?hd (cs:=#[.slice A0_0 l0_0.length c0_0,.int .i64 a0_1,.bool false]) (t:=72) ?hr ?_;(case hd=>rfl);(case hg=>rfl);(case hr=>first|(go_simp;done)|(go_simp;rfl));intro gb101 hg w19 hbox hb;have n0_:=Aside0.mk (Kd.V_below (Kd.V_elderB (by (with_reducible repeat (first|apply Kd.V_alloc|apply Kd.V_drewN|apply Kd.V_drew));exact HO0_0.out) gb101 (Nat.le_of_eq hg.symm)) hb);have n1_:=Aside0.mk (qaN (by repeat (first|(with_reducible first|exact HB.out|apply qaB|apply qaA|apply qaC)|exact HB.out)) hb);have n2_:=Aside0.mk (hbox);have n3_:=Aside0.mk ((by rw [hg];exact (qaK (by repeat (first|(with_reducible first|exact HB.out|apply qaB|apply qaA|apply qaC)|exact HB.out))):w.heap.size≤gb101));have n4_:=Aside0.mk ((by rw [hg];exact (qaK (by repeat (first|(with_reducible first|exact HB.out|apply qaB|apply qaA|apply qaC)|exact HB.out))):w.heap.size≤gb101));clear HO0_0;clear HB;have HO0_0:=n0_;have HB:=n1_;have BK101:=n2_;have GW101:=n3_;have GE101:=n4_;clear n0_ n1_ n2_ n3_ n4_;clear hb hbox hg)|((with_reducible refine qbE (N:=6) rfl ?_);refine qbC ?hg (N:=6) ?hd (cs:=#[.slice none 0 0,.int .i64 0,.bool false]) (t:=72) ?hr ?_;(case hd=>rfl);(case hg=>rfl);(case hr=>first|(go_simp;done)|(go_simp;rfl));intro gb102 hg w20 hbox hb;have n0_:=Aside0.mk (Kd.V_below (Kd.V_elderB (by (with_reducible repeat (first|apply Kd.V_alloc|apply Kd.V_drewN|apply Kd.V_drew));exact HO0_0.out) gb102 (Nat.le_of_eq hg.symm)) hb);have n1_:=Aside0.mk (qaS (g:=gb101) (o:=.cells #[.slice A0_0 l0_0.length c0_0,.int .i64 a0_1,.bool false] 72 (0,0)) (by (with_reducible repeat (first|refine qaH ?_ _|refine qaI ?_|refine qaG ?_ _));exact BK101.out) hb);have n2_:=Aside0.mk (qaN (by repeat (first|(with_reducible first|exact HB.out|apply qaB|apply qaA|apply qaC|refine qaF ?_ GE101.out)|exact HB.out)) hb);have n3_:=Aside0.mk (hbox);have n4_:=Aside0.mk ((by rw [hg];exact (qaK (by repeat (first|(with_reducible first|exact HB.out|apply qaB|apply qaA|apply qaC|refine qaF ?_ GE101.out)|exact HB.out))):w.heap.size≤gb102));have n5_:=Aside0.mk ((by rw [hg];exact (qaK (by repeat (first|(with_reducible first|exact HB.out|apply qaB|apply qaA|apply qaC|refine qaF ?_ GE101.out)|exact HB.out))):w.heap.size≤gb102));have n6_:=Aside0.mk ((by rw [hg];exact Nat.ne_of_lt (qbF (g:=gb101) (o:=.cells #[.slice A0_0 l0_0.length c0_0,.int .i64 a0_1,.bool false] 72 (0,0)) (by (with_reducible repeat (first|refine qaH ?_ _|refine qaI ?_|refine qaG ?_ _));exact BK101.out)):gb101 ≠ gb102));have n7_:=Aside0.mk ((by rw [hg];exact Nat.ne_of_gt (qbF (g:=gb101) (o:=.cells #[.slice A0_0 l0_0.length c0_0,.int .i64 a0_1,.bool false] 72 (0,0)) (by (with_reducible repeat (first|refine qaH ?_ _|refine qaI ?_|refine qaG ?_ _));exact BK101.out)):gb102 ≠ gb101));clear HO0_0;clear BK101;clear HB;have HO0_0:=n0_;have BK101:=n1_;have HB:=n2_;have BK102:=n3_;have GW102:=n4_;have GE102:=n5_;have NB101_102:=n6_;have NB102_101:=n7_;clear n0_ n1_ n2_ n3_ n4_ n5_ n6_ n7_;clear hb hbox hg;have hnb21:=NB101_102.out;have hnc21:=NB102_101.out;have hcz22_0:w20.cell? ⟨gb101,0,none⟩=some (.slice A0_0 l0_0.length c0_0):=(qaE BK101.out 0).trans rfl;have hcz22_1:w20.cell? ⟨gb101,1,none⟩=some (.int .i64 a0_1):=(qaE BK101.out 1).trans rfl;have hcz22_2:w20.cell? ⟨gb101,2,none⟩=some (.bool false):=(qaE BK101.out 2).trans rfl;have hfz22_0:=qaD BK101.out 0;have hfz22_1:=qaD BK101.out 1;have hfz22_2:=qaD BK101.out 2)|(go_at_call 59;(with_reducible refine (sawmillref37_is.calls _ _ l0_0 a0_1 false a1 a2 false _ ?side1 ?side2 A10.out).mono ?_);(case side1=>repeat (first|exact (Kd.V_reads' HO0_0.out).2.2|(with_reducible refine Kd.C_alloc ?_ _)|(with_reducible refine Kd.C_drewN ?_ _)|(with_reducible refine Kd.C_drew ?_)));(case side2=>exact (Kd.V_reads' HO0_0.out).2.1);rintro e w23 ⟨rfl,hb⟩;have n0_:=Aside0.mk (Kd.V_below (by (with_reducible repeat (first|apply Kd.V_alloc|apply Kd.V_drewN|apply Kd.V_drew));exact HO0_0.out) hb);have n1_:=Aside0.mk (qaS (g:=gb101) (o:=.cells #[.slice A0_0 l0_0.length c0_0,.int .i64 a0_1,.bool false] 72 (0,0)) (by (with_reducible repeat (first|refine qaH ?_ _|refine qaI ?_|refine qaG ?_ _));exact BK101.out) hb);have n2_:=Aside0.mk (qaS (g:=gb102) (o:=.cells #[.slice none 0 0,.int .i64 0,.bool false] 72 (0,0)) (by (with_reducible repeat (first|refine qaH ?_ _|refine qaI ?_|refine qaG ?_ _));exact BK102.out) hb);have n3_:=Aside0.mk (qaN (by repeat (first|(with_reducible first|exact HB.out|apply qaB|apply qaA|apply qaC|refine qaF ?_ GE101.out|refine qaF ?_ GE102.out)|exact HB.out)) hb);clear HO0_0;clear BK101;clear BK102;clear HB;have HO0_0:=n0_;have BK101:=n1_;have BK102:=n2_;have HB:=n3_;clear n0_ n1_ n2_ n3_;(try clear hb);(try clear hb2);(try clear hk);(try clear hi);have hcz24_0:w23.cell? ⟨gb101,0,none⟩=some (.slice A0_0 l0_0.length c0_0):=(qaE BK101.out 0).trans rfl;have hcz24_1:w23.cell? ⟨gb101,1,none⟩=some (.int .i64 a0_1):=(qaE BK101.out 1).trans rfl;have hcz24_2:w23.cell? ⟨gb101,2,none⟩=some (.bool false):=(qaE BK101.out 2).trans rfl;have hfz24_0:=qaD BK101.out 0;have hfz24_1:=qaD BK101.out 1;have hfz24_2:=qaD BK101.out 2;have hcz25_0:w23.cell? ⟨gb102,0,none⟩=some (.slice none 0 0):=(qaE BK102.out 0).trans rfl;have hcz25_1:w23.cell? ⟨gb102,1,none⟩=some (.int .i64 0):=(qaE BK102.out 1).trans rfl;have hcz25_2:w23.cell? ⟨gb102,2,none⟩=some (.bool false):=(qaE BK102.out 2).trans rfl;have hfz25_0:=qaD BK102.out 0;have hfz25_1:=qaD BK102.out 1;have hfz25_2:=qaD BK102.out 2))
   refine bodyPost_ret (results_cell_row rfl _ _ gb102 72 #[.slice A0_0 l0_0.length c0_0,.int .i64 a0_1,.bool true] (0,0) _ rfl (by (with_reducible repeat (first|refine qaH ?_ _|refine qaI ?_|refine qaG ?_ _));refine qaR (cs:=#[.slice A0_0 l0_0.length c0_0,.int .i64 a0_1,.bool false]) ?_ 2 _ rfl;(with_reducible repeat (first|refine qaH ?_ _|refine qaI ?_|refine qaG ?_ _));refine qaR (cs:=#[.slice A0_0 l0_0.length c0_0,.int .i64 0,.bool false]) ?_ 1 _ rfl;(with_reducible repeat (first|refine qaH ?_ _|refine qaI ?_|refine qaG ?_ _));refine qaR (cs:=#[.slice none 0 0,.int .i64 0,.bool false]) ?_ 0 _ rfl;(with_reducible repeat (first|refine qaH ?_ _|refine qaI ?_|refine qaG ?_ _));refine qbI ?_ NB102_101.out _;(with_reducible repeat (first|refine qaH ?_ _|refine qaI ?_|refine qaG ?_ _));exact BK102.out) Tryd.underlying72 rfl (by kernel_rfl)) rfl ?_
   exact ⟨_,by first|rfl|(simp [qaL,qaM]<;>rfl)|(simp [*,qaL,qaM]<;>rfl),by (with_reducible repeat (first|apply Kd.V_alloc|apply Kd.V_drewN|apply Kd.V_drew));exact Kd.V_mono (Kd.V_far (p:=⟨gb102,2,none⟩) (Kd.V_far (p:=⟨gb102,1,none⟩) (Kd.V_far (p:=⟨gb102,0,none⟩) (Kd.V_far (p:=⟨gb101,2,none⟩) (Kd.V_mono (Kd.V_mono HO0_0.out (fun k_ hk=>(⟨hk,hk.1.2⟩:_∧k_ ≠ gb101))) (fun k_ hk=>(⟨hk,hk.1.2⟩:_∧k_ ≠ gb102))) (fun _ hk=>hk.1.2) (.bool true)) (fun _ hk=>hk.2) (.slice A0_0 l0_0.length c0_0)) (fun _ hk=>hk.2) (.int .i64 a0_1)) (fun _ hk=>hk.2) (.bool true)) (fun _ hk=>hk.1.1.1.1),by repeat (first|(with_reducible first|exact HB.out|apply qaB|apply qaA|apply qaC|refine qaF ?_ GE101.out|refine qaF ?_ GE102.out)|exact HB.out)⟩
end Go.Proofs.YtehdmplngmbnnaaDoor.P
namespace Go.Proofs.YtehdmplngmbnnaaDoor.P
open Go.RowKit Go.Proofs.YtehdmplngmbnnaaDoorW.PrintWords Go.Proofs.YtehdmplngmbnnaaDoorW.PrintLast Go.Proofs.YtehdmplngmbnnaaDoorW.PrintMore
set_option linter.unusedVariables false
set_option linter.unusedSimpArgs false
mutual
def sawmillref37_stage.j0:Nat→Bool→List (S68)→Int→Bool→Int→Int→Int→Int→Option ((List (S68)) × Int × Bool × Int × Int × Int × Int)
 | 0,_,_,_,_,_,_,_,_=>none
 | k+1,x25,x102000,x102001,x102002,x105000,x105001,x105002,x105003=>if x25=true then (sawmillref37_stage.j1 k x102000 x102001 true x105000 x105001 x105002 x105003) else (sawmillref37_stage.j1 k x102000 x102001 x102002 x105000 x105001 x105002 x105003)
def sawmillref37_stage.j1:Nat→List (S68)→Int→Bool→Int→Int→Int→Int→Option ((List (S68)) × Int × Bool × Int × Int × Int × Int)
 | 0,_,_,_,_,_,_,_=>none
 | k+1,x102000,x102001,x102002,x105000,x105001,x105002,x105003=>(sawmillref37_take.f x102000 x102001 x102002 1 (⟨#[97,116]⟩:ByteArray)).bind fun bt117=>((sawmillref37_number.f bt117.1 bt117.2.1 bt117.2.2).bind fun bt122=>((sawmillref37_take.f bt122.1 bt122.2.1 bt122.2.2.1 3 (⟨#[45]⟩:ByteArray)).bind fun bt128=>((sawmillref37_number.f bt128.1 bt128.2.1 bt128.2.2).bind fun bt133=>((sawmillref37_take.f bt133.1 bt133.2.1 bt133.2.2.1 3 (⟨#[59]⟩:ByteArray)).bind fun bt139=>(some (bt139.1,bt139.2.1,bt139.2.2,x105000,x105001,bt122.2.2.2,bt133.2.2.2))))))
end
def sawmillref37_stage.f (k:Nat) (l0_0:List (S68)) (a0_1:Int) (a0_2:Bool):Option ((List (S68)) × Int × Bool × Int × Int × Int × Int):=(sawmillref37_part.f k l0_0 a0_1 a0_2 (⟨#[98,101,108,111,119]⟩:ByteArray)).bind fun bt105=>((sawmillref37_part.f k bt105.1 bt105.2.1 bt105.2.2.1 (⟨#[102,111,114]⟩:ByteArray)).bind fun bt111=>(if bt105.2.2.2=0 then (sawmillref37_stage.j0 k (bt111.2.2.2 == 0) bt111.1 bt111.2.1 bt111.2.2.1 bt105.2.2.2 bt111.2.2.2 0 0) else (sawmillref37_stage.j0 k false bt111.1 bt111.2.1 bt111.2.2.1 bt105.2.2.2 bt111.2.2.2 0 0)))
structure RSt (w W:World) (b1 b2 b3 b4:Nat) (P:Nat→Prop) (v:Value) (rl:List S68) (a:Int) (b:Bool) (x0 x1 x2 x3:Int):Prop where
 r:W.heap[b1]?=some (.cells #[v,.int .i64 a,.bool b] 72 (0,0))
 o:W.heap[b2]?=some (.cells #[.slice none 0 0,.int .i64 0,.bool false] 72 (0,0))
 q:W.heap[b3]?=some (.cells #[.int .i64 0,.int .i64 0,.int .i64 0,.int .i64 0] 52 (0,0))
 x:W.heap[b4]?=some (.cells #[.int .i64 x0,.int .i64 x1,.int .i64 x2,.int .i64 x3] 52 (0,0))
 V:Kd.V k68 68 W w.heap.size (fun k=>(P k ∨ w.heap.size≤k)∧k ≠ b1∧k ≠ b2∧k ≠ b3∧k ≠ b4) v rl
 bel:Below w.heap.size w W
 l0:w.heap.size≤b1
 l1:b1 < b2
 l2:b2 < b3
 l3:b3 < b4
theorem RSt.n12 {w W:World} {b1 b2 b3 b4:Nat} {P:Nat→Prop} {v:Value} {rl:List S68} {a:Int} {b:Bool} {x0 x1 x2 x3:Int} (h:RSt w W b1 b2 b3 b4 P v rl a b x0 x1 x2 x3):b1 ≠ b2∧b1 ≠ b3∧b1 ≠ b4∧b2 ≠ b4∧b3 ≠ b4:=by
 have:=h.l1;have:=h.l2;have:=h.l3
 omega
theorem RSt.call {w W W2:World} {b1 b2 b3 b4:Nat} {P:Nat→Prop} {v v2:Value} {rl rl2:List S68} {a:Int} {b:Bool} {x0 x1 x2 x3:Int} (h:RSt w W b1 b2 b3 b4 P v rl a b x0 x1 x2 x3)
  (hV:Kd.V k68 68 W2 W.heap.size (fun k=>((P k ∨ w.heap.size≤k)∧k ≠ b1∧k ≠ b2∧k ≠ b3∧k ≠ b4) ∨ W.heap.size≤k) v2 rl2) (hb:Below W.heap.size W W2) (a2:Int) (bb:Bool) :
  RSt w (((W2.setCell ⟨b1,0,none⟩ v2).setCell ⟨b1,1,none⟩ (.int .i64 a2)).setCell ⟨b1,2,none⟩ (.bool bb)) b1 b2 b3 b4 P v2 rl2 a2 bb x0 x1 x2 x3:=by
 have hs:=h.bel.size
 have k1:=qbF h.r;have k2:=qbF h.o;have k3:=qbF h.q;have k4:=qbF h.x
 obtain ⟨n1,n2,n3,-,-⟩:=h.n12
 have hV2:Kd.V k68 68 W2 w.heap.size (fun k=>(P k ∨ w.heap.size≤k)∧k ≠ b1∧k ≠ b2∧k ≠ b3∧k ≠ b4) v2 rl2:=Kd.V_map (Kd.V_mono hV (fun k hk=>by
  rcases hk with hk|hk
  ·exact hk
  ·exact ⟨Or.inr (by omega),by omega,by omega,by omega,by omega⟩)) (fun _ hf=>hf)
 have f:∀ k,((P k ∨ w.heap.size≤k)∧k ≠ b1∧k ≠ b2∧k ≠ b3∧k ≠ b4)→k ≠ b1:=fun k hk=>hk.2.1
 exact ⟨qaR (qaR (qaR (qaS h.r hb) 0 v2 rfl) 1 (.int .i64 a2) rfl) 2 (.bool bb) rfl,
  qbI (p:=⟨b1,2,none⟩) (qbI (p:=⟨b1,1,none⟩) (qbI (p:=⟨b1,0,none⟩) (qaS h.o hb) n1.symm v2) n1.symm (.int .i64 a2)) n1.symm (.bool bb),
  qbI (p:=⟨b1,2,none⟩) (qbI (p:=⟨b1,1,none⟩) (qbI (p:=⟨b1,0,none⟩) (qaS h.q hb) n2.symm v2) n2.symm (.int .i64 a2)) n2.symm (.bool bb),
  qbI (p:=⟨b1,2,none⟩) (qbI (p:=⟨b1,1,none⟩) (qbI (p:=⟨b1,0,none⟩) (qaS h.x hb) n3.symm v2) n3.symm (.int .i64 a2)) n3.symm (.bool bb),
  Kd.V_far (p:=⟨b1,2,none⟩) (Kd.V_far (p:=⟨b1,1,none⟩) (Kd.V_far (p:=⟨b1,0,none⟩) hV2 f v2) f (.int .i64 a2)) f (.bool bb),
  qaF (qaF (qaF (qaN h.bel hb) h.l0) h.l0) h.l0,h.l0,h.l1,h.l2,h.l3⟩
theorem RSt.put {w W:World} {b1 b2 b3 b4:Nat} {P:Nat→Prop} {v:Value} {rl:List S68} {a:Int} {b:Bool} {x0 x1 x2 x3 y0 y1 y2 y3:Int} (h:RSt w W b1 b2 b3 b4 P v rl a b x0 x1 x2 x3) (i:Nat) (y:Int)
  (e:(#[.int .i64 x0,.int .i64 x1,.int .i64 x2,.int .i64 x3]:Array Value).setIfInBounds i (.int .i64 y)=#[.int .i64 y0,.int .i64 y1,.int .i64 y2,.int .i64 y3]):RSt w (W.setCell ⟨b4,i,none⟩ (.int .i64 y)) b1 b2 b3 b4 P v rl a b y0 y1 y2 y3:=by
 obtain ⟨-,-,n3,n4,n5⟩:=h.n12
 have:=h.l0;have:=h.l1;have:=h.l2;have:=h.l3
 exact ⟨qbI (p:=⟨b4,i,none⟩) h.r n3 _,qbI (p:=⟨b4,i,none⟩) h.o n4 _,qbI (p:=⟨b4,i,none⟩) h.q n5 _,qaR h.x i _ e,Kd.V_far (p:=⟨b4,i,none⟩) h.V (fun k hk=>hk.2.2.2.2) _,qaF h.bel (by omega),h.l0,h.l1,h.l2,h.l3⟩
theorem RSt.bad {w W:World} {b1 b2 b3 b4:Nat} {P:Nat→Prop} {v:Value} {rl:List S68} {a:Int} {b:Bool} {x0 x1 x2 x3:Int} (h:RSt w W b1 b2 b3 b4 P v rl a b x0 x1 x2 x3):RSt w (W.setCell ⟨b1,2,none⟩ (.bool true)) b1 b2 b3 b4 P v rl a true x0 x1 x2 x3:=by
 obtain ⟨n1,n2,n3,-,-⟩:=h.n12
 exact ⟨qaR h.r 2 _ rfl,qbI (p:=⟨b1,2,none⟩) h.o n1.symm _,qbI (p:=⟨b1,2,none⟩) h.q n2.symm _,qbI (p:=⟨b1,2,none⟩) h.x n3.symm _,Kd.V_far (p:=⟨b1,2,none⟩) h.V (fun k hk=>hk.2.1) _,qaF h.bel h.l0,h.l0,h.l1,h.l2,h.l3⟩
theorem RSt.Vb {w W:World} {b1 b2 b3 b4:Nat} {P:Nat→Prop} {v:Value} {rl:List S68} {a:Int} {b:Bool} {x0 x1 x2 x3:Int} (h:RSt w W b1 b2 b3 b4 P v rl a b x0 x1 x2 x3):Kd.V k68 68 W W.heap.size (fun k=>(P k ∨ w.heap.size≤k)∧k ≠ b1∧k ≠ b2∧k ≠ b3∧k ≠ b4) v rl:=Kd.V_map h.V (fun _ hf=>hf)
theorem RSt.drew {w W:World} {b1 b2 b3 b4:Nat} {P:Nat→Prop} {v:Value} {rl:List S68} {a:Int} {b:Bool} {x0 x1 x2 x3:Int} (h:RSt w W b1 b2 b3 b4 P v rl a b x0 x1 x2 x3):RSt w W.drew b1 b2 b3 b4 P v rl a b x0 x1 x2 x3 :=
 ⟨qaI h.r,qaI h.o,qaI h.q,qaI h.x,Kd.V_drew h.V,below_drew h.bel,h.l0,h.l1,h.l2,h.l3⟩
theorem RSt.after {w W W2:World} {b1 b2 b3 b4:Nat} {P:Nat→Prop} {v v2:Value} {rl rl2:List S68} {a:Int} {b:Bool} {x0 x1 x2 x3:Int} (h:RSt w W b1 b2 b3 b4 P v rl a b x0 x1 x2 x3)
  (hV:Kd.V k68 68 W2 W.heap.size (fun k=>((P k ∨ w.heap.size≤k)∧k ≠ b1∧k ≠ b2∧k ≠ b3∧k ≠ b4) ∨ W.heap.size≤k) v2 rl2) (hb:Below W.heap.size W W2) :
  Kd.V k68 68 W2 w.heap.size (fun k=>(P k ∨ w.heap.size≤k)∧k ≠ b1∧k ≠ b2∧k ≠ b3∧k ≠ b4) v2 rl2:=by
 have hs:=h.bel.size
 have k1:=qbF h.r;have k2:=qbF h.o;have k3:=qbF h.q;have k4:=qbF h.x
 exact Kd.V_map (Kd.V_mono hV (fun k hk=>by
  rcases hk with hk|hk
  ·exact hk
  ·exact ⟨Or.inr (by omega),by omega,by omega,by omega,by omega⟩)) (fun _ hf=>hf)
set_option maxHeartbeats 4000000 in
set_option maxRecDepth 100000 in
theorem sawmillref37_stage.calls (k:Nat) (P0_0_:Nat→Prop) (A0_0:Option Addr) (c0_0:Nat) (l0_0:List (S68)) (a0_1:Int) (a0_2:Bool) (r1:List (S68)) (r2:Int) (r3:Bool) (r4:Int) (r5:Int) (r6:Int) (r7:Int) (w:World) (hs0_0:Kd.V k68 68 w w.heap.size (fun k_=>P0_0_ k_) (.slice A0_0 l0_0.length c0_0) l0_0) (h:sawmillref37_stage.f k l0_0 a0_1 a0_2=some (r1,r2,r3,r4,r5,r6,r7)) :
  Calls Tryd.prog 60 #[.agg #[.slice A0_0 l0_0.length c0_0,.int .i64 a0_1,.bool a0_2]] w fun e w'=>∃ v0_:Value,e=.returned (.tuple #[.agg #[v0_,.int .i64 r2,.bool r3],.agg #[.int .i64 r4,.int .i64 r5,.int .i64 r6,.int .i64 r7]])∧Kd.V k68 68 w' w.heap.size (fun k_=>(P0_0_ k_ ∨ w.heap.size≤k_)) v0_ r1∧Below w.heap.size w w':=by
 have HS:=Aside0.mk hs0_0
 have HF:=Aside0.mk h
 clear hs0_0 h
 have hur:=Tryd.underlying72
 have hu:=Tryd.underlying52
 go_enter Tryd.func60,Tryd.ntmps60
 go_wp2_with fail
 have H0:RSt w ((((w.alloc (.cells #[.slice A0_0 l0_0.length c0_0,.int .i64 a0_1,.bool a0_2] 72)).alloc (.cells #[.slice none 0 0,.int .i64 0,.bool false] 72)).alloc (.cells #[.int .i64 0,.int .i64 0,.int .i64 0,.int .i64 0] 52)).alloc (.cells #[.int .i64 0,.int .i64 0,.int .i64 0,.int .i64 0] 52)) w.heap.size (w.heap.size+1) (w.heap.size+2) (w.heap.size+3) P0_0_ (.slice A0_0 l0_0.length c0_0) l0_0 a0_1 a0_2 0 0 0 0 :=
  ⟨qaG (qaG (qaG (heap_alloc_new _ _) _) _) _,qaG (qaG (by simpa using heap_alloc_new (w.alloc (.cells #[.slice A0_0 l0_0.length c0_0,.int .i64 a0_1,.bool a0_2] 72)) (.cells #[.slice none 0 0,.int .i64 0,.bool false] 72)) _) _,
   qaG (by simpa using heap_alloc_new ((w.alloc (.cells #[.slice A0_0 l0_0.length c0_0,.int .i64 a0_1,.bool a0_2] 72)).alloc (.cells #[.slice none 0 0,.int .i64 0,.bool false] 72)) (.cells #[.int .i64 0,.int .i64 0,.int .i64 0,.int .i64 0] 52)) _,by simpa using heap_alloc_new (((w.alloc (.cells #[.slice A0_0 l0_0.length c0_0,.int .i64 a0_1,.bool a0_2] 72)).alloc (.cells #[.slice none 0 0,.int .i64 0,.bool false] 72)).alloc (.cells #[.int .i64 0,.int .i64 0,.int .i64 0,.int .i64 0] 52)) (.cells #[.int .i64 0,.int .i64 0,.int .i64 0,.int .i64 0] 52),
   Kd.V_alloc (Kd.V_alloc (Kd.V_alloc (Kd.V_alloc (Kd.V_mono (Kd.V_bound HS.out) (fun k hk=>⟨Or.inl hk.1,by omega,by omega,by omega,by omega⟩)) _) _) _) _,qaB (qaB (qaB (qaB (Below.refl _ _) _) _) _) _,Nat.le_refl _,by omega,by omega,by omega⟩
 obtain ⟨b1,hb1⟩:∃ b,b=w.heap.size:=⟨_,rfl⟩
 obtain ⟨b2,hb2⟩:∃ b,b=w.heap.size+1:=⟨_,rfl⟩
 obtain ⟨b3,hb3⟩:∃ b,b=w.heap.size+2:=⟨_,rfl⟩
 obtain ⟨b4,hb4⟩:∃ b,b=w.heap.size+3:=⟨_,rfl⟩
 have H1:Aside0 (RSt w ((((w.alloc (.cells #[.slice A0_0 l0_0.length c0_0,.int .i64 a0_1,.bool a0_2] 72)).alloc (.cells #[.slice none 0 0,.int .i64 0,.bool false] 72)).alloc (.cells #[.int .i64 0,.int .i64 0,.int .i64 0,.int .i64 0] 52)).alloc (.cells #[.int .i64 0,.int .i64 0,.int .i64 0,.int .i64 0] 52)) b1 b2 b3 b4 P0_0_ (.slice A0_0 l0_0.length c0_0) l0_0 a0_1 a0_2 0 0 0 0):=⟨by rw [hb1,hb2,hb3,hb4];exact H0⟩
 rw [← hb4,← hb3,← hb2,← hb1]
 clear H0 hb1 hb2 hb3 hb4 HS
 have hf:=HF.out
 unfold sawmillref37_stage.f at hf
 obtain ⟨⟨p1l,p1a,p1b,p1n⟩,a1,hf⟩:=Option.bind_eq_some_iff.mp hf
 obtain ⟨⟨p2l,p2a,p2b,p2n⟩,a2,hf⟩:=Option.bind_eq_some_iff.mp hf
 have A1:=Aside0.mk a1
 have A2:Aside0 (sawmillref37_part.f k p1l p1a p1b _=some (p2l,p2a,p2b,p2n)):=⟨a2⟩
 have HJ:Aside0 (∃ kq,sawmillref37_stage.j1 (kq+1) p2l p2a (if p1n=0∧p2n=0 then true else p2b) p1n p2n 0 0=some (r1,r2,r3,r4,r5,r6,r7)):=⟨by
  clear a1 a2
  simp only [] at hf
  have hj:∀ x,sawmillref37_stage.j0 k x p2l p2a p2b p1n p2n 0 0=some (r1,r2,r3,r4,r5,r6,r7)→∃ kq,sawmillref37_stage.j1 (kq+1) p2l p2a (if x=true then true else p2b) p1n p2n 0 0=some (r1,r2,r3,r4,r5,r6,r7):=by
   intro x hx
   cases k with
   | zero=>simp [sawmillref37_stage.j0] at hx
   | succ k =>
    cases k with
    | zero=>cases x<;>simp [sawmillref37_stage.j0,sawmillref37_stage.j1] at hx
    | succ k =>
     rw [sawmillref37_stage.j0] at hx
     cases x
     ·exact ⟨k,hx⟩
     ·exact ⟨k,hx⟩
  by_cases z1:p1n=0
  ·rw [if_pos z1] at hf
   obtain ⟨kq,hk⟩:=hj _ hf
   by_cases z2:p2n=0
   ·rw [if_pos ⟨z1,z2⟩]
    rw [if_pos (beq_iff_eq.mpr z2)] at hk
    exact ⟨kq,hk⟩
   ·rw [if_neg (fun h=>z2 h.2)]
    rw [if_neg (by simpa using z2)] at hk
    exact ⟨kq,hk⟩
  ·rw [if_neg z1] at hf
   obtain ⟨kq,hk⟩:=hj _ hf
   rw [if_neg (fun h=>z1 h.1)]
   exact ⟨kq,hk⟩⟩
 clear a1 a2 hf HF
 refine (sawmillref37_part.calls k _ _ _ l0_0 a0_1 a0_2 _ p1l p1a p1b p1n _ H1.out.Vb A1.out).mono ?_
 rintro e w1 ⟨v1,rfl,hV,hb⟩
 obtain ⟨vA1,vc1,rfl⟩:=Kd.V_slice hV
 have H2:=Aside0.mk (H1.out.call hV hb p1a p1b)
 have HX:=Aside0.mk (qaS H1.out.x hb)
 have HRr:=Aside0.mk (qaS H1.out.r hb)
 have HN:=Aside0.mk H1.out.n12
 clear H1 hV hb A1
 have hr0:=qaE HRr.out 0;have hr1:=qaE HRr.out 1;have hr2:=qaE HRr.out 2
 have hs0:=qaD HRr.out 0;have hs1:=qaD HRr.out 1;have hs2:=qaD HRr.out 2
 have hx0:=qaE HX.out 0
 have hy0:=qaD HX.out 0
 simp at hr0 hr1 hr2 hx0
 have hn14:=HN.out.2.2.1
 go_wp2_with fail
 have H3:=Aside0.mk (H2.out.put (y0:=p1n) (y1:=0) (y2:=0) (y3:=0) 0 p1n rfl)
 clear H2 hr0 hr1 hr2 hs0 hs1 hs2 hx0 hy0 HX HRr
 refine (sawmillref37_part.calls k _ _ _ p1l p1a p1b _ p2l p2a p2b p2n _ H3.out.Vb A2.out).mono ?_
 rintro e w2 ⟨v2,rfl,hV,hb⟩
 obtain ⟨vA2,vc2,rfl⟩:=Kd.V_slice hV
 have H4:=Aside0.mk (H3.out.call hV hb p2a p2b)
 have HX:=Aside0.mk (qaS H3.out.x hb)
 have HRr:=Aside0.mk (qaS H3.out.r hb)
 clear H3 hV hb A2
 have hr0:=qaE HRr.out 0;have hr1:=qaE HRr.out 1;have hr2:=qaE HRr.out 2
 have hs0:=qaD HRr.out 0;have hs1:=qaD HRr.out 1;have hs2:=qaD HRr.out 2
 have hx0:=qaE HX.out 0;have hx1:=qaE HX.out 1
 have hy0:=qaD HX.out 0;have hy1:=qaD HX.out 1
 simp at hr0 hr1 hr2 hx0 hx1
 have hn41:b4 ≠ b1:=hn14.symm
 go_upto_region 4 with fail
 have H5:=Aside0.mk (H4.out.put (y0:=p1n) (y1:=p2n) (y2:=0) (y3:=0) 1 p2n rfl)
 clear H4
 go_cut [25] (fun v25 wc=>∃ bz:Bool,v25=.bool bz∧Aside0 (bz=(decide (p1n=0) && decide (p2n=0)))∧Aside0 (RSt w wc b1 b2 b3 b4 P0_0_ (.slice vA2 p2l.length vc2) p2l p2a p2b p1n p2n 0 0))
 case first =>
  clear HJ
  by_cases z1:p1n=0
  ·have hz1:(p1n == 0)=true:=beq_iff_eq.mpr z1
   by_cases z2:p2n=0
   ·have hz2:(p2n == 0)=true:=beq_iff_eq.mpr z2
    have HBB:=Aside0.mk (show true=(decide (p1n=0) && decide (p2n=0)) by simp [z1,z2])
    clear z1 z2
    go_wp2_with fail
    go_meet
    case rel=>exact ⟨true,rfl,HBB,H5⟩
   ·have hz2:(p2n == 0)=false:=beq_eq_false_iff_ne.mpr z2
    have HBB:=Aside0.mk (show false=(decide (p1n=0) && decide (p2n=0)) by simp [z2])
    clear z1 z2
    go_wp2_with fail
    go_meet
    case rel=>exact ⟨false,rfl,HBB,H5⟩
  ·have hz1:(p1n == 0)=false:=beq_eq_false_iff_ne.mpr z1
   have HBB:=Aside0.mk (show false=(decide (p1n=0) && decide (p2n=0)) by simp [z1])
   clear z1
   go_wp2_with fail
   go_meet
   case rel=>exact ⟨false,rfl,HBB,H5⟩
 case rest =>
 obtain ⟨bz,rfl,HZ,H5'⟩:=hcut
 clear H5 hr0 hr1 hr2 hs0 hs1 hs2 hx0 hx1 hy0 hy1 HX HRr
 have hr2:=qaE H5'.out.r 2
 have hs2:=qaD H5'.out.r 2
 simp at hr2
 go_upto_if 25 with (fail)
 go_cut [] (fun wc=>∃ bb:Bool,Aside0 (bb=(if p1n=0∧p2n=0 then true else p2b))∧Aside0 (RSt w wc b1 b2 b3 b4 P0_0_ (.slice vA2 p2l.length vc2) p2l p2a bb p1n p2n 0 0))
 case first =>
  clear HJ
  cases bz
  ·have HBB:=Aside0.mk (show p2b=(if p1n=0∧p2n=0 then true else p2b) by rw [if_neg];rintro ⟨z1,z2⟩;have:=HZ.out;simp [z1,z2] at this)
   go_wp2_with fail
   go_meet
   case rel=>exact ⟨p2b,HBB,H5'⟩
  ·have HBB:=Aside0.mk (show true=(if p1n=0∧p2n=0 then true else p2b) by rw [if_pos (by have:=HZ.out;simpa using this.symm)])
   go_wp2_with fail
   go_meet
   case rel=>exact ⟨true,HBB,⟨H5'.out.bad⟩⟩
 case rest =>
  obtain ⟨bb,HBB,H6⟩:=hcut
  clear H5' hr2 hs2 HZ
  have hj:=HJ.out
  rw [← HBB.out] at hj
  clear HJ HBB
  obtain ⟨kq,hj⟩:=hj
  rw [sawmillref37_stage.j1] at hj
  obtain ⟨⟨t1l,t1a,t1b⟩,a1,hj⟩:=Option.bind_eq_some_iff.mp hj
  obtain ⟨⟨t2l,t2a,t2b,t2n⟩,a2,hj⟩:=Option.bind_eq_some_iff.mp hj
  obtain ⟨⟨t3l,t3a,t3b⟩,a3,hj⟩:=Option.bind_eq_some_iff.mp hj
  obtain ⟨⟨t4l,t4a,t4b,t4n⟩,a4,hj⟩:=Option.bind_eq_some_iff.mp hj
  obtain ⟨⟨t5l,t5a,t5b⟩,a5,hj⟩:=Option.bind_eq_some_iff.mp hj
  have A1:=Aside0.mk a1
  have A2:Aside0 (sawmillref37_number.f t1l t1a t1b=some (t2l,t2a,t2b,t2n)):=⟨a2⟩
  have A3:Aside0 (sawmillref37_take.f t2l t2a t2b 3 _=some (t3l,t3a,t3b)):=⟨a3⟩
  have A4:Aside0 (sawmillref37_number.f t3l t3a t3b=some (t4l,t4a,t4b,t4n)):=⟨a4⟩
  have A5:Aside0 (sawmillref37_take.f t4l t4a t4b 3 _=some (t5l,t5a,t5b)):=⟨a5⟩
  simp only [Option.some.injEq,Prod.mk.injEq] at hj
  obtain ⟨rfl,rfl,rfl,rfl,rfl,rfl,rfl⟩:=hj
  clear a1 a2 a3 a4 a5
  have hr0:=qaE H6.out.r 0;have hr1:=qaE H6.out.r 1;have hr2:=qaE H6.out.r 2
  simp at hr0 hr1 hr2
  go_wp2_with fail
  refine (sawmillref37_take.calls _ _ _ p2l p2a bb 1 _ t1l t1a t1b _ H6.out.Vb A1.out).mono ?_
  rintro e w3 ⟨v3,rfl,hV,hb⟩
  obtain ⟨vA3,vc3,rfl⟩:=Kd.V_slice hV
  have H7:=Aside0.mk (H6.out.call hV hb t1a t1b)
  have HRr:=Aside0.mk (qaS H6.out.r hb)
  clear H6 hV hb A1 hr0 hr1 hr2
  have hr0:=qaE HRr.out 0;have hr1:=qaE HRr.out 1;have hr2:=qaE HRr.out 2
  have hs0:=qaD HRr.out 0;have hs1:=qaD HRr.out 1;have hs2:=qaD HRr.out 2
  simp at hr0 hr1 hr2
  go_wp2_with fail
  refine (sawmillref37_number.calls _ _ _ t1l t1a t1b t2l t2a t2b t2n _ H7.out.Vb A2.out).mono ?_
  rintro e w4 ⟨v4,rfl,hV,hb⟩
  obtain ⟨vA4,vc4,rfl⟩:=Kd.V_slice hV
  have H8:=Aside0.mk (H7.out.call hV hb t2a t2b)
  have HX:=Aside0.mk (qaS H7.out.x hb)
  clear HRr hr0 hr1 hr2 hs0 hs1 hs2
  have HRr:=Aside0.mk (qaS H7.out.r hb)
  clear H7 hV hb A2
  have hr0:=qaE HRr.out 0;have hr1:=qaE HRr.out 1;have hr2:=qaE HRr.out 2
  have hs0:=qaD HRr.out 0;have hs1:=qaD HRr.out 1;have hs2:=qaD HRr.out 2
  have hx2:=qaE HX.out 2
  have hy2:=qaD HX.out 2
  simp at hr0 hr1 hr2 hx2
  go_wp2_with fail
  have H9:=Aside0.mk (H8.out.put (y0:=p1n) (y1:=p2n) (y2:=t2n) (y3:=0) 2 t2n rfl)
  clear H8
  refine (sawmillref37_take.calls _ _ _ t2l t2a t2b 3 _ t3l t3a t3b _ H9.out.Vb A3.out).mono ?_
  rintro e w5 ⟨v5,rfl,hV,hb⟩
  obtain ⟨vA5,vc5,rfl⟩:=Kd.V_slice hV
  have H10:=Aside0.mk (H9.out.call hV hb t3a t3b)
  clear HRr HX hr0 hr1 hr2 hs0 hs1 hs2 hx2 hy2
  have HRr:=Aside0.mk (qaS H9.out.r hb)
  clear H9 hV hb A3
  have hr0:=qaE HRr.out 0;have hr1:=qaE HRr.out 1;have hr2:=qaE HRr.out 2
  have hs0:=qaD HRr.out 0;have hs1:=qaD HRr.out 1;have hs2:=qaD HRr.out 2
  simp at hr0 hr1 hr2
  go_wp2_with fail
  refine (sawmillref37_number.calls _ _ _ t3l t3a t3b t4l t4a t4b t4n _ H10.out.Vb A4.out).mono ?_
  rintro e w6 ⟨v6,rfl,hV,hb⟩
  obtain ⟨vA6,vc6,rfl⟩:=Kd.V_slice hV
  have H11:=Aside0.mk (H10.out.call hV hb t4a t4b)
  have HX:=Aside0.mk (qaS H10.out.x hb)
  clear HRr hr0 hr1 hr2 hs0 hs1 hs2
  have HRr:=Aside0.mk (qaS H10.out.r hb)
  clear H10 hV hb A4
  have hr0:=qaE HRr.out 0;have hr1:=qaE HRr.out 1;have hr2:=qaE HRr.out 2
  have hs0:=qaD HRr.out 0;have hs1:=qaD HRr.out 1;have hs2:=qaD HRr.out 2
  have hx3:=qaE HX.out 3
  have hy3:=qaD HX.out 3
  simp at hr0 hr1 hr2 hx3
  go_wp2_with fail
  have H12:=Aside0.mk (H11.out.put (y0:=p1n) (y1:=p2n) (y2:=t2n) (y3:=t4n) 3 t4n rfl)
  clear H11
  clear HRr HX hr0 hr1 hr2 hs0 hs1 hs2 hx3 hy3
  have H13:=Aside0.mk H12.out.drew
  refine start_ (n:=5) (S:=fun w'=>w'.heap[b1]?=some (.cells #[.slice vA6 t4l.length vc6,.int .i64 t4a,.bool t4b] 72 (0,0))∧w'.heap[b4]?=some (.cells #[.int .i64 p1n,.int .i64 p2n,.int .i64 t2n,.int .i64 t4n] 52 (0,0))) (ds:=[]) (bitsA 5 0) (by kernel_rfl) rfl rfl ⟨H12.out.r,H12.out.x⟩ (fun hHeld=>?_)
  clear H12
  generalize World.drew _=w8 at H13 hHeld ⊢
  refine take_ (i:=0) (N:=some 43) (v:=?_) (a':=?_) (bitsA 5 1) rfl rfl (by kernel_rfl) (fun _ _ _ h=>h) (Or.inl ⟨by rfl,?_⟩) hHeld ?_ ?_
  rotate_left
  ·rintro w' ⟨s0,s1⟩
   have hr0:=qaE s0 0;have hr1:=qaE s0 1;have hr2:=qaE s0 2
   simp at hr0 hr1 hr2
   go_simp
   with_reducible rfl
  rotate_left
  ·simp only [Act.put,List.setIfInBounds_toArray,List.set_cons_zero,List.set_cons_succ,qaX,qaY]
   rfl
  refine take_ (i:=2) (N:=some 45) (v:=?_) (a':=?_) (bitsA 5 5) rfl rfl (by kernel_rfl) (fun _ _ _ h=>h) (Or.inl ⟨by rfl,?_⟩) hHeld ?_ ?_
  rotate_left
  ·rintro w' ⟨s0,s1⟩
   have hr0:=qaE s1 0;have hr1:=qaE s1 1;have hr2:=qaE s1 2;have hr3:=qaE s1 3
   simp at hr0 hr1 hr2 hr3
   go_simp
   with_reducible rfl
  rotate_left
  ·simp only [Act.put,List.setIfInBounds_toArray,List.set_cons_zero,List.set_cons_succ,qaX,qaY]
   rfl
  refine one_ (i:=1) (N:=some 44) (bitsA 5 7) rfl rfl (by kernel_rfl) (by decide) (fun K hK=>?_)
  refine goes_ Tryd.func57 (by kernel_rfl) rfl #[.agg #[.slice vA6 t4l.length vc6,.int .i64 t4a,.bool t4b],.int .i64 3,.string (⟨#[59]⟩:ByteArray)] (by rfl) rfl rfl (by simp only [List.map_toArray,List.map_cons,List.map_nil];rfl) ?_
  refine (sawmillref37_take.calls _ _ _ t4l t4a t4b 3 _ t5l t5a t5b _ H13.out.Vb A5.out).mono ?_
  rintro e w9 ⟨v7,rfl,hV,hb⟩
  refine ⟨_,rfl,?_⟩
  obtain ⟨vA7,vc7,rfl⟩:=Kd.V_slice hV
  have HV:=Aside0.mk (H13.out.after hV hb)
  have HR:=Aside0.mk (qaS H13.out.r hb)
  have HO:=Aside0.mk (qaS H13.out.o hb)
  have HQ:=Aside0.mk (qaS H13.out.q hb)
  have HX:=Aside0.mk (qaS H13.out.x hb)
  have HB:=Aside0.mk (qaN H13.out.bel hb)
  have HL:=Aside0.mk (⟨H13.out.l0,H13.out.l1,H13.out.l2,H13.out.l3⟩:w.heap.size≤b1∧b1 < b2∧b2 < b3∧b3 < b4)
  clear hV hb H13 A5
  refine hK.out _ _ ⟨HR.out,HX.out⟩ (fun hHeld=>?_)
  clear hK K
  refine norm_ (a':=?_) ?_ ?_
  rotate_left
  ·show Act.put _ (some 44) _=_
   simp only [Act.put,List.setIfInBounds_toArray,List.set_cons_zero,List.set_cons_succ,qaX,qaY]
   rfl
  refine one_ (i:=3) (N:=none) (bitsA 5 15) rfl rfl (by kernel_rfl) (by decide) (fun K hK=>?_)
  have n12:b1 ≠ b2:=by have:=HL.out;omega
  have n42:b4 ≠ b2:=by have:=HL.out;omega
  have n13:b1 ≠ b3:=by have:=HL.out;omega
  have n43:b4 ≠ b3:=by have:=HL.out;omega
  have n32:b3 ≠ b2:=by have:=HL.out;omega
  have n23:b2 ≠ b3:=n32.symm
  have ho0:=qaE HO.out 0;have ho1:=qaE HO.out 1;have ho2:=qaE HO.out 2
  have hp0:=qaD HO.out 0;have hp1:=qaD HO.out 1;have hp2:=qaD HO.out 2
  have hq0:=qaE HQ.out 0;have hq1:=qaE HQ.out 1;have hq2:=qaE HQ.out 2;have hq3:=qaE HQ.out 3
  have hu0:=qaD HQ.out 0;have hu1:=qaD HQ.out 1;have hu2:=qaD HQ.out 2;have hu3:=qaD HQ.out 3
  simp at ho0 ho1 ho2 hq0 hq1 hq2 hq3
  refine skip_ (w1:=?_) (by rfl) rfl ?_ ?_
  rotate_left
  ·go_simp
   rfl
  refine hK.out _ _ ⟨qbZ HR.out n12 _ _ _,qbZ HX.out n42 _ _ _⟩ (fun hHeld=>?_)
  clear hK K
  refine one_ (i:=4) (N:=none) (bitsA 5 31) rfl rfl (by kernel_rfl) (by decide) (fun K hK=>?_)
  refine skip_ (w1:=?_) (by rfl) rfl ?_ ?_
  rotate_left
  ·go_simp
   rfl
  refine hK.out _ _ ⟨qbI (qbZ (qbZ HR.out n12 _ _ _) n13 _ _ _) n13 _,qbI (qbZ (qbZ HX.out n42 _ _ _) n43 _ _ _) n43 _⟩ (fun hHeld=>?_)
  clear hK K
  refine done_ (by kernel_rfl) ?_
  try go_wp2
  have hb2:w.heap.size≤b2:=by have:=HL.out;omega
  have hb3:w.heap.size≤b3:=by have:=HL.out;omega
  refine bodyPost_ret (results_cc rfl _ _ b2 b3 72 52 #[.slice vA7 t5l.length vc7,.int .i64 t5a,.bool t5b] #[.int .i64 p1n,.int .i64 p2n,.int .i64 t2n,.int .i64 t4n] (0,0) (0,0) _ _ rfl (qbI (qbZ (blk_put3' HO.out) n23 _ _ _) n23 _) hur rfl (by kernel_rfl) rfl (qaR (qaR (qaR (qaR (qbZ HQ.out n32 _ _ _) 0 _ rfl) 1 _ rfl) 2 _ rfl) 3 _ rfl) hu rfl (by kernel_rfl)) rfl ?_
  exact ⟨_,rfl,Kd.V_mono (Kd.V_far (p:=⟨b3,3,none⟩) (V_far3 (V_far3 HV.out (fun k hk=>hk.2.2.1) _ _ _) (fun k hk=>hk.2.2.2.1) _ _ _) (fun k hk=>hk.2.2.2.1) _) (fun k hk=>hk.1),qaF (qaF (qaF (qaF (qaF (qaF (qaF HB.out hb2) hb2) hb2) hb3) hb3) hb3) hb3⟩
end Go.Proofs.YtehdmplngmbnnaaDoor.P
namespace Go.Proofs.YtehdmplngmbnnaaDoor.P
open Go.RowKit Go.Proofs.YtehdmplngmbnnaaDoorW.PrintWords Go.Proofs.YtehdmplngmbnnaaDoorW.PrintLast Go.Proofs.YtehdmplngmbnnaaDoorW.PrintMore
set_option linter.unusedVariables false
set_option linter.unusedSimpArgs false
mutual
def sawmillref37_schedule.j0:Nat→Bool→List (S68)→Int→Bool→ByteArray→Int→Option ((List (S68)) × Int × Bool × ByteArray × Int × (List (S52)))
 | 0,_,_,_,_,_,_=>none
 | k+1,x20,x102000,x102001,x102002,x105000,x105001=>if x20=true then (some (x102000,x102001,true,x105000,x105001,([]:List (S52)))) else (if 0≤x102001 then (if x102001 < (x102000.length:Int) then ((sawmillref37_take.f x102000 (wrap64 (x102001+1)) x102002 1 (⟨#[114,97,109,112]⟩:ByteArray)).bind fun bt112=>((sawmillref37_number.f bt112.1 bt112.2.1 bt112.2.2).bind fun bt117=>((sawmillref37_take.f bt117.1 bt117.2.1 bt117.2.2.1 3 (⟨#[58]⟩:ByteArray)).bind fun bt123=>(sawmillref37_schedule.l0 k bt123.1 bt123.2.1 bt123.2.2 ((qaZ x102000 x102001).f1) bt117.2.2.2 ([]:List (S52)))))) else (none)) else (none))
def sawmillref37_schedule.l0:Nat→List (S68)→Int→Bool→ByteArray→Int→List (S52)→Option ((List (S68)) × Int × Bool × ByteArray × Int × (List (S52)))
 | 0,_,_,_,_,_,_=>none
 | k+1,x102000,x102001,x102002,x105000,x105001,x105002=>if x102002=true then (some (x102000,x102001,x102002,x105000,x105001,x105002)) else (if 0≤x102001 then (if x102001 < (x102000.length:Int) then (if ((qaZ x102000 x102001).f0)=0 then (some (x102000,x102001,x102002,x105000,x105001,x105002)) else ((sawmillref37_is.f x102000 x102001 x102002 1 (⟨#[115,99,104,101,100,117,108,101]⟩:ByteArray)).bind fun t129=>(if t129=true then (some (x102000,x102001,x102002,x105000,x105001,x105002)) else ((sawmillref37_stage.f k x102000 x102001 x102002).bind fun bt131=>(if x105002.length < 4398046511104 then (sawmillref37_schedule.l0 k bt131.1 bt131.2.1 bt131.2.2.1 x105000 x105001 (x105002++[(⟨bt131.2.2.2.1,bt131.2.2.2.2.1,bt131.2.2.2.2.2.1,bt131.2.2.2.2.2.2⟩:S52)])) else (none)))))) else (none)) else (none))
end
def sawmillref37_schedule.f (k:Nat) (l0_0:List (S68)) (a0_1:Int) (a0_2:Bool):Option ((List (S68)) × Int × Bool × ByteArray × Int × (List (S52))):=(sawmillref37_take.f l0_0 a0_1 a0_2 1 (⟨#[115,99,104,101,100,117,108,101]⟩:ByteArray)).bind fun bt105=>(if bt105.2.2=true then (sawmillref37_schedule.j0 k true bt105.1 bt105.2.1 bt105.2.2 (⟨#[]⟩:ByteArray) 0) else (if 0≤bt105.2.1 then (if bt105.2.1 < (bt105.1.length:Int) then (sawmillref37_schedule.j0 k (((qaZ bt105.1 bt105.2.1).f0) != 1) bt105.1 bt105.2.1 bt105.2.2 (⟨#[]⟩:ByteArray) 0) else (none)) else (none)))
structure SSt (w W:World) (b1 b2 b3 b4:Nat) (P:Nat→Prop) (v:Value) (rl:List S68) (a:Int) (b:Bool) (nm:ByteArray) (rr:Int) (sv:Value) (st:List S52):Prop where
 r:W.heap[b1]?=some (.cells #[v,.int .i64 a,.bool b] 72 (0,0))
 o:W.heap[b2]?=some (.cells #[.slice none 0 0,.int .i64 0,.bool false] 72 (0,0))
 q:W.heap[b3]?=some (.cells #[.string ⟨#[]⟩,.int .i64 0,.slice none 0 0] 24 (0,0))
 x:W.heap[b4]?=some (.cells #[.string nm,.int .i64 rr,sv] 24 (0,0))
 V:Kd.V k68 68 W w.heap.size (fun k=>(P k ∨ w.heap.size≤k)∧(k ≠ b1∧k ≠ b2∧k ≠ b3∧k ≠ b4)∧some k ≠ sv.ownBlock) v rl
 R:Kd.R k52 52 W w.heap.size (fun k=>w.heap.size≤k∧(k ≠ b1∧k ≠ b2∧k ≠ b3∧k ≠ b4)) sv st
 bel:Below w.heap.size w W
 l0:w.heap.size≤b1
 l1:b1 < b2
 l2:b2 < b3
 l3:b3 < b4
theorem SSt.lts {w W:World} {b1 b2 b3 b4:Nat} {P:Nat→Prop} {v:Value} {rl:List S68} {a:Int} {b:Bool} {nm:ByteArray} {rr:Int} {sv:Value} {st:List S52} (h:SSt w W b1 b2 b3 b4 P v rl a b nm rr sv st):b1 < W.heap.size∧b2 < W.heap.size∧b3 < W.heap.size∧b4 < W.heap.size:=⟨qbF h.r,qbF h.o,qbF h.q,qbF h.x⟩
theorem SSt.n12 {w W:World} {b1 b2 b3 b4:Nat} {P:Nat→Prop} {v:Value} {rl:List S68} {a:Int} {b:Bool} {nm:ByteArray} {rr:Int} {sv:Value} {st:List S52} (h:SSt w W b1 b2 b3 b4 P v rl a b nm rr sv st):b1 ≠ b2∧b1 ≠ b3∧b1 ≠ b4∧b2 ≠ b4∧b3 ≠ b4∧b4 ≠ b1:=by
 have:=h.l1;have:=h.l2;have:=h.l3
 omega
theorem SSt.below {w W:World} {b1 b2 b3 b4:Nat} {P:Nat→Prop} {v:Value} {rl:List S68} {a:Int} {b:Bool} {nm:ByteArray} {rr:Int} {sv:Value} {st:List S52} {W2:World} (h:SSt w W b1 b2 b3 b4 P v rl a b nm rr sv st) (hb:Below W.heap.size W W2):SSt w W2 b1 b2 b3 b4 P v rl a b nm rr sv st :=
 ⟨qaS h.r hb,qaS h.o hb,qaS h.q hb,qaS h.x hb,Kd.V_below h.V hb,Kd.R_below h.R hb,qaN h.bel hb,h.l0,h.l1,h.l2,h.l3⟩
theorem SSt.Vb {w W:World} {b1 b2 b3 b4:Nat} {P:Nat→Prop} {v:Value} {rl:List S68} {a:Int} {b:Bool} {nm:ByteArray} {rr:Int} {sv:Value} {st:List S52} (h:SSt w W b1 b2 b3 b4 P v rl a b nm rr sv st):Kd.V k68 68 W W.heap.size (fun k=>(P k ∨ w.heap.size≤k)∧(k ≠ b1∧k ≠ b2∧k ≠ b3∧k ≠ b4)∧some k ≠ sv.ownBlock) v rl:=Kd.V_map h.V (fun _ hf=>hf)
theorem SSt.C {w W:World} {b1 b2 b3 b4:Nat} {P:Nat→Prop} {v:Value} {rl:List S68} {a:Int} {b:Bool} {nm:ByteArray} {rr:Int} {sv:Value} {st:List S52} (h:SSt w W b1 b2 b3 b4 P v rl a b nm rr sv st) {A:Option Addr} {n c:Nat} (hv:v=.slice A n c):n=rl.length∧n≤c∧Kd.C k68 W A rl.length rl:=by
 have:=h.V
 rw [hv] at this
 exact Kd.V_reads' this
theorem SSt.call {w W:World} {b1 b2 b3 b4:Nat} {P:Nat→Prop} {v:Value} {rl:List S68} {a:Int} {b:Bool} {nm:ByteArray} {rr:Int} {sv:Value} {st:List S52} {W2:World} {v2:Value} {rl2:List S68} (h:SSt w W b1 b2 b3 b4 P v rl a b nm rr sv st)
  (hV:Kd.V k68 68 W2 W.heap.size (fun k=>((P k ∨ w.heap.size≤k)∧(k ≠ b1∧k ≠ b2∧k ≠ b3∧k ≠ b4)∧some k ≠ sv.ownBlock) ∨ W.heap.size≤k) v2 rl2) (hb:Below W.heap.size W W2) (a2:Int) (bb:Bool) :
  SSt w (((W2.setCell ⟨b1,0,none⟩ v2).setCell ⟨b1,1,none⟩ (.int .i64 a2)).setCell ⟨b1,2,none⟩ (.bool bb)) b1 b2 b3 b4 P v2 rl2 a2 bb nm rr sv st:=by
 have hs:=h.bel.size
 obtain ⟨k1,k2,k3,k4⟩:=h.lts
 have hl:=Kd.R_lt h.R
 obtain ⟨n1,n2,n3,-,-,-⟩:=h.n12
 have hV2:Kd.V k68 68 W2 w.heap.size (fun k=>(P k ∨ w.heap.size≤k)∧(k ≠ b1∧k ≠ b2∧k ≠ b3∧k ≠ b4)∧some k ≠ sv.ownBlock) v2 rl2:=Kd.V_map (Kd.V_mono hV (fun k hk=>by
  rcases hk with hk|hk
  ·exact hk
  ·exact ⟨Or.inr (by omega),⟨by omega,by omega,by omega,by omega⟩,fun e_=>by have:=hl k e_.symm;omega⟩)) (fun _ hf=>hf)
 exact ⟨qaR (qaR (qaR (qaS h.r hb) 0 v2 rfl) 1 (.int .i64 a2) rfl) 2 (.bool bb) rfl,
  qbZ (qaS h.o hb) n1.symm _ _ _,qbZ (qaS h.q hb) n2.symm _ _ _,qbZ (qaS h.x hb) n3.symm _ _ _,
  V_far3 hV2 (fun k hk=>hk.2.1.1) _ _ _,R_far3 (Kd.R_below h.R hb) (fun k hk=>hk.2.1) _ _ _,
  qaF (qaF (qaF (qaN h.bel hb) h.l0) h.l0) h.l0,h.l0,h.l1,h.l2,h.l3⟩
theorem SSt.bad {w W:World} {b1 b2 b3 b4:Nat} {P:Nat→Prop} {v:Value} {rl:List S68} {a:Int} {b:Bool} {nm:ByteArray} {rr:Int} {sv:Value} {st:List S52} (h:SSt w W b1 b2 b3 b4 P v rl a b nm rr sv st):SSt w (W.setCell ⟨b1,2,none⟩ (.bool true)) b1 b2 b3 b4 P v rl a true nm rr sv st:=by
 obtain ⟨n1,n2,n3,-,-,-⟩:=h.n12
 exact ⟨qaR h.r 2 _ rfl,qbI (p:=⟨b1,2,none⟩) h.o n1.symm _,qbI (p:=⟨b1,2,none⟩) h.q n2.symm _,qbI (p:=⟨b1,2,none⟩) h.x n3.symm _,Kd.V_far (p:=⟨b1,2,none⟩) h.V (fun k hk=>hk.2.1.1) _,Kd.R_far (p:=⟨b1,2,none⟩) h.R (fun k hk=>hk.2.1) _,qaF h.bel h.l0,h.l0,h.l1,h.l2,h.l3⟩
theorem SSt.at_ {w W:World} {b1 b2 b3 b4:Nat} {P:Nat→Prop} {v:Value} {rl:List S68} {a:Int} {b:Bool} {nm:ByteArray} {rr:Int} {sv:Value} {st:List S52} (h:SSt w W b1 b2 b3 b4 P v rl a b nm rr sv st) (a2:Int):SSt w (W.setCell ⟨b1,1,none⟩ (.int .i64 a2)) b1 b2 b3 b4 P v rl a2 b nm rr sv st:=by
 obtain ⟨n1,n2,n3,-,-,-⟩:=h.n12
 exact ⟨qaR h.r 1 _ rfl,qbI (p:=⟨b1,1,none⟩) h.o n1.symm _,qbI (p:=⟨b1,1,none⟩) h.q n2.symm _,qbI (p:=⟨b1,1,none⟩) h.x n3.symm _,Kd.V_far (p:=⟨b1,1,none⟩) h.V (fun k hk=>hk.2.1.1) _,Kd.R_far (p:=⟨b1,1,none⟩) h.R (fun k hk=>hk.2.1) _,qaF h.bel h.l0,h.l0,h.l1,h.l2,h.l3⟩
theorem SSt.name {w W:World} {b1 b2 b3 b4:Nat} {P:Nat→Prop} {v:Value} {rl:List S68} {a:Int} {b:Bool} {nm:ByteArray} {rr:Int} {sv:Value} {st:List S52} (h:SSt w W b1 b2 b3 b4 P v rl a b nm rr sv st) (n2:ByteArray):SSt w (W.setCell ⟨b4,0,none⟩ (.string n2)) b1 b2 b3 b4 P v rl a b n2 rr sv st:=by
 obtain ⟨-,-,n3,n4,n5,-⟩:=h.n12
 have:=h.l0;have:=h.l1;have:=h.l2;have:=h.l3
 exact ⟨qbI (p:=⟨b4,0,none⟩) h.r n3 _,qbI (p:=⟨b4,0,none⟩) h.o n4 _,qbI (p:=⟨b4,0,none⟩) h.q n5 _,qaR h.x 0 _ rfl,Kd.V_far (p:=⟨b4,0,none⟩) h.V (fun k hk=>hk.2.1.2.2.2) _,Kd.R_far (p:=⟨b4,0,none⟩) h.R (fun k hk=>hk.2.2.2.2) _,qaF h.bel (by omega),h.l0,h.l1,h.l2,h.l3⟩
theorem SSt.ramp {w W:World} {b1 b2 b3 b4:Nat} {P:Nat→Prop} {v:Value} {rl:List S68} {a:Int} {b:Bool} {nm:ByteArray} {rr:Int} {sv:Value} {st:List S52} (h:SSt w W b1 b2 b3 b4 P v rl a b nm rr sv st) (r2:Int):SSt w (W.setCell ⟨b4,1,none⟩ (.int .i64 r2)) b1 b2 b3 b4 P v rl a b nm r2 sv st:=by
 obtain ⟨-,-,n3,n4,n5,-⟩:=h.n12
 have:=h.l0;have:=h.l1;have:=h.l2;have:=h.l3
 exact ⟨qbI (p:=⟨b4,1,none⟩) h.r n3 _,qbI (p:=⟨b4,1,none⟩) h.o n4 _,qbI (p:=⟨b4,1,none⟩) h.q n5 _,qaR h.x 1 _ rfl,Kd.V_far (p:=⟨b4,1,none⟩) h.V (fun k hk=>hk.2.1.2.2.2) _,Kd.R_far (p:=⟨b4,1,none⟩) h.R (fun k hk=>hk.2.2.2.2) _,qaF h.bel (by omega),h.l0,h.l1,h.l2,h.l3⟩
theorem SSt.drew {w W:World} {b1 b2 b3 b4:Nat} {P:Nat→Prop} {v:Value} {rl:List S68} {a:Int} {b:Bool} {nm:ByteArray} {rr:Int} {sv:Value} {st:List S52} (h:SSt w W b1 b2 b3 b4 P v rl a b nm rr sv st):SSt w W.drew b1 b2 b3 b4 P v rl a b nm rr sv st :=
 ⟨qaI h.r,qaI h.o,qaI h.q,qaI h.x,Kd.V_drew h.V,Kd.R_drew h.R,below_drew h.bel,h.l0,h.l1,h.l2,h.l3⟩
theorem SSt.call5 {w W:World} {b1 b2 b3 b4:Nat} {P:Nat→Prop} {v:Value} {rl:List S68} {a:Int} {b:Bool} {nm:ByteArray} {rr:Int} {sv:Value} {st:List S52} {W2:World} {b5:Nat} {v2:Value} {rl2:List S68} {o5:Obj} {z0 z1 z2 z3:Value} (h:SSt w W b1 b2 b3 b4 P v rl a b nm rr sv st) (h5:b5=W.heap.size) (ho:o5=.cells #[z0,z1,z2,z3] 52 (0,0))
  (hV:Kd.V k68 68 W2 (W.alloc o5).heap.size (fun k=>(((P k ∨ w.heap.size≤k)∧(k ≠ b1∧k ≠ b2∧k ≠ b3∧k ≠ b4)∧some k ≠ sv.ownBlock)∧k ≠ b5) ∨ (W.alloc o5).heap.size≤k) v2 rl2) (hb:Below (W.alloc o5).heap.size (W.alloc o5) W2) (a2:Int) (bb:Bool) (y0 y1 y2 y3:Value) :
  SSt w (((((((W2.setCell ⟨b1,0,none⟩ v2).setCell ⟨b1,1,none⟩ (.int .i64 a2)).setCell ⟨b1,2,none⟩ (.bool bb)).setCell ⟨b5,0,none⟩ y0).setCell ⟨b5,1,none⟩ y1).setCell ⟨b5,2,none⟩ y2).setCell ⟨b5,3,none⟩ y3) b1 b2 b3 b4 P v2 rl2 a2 bb nm rr sv st ∧
  (((((((W2.setCell ⟨b1,0,none⟩ v2).setCell ⟨b1,1,none⟩ (.int .i64 a2)).setCell ⟨b1,2,none⟩ (.bool bb)).setCell ⟨b5,0,none⟩ y0).setCell ⟨b5,1,none⟩ y1).setCell ⟨b5,2,none⟩ y2).setCell ⟨b5,3,none⟩ y3).heap[b5]?=some (.cells #[y0,y1,y2,y3] 52 (0,0)):=by
 have hs:=h.bel.size
 obtain ⟨k1,k2,k3,k4⟩:=h.lts
 have hsz:(W.alloc o5).heap.size=W.heap.size+1:=by simp
 rw [hsz] at hV
 have hl:=Kd.R_lt h.R
 obtain ⟨n1,n2,n3,-,-,-⟩:=h.n12
 have m1:b1 ≠ b5:=by omega
 have m2:b2 ≠ b5:=by omega
 have m3:b3 ≠ b5:=by omega
 have m4:b4 ≠ b5:=by omega
 have hw5:w.heap.size≤b5:=by omega
 have hV2:Kd.V k68 68 W2 w.heap.size (fun k=>((P k ∨ w.heap.size≤k)∧(k ≠ b1∧k ≠ b2∧k ≠ b3∧k ≠ b4)∧some k ≠ sv.ownBlock)∧k ≠ b5) v2 rl2:=Kd.V_map (Kd.V_mono hV (fun k hk=>by
  rcases hk with hk|hk
  ·exact hk
  ·exact ⟨⟨Or.inr (by omega),⟨by omega,by omega,by omega,by omega⟩,fun e_=>by have:=hl k e_.symm;omega⟩,by omega⟩)) (fun _ hf=>hf)
 have hR2:Kd.R k52 52 W2 w.heap.size (fun k=>(w.heap.size≤k∧(k ≠ b1∧k ≠ b2∧k ≠ b3∧k ≠ b4))∧k ≠ b5) sv st:=Kd.R_below (Kd.R_alloc (Kd.R_mono (Kd.R_bound h.R) (fun k hk=>⟨hk.1,by have:=hk.2.2.1;omega⟩)) o5) hb
 have hB5:W2.heap[b5]?=some (.cells #[z0,z1,z2,z3] 52 (0,0)):=by
  have:=qaS (heap_alloc_new W o5) hb
  rw [← h5,ho] at this
  exact this
 have fr:=fun {t:Nat} {cs:Array Value} {b0:Nat} (hh:W2.heap[b0]?=some (.cells cs t (0,0))) (hn:b0 ≠ b1) (hm:b0 ≠ b5)=>qbI (p:=⟨b5,3,none⟩) (qbZ (qbZ hh hn v2 (.int .i64 a2) (.bool bb)) hm y0 y1 y2) hm y3
 refine ⟨⟨?_,fr (qaS (qaG h.o o5) hb) n1.symm m2,fr (qaS (qaG h.q o5) hb) n2.symm m3,fr (qaS (qaG h.x o5) hb) n3.symm m4,?_,?_,?_,h.l0,h.l1,h.l2,h.l3⟩,?_⟩
 ·exact qbI (p:=⟨b5,3,none⟩) (qbZ (blk_put3' (qaS (qaG h.r o5) hb)) m1 y0 y1 y2) m1 y3
 ·exact Kd.V_mono (Kd.V_far (p:=⟨b5,3,none⟩) (V_far3 (V_far3 hV2 (fun k hk=>hk.1.2.1.1) v2 (.int .i64 a2) (.bool bb)) (fun k hk=>hk.2) y0 y1 y2) (fun k hk=>hk.2) y3) (fun k hk=>hk.1)
 ·exact Kd.R_mono (Kd.R_far (p:=⟨b5,3,none⟩) (R_far3 (R_far3 hR2 (fun k hk=>hk.1.2.1) v2 (.int .i64 a2) (.bool bb)) (fun k hk=>hk.2) y0 y1 y2) (fun k hk=>hk.2) y3) (fun k hk=>hk.1)
 ·exact qaF (qaF (qaF (qaF (qaF (qaF (qaF (qaN (qaB h.bel _) hb) h.l0) h.l0) h.l0) hw5) hw5) hw5) hw5
 ·exact qaR (qaR (qaR (qaR (qbZ hB5 m1.symm v2 (.int .i64 a2) (.bool bb)) 0 y0 rfl) 1 y1 rfl) 2 y2 rfl) 3 y3 rfl
theorem SSt.grow {w W:World} {b1 b2 b3 b4:Nat} {P:Nat→Prop} {v:Value} {rl:List S68} {a:Int} {b:Bool} {nm:ByteArray} {rr:Int} {sv:Value} {st:List S52} {W4:World} {sv2:Value} {st2:List S52} (h:SSt w W b1 b2 b3 b4 P v rl a b nm rr sv st) (hR:Kd.R k52 52 W4 w.heap.size (fun k=>w.heap.size≤k∧(k ≠ b1∧k ≠ b2∧k ≠ b3∧k ≠ b4)) sv2 st2) (hb:Below w.heap.size w W4) (hg:W.grownBy W4 sv.ownBlock) (hat:sv2.ownBlock=sv.ownBlock ∨ ∃ b,sv2.ownBlock=some b∧W.heap.size≤b) :
  SSt w (W4.setCell ⟨b4,2,none⟩ sv2) b1 b2 b3 b4 P v rl a b nm rr sv2 st2:=by
 obtain ⟨-,-,n3,n4,n5,-⟩:=h.n12
 have hl0:=h.l0;have hl1:=h.l1;have hl2:=h.l2;have hl3:=h.l3
 have hV:Kd.V k68 68 W w.heap.size (fun k=>((P k ∨ w.heap.size≤k)∧(k ≠ b1∧k ≠ b2∧k ≠ b3∧k ≠ b4))∧some k ≠ sv.ownBlock) v rl:=Kd.V_mono h.V (fun k hk=>⟨⟨hk.1,hk.2.1⟩,hk.2.2⟩)
 have hV4:=Kd.V_mono (Kd.V_after hV hg hat) (ok':=fun k=>(P k ∨ w.heap.size≤k)∧(k ≠ b1∧k ≠ b2∧k ≠ b3∧k ≠ b4)∧some k ≠ sv2.ownBlock) (fun k hk=>⟨hk.1.1,hk.1.2,hk.2⟩)
 exact ⟨qbI (p:=⟨b4,2,none⟩) (blk_grown h.r hg (Kd.R_away h.R (fun k hk=>hk.2.1))) n3 _,qbI (p:=⟨b4,2,none⟩) (blk_grown h.o hg (Kd.R_away h.R (fun k hk=>hk.2.2.1))) n4 _,qbI (p:=⟨b4,2,none⟩) (blk_grown h.q hg (Kd.R_away h.R (fun k hk=>hk.2.2.2.1))) n5 _,
  qaR (blk_grown h.x hg (Kd.R_away h.R (fun k hk=>hk.2.2.2.2))) 2 _ rfl,Kd.V_far (p:=⟨b4,2,none⟩) hV4 (fun k hk=>hk.2.1.2.2.2) _,Kd.R_far (p:=⟨b4,2,none⟩) hR (fun k hk=>hk.2.2.2.2) _,qaF hb (by omega),h.l0,h.l1,h.l2,h.l3⟩
set_option maxHeartbeats 4000000 in
set_option maxRecDepth 100000 in
theorem sawmillref37_schedule.calls (k:Nat) (P0_0_:Nat→Prop) (A0_0:Option Addr) (c0_0:Nat) (l0_0:List (S68)) (a0_1:Int) (a0_2:Bool) (r1:List (S68)) (r2:Int) (r3:Bool) (r4:ByteArray) (r5:Int) (r6:List (S52)) (w:World) (hs0_0:Kd.V k68 68 w w.heap.size (fun k_=>P0_0_ k_) (.slice A0_0 l0_0.length c0_0) l0_0) (h:sawmillref37_schedule.f k l0_0 a0_1 a0_2=some (r1,r2,r3,r4,r5,r6)) :
  Calls Tryd.prog 42 #[.agg #[.slice A0_0 l0_0.length c0_0,.int .i64 a0_1,.bool a0_2]] w fun e w'=>∃ v0_ v5_:Value,e=.returned (.tuple #[.agg #[v0_,.int .i64 r2,.bool r3],.agg #[.string r4,.int .i64 r5,v5_]])∧Kd.V k68 68 w' w.heap.size (fun k_=>(P0_0_ k_ ∨ w.heap.size≤k_)∧some k_ ≠ (v5_:Value).ownBlock) v0_ r1∧Kd.R k52 52 w' w.heap.size (fun k_=>(w.heap.size≤k_)) v5_ r6∧Below w.heap.size w w':=by
 have HS:=Aside0.mk hs0_0
 have HF:=Aside0.mk h
 clear hs0_0 h
 have hur:=Tryd.underlying72
 have hus:=Tryd.underlying24
 have hu:=Tryd.underlying52
 have hux:=Tryd.underlying68
 go_enter Tryd.func42,Tryd.ntmps42
 go_wp2_with fail
 have H0:SSt w ((((w.alloc (.cells #[.slice A0_0 l0_0.length c0_0,.int .i64 a0_1,.bool a0_2] 72)).alloc (.cells #[.slice none 0 0,.int .i64 0,.bool false] 72)).alloc (.cells #[.string ⟨#[]⟩,.int .i64 0,.slice none 0 0] 24)).alloc (.cells #[.string ⟨#[]⟩,.int .i64 0,.slice none 0 0] 24)) w.heap.size (w.heap.size+1) (w.heap.size+2) (w.heap.size+3) P0_0_ (.slice A0_0 l0_0.length c0_0) l0_0 a0_1 a0_2 ⟨#[]⟩ 0 (.slice none 0 0) [] :=
  ⟨qaG (qaG (qaG (heap_alloc_new _ _) _) _) _,qaG (qaG (by simpa using heap_alloc_new (w.alloc (.cells #[.slice A0_0 l0_0.length c0_0,.int .i64 a0_1,.bool a0_2] 72)) (.cells #[.slice none 0 0,.int .i64 0,.bool false] 72)) _) _,
   qaG (by simpa using heap_alloc_new ((w.alloc (.cells #[.slice A0_0 l0_0.length c0_0,.int .i64 a0_1,.bool a0_2] 72)).alloc (.cells #[.slice none 0 0,.int .i64 0,.bool false] 72)) (.cells #[.string ⟨#[]⟩,.int .i64 0,.slice none 0 0] 24)) _,by simpa using heap_alloc_new (((w.alloc (.cells #[.slice A0_0 l0_0.length c0_0,.int .i64 a0_1,.bool a0_2] 72)).alloc (.cells #[.slice none 0 0,.int .i64 0,.bool false] 72)).alloc (.cells #[.string ⟨#[]⟩,.int .i64 0,.slice none 0 0] 24)) (.cells #[.string ⟨#[]⟩,.int .i64 0,.slice none 0 0] 24),
   Kd.V_alloc (Kd.V_alloc (Kd.V_alloc (Kd.V_alloc (Kd.V_mono (Kd.V_bound HS.out) (fun k hk=>⟨Or.inl hk.1,⟨by omega,by omega,by omega,by omega⟩,by simp [Value.ownBlock]⟩)) _) _) _) _,Kd.R_nil _ _ _ _ _,qaB (qaB (qaB (qaB (Below.refl _ _) _) _) _) _,Nat.le_refl _,by omega,by omega,by omega⟩
 obtain ⟨b1,hb1⟩:∃ b,b=w.heap.size:=⟨_,rfl⟩
 obtain ⟨b2,hb2⟩:∃ b,b=w.heap.size+1:=⟨_,rfl⟩
 obtain ⟨b3,hb3⟩:∃ b,b=w.heap.size+2:=⟨_,rfl⟩
 obtain ⟨b4,hb4⟩:∃ b,b=w.heap.size+3:=⟨_,rfl⟩
 have H1:Aside0 (SSt w ((((w.alloc (.cells #[.slice A0_0 l0_0.length c0_0,.int .i64 a0_1,.bool a0_2] 72)).alloc (.cells #[.slice none 0 0,.int .i64 0,.bool false] 72)).alloc (.cells #[.string ⟨#[]⟩,.int .i64 0,.slice none 0 0] 24)).alloc (.cells #[.string ⟨#[]⟩,.int .i64 0,.slice none 0 0] 24)) b1 b2 b3 b4 P0_0_ (.slice A0_0 l0_0.length c0_0) l0_0 a0_1 a0_2 ⟨#[]⟩ 0 (.slice none 0 0) []):=⟨by rw [hb1,hb2,hb3,hb4];exact H0⟩
 rw [← hb4,← hb3,← hb2,← hb1]
 clear H0 hb1 hb2 hb3 hb4 HS
 have hf:=HF.out
 unfold sawmillref37_schedule.f at hf
 obtain ⟨⟨t1l,t1a,t1b⟩,a1,hf⟩:=Option.bind_eq_some_iff.mp hf
 have A1:=Aside0.mk a1
 have HF2:=Aside0.mk hf
 clear a1 hf HF
 refine (sawmillref37_take.calls _ _ _ l0_0 a0_1 a0_2 1 _ t1l t1a t1b _ H1.out.Vb A1.out).mono ?_
 rintro e w1 ⟨v1,rfl,hV,hb⟩
 obtain ⟨vA1,vc1,rfl⟩:=Kd.V_slice hV
 have H2:=Aside0.mk (H1.out.call hV hb t1a t1b)
 have HRr:=Aside0.mk (qaS H1.out.r hb)
 have HN:=Aside0.mk H1.out.n12
 clear H1 hV hb A1
 have hs0:=qaD HRr.out 0;have hs1:=qaD HRr.out 1;have hs2:=qaD HRr.out 2
 have hr0:=qaE HRr.out 0;have hr1:=qaE HRr.out 1;have hr2:=qaE HRr.out 2
 simp at hr0 hr1 hr2
 have hn14:=HN.out.2.2.1
 have hn41:=HN.out.2.2.2.2.2
 go_upto_region 3 with fail
 go_cut [20] (fun v20 wc=>∃ x20:Bool,v20=.bool x20∧Aside0 (∃ kq,sawmillref37_schedule.j0 kq x20 t1l t1a t1b ⟨#[]⟩ 0=some (r1,r2,r3,r4,r5,r6))∧Aside0 (SSt w wc b1 b2 b3 b4 P0_0_ (.slice vA1 t1l.length vc1) t1l t1a t1b ⟨#[]⟩ 0 (.slice none 0 0) []))
 case first =>
  have hf:(if t1b=true then sawmillref37_schedule.j0 k true t1l t1a t1b ⟨#[]⟩ 0 else if 0≤t1a then (if t1a < (t1l.length:Int) then sawmillref37_schedule.j0 k ((qaZ t1l t1a).f0 != 1) t1l t1a t1b ⟨#[]⟩ 0 else none) else none)=some (r1,r2,r3,r4,r5,r6):=HF2.out
  clear HF2
  cases t1b
  ·rw [if_neg Bool.false_ne_true] at hf
   by_cases g1:0≤t1a
   case neg=>rw [if_neg g1] at hf;cases hf
   rw [if_pos g1] at hf
   by_cases g2:t1a < (t1l.length:Int)
   case neg=>rw [if_neg g2] at hf;cases hf
   rw [if_pos g2] at hf
   have HJ:Aside0 (∃ kq,sawmillref37_schedule.j0 kq ((qaZ t1l t1a).f0 != 1) t1l t1a false ⟨#[]⟩ 0=some (r1,r2,r3,r4,r5,r6)):=⟨_,hf⟩
   clear hf
   obtain ⟨ad,ea,hx0,hx1,hx2,hx3⟩:=at_T68 (H2.out.C rfl).2.2 t1a g1 g2
   subst ea
   replace g1:=eq_true g1
   replace g2:=eq_true g2
   go_wp2_with fail
   go_meet
   case rel=>exact ⟨_,rfl,HJ,H2⟩
  ·rw [if_pos rfl] at hf
   have HJ:Aside0 (∃ kq,sawmillref37_schedule.j0 kq true t1l t1a true ⟨#[]⟩ 0=some (r1,r2,r3,r4,r5,r6)):=⟨_,hf⟩
   clear hf
   go_wp2_with fail
   go_meet
   case rel=>exact ⟨_,rfl,HJ,H2⟩
 case rest =>
  obtain ⟨x20,rfl,HJ,H3⟩:=hcut
  clear H2 HRr HF2 hs0 hs1 hs2 hr0 hr1 hr2
  have hr0:=qaE H3.out.r 0;have hr1:=qaE H3.out.r 1;have hr2:=qaE H3.out.r 2
  have hs0:=qaD H3.out.r 0;have hs1:=qaD H3.out.r 1;have hs2:=qaD H3.out.r 2
  simp at hr0 hr1 hr2
  cases x20
  ·have hj:=HJ.out
   obtain ⟨kq,hj⟩:=hj
   cases kq with
   | zero=>simp [sawmillref37_schedule.j0] at hj
   | succ kq =>
    rw [sawmillref37_schedule.j0,if_neg Bool.false_ne_true] at hj
    by_cases g1:0≤t1a
    case neg=>rw [if_neg g1] at hj;cases hj
    rw [if_pos g1] at hj
    by_cases g2:t1a < (t1l.length:Int)
    case neg=>rw [if_neg g2] at hj;cases hj
    rw [if_pos g2] at hj
    obtain ⟨⟨t2l,t2a,t2b⟩,a2,hj⟩:=Option.bind_eq_some_iff.mp hj
    obtain ⟨⟨t3l,t3a,t3b,t3n⟩,a3,hj⟩:=Option.bind_eq_some_iff.mp hj
    obtain ⟨⟨t4l,t4a,t4b⟩,a4,hj⟩:=Option.bind_eq_some_iff.mp hj
    have A2:=Aside0.mk a2
    have A3:Aside0 (sawmillref37_number.f t2l t2a t2b=some (t3l,t3a,t3b,t3n)):=⟨a3⟩
    have A4:Aside0 (sawmillref37_take.f t3l t3a t3b 3 _=some (t4l,t4a,t4b)):=⟨a4⟩
    have HJ2:Aside0 (sawmillref37_schedule.l0 kq t4l t4a t4b ((qaZ t1l t1a).f1) t3n []=some (r1,r2,r3,r4,r5,r6)):=⟨hj⟩
    clear HJ hj a2 a3 a4
    obtain ⟨ad,ea,hx0,hx1,hx2,hx3⟩:=at_T68 (H3.out.C rfl).2.2 t1a g1 g2
    subst ea
    replace g1:=eq_true g1
    replace g2:=eq_true g2
    have hc0:=qaE H3.out.x 0
    have hd0:=qaD H3.out.x 0
    simp at hc0
    go_wp2_with fail
    have H4:=Aside0.mk ((H3.out.name (qaZ t1l t1a).f1).at_ (wrap64 (t1a+1)))
    clear H3 hx0 hx1 hx2 hx3 hc0 hd0 hr0 hr1 hr2 hs0 hs1 hs2
    refine (sawmillref37_take.calls _ _ _ t1l (wrap64 (t1a+1)) t1b 1 _ t2l t2a t2b _ H4.out.Vb A2.out).mono ?_
    rintro e w3 ⟨v2,rfl,hV,hb⟩
    obtain ⟨vA2,vc2,rfl⟩:=Kd.V_slice hV
    have H5:=Aside0.mk (H4.out.call hV hb t2a t2b)
    have HRr:=Aside0.mk (qaS H4.out.r hb)
    clear H4 hV hb A2
    have hr0:=qaE HRr.out 0;have hr1:=qaE HRr.out 1;have hr2:=qaE HRr.out 2
    have hs0:=qaD HRr.out 0;have hs1:=qaD HRr.out 1;have hs2:=qaD HRr.out 2
    simp at hr0 hr1 hr2
    go_wp2_with fail
    refine (sawmillref37_number.calls _ _ _ t2l t2a t2b t3l t3a t3b t3n _ H5.out.Vb A3.out).mono ?_
    rintro e w4 ⟨v3,rfl,hV,hb⟩
    obtain ⟨vA3,vc3,rfl⟩:=Kd.V_slice hV
    have H6:=Aside0.mk ((H5.out.call hV hb t3a t3b).ramp t3n)
    clear HRr hr0 hr1 hr2 hs0 hs1 hs2
    have HRr:=Aside0.mk (qaS H5.out.r hb)
    have HX:=Aside0.mk (qaS H5.out.x hb)
    clear H5 hV hb A3
    have hr0:=qaE HRr.out 0;have hr1:=qaE HRr.out 1;have hr2:=qaE HRr.out 2
    have hs0:=qaD HRr.out 0;have hs1:=qaD HRr.out 1;have hs2:=qaD HRr.out 2
    have hx1:=qaE HX.out 1;have hy1:=qaD HX.out 1
    simp at hr0 hr1 hr2 hx1
    go_wp2_with fail
    refine (sawmillref37_take.calls _ _ _ t3l t3a t3b 3 _ t4l t4a t4b _ H6.out.Vb A4.out).mono ?_
    rintro e w5 ⟨v4,rfl,hV,hb⟩
    obtain ⟨vA4,vc4,rfl⟩:=Kd.V_slice hV
    have H7:=Aside0.mk (H6.out.call hV hb t4a t4b)
    clear HRr HX hr0 hr1 hr2 hs0 hs1 hs2 hx1 hy1
    have HRr:=Aside0.mk (qaS H6.out.r hb)
    clear H6 hV hb A4
    have hr0:=qaE HRr.out 0;have hr1:=qaE HRr.out 1;have hr2:=qaE HRr.out 2
    have hs0:=qaD HRr.out 0;have hs1:=qaD HRr.out 1;have hs2:=qaD HRr.out 2
    simp at hr0 hr1 hr2
    go_wp2_with fail
    clear HRr hr0 hr1 hr2 hs0 hs1 hs2
    go_loopg [] kq (fun kq' wr=>∃ (l:List S68) (a:Int) (b:Bool) (st:List S52) (v sv:Value),Aside0 (sawmillref37_schedule.l0 kq' l a b ((qaZ t1l t1a).f1) t3n st=some (r1,r2,r3,r4,r5,r6))∧Aside0 (kq'≤kq)∧Aside0 (SSt w wr b1 b2 b3 b4 P0_0_ v l a b ((qaZ t1l t1a).f1) t3n sv st))
    case atStart=>exact ⟨t4l,t4a,t4b,[],_,_,HJ2,⟨Nat.le_refl _⟩,H7⟩
    case round =>
     clear HJ2 H7
     obtain ⟨l,a,b,st,v,sv,HA,HK,HS⟩:=hrel
     cases gk with
     | zero=>exact absurd HA.out (by simp [sawmillref37_schedule.l0])
     | succ gk =>
      have H:=HA.out
      clear HA
      rw [sawmillref37_schedule.l0] at H
      have HL:=Aside0.mk H
      clear H
      obtain ⟨vA,vc,hv⟩:=Kd.V_slice HS.out.V
      subst hv
      have hr0:=qaE HS.out.r 0;have hr1:=qaE HS.out.r 1;have hr2:=qaE HS.out.r 2
      simp at hr0 hr1 hr2
      go_upto_region 11 with fail
      go_cut [63] (fun v63 wc=>∃ x63:Bool,v63=.bool x63∧Aside0 ((x63=false∧some (l,a,b,(qaZ t1l t1a).f1,t3n,st)=some (r1,r2,r3,r4,r5,r6)) ∨ (x63=true∧b=false∧((sawmillref37_stage.f gk l a b).bind fun bt131=>(if st.length < 4398046511104 then (sawmillref37_schedule.l0 gk bt131.1 bt131.2.1 bt131.2.2.1 ((qaZ t1l t1a).f1) t3n (st++[(⟨bt131.2.2.2.1,bt131.2.2.2.2.1,bt131.2.2.2.2.2.1,bt131.2.2.2.2.2.2⟩:S52)])) else (none)))=some (r1,r2,r3,r4,r5,r6)))∧Aside0 (SSt w wc b1 b2 b3 b4 P0_0_ (.slice vA l.length vc) l a b ((qaZ t1l t1a).f1) t3n sv st))
      case first =>
       have hf:=HL.out
       clear HL
       cases b
       ·rw [if_neg Bool.false_ne_true] at hf
        by_cases g1:0≤a
        case neg=>rw [if_neg g1] at hf;cases hf
        rw [if_pos g1] at hf
        by_cases g2:a < (l.length:Int)
        case neg=>rw [if_neg g2] at hf;cases hf
        rw [if_pos g2] at hf
        obtain ⟨ad,ea,hx0,hx1,hx2,hx3⟩:=at_T68 (HS.out.C rfl).2.2 a g1 g2
        subst ea
        replace g1:=eq_true g1
        replace g2:=eq_true g2
        by_cases g3:(qaZ l a).f0=0
        ·rw [if_pos g3] at hf
         have hq:((qaZ l a).f0 != 0)=false:=by simp [g3]
         have HE:=Aside0.mk hf
         clear hf
         go_wp2_with fail
         go_meet
         case rel=>exact ⟨false,rfl,⟨Or.inl ⟨rfl,HE.out⟩⟩,HS⟩
        ·rw [if_neg g3] at hf
         have hq:((qaZ l a).f0 != 0)=true:=by simp [g3]
         obtain ⟨ti,a5,hf⟩:=Option.bind_eq_some_iff.mp hf
         have AI:=Aside0.mk a5
         have HE:=Aside0.mk hf
         clear hf a5
         go_wp2_with fail
         refine (sawmillref37_is.calls _ _ l a false 1 _ ti _ (HS.out.C rfl).2.2 (HS.out.C rfl).2.1 AI.out).mono ?_
         rintro e w6 ⟨rfl,hb⟩
         have HS2:=Aside0.mk (HS.out.below hb)
         clear HS hb hr0 hr1 hr2 hx0 hx1 hx2 hx3 AI
         have he:=HE.out
         clear HE
         cases ti
         ·rw [if_neg Bool.false_ne_true] at he
          have HE:=Aside0.mk he
          clear he
          go_wp2_with fail
          go_meet
          case rel=>exact ⟨true,rfl,⟨Or.inr ⟨by trivial,by trivial,HE.out⟩⟩,HS2⟩
         ·rw [if_pos rfl] at he
          have HE:=Aside0.mk he
          clear he
          go_wp2_with fail
          go_meet
          case rel=>exact ⟨false,rfl,⟨Or.inl ⟨rfl,HE.out⟩⟩,HS2⟩
       ·rw [if_pos rfl] at hf
        have HE:=Aside0.mk hf
        clear hf
        go_wp2_with fail
        go_meet
        case rel=>exact ⟨false,rfl,⟨Or.inl ⟨rfl,HE.out⟩⟩,HS⟩
      case rest =>
       obtain ⟨x63,rfl,HE,HS2⟩:=hcut
       clear HL HS hr0 hr1 hr2
       cases x63
       ·have he:some (l,a,b,(qaZ t1l t1a).f1,t3n,st)=some (r1,r2,r3,r4,r5,r6):=by
         rcases HE.out with h|h
         ·exact h.2
         ·exact absurd h.1 Bool.false_ne_true
        simp only [Option.some.injEq,Prod.mk.injEq] at he
        obtain ⟨rfl,rfl,rfl,rfl,rfl,rfl⟩:=he
        clear HE
        obtain ⟨sA,sc,hsv⟩:=Kd.R_slice HS2.out.R
        subst hsv
        go_upto_region 15 with fail
        have H13:=Aside0.mk HS2.out.drew
        refine start_ (n:=4) (S:=fun w'=>w'.heap[b1]?=some (.cells #[.slice vA l.length vc,.int .i64 a,.bool b] 72 (0,0))∧w'.heap[b4]?=some (.cells #[.string (qaZ t1l t1a).f1,.int .i64 t3n,.slice sA st.length sc] 24 (0,0))) (ds:=[]) (bitsA 4 0) (by kernel_rfl) rfl rfl ⟨HS2.out.r,HS2.out.x⟩ (fun hHeld=>?_)
        clear HS2
        generalize World.drew _=w8 at H13 hHeld ⊢
        refine take_ (i:=0) (N:=some 76) (v:=?_) (a':=?_) (bitsA 4 1) rfl rfl (by kernel_rfl) (fun _ _ _ h=>h) (Or.inl ⟨by rfl,?_⟩) hHeld ?_ ?_
        rotate_left
        ·rintro w' ⟨s0,s1⟩
         have hr0:=qaE s0 0;have hr1:=qaE s0 1;have hr2:=qaE s0 2
         simp at hr0 hr1 hr2
         go_simp
         with_reducible rfl
        rotate_left
        ·simp only [Act.put,List.setIfInBounds_toArray,List.set_cons_zero,List.set_cons_succ,qaX,qaY]
         rfl
        refine take_ (i:=1) (N:=some 77) (v:=?_) (a':=?_) (bitsA 4 3) rfl rfl (by kernel_rfl) (fun _ _ _ h=>h) (Or.inl ⟨by rfl,?_⟩) hHeld ?_ ?_
        rotate_left
        ·rintro w' ⟨s0,s1⟩
         have hr0:=qaE s1 0;have hr1:=qaE s1 1;have hr2:=qaE s1 2
         simp at hr0 hr1 hr2
         go_simp
         with_reducible rfl
        rotate_left
        ·simp only [Act.put,List.setIfInBounds_toArray,List.set_cons_zero,List.set_cons_succ,qaX,qaY]
         rfl
        refine one_ (i:=2) (N:=none) (bitsA 4 7) rfl rfl (by kernel_rfl) (by decide) (fun K hK=>?_)
        have HL:=Aside0.mk (⟨H13.out.l0,H13.out.l1,H13.out.l2,H13.out.l3⟩:w.heap.size≤b1∧b1 < b2∧b2 < b3∧b3 < b4)
        have n12:b1 ≠ b2:=by have:=HL.out;omega
        have n42:b4 ≠ b2:=by have:=HL.out;omega
        have n13:b1 ≠ b3:=by have:=HL.out;omega
        have n43:b4 ≠ b3:=by have:=HL.out;omega
        have n32:b3 ≠ b2:=by have:=HL.out;omega
        have n23:b2 ≠ b3:=n32.symm
        have ho0:=qaE H13.out.o 0;have ho1:=qaE H13.out.o 1;have ho2:=qaE H13.out.o 2
        have hp0:=qaD H13.out.o 0;have hp1:=qaD H13.out.o 1;have hp2:=qaD H13.out.o 2
        have hq0:=qaE H13.out.q 0;have hq1:=qaE H13.out.q 1;have hq2:=qaE H13.out.q 2
        have hu0:=qaD H13.out.q 0;have hu1:=qaD H13.out.q 1;have hu2:=qaD H13.out.q 2
        simp at ho0 ho1 ho2 hq0 hq1 hq2
        refine skip_ (w1:=?_) (by rfl) rfl ?_ ?_
        rotate_left
        ·go_simp
         rfl
        refine hK.out _ _ ⟨qbZ H13.out.r n12 _ _ _,qbZ H13.out.x n42 _ _ _⟩ (fun hHeld=>?_)
        clear hK K
        refine one_ (i:=3) (N:=none) (bitsA 4 15) rfl rfl (by kernel_rfl) (by decide) (fun K hK=>?_)
        refine skip_ (w1:=?_) (by rfl) rfl ?_ ?_
        rotate_left
        ·go_simp
         rfl
        refine hK.out _ _ ⟨qbZ (qbZ H13.out.r n12 _ _ _) n13 _ _ _,qbZ (qbZ H13.out.x n42 _ _ _) n43 _ _ _⟩ (fun hHeld=>?_)
        clear hK K
        refine done_ (by kernel_rfl) ?_
        try go_wp2
        have hb2:w.heap.size≤b2:=by have:=HL.out;omega
        have hb3:w.heap.size≤b3:=by have:=HL.out;omega
        refine bodyPost_ret (results_cc rfl _ _ b2 b3 72 24 #[.slice vA l.length vc,.int .i64 a,.bool b] #[.string (qaZ t1l t1a).f1,.int .i64 t3n,.slice sA st.length sc] (0,0) (0,0) _ _ rfl (qbZ (blk_put3' H13.out.o) n23 _ _ _) hur rfl (by kernel_rfl) rfl (blk_put3' (qbZ H13.out.q n32 _ _ _)) hus rfl (by kernel_rfl)) rfl ?_
        exact ⟨_,_,rfl,Kd.V_mono (V_far3 (V_far3 H13.out.V (fun k hk=>hk.2.1.2.1) _ _ _) (fun k hk=>hk.2.1.2.2.1) _ _ _) (fun k hk=>⟨hk.1,hk.2.2⟩),Kd.R_mono (R_far3 (R_far3 H13.out.R (fun k hk=>hk.2.2.1) _ _ _) (fun k hk=>hk.2.2.2.1) _ _ _) (fun k hk=>hk.1),qaF (qaF (qaF (qaF (qaF (qaF H13.out.bel hb2) hb2) hb2) hb3) hb3) hb3⟩
       ·have he:(sawmillref37_stage.f gk l a b).bind (fun bt131=>(if st.length < 4398046511104 then (sawmillref37_schedule.l0 gk bt131.1 bt131.2.1 bt131.2.2.1 ((qaZ t1l t1a).f1) t3n (st++[(⟨bt131.2.2.2.1,bt131.2.2.2.2.1,bt131.2.2.2.2.2.1,bt131.2.2.2.2.2.2⟩:S52)])) else (none)))=some (r1,r2,r3,r4,r5,r6):=by
         rcases HE.out with h|h
         ·exact absurd h.1.symm Bool.false_ne_true
         ·exact h.2.2
        clear HE
        obtain ⟨⟨sl,sa,sb,s0,s1,s2,s3⟩,a6,he⟩:=Option.bind_eq_some_iff.mp he
        have A6:=Aside0.mk a6
        by_cases g5:st.length < 4398046511104
        case neg=>rw [if_neg g5] at he;cases he
        rw [if_pos g5] at he
        obtain ⟨y,hy⟩:∃ y,y=st++[(⟨s0,s1,s2,s3⟩:S52)]:=⟨_,rfl⟩
        have HE:Aside0 (sawmillref37_schedule.l0 gk sl sa sb ((qaZ t1l t1a).f1) t3n y=some (r1,r2,r3,r4,r5,r6)):=⟨by rw [hy];exact he⟩
        have NY:=Aside0.mk hy
        have HLN:=Aside0.mk g5
        clear hy a6 he g5
        have hr0:=qaE (qaG HS2.out.r (.cells #[.int .i64 0,.int .i64 0,.int .i64 0,.int .i64 0] 52)) 0;have hr1:=qaE (qaG HS2.out.r (.cells #[.int .i64 0,.int .i64 0,.int .i64 0,.int .i64 0] 52)) 1;have hr2:=qaE (qaG HS2.out.r (.cells #[.int .i64 0,.int .i64 0,.int .i64 0,.int .i64 0] 52)) 2
        simp at hr0 hr1 hr2
        go_wp2_with fail
        have HVs:=Aside0.mk (Kd.V_map (base':=(wc.alloc (.cells #[.int .i64 0,.int .i64 0,.int .i64 0,.int .i64 0] 52)).heap.size) (ok':=fun k=>((P0_0_ k ∨ w.heap.size≤k)∧(k ≠ b1∧k ≠ b2∧k ≠ b3∧k ≠ b4)∧some k ≠ sv.ownBlock)∧k ≠ wc.heap.size) (Kd.V_alloc (Kd.V_mono (Kd.V_bound HS2.out.V) (fun k hk=>⟨hk.1,Nat.ne_of_lt hk.2⟩)) (.cells #[.int .i64 0,.int .i64 0,.int .i64 0,.int .i64 0] 52)) (fun _ hf=>hf))
        refine (sawmillref37_stage.calls gk _ _ _ l a b sl sa sb s0 s1 s2 s3 _ HVs.out A6.out).mono ?_
        rintro e w7 ⟨v5,rfl,hV,hb⟩
        obtain ⟨vA5,vc5,rfl⟩:=Kd.V_slice hV
        have HRr:=Aside0.mk (qaS (qaG HS2.out.r (.cells #[.int .i64 0,.int .i64 0,.int .i64 0,.int .i64 0] 52)) hb)
        have HBn:=qaS (heap_alloc_new wc (.cells #[.int .i64 0,.int .i64 0,.int .i64 0,.int .i64 0] 52)) hb
        have HLT:=Aside0.mk HS2.out.lts
        obtain ⟨b5,hb5⟩:∃ b,b=wc.heap.size:=⟨_,rfl⟩
        rw [← hb5] at hV HBn HLT ⊢
        have HB5:=Aside0.mk HBn
        have H9:=Aside0.mk (HS2.out.call5 (o5:=(.cells #[.int .i64 0,.int .i64 0,.int .i64 0,.int .i64 0] 52)) hb5 rfl hV hb sa sb (.int .i64 s0) (.int .i64 s1) (.int .i64 s2) (.int .i64 s3))
        clear HVs hV hb HBn HS2 A6 hb5 hr0 hr1 hr2
        have m1:b1 ≠ b5:=by have:=HLT.out.1;omega
        have m5:b5 ≠ b1:=m1.symm
        have hr0:=qaE HRr.out 0;have hr1:=qaE HRr.out 1;have hr2:=qaE HRr.out 2
        have hs0:=qaD HRr.out 0;have hs1:=qaD HRr.out 1;have hs2:=qaD HRr.out 2
        have hx0:=qaE HB5.out 0;have hx1:=qaE HB5.out 1;have hx2:=qaE HB5.out 2;have hx3:=qaE HB5.out 3
        have hy0:=qaD HB5.out 0;have hy1:=qaD HB5.out 1;have hy2:=qaD HB5.out 2;have hy3:=qaD HB5.out 3
        simp at hr0 hr1 hr2 hx0 hx1 hx2 hx3
        go_upto_region 14 with fail
        have H10:=Aside0.mk H9.out.1
        have HBz:=Aside0.mk H9.out.2
        clear H9 HRr HB5 hr0 hr1 hr2 hs0 hs1 hs2 hx0 hx1 hx2 hx3 hy0 hy1 hy2 hy3
        obtain ⟨sA,sc,hsv⟩:=Kd.R_slice H10.out.R
        subst hsv
        have HB5:=HBz
        clear HBz
        have hx0:=qaE HB5.out 0;have hx1:=qaE HB5.out 1;have hx2:=qaE HB5.out 2;have hx3:=qaE HB5.out 3
        have hz2:=qaE H10.out.x 2;have hv2:=qaD H10.out.x 2
        simp at hx0 hx1 hx2 hx3 hz2
        go_wp2_with (first|((with_reducible refine qcG (b:=.append) (xs:=#[.tmp 71,.tmp 73]) rfl ?_);at_builtin;refine Kd.R_append k52 w.heap.size rfl (.tmp 71) (.tmp 73) 22 52 (.agg #[(.int .i64 0),(.int .i64 0),(.int .i64 0),(.int .i64 0)]) 32 rfl Tryd.underlying22 info52 rfl (by decide) (by omega) (.slice sA st.length sc) st (⟨s0,s1,s2,s3⟩:S52) [.int .i64 s0,.int .i64 s1,.int .i64 s2,.int .i64 s3] (fun k=>w.heap.size≤k∧(k ≠ b1∧k ≠ b2∧k ≠ b3∧k ≠ b4)) (fun _=>False) rfl (by first|(go_simp;done)|(go_simp;rfl)) ?aP (fun _ hk=>hk.elim) ?aF H10.out.R (Below.refl _ _) (qaK H10.out.bel) ?aL ?_;(case aP=>exact k52_mkM _ _ _ (⟨s0,s1,s2,s3⟩:S52));(case aF=>exact fun k hk=>by have h1:=H10.out.lts;have h2:=qaK H10.out.bel;exact ⟨by omega,by omega,by omega,by omega,by omega⟩);(case aL=>have:=HLN.out;omega);intro v9 w9 ho hb hg hat;rw [← NY.out] at ho;obtain ⟨oA,oc,eo⟩:=Kd.R_slice ho;subst eo;have H11:=Aside0.mk (H10.out.grow ho (below_weaken H10.out.bel (Nat.le_refl _) hb) hg hat);have HX9:=Aside0.mk (blk_grown H10.out.x hg (Kd.R_away H10.out.R (fun k hk=>hk.2.2.2.2)));clear hb hg hat H10 HB5 hx0 hx1 hx2 hx3 hz2 hv2;have hz2:=qaE HX9.out 2;have hv2:=qaD HX9.out 2;simp at hz2))
        go_roundg gk
        case measure=>omega
        case rel=>exact ⟨sl,sa,sb,y,_,_,HE,⟨by have:=HK.out;omega⟩,H11⟩
  ·have hj:=HJ.out
   obtain ⟨kq,hj⟩:=hj
   cases kq with
   | zero=>simp [sawmillref37_schedule.j0] at hj
   | succ kq =>
    rw [sawmillref37_schedule.j0,if_pos rfl] at hj
    simp only [Option.some.injEq,Prod.mk.injEq] at hj
    obtain ⟨rfl,rfl,rfl,rfl,rfl,rfl⟩:=hj
    clear HJ
    go_upto_region 5 with fail
    have H4:=Aside0.mk H3.out.bad
    clear H3 hr0 hr1 hr2 hs0 hs1 hs2
    have H13:=Aside0.mk H4.out.drew
    refine start_ (n:=4) (S:=fun w'=>w'.heap[b1]?=some (.cells #[.slice vA1 t1l.length vc1,.int .i64 t1a,.bool true] 72 (0,0))∧w'.heap[b4]?=some (.cells #[.string (⟨#[]⟩:ByteArray),.int .i64 0,.slice none 0 0] 24 (0,0))) (ds:=[]) (bitsA 4 0) (by kernel_rfl) rfl rfl ⟨H4.out.r,H4.out.x⟩ (fun hHeld=>?_)
    clear H4
    generalize World.drew _=w8 at H13 hHeld ⊢
    refine take_ (i:=0) (N:=some 22) (v:=?_) (a':=?_) (bitsA 4 1) rfl rfl (by kernel_rfl) (fun _ _ _ h=>h) (Or.inl ⟨by rfl,?_⟩) hHeld ?_ ?_
    rotate_left
    ·rintro w' ⟨s0,s1⟩
     have hr0:=qaE s0 0;have hr1:=qaE s0 1;have hr2:=qaE s0 2
     simp at hr0 hr1 hr2
     go_simp
     with_reducible rfl
    rotate_left
    ·simp only [Act.put,List.setIfInBounds_toArray,List.set_cons_zero,List.set_cons_succ,qaX,qaY]
     rfl
    refine take_ (i:=1) (N:=some 23) (v:=?_) (a':=?_) (bitsA 4 3) rfl rfl (by kernel_rfl) (fun _ _ _ h=>h) (Or.inl ⟨by rfl,?_⟩) hHeld ?_ ?_
    rotate_left
    ·rintro w' ⟨s0,s1⟩
     have hr0:=qaE s1 0;have hr1:=qaE s1 1;have hr2:=qaE s1 2
     simp at hr0 hr1 hr2
     go_simp
     with_reducible rfl
    rotate_left
    ·simp only [Act.put,List.setIfInBounds_toArray,List.set_cons_zero,List.set_cons_succ,qaX,qaY]
     rfl
    refine one_ (i:=2) (N:=none) (bitsA 4 7) rfl rfl (by kernel_rfl) (by decide) (fun K hK=>?_)
    have HL:=Aside0.mk (⟨H13.out.l0,H13.out.l1,H13.out.l2,H13.out.l3⟩:w.heap.size≤b1∧b1 < b2∧b2 < b3∧b3 < b4)
    have n12:b1 ≠ b2:=by have:=HL.out;omega
    have n42:b4 ≠ b2:=by have:=HL.out;omega
    have n13:b1 ≠ b3:=by have:=HL.out;omega
    have n43:b4 ≠ b3:=by have:=HL.out;omega
    have n32:b3 ≠ b2:=by have:=HL.out;omega
    have n23:b2 ≠ b3:=n32.symm
    have ho0:=qaE H13.out.o 0;have ho1:=qaE H13.out.o 1;have ho2:=qaE H13.out.o 2
    have hp0:=qaD H13.out.o 0;have hp1:=qaD H13.out.o 1;have hp2:=qaD H13.out.o 2
    have hq0:=qaE H13.out.q 0;have hq1:=qaE H13.out.q 1;have hq2:=qaE H13.out.q 2
    have hu0:=qaD H13.out.q 0;have hu1:=qaD H13.out.q 1;have hu2:=qaD H13.out.q 2
    simp at ho0 ho1 ho2 hq0 hq1 hq2
    refine skip_ (w1:=?_) (by rfl) rfl ?_ ?_
    rotate_left
    ·go_simp
     rfl
    refine hK.out _ _ ⟨qbZ H13.out.r n12 _ _ _,qbZ H13.out.x n42 _ _ _⟩ (fun hHeld=>?_)
    clear hK K
    refine one_ (i:=3) (N:=none) (bitsA 4 15) rfl rfl (by kernel_rfl) (by decide) (fun K hK=>?_)
    refine skip_ (w1:=?_) (by rfl) rfl ?_ ?_
    rotate_left
    ·go_simp
     rfl
    refine hK.out _ _ ⟨qbZ (qbZ H13.out.r n12 _ _ _) n13 _ _ _,qbZ (qbZ H13.out.x n42 _ _ _) n43 _ _ _⟩ (fun hHeld=>?_)
    clear hK K
    refine done_ (by kernel_rfl) ?_
    try go_wp2
    have hb2:w.heap.size≤b2:=by have:=HL.out;omega
    have hb3:w.heap.size≤b3:=by have:=HL.out;omega
    refine bodyPost_ret (results_cc rfl _ _ b2 b3 72 24 #[.slice vA1 t1l.length vc1,.int .i64 t1a,.bool true] #[.string (⟨#[]⟩:ByteArray),.int .i64 0,.slice none 0 0] (0,0) (0,0) _ _ rfl (qbZ (blk_put3' H13.out.o) n23 _ _ _) hur rfl (by kernel_rfl) rfl (blk_put3' (qbZ H13.out.q n32 _ _ _)) hus rfl (by kernel_rfl)) rfl ?_
    exact ⟨_,_,rfl,Kd.V_mono (V_far3 (V_far3 H13.out.V (fun k hk=>hk.2.1.2.1) _ _ _) (fun k hk=>hk.2.1.2.2.1) _ _ _) (fun k hk=>⟨hk.1,hk.2.2⟩),Kd.R_mono (R_far3 (R_far3 H13.out.R (fun k hk=>hk.2.2.1) _ _ _) (fun k hk=>hk.2.2.2.1) _ _ _) (fun k hk=>hk.1),qaF (qaF (qaF (qaF (qaF (qaF H13.out.bel hb2) hb2) hb2) hb3) hb3) hb3⟩
end Go.Proofs.YtehdmplngmbnnaaDoor.P
namespace Go.Proofs.YtehdmplngmbnnaaDoor.P
open Go.RowKit Go.Proofs.YtehdmplngmbnnaaDoorW.PrintWords Go.Proofs.YtehdmplngmbnnaaDoorW.PrintLast Go.Proofs.YtehdmplngmbnnaaDoorW.PrintMore
set_option linter.unusedVariables false
set_option linter.unusedSimpArgs false
def sawmillref37_Parse.go:Nat→List S68→List S68→Int→List S24→Option (List S24 × Int × Int)
 | 0,_,_,_,_=>none
 | k+1,l,rl,a,out =>
  if 0≤a∧a < (l.length:Int) then
   (if (qaZ l a).f0=0 then some (out,0,0)
   else (sawmillref37_schedule.f k rl a false).bind fun b =>
    if b.2.2.1=true then (if 0≤b.2.1∧b.2.1 < (l.length:Int) then some ([],5,(qaZ l b.2.1).f3) else none)
    else if out.length < 1000000 then (sawmillref37_last.f k (out++[(⟨b.2.2.2.1,b.2.2.2.2.1,b.2.2.2.2.2⟩:S24)])).bind fun e=>if e=0 then sawmillref37_Parse.go k l b.1 b.2.1 (out++[(⟨b.2.2.2.1,b.2.2.2.2.1,b.2.2.2.2.2⟩:S24)]) else some ([],e,(qaZ l a).f3)
    else none)
  else none
def rFuel (a0:ByteArray):Nat:=20 * a0.size+3000
def sawmillref37_Parse.f (a0:ByteArray):Option (List S24 × Int × Int) :=
 (sawmillref06_Scan.f (rFuel a0) a0).bind fun s=>if s.2.1=0 then sawmillref37_Parse.go (rFuel a0) s.1 s.1 0 [] else some ([],s.2.1,s.2.2)
def sawmillref37_Parse.T11:Bool × List (List Nat × List Nat):=(true,[([],[]),([],[]),([1],[1]),([0,2],[0,2]),([3],[3]),([4],[4]),([],[]),([6,6],[]),([5,7,0,1,2,3,4,5,6,7],[5])])
def sawmillref37_Parse.B11:List Nat:=[0,0,2,7,15,31,0,64,255]
theorem sawmillref37_Parse.tab11:rtab .any (opsOf Tryd.f26 11)=sawmillref37_Parse.T11:=by kernel_rfl
theorem sawmillref37_Parse.bits11:waitsOk sawmillref37_Parse.T11.2 sawmillref37_Parse.B11=true:=by kernel_rfl
set_option maxHeartbeats 8000000 in
set_option maxRecDepth 100000 in
theorem sawmillref37_Parse.calls (a0:ByteArray) (r1:List S24) (r2:Int) (r3:Int) (w:World) (h:sawmillref37_Parse.f a0=some (r1,r2,r3)) :
  Calls Tryd.prog 26 #[.string a0] w fun e w'=>∃ v0_:Value,e=.returned (.tuple #[v0_,.int .i64 r2,.int .i64 r3])∧Kd.S k24 24 w' w.heap.size (fun _=>True) v0_ r1∧Below w.heap.size w w':=by
 unfold sawmillref37_Parse.f at h
 obtain ⟨⟨l,e1,at1⟩,a1,h⟩:=Option.bind_eq_some_iff.mp h
 have HS:=Aside0.mk a1
 have HH:=Aside0.mk h
 clear a1 h
 have hur:=Tryd.underlying72
 have huh:=Tryd.underlying24
 have hux:=Tryd.underlying68
 go_enter Tryd.func26,Tryd.ntmps26
 go_wp2_with fail
 refine (sawmillref06_Scan.calls (rFuel a0) a0 l e1 at1 _ HS.out).mono ?_
 rintro e w1 ⟨v0,rfl,hR,hb⟩
 obtain ⟨A,c,rfl⟩:=Kd.R_slice hR
 have HR:=Aside0.mk hR
 have HB:=Aside0.mk hb
 clear hR hb
 by_cases he:e1=0
 ·have hh:=HH.out
  simp only [if_pos he] at hh
  subst he
  have HT:=Aside0.mk hh
  clear hh HH
  go_wp2_with fail
  have H8:=Aside0.mk (heap_alloc_new w1 (.cells #[.slice A l.length c,.int .i64 0,.bool false] 72))
  have HB1:=Aside0.mk (qaB HB.out (.cells #[.slice A l.length c,.int .i64 0,.bool false] 72))
  have HG8:=Aside0.mk (qaK HB.out)
  have HR1:Aside0 (Kd.R k68 68 (w1.alloc (.cells #[.slice A l.length c,.int .i64 0,.bool false] 72)) w.heap.size (fun k=>k ≠ w1.heap.size) (.slice A l.length c) l):=⟨Kd.R_alloc (Kd.R_mono (Kd.R_bound HR.out) (fun k hk=>Nat.ne_of_lt hk.2.2.1)) _⟩
  have HV1:Aside0 (Kd.V k68 68 (w1.alloc (.cells #[.slice A l.length c,.int .i64 0,.bool false] 72)) w.heap.size (fun k=>k ≠ w1.heap.size∧some k ≠ (Value.slice none 0 0).ownBlock) (.slice A l.length c) l):=⟨Kd.V_mono (Kd.R_V HR1.out) (fun k hk=>⟨hk,by simp [Value.ownBlock]⟩)⟩
  clear HR HB
  obtain ⟨b8,hb8⟩:∃ b,b=w1.heap.size:=⟨_,rfl⟩
  rw [← hb8] at H8 HG8 HR1 HV1 ⊢
  clear hb8
  go_loopg [9] (rFuel a0) (fun kq v9 wr=>∃ (out:List S24) (a:Int) (rl:List S68) (v:Value),Aside0 (sawmillref37_Parse.go kq l rl a out=some (r1,r2,r3))∧Aside0 (kq≤rFuel a0)∧Aside0 (Kd.S k24 24 wr w.heap.size (fun k=>k ≠ b8) v9 out)∧Aside0 (wr.heap[b8]?=some (.cells #[v,.int .i64 a,.bool false] 72 (0,0)))∧Aside0 (Kd.V k68 68 wr w.heap.size (fun k=>k ≠ b8∧some k ≠ v9.ownBlock) v rl)∧Aside0 (Kd.R k68 68 wr w.heap.size (fun k=>k ≠ b8) (.slice A l.length c) l)∧Aside0 (Below w.heap.size w wr))
  case atStart=>exact ⟨[],0,l,.slice A l.length c,HT,⟨Nat.le_refl _⟩,⟨Kd.S_nil _ _ _ _ _⟩,H8,HV1,HR1,HB1⟩
  case round =>
   clear HT H8 HV1 HR1 HB1 HS
   obtain ⟨out,a,rl,v,HA,HK,HO,H8,HV,HR,HB⟩:=hrel
   cases gk with
   | zero=>exact absurd HA.out (by simp [sawmillref37_Parse.go])
   | succ gk =>
    have H:=HA.out
    clear HA
    simp only [sawmillref37_Parse.go] at H
    by_cases g1:0≤a∧a < (l.length:Int)
    case neg=>rw [if_neg g1] at H;cases H
    rw [if_pos g1] at H
    have HH:=Aside0.mk H
    clear H
    obtain ⟨g1a,g1b⟩:=g1
    obtain ⟨vA,vc,hv⟩:=Kd.V_slice HV.out
    subst hv
    have hz0:=qaE H8.out 0
    have hz1:=qaE H8.out 1
    have hz2:=qaE H8.out 2
    have hy0:=qaD H8.out 0
    have hy1:=qaD H8.out 1
    have hy2:=qaD H8.out 2
    simp at hz0 hz1 hz2
    obtain ⟨ad,ea,hx0,hx1,hx2,hx3⟩:=at_T68 (Kd.R_reads' HR.out).2.2 a g1a g1b
    subst ea
    replace g1a:=eq_true g1a
    replace g1b:=eq_true g1b
    by_cases g2:(qaZ l a).f0=0
    ·have hh:=HH.out
     simp only [if_pos g2,Option.some.injEq,Prod.mk.injEq] at hh
     obtain ⟨rfl,rfl,rfl⟩:=hh
     have hq:((qaZ l a).f0 != 0)=false:=by simp [g2]
     clear HH
     go_wp2_with fail
     refine bodyPost_ret (results_tmp3 rfl _ _ _) rfl ?_
     exact ⟨_,rfl,Kd.S_mono HO.out (fun _ _=>trivial),HB.out⟩
    ·have hh:=HH.out
     rw [if_neg g2] at hh
     obtain ⟨⟨rl2,a2,b2,nm,rr,st⟩,a3,hh⟩:=Option.bind_eq_some_iff.mp hh
     have hq:((qaZ l a).f0 != 0)=true:=by simp [g2]
     have HC:=Aside0.mk a3
     have HH2:=Aside0.mk hh
     clear HH a3 hh
     have H8a:=Aside0.mk (qaG H8.out (.cells #[.string ⟨#[]⟩,.int .i64 0,.slice none 0 0] 24))
     have H11:=Aside0.mk (heap_alloc_new wr (.cells #[.string ⟨#[]⟩,.int .i64 0,.slice none 0 0] 24))
     have hw0:=qaE H8a.out 0
     have hw1:=qaE H8a.out 1
     have hw2:=qaE H8a.out 2
     have hv0:=qaD H8a.out 0
     have hv1:=qaD H8a.out 1
     have hv2:=qaD H8a.out 2
     simp at hw0 hw1 hw2
     go_wp2_with fail
     have h811:b8 < wr.heap.size:=qbF H8.out
     have hsz:(wr.alloc (.cells #[.string ⟨#[]⟩,.int .i64 0,.slice none 0 0] 24)).heap.size=wr.heap.size+1:=by simp
     have HSZ:=Aside0.mk hsz
     have HB2:=Aside0.mk (qaB HB.out (.cells #[.string ⟨#[]⟩,.int .i64 0,.slice none 0 0] 24))
     have HBZ:=Aside0.mk (qaK HB.out)
     have HV2:Aside0 (Kd.V k68 68 (wr.alloc (.cells #[.string ⟨#[]⟩,.int .i64 0,.slice none 0 0] 24)) (wr.alloc (.cells #[.string ⟨#[]⟩,.int .i64 0,.slice none 0 0] 24)).heap.size (fun k=>(k ≠ b8∧some k ≠ u9.ownBlock)∧k ≠ wr.heap.size) (.slice vA rl.length vc) rl):=⟨Kd.V_map (Kd.V_alloc (Kd.V_mono (Kd.V_bound HV.out) (fun k hk=>⟨hk.1,Nat.ne_of_lt hk.2⟩)) _) (fun _ hf=>hf)⟩
     have HO2:Aside0 (Kd.S k24 24 (wr.alloc (.cells #[.string ⟨#[]⟩,.int .i64 0,.slice none 0 0] 24)) w.heap.size (fun k=>(k ≠ b8∧k ≠ wr.heap.size)∧k < wr.heap.size) u9 out):=⟨Kd.S_alloc (Kd.S_mono (Kd.S_bound HO.out) (fun k hk=>⟨⟨hk.1,Nat.ne_of_lt hk.2.2.1⟩,hk.2.2.1⟩)) _⟩
     have HR2:Aside0 (Kd.R k68 68 (wr.alloc (.cells #[.string ⟨#[]⟩,.int .i64 0,.slice none 0 0] 24)) w.heap.size (fun k=>k ≠ b8∧k ≠ wr.heap.size) (.slice (some ad) l.length c) l):=⟨Kd.R_alloc (Kd.R_mono (Kd.R_bound HR.out) (fun k hk=>⟨hk.1,Nat.ne_of_lt hk.2.2.1⟩)) _⟩
     have HO9:=Aside0.mk (Kd.S_lt HO.out)
     have H8L:=Aside0.mk h811
     clear HV HO HR HB H8 hz0 hz1 hz2 hy0 hy1 hy2 hw0 hw1 hw2 hv0 hv1 hv2 hx0 hx1 hx2 hx3 hsz h811
     refine (sawmillref37_schedule.calls gk _ _ _ rl a false rl2 a2 b2 nm rr st _ HV2.out HC.out).mono ?_
     rintro e w3 ⟨v0,v5,rfl,hV3,hR5,hb⟩
     obtain ⟨vA2,vc2,rfl⟩:=Kd.V_slice hV3
     obtain ⟨sA,sc,rfl⟩:=Kd.R_slice hR5
     have HO3:=Aside0.mk (Kd.S_elder' HO2.out (Kd.R_base hR5) hb)
     have HR3:=Aside0.mk (Kd.R_below HR2.out hb)
     have H83:=Aside0.mk (qaS H8a.out hb)
     have H113:=Aside0.mk (qaS H11.out hb)
     have HB3:=Aside0.mk (qaN HB2.out hb)
     have HV3:=Aside0.mk hV3
     have HR5:=Aside0.mk hR5
     clear hV3 hR5 hb HO2 HR2 H8a H11 HB2 HV2
     obtain ⟨b11,hb11⟩:∃ b,b=wr.heap.size:=⟨_,rfl⟩
     rw [HSZ.out] at HV3 HR5
     rw [← hb11] at HO3 HR3 H113 HV3 HR5 HBZ HO9 H8L ⊢
     clear HSZ hb11
     have hne:b8 ≠ b11:=Nat.ne_of_lt H8L.out
     have hne2:b11 ≠ b8:=Ne.symm hne
     have hc0:=qaE H83.out 0
     have hc1:=qaE H83.out 1
     have hc2:=qaE H83.out 2
     have hd0:=qaD H83.out 0
     have hd1:=qaD H83.out 1
     have hd2:=qaD H83.out 2
     have he0:=qaE H113.out 0
     have he1:=qaE H113.out 1
     have he2:=qaE H113.out 2
     have hf0:=qaD H113.out 0
     have hf1:=qaD H113.out 1
     have hf2:=qaD H113.out 2
     simp at hc0 hc1 hc2 he0 he1 he2
     have HV3':Aside0 (Kd.V k68 68 w3 w.heap.size (fun k=>(k ≠ b8∧k ≠ b11)∧some k ≠ u9.ownBlock) (.slice vA2 rl2.length vc2) rl2):=⟨Kd.V_map (Kd.V_mono HV3.out (fun k hk=>by
      have h1:=H8L.out
      rcases hk.1 with h|h
      ·exact ⟨⟨h.1.1,h.2⟩,h.1.2⟩
      ·exact ⟨⟨by omega,by omega⟩,fun e_=>by have:=HO9.out k e_.symm;omega⟩)) (fun _ hf=>hf)⟩
     have HO3':Aside0 (Kd.S k24 24 w3 w.heap.size (fun k=>(k ≠ b8∧k ≠ b11)∧¬ some k=(Value.slice sA st.length sc).ownBlock) u9 out):=⟨Kd.S_mono HO3.out (fun k hk=>⟨hk.1.1,hk.2⟩)⟩
     clear HV3 HO3
     go_upto_region 10 with (first|((with_reducible refine gate_store (t:=72) (p:=8) rfl ?_);refine store_event (t:=72) (p:=8) (v:=?vo4) (w1:=(((w3.setCell ⟨b8,0,none⟩ (.slice vA2 rl2.length vc2)).setCell ⟨b8,1,none⟩ (.int .i64 a2)).setCell ⟨b8,2,none⟩ (.bool b2))) ?hg ?ho ?hn ?hr ?_;(case ho=>rfl);(case hg=>rfl);(case hn=>rfl);(case hr=>first|(go_simp;done)|(go_simp;rfl));intro w4 hw4;have H84:Aside0 (w4.heap[b8]?=some (.cells #[.slice vA2 rl2.length vc2,.int .i64 a2,.bool b2] 72 (0,0))):=⟨by rw [hw4];exact blk_put3' H83.out⟩;have H114:Aside0 (w4.heap[b11]?=some (.cells #[.string ⟨#[]⟩,.int .i64 0,.slice none 0 0] 24 (0,0))):=⟨by rw [hw4];exact qbZ H113.out hne2 _ _ _⟩;have HO4:Aside0 (Kd.S k24 24 w4 w.heap.size (fun k=>(k ≠ b8∧k ≠ b11)∧¬ some k=(Value.slice sA st.length sc).ownBlock) u9 out):=⟨by rw [hw4];exact S_far3 HO3'.out (fun k hk=>hk.1.1) _ _ _⟩;have HR4:Aside0 (Kd.R k68 68 w4 w.heap.size (fun k=>k ≠ b8∧k ≠ b11) (.slice (some ad) l.length c) l):=⟨by rw [hw4];exact R_far3 HR3.out (fun k hk=>hk.1) _ _ _⟩;have HV4:Aside0 (Kd.V k68 68 w4 w.heap.size (fun k=>(k ≠ b8∧k ≠ b11)∧some k ≠ u9.ownBlock) (.slice vA2 rl2.length vc2) rl2):=⟨by rw [hw4];exact V_far3 HV3'.out (fun k hk=>hk.1.1) _ _ _⟩;have HS4:Aside0 (Kd.R k52 52 w4 (b11+1) (fun k=>b11+1≤k) (.slice sA st.length sc) st):=⟨by rw [hw4];exact R_far3 HR5.out (fun k hk=>by have:=H8L.out;omega) _ _ _⟩;have HB4:Aside0 (Below w.heap.size w w4):=⟨by rw [hw4];exact qaF (qaF (qaF HB3.out HG8.out) HG8.out) HG8.out⟩;have hg0:=qaE H114.out 0;have hg1:=qaE H114.out 1;have hg2:=qaE H114.out 2;have hi0:=qaD H114.out 0;have hi1:=qaD H114.out 1;have hi2:=qaD H114.out 2;simp at hg0 hg1 hg2;clear hw4 H83 H113 HO3' HR3 HV3' HR5 HB3 hc0 hc1 hc2 hd0 hd1 hd2 he0 he1 he2 hf0 hf1 hf2)|((with_reducible refine gate_store (t:=24) (p:=11) rfl ?_);refine store_event (t:=24) (p:=11) (v:=?vo5) (w1:=(((w4.setCell ⟨b11,0,none⟩ (.string nm)).setCell ⟨b11,1,none⟩ (.int .i64 rr)).setCell ⟨b11,2,none⟩ (.slice sA st.length sc))) ?hg ?ho ?hn ?hr ?_;(case ho=>rfl);(case hg=>rfl);(case hn=>rfl);(case hr=>first|(go_simp;done)|(go_simp;rfl));intro w5 hw5;have H85:Aside0 (w5.heap[b8]?=some (.cells #[.slice vA2 rl2.length vc2,.int .i64 a2,.bool b2] 72 (0,0))):=⟨by rw [hw5];exact qbZ H84.out hne _ _ _⟩;have H115:Aside0 (w5.heap[b11]?=some (.cells #[.string nm,.int .i64 rr,.slice sA st.length sc] 24 (0,0))):=⟨by rw [hw5];exact blk_put3' H114.out⟩;have HO5:Aside0 (Kd.S k24 24 w5 w.heap.size (fun k=>(k ≠ b8∧k ≠ b11)∧¬ some k=(Value.slice sA st.length sc).ownBlock) u9 out):=⟨by rw [hw5];exact S_far3 HO4.out (fun k hk=>hk.1.2) _ _ _⟩;have HR5:Aside0 (Kd.R k68 68 w5 w.heap.size (fun k=>k ≠ b8∧k ≠ b11) (.slice (some ad) l.length c) l):=⟨by rw [hw5];exact R_far3 HR4.out (fun k hk=>hk.2) _ _ _⟩;have HV5:Aside0 (Kd.V k68 68 w5 w.heap.size (fun k=>(k ≠ b8∧k ≠ b11)∧some k ≠ u9.ownBlock) (.slice vA2 rl2.length vc2) rl2):=⟨by rw [hw5];exact V_far3 HV4.out (fun k hk=>hk.1.2) _ _ _⟩;have HS5:Aside0 (Kd.R k52 52 w5 (b11+1) (fun k=>b11+1≤k) (.slice sA st.length sc) st):=⟨by rw [hw5];exact R_far3 HS4.out (fun k hk=>by omega) _ _ _⟩;have HB5:Aside0 (Below w.heap.size w w5):=⟨by rw [hw5];exact qaF (qaF (qaF HB4.out HBZ.out) HBZ.out) HBZ.out⟩;have hc0:=qaE H85.out 0;have hc1:=qaE H85.out 1;have hc2:=qaE H85.out 2;have hd0:=qaD H85.out 0;have hd1:=qaD H85.out 1;have hd2:=qaD H85.out 2;have he0:=qaE H115.out 0;have he1:=qaE H115.out 1;have he2:=qaE H115.out 2;have hf0:=qaD H115.out 0;have hf1:=qaD H115.out 1;have hf2:=qaD H115.out 2;simp at hc0 hc1 hc2 he0 he1 he2;clear hw5 H84 H114 HO4 HR4 HV4 HS4 HB4 hg0 hg1 hg2 hi0 hi1 hi2))
     cases b2
     ·have hh:=HH2.out
      simp only [if_neg Bool.false_ne_true] at hh
      by_cases g4:out.length < 1000000
      case neg=>rw [if_neg g4] at hh;cases hh
      rw [if_pos g4] at hh
      obtain ⟨e,a4,hh⟩:=Option.bind_eq_some_iff.mp hh
      obtain ⟨y,hy⟩:∃ y,y=out++[(⟨nm,rr,st⟩:S24)]:=⟨_,rfl⟩
      have HLA:Aside0 (sawmillref37_last.f gk y=some e):=⟨by rw [hy];exact a4⟩
      have HH3:Aside0 ((if e=0 then sawmillref37_Parse.go gk l rl2 a2 y else some ([],e,(qaZ l a).f3))=some (r1,r2,r3)):=⟨by rw [hy];exact hh⟩
      have NY:=Aside0.mk hy
      clear hy
      have HLN:=Aside0.mk g4
      clear HH2 a4 hh g4
      go_upto_region 13 with (first|((with_reducible refine qcG (b:=.append) (xs:=#[.tmp 52,.tmp 54]) rfl ?_);at_builtin;refine Kd.S_append k24 w.heap.size rfl (.tmp 52) (.tmp 54) 25 24 (.agg #[(.string ⟨#[]⟩),(.int .i64 0),(.slice none 0 0)]) 48 rfl Tryd.underlying25 info24 rfl (by decide) (by omega) u9 out (⟨nm,rr,st⟩:S24) [.string nm,.int .i64 rr,.slice sA st.length sc] (fun k_=>k_ ≠ b8∧k_ ≠ b11) (fun k_=>some k_=(.slice sA st.length sc:Value).ownBlock) rfl rfl ?aP ?aQ ?aF HO5.out (Below.refl _ _) (qaK HB5.out) ?aL ?_;(case aP=>exact k24_mkM _ _ _ (⟨nm,rr,st⟩:S24) (Kd.R_lower (Kd.R_tight rfl HS5.out) (by have:=HBZ.out;omega)));(case aQ=>exact fun k hk=>by have h1:=Kd.R_base HS5.out k hk.symm;have h2:=H8L.out;exact ⟨⟨by omega,by omega⟩,fun e_=>by have:=HO9.out k e_.symm;omega⟩);(case aF=>exact fun k hk=>by have h1:=qbF H85.out;have h2:=qbF H115.out;exact ⟨by omega,by omega⟩);(case aL=>have:=HLN.out;omega);intro v9' w6 ho hb hg hat;rw [← NY.out] at ho;have HO6:=Aside0.mk ho;have H86:=Aside0.mk (blk_grown H85.out hg (Kd.S_away HO5.out (fun _ hk=>hk.1.1)));have HR6:=Aside0.mk (Kd.R_mono (ok':=fun k=>k ≠ b8) (Kd.R_grown (Kd.R_apart' HR5.out (Kd.S_typed HO5.out) (by decide)) hg (fun _ hk=>hk.2)) (fun _ hk=>hk.1.1));have HV6:=Aside0.mk (Kd.V_after HV5.out hg hat);have HB6:=Aside0.mk (below_weaken HB5.out (Nat.le_refl _) hb);clear ho hb hg hat HO5 H85 H115 HR5 HV5 HS5 HB5 hc0 hc1 hc2 hd0 hd1 hd2 he0 he1 he2 hf0 hf1 hf2;obtain ⟨oA,oc,eo⟩:=Kd.S_slice HO6.out;subst eo))
      go_wp2_with fail
      refine (sawmillref37_last.calls gk oA oc y e _ (Kd.S_reads' HO6.out).2.2 (Kd.S_reads' HO6.out).2.1 HLA.out).mono ?_
      rintro ee w7 ⟨rfl,hb⟩
      have HO7:=Aside0.mk (Kd.S_below HO6.out hb)
      have H87:=Aside0.mk (qaS H86.out hb)
      have HR7:=Aside0.mk (Kd.R_below HR6.out hb)
      have HV7:=Aside0.mk (Kd.V_below HV6.out hb)
      have HB7:=Aside0.mk (qaN HB6.out hb)
      clear hb HO6 H86 HR6 HV6 HB6 HLA
      by_cases g5:e=0
      ·have hh:=HH3.out
       rw [if_pos g5] at hh
       have HN:=Aside0.mk hh
       subst g5
       clear HH3 hh
       go_wp2_with fail
       go_roundg gk
       case measure=>omega
       case rel=>exact ⟨_,a2,rl2,_,HN,⟨by have:=HK.out;omega⟩,⟨Kd.S_mono HO7.out (fun _ hk=>hk.1)⟩,H87,⟨Kd.V_mono HV7.out (fun _ hk=>⟨hk.1.1,hk.2⟩)⟩,HR7,HB7⟩
      ·have hh:=HH3.out
       rw [if_neg g5] at hh
       simp only [Option.some.injEq,Prod.mk.injEq] at hh
       obtain ⟨rfl,rfl,rfl⟩:=hh
       have hq2:(e != 0)=true:=by simp [g5]
       clear HH3
       go_wp2_with fail
       refine bodyPost_ret (results_tmp3 rfl _ _ _) rfl ?_
       exact ⟨_,rfl,Kd.S_nil _ _ _ _ _,HB7.out⟩
     ·have hh:=HH2.out
      simp only [if_true] at hh
      by_cases g4:0≤a2∧a2 < (l.length:Int)
      case neg=>rw [if_neg g4] at hh;cases hh
      rw [if_pos g4] at hh
      simp only [Option.some.injEq,Prod.mk.injEq] at hh
      obtain ⟨rfl,rfl,rfl⟩:=hh
      obtain ⟨g4a,g4b⟩:=g4
      clear HH2
      obtain ⟨ad2,ea2,hx0,hx1,hx2,hx3⟩:=at_T68 (Kd.R_reads' HR5.out).2.2 a2 g4a g4b
      cases ea2
      replace g4a:=eq_true g4a
      replace g4b:=eq_true g4b
      go_upto_region 11 with fail
      refine start_ (n:=9) (S:=fun w'=>w'.cell? ⟨b8,1,none⟩=some (.int .i64 a2)∧w'.cell? ⟨(ad.add (a2.toNat * 4)).block,(ad.add (a2.toNat * 4)).off+3,none⟩=some (.int .i64 (qaZ l a2).f3)) (ds:=[]) (bitsA 9 0) (by kernel_rfl) rfl rfl ⟨hc1,hx3⟩ (fun hHeld=>?_)
      refine with_tabW sawmillref37_Parse.tab11 sawmillref37_Parse.bits11 (fun HT_ HW_=>?_)
      refine qbD (i:=0) (N:=some 46) (v:=?_) (a':=?_) #[true,false,false,false,false,false,false,false,false] rfl rfl (qaW HT_.out (by kernel_rfl)) (fun _ _ _ h=>h) (Or.inl ⟨by rfl,?_⟩) ?_ ?_
      rotate_left;(intro w';go_simp;with_reducible rfl);rotate_left;(simp only [Act.put,List.setIfInBounds_toArray,List.set_cons_zero,List.set_cons_succ,qaX,qaY];rfl)
      refine qbD (i:=1) (N:=some 47) (v:=?_) (a':=?_) #[true,true,false,false,false,false,false,false,false] rfl rfl (qaW HT_.out (by kernel_rfl)) (fun _ _ _ h=>h) (Or.inl ⟨by rfl,?_⟩) ?_ ?_
      rotate_left;(intro w';go_simp;with_reducible rfl);rotate_left;(simp only [Act.put,List.setIfInBounds_toArray,List.set_cons_zero,List.set_cons_succ,qaX,qaY];rfl)
      refine qbD (i:=6) (N:=some 2) (v:=?_) (a':=?_) #[true,true,false,false,false,false,true,false,false] rfl rfl (qaW HT_.out (by kernel_rfl)) (fun _ _ _ h=>h) (Or.inl ⟨by rfl,?_⟩) ?_ ?_
      rotate_left;(intro w';go_simp;with_reducible rfl);rotate_left;(simp only [Act.put,List.setIfInBounds_toArray,List.set_cons_zero,List.set_cons_succ,qaX,qaY];rfl)
      refine qbD (i:=7) (N:=some 3) (v:=?_) (a':=?_) #[true,true,false,false,false,false,true,true,false] rfl rfl (qaW HT_.out (by kernel_rfl)) (fun _ _ _ h=>h) (Or.inl ⟨by rfl,?_⟩) ?_ ?_
      rotate_left;(intro w';go_simp;with_reducible rfl);rotate_left;(simp only [Act.put,List.setIfInBounds_toArray,List.set_cons_zero,List.set_cons_succ,qaX,qaY];rfl)
      refine take_ (i:=2) (N:=some 48) (v:=?_) (a':=?_) (bitsA 9 199) rfl rfl (qcK HT_.out HW_.out (by kernel_rfl)) (fun _ _ _ h=>h) (Or.inl ⟨by rfl,?_⟩) hHeld ?_ ?_
      rotate_left;(rintro w' ⟨s0,s1⟩;go_simp;with_reducible rfl);rotate_left;(simp only [Act.put,List.setIfInBounds_toArray,List.set_cons_zero,List.set_cons_succ,qaX,qaY];rfl)
      refine qbD (i:=3) (N:=some 49) (v:=?_) (a':=?_) #[true,true,true,true,false,false,true,true,false] rfl rfl (qaW HT_.out (by kernel_rfl)) (fun _ _ _ h=>h) (Or.inl ⟨by rfl,?_⟩) ?_ ?_
      rotate_left;(intro w';go_simp;with_reducible rfl);rotate_left;(simp only [Act.put,List.setIfInBounds_toArray,List.set_cons_zero,List.set_cons_succ,qaX,qaY];rfl)
      refine qbD (i:=4) (N:=some 50) (v:=?_) (a':=?_) #[true,true,true,true,true,false,true,true,false] rfl rfl (qaW HT_.out (by kernel_rfl)) (fun _ _ _ h=>h) (Or.inl ⟨by rfl,?_⟩) ?_ ?_
      rotate_left;(intro w';go_simp;with_reducible rfl);rotate_left;(simp only [Act.put,List.setIfInBounds_toArray,List.set_cons_zero,List.set_cons_succ,qaX,qaY];rfl)
      refine take_ (i:=5) (N:=some 51) (v:=?_) (a':=?_) (bitsA 9 255) rfl rfl (qcK HT_.out HW_.out (by kernel_rfl)) (fun _ _ _ h=>h) (Or.inl ⟨by rfl,?_⟩) hHeld ?_ ?_
      rotate_left;(rintro w' ⟨s0,s1⟩;go_simp;with_reducible rfl);rotate_left;(simp only [Act.put,List.setIfInBounds_toArray,List.set_cons_zero,List.set_cons_succ,qaX,qaY];rfl)
      refine qbD (i:=8) (N:=some 4) (v:=?_) (a':=?_) #[true,true,true,true,true,true,true,true,true] rfl rfl (qaW HT_.out (by kernel_rfl)) (fun _ _ _ h=>h) (Or.inl ⟨by rfl,?_⟩) ?_ ?_
      rotate_left;(intro w';go_simp;with_reducible rfl);rotate_left;(simp only [Act.put,List.setIfInBounds_toArray,List.set_cons_zero,List.set_cons_succ,qaX,qaY];rfl)
      refine done_ (done_of HT_.out (by kernel_rfl)) ?_
      go_wp2_with fail
      refine bodyPost_ret (results_tmp3 rfl _ _ _) rfl ?_
      exact ⟨_,rfl,Kd.S_nil _ _ _ _ _,below_drew HB5.out⟩
 ·have hh:=HH.out
  simp only [if_neg he,Option.some.injEq,Prod.mk.injEq] at hh
  obtain ⟨rfl,rfl,rfl⟩:=hh
  have hq:(e1 != 0)=true:=by simp [he]
  clear HH
  go_wp2_with fail
  refine bodyPost_ret (results_tmp3 rfl _ _ _) rfl ?_
  exact ⟨_,rfl,Kd.S_nil _ _ _ _ _,HB.out⟩
end Go.Proofs.YtehdmplngmbnnaaDoor.P
