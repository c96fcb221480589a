/-
  Walks and plain laws on the way to the statement BillAmounts; no conditions.
-/
import Derived.Laws.Strings
import Derived.Test.YtojkjhaobjidlaaDoorMb2
import Derived.Test.YtojkjhaobjidlaaDoorMb3
namespace Go.Proofs.YtojkjhaobjidlaaDoor.P
open Go.RowKit Go.Proofs.YtojkjhaobjidlaaDoorW.PrintWords Go.Proofs.YtojkjhaobjidlaaDoorW.PrintLast
set_option linter.unusedVariables false
set_option linter.unusedSimpArgs false
def nmc (c:Int):Bool:=decide (48≤c∧c≤57) || decide (c=95) || decide (97≤c∧c≤122)
def allFrom (p:Int→Bool) (s:ByteArray):Nat→Nat→Bool
 | 0,_=>true
 | d+1,i=>p (bt s i) && allFrom p s d (i+1)
def isNm (s:ByteArray):Bool:=decide (1≤s.size) && decide (s.size≤16) && decide (97≤bt s 0) && decide (bt s 0≤122) && allFrom nmc s s.size 0
theorem wrap_nat (i:Nat) (n:Nat) (h:i≤n) (hn:n≤140737488351232):wrap64 ((i:Int)+1)=((i+1:Nat):Int):=by
 unfold wrap64
 omega
theorem ident_l0 (s:ByteArray) (hs:s.size≤140737488351232):∀ (d k i:Nat),i+d=s.size→d < k→ident_IsName.l0 k s (s.size:Int) (i:Int)=some (allFrom nmc s d i):=by
 intro d
 induction d with
 | zero =>
  intro k i hi hk
  obtain ⟨k,rfl⟩:∃ m,k=m+1:=⟨k - 1,by omega⟩
  simp only [ident_IsName.l0]
  rw [if_neg (by omega)]
  rfl
 | succ d ih =>
  intro k i hi hk
  obtain ⟨k,rfl⟩:∃ m,k=m+1:=⟨k - 1,by omega⟩
  simp only [ident_IsName.l0]
  rw [if_pos (by omega),if_pos (by omega),if_pos (by omega),wrap_nat i s.size (by omega) hs,ih k (i+1) (by omega) (by omega)]
  simp only [allFrom]
  generalize bt s (i:Int)=c
  unfold ident_digit.f nmc
  by_cases h1:48≤c
  ·rw [if_pos h1,Option.bind_some]
   by_cases h2:c≤57
   ·simp [h1,h2]
   ·by_cases h3:c=95
    ·simp [h1,h2,h3]
    ·by_cases h4:c < 97
     ·simp [h1,h2,h3,h4];omega
     ·by_cases h5:c > 122
      ·simp [h1,h2,h3,h4,h5];omega
      ·simp [h1,h2,h3,h4,h5];omega
  ·rw [if_neg h1,Option.bind_some]
   have h3:¬ c=95:=by omega
   have h4:c < 97:=by omega
   simp [h1,h3,h4]
   omega
theorem size_nil (s:ByteArray):s.toList=[] ↔ s.size=0:=by
 rw [ByteArray.toList_eq,List.eq_nil_iff_length_eq_zero,Array.length_toList]
 rfl
theorem ident_name (s:ByteArray) (hs:s.size≤140737488351232) (k:Nat) (hk:s.size+1 < k):ident_IsName.f k s=some (isNm s):=by
 obtain ⟨k,rfl⟩:∃ m,k=m+1:=⟨k - 1,by omega⟩
 unfold ident_IsName.f isNm
 have hj:∀ b,ident_IsName.j0 (k+1) s b=if b=true then some false else some (allFrom nmc s s.size 0):=by
  intro b
  simp only [ident_IsName.j0]
  rw [show (0:Int)=((0:Nat):Int) from rfl,ident_l0 s hs s.size k 0 (by omega) (by omega)]
 simp only [hj,size_nil]
 by_cases h0:s.size=0
 ·rw [if_pos h0];simp [h0]
 ·rw [if_neg h0]
  by_cases h1:(s.size:Int) > 16
  ·rw [if_pos h1]
   have:¬ s.size≤16:=by omega
   simp [this]
  ·rw [if_neg h1,if_pos (by omega)]
   have e1:1≤s.size:=by omega
   have e2:s.size≤16:=by omega
   obtain ⟨m,hm⟩:∃ m,s.size=m+1:=⟨s.size - 1,by omega⟩
   rw [hm]
   simp only [allFrom]
   generalize allFrom nmc s m (0+1)=rest
   rw [show ((0:Nat):Int)=(0:Int) from rfl]
   generalize bt s 0=c
   have e3:1≤m+1:=by omega
   have e4:m+1≤16:=by omega
   unfold ident_digit.f nmc
   by_cases g1:48≤c<;>by_cases g2:c≤57<;>by_cases g3:c=95<;>by_cases g4:97≤c<;>by_cases g5:c≤122<;>first|(exfalso;omega)|simp [e3,e4,g1,g2,g3,g4,g5]
theorem ident_at (s:ByteArray) (k:Nat):ident_IsName.f (20+k) s=some (isNm s):=by
 by_cases h:s.size≤16
 ·exact ident_name s (by omega) (20+k) (by omega)
 ·obtain ⟨k,hk⟩:∃ m,20+k=m+1:=⟨19+k,by omega⟩
  rw [hk]
  unfold ident_IsName.f isNm
  simp only [size_nil]
  rw [if_neg (by omega),if_pos (by omega)]
  simp [ident_IsName.j0,h]
theorem ident_nm (s:ByteArray):ident_IsName.f 20 s=some (isNm s):=by
 by_cases h:s.size≤16
 ·exact ident_name s (by omega) 20 (by omega)
 ·unfold ident_IsName.f isNm
  simp only [size_nil]
  rw [if_neg (by omega),if_pos (by omega)]
  simp [ident_IsName.j0,h]
end Go.Proofs.YtojkjhaobjidlaaDoor.P
namespace Go.Proofs.YtojkjhaobjidlaaDoor.P
open Go.RowKit Go.Proofs.YtojkjhaobjidlaaDoorW.PrintWords Go.Proofs.YtojkjhaobjidlaaDoorW.PrintLast Go.Proofs.YtojkjhaobjidlaaDoorW.PrintMore
attribute [local go_sem] max2_int min2_int max_two min_two max_three min_three max_four min_four
attribute [local go_sem] cell_twice
set_option linter.unusedVariables false
set_option linter.unusedSimpArgs false
def sawmillref02_digit.f (a0:Int):Option (Bool):=if a0 ≥ 48 then (some (decide (a0≤57))) else (some false)
set_option maxHeartbeats 8000000 in
set_option maxRecDepth 100000 in
theorem sawmillref02_digit.calls (a0:Int) (r:Bool) (w:World) (h:sawmillref02_digit.f a0=some r) :
  Calls Tryd.prog 54 #[.int .u8 a0] w fun e w'=>e=.returned (.bool r)∧Drawn0 w w':=by
 have H:(if a0 ≥ 48 then (some (decide (a0≤57))) else (some false))=some r:=h
 clear h
 by_cases c2:a0 ≥ 48
 ·rw [if_pos c2] at H
  have c2b0:decide (48≤a0)=true:=decide_eq_true c2
  clear c2
  obtain rfl:=Option.some.inj H
  go_enter Tryd.func54,Tryd.ntmps54
  go_wp2
  go_ret
  exact ⟨by first|rfl|(simp;done)|(simp [*];done),by repeat (first|exact Drawn0.refl _|apply Drawn0.step)⟩
 ·rw [if_neg c2] at H
  have c2b0:decide (48≤a0)=false:=decide_eq_false c2
  clear c2
  obtain rfl:=Option.some.inj H
  go_enter Tryd.func54,Tryd.ntmps54
  go_wp2
  go_ret
  exact ⟨by first|rfl|(simp;done)|(simp [*];done),by repeat (first|exact Drawn0.refl _|apply Drawn0.step)⟩
end Go.Proofs.YtojkjhaobjidlaaDoor.P
namespace Go.Proofs.YtojkjhaobjidlaaDoor.P
open Go.RowKit Go.Proofs.YtojkjhaobjidlaaDoorW.PrintWords Go.Proofs.YtojkjhaobjidlaaDoorW.PrintLast Go.Proofs.YtojkjhaobjidlaaDoorW.PrintMore
attribute [local go_sem] max2_int min2_int max_two min_two max_three min_three max_four min_four
attribute [local go_sem] cell_twice
set_option linter.unusedVariables false
set_option linter.unusedSimpArgs false
mutual
def sawmillref02_IsName.j0:Nat→ByteArray→Bool→Option (Bool)
 | 0,_,_=>none
 | k+1,x0,x12=>if x12=true then (some false) else (sawmillref02_IsName.l0 k x0 0)
def sawmillref02_IsName.l0:Nat→ByteArray→Int→Option (Bool)
 | 0,_,_=>none
 | k+1,x0,x3=>if x3 < (x0.size:Int) then (if 0≤x3 then (if (bt x0 x3) ≥ 97 then (if ((bt x0 x3)≤122) then (sawmillref02_IsName.l0 k x0 (wrap64 (x3+1))) else (if x3=0 then (some false) else (if (bt x0 x3)=95 then (sawmillref02_IsName.l0 k x0 (wrap64 (x3+1))) else ((sawmillref02_digit.f (bt x0 x3)).bind fun t101=>(if t101=true then (sawmillref02_IsName.l0 k x0 (wrap64 (x3+1))) else (some false)))))) else (if x3=0 then (some false) else (if (bt x0 x3)=95 then (sawmillref02_IsName.l0 k x0 (wrap64 (x3+1))) else ((sawmillref02_digit.f (bt x0 x3)).bind fun t102=>(if t102=true then (sawmillref02_IsName.l0 k x0 (wrap64 (x3+1))) else (some false)))))) else (none)) else (some true)
end
def sawmillref02_IsName.f (k:Nat) (a0:ByteArray):Option (Bool):=if (a0.size:Int) < 1 then (sawmillref02_IsName.j0 k a0 true) else (sawmillref02_IsName.j0 k a0 (decide ((a0.size:Int) > 16)))
theorem sawmillref02_IsName.mono_l:∀ k,(∀ y0 y1,LeO (sawmillref02_IsName.j0 k y0 y1) (sawmillref02_IsName.j0 (k+1) y0 y1))∧(∀ y0 y1,LeO (sawmillref02_IsName.l0 k y0 y1) (sawmillref02_IsName.l0 (k+1) y0 y1))
 | 0=>⟨fun _ _ r h=>by simp [sawmillref02_IsName.j0] at h,fun _ _ r h=>by simp [sawmillref02_IsName.l0] at h⟩
 | k+1=>by
  obtain ⟨ih0,ih1⟩:=sawmillref02_IsName.mono_l k
  refine ⟨?_,?_⟩
  ·intro y0 y1
   unfold sawmillref02_IsName.j0
   repeat' first
   | (with_reducible exact ih0 _ _)
   | (with_reducible exact ih1 _ _)
   | (with_reducible exact LeO.refl _)
   | (with_reducible exact LeO.none _)
   | (with_reducible refine LeO.ite ?_ ?_)
   | (with_reducible refine LeO.bind ?_ (fun _=>?_))
   | exact ih0 _ _
   | exact ih1 _ _
   | exact LeO.none _
   | refine LeO.ite ?_ ?_
   | refine LeO.bind ?_ (fun _=>?_)
  ·intro y0 y1
   unfold sawmillref02_IsName.l0
   repeat' first
   | (with_reducible exact ih0 _ _)
   | (with_reducible exact ih1 _ _)
   | (with_reducible exact LeO.refl _)
   | (with_reducible exact LeO.none _)
   | (with_reducible refine LeO.ite ?_ ?_)
   | (with_reducible refine LeO.bind ?_ (fun _=>?_))
   | exact ih0 _ _
   | exact ih1 _ _
   | exact LeO.none _
   | refine LeO.ite ?_ ?_
   | refine LeO.bind ?_ (fun _=>?_)
theorem sawmillref02_IsName.mono:∀ a0 k,LeO (sawmillref02_IsName.f k a0) (sawmillref02_IsName.f (k+1) a0):=by
 intro a0 k
 obtain ⟨ih0,ih1⟩:=sawmillref02_IsName.mono_l k
 unfold sawmillref02_IsName.f
 repeat' first
   | (with_reducible exact ih0 _ _)
   | (with_reducible exact ih1 _ _)
   | (with_reducible exact LeO.refl _)
   | (with_reducible exact LeO.none _)
   | (with_reducible refine LeO.ite ?_ ?_)
   | (with_reducible refine LeO.bind ?_ (fun _=>?_))
   | exact ih0 _ _
   | exact ih1 _ _
   | exact LeO.none _
   | refine LeO.ite ?_ ?_
   | refine LeO.bind ?_ (fun _=>?_)
set_option maxHeartbeats 8000000 in
set_option maxRecDepth 100000 in
theorem sawmillref02_IsName.calls (k:Nat) (a0:ByteArray) (r:Bool) (w:World) (h:sawmillref02_IsName.f k a0=some r) :
  Calls Tryd.prog 45 #[.string a0] w fun e w'=>e=.returned (.bool r)∧Drawn0 w w':=by
 have H:(if (a0.size:Int) < 1 then (sawmillref02_IsName.j0 k a0 true) else (sawmillref02_IsName.j0 k a0 (decide ((a0.size:Int) > 16))))=some r:=h
 clear h
 have HC2:=Aside0.mk H
 clear H
 go_enter Tryd.func45,Tryd.ntmps45
 go_upto_region 1 with (fail)
 go_cut [12] (fun v12 wc=>∃ (kq:Nat) (x12_1:Bool),v12=.bool x12_1∧Aside0 (sawmillref02_IsName.j0 kq a0 x12_1=some r)∧Aside0 (kq≤k)∧Drawn0 w wc)
 case first =>
  have H:=HC2.out
  clear HC2
  by_cases c3:(a0.size:Int) < 1
  ·rw [if_pos c3] at H
   have c3b0:decide ((a0.size:Int) < 1)=true:=decide_eq_true c3
   have c3b1:decide (a0.size < 1)=true:=decide_eq_true (by omega)
   clear c3
   (first|rw [c3b0]|(simp only [i64_w,i32_w];rw [c3b0])|skip)
   have H':=Aside0.mk H
   clear H
   go_wp2
   go_meet
   case rel=>exact ⟨_,(true),(by first|rfl|(simp;done)|(simp [*];done)),H',⟨by first|omega|exact Nat.le_refl _⟩,by repeat (first|exact Drawn0.refl _|apply Drawn0.step)⟩
  ·rw [if_neg c3] at H
   have c3b0:decide ((a0.size:Int) < 1)=false:=decide_eq_false c3
   have c3b1:decide (a0.size < 1)=false:=decide_eq_false (by omega)
   clear c3
   (first|rw [c3b0]|(simp only [i64_w,i32_w];rw [c3b0])|skip)
   have H':=Aside0.mk H
   clear H
   go_wp2
   go_meet
   case rel=>exact ⟨_,(decide ((a0.size:Int) > 16)),(by first|rfl|(simp;done)|(simp [*];done)),H',⟨by first|omega|exact Nat.le_refl _⟩,by repeat (first|exact Drawn0.refl _|apply Drawn0.step)⟩
 case rest =>
  clear HC2
  try clear p2
  try clear c3
  try clear c3b0
  try clear c3b1
  obtain ⟨kq,x12_1,rfl,HA,HJ1,⟨mc1,rfl⟩⟩:=hcut
  cases kq with
  | zero=>exact absurd HA.out (by simp [sawmillref02_IsName.j0])
  | succ kj1 =>
   have H:=HA.out
   clear HA
   simp only [sawmillref02_IsName.j0] at H
   by_cases c4:x12_1=true
   ·subst c4
    have H1:(some false)=some r:=by rw [if_pos rfl] at H;exact H
    clear H
    have H:=H1
    clear H1
    obtain rfl:=Option.some.inj H
    go_wp2
    go_ret
    exact ⟨by first|rfl|(simp;done)|(simp [*];done),by repeat (first|exact Drawn0.refl _|apply Drawn0.step)⟩
   ·replace c4:=Bool.eq_false_iff.mpr c4
    subst c4
    have H1:(sawmillref02_IsName.l0 kj1 a0 0)=some r:=by rw [if_neg (show ¬ (false=true) by decide)] at H;exact H
    clear H
    have H:=H1
    clear H1
    have H':=Aside0.mk H
    clear H
    go_wp2
    go_loopg [3] kj1 (fun kq v3 w'=>∃ (x3_2:Int),v3=.int .i64 x3_2∧Aside0 (sawmillref02_IsName.l0 kq a0 x3_2=some r)∧Aside0 (kq≤kj1)∧Drawn0 w w')
    case atStart=>exact ⟨(0),(by first|rfl|(simp;done)|(simp [*];done)),H',⟨Nat.le_refl _⟩,by repeat (first|exact Drawn0.refl _|apply Drawn0.step)⟩
    case round =>
     clear H'
     try clear c1
     try clear p2
     try clear c3
     try clear c3b0
     try clear c3b1
     try clear c4
     try clear p2
     obtain ⟨x3_2,rfl,HA,HK2,⟨m2,rfl⟩⟩:=hrel
     cases gk with
     | zero=>exact absurd HA.out (by simp [sawmillref02_IsName.l0])
     | succ k2 =>
      have H:=HA.out
      clear HA
      simp only [sawmillref02_IsName.l0] at H
      by_cases c5:x3_2 < (a0.size:Int)
      ·rw [if_pos c5] at H
       have c5b0:decide (x3_2 < (a0.size:Int))=true:=decide_eq_true c5
       clear c5
       by_cases c6:0≤x3_2
       ·rw [if_pos c6] at H
        have c6b0:decide (0≤x3_2)=true:=decide_eq_true c6
        clear c6
        by_cases c8:(bt a0 x3_2) ≥ 97
        ·rw [if_pos c8] at H
         have c8b0:decide (97≤(bt a0 x3_2))=true:=decide_eq_true c8
         clear c8
         by_cases c10:((bt a0 x3_2)≤122)
         ·rw [if_pos c10] at H
          have c10b0:decide ((bt a0 x3_2)≤122)=true:=decide_eq_true c10
          clear c10
          have H':=Aside0.mk H
          clear H
          have p7:0≤(x3_2:Int):=of_decide_eq_true (by first|(with_reducible assumption)|assumption)
          have q7:x3_2 < (a0.size:Int):=of_decide_eq_true (by first|(with_reducible assumption)|assumption)
          have hx7:=bt_at a0 x3_2
          replace p7:=eq_true p7
          replace q7:=eq_true q7
          have p9:0≤(x3_2:Int):=of_decide_eq_true (by first|(with_reducible assumption)|assumption)
          have q9:x3_2 < (a0.size:Int):=of_decide_eq_true (by first|(with_reducible assumption)|assumption)
          have hx9:=bt_at a0 x3_2
          replace p9:=eq_true p9
          replace q9:=eq_true q9
          go_wp2
          go_roundg k2
          case measure=>have:=HJ1.out;have:=HK2.out;omega
          case rel=>exact ⟨(wrap64 (x3_2+1)),(by first|rfl|(simp;done)|(simp [*];done)),H',⟨by have:=HJ1.out;have:=HK2.out;omega⟩,by repeat (first|exact Drawn0.refl _|apply Drawn0.step)⟩
         ·rw [if_neg c10] at H
          have c10b0:decide ((bt a0 x3_2)≤122)=false:=decide_eq_false c10
          clear c10
          by_cases c11:x3_2=0
          ·rw [if_pos c11] at H
           have c11b0:(x3_2 == 0)=true:=beq_iff_eq.mpr c11
           have c11b1:(x3_2 != 0)=false:=bne_eq_false_iff_eq.mpr c11
           clear c11
           obtain rfl:=Option.some.inj H
           have p7:0≤(x3_2:Int):=of_decide_eq_true (by first|(with_reducible assumption)|assumption)
           have q7:x3_2 < (a0.size:Int):=of_decide_eq_true (by first|(with_reducible assumption)|assumption)
           have hx7:=bt_at a0 x3_2
           replace p7:=eq_true p7
           replace q7:=eq_true q7
           have p9:0≤(x3_2:Int):=of_decide_eq_true (by first|(with_reducible assumption)|assumption)
           have q9:x3_2 < (a0.size:Int):=of_decide_eq_true (by first|(with_reducible assumption)|assumption)
           have hx9:=bt_at a0 x3_2
           replace p9:=eq_true p9
           replace q9:=eq_true q9
           go_wp2
           go_ret
           exact ⟨by first|rfl|(simp;done)|(simp [*];done),by repeat (first|exact Drawn0.refl _|apply Drawn0.step)⟩
          ·rw [if_neg c11] at H
           have c11b0:(x3_2 == 0)=false:=beq_eq_false_iff_ne.mpr c11
           have c11b1:(x3_2 != 0)=true:=bne_iff_ne.mpr c11
           by_cases c13:(bt a0 x3_2)=95
           ·rw [if_pos c13] at H
            have c13b0:((bt a0 x3_2) == 95)=true:=beq_iff_eq.mpr c13
            have c13b1:((bt a0 x3_2) != 95)=false:=bne_eq_false_iff_eq.mpr c13
            clear c13
            have H':=Aside0.mk H
            clear H
            have p7:0≤(x3_2:Int):=of_decide_eq_true (by first|(with_reducible assumption)|assumption)
            have q7:x3_2 < (a0.size:Int):=of_decide_eq_true (by first|(with_reducible assumption)|assumption)
            have hx7:=bt_at a0 x3_2
            replace p7:=eq_true p7
            replace q7:=eq_true q7
            have p9:0≤(x3_2:Int):=of_decide_eq_true (by first|(with_reducible assumption)|assumption)
            have q9:x3_2 < (a0.size:Int):=of_decide_eq_true (by first|(with_reducible assumption)|assumption)
            have hx9:=bt_at a0 x3_2
            replace p9:=eq_true p9
            replace q9:=eq_true q9
            have p12:0≤(x3_2:Int):=of_decide_eq_true (by first|(with_reducible assumption)|assumption)
            have q12:x3_2 < (a0.size:Int):=of_decide_eq_true (by first|(with_reducible assumption)|assumption)
            have hx12:=bt_at a0 x3_2
            replace p12:=eq_true p12
            replace q12:=eq_true q12
            go_wp2
            go_roundg k2
            case measure=>have:=HJ1.out;have:=HK2.out;omega
            case rel=>exact ⟨(wrap64 (x3_2+1)),(by first|rfl|(simp;done)|(simp [*];done)),H',⟨by have:=HJ1.out;have:=HK2.out;omega⟩,by repeat (first|exact Drawn0.refl _|apply Drawn0.step)⟩
           ·rw [if_neg c13] at H
            have c13b0:((bt a0 x3_2) == 95)=false:=beq_eq_false_iff_ne.mpr c13
            have c13b1:((bt a0 x3_2) != 95)=true:=bne_iff_ne.mpr c13
            replace H:=Option.bind_eq_some_iff.mp H
            obtain ⟨t101,A150,H⟩:=H
            replace H:(if t101=true then (sawmillref02_IsName.l0 k2 a0 (wrap64 (x3_2+1))) else (some false))=some r:=H
            have A15:=Aside0.mk A150
            clear A150
            by_cases c16:t101=true
            ·subst c16
             have H1:(sawmillref02_IsName.l0 k2 a0 (wrap64 (x3_2+1)))=some r:=by rw [if_pos rfl] at H;exact H
             clear H
             have H:=H1
             clear H1
             have H':=Aside0.mk H
             clear H
             have p7:0≤(x3_2:Int):=of_decide_eq_true (by first|(with_reducible assumption)|assumption)
             have q7:x3_2 < (a0.size:Int):=of_decide_eq_true (by first|(with_reducible assumption)|assumption)
             have hx7:=bt_at a0 x3_2
             replace p7:=eq_true p7
             replace q7:=eq_true q7
             have p9:0≤(x3_2:Int):=of_decide_eq_true (by first|(with_reducible assumption)|assumption)
             have q9:x3_2 < (a0.size:Int):=of_decide_eq_true (by first|(with_reducible assumption)|assumption)
             have hx9:=bt_at a0 x3_2
             replace p9:=eq_true p9
             replace q9:=eq_true q9
             have p12:0≤(x3_2:Int):=of_decide_eq_true (by first|(with_reducible assumption)|assumption)
             have q12:x3_2 < (a0.size:Int):=of_decide_eq_true (by first|(with_reducible assumption)|assumption)
             have hx12:=bt_at a0 x3_2
             replace p12:=eq_true p12
             replace q12:=eq_true q12
             have p14:0≤(x3_2:Int):=of_decide_eq_true (by first|(with_reducible assumption)|assumption)
             have q14:x3_2 < (a0.size:Int):=of_decide_eq_true (by first|(with_reducible assumption)|assumption)
             have hx14:=bt_at a0 x3_2
             replace p14:=eq_true p14
             replace q14:=eq_true q14
             go_wp2_with (first|(go_at_call 54;(with_reducible refine (sawmillref02_digit.calls (bt a0 x3_2) true _ A15.out).mono ?_);rintro e w' ⟨rfl,⟨nd,rfl⟩⟩))
             go_roundg k2
             case measure=>have:=HJ1.out;have:=HK2.out;omega
             case rel=>exact ⟨(wrap64 (x3_2+1)),(by first|rfl|(simp;done)|(simp [*];done)),H',⟨by have:=HJ1.out;have:=HK2.out;omega⟩,by repeat (first|exact Drawn0.refl _|apply Drawn0.step)⟩
            ·replace c16:=Bool.eq_false_iff.mpr c16
             subst c16
             have H1:(some false)=some r:=by rw [if_neg (show ¬ (false=true) by decide)] at H;exact H
             clear H
             have H:=H1
             clear H1
             obtain rfl:=Option.some.inj H
             have p7:0≤(x3_2:Int):=of_decide_eq_true (by first|(with_reducible assumption)|assumption)
             have q7:x3_2 < (a0.size:Int):=of_decide_eq_true (by first|(with_reducible assumption)|assumption)
             have hx7:=bt_at a0 x3_2
             replace p7:=eq_true p7
             replace q7:=eq_true q7
             have p9:0≤(x3_2:Int):=of_decide_eq_true (by first|(with_reducible assumption)|assumption)
             have q9:x3_2 < (a0.size:Int):=of_decide_eq_true (by first|(with_reducible assumption)|assumption)
             have hx9:=bt_at a0 x3_2
             replace p9:=eq_true p9
             replace q9:=eq_true q9
             have p12:0≤(x3_2:Int):=of_decide_eq_true (by first|(with_reducible assumption)|assumption)
             have q12:x3_2 < (a0.size:Int):=of_decide_eq_true (by first|(with_reducible assumption)|assumption)
             have hx12:=bt_at a0 x3_2
             replace p12:=eq_true p12
             replace q12:=eq_true q12
             have p14:0≤(x3_2:Int):=of_decide_eq_true (by first|(with_reducible assumption)|assumption)
             have q14:x3_2 < (a0.size:Int):=of_decide_eq_true (by first|(with_reducible assumption)|assumption)
             have hx14:=bt_at a0 x3_2
             replace p14:=eq_true p14
             replace q14:=eq_true q14
             go_wp2_with (first|(go_at_call 54;(with_reducible refine (sawmillref02_digit.calls (bt a0 x3_2) false _ A15.out).mono ?_);rintro e w' ⟨rfl,⟨nd,rfl⟩⟩))
             go_ret
             exact ⟨by first|rfl|(simp;done)|(simp [*];done),by repeat (first|exact Drawn0.refl _|apply Drawn0.step)⟩
        ·rw [if_neg c8] at H
         have c8b0:decide (97≤(bt a0 x3_2))=false:=decide_eq_false c8
         clear c8
         by_cases c17:x3_2=0
         ·rw [if_pos c17] at H
          have c17b0:(x3_2 == 0)=true:=beq_iff_eq.mpr c17
          have c17b1:(x3_2 != 0)=false:=bne_eq_false_iff_eq.mpr c17
          clear c17
          obtain rfl:=Option.some.inj H
          have p7:0≤(x3_2:Int):=of_decide_eq_true (by first|(with_reducible assumption)|assumption)
          have q7:x3_2 < (a0.size:Int):=of_decide_eq_true (by first|(with_reducible assumption)|assumption)
          have hx7:=bt_at a0 x3_2
          replace p7:=eq_true p7
          replace q7:=eq_true q7
          go_wp2
          go_ret
          exact ⟨by first|rfl|(simp;done)|(simp [*];done),by repeat (first|exact Drawn0.refl _|apply Drawn0.step)⟩
         ·rw [if_neg c17] at H
          have c17b0:(x3_2 == 0)=false:=beq_eq_false_iff_ne.mpr c17
          have c17b1:(x3_2 != 0)=true:=bne_iff_ne.mpr c17
          by_cases c19:(bt a0 x3_2)=95
          ·rw [if_pos c19] at H
           have c19b0:((bt a0 x3_2) == 95)=true:=beq_iff_eq.mpr c19
           have c19b1:((bt a0 x3_2) != 95)=false:=bne_eq_false_iff_eq.mpr c19
           clear c19
           have H':=Aside0.mk H
           clear H
           have p7:0≤(x3_2:Int):=of_decide_eq_true (by first|(with_reducible assumption)|assumption)
           have q7:x3_2 < (a0.size:Int):=of_decide_eq_true (by first|(with_reducible assumption)|assumption)
           have hx7:=bt_at a0 x3_2
           replace p7:=eq_true p7
           replace q7:=eq_true q7
           have p18:0≤(x3_2:Int):=of_decide_eq_true (by first|(with_reducible assumption)|assumption)
           have q18:x3_2 < (a0.size:Int):=of_decide_eq_true (by first|(with_reducible assumption)|assumption)
           have hx18:=bt_at a0 x3_2
           replace p18:=eq_true p18
           replace q18:=eq_true q18
           go_wp2
           go_roundg k2
           case measure=>have:=HJ1.out;have:=HK2.out;omega
           case rel=>exact ⟨(wrap64 (x3_2+1)),(by first|rfl|(simp;done)|(simp [*];done)),H',⟨by have:=HJ1.out;have:=HK2.out;omega⟩,by repeat (first|exact Drawn0.refl _|apply Drawn0.step)⟩
          ·rw [if_neg c19] at H
           have c19b0:((bt a0 x3_2) == 95)=false:=beq_eq_false_iff_ne.mpr c19
           have c19b1:((bt a0 x3_2) != 95)=true:=bne_iff_ne.mpr c19
           replace H:=Option.bind_eq_some_iff.mp H
           obtain ⟨t102,A210,H⟩:=H
           replace H:(if t102=true then (sawmillref02_IsName.l0 k2 a0 (wrap64 (x3_2+1))) else (some false))=some r:=H
           have A21:=Aside0.mk A210
           clear A210
           by_cases c22:t102=true
           ·subst c22
            have H1:(sawmillref02_IsName.l0 k2 a0 (wrap64 (x3_2+1)))=some r:=by rw [if_pos rfl] at H;exact H
            clear H
            have H:=H1
            clear H1
            have H':=Aside0.mk H
            clear H
            have p7:0≤(x3_2:Int):=of_decide_eq_true (by first|(with_reducible assumption)|assumption)
            have q7:x3_2 < (a0.size:Int):=of_decide_eq_true (by first|(with_reducible assumption)|assumption)
            have hx7:=bt_at a0 x3_2
            replace p7:=eq_true p7
            replace q7:=eq_true q7
            have p18:0≤(x3_2:Int):=of_decide_eq_true (by first|(with_reducible assumption)|assumption)
            have q18:x3_2 < (a0.size:Int):=of_decide_eq_true (by first|(with_reducible assumption)|assumption)
            have hx18:=bt_at a0 x3_2
            replace p18:=eq_true p18
            replace q18:=eq_true q18
            have p20:0≤(x3_2:Int):=of_decide_eq_true (by first|(with_reducible assumption)|assumption)
            have q20:x3_2 < (a0.size:Int):=of_decide_eq_true (by first|(with_reducible assumption)|assumption)
            have hx20:=bt_at a0 x3_2
            replace p20:=eq_true p20
            replace q20:=eq_true q20
            go_wp2_with (first|(go_at_call 54;(with_reducible refine (sawmillref02_digit.calls (bt a0 x3_2) true _ A21.out).mono ?_);rintro e w' ⟨rfl,⟨nd,rfl⟩⟩))
            go_roundg k2
            case measure=>have:=HJ1.out;have:=HK2.out;omega
            case rel=>exact ⟨(wrap64 (x3_2+1)),(by first|rfl|(simp;done)|(simp [*];done)),H',⟨by have:=HJ1.out;have:=HK2.out;omega⟩,by repeat (first|exact Drawn0.refl _|apply Drawn0.step)⟩
           ·replace c22:=Bool.eq_false_iff.mpr c22
            subst c22
            have H1:(some false)=some r:=by rw [if_neg (show ¬ (false=true) by decide)] at H;exact H
            clear H
            have H:=H1
            clear H1
            obtain rfl:=Option.some.inj H
            have p7:0≤(x3_2:Int):=of_decide_eq_true (by first|(with_reducible assumption)|assumption)
            have q7:x3_2 < (a0.size:Int):=of_decide_eq_true (by first|(with_reducible assumption)|assumption)
            have hx7:=bt_at a0 x3_2
            replace p7:=eq_true p7
            replace q7:=eq_true q7
            have p18:0≤(x3_2:Int):=of_decide_eq_true (by first|(with_reducible assumption)|assumption)
            have q18:x3_2 < (a0.size:Int):=of_decide_eq_true (by first|(with_reducible assumption)|assumption)
            have hx18:=bt_at a0 x3_2
            replace p18:=eq_true p18
            replace q18:=eq_true q18
            have p20:0≤(x3_2:Int):=of_decide_eq_true (by first|(with_reducible assumption)|assumption)
            have q20:x3_2 < (a0.size:Int):=of_decide_eq_true (by first|(with_reducible assumption)|assumption)
            have hx20:=bt_at a0 x3_2
            replace p20:=eq_true p20
            replace q20:=eq_true q20
            go_wp2_with (first|(go_at_call 54;(with_reducible refine (sawmillref02_digit.calls (bt a0 x3_2) false _ A21.out).mono ?_);rintro e w' ⟨rfl,⟨nd,rfl⟩⟩))
            go_ret
            exact ⟨by first|rfl|(simp;done)|(simp [*];done),by repeat (first|exact Drawn0.refl _|apply Drawn0.step)⟩
       ·rw [if_neg c6] at H
        exact absurd H (by simp)
      ·rw [if_neg c5] at H
       have c5b0:decide (x3_2 < (a0.size:Int))=false:=decide_eq_false c5
       clear c5
       obtain rfl:=Option.some.inj H
       go_wp2
       go_ret
       exact ⟨by first|rfl|(simp;done)|(simp [*];done),by repeat (first|exact Drawn0.refl _|apply Drawn0.step)⟩
end Go.Proofs.YtojkjhaobjidlaaDoor.P
namespace Go.Proofs.YtojkjhaobjidlaaDoor.P
open Go.RowKit Go.Proofs.YtojkjhaobjidlaaDoorW.PrintWords Go.Proofs.YtojkjhaobjidlaaDoorW.PrintLast
set_option linter.unusedVariables false
set_option linter.unusedSimpArgs false
theorem r02_l0 (s:ByteArray) (hs:s.size≤140737488351232):∀ (d k i:Nat),1≤i→i+d=s.size→d < k→sawmillref02_IsName.l0 k s (i:Int)=some (allFrom nmc s d i):=by
 intro d
 induction d with
 | zero =>
  intro k i h1 hi hk
  obtain ⟨k,rfl⟩:∃ m,k=m+1:=⟨k - 1,by omega⟩
  simp only [sawmillref02_IsName.l0]
  rw [if_neg (by omega)]
  rfl
 | succ d ih =>
  intro k i h1 hi hk
  obtain ⟨k,rfl⟩:∃ m,k=m+1:=⟨k - 1,by omega⟩
  simp only [sawmillref02_IsName.l0]
  have hz:¬ (i:Int)=0:=by omega
  rw [if_pos (by omega),if_pos (by omega),wrap_nat i s.size (by omega) hs,ih k (i+1) (by omega) (by omega) (by omega)]
  simp only [allFrom,if_neg hz]
  generalize bt s (i:Int)=c
  unfold sawmillref02_digit.f nmc
  by_cases g1:48≤c<;>by_cases g2:c≤57<;>by_cases g3:c=95<;>by_cases g4:97≤c<;>by_cases g5:c≤122<;>first|(exfalso;omega)|simp [g1,g2,g3,g4,g5]
theorem r02_name (s:ByteArray) (hs:s.size≤140737488351232) (k:Nat) (hk:s.size+1 < k):sawmillref02_IsName.f k s=some (isNm s):=by
 obtain ⟨k,rfl⟩:∃ m,k=m+1:=⟨k - 1,by omega⟩
 unfold sawmillref02_IsName.f isNm
 by_cases h0:s.size=0
 ·rw [if_pos (by omega)]
  simp [sawmillref02_IsName.j0,h0]
 ·rw [if_neg (by omega)]
  simp only [sawmillref02_IsName.j0]
  by_cases h1:(s.size:Int) > 16
  ·have:¬ s.size≤16:=by omega
   simp [h1,this]
  ·have e1:1≤s.size:=by omega
   have e2:s.size≤16:=by omega
   rw [if_neg (by simp;omega)]
   obtain ⟨k,rfl⟩:∃ m,k=m+1:=⟨k - 1,by omega⟩
   obtain ⟨m,hm⟩:∃ m,s.size=m+1:=⟨s.size - 1,by omega⟩
   have h1':=r02_l0 s hs m k 1 (by omega) (by omega) (by omega)
   simp only [sawmillref02_IsName.l0]
   rw [if_pos (by omega),if_pos (by omega),show wrap64 ((0:Int)+1)=((1:Nat):Int) from by unfold wrap64;omega,h1',hm]
   simp only [allFrom]
   generalize allFrom nmc s m (0+1)=rest
   rw [show ((0:Nat):Int)=(0:Int) from rfl]
   generalize bt s 0=c
   have e3:1≤m+1:=by omega
   have e4:m+1≤16:=by omega
   unfold nmc
   by_cases g1:48≤c<;>by_cases g2:c≤57<;>by_cases g3:c=95<;>by_cases g4:97≤c<;>by_cases g5:c≤122<;>first|(exfalso;omega)|simp [e3,e4,g1,g2,g3,g4,g5]
theorem r02_nm (s:ByteArray) (hs:s.size≤140737488351232):sawmillref02_IsName.f 20 s=some (isNm s):=by
 by_cases h:s.size≤16
 ·exact r02_name s (by omega) 20 (by omega)
 ·unfold sawmillref02_IsName.f isNm
  rw [if_neg (by omega)]
  simp [sawmillref02_IsName.j0,h]
  omega
end Go.Proofs.YtojkjhaobjidlaaDoor.P
namespace Go.Proofs.YtojkjhaobjidlaaDoor.P
open Go.RowKit Go.Proofs.YtojkjhaobjidlaaDoorW.PrintWords Go.Proofs.YtojkjhaobjidlaaDoorW.PrintMore
set_option linter.unusedVariables false
set_option linter.unusedSimpArgs false
abbrev PR:=S53
theorem rdP_get {l:List PR} (i:Nat) (h:i < l.length):rd_T53 l (i:Int)=l[i]:=by
 unfold rd_T53
 rw [List.getD_eq_getElem?_getD,List.getElem?_eq_getElem (by simpa using h)]
 simp
theorem rdP_drop {l:List PR} (i:Nat) (h:i < l.length):l.drop i=rd_T53 l (i:Int) :: l.drop (i+1):=by
 rw [List.drop_eq_getElem_cons h,rdP_get i h]
theorem rd_get_ {l:List Int} (i:Nat) (h:i < l.length):rd l (i:Int)=l[i]:=by
 unfold rd
 simp [h]
theorem rd_drop_ {l:List Int} (i:Nat) (h:i < l.length):l.drop i=rd l (i:Int) :: l.drop (i+1):=by
 rw [List.drop_eq_getElem_cons h,rd_get_ i h]
def fnd (n:ByteArray):List PR→Nat→Int × Bool
 | [],_=>(0,false)
 | p :: l,i=>if p.f0.toList=n.toList then ((i:Int),true) else fnd n l (i+1)
theorem find_l0 (n:ByteArray) (l:List PR) (hl:l.length≤1000000):∀ (d k i:Nat),i+d=l.length→d < k→product_Find.l0 k n l (l.length:Int) (i:Int)=some (fnd n (l.drop i) i):=by
 intro d
 induction d with
 | zero =>
  intro k i hi hk
  obtain ⟨k,rfl⟩:∃ m,k=m+1:=⟨k - 1,by omega⟩
  simp only [product_Find.l0]
  rw [if_neg (by omega),List.drop_of_length_le (by omega)]
  rfl
 | succ d ih =>
  intro k i hi hk
  obtain ⟨k,rfl⟩:∃ m,k=m+1:=⟨k - 1,by omega⟩
  have h2:i < l.length:=by omega
  simp only [product_Find.l0]
  rw [if_pos (by omega),if_pos (by omega),if_pos (by omega),wrap_nat i 1000000 (by omega) (by omega),ih k (i+1) (by omega) (by omega),rdP_drop i h2]
  rw [fnd]
  by_cases h:(rd_T53 l (i:Int)).f0.toList=n.toList
  ·rw [if_pos h,if_pos h]
  ·rw [if_neg h,if_neg h]
theorem find_f (n:ByteArray) (l:List PR) (hl:l.length≤1000000) (k:Nat) (hk:l.length < k):product_Find.f k l n=some (fnd n l 0):=by
 unfold product_Find.f
 exact find_l0 n l hl l.length k 0 (by omega) hk
def greenB (t w a:Int):Int × Int:=if t < 1 ∨ w < 1 ∨ 600 < t ∨ 600 < w ∨ a < 0 ∨ 200 < a then (0,0) else ((t * (1000+a)+999) / 1000,(w * (1000+a)+999) / 1000)
theorem floor_f (t a:Int) (h1:1≤t) (h2:t≤600) (h3:0≤a) (h4:a≤200):units_Floor.f (wrap64 ((wrap64 ((wrap64 (t * (wrap64 (1000+a))))+1000)) - 1)) 1000=some ((t * (1000+a)+999) / 1000,true):=by
 have e1:wrap64 (1000+a)=1000+a:=by unfold wrap64;omega
 have hm0:0≤t * (1000+a):=Int.mul_nonneg (by omega) (by omega)
 have hm1:t * (1000+a)≤600 * 1200:=Int.mul_le_mul h2 (by omega) (by omega) (by omega)
 rw [e1]
 generalize t * (1000+a)=m at hm0 hm1 ⊢
 have e2:wrap64 m=m:=by unfold wrap64;omega
 have e3:wrap64 (m+1000)=m+1000:=by unfold wrap64;omega
 have e4:wrap64 (m+1000 - 1)=m+999:=by unfold wrap64;omega
 rw [e2,e3,e4]
 unfold units_Floor.f
 rw [if_pos (by omega),if_pos (by omega),if_pos (by omega)]
theorem green_f (n:ByteArray) (t w a x:Int) (L P:List Int) (k:Nat) (hk:0 < k):product_Green.f k n t w a x L P=some (greenB t w a):=by
 obtain ⟨k,rfl⟩:∃ m,k=m+1:=⟨k - 1,by omega⟩
 unfold product_Green.f greenB mn mx
 simp only [product_Green.j0,if_true,decide_eq_true_eq,gt_iff_lt]
 by_cases h1:t < 1 ∨ w < 1
 ·rw [if_pos (by split<;>omega),if_pos (by omega)]
 ·rw [if_neg (by split<;>omega)]
  by_cases h2:600 < t ∨ 600 < w
  ·rw [if_pos (by split<;>omega),if_pos (by omega)]
  ·rw [if_neg (by split<;>omega)]
   by_cases h3:a < 0
   ·rw [if_pos h3,if_pos (by omega)]
   ·rw [if_neg h3]
    by_cases h4:200 < a
    ·rw [if_pos h4,if_pos (by omega)]
    ·rw [if_neg h4,if_neg (by omega),floor_f t a (by omega) (by omega) (by omega) (by omega),floor_f w a (by omega) (by omega) (by omega) (by omega)]
     rfl
def sizedB (t w a x:Int):Bool:=!(decide (t < 5) || (decide (300 < t) || (decide (w < t) || (decide (600 < w) || (decide (a < 0) || (decide (200 < a) || (decide (x < 0) || (decide (1000 < x) || decide (600 < (greenB t w a).2)))))))))
theorem sized_f (n:ByteArray) (t w a x:Int) (L P:List Int) (k:Nat) (hk:1 < k):product_sized.f k n t w a x L P=some (sizedB t w a x):=by
 obtain ⟨k,rfl⟩:∃ m,k=m+1:=⟨k - 1,by omega⟩
 unfold product_sized.f sizedB
 simp only [product_sized.j0,green_f n t w a x L P k (by omega),Option.bind_some]
 by_cases h1:t < 5
 ·simp [h1]
 by_cases h2:300 < t
 ·simp [h1,h2]
 by_cases h3:w < t
 ·simp [h1,h2,h3]
 by_cases h4:600 < w
 ·simp [h1,h2,h3,h4]
 by_cases h5:a < 0
 ·simp [h1,h2,h3,h4,h5]
 by_cases h6:200 < a
 ·simp [h1,h2,h3,h4,h5,h6]
 by_cases h7:x < 0
 ·simp [h1,h2,h3,h4,h5,h6,h7]
 by_cases h8:1000 < x
 ·simp [h1,h2,h3,h4,h5,h6,h7,h8]
 simp [h1,h2,h3,h4,h5,h6,h7,h8]
 by_cases h9:(greenB t w a).2≤600
 ·simp [h9]<;>omega
 ·simp [h9]<;>omega
def leQ (n:Int):Option Int→Bool
 | none=>false
 | some p=>decide (n≤p)
def lensGo:Option Int→List Int→Int
 | _,[]=>0
 | q,n :: l=>if n < 100 ∨ 20000 < n then 9 else if leQ n q=true then 11 else lensGo (some n) l
def priceOk (n:Int):Bool:=!(decide (n < 0) || decide (1000000 < n))
def pricesE (P:List Int):Int:=if P.all priceOk=true then 0 else 9
def lensE (L P:List Int):Int:=if L.length=0 then 3 else if 8 < L.length then 4 else if L.length=P.length then (if lensGo none L=0 then pricesE P else lensGo none L) else 19
theorem prices_l1 (P:List Int) (hP:P.length≤1000):∀ (d k i:Nat),i+d=P.length→d < k→product_checkLengths.l1 k P (P.length:Int) (i:Int)=some (pricesE (P.drop i)):=by
 intro d
 induction d with
 | zero =>
  intro k i hi hk
  obtain ⟨k,rfl⟩:∃ m,k=m+1:=⟨k - 1,by omega⟩
  simp only [product_checkLengths.l1]
  rw [if_neg (by omega),List.drop_of_length_le (by omega)]
  rfl
 | succ d ih =>
  intro k i hi hk
  obtain ⟨k,rfl⟩:∃ m,k=m+1:=⟨k - 1,by omega⟩
  have h2:i < P.length:=by omega
  simp only [product_checkLengths.l1]
  rw [if_pos (by omega),if_pos (by omega),if_pos (by omega),wrap_nat i 1000000 (by omega) (by omega),ih k (i+1) (by omega) (by omega),rd_drop_ i h2]
  unfold pricesE
  rw [List.all_cons]
  generalize rd P (i:Int)=c
  generalize (P.drop (i+1)).all priceOk=b
  unfold priceOk
  by_cases g1:c < 0
  ·simp [g1]
  ·by_cases g2:c > 1000000
   ·simp [g1,g2]
   ·simp [g1,g2]
def prevOf (L:List Int) (i:Nat):Option Int:=if i=0 then none else some (rd L ((i:Int) - 1))
theorem lens_l0 (n:ByteArray) (t w a x:Int) (L P:List Int) (hL:L.length≤1000) (hP:P.length≤1000):∀ (d k i:Nat),i+d=L.length→2 * d+P.length+1 < k→product_checkLengths.l0 k L (L.length:Int) (i:Int) n t w a x L P=some (if lensGo (prevOf L i) (L.drop i)=0 then pricesE P else lensGo (prevOf L i) (L.drop i)):=by
 intro d
 induction d with
 | zero =>
  intro k i hi hk
  obtain ⟨k,rfl⟩:∃ m,k=m+1:=⟨k - 1,by omega⟩
  simp only [product_checkLengths.l0]
  rw [if_neg (by omega),List.drop_of_length_le (by omega)]
  have:=prices_l1 P hP P.length k 0 (by omega) (by omega)
  rw [show ((0:Nat):Int)=0 from rfl] at this
  rw [this]
  simp [lensGo]
 | succ d ih =>
  intro k i hi hk
  obtain ⟨k,rfl⟩:∃ m,k=m+2:=⟨k - 2,by omega⟩
  have h2:i < L.length:=by omega
  have e:wrap64 ((i:Int)+1)=((i+1:Nat):Int):=wrap_nat i 1000000 (by omega) (by omega)
  have hi2:=ih k (i+1) (by omega) (by omega)
  have hp:prevOf L (i+1)=some (rd L (i:Int)):=by
   unfold prevOf
   rw [if_neg (by omega),show ((i+1:Nat):Int) - 1=(i:Int) by omega]
  rw [hp] at hi2
  simp only [product_checkLengths.l0,product_checkLengths.j1]
  rw [if_pos (by omega),if_pos (by omega),if_pos (by omega),e,hi2,rd_drop_ i h2]
  rw [lensGo]
  obtain ⟨q,hq⟩:∃ q,q=rd L ((i:Int) - 1):=⟨_,rfl⟩
  have hpv:prevOf L i=if i=0 then none else some q:=by rw [hq];rfl
  rw [hpv]
  generalize hc:rd L (i:Int)=c
  by_cases g1:c < 100
  ·simp [g1]
  by_cases g2:20000 < c
  ·simp [g1,g2]
  simp only [g1,g2,or_self,if_false,decide_false,Bool.false_eq_true,if_neg,gt_iff_lt]
  by_cases hz:i=0
  ·subst hz
   simp [leQ]
  ·have hw:wrap64 ((i:Int) - 1)=(i:Int) - 1:=by unfold wrap64;omega
   rw [if_pos (by omega),hw,if_pos (by omega),if_pos (by omega),if_neg hz,← hq]
   by_cases g3:c≤q
   ·simp [leQ,g3]
   ·simp [leQ,g3]
theorem lens_f (n:ByteArray) (t w a x:Int) (L P:List Int) (k:Nat) (hk:26 < k):product_checkLengths.f k n t w a x L P=some (lensE L P):=by
 unfold product_checkLengths.f lensE
 by_cases h1:L.length=0
 ·rw [if_pos (by omega),if_pos h1]
 rw [if_neg (by omega),if_neg h1]
 by_cases h2:8 < L.length
 ·rw [if_pos (by omega),if_pos h2]
 rw [if_neg (by omega),if_neg h2]
 by_cases h3:L.length=P.length
 ·rw [if_pos (by omega),if_pos h3]
  have:=lens_l0 n t w a x L P (by omega) (by omega) L.length k 0 (by omega) (by omega)
  rw [show ((0:Nat):Int)=0 from rfl] at this
  rw [this]
  rfl
 ·rw [if_neg (by omega),if_neg h3]
def prodE (before:List PR) (p:PR):Int:=if isNm p.f0=true then (if (fnd p.f0 before 0).2=true then 7 else if sizedB p.f1 p.f2 p.f3 p.f4=true then lensE p.f5 p.f6 else 9) else 6
def chkGo (l:List PR):Nat→Nat→Int
 | 0,_=>0
 | d+1,i=>if prodE (l.take i) (rd_T53 l (i:Int))=0 then chkGo l d (i+1) else prodE (l.take i) (rd_T53 l (i:Int))
def chkB (l:List PR):Int:=if 16 < l.length then 4 else chkGo l l.length 0
theorem chk_l0 (l:List PR) (hl:l.length≤16):∀ (d k i:Nat),i+d=l.length→d+40 < k→product_Check.l0 k l l (l.length:Int) (i:Int)=some (chkGo l d i):=by
 intro d
 induction d with
 | zero =>
  intro k i hi hk
  obtain ⟨k,rfl⟩:∃ m,k=m+1:=⟨k - 1,by omega⟩
  simp only [product_Check.l0]
  rw [if_neg (by omega)]
  rfl
 | succ d ih =>
  intro k i hi hk
  obtain ⟨k,rfl⟩:∃ m,k=m+1:=⟨k - 1,by omega⟩
  obtain ⟨q,rfl⟩:∃ q,k=20+q:=⟨k - 20,by omega⟩
  have h2:i < l.length:=by omega
  have e:wrap64 ((i:Int)+1)=((i+1:Nat):Int):=wrap_nat i 1000000 (by omega) (by omega)
  simp only [product_Check.l0]
  rw [if_pos (by omega),if_pos (by omega),if_pos (by omega),e,ih (20+q) (i+1) (by omega) (by omega),ident_at,Option.bind_some]
  rw [show ((i:Int)).toNat=i from rfl,find_f _ (l.take i) (by rw [List.length_take];omega) (20+q) (by rw [List.length_take];omega),sized_f _ _ _ _ _ _ _ (20+q) (by omega),lens_f _ _ _ _ _ _ _ (20+q) (by omega)]
  have hle:(i:Int)≤(l.length:Int):=by omega
  simp only [Option.bind_some,if_pos hle]
  rw [chkGo]
  unfold prodE
  generalize rd_T53 l (i:Int)=p
  cases isNm p.f0
  ·simp
  ·simp only [if_true]
   generalize (fnd p.f0 (l.take i) 0).2=b
   cases b
   ·simp only [Bool.false_eq_true,if_false]
    generalize sizedB p.f1 p.f2 p.f3 p.f4=b2
    cases b2
    ·simp
    ·simp only [if_true]
     by_cases h:lensE p.f5 p.f6=0
     ·rw [if_pos h,if_pos h]
     ·rw [if_neg h,if_neg h]
   ·simp
theorem chk_f (l:List PR) (k:Nat) (hk:60 < k):product_Check.f k l=some (chkB l):=by
 unfold product_Check.f chkB
 by_cases h:16 < l.length
 ·rw [if_pos (by omega),if_pos h]
 ·rw [if_neg (by omega),if_neg h]
  exact chk_l0 l (by omega) l.length k 0 (by omega) (by omega)
structure ProdOk (p:PR):Prop where
 nm:isNm p.f0=true
 sz:sizedB p.f1 p.f2 p.f3 p.f4=true
 ln:lensE p.f5 p.f6=0
theorem chkGo_ok (l:List PR):∀ (d i:Nat),i+d=l.length→chkGo l d i=0→∀ j,i≤j→(h:j < l.length)→ProdOk l[j]:=by
 intro d
 induction d with
 | zero=>intro i hi h0 j hij hj;omega
 | succ d ih =>
  intro i hi h0 j hij hj
  rw [chkGo] at h0
  by_cases hp:prodE (l.take i) (rd_T53 l (i:Int))=0
  ·rw [if_pos hp] at h0
   by_cases he:i=j
   ·subst he
    rw [rdP_get i hj] at hp
    unfold prodE at hp
    by_cases g1:isNm l[i].f0=true
    ·rw [if_pos g1] at hp
     by_cases g2:(fnd l[i].f0 (l.take i) 0).2=true
     ·rw [if_pos g2] at hp;omega
     ·rw [if_neg g2] at hp
      by_cases g3:sizedB l[i].f1 l[i].f2 l[i].f3 l[i].f4=true
      ·rw [if_pos g3] at hp
       exact ⟨g1,g3,hp⟩
      ·rw [if_neg g3] at hp;omega
    ·rw [if_neg g1] at hp;omega
   ·exact ih (i+1) (by omega) h0 j (by omega) hj
  ·rw [if_neg hp] at h0;exact absurd h0 hp
theorem chk_ok (l:List PR) (h:chkB l=0):l.length≤16∧∀ p ∈ l,ProdOk p:=by
 unfold chkB at h
 by_cases g:16 < l.length
 ·rw [if_pos g] at h;omega
 ·rw [if_neg g] at h
  refine ⟨by omega,fun p hp=>?_⟩
  obtain ⟨j,hj,rfl⟩:=List.getElem_of_mem hp
  exact chkGo_ok l l.length 0 (by omega) h j (by omega) hj
theorem lensGo_ok:∀ (L:List Int) (q:Option Int),lensGo q L=0→∀ n ∈ L,100≤n∧n≤20000:=by
 intro L
 induction L with
 | nil=>intro q h n hn;cases hn
 | cons x L ih =>
  intro q h n hn
  rw [lensGo] at h
  by_cases g:x < 100 ∨ 20000 < x
  ·rw [if_pos g] at h;omega
  ·rw [if_neg g] at h
   have hx:100≤x∧x≤20000:=by omega
   clear g
   rcases List.mem_cons.mp hn with rfl|hn
   ·exact hx
   ·split at h
    ·omega
    ·exact ih _ h n hn
theorem lensE_ok (L P:List Int) (h:lensE L P=0):0 < L.length∧L.length≤8∧L.length=P.length∧(∀ n ∈ L,100≤n∧n≤20000)∧P.all priceOk=true:=by
 unfold lensE at h
 by_cases h1:L.length=0
 ·rw [if_pos h1] at h;omega
 rw [if_neg h1] at h
 by_cases h2:8 < L.length
 ·rw [if_pos h2] at h;omega
 rw [if_neg h2] at h
 by_cases h3:L.length=P.length
 ·rw [if_pos h3] at h
  by_cases h4:lensGo none L=0
  ·rw [if_pos h4] at h
   unfold pricesE at h
   by_cases h5:P.all priceOk=true
   ·exact ⟨by omega,by omega,h3,lensGo_ok L none h4,h5⟩
   ·rw [if_neg h5] at h;omega
  ·rw [if_neg h4] at h;exact absurd h h4
 ·rw [if_neg h3] at h;omega
end Go.Proofs.YtojkjhaobjidlaaDoor.P
namespace Go.Proofs.YtojkjhaobjidlaaDoor.P
open Go.RowKit Go.Proofs.YtojkjhaobjidlaaDoorW.PrintWords Go.Proofs.YtojkjhaobjidlaaDoorW.PrintMore
set_option linter.unusedVariables false
set_option linter.unusedSimpArgs false
abbrev IT:=S35
abbrev TI:=S56
def prcGo (P:List Int) (n:Int):List Int→Nat→Int × Bool
 | [],_=>(0,false)
 | x :: l,i=>if x=n then (if P.length≤i then (0,false) else (rd P (i:Int),true)) else prcGo P n l (i+1)
theorem price_l0 (nm:ByteArray) (t w a x n:Int) (L P:List Int) (hL:L.length≤1000):∀ (d k i:Nat),i+d=L.length→d < k→product_Price.l0 k n L (L.length:Int) (i:Int) nm t w a x L P=some (prcGo P n (L.drop i) i):=by
 intro d
 induction d with
 | zero =>
  intro k i hi hk
  obtain ⟨k,rfl⟩:∃ m,k=m+1:=⟨k - 1,by omega⟩
  simp only [product_Price.l0]
  rw [if_neg (by omega),List.drop_of_length_le (by omega)]
  rfl
 | succ d ih =>
  intro k i hi hk
  obtain ⟨k,rfl⟩:∃ m,k=m+1:=⟨k - 1,by omega⟩
  have h2:i < L.length:=by omega
  simp only [product_Price.l0]
  rw [if_pos (by omega),if_pos (by omega),if_pos (by omega),wrap_nat i 1000000 (by omega) (by omega),ih k (i+1) (by omega) (by omega),rd_drop_ i h2,prcGo]
  by_cases h:rd L (i:Int)=n
  ·rw [if_pos h,if_pos h]
   by_cases g:P.length≤i
   ·rw [if_pos (by omega),if_pos g]
   ·rw [if_neg (by omega),if_neg g,if_pos (by omega)]
  ·rw [if_neg h,if_neg h]
theorem price_f (nm:ByteArray) (t w a x n:Int) (L P:List Int) (hL:L.length≤1000) (k:Nat) (hk:L.length < k):product_Price.f k nm t w a x L P n=some (prcGo P n L 0):=by
 unfold product_Price.f
 exact price_l0 nm t w a x n L P hL L.length k 0 (by omega) hk
theorem prcGo_mem (P:List Int) (n:Int):∀ (L:List Int) (i:Nat),(prcGo P n L i).2=true→n ∈ L:=by
 intro L
 induction L with
 | nil=>intro i h;simp [prcGo] at h
 | cons x L ih =>
  intro i h
  rw [prcGo] at h
  by_cases g:x=n
  ·subst g;exact List.mem_cons_self
  ·rw [if_neg g] at h
   exact List.mem_cons_of_mem _ (ih _ h)
theorem sized_nums {t w a x:Int} (h:sizedB t w a x=true):5≤t∧t≤300∧t≤w∧w≤600∧0≤a∧a≤200:=by
 unfold sizedB at h
 simp only [Bool.not_eq_true',Bool.or_eq_false_iff,decide_eq_false_iff_not] at h
 omega
theorem vol_le {t w n c:Int} (h1:5≤t) (h2:t≤300) (h3:t≤w) (h4:w≤600) (h5:100≤n) (h6:n≤20000) (h7:0≤c) (h8:c≤200):0≤t * w∧t * w≤180000∧0≤t * w * n∧t * w * n≤3600000000∧0≤t * w * n * c∧t * w * n * c≤720000000000:=by
 have a0:0≤t * w:=Int.mul_nonneg (by omega) (by omega)
 have a1:t * w≤300 * 600:=Int.mul_le_mul h2 h4 (by omega) (by omega)
 have b0:0≤t * w * n:=Int.mul_nonneg a0 (by omega)
 have b1:t * w * n≤180000 * 20000:=Int.mul_le_mul (by omega) h6 (by omega) (by omega)
 have c0:0≤t * w * n * c:=Int.mul_nonneg b0 h7
 have c1:t * w * n * c≤3600000000 * 200:=Int.mul_le_mul (by omega) h8 h7 (by omega)
 omega
def amountB (c:List PR) (x:IT):Int × Int :=
 if chkB c=0 then (if x.f0 < 0 ∨ (c.length:Int)≤x.f0 then (0,8) else
  if (prcGo (rd_T53 c x.f0).f6 x.f1 (rd_T53 c x.f0).f5 0).2=true then (if x.f2 < 0 ∨ 200 < x.f2 ∨ x.f3 < 0 ∨ 1000000000 < x.f3 then (0,9) else
   ((x.f3 * ((rd_T53 c x.f0).f1 * (rd_T53 c x.f0).f2 * x.f1 * x.f2)+500000000) / 1000000000,0)) else (0,20)) else (0,chkB c)
theorem rdP_mem {c:List PR} {i:Int} (h0:0≤i) (h1:i < (c.length:Int)):rd_T53 c i ∈ c:=by
 obtain ⟨n,rfl⟩:=Int.eq_ofNat_of_zero_le h0
 rw [rdP_get n (by omega)]
 exact List.getElem_mem _
theorem amount_f (c:List PR) (x:IT) (k:Nat) (hk:70 < k):bill_Amount.f k c x.f0 x.f1 x.f2 x.f3=some (amountB c x):=by
 obtain ⟨k,rfl⟩:∃ m,k=m+2:=⟨k - 2,by omega⟩
 unfold bill_Amount.f amountB
 rw [chk_f c _ (by omega),Option.bind_some]
 by_cases h0:chkB c=0
 case neg=>rw [if_neg h0,if_neg h0]
 rw [if_pos h0,if_pos h0]
 simp only [bill_Amount.j0,if_true,decide_eq_true_eq,ge_iff_le]
 by_cases h1:x.f0 < 0
 ·rw [if_pos h1,if_pos (by omega)]
 rw [if_neg h1]
 by_cases h2:(c.length:Int)≤x.f0
 ·rw [if_pos h2,if_pos (by omega)]
 rw [if_neg h2,if_neg (show ¬ (x.f0 < 0 ∨ (c.length:Int)≤x.f0) by omega),if_pos (by omega),if_pos (by omega)]
 have hp:=(chk_ok c h0).2 _ (rdP_mem (c:=c) (i:=x.f0) (by omega) (by omega))
 generalize rd_T53 c x.f0=p at hp ⊢
 obtain ⟨l1,l2,l3,l4,l5⟩:=lensE_ok p.f5 p.f6 hp.ln
 rw [price_f _ _ _ _ _ _ _ _ (by omega) _ (by omega),Option.bind_some]
 by_cases h3:(prcGo p.f6 x.f1 p.f5 0).2=true
 case neg=>rw [if_neg h3,if_neg h3]
 rw [if_pos h3,if_pos h3]
 have hx:=l4 _ (prcGo_mem _ _ _ _ h3)
 simp only [bill_Amount.j1,if_true,decide_eq_true_eq,gt_iff_lt]
 by_cases h4:x.f2 < 0
 ·rw [if_pos h4,if_pos (by omega)]
 rw [if_neg h4]
 by_cases h5:200 < x.f2
 ·rw [if_pos h5,if_pos (by omega)]
 rw [if_neg h5]
 by_cases h6:x.f3 < 0
 ·rw [if_pos h6,if_pos (by omega)]
 rw [if_neg h6]
 by_cases h7:1000000000 < x.f3
 ·rw [if_pos h7,if_pos (by omega)]
 rw [if_neg h7,if_neg (by omega)]
 obtain ⟨s1,s2,s3,s4,s5,s6⟩:=sized_nums hp.sz
 obtain ⟨v1,v2,v3,v4,v5,v6⟩:=vol_le s1 s2 s3 s4 hx.1 hx.2 (show 0≤x.f2 by omega) (show x.f2≤200 by omega)
 unfold product_Volume.f mn mx
 rw [if_neg (by split<;>split<;>omega),if_neg (by split<;>omega),if_neg (by omega),Option.bind_some]
 have e1:wrap64 (p.f1 * p.f2)=p.f1 * p.f2:=by generalize p.f1 * p.f2=m at v1 v2 ⊢;unfold wrap64;omega
 have e2:wrap64 (p.f1 * p.f2 * x.f1)=p.f1 * p.f2 * x.f1:=by generalize p.f1 * p.f2 * x.f1=m at v3 v4 ⊢;unfold wrap64;omega
 rw [e1,e2]
 generalize p.f1 * p.f2 * x.f1 * x.f2=m at v5 v6 ⊢
 have e3:wrap64 m=m:=by unfold wrap64;omega
 have e4:IntKind.u64.wrap m=m:=by rw [IntKind.wrap_u64];omega
 have e5:IntKind.u64.wrap x.f3=x.f3:=by rw [IntKind.wrap_u64];omega
 rw [e3,e4,e5]
 unfold bill_nearest.f
 rw [if_pos (by omega),if_pos (by omega),if_pos (by omega),if_pos (by omega),if_pos rfl]
 rfl
theorem amount_ok (c:List PR) (x:IT) (h:(amountB c x).2=0):chkB c=0∧0≤x.f0∧x.f0 < (c.length:Int)∧100≤x.f1∧x.f1≤20000∧0≤x.f2∧x.f2≤200∧0≤x.f3∧x.f3≤1000000000∧x.f1 ∈ (rd_T53 c x.f0).f5∧ProdOk (rd_T53 c x.f0) ∧
  (amountB c x).1=(x.f3 * ((rd_T53 c x.f0).f1 * (rd_T53 c x.f0).f2 * x.f1 * x.f2)+500000000) / 1000000000∧0≤(amountB c x).1∧(amountB c x).1≤720000000001:=by
 unfold amountB at h ⊢
 by_cases h0:chkB c=0
 case neg=>rw [if_neg h0] at h;exact absurd h h0
 rw [if_pos h0] at h ⊢
 by_cases h1:x.f0 < 0 ∨ (c.length:Int)≤x.f0
 ·rw [if_pos h1] at h;exact absurd h (by decide)
 rw [if_neg h1] at h ⊢
 have hp:=(chk_ok c h0).2 _ (rdP_mem (c:=c) (i:=x.f0) (by omega) (by omega))
 obtain ⟨l1,l2,l3,l4,l5⟩:=lensE_ok _ _ hp.ln
 by_cases h3:(prcGo (rd_T53 c x.f0).f6 x.f1 (rd_T53 c x.f0).f5 0).2=true
 case neg=>rw [if_neg h3] at h;exact absurd h (by decide)
 rw [if_pos h3] at h ⊢
 have hm:=prcGo_mem _ _ _ _ h3
 have hx:=l4 _ hm
 by_cases h4:x.f2 < 0 ∨ 200 < x.f2 ∨ x.f3 < 0 ∨ 1000000000 < x.f3
 ·rw [if_pos h4] at h;exact absurd h (by decide)
 rw [if_neg h4]
 obtain ⟨s1,s2,s3,s4,s5,s6⟩:=sized_nums hp.sz
 obtain ⟨v1,v2,v3,v4,v5,v6⟩:=vol_le s1 s2 s3 s4 hx.1 hx.2 (show 0≤x.f2 by omega) (show x.f2≤200 by omega)
 refine ⟨h0,by omega,by omega,hx.1,hx.2,by omega,by omega,by omega,by omega,hm,hp,rfl,?_⟩
 generalize (rd_T53 c x.f0).f1 * (rd_T53 c x.f0).f2 * x.f1 * x.f2=m at v5 v6 ⊢
 have a0:0≤x.f3 * m:=Int.mul_nonneg (by omega) (by omega)
 have a1:x.f3 * m≤1000000000 * 720000000000:=Int.mul_le_mul (by omega) v6 v5 (by omega)
 generalize x.f3 * m=q at a0 a1 ⊢
 show 0≤(q+500000000) / 1000000000∧(q+500000000) / 1000000000≤720000000001
 omega
theorem amount_err (c:List PR) (x:IT) (h:(amountB c x).2 ≠ 0):(amountB c x).1=0:=by
 unfold amountB at h ⊢
 split
 ·rename_i h0
  rw [if_pos h0] at h
  split
  ·rfl
  ·rename_i h1
   rw [if_neg h1] at h
   split
   ·rename_i h2
    rw [if_pos h2] at h
    split
    ·rfl
    ·rename_i h3
     rw [if_neg h3] at h
     exact absurd rfl h
   ·rfl
 ·rfl
def discGo (total:Int):Int→Int→List TI→Int × Int
 | _,off,[]=>if total < 0 then (0,9) else if 1000000000000000 < total then (0,9) else (total * off / 1000,0)
 | b,off,t :: l=>if t.f0≤b then (0,11) else if 1000000000000000 < t.f0 ∨ t.f1 < 0 ∨ 1000 < t.f1 then (0,9) else discGo total t.f0 (if t.f0≤total then t.f1 else off) l
def discB (l:List TI) (total:Int):Int × Int:=if 8 < l.length then (0,4) else discGo total (-1) 0 l
theorem rdT_drop {l:List TI} (i:Nat) (h:i < l.length):l.drop i=rd_T56 l (i:Int) :: l.drop (i+1):=by
 rw [List.drop_eq_getElem_cons h]
 unfold rd_T56
 rw [List.getD_eq_getElem?_getD,List.getElem?_eq_getElem (by simpa using h)]
 simp
theorem rdI_get {l:List IT} (i:Nat) (h:i < l.length):rd_T35 l (i:Int)=l[i]:=by
 unfold rd_T35
 rw [List.getD_eq_getElem?_getD,List.getElem?_eq_getElem (by simpa using h)]
 simp
theorem rdI_drop {l:List IT} (i:Nat) (h:i < l.length):l.drop i=rd_T35 l (i:Int) :: l.drop (i+1):=by
 rw [List.drop_eq_getElem_cons h,rdI_get i h]
theorem disc_l0 (total:Int) (l:List TI) (hl:l.length≤1000):∀ (d k i:Nat) (b off:Int),i+d=l.length→2 * d < k→0≤off→off≤1000→bill_Discount.l0 k total b off l (l.length:Int) (i:Int)=some (discGo total b off (l.drop i)):=by
 intro d
 induction d with
 | zero =>
  intro k i b off hi hk h0 h1
  obtain ⟨k,rfl⟩:∃ m,k=m+1:=⟨k - 1,by omega⟩
  simp only [bill_Discount.l0]
  rw [if_neg (by omega),List.drop_of_length_le (by omega),discGo]
  by_cases g1:total < 0
  ·rw [if_pos g1,if_pos g1]
  rw [if_neg g1,if_neg g1]
  by_cases g2:1000000000000000 < total
  ·rw [if_pos g2,if_pos g2]
  rw [if_neg g2,if_neg g2]
  have a0:0≤total * off:=Int.mul_nonneg (by omega) h0
  have a1:total * off≤1000000000000000 * 1000:=Int.mul_le_mul (by omega) h1 h0 (by omega)
  generalize total * off=m at a0 a1 ⊢
  have e1:wrap64 m=m:=by unfold wrap64;omega
  rw [e1,Int.tdiv_eq_ediv_of_nonneg a0]
  have e2:wrap64 (m / 1000)=m / 1000:=by unfold wrap64;omega
  rw [e2]
 | succ d ih =>
  intro k i b off hi hk h0 h1
  obtain ⟨k,rfl⟩:∃ m,k=m+2:=⟨k - 2,by omega⟩
  have h2:i < l.length:=by omega
  have e:wrap64 ((i:Int)+1)=((i+1:Nat):Int):=wrap_nat i 1000000 (by omega) (by omega)
  simp only [bill_Discount.l0,bill_Discount.j1,if_true,decide_eq_true_eq,gt_iff_lt]
  rw [if_pos (by omega),if_pos (by omega),if_pos (by omega),e,rdT_drop i h2,discGo]
  generalize rd_T56 l (i:Int)=t
  by_cases g1:t.f0≤b
  ·rw [if_pos g1,if_pos g1]
  rw [if_neg g1,if_neg g1]
  by_cases g2:1000000000000000 < t.f0
  ·rw [if_pos g2,if_pos (by omega)]
  rw [if_neg g2]
  by_cases g3:t.f1 < 0
  ·rw [if_pos g3,if_pos (by omega)]
  rw [if_neg g3]
  by_cases g4:1000 < t.f1
  ·rw [if_pos g4,if_pos (by omega)]
  rw [if_neg g4,if_neg (show ¬ (1000000000000000 < t.f0 ∨ t.f1 < 0 ∨ 1000 < t.f1) by omega)]
  by_cases g5:t.f0≤total
  ·rw [if_pos g5,if_pos g5,ih k (i+1) _ _ (by omega) (by omega) (by omega) (by omega)]
  ·rw [if_neg g5,if_neg g5,ih k (i+1) _ _ (by omega) (by omega) (by omega) (by omega)]
theorem disc_f (l:List TI) (total:Int) (k:Nat) (hk:20 < k):bill_Discount.f k l total=some (discB l total):=by
 unfold bill_Discount.f discB
 by_cases h:8 < l.length
 ·rw [if_pos (by omega),if_pos h]
 ·rw [if_neg (by omega),if_neg h]
  exact disc_l0 total l (by omega) l.length k 0 (-1) 0 (by omega) (by omega) (by omega) (by omega)
theorem discGo_ok (total:Int):∀ (l:List TI) (b off:Int),0≤off→off≤1000→(discGo total b off l).2=0→0≤total∧total≤1000000000000000∧∃ o,0≤o∧o≤1000∧(discGo total b off l).1=total * o / 1000:=by
 intro l
 induction l with
 | nil =>
  intro b off h0 h1 h
  rw [discGo] at h ⊢
  by_cases g1:total < 0
  ·rw [if_pos g1] at h;exact absurd h (by decide)
  rw [if_neg g1] at h ⊢
  by_cases g2:1000000000000000 < total
  ·rw [if_pos g2] at h;exact absurd h (by decide)
  rw [if_neg g2]
  exact ⟨by omega,by omega,off,h0,h1,rfl⟩
 | cons t l ih =>
  intro b off h0 h1 h
  rw [discGo] at h ⊢
  by_cases g1:t.f0≤b
  ·rw [if_pos g1] at h;exact absurd h (by decide)
  rw [if_neg g1] at h ⊢
  by_cases g2:1000000000000000 < t.f0 ∨ t.f1 < 0 ∨ 1000 < t.f1
  ·rw [if_pos g2] at h;exact absurd h (by decide)
  rw [if_neg g2] at h ⊢
  exact ih _ _ (by split<;>omega) (by split<;>omega) h
theorem disc_ok (l:List TI) (total:Int) (h:(discB l total).2=0):l.length≤8∧0≤total∧total≤1000000000000000∧0≤(discB l total).1∧(discB l total).1≤total:=by
 unfold discB at h ⊢
 by_cases g:8 < l.length
 ·rw [if_pos g] at h;exact absurd h (by decide)
 rw [if_neg g] at h ⊢
 obtain ⟨h1,h2,o,h3,h4,h5⟩:=discGo_ok total l (-1) 0 (by omega) (by omega) h
 rw [h5]
 have a0:0≤total * o:=Int.mul_nonneg h1 h3
 have a1:total * o≤total * 1000:=Int.mul_le_mul_of_nonneg_left h4 h1
 generalize total * o=m at a0 a1 ⊢
 omega
def invGo (c:List PR) (t:List TI):List Int→Int→List IT→List Int × Int × Int × Int
 | acc,n,[]=>if (discB t n).2=0 then (acc,(discB t n).1,n - (discB t n).1,0) else ([],0,0,(discB t n).2)
 | acc,n,x :: l=>if (amountB c x).2=0 then invGo c t (acc++[(amountB c x).1]) (n+(amountB c x).1) l else ([],0,0,(amountB c x).2)
def invB (c:List PR) (l:List IT) (t:List TI):List Int × Int × Int × Int:=if 32 < l.length then ([],0,0,4) else invGo c t [] 0 l
theorem inv_l0 (c:List PR) (t:List TI) (l:List IT) (hl:l.length≤1000):∀ (d k i:Nat) (acc:List Int) (n:Int),i+d=l.length→d+80 < k→acc.length=i→0≤n→n≤800000000000 * (i:Int)→bill_invoice.l0 k c t acc n l (l.length:Int) (i:Int)=some (invGo c t acc n (l.drop i)):=by
 intro d
 induction d with
 | zero =>
  intro k i acc n hi hk ha h0 h1
  obtain ⟨k,rfl⟩:∃ m,k=m+1:=⟨k - 1,by omega⟩
  simp only [bill_invoice.l0]
  rw [if_neg (by omega),List.drop_of_length_le (by omega),disc_f t n k (by omega),Option.bind_some,invGo]
  by_cases h:(discB t n).2=0
  ·rw [if_pos h,if_pos h]
   obtain ⟨-,-,-,h2,h3⟩:=disc_ok t n h
   have e:wrap64 (n - (discB t n).1)=n - (discB t n).1:=by
    generalize (discB t n).1=m at h2 h3 ⊢
    unfold wrap64
    omega
   rw [e]
  ·rw [if_neg h,if_neg h]
 | succ d ih =>
  intro k i acc n hi hk ha h0 h1
  obtain ⟨k,rfl⟩:∃ m,k=m+1:=⟨k - 1,by omega⟩
  have h2:i < l.length:=by omega
  have e:wrap64 ((i:Int)+1)=((i+1:Nat):Int):=wrap_nat i 1000000 (by omega) (by omega)
  simp only [bill_invoice.l0]
  rw [if_pos (by omega),if_pos (by omega),if_pos (by omega),e,amount_f c _ k (by omega),Option.bind_some,rdI_drop i h2,invGo]
  generalize rd_T35 l (i:Int)=x
  by_cases h:(amountB c x).2=0
  ·have hb:=(amount_ok c x h).2.2.2.2.2.2.2.2.2.2.2.2
   have e2:wrap64 (n+(amountB c x).1)=n+(amountB c x).1:=by
    generalize (amountB c x).1=m at hb ⊢
    unfold wrap64
    omega
   rw [if_pos h,if_pos h,if_pos (by omega),e2,ih k (i+1) _ _ (by omega) (by omega) (by rw [List.length_append,ha];rfl) (by omega) (by omega)]
  ·rw [if_neg h,if_neg h]
theorem inv_f (c:List PR) (l:List IT) (t:List TI) (k:Nat) (hk:120 < k):bill_invoice.f k c l t=some (invB c l t):=by
 unfold bill_invoice.f invB
 by_cases h:32 < l.length
 ·rw [if_pos (by omega),if_pos h]
 ·rw [if_neg (by omega),if_neg h]
  exact inv_l0 c t l (by omega) l.length k 0 [] 0 (by omega) (by omega) rfl (by omega) (by omega)
theorem total_f (c:List PR) (l:List IT) (t:List TI) (k:Nat) (hk:120 < k):bill_Total.f k c l t=some ((invB c l t).2.2.1,(invB c l t).2.2.2):=by
 unfold bill_Total.f
 rw [inv_f c l t k hk]
 rfl
def sumB (c:List PR) (l:List IT):Int:=(l.map fun x=>(amountB c x).1).sum
theorem invGo_ok (c:List PR) (t:List TI):∀ (l:List IT) (acc:List Int) (n:Int),(invGo c t acc n l).2.2.2=0→(∀ x ∈ l,(amountB c x).2=0)∧(discB t (n+sumB c l)).2=0∧invGo c t acc n l=(acc++l.map (fun x=>(amountB c x).1),(discB t (n+sumB c l)).1,n+sumB c l - (discB t (n+sumB c l)).1,0):=by
 intro l
 induction l with
 | nil =>
  intro acc n h
  rw [invGo] at h ⊢
  have e:n+sumB c []=n:=by simp [sumB]
  rw [e]
  by_cases g:(discB t n).2=0
  ·rw [if_pos g]
   exact ⟨fun x hx=>(by cases hx),g,by simp⟩
  ·rw [if_neg g] at h;exact absurd h g
 | cons x l ih =>
  intro acc n h
  rw [invGo] at h ⊢
  by_cases g:(amountB c x).2=0
  ·rw [if_pos g] at h ⊢
   obtain ⟨h1,h2,h3⟩:=ih _ _ h
   have e:n+(amountB c x).1+sumB c l=n+sumB c (x :: l):=by
    simp only [sumB,List.map_cons,List.sum_cons]
    omega
   rw [e] at h2 h3
   refine ⟨fun y hy=>?_,h2,?_⟩
   ·rcases List.mem_cons.mp hy with rfl|hy
    ·exact g
    ·exact h1 y hy
   ·rw [h3];simp
  ·rw [if_neg g] at h;exact absurd h g
theorem inv_ok (c:List PR) (l:List IT) (t:List TI) (h:(invB c l t).2.2.2=0):l.length≤32∧(∀ x ∈ l,(amountB c x).2=0)∧(discB t (sumB c l)).2=0∧invB c l t=(l.map (fun x=>(amountB c x).1),(discB t (sumB c l)).1,sumB c l - (discB t (sumB c l)).1,0):=by
 unfold invB at h ⊢
 by_cases g:32 < l.length
 ·rw [if_pos g] at h;exact absurd h (by decide)
 rw [if_neg g] at h ⊢
 have:=invGo_ok c t l [] 0 h
 simp only [Int.zero_add,List.nil_append] at this
 exact ⟨by omega,this⟩
theorem invGo_err (c:List PR) (t:List TI):∀ (l:List IT) (acc:List Int) (n:Int),(invGo c t acc n l).2.2.2 ≠ 0→(invGo c t acc n l).2.2.1=0:=by
 intro l
 induction l with
 | nil =>
  intro acc n h
  rw [invGo] at h ⊢
  by_cases g:(discB t n).2=0
  ·rw [if_pos g] at h;exact absurd rfl h
  ·rw [if_neg g]
 | cons x l ih =>
  intro acc n h
  rw [invGo] at h ⊢
  by_cases g:(amountB c x).2=0
  ·rw [if_pos g] at h ⊢;exact ih _ _ h
  ·rw [if_neg g]
end Go.Proofs.YtojkjhaobjidlaaDoor.P
namespace Go.Proofs.YtojkjhaobjidlaaDoor.P
open Go.RowKit Go.Proofs.YtojkjhaobjidlaaDoorW.PrintWords Go.Proofs.YtojkjhaobjidlaaDoorW.PrintLast Go.Proofs.YtojkjhaobjidlaaDoorW.PrintMore
attribute [local go_sem] max2_int min2_int max_two min_two max_three min_three max_four min_four
attribute [local go_sem] cell_twice
set_option linter.unusedVariables false
set_option linter.unusedSimpArgs false
mutual
def sawmillref19_checkLengths.l0:Nat→Int→ByteArray→Int→Int→Int→Int→List Int→List Int→Option (Int)
 | 0,_,_,_,_,_,_,_,_=>none
 | k+1,x3,x102000,x102001,x102002,x102003,x102004,x102005,x102006=>if x3 < (x102005.length:Int) then (if 0≤x3 then (if (rd x102005 x3) < 100 then (sawmillref19_checkLengths.j1 k x3 true x102000 x102001 x102002 x102003 x102004 x102005 x102006) else (sawmillref19_checkLengths.j1 k x3 (decide ((rd x102005 x3) > 20000)) x102000 x102001 x102002 x102003 x102004 x102005 x102006)) else (none)) else (sawmillref19_checkLengths.l1 k 0 x102000 x102001 x102002 x102003 x102004 x102005 x102006)
def sawmillref19_checkLengths.j1:Nat→Int→Bool→ByteArray→Int→Int→Int→Int→List Int→List Int→Option (Int)
 | 0,_,_,_,_,_,_,_,_,_=>none
 | k+1,x3,x40,x102000,x102001,x102002,x102003,x102004,x102005,x102006=>if x40=true then (some 9) else (if x3 > 0 then (if 0≤x3 then (if x3 < (x102005.length:Int) then (if 0≤(wrap64 (x3 - 1)) then (if (wrap64 (x3 - 1)) < (x102005.length:Int) then (if (rd x102005 x3)≤(rd x102005 (wrap64 (x3 - 1))) then (some 11) else (sawmillref19_checkLengths.l0 k (wrap64 (x3+1)) x102000 x102001 x102002 x102003 x102004 x102005 x102006)) else (none)) else (none)) else (none)) else (none)) else (sawmillref19_checkLengths.l0 k (wrap64 (x3+1)) x102000 x102001 x102002 x102003 x102004 x102005 x102006))
def sawmillref19_checkLengths.l1:Nat→Int→ByteArray→Int→Int→Int→Int→List Int→List Int→Option (Int)
 | 0,_,_,_,_,_,_,_,_=>none
 | k+1,x4,x102000,x102001,x102002,x102003,x102004,x102005,x102006=>if x4 < (x102006.length:Int) then (if 0≤x4 then (if (rd x102006 x4) < 0 then (some 9) else (if (rd x102006 x4) > 1000000 then (some 9) else (sawmillref19_checkLengths.l1 k (wrap64 (x4+1)) x102000 x102001 x102002 x102003 x102004 x102005 x102006))) else (none)) else (some 0)
end
def sawmillref19_checkLengths.f (k:Nat) (a0_0:ByteArray) (a0_1:Int) (a0_2:Int) (a0_3:Int) (a0_4:Int) (l0_5:List Int) (l0_6:List Int):Option (Int):=if (l0_5.length:Int)=0 then (some 3) else (if (l0_5.length:Int) > 8 then (some 4) else (if (l0_6.length:Int)=(l0_5.length:Int) then (sawmillref19_checkLengths.l0 k 0 a0_0 a0_1 a0_2 a0_3 a0_4 l0_5 l0_6) else (some 19)))
theorem sawmillref19_checkLengths.mono_l:∀ k,(∀ y0 y1 y2 y3 y4 y5 y6 y7,LeO (sawmillref19_checkLengths.l0 k y0 y1 y2 y3 y4 y5 y6 y7) (sawmillref19_checkLengths.l0 (k+1) y0 y1 y2 y3 y4 y5 y6 y7))∧(∀ y0 y1 y2 y3 y4 y5 y6 y7 y8,LeO (sawmillref19_checkLengths.j1 k y0 y1 y2 y3 y4 y5 y6 y7 y8) (sawmillref19_checkLengths.j1 (k+1) y0 y1 y2 y3 y4 y5 y6 y7 y8))∧(∀ y0 y1 y2 y3 y4 y5 y6 y7,LeO (sawmillref19_checkLengths.l1 k y0 y1 y2 y3 y4 y5 y6 y7) (sawmillref19_checkLengths.l1 (k+1) y0 y1 y2 y3 y4 y5 y6 y7))
 | 0=>⟨fun _ _ _ _ _ _ _ _ r h=>by simp [sawmillref19_checkLengths.l0] at h,fun _ _ _ _ _ _ _ _ _ r h=>by simp [sawmillref19_checkLengths.j1] at h,fun _ _ _ _ _ _ _ _ r h=>by simp [sawmillref19_checkLengths.l1] at h⟩
 | k+1=>by
  obtain ⟨ih0,ih1,ih2⟩:=sawmillref19_checkLengths.mono_l k
  refine ⟨?_,?_,?_⟩
  ·intro y0 y1 y2 y3 y4 y5 y6 y7
   unfold sawmillref19_checkLengths.l0
   repeat' first
   | (with_reducible exact ih0 _ _ _ _ _ _ _ _)
   | (with_reducible exact ih1 _ _ _ _ _ _ _ _ _)
   | (with_reducible exact ih2 _ _ _ _ _ _ _ _)
   | (with_reducible exact LeO.refl _)
   | (with_reducible exact LeO.none _)
   | (with_reducible refine LeO.ite ?_ ?_)
   | (with_reducible refine LeO.bind ?_ (fun _=>?_))
   | exact ih0 _ _ _ _ _ _ _ _
   | exact ih1 _ _ _ _ _ _ _ _ _
   | exact ih2 _ _ _ _ _ _ _ _
   | exact LeO.none _
   | refine LeO.ite ?_ ?_
   | refine LeO.bind ?_ (fun _=>?_)
  ·intro y0 y1 y2 y3 y4 y5 y6 y7 y8
   unfold sawmillref19_checkLengths.j1
   repeat' first
   | (with_reducible exact ih0 _ _ _ _ _ _ _ _)
   | (with_reducible exact ih1 _ _ _ _ _ _ _ _ _)
   | (with_reducible exact ih2 _ _ _ _ _ _ _ _)
   | (with_reducible exact LeO.refl _)
   | (with_reducible exact LeO.none _)
   | (with_reducible refine LeO.ite ?_ ?_)
   | (with_reducible refine LeO.bind ?_ (fun _=>?_))
   | exact ih0 _ _ _ _ _ _ _ _
   | exact ih1 _ _ _ _ _ _ _ _ _
   | exact ih2 _ _ _ _ _ _ _ _
   | exact LeO.none _
   | refine LeO.ite ?_ ?_
   | refine LeO.bind ?_ (fun _=>?_)
  ·intro y0 y1 y2 y3 y4 y5 y6 y7
   unfold sawmillref19_checkLengths.l1
   repeat' first
   | (with_reducible exact ih0 _ _ _ _ _ _ _ _)
   | (with_reducible exact ih1 _ _ _ _ _ _ _ _ _)
   | (with_reducible exact ih2 _ _ _ _ _ _ _ _)
   | (with_reducible exact LeO.refl _)
   | (with_reducible exact LeO.none _)
   | (with_reducible refine LeO.ite ?_ ?_)
   | (with_reducible refine LeO.bind ?_ (fun _=>?_))
   | exact ih0 _ _ _ _ _ _ _ _
   | exact ih1 _ _ _ _ _ _ _ _ _
   | exact ih2 _ _ _ _ _ _ _ _
   | exact LeO.none _
   | refine LeO.ite ?_ ?_
   | refine LeO.bind ?_ (fun _=>?_)
theorem sawmillref19_checkLengths.mono:∀ a0 a1 a2 a3 a4 a5 a6 k,LeO (sawmillref19_checkLengths.f k a0 a1 a2 a3 a4 a5 a6) (sawmillref19_checkLengths.f (k+1) a0 a1 a2 a3 a4 a5 a6):=by
 intro a0 a1 a2 a3 a4 a5 a6 k
 obtain ⟨ih0,ih1,ih2⟩:=sawmillref19_checkLengths.mono_l k
 unfold sawmillref19_checkLengths.f
 repeat' first
   | (with_reducible exact ih0 _ _ _ _ _ _ _ _)
   | (with_reducible exact ih1 _ _ _ _ _ _ _ _ _)
   | (with_reducible exact ih2 _ _ _ _ _ _ _ _)
   | (with_reducible exact LeO.refl _)
   | (with_reducible exact LeO.none _)
   | (with_reducible refine LeO.ite ?_ ?_)
   | (with_reducible refine LeO.bind ?_ (fun _=>?_))
   | exact ih0 _ _ _ _ _ _ _ _
   | exact ih1 _ _ _ _ _ _ _ _ _
   | exact ih2 _ _ _ _ _ _ _ _
   | exact LeO.none _
   | refine LeO.ite ?_ ?_
   | refine LeO.bind ?_ (fun _=>?_)
set_option maxHeartbeats 8000000 in
set_option maxRecDepth 100000 in
theorem sawmillref19_checkLengths.calls (k:Nat) (a0_0:ByteArray) (a0_1:Int) (a0_2:Int) (a0_3:Int) (a0_4:Int) (A0_5:Option Addr) (c0_5:Nat) (l0_5:List Int) (A0_6:Option Addr) (c0_6:Nat) (l0_6:List Int) (r:Int) (w:World) (hr0_5:Kd.C (Kd.int .i64) w A0_5 l0_5.length l0_5) (hc0_5:l0_5.length≤c0_5) (hr0_6:Kd.C (Kd.int .i64) w A0_6 l0_6.length l0_6) (hc0_6:l0_6.length≤c0_6) (h:sawmillref19_checkLengths.f k a0_0 a0_1 a0_2 a0_3 a0_4 l0_5 l0_6=some r) :
  Calls Tryd.prog 47 #[.agg #[.string a0_0,.int .i64 a0_1,.int .i64 a0_2,.int .i64 a0_3,.int .i64 a0_4,.slice A0_5 l0_5.length c0_5,.slice A0_6 l0_6.length c0_6]] w fun e w'=>e=.returned (.int .i64 r)∧Below w.heap.size w w':=by
 have hu53:=Tryd.underlying53
 have HR0_5:=Aside0.mk hr0_5
 have HC0_5:=Aside0.mk hc0_5
 clear hr0_5 hc0_5
 have HR0_6:=Aside0.mk hr0_6
 have HC0_6:=Aside0.mk hc0_6
 clear hr0_6 hc0_6
 have HB:=Aside0.mk (Below.refl w.heap.size w)
 have H:(if (l0_5.length:Int)=0 then (some 3) else (if (l0_5.length:Int) > 8 then (some 4) else (if (l0_6.length:Int)=(l0_5.length:Int) then (sawmillref19_checkLengths.l0 k 0 a0_0 a0_1 a0_2 a0_3 a0_4 l0_5 l0_6) else (some 19))))=some r:=h
 clear h
 by_cases c2:(l0_5.length:Int)=0
 ·rw [if_pos c2] at H
  have c2b0:((l0_5.length:Int) == 0)=true:=beq_iff_eq.mpr c2
  have c2b1:((l0_5.length:Int) != 0)=false:=bne_eq_false_iff_eq.mpr c2
  clear c2
  obtain rfl:=Option.some.inj H
  go_enter Tryd.func47,Tryd.ntmps47
  go_wp2_with (first|((with_reducible refine gate_dst (N:=1) rfl ?_);refine box_event ?hg (N:=1) ?hd (cs:=#[.string a0_0,.int .i64 a0_1,.int .i64 a0_2,.int .i64 a0_3,.int .i64 a0_4,.slice A0_5 l0_5.length c0_5,.slice A0_6 l0_6.length c0_6]) (t:=53) ?hr ?_;(case hd=>rfl);(case hg=>rfl);(case hr=>first|(go_simp;done)|(go_simp;rfl));intro gb101 hg w3 hbox hb;have n0_:=Aside0.mk (below_step (by repeat (first|(with_reducible first|exact HB.out|apply below_alloc|apply pw_below_drewN|apply below_drew1)|exact HB.out)) hb);have n1_:=Aside0.mk (hbox);have n2_:=Aside0.mk ((by rw [hg];exact (below_size (by repeat (first|(with_reducible first|exact HB.out|apply below_alloc|apply pw_below_drewN|apply below_drew1)|exact HB.out))):w.heap.size≤gb101));have n3_:=Aside0.mk ((by rw [hg];exact (below_size (by repeat (first|(with_reducible first|exact HB.out|apply below_alloc|apply pw_below_drewN|apply below_drew1)|exact HB.out))):w.heap.size≤gb101));clear HB;have HB:=n0_;have BK101:=n1_;have GW101:=n2_;have GE101:=n3_;clear n0_ n1_ n2_ n3_;clear hb hbox hg;have hcz4_0:w3.cell? ⟨gb101,0,none⟩=some (.string a0_0):=(blk_cell BK101.out 0).trans rfl;have hcz4_1:w3.cell? ⟨gb101,1,none⟩=some (.int .i64 a0_1):=(blk_cell BK101.out 1).trans rfl;have hcz4_2:w3.cell? ⟨gb101,2,none⟩=some (.int .i64 a0_2):=(blk_cell BK101.out 2).trans rfl;have hcz4_3:w3.cell? ⟨gb101,3,none⟩=some (.int .i64 a0_3):=(blk_cell BK101.out 3).trans rfl;have hcz4_4:w3.cell? ⟨gb101,4,none⟩=some (.int .i64 a0_4):=(blk_cell BK101.out 4).trans rfl;have hcz4_5:w3.cell? ⟨gb101,5,none⟩=some (.slice A0_5 l0_5.length c0_5):=(blk_cell BK101.out 5).trans rfl;have hcz4_6:w3.cell? ⟨gb101,6,none⟩=some (.slice A0_6 l0_6.length c0_6):=(blk_cell BK101.out 6).trans rfl;have hfz4_0:=blk_frozen BK101.out 0;have hfz4_1:=blk_frozen BK101.out 1;have hfz4_2:=blk_frozen BK101.out 2;have hfz4_3:=blk_frozen BK101.out 3;have hfz4_4:=blk_frozen BK101.out 4;have hfz4_5:=blk_frozen BK101.out 5;have hfz4_6:=blk_frozen BK101.out 6))
  repeat (go_quiet (first|((with_reducible refine gate_dst (N:=1) rfl ?_);refine box_event ?hg (N:=1) ?hd (cs:=#[.string a0_0,.int .i64 a0_1,.int .i64 a0_2,.int .i64 a0_3,.int .i64 a0_4,.slice A0_5 l0_5.length c0_5,.slice A0_6 l0_6.length c0_6]) (t:=53) ?hr ?_;(case hd=>rfl);(case hg=>rfl);(case hr=>first|(go_simp;done)|(go_simp;rfl));intro gb101 hg w3 hbox hb;have n0_:=Aside0.mk (below_step (by repeat (first|(with_reducible first|exact HB.out|apply below_alloc|apply pw_below_drewN|apply below_drew1)|exact HB.out)) hb);have n1_:=Aside0.mk (hbox);have n2_:=Aside0.mk ((by rw [hg];exact (below_size (by repeat (first|(with_reducible first|exact HB.out|apply below_alloc|apply pw_below_drewN|apply below_drew1)|exact HB.out))):w.heap.size≤gb101));have n3_:=Aside0.mk ((by rw [hg];exact (below_size (by repeat (first|(with_reducible first|exact HB.out|apply below_alloc|apply pw_below_drewN|apply below_drew1)|exact HB.out))):w.heap.size≤gb101));clear HB;have HB:=n0_;have BK101:=n1_;have GW101:=n2_;have GE101:=n3_;clear n0_ n1_ n2_ n3_;clear hb hbox hg;have hcz4_0:w3.cell? ⟨gb101,0,none⟩=some (.string a0_0):=(blk_cell BK101.out 0).trans rfl;have hcz4_1:w3.cell? ⟨gb101,1,none⟩=some (.int .i64 a0_1):=(blk_cell BK101.out 1).trans rfl;have hcz4_2:w3.cell? ⟨gb101,2,none⟩=some (.int .i64 a0_2):=(blk_cell BK101.out 2).trans rfl;have hcz4_3:w3.cell? ⟨gb101,3,none⟩=some (.int .i64 a0_3):=(blk_cell BK101.out 3).trans rfl;have hcz4_4:w3.cell? ⟨gb101,4,none⟩=some (.int .i64 a0_4):=(blk_cell BK101.out 4).trans rfl;have hcz4_5:w3.cell? ⟨gb101,5,none⟩=some (.slice A0_5 l0_5.length c0_5):=(blk_cell BK101.out 5).trans rfl;have hcz4_6:w3.cell? ⟨gb101,6,none⟩=some (.slice A0_6 l0_6.length c0_6):=(blk_cell BK101.out 6).trans rfl;have hfz4_0:=blk_frozen BK101.out 0;have hfz4_1:=blk_frozen BK101.out 1;have hfz4_2:=blk_frozen BK101.out 2;have hfz4_3:=blk_frozen BK101.out 3;have hfz4_4:=blk_frozen BK101.out 4;have hfz4_5:=blk_frozen BK101.out 5;have hfz4_6:=blk_frozen BK101.out 6));try go_wp2_with (first|((with_reducible refine gate_dst (N:=1) rfl ?_);refine box_event ?hg (N:=1) ?hd (cs:=#[.string a0_0,.int .i64 a0_1,.int .i64 a0_2,.int .i64 a0_3,.int .i64 a0_4,.slice A0_5 l0_5.length c0_5,.slice A0_6 l0_6.length c0_6]) (t:=53) ?hr ?_;(case hd=>rfl);(case hg=>rfl);(case hr=>first|(go_simp;done)|(go_simp;rfl));intro gb101 hg w3 hbox hb;have n0_:=Aside0.mk (below_step (by repeat (first|(with_reducible first|exact HB.out|apply below_alloc|apply pw_below_drewN|apply below_drew1)|exact HB.out)) hb);have n1_:=Aside0.mk (hbox);have n2_:=Aside0.mk ((by rw [hg];exact (below_size (by repeat (first|(with_reducible first|exact HB.out|apply below_alloc|apply pw_below_drewN|apply below_drew1)|exact HB.out))):w.heap.size≤gb101));have n3_:=Aside0.mk ((by rw [hg];exact (below_size (by repeat (first|(with_reducible first|exact HB.out|apply below_alloc|apply pw_below_drewN|apply below_drew1)|exact HB.out))):w.heap.size≤gb101));clear HB;have HB:=n0_;have BK101:=n1_;have GW101:=n2_;have GE101:=n3_;clear n0_ n1_ n2_ n3_;clear hb hbox hg;have hcz4_0:w3.cell? ⟨gb101,0,none⟩=some (.string a0_0):=(blk_cell BK101.out 0).trans rfl;have hcz4_1:w3.cell? ⟨gb101,1,none⟩=some (.int .i64 a0_1):=(blk_cell BK101.out 1).trans rfl;have hcz4_2:w3.cell? ⟨gb101,2,none⟩=some (.int .i64 a0_2):=(blk_cell BK101.out 2).trans rfl;have hcz4_3:w3.cell? ⟨gb101,3,none⟩=some (.int .i64 a0_3):=(blk_cell BK101.out 3).trans rfl;have hcz4_4:w3.cell? ⟨gb101,4,none⟩=some (.int .i64 a0_4):=(blk_cell BK101.out 4).trans rfl;have hcz4_5:w3.cell? ⟨gb101,5,none⟩=some (.slice A0_5 l0_5.length c0_5):=(blk_cell BK101.out 5).trans rfl;have hcz4_6:w3.cell? ⟨gb101,6,none⟩=some (.slice A0_6 l0_6.length c0_6):=(blk_cell BK101.out 6).trans rfl;have hfz4_0:=blk_frozen BK101.out 0;have hfz4_1:=blk_frozen BK101.out 1;have hfz4_2:=blk_frozen BK101.out 2;have hfz4_3:=blk_frozen BK101.out 3;have hfz4_4:=blk_frozen BK101.out 4;have hfz4_5:=blk_frozen BK101.out 5;have hfz4_6:=blk_frozen BK101.out 6)))
  go_ret
  exact ⟨by first|rfl|(simp [errW_none,errW_some]<;>rfl)|(simp [*,errW_none,errW_some]<;>rfl),by repeat (first|(with_reducible first|exact HB.out|apply below_alloc|apply pw_below_drewN|apply below_drew1|refine below_set ?_ GE101.out)|exact HB.out)⟩
 ·rw [if_neg c2] at H
  have c2b0:((l0_5.length:Int) == 0)=false:=beq_eq_false_iff_ne.mpr c2
  have c2b1:((l0_5.length:Int) != 0)=true:=bne_iff_ne.mpr c2
  have c2b2:¬ (l0_5=[]):=fun h_=>c2 (by rw [h_];rfl)
  by_cases c5:(l0_5.length:Int) > 8
  ·rw [if_pos c5] at H
   have c5b0:decide (8 < (l0_5.length:Int))=true:=decide_eq_true c5
   have c5b1:decide (8 < l0_5.length)=true:=decide_eq_true (by omega)
   clear c5
   obtain rfl:=Option.some.inj H
   go_enter Tryd.func47,Tryd.ntmps47
   go_wp2_with (first|((with_reducible refine gate_dst (N:=1) rfl ?_);refine box_event ?hg (N:=1) ?hd (cs:=#[.string a0_0,.int .i64 a0_1,.int .i64 a0_2,.int .i64 a0_3,.int .i64 a0_4,.slice A0_5 l0_5.length c0_5,.slice A0_6 l0_6.length c0_6]) (t:=53) ?hr ?_;(case hd=>rfl);(case hg=>rfl);(case hr=>first|(go_simp;done)|(go_simp;rfl));intro gb101 hg w6 hbox hb;have n0_:=Aside0.mk (below_step (by repeat (first|(with_reducible first|exact HB.out|apply below_alloc|apply pw_below_drewN|apply below_drew1)|exact HB.out)) hb);have n1_:=Aside0.mk (hbox);have n2_:=Aside0.mk ((by rw [hg];exact (below_size (by repeat (first|(with_reducible first|exact HB.out|apply below_alloc|apply pw_below_drewN|apply below_drew1)|exact HB.out))):w.heap.size≤gb101));have n3_:=Aside0.mk ((by rw [hg];exact (below_size (by repeat (first|(with_reducible first|exact HB.out|apply below_alloc|apply pw_below_drewN|apply below_drew1)|exact HB.out))):w.heap.size≤gb101));clear HB;have HB:=n0_;have BK101:=n1_;have GW101:=n2_;have GE101:=n3_;clear n0_ n1_ n2_ n3_;clear hb hbox hg;have hcz7_0:w6.cell? ⟨gb101,0,none⟩=some (.string a0_0):=(blk_cell BK101.out 0).trans rfl;have hcz7_1:w6.cell? ⟨gb101,1,none⟩=some (.int .i64 a0_1):=(blk_cell BK101.out 1).trans rfl;have hcz7_2:w6.cell? ⟨gb101,2,none⟩=some (.int .i64 a0_2):=(blk_cell BK101.out 2).trans rfl;have hcz7_3:w6.cell? ⟨gb101,3,none⟩=some (.int .i64 a0_3):=(blk_cell BK101.out 3).trans rfl;have hcz7_4:w6.cell? ⟨gb101,4,none⟩=some (.int .i64 a0_4):=(blk_cell BK101.out 4).trans rfl;have hcz7_5:w6.cell? ⟨gb101,5,none⟩=some (.slice A0_5 l0_5.length c0_5):=(blk_cell BK101.out 5).trans rfl;have hcz7_6:w6.cell? ⟨gb101,6,none⟩=some (.slice A0_6 l0_6.length c0_6):=(blk_cell BK101.out 6).trans rfl;have hfz7_0:=blk_frozen BK101.out 0;have hfz7_1:=blk_frozen BK101.out 1;have hfz7_2:=blk_frozen BK101.out 2;have hfz7_3:=blk_frozen BK101.out 3;have hfz7_4:=blk_frozen BK101.out 4;have hfz7_5:=blk_frozen BK101.out 5;have hfz7_6:=blk_frozen BK101.out 6))
   repeat (go_quiet (first|((with_reducible refine gate_dst (N:=1) rfl ?_);refine box_event ?hg (N:=1) ?hd (cs:=#[.string a0_0,.int .i64 a0_1,.int .i64 a0_2,.int .i64 a0_3,.int .i64 a0_4,.slice A0_5 l0_5.length c0_5,.slice A0_6 l0_6.length c0_6]) (t:=53) ?hr ?_;(case hd=>rfl);(case hg=>rfl);(case hr=>first|(go_simp;done)|(go_simp;rfl));intro gb101 hg w6 hbox hb;have n0_:=Aside0.mk (below_step (by repeat (first|(with_reducible first|exact HB.out|apply below_alloc|apply pw_below_drewN|apply below_drew1)|exact HB.out)) hb);have n1_:=Aside0.mk (hbox);have n2_:=Aside0.mk ((by rw [hg];exact (below_size (by repeat (first|(with_reducible first|exact HB.out|apply below_alloc|apply pw_below_drewN|apply below_drew1)|exact HB.out))):w.heap.size≤gb101));have n3_:=Aside0.mk ((by rw [hg];exact (below_size (by repeat (first|(with_reducible first|exact HB.out|apply below_alloc|apply pw_below_drewN|apply below_drew1)|exact HB.out))):w.heap.size≤gb101));clear HB;have HB:=n0_;have BK101:=n1_;have GW101:=n2_;have GE101:=n3_;clear n0_ n1_ n2_ n3_;clear hb hbox hg;have hcz7_0:w6.cell? ⟨gb101,0,none⟩=some (.string a0_0):=(blk_cell BK101.out 0).trans rfl;have hcz7_1:w6.cell? ⟨gb101,1,none⟩=some (.int .i64 a0_1):=(blk_cell BK101.out 1).trans rfl;have hcz7_2:w6.cell? ⟨gb101,2,none⟩=some (.int .i64 a0_2):=(blk_cell BK101.out 2).trans rfl;have hcz7_3:w6.cell? ⟨gb101,3,none⟩=some (.int .i64 a0_3):=(blk_cell BK101.out 3).trans rfl;have hcz7_4:w6.cell? ⟨gb101,4,none⟩=some (.int .i64 a0_4):=(blk_cell BK101.out 4).trans rfl;have hcz7_5:w6.cell? ⟨gb101,5,none⟩=some (.slice A0_5 l0_5.length c0_5):=(blk_cell BK101.out 5).trans rfl;have hcz7_6:w6.cell? ⟨gb101,6,none⟩=some (.slice A0_6 l0_6.length c0_6):=(blk_cell BK101.out 6).trans rfl;have hfz7_0:=blk_frozen BK101.out 0;have hfz7_1:=blk_frozen BK101.out 1;have hfz7_2:=blk_frozen BK101.out 2;have hfz7_3:=blk_frozen BK101.out 3;have hfz7_4:=blk_frozen BK101.out 4;have hfz7_5:=blk_frozen BK101.out 5;have hfz7_6:=blk_frozen BK101.out 6));try go_wp2_with (first|((with_reducible refine gate_dst (N:=1) rfl ?_);refine box_event ?hg (N:=1) ?hd (cs:=#[.string a0_0,.int .i64 a0_1,.int .i64 a0_2,.int .i64 a0_3,.int .i64 a0_4,.slice A0_5 l0_5.length c0_5,.slice A0_6 l0_6.length c0_6]) (t:=53) ?hr ?_;(case hd=>rfl);(case hg=>rfl);(case hr=>first|(go_simp;done)|(go_simp;rfl));intro gb101 hg w6 hbox hb;have n0_:=Aside0.mk (below_step (by repeat (first|(with_reducible first|exact HB.out|apply below_alloc|apply pw_below_drewN|apply below_drew1)|exact HB.out)) hb);have n1_:=Aside0.mk (hbox);have n2_:=Aside0.mk ((by rw [hg];exact (below_size (by repeat (first|(with_reducible first|exact HB.out|apply below_alloc|apply pw_below_drewN|apply below_drew1)|exact HB.out))):w.heap.size≤gb101));have n3_:=Aside0.mk ((by rw [hg];exact (below_size (by repeat (first|(with_reducible first|exact HB.out|apply below_alloc|apply pw_below_drewN|apply below_drew1)|exact HB.out))):w.heap.size≤gb101));clear HB;have HB:=n0_;have BK101:=n1_;have GW101:=n2_;have GE101:=n3_;clear n0_ n1_ n2_ n3_;clear hb hbox hg;have hcz7_0:w6.cell? ⟨gb101,0,none⟩=some (.string a0_0):=(blk_cell BK101.out 0).trans rfl;have hcz7_1:w6.cell? ⟨gb101,1,none⟩=some (.int .i64 a0_1):=(blk_cell BK101.out 1).trans rfl;have hcz7_2:w6.cell? ⟨gb101,2,none⟩=some (.int .i64 a0_2):=(blk_cell BK101.out 2).trans rfl;have hcz7_3:w6.cell? ⟨gb101,3,none⟩=some (.int .i64 a0_3):=(blk_cell BK101.out 3).trans rfl;have hcz7_4:w6.cell? ⟨gb101,4,none⟩=some (.int .i64 a0_4):=(blk_cell BK101.out 4).trans rfl;have hcz7_5:w6.cell? ⟨gb101,5,none⟩=some (.slice A0_5 l0_5.length c0_5):=(blk_cell BK101.out 5).trans rfl;have hcz7_6:w6.cell? ⟨gb101,6,none⟩=some (.slice A0_6 l0_6.length c0_6):=(blk_cell BK101.out 6).trans rfl;have hfz7_0:=blk_frozen BK101.out 0;have hfz7_1:=blk_frozen BK101.out 1;have hfz7_2:=blk_frozen BK101.out 2;have hfz7_3:=blk_frozen BK101.out 3;have hfz7_4:=blk_frozen BK101.out 4;have hfz7_5:=blk_frozen BK101.out 5;have hfz7_6:=blk_frozen BK101.out 6)))
   go_ret
   exact ⟨by first|rfl|(simp [errW_none,errW_some]<;>rfl)|(simp [*,errW_none,errW_some]<;>rfl),by repeat (first|(with_reducible first|exact HB.out|apply below_alloc|apply pw_below_drewN|apply below_drew1|refine below_set ?_ GE101.out)|exact HB.out)⟩
  ·rw [if_neg c5] at H
   have c5b0:decide (8 < (l0_5.length:Int))=false:=decide_eq_false c5
   have c5b1:decide (8 < l0_5.length)=false:=decide_eq_false (by omega)
   clear c5
   by_cases c8:(l0_6.length:Int)=(l0_5.length:Int)
   ·rw [if_pos c8] at H
    have c8b0:((l0_6.length:Int) == (l0_5.length:Int))=true:=beq_iff_eq.mpr c8
    have c8b1:((l0_6.length:Int) != (l0_5.length:Int))=false:=bne_eq_false_iff_eq.mpr c8
    have c8b2:(l0_6.length == l0_5.length)=true:=by first|simpa using c8|(simp at c8 ⊢;omega)
    clear c8
    have H':=Aside0.mk H
    clear H
    go_enter Tryd.func47,Tryd.ntmps47
    go_wp2_with (first|((with_reducible refine gate_dst (N:=1) rfl ?_);refine box_event ?hg (N:=1) ?hd (cs:=#[.string a0_0,.int .i64 a0_1,.int .i64 a0_2,.int .i64 a0_3,.int .i64 a0_4,.slice A0_5 l0_5.length c0_5,.slice A0_6 l0_6.length c0_6]) (t:=53) ?hr ?_;(case hd=>rfl);(case hg=>rfl);(case hr=>first|(go_simp;done)|(go_simp;rfl));intro gb101 hg w9 hbox hb;have n0_:=Aside0.mk (below_step (by repeat (first|(with_reducible first|exact HB.out|apply below_alloc|apply pw_below_drewN|apply below_drew1)|exact HB.out)) hb);have n1_:=Aside0.mk (hbox);have n2_:=Aside0.mk ((by rw [hg];exact (below_size (by repeat (first|(with_reducible first|exact HB.out|apply below_alloc|apply pw_below_drewN|apply below_drew1)|exact HB.out))):w.heap.size≤gb101));have n3_:=Aside0.mk ((by rw [hg];exact (below_size (by repeat (first|(with_reducible first|exact HB.out|apply below_alloc|apply pw_below_drewN|apply below_drew1)|exact HB.out))):w.heap.size≤gb101));clear HB;have HB:=n0_;have BK101:=n1_;have GW101:=n2_;have GE101:=n3_;clear n0_ n1_ n2_ n3_;clear hb hbox hg;have hcz10_0:w9.cell? ⟨gb101,0,none⟩=some (.string a0_0):=(blk_cell BK101.out 0).trans rfl;have hcz10_1:w9.cell? ⟨gb101,1,none⟩=some (.int .i64 a0_1):=(blk_cell BK101.out 1).trans rfl;have hcz10_2:w9.cell? ⟨gb101,2,none⟩=some (.int .i64 a0_2):=(blk_cell BK101.out 2).trans rfl;have hcz10_3:w9.cell? ⟨gb101,3,none⟩=some (.int .i64 a0_3):=(blk_cell BK101.out 3).trans rfl;have hcz10_4:w9.cell? ⟨gb101,4,none⟩=some (.int .i64 a0_4):=(blk_cell BK101.out 4).trans rfl;have hcz10_5:w9.cell? ⟨gb101,5,none⟩=some (.slice A0_5 l0_5.length c0_5):=(blk_cell BK101.out 5).trans rfl;have hcz10_6:w9.cell? ⟨gb101,6,none⟩=some (.slice A0_6 l0_6.length c0_6):=(blk_cell BK101.out 6).trans rfl;have hfz10_0:=blk_frozen BK101.out 0;have hfz10_1:=blk_frozen BK101.out 1;have hfz10_2:=blk_frozen BK101.out 2;have hfz10_3:=blk_frozen BK101.out 3;have hfz10_4:=blk_frozen BK101.out 4;have hfz10_5:=blk_frozen BK101.out 5;have hfz10_6:=blk_frozen BK101.out 6))
    repeat (go_quiet (first|((with_reducible refine gate_dst (N:=1) rfl ?_);refine box_event ?hg (N:=1) ?hd (cs:=#[.string a0_0,.int .i64 a0_1,.int .i64 a0_2,.int .i64 a0_3,.int .i64 a0_4,.slice A0_5 l0_5.length c0_5,.slice A0_6 l0_6.length c0_6]) (t:=53) ?hr ?_;(case hd=>rfl);(case hg=>rfl);(case hr=>first|(go_simp;done)|(go_simp;rfl));intro gb101 hg w9 hbox hb;have n0_:=Aside0.mk (below_step (by repeat (first|(with_reducible first|exact HB.out|apply below_alloc|apply pw_below_drewN|apply below_drew1)|exact HB.out)) hb);have n1_:=Aside0.mk (hbox);have n2_:=Aside0.mk ((by rw [hg];exact (below_size (by repeat (first|(with_reducible first|exact HB.out|apply below_alloc|apply pw_below_drewN|apply below_drew1)|exact HB.out))):w.heap.size≤gb101));have n3_:=Aside0.mk ((by rw [hg];exact (below_size (by repeat (first|(with_reducible first|exact HB.out|apply below_alloc|apply pw_below_drewN|apply below_drew1)|exact HB.out))):w.heap.size≤gb101));clear HB;have HB:=n0_;have BK101:=n1_;have GW101:=n2_;have GE101:=n3_;clear n0_ n1_ n2_ n3_;clear hb hbox hg;have hcz10_0:w9.cell? ⟨gb101,0,none⟩=some (.string a0_0):=(blk_cell BK101.out 0).trans rfl;have hcz10_1:w9.cell? ⟨gb101,1,none⟩=some (.int .i64 a0_1):=(blk_cell BK101.out 1).trans rfl;have hcz10_2:w9.cell? ⟨gb101,2,none⟩=some (.int .i64 a0_2):=(blk_cell BK101.out 2).trans rfl;have hcz10_3:w9.cell? ⟨gb101,3,none⟩=some (.int .i64 a0_3):=(blk_cell BK101.out 3).trans rfl;have hcz10_4:w9.cell? ⟨gb101,4,none⟩=some (.int .i64 a0_4):=(blk_cell BK101.out 4).trans rfl;have hcz10_5:w9.cell? ⟨gb101,5,none⟩=some (.slice A0_5 l0_5.length c0_5):=(blk_cell BK101.out 5).trans rfl;have hcz10_6:w9.cell? ⟨gb101,6,none⟩=some (.slice A0_6 l0_6.length c0_6):=(blk_cell BK101.out 6).trans rfl;have hfz10_0:=blk_frozen BK101.out 0;have hfz10_1:=blk_frozen BK101.out 1;have hfz10_2:=blk_frozen BK101.out 2;have hfz10_3:=blk_frozen BK101.out 3;have hfz10_4:=blk_frozen BK101.out 4;have hfz10_5:=blk_frozen BK101.out 5;have hfz10_6:=blk_frozen BK101.out 6));try go_wp2_with (first|((with_reducible refine gate_dst (N:=1) rfl ?_);refine box_event ?hg (N:=1) ?hd (cs:=#[.string a0_0,.int .i64 a0_1,.int .i64 a0_2,.int .i64 a0_3,.int .i64 a0_4,.slice A0_5 l0_5.length c0_5,.slice A0_6 l0_6.length c0_6]) (t:=53) ?hr ?_;(case hd=>rfl);(case hg=>rfl);(case hr=>first|(go_simp;done)|(go_simp;rfl));intro gb101 hg w9 hbox hb;have n0_:=Aside0.mk (below_step (by repeat (first|(with_reducible first|exact HB.out|apply below_alloc|apply pw_below_drewN|apply below_drew1)|exact HB.out)) hb);have n1_:=Aside0.mk (hbox);have n2_:=Aside0.mk ((by rw [hg];exact (below_size (by repeat (first|(with_reducible first|exact HB.out|apply below_alloc|apply pw_below_drewN|apply below_drew1)|exact HB.out))):w.heap.size≤gb101));have n3_:=Aside0.mk ((by rw [hg];exact (below_size (by repeat (first|(with_reducible first|exact HB.out|apply below_alloc|apply pw_below_drewN|apply below_drew1)|exact HB.out))):w.heap.size≤gb101));clear HB;have HB:=n0_;have BK101:=n1_;have GW101:=n2_;have GE101:=n3_;clear n0_ n1_ n2_ n3_;clear hb hbox hg;have hcz10_0:w9.cell? ⟨gb101,0,none⟩=some (.string a0_0):=(blk_cell BK101.out 0).trans rfl;have hcz10_1:w9.cell? ⟨gb101,1,none⟩=some (.int .i64 a0_1):=(blk_cell BK101.out 1).trans rfl;have hcz10_2:w9.cell? ⟨gb101,2,none⟩=some (.int .i64 a0_2):=(blk_cell BK101.out 2).trans rfl;have hcz10_3:w9.cell? ⟨gb101,3,none⟩=some (.int .i64 a0_3):=(blk_cell BK101.out 3).trans rfl;have hcz10_4:w9.cell? ⟨gb101,4,none⟩=some (.int .i64 a0_4):=(blk_cell BK101.out 4).trans rfl;have hcz10_5:w9.cell? ⟨gb101,5,none⟩=some (.slice A0_5 l0_5.length c0_5):=(blk_cell BK101.out 5).trans rfl;have hcz10_6:w9.cell? ⟨gb101,6,none⟩=some (.slice A0_6 l0_6.length c0_6):=(blk_cell BK101.out 6).trans rfl;have hfz10_0:=blk_frozen BK101.out 0;have hfz10_1:=blk_frozen BK101.out 1;have hfz10_2:=blk_frozen BK101.out 2;have hfz10_3:=blk_frozen BK101.out 3;have hfz10_4:=blk_frozen BK101.out 4;have hfz10_5:=blk_frozen BK101.out 5;have hfz10_6:=blk_frozen BK101.out 6)))
    go_loopg [3] k (fun kq v3 w'=>∃ (x3_1:Int),v3=.int .i64 x3_1∧Aside0 (sawmillref19_checkLengths.l0 kq x3_1 a0_0 a0_1 a0_2 a0_3 a0_4 l0_5 l0_6=some r)∧Aside0 (kq≤k)∧Aside0 (w'.heap[gb101]?=some (.cells #[.string a0_0,.int .i64 a0_1,.int .i64 a0_2,.int .i64 a0_3,.int .i64 a0_4,(.slice A0_5 l0_5.length c0_5),(.slice A0_6 l0_6.length c0_6)] 53 (0,0)))∧Aside0 (Below w.heap.size w w'))
    case atStart=>exact ⟨(0),(by first|rfl|(simp;done)|(simp [*];done)),H',⟨Nat.le_refl _⟩,⟨by (with_reducible repeat (first|refine blk_drewN ?_ _|refine blk_drew ?_|refine blk_alloc ?_ _));exact BK101.out⟩,⟨by repeat (first|(with_reducible first|exact HB.out|apply below_alloc|apply pw_below_drewN|apply below_drew1|refine below_set ?_ GE101.out)|exact HB.out)⟩⟩
    case round =>
     clear H'
     try clear c2
     try clear c2b0
     try clear c2b1
     try clear c2b2
     try clear p2
     try clear c4
     try clear c5
     try clear c5b0
     try clear c5b1
     try clear c8
     try clear c8b0
     try clear c8b1
     try clear c8b2
     try clear hcz10_0
     try clear hcz10_1
     try clear hcz10_2
     try clear hcz10_3
     try clear hcz10_4
     try clear hcz10_5
     try clear hcz10_6
     try clear hcz4_0
     try clear hcz4_1
     try clear hcz4_2
     try clear hcz4_3
     try clear hcz4_4
     try clear hcz4_5
     try clear hcz4_6
     try clear hcz7_0
     try clear hcz7_1
     try clear hcz7_2
     try clear hcz7_3
     try clear hcz7_4
     try clear hcz7_5
     try clear hcz7_6
     try clear hfz10_0
     try clear hfz10_1
     try clear hfz10_2
     try clear hfz10_3
     try clear hfz10_4
     try clear hfz10_5
     try clear hfz10_6
     try clear hfz4_0
     try clear hfz4_1
     try clear hfz4_2
     try clear hfz4_3
     try clear hfz4_4
     try clear hfz4_5
     try clear hfz4_6
     try clear hfz7_0
     try clear hfz7_1
     try clear hfz7_2
     try clear hfz7_3
     try clear hfz7_4
     try clear hfz7_5
     try clear hfz7_6
     obtain ⟨x3_1,rfl,HA,HK1,BK101,HB⟩:=hrel
     cases gk with
     | zero=>exact absurd HA.out (by simp [sawmillref19_checkLengths.l0])
     | succ k1 =>
      have H:=HA.out
      clear HA
      simp only [sawmillref19_checkLengths.l0] at H
      by_cases c11:x3_1 < (l0_5.length:Int)
      ·rw [if_pos c11] at H
       have c11b0:decide (x3_1 < (l0_5.length:Int))=true:=decide_eq_true c11
       clear c11
       have HC12:=Aside0.mk H
       clear H
       have hcz13_0:wr.cell? ⟨gb101,0,none⟩=some (.string a0_0):=(blk_cell BK101.out 0).trans rfl
       have hcz13_1:wr.cell? ⟨gb101,1,none⟩=some (.int .i64 a0_1):=(blk_cell BK101.out 1).trans rfl
       have hcz13_2:wr.cell? ⟨gb101,2,none⟩=some (.int .i64 a0_2):=(blk_cell BK101.out 2).trans rfl
       have hcz13_3:wr.cell? ⟨gb101,3,none⟩=some (.int .i64 a0_3):=(blk_cell BK101.out 3).trans rfl
       have hcz13_4:wr.cell? ⟨gb101,4,none⟩=some (.int .i64 a0_4):=(blk_cell BK101.out 4).trans rfl
       have hcz13_5:wr.cell? ⟨gb101,5,none⟩=some (.slice A0_5 l0_5.length c0_5):=(blk_cell BK101.out 5).trans rfl
       have hcz13_6:wr.cell? ⟨gb101,6,none⟩=some (.slice A0_6 l0_6.length c0_6):=(blk_cell BK101.out 6).trans rfl
       have hfz13_0:=blk_frozen BK101.out 0
       have hfz13_1:=blk_frozen BK101.out 1
       have hfz13_2:=blk_frozen BK101.out 2
       have hfz13_3:=blk_frozen BK101.out 3
       have hfz13_4:=blk_frozen BK101.out 4
       have hfz13_5:=blk_frozen BK101.out 5
       have hfz13_6:=blk_frozen BK101.out 6
       go_upto_region 10 with (fail)
       repeat (go_quiet (fail);go_upto_region 10 with (fail))
       go_cut [40] (fun v40 wc=>∃ (kq:Nat) (x40_11:Bool),v40=.bool x40_11∧Aside0 (sawmillref19_checkLengths.j1 kq x3_1 x40_11 a0_0 a0_1 a0_2 a0_3 a0_4 l0_5 l0_6=some r)∧Aside0 (kq≤k1)∧Aside0 (wc.heap[gb101]?=some (.cells #[.string a0_0,.int .i64 a0_1,.int .i64 a0_2,.int .i64 a0_3,.int .i64 a0_4,(.slice A0_5 l0_5.length c0_5),(.slice A0_6 l0_6.length c0_6)] 53 (0,0)))∧Aside0 (Below w.heap.size w wc))
       case first =>
        have H:=HC12.out
        clear HC12
        by_cases c14:0≤x3_1
        ·rw [if_pos c14] at H
         have c14b0:decide (0≤x3_1)=true:=decide_eq_true c14
         clear c14
         (first|rw [c14b0]|(simp only [i64_w,i32_w];rw [c14b0])|skip)
         by_cases c15:(rd l0_5 x3_1) < 100
         ·rw [if_pos c15] at H
          have c15b0:decide ((rd l0_5 x3_1) < 100)=true:=decide_eq_true c15
          clear c15
          have H':=Aside0.mk H
          clear H
          have hcz16_0:wr.cell? ⟨gb101,0,none⟩=some (.string a0_0):=(blk_cell BK101.out 0).trans rfl
          have hcz16_1:wr.cell? ⟨gb101,1,none⟩=some (.int .i64 a0_1):=(blk_cell BK101.out 1).trans rfl
          have hcz16_2:wr.cell? ⟨gb101,2,none⟩=some (.int .i64 a0_2):=(blk_cell BK101.out 2).trans rfl
          have hcz16_3:wr.cell? ⟨gb101,3,none⟩=some (.int .i64 a0_3):=(blk_cell BK101.out 3).trans rfl
          have hcz16_4:wr.cell? ⟨gb101,4,none⟩=some (.int .i64 a0_4):=(blk_cell BK101.out 4).trans rfl
          have hcz16_5:wr.cell? ⟨gb101,5,none⟩=some (.slice A0_5 l0_5.length c0_5):=(blk_cell BK101.out 5).trans rfl
          have hcz16_6:wr.cell? ⟨gb101,6,none⟩=some (.slice A0_6 l0_6.length c0_6):=(blk_cell BK101.out 6).trans rfl
          have hfz16_0:=blk_frozen BK101.out 0
          have hfz16_1:=blk_frozen BK101.out 1
          have hfz16_2:=blk_frozen BK101.out 2
          have hfz16_3:=blk_frozen BK101.out 3
          have hfz16_4:=blk_frozen BK101.out 4
          have hfz16_5:=blk_frozen BK101.out 5
          have hfz16_6:=blk_frozen BK101.out 6
          have p102:0≤(x3_1:Int):=of_decide_eq_true (by first|(with_reducible assumption)|assumption)
          have q102:x3_1 < (l0_5.length:Int):=of_decide_eq_true (by first|(with_reducible assumption)|assumption)
          obtain ⟨ad102,e102,hx102_0⟩:=Kd.at_int HR0_5.out x3_1 p102 q102
          cases e102
          replace hx102_0:=(HB.out.cell (World.block_lt_of_cell? w _ hx102_0)).trans hx102_0
          replace p102:=eq_true p102
          replace q102:=eq_true q102
          go_wp2
          repeat (go_quiet (fail);try go_wp2)
          go_meet
          case rel=>exact ⟨_,(true),(by first|rfl|(simp;done)|(simp [*];done)),H',⟨by have:=HK1.out;first|omega|exact Nat.le_refl _⟩,⟨by (with_reducible repeat (first|refine blk_drewN ?_ _|refine blk_drew ?_|refine blk_alloc ?_ _));exact BK101.out⟩,⟨by repeat (first|(with_reducible first|exact HB.out|apply below_alloc|apply pw_below_drewN|apply below_drew1|refine below_set ?_ GE101.out)|exact HB.out)⟩⟩
         ·rw [if_neg c15] at H
          have c15b0:decide ((rd l0_5 x3_1) < 100)=false:=decide_eq_false c15
          clear c15
          have H':=Aside0.mk H
          clear H
          have hcz17_0:wr.cell? ⟨gb101,0,none⟩=some (.string a0_0):=(blk_cell BK101.out 0).trans rfl
          have hcz17_1:wr.cell? ⟨gb101,1,none⟩=some (.int .i64 a0_1):=(blk_cell BK101.out 1).trans rfl
          have hcz17_2:wr.cell? ⟨gb101,2,none⟩=some (.int .i64 a0_2):=(blk_cell BK101.out 2).trans rfl
          have hcz17_3:wr.cell? ⟨gb101,3,none⟩=some (.int .i64 a0_3):=(blk_cell BK101.out 3).trans rfl
          have hcz17_4:wr.cell? ⟨gb101,4,none⟩=some (.int .i64 a0_4):=(blk_cell BK101.out 4).trans rfl
          have hcz17_5:wr.cell? ⟨gb101,5,none⟩=some (.slice A0_5 l0_5.length c0_5):=(blk_cell BK101.out 5).trans rfl
          have hcz17_6:wr.cell? ⟨gb101,6,none⟩=some (.slice A0_6 l0_6.length c0_6):=(blk_cell BK101.out 6).trans rfl
          have hfz17_0:=blk_frozen BK101.out 0
          have hfz17_1:=blk_frozen BK101.out 1
          have hfz17_2:=blk_frozen BK101.out 2
          have hfz17_3:=blk_frozen BK101.out 3
          have hfz17_4:=blk_frozen BK101.out 4
          have hfz17_5:=blk_frozen BK101.out 5
          have hfz17_6:=blk_frozen BK101.out 6
          have p102:0≤(x3_1:Int):=of_decide_eq_true (by first|(with_reducible assumption)|assumption)
          have q102:x3_1 < (l0_5.length:Int):=of_decide_eq_true (by first|(with_reducible assumption)|assumption)
          obtain ⟨ad102,e102,hx102_0⟩:=Kd.at_int HR0_5.out x3_1 p102 q102
          cases e102
          replace hx102_0:=(HB.out.cell (World.block_lt_of_cell? w _ hx102_0)).trans hx102_0
          replace p102:=eq_true p102
          replace q102:=eq_true q102
          have p103:0≤(x3_1:Int):=of_decide_eq_true (by first|(with_reducible assumption)|assumption)
          have q103:x3_1 < (l0_5.length:Int):=of_decide_eq_true (by first|(with_reducible assumption)|assumption)
          obtain ⟨ad103,e103,hx103_0⟩:=Kd.at_int HR0_5.out x3_1 p103 q103
          obtain rfl:ad102=ad103:=(by injection e103)
          replace hx103_0:=(HB.out.cell (World.block_lt_of_cell? w _ hx103_0)).trans hx103_0
          replace p103:=eq_true p103
          replace q103:=eq_true q103
          go_wp2
          repeat (go_quiet (fail);try go_wp2)
          go_meet
          case rel=>exact ⟨_,(decide ((rd l0_5 x3_1) > 20000)),(by first|rfl|(simp;done)|(simp [*];done)),H',⟨by have:=HK1.out;first|omega|exact Nat.le_refl _⟩,⟨by (with_reducible repeat (first|refine blk_drewN ?_ _|refine blk_drew ?_|refine blk_alloc ?_ _));exact BK101.out⟩,⟨by repeat (first|(with_reducible first|exact HB.out|apply below_alloc|apply pw_below_drewN|apply below_drew1|refine below_set ?_ GE101.out)|exact HB.out)⟩⟩
        ·rw [if_neg c14] at H
         exact absurd H (by simp)
       case rest =>
        clear HC12
        try clear c1
        try clear p1
        try clear q1
        try clear hx1
        try clear c2
        try clear c2b0
        try clear c2b1
        try clear c2b2
        try clear p2
        try clear c4
        try clear c5
        try clear c5b0
        try clear c5b1
        try clear c8
        try clear c8b0
        try clear c8b1
        try clear c8b2
        try clear p10
        try clear q10
        try clear hx10
        try clear c11
        try clear c11b0
        try clear c14
        try clear c14b0
        try clear c15
        try clear c15b0
        try clear hcz10_0
        try clear hcz10_1
        try clear hcz10_2
        try clear hcz10_3
        try clear hcz10_4
        try clear hcz10_5
        try clear hcz10_6
        try clear hcz13_0
        try clear hcz13_1
        try clear hcz13_2
        try clear hcz13_3
        try clear hcz13_4
        try clear hcz13_5
        try clear hcz13_6
        try clear hcz16_0
        try clear hcz16_1
        try clear hcz16_2
        try clear hcz16_3
        try clear hcz16_4
        try clear hcz16_5
        try clear hcz16_6
        try clear hcz17_0
        try clear hcz17_1
        try clear hcz17_2
        try clear hcz17_3
        try clear hcz17_4
        try clear hcz17_5
        try clear hcz17_6
        try clear hcz4_0
        try clear hcz4_1
        try clear hcz4_2
        try clear hcz4_3
        try clear hcz4_4
        try clear hcz4_5
        try clear hcz4_6
        try clear hcz7_0
        try clear hcz7_1
        try clear hcz7_2
        try clear hcz7_3
        try clear hcz7_4
        try clear hcz7_5
        try clear hcz7_6
        try clear hfz10_0
        try clear hfz10_1
        try clear hfz10_2
        try clear hfz10_3
        try clear hfz10_4
        try clear hfz10_5
        try clear hfz10_6
        try clear hfz13_0
        try clear hfz13_1
        try clear hfz13_2
        try clear hfz13_3
        try clear hfz13_4
        try clear hfz13_5
        try clear hfz13_6
        try clear hfz16_0
        try clear hfz16_1
        try clear hfz16_2
        try clear hfz16_3
        try clear hfz16_4
        try clear hfz16_5
        try clear hfz16_6
        try clear hfz17_0
        try clear hfz17_1
        try clear hfz17_2
        try clear hfz17_3
        try clear hfz17_4
        try clear hfz17_5
        try clear hfz17_6
        try clear hfz4_0
        try clear hfz4_1
        try clear hfz4_2
        try clear hfz4_3
        try clear hfz4_4
        try clear hfz4_5
        try clear hfz4_6
        try clear hfz7_0
        try clear hfz7_1
        try clear hfz7_2
        try clear hfz7_3
        try clear hfz7_4
        try clear hfz7_5
        try clear hfz7_6
        try clear hx102_0
        try clear hx103_0
        try clear p102
        try clear p103
        try clear p2
        try clear q102
        try clear q103
        obtain ⟨kq,x40_11,rfl,HA,HJ11,BK101,HB⟩:=hcut
        cases kq with
        | zero=>exact absurd HA.out (by simp [sawmillref19_checkLengths.j1])
        | succ kj11 =>
         have H:=HA.out
         clear HA
         simp only [sawmillref19_checkLengths.j1] at H
         by_cases c18:x40_11=true
         ·subst c18
          have H1:(some 9)=some r:=by rw [if_pos rfl] at H;exact H
          clear H
          have H:=H1
          clear H1
          obtain rfl:=Option.some.inj H
          go_wp2
          repeat (go_quiet (fail);try go_wp2)
          go_ret
          exact ⟨by first|rfl|(simp [errW_none,errW_some]<;>rfl)|(simp [*,errW_none,errW_some]<;>rfl),by repeat (first|(with_reducible first|exact HB.out|apply below_alloc|apply pw_below_drewN|apply below_drew1|refine below_set ?_ GE101.out)|exact HB.out)⟩
         ·replace c18:=Bool.eq_false_iff.mpr c18
          subst c18
          have H1:(if x3_1 > 0 then (if 0≤x3_1 then (if x3_1 < (l0_5.length:Int) then (if 0≤(wrap64 (x3_1 - 1)) then (if (wrap64 (x3_1 - 1)) < (l0_5.length:Int) then (if (rd l0_5 x3_1)≤(rd l0_5 (wrap64 (x3_1 - 1))) then (some 11) else (sawmillref19_checkLengths.l0 kj11 (wrap64 (x3_1+1)) a0_0 a0_1 a0_2 a0_3 a0_4 l0_5 l0_6)) else (none)) else (none)) else (none)) else (none)) else (sawmillref19_checkLengths.l0 kj11 (wrap64 (x3_1+1)) a0_0 a0_1 a0_2 a0_3 a0_4 l0_5 l0_6))=some r:=by rw [if_neg (show ¬ (false=true) by decide)] at H;exact H
          clear H
          have H:=H1
          clear H1
          by_cases c19:x3_1 > 0
          ·rw [if_pos c19] at H
           have c19b0:decide (0 < x3_1)=true:=decide_eq_true c19
           clear c19
           by_cases c20:0≤x3_1
           ·rw [if_pos c20] at H
            have c20b0:decide (0≤x3_1)=true:=decide_eq_true c20
            clear c20
            by_cases c21:x3_1 < (l0_5.length:Int)
            ·rw [if_pos c21] at H
             have c21b0:decide (x3_1 < (l0_5.length:Int))=true:=decide_eq_true c21
             clear c21
             obtain ⟨ji22,hji22⟩:∃ j_:Int,(wrap64 (x3_1 - 1))=j_:=⟨_,rfl⟩
             replace H:(if 0≤(ji22) then (if (ji22) < (l0_5.length:Int) then (if (rd l0_5 x3_1)≤(rd l0_5 (ji22)) then (some 11) else (sawmillref19_checkLengths.l0 kj11 (wrap64 (x3_1+1)) a0_0 a0_1 a0_2 a0_3 a0_4 l0_5 l0_6)) else (none)) else (none))=some r:=by first|(rw [hji22] at H;exact H)|(simp only [hji22] at H ⊢;exact H)
             have hji22w:(IntKind.i64.wrap (x3_1 - 1))=ji22:=(i64_w _).trans hji22
             by_cases c23:0≤(ji22)
             ·rw [if_pos c23] at H
              have c23b0:decide (0≤(ji22))=true:=decide_eq_true c23
              clear c23
              by_cases c24:(ji22) < (l0_5.length:Int)
              ·rw [if_pos c24] at H
               have c24b0:decide ((ji22) < (l0_5.length:Int))=true:=decide_eq_true c24
               clear c24
               by_cases c25:(rd l0_5 x3_1)≤(rd l0_5 (ji22))
               ·rw [if_pos c25] at H
                have c25b0:decide ((rd l0_5 x3_1)≤(rd l0_5 (ji22)))=true:=decide_eq_true c25
                clear c25
                obtain rfl:=Option.some.inj H
                have hcz26_0:wc.cell? ⟨gb101,0,none⟩=some (.string a0_0):=(blk_cell BK101.out 0).trans rfl
                have hcz26_1:wc.cell? ⟨gb101,1,none⟩=some (.int .i64 a0_1):=(blk_cell BK101.out 1).trans rfl
                have hcz26_2:wc.cell? ⟨gb101,2,none⟩=some (.int .i64 a0_2):=(blk_cell BK101.out 2).trans rfl
                have hcz26_3:wc.cell? ⟨gb101,3,none⟩=some (.int .i64 a0_3):=(blk_cell BK101.out 3).trans rfl
                have hcz26_4:wc.cell? ⟨gb101,4,none⟩=some (.int .i64 a0_4):=(blk_cell BK101.out 4).trans rfl
                have hcz26_5:wc.cell? ⟨gb101,5,none⟩=some (.slice A0_5 l0_5.length c0_5):=(blk_cell BK101.out 5).trans rfl
                have hcz26_6:wc.cell? ⟨gb101,6,none⟩=some (.slice A0_6 l0_6.length c0_6):=(blk_cell BK101.out 6).trans rfl
                have hfz26_0:=blk_frozen BK101.out 0
                have hfz26_1:=blk_frozen BK101.out 1
                have hfz26_2:=blk_frozen BK101.out 2
                have hfz26_3:=blk_frozen BK101.out 3
                have hfz26_4:=blk_frozen BK101.out 4
                have hfz26_5:=blk_frozen BK101.out 5
                have hfz26_6:=blk_frozen BK101.out 6
                have p104:0≤(x3_1:Int):=of_decide_eq_true (by first|(with_reducible assumption)|assumption)
                have q104:x3_1 < (l0_5.length:Int):=of_decide_eq_true (by first|(with_reducible assumption)|assumption)
                obtain ⟨ad104,e104,hx104_0⟩:=Kd.at_int HR0_5.out x3_1 p104 q104
                cases e104
                replace hx104_0:=(HB.out.cell (World.block_lt_of_cell? w _ hx104_0)).trans hx104_0
                replace p104:=eq_true p104
                replace q104:=eq_true q104
                have p105:0≤((ji22):Int):=of_decide_eq_true (by first|(with_reducible assumption)|assumption)
                have q105:(ji22) < (l0_5.length:Int):=of_decide_eq_true (by first|(with_reducible assumption)|assumption)
                obtain ⟨ad105,e105,hx105_0⟩:=Kd.at_int HR0_5.out (ji22) p105 q105
                obtain rfl:ad104=ad105:=(by injection e105)
                replace hx105_0:=(HB.out.cell (World.block_lt_of_cell? w _ hx105_0)).trans hx105_0
                replace p105:=eq_true p105
                replace q105:=eq_true q105
                go_wp2
                repeat (go_quiet (fail);try go_wp2)
                go_ret
                exact ⟨by first|rfl|(simp [errW_none,errW_some]<;>rfl)|(simp only [← hji22];first|rfl|(simp [errW_none,errW_some]<;>rfl))|(simp [*,errW_none,errW_some]<;>rfl),by repeat (first|(with_reducible first|exact HB.out|apply below_alloc|apply pw_below_drewN|apply below_drew1|refine below_set ?_ GE101.out)|exact HB.out)⟩
               ·rw [if_neg c25] at H
                have c25b0:decide ((rd l0_5 x3_1)≤(rd l0_5 (ji22)))=false:=decide_eq_false c25
                clear c25
                have H':=Aside0.mk H
                clear H
                have hcz27_0:wc.cell? ⟨gb101,0,none⟩=some (.string a0_0):=(blk_cell BK101.out 0).trans rfl
                have hcz27_1:wc.cell? ⟨gb101,1,none⟩=some (.int .i64 a0_1):=(blk_cell BK101.out 1).trans rfl
                have hcz27_2:wc.cell? ⟨gb101,2,none⟩=some (.int .i64 a0_2):=(blk_cell BK101.out 2).trans rfl
                have hcz27_3:wc.cell? ⟨gb101,3,none⟩=some (.int .i64 a0_3):=(blk_cell BK101.out 3).trans rfl
                have hcz27_4:wc.cell? ⟨gb101,4,none⟩=some (.int .i64 a0_4):=(blk_cell BK101.out 4).trans rfl
                have hcz27_5:wc.cell? ⟨gb101,5,none⟩=some (.slice A0_5 l0_5.length c0_5):=(blk_cell BK101.out 5).trans rfl
                have hcz27_6:wc.cell? ⟨gb101,6,none⟩=some (.slice A0_6 l0_6.length c0_6):=(blk_cell BK101.out 6).trans rfl
                have hfz27_0:=blk_frozen BK101.out 0
                have hfz27_1:=blk_frozen BK101.out 1
                have hfz27_2:=blk_frozen BK101.out 2
                have hfz27_3:=blk_frozen BK101.out 3
                have hfz27_4:=blk_frozen BK101.out 4
                have hfz27_5:=blk_frozen BK101.out 5
                have hfz27_6:=blk_frozen BK101.out 6
                have p104:0≤(x3_1:Int):=of_decide_eq_true (by first|(with_reducible assumption)|assumption)
                have q104:x3_1 < (l0_5.length:Int):=of_decide_eq_true (by first|(with_reducible assumption)|assumption)
                obtain ⟨ad104,e104,hx104_0⟩:=Kd.at_int HR0_5.out x3_1 p104 q104
                cases e104
                replace hx104_0:=(HB.out.cell (World.block_lt_of_cell? w _ hx104_0)).trans hx104_0
                replace p104:=eq_true p104
                replace q104:=eq_true q104
                have p105:0≤((ji22):Int):=of_decide_eq_true (by first|(with_reducible assumption)|assumption)
                have q105:(ji22) < (l0_5.length:Int):=of_decide_eq_true (by first|(with_reducible assumption)|assumption)
                obtain ⟨ad105,e105,hx105_0⟩:=Kd.at_int HR0_5.out (ji22) p105 q105
                obtain rfl:ad104=ad105:=(by injection e105)
                replace hx105_0:=(HB.out.cell (World.block_lt_of_cell? w _ hx105_0)).trans hx105_0
                replace p105:=eq_true p105
                replace q105:=eq_true q105
                go_wp2
                repeat (go_quiet (fail);try go_wp2)
                go_roundg kj11
                case measure=>have:=HK1.out;have:=HJ11.out;omega
                case rel=>exact ⟨(wrap64 (x3_1+1)),(by first|rfl|(simp;done)|(simp [*];done)),H',⟨by have:=HK1.out;have:=HJ11.out;omega⟩,⟨by (with_reducible repeat (first|refine blk_drewN ?_ _|refine blk_drew ?_|refine blk_alloc ?_ _));exact BK101.out⟩,⟨by repeat (first|(with_reducible first|exact HB.out|apply below_alloc|apply pw_below_drewN|apply below_drew1|refine below_set ?_ GE101.out)|exact HB.out)⟩⟩
              ·rw [if_neg c24] at H
               exact absurd H (by simp)
             ·rw [if_neg c23] at H
              exact absurd H (by simp)
            ·rw [if_neg c21] at H
             exact absurd H (by simp)
           ·rw [if_neg c20] at H
            exact absurd H (by simp)
          ·rw [if_neg c19] at H
           have c19b0:decide (0 < x3_1)=false:=decide_eq_false c19
           clear c19
           have H':=Aside0.mk H
           clear H
           go_wp2
           repeat (go_quiet (fail);try go_wp2)
           go_roundg kj11
           case measure=>have:=HK1.out;have:=HJ11.out;omega
           case rel=>exact ⟨(wrap64 (x3_1+1)),(by first|rfl|(simp;done)|(simp [*];done)),H',⟨by have:=HK1.out;have:=HJ11.out;omega⟩,⟨by (with_reducible repeat (first|refine blk_drewN ?_ _|refine blk_drew ?_|refine blk_alloc ?_ _));exact BK101.out⟩,⟨by repeat (first|(with_reducible first|exact HB.out|apply below_alloc|apply pw_below_drewN|apply below_drew1|refine below_set ?_ GE101.out)|exact HB.out)⟩⟩
      ·rw [if_neg c11] at H
       have c11b0:decide (x3_1 < (l0_5.length:Int))=false:=decide_eq_false c11
       clear c11
       have H':=Aside0.mk H
       clear H
       have hcz28_0:wr.cell? ⟨gb101,0,none⟩=some (.string a0_0):=(blk_cell BK101.out 0).trans rfl
       have hcz28_1:wr.cell? ⟨gb101,1,none⟩=some (.int .i64 a0_1):=(blk_cell BK101.out 1).trans rfl
       have hcz28_2:wr.cell? ⟨gb101,2,none⟩=some (.int .i64 a0_2):=(blk_cell BK101.out 2).trans rfl
       have hcz28_3:wr.cell? ⟨gb101,3,none⟩=some (.int .i64 a0_3):=(blk_cell BK101.out 3).trans rfl
       have hcz28_4:wr.cell? ⟨gb101,4,none⟩=some (.int .i64 a0_4):=(blk_cell BK101.out 4).trans rfl
       have hcz28_5:wr.cell? ⟨gb101,5,none⟩=some (.slice A0_5 l0_5.length c0_5):=(blk_cell BK101.out 5).trans rfl
       have hcz28_6:wr.cell? ⟨gb101,6,none⟩=some (.slice A0_6 l0_6.length c0_6):=(blk_cell BK101.out 6).trans rfl
       have hfz28_0:=blk_frozen BK101.out 0
       have hfz28_1:=blk_frozen BK101.out 1
       have hfz28_2:=blk_frozen BK101.out 2
       have hfz28_3:=blk_frozen BK101.out 3
       have hfz28_4:=blk_frozen BK101.out 4
       have hfz28_5:=blk_frozen BK101.out 5
       have hfz28_6:=blk_frozen BK101.out 6
       go_wp2
       repeat (go_quiet (fail);try go_wp2)
       go_loopg [4] k1 (fun kq v4 w'=>∃ (x4_2:Int),v4=.int .i64 x4_2∧Aside0 (sawmillref19_checkLengths.l1 kq x4_2 a0_0 a0_1 a0_2 a0_3 a0_4 l0_5 l0_6=some r)∧Aside0 (kq≤k1)∧Aside0 (w'.heap[gb101]?=some (.cells #[.string a0_0,.int .i64 a0_1,.int .i64 a0_2,.int .i64 a0_3,.int .i64 a0_4,(.slice A0_5 l0_5.length c0_5),(.slice A0_6 l0_6.length c0_6)] 53 (0,0)))∧Aside0 (Below w.heap.size w w'))
       case atStart=>exact ⟨(0),(by first|rfl|(simp;done)|(simp [*];done)),H',⟨Nat.le_refl _⟩,⟨by (with_reducible repeat (first|refine blk_drewN ?_ _|refine blk_drew ?_|refine blk_alloc ?_ _));exact BK101.out⟩,⟨by repeat (first|(with_reducible first|exact HB.out|apply below_alloc|apply pw_below_drewN|apply below_drew1|refine below_set ?_ GE101.out)|exact HB.out)⟩⟩
       case round =>
        clear H'
        try clear c1
        try clear p1
        try clear q1
        try clear hx1
        try clear c2
        try clear c2b0
        try clear c2b1
        try clear c2b2
        try clear p2
        try clear c4
        try clear c5
        try clear c5b0
        try clear c5b1
        try clear p6
        try clear c8
        try clear c8b0
        try clear c8b1
        try clear c8b2
        try clear p10
        try clear q10
        try clear hx10
        try clear c11
        try clear c11b0
        try clear c14
        try clear c14b0
        try clear c15
        try clear c15b0
        try clear c18
        try clear c19
        try clear c19b0
        try clear c20
        try clear c20b0
        try clear c21
        try clear c21b0
        try clear c23
        try clear c23b0
        try clear c24
        try clear c24b0
        try clear c25
        try clear c25b0
        try clear hcz10_0
        try clear hcz10_1
        try clear hcz10_2
        try clear hcz10_3
        try clear hcz10_4
        try clear hcz10_5
        try clear hcz10_6
        try clear hcz13_0
        try clear hcz13_1
        try clear hcz13_2
        try clear hcz13_3
        try clear hcz13_4
        try clear hcz13_5
        try clear hcz13_6
        try clear hcz16_0
        try clear hcz16_1
        try clear hcz16_2
        try clear hcz16_3
        try clear hcz16_4
        try clear hcz16_5
        try clear hcz16_6
        try clear hcz17_0
        try clear hcz17_1
        try clear hcz17_2
        try clear hcz17_3
        try clear hcz17_4
        try clear hcz17_5
        try clear hcz17_6
        try clear hcz26_0
        try clear hcz26_1
        try clear hcz26_2
        try clear hcz26_3
        try clear hcz26_4
        try clear hcz26_5
        try clear hcz26_6
        try clear hcz27_0
        try clear hcz27_1
        try clear hcz27_2
        try clear hcz27_3
        try clear hcz27_4
        try clear hcz27_5
        try clear hcz27_6
        try clear hcz28_0
        try clear hcz28_1
        try clear hcz28_2
        try clear hcz28_3
        try clear hcz28_4
        try clear hcz28_5
        try clear hcz28_6
        try clear hcz4_0
        try clear hcz4_1
        try clear hcz4_2
        try clear hcz4_3
        try clear hcz4_4
        try clear hcz4_5
        try clear hcz4_6
        try clear hcz7_0
        try clear hcz7_1
        try clear hcz7_2
        try clear hcz7_3
        try clear hcz7_4
        try clear hcz7_5
        try clear hcz7_6
        try clear hfz10_0
        try clear hfz10_1
        try clear hfz10_2
        try clear hfz10_3
        try clear hfz10_4
        try clear hfz10_5
        try clear hfz10_6
        try clear hfz13_0
        try clear hfz13_1
        try clear hfz13_2
        try clear hfz13_3
        try clear hfz13_4
        try clear hfz13_5
        try clear hfz13_6
        try clear hfz16_0
        try clear hfz16_1
        try clear hfz16_2
        try clear hfz16_3
        try clear hfz16_4
        try clear hfz16_5
        try clear hfz16_6
        try clear hfz17_0
        try clear hfz17_1
        try clear hfz17_2
        try clear hfz17_3
        try clear hfz17_4
        try clear hfz17_5
        try clear hfz17_6
        try clear hfz26_0
        try clear hfz26_1
        try clear hfz26_2
        try clear hfz26_3
        try clear hfz26_4
        try clear hfz26_5
        try clear hfz26_6
        try clear hfz27_0
        try clear hfz27_1
        try clear hfz27_2
        try clear hfz27_3
        try clear hfz27_4
        try clear hfz27_5
        try clear hfz27_6
        try clear hfz28_0
        try clear hfz28_1
        try clear hfz28_2
        try clear hfz28_3
        try clear hfz28_4
        try clear hfz28_5
        try clear hfz28_6
        try clear hfz4_0
        try clear hfz4_1
        try clear hfz4_2
        try clear hfz4_3
        try clear hfz4_4
        try clear hfz4_5
        try clear hfz4_6
        try clear hfz7_0
        try clear hfz7_1
        try clear hfz7_2
        try clear hfz7_3
        try clear hfz7_4
        try clear hfz7_5
        try clear hfz7_6
        try clear hx102_0
        try clear hx103_0
        try clear hx104_0
        try clear hx105_0
        try clear p1
        try clear p10
        try clear p102
        try clear p103
        try clear p104
        try clear p105
        try clear p2
        try clear q1
        try clear q10
        try clear q102
        try clear q103
        try clear q104
        try clear q105
        obtain ⟨x4_2,rfl,HA,HK2,BK101,HB⟩:=hrel
        cases gk with
        | zero=>exact absurd HA.out (by simp [sawmillref19_checkLengths.l1])
        | succ k2 =>
         have H:=HA.out
         clear HA
         simp only [sawmillref19_checkLengths.l1] at H
         by_cases c29:x4_2 < (l0_6.length:Int)
         ·rw [if_pos c29] at H
          have c29b0:decide (x4_2 < (l0_6.length:Int))=true:=decide_eq_true c29
          clear c29
          by_cases c30:0≤x4_2
          ·rw [if_pos c30] at H
           have c30b0:decide (0≤x4_2)=true:=decide_eq_true c30
           clear c30
           by_cases c31:(rd l0_6 x4_2) < 0
           ·rw [if_pos c31] at H
            have c31b0:decide ((rd l0_6 x4_2) < 0)=true:=decide_eq_true c31
            clear c31
            obtain rfl:=Option.some.inj H
            have hcz32_0:wr.cell? ⟨gb101,0,none⟩=some (.string a0_0):=(blk_cell BK101.out 0).trans rfl
            have hcz32_1:wr.cell? ⟨gb101,1,none⟩=some (.int .i64 a0_1):=(blk_cell BK101.out 1).trans rfl
            have hcz32_2:wr.cell? ⟨gb101,2,none⟩=some (.int .i64 a0_2):=(blk_cell BK101.out 2).trans rfl
            have hcz32_3:wr.cell? ⟨gb101,3,none⟩=some (.int .i64 a0_3):=(blk_cell BK101.out 3).trans rfl
            have hcz32_4:wr.cell? ⟨gb101,4,none⟩=some (.int .i64 a0_4):=(blk_cell BK101.out 4).trans rfl
            have hcz32_5:wr.cell? ⟨gb101,5,none⟩=some (.slice A0_5 l0_5.length c0_5):=(blk_cell BK101.out 5).trans rfl
            have hcz32_6:wr.cell? ⟨gb101,6,none⟩=some (.slice A0_6 l0_6.length c0_6):=(blk_cell BK101.out 6).trans rfl
            have hfz32_0:=blk_frozen BK101.out 0
            have hfz32_1:=blk_frozen BK101.out 1
            have hfz32_2:=blk_frozen BK101.out 2
            have hfz32_3:=blk_frozen BK101.out 3
            have hfz32_4:=blk_frozen BK101.out 4
            have hfz32_5:=blk_frozen BK101.out 5
            have hfz32_6:=blk_frozen BK101.out 6
            have p106:0≤(x4_2:Int):=of_decide_eq_true (by first|(with_reducible assumption)|assumption)
            have q106:x4_2 < (l0_6.length:Int):=of_decide_eq_true (by first|(with_reducible assumption)|assumption)
            obtain ⟨ad106,e106,hx106_0⟩:=Kd.at_int HR0_6.out x4_2 p106 q106
            cases e106
            replace hx106_0:=(HB.out.cell (World.block_lt_of_cell? w _ hx106_0)).trans hx106_0
            replace p106:=eq_true p106
            replace q106:=eq_true q106
            go_wp2
            repeat (go_quiet (fail);try go_wp2)
            go_ret
            exact ⟨by first|rfl|(simp [errW_none,errW_some]<;>rfl)|(simp [*,errW_none,errW_some]<;>rfl),by repeat (first|(with_reducible first|exact HB.out|apply below_alloc|apply pw_below_drewN|apply below_drew1|refine below_set ?_ GE101.out)|exact HB.out)⟩
           ·rw [if_neg c31] at H
            have c31b0:decide ((rd l0_6 x4_2) < 0)=false:=decide_eq_false c31
            clear c31
            by_cases c33:(rd l0_6 x4_2) > 1000000
            ·rw [if_pos c33] at H
             have c33b0:decide (1000000 < (rd l0_6 x4_2))=true:=decide_eq_true c33
             clear c33
             obtain rfl:=Option.some.inj H
             have hcz34_0:wr.cell? ⟨gb101,0,none⟩=some (.string a0_0):=(blk_cell BK101.out 0).trans rfl
             have hcz34_1:wr.cell? ⟨gb101,1,none⟩=some (.int .i64 a0_1):=(blk_cell BK101.out 1).trans rfl
             have hcz34_2:wr.cell? ⟨gb101,2,none⟩=some (.int .i64 a0_2):=(blk_cell BK101.out 2).trans rfl
             have hcz34_3:wr.cell? ⟨gb101,3,none⟩=some (.int .i64 a0_3):=(blk_cell BK101.out 3).trans rfl
             have hcz34_4:wr.cell? ⟨gb101,4,none⟩=some (.int .i64 a0_4):=(blk_cell BK101.out 4).trans rfl
             have hcz34_5:wr.cell? ⟨gb101,5,none⟩=some (.slice A0_5 l0_5.length c0_5):=(blk_cell BK101.out 5).trans rfl
             have hcz34_6:wr.cell? ⟨gb101,6,none⟩=some (.slice A0_6 l0_6.length c0_6):=(blk_cell BK101.out 6).trans rfl
             have hfz34_0:=blk_frozen BK101.out 0
             have hfz34_1:=blk_frozen BK101.out 1
             have hfz34_2:=blk_frozen BK101.out 2
             have hfz34_3:=blk_frozen BK101.out 3
             have hfz34_4:=blk_frozen BK101.out 4
             have hfz34_5:=blk_frozen BK101.out 5
             have hfz34_6:=blk_frozen BK101.out 6
             have p106:0≤(x4_2:Int):=of_decide_eq_true (by first|(with_reducible assumption)|assumption)
             have q106:x4_2 < (l0_6.length:Int):=of_decide_eq_true (by first|(with_reducible assumption)|assumption)
             obtain ⟨ad106,e106,hx106_0⟩:=Kd.at_int HR0_6.out x4_2 p106 q106
             cases e106
             replace hx106_0:=(HB.out.cell (World.block_lt_of_cell? w _ hx106_0)).trans hx106_0
             replace p106:=eq_true p106
             replace q106:=eq_true q106
             have p107:0≤(x4_2:Int):=of_decide_eq_true (by first|(with_reducible assumption)|assumption)
             have q107:x4_2 < (l0_6.length:Int):=of_decide_eq_true (by first|(with_reducible assumption)|assumption)
             obtain ⟨ad107,e107,hx107_0⟩:=Kd.at_int HR0_6.out x4_2 p107 q107
             obtain rfl:ad106=ad107:=(by injection e107)
             replace hx107_0:=(HB.out.cell (World.block_lt_of_cell? w _ hx107_0)).trans hx107_0
             replace p107:=eq_true p107
             replace q107:=eq_true q107
             go_wp2
             repeat (go_quiet (fail);try go_wp2)
             go_ret
             exact ⟨by first|rfl|(simp [errW_none,errW_some]<;>rfl)|(simp [*,errW_none,errW_some]<;>rfl),by repeat (first|(with_reducible first|exact HB.out|apply below_alloc|apply pw_below_drewN|apply below_drew1|refine below_set ?_ GE101.out)|exact HB.out)⟩
            ·rw [if_neg c33] at H
             have c33b0:decide (1000000 < (rd l0_6 x4_2))=false:=decide_eq_false c33
             clear c33
             have H':=Aside0.mk H
             clear H
             have hcz35_0:wr.cell? ⟨gb101,0,none⟩=some (.string a0_0):=(blk_cell BK101.out 0).trans rfl
             have hcz35_1:wr.cell? ⟨gb101,1,none⟩=some (.int .i64 a0_1):=(blk_cell BK101.out 1).trans rfl
             have hcz35_2:wr.cell? ⟨gb101,2,none⟩=some (.int .i64 a0_2):=(blk_cell BK101.out 2).trans rfl
             have hcz35_3:wr.cell? ⟨gb101,3,none⟩=some (.int .i64 a0_3):=(blk_cell BK101.out 3).trans rfl
             have hcz35_4:wr.cell? ⟨gb101,4,none⟩=some (.int .i64 a0_4):=(blk_cell BK101.out 4).trans rfl
             have hcz35_5:wr.cell? ⟨gb101,5,none⟩=some (.slice A0_5 l0_5.length c0_5):=(blk_cell BK101.out 5).trans rfl
             have hcz35_6:wr.cell? ⟨gb101,6,none⟩=some (.slice A0_6 l0_6.length c0_6):=(blk_cell BK101.out 6).trans rfl
             have hfz35_0:=blk_frozen BK101.out 0
             have hfz35_1:=blk_frozen BK101.out 1
             have hfz35_2:=blk_frozen BK101.out 2
             have hfz35_3:=blk_frozen BK101.out 3
             have hfz35_4:=blk_frozen BK101.out 4
             have hfz35_5:=blk_frozen BK101.out 5
             have hfz35_6:=blk_frozen BK101.out 6
             have p106:0≤(x4_2:Int):=of_decide_eq_true (by first|(with_reducible assumption)|assumption)
             have q106:x4_2 < (l0_6.length:Int):=of_decide_eq_true (by first|(with_reducible assumption)|assumption)
             obtain ⟨ad106,e106,hx106_0⟩:=Kd.at_int HR0_6.out x4_2 p106 q106
             cases e106
             replace hx106_0:=(HB.out.cell (World.block_lt_of_cell? w _ hx106_0)).trans hx106_0
             replace p106:=eq_true p106
             replace q106:=eq_true q106
             have p107:0≤(x4_2:Int):=of_decide_eq_true (by first|(with_reducible assumption)|assumption)
             have q107:x4_2 < (l0_6.length:Int):=of_decide_eq_true (by first|(with_reducible assumption)|assumption)
             obtain ⟨ad107,e107,hx107_0⟩:=Kd.at_int HR0_6.out x4_2 p107 q107
             obtain rfl:ad106=ad107:=(by injection e107)
             replace hx107_0:=(HB.out.cell (World.block_lt_of_cell? w _ hx107_0)).trans hx107_0
             replace p107:=eq_true p107
             replace q107:=eq_true q107
             go_wp2
             repeat (go_quiet (fail);try go_wp2)
             go_roundg k2
             case measure=>have:=HK1.out;have:=HK2.out;omega
             case rel=>exact ⟨(wrap64 (x4_2+1)),(by first|rfl|(simp;done)|(simp [*];done)),H',⟨by have:=HK1.out;have:=HK2.out;omega⟩,⟨by (with_reducible repeat (first|refine blk_drewN ?_ _|refine blk_drew ?_|refine blk_alloc ?_ _));exact BK101.out⟩,⟨by repeat (first|(with_reducible first|exact HB.out|apply below_alloc|apply pw_below_drewN|apply below_drew1|refine below_set ?_ GE101.out)|exact HB.out)⟩⟩
          ·rw [if_neg c30] at H
           exact absurd H (by simp)
         ·rw [if_neg c29] at H
          have c29b0:decide (x4_2 < (l0_6.length:Int))=false:=decide_eq_false c29
          clear c29
          obtain rfl:=Option.some.inj H
          have hcz36_0:wr.cell? ⟨gb101,0,none⟩=some (.string a0_0):=(blk_cell BK101.out 0).trans rfl
          have hcz36_1:wr.cell? ⟨gb101,1,none⟩=some (.int .i64 a0_1):=(blk_cell BK101.out 1).trans rfl
          have hcz36_2:wr.cell? ⟨gb101,2,none⟩=some (.int .i64 a0_2):=(blk_cell BK101.out 2).trans rfl
          have hcz36_3:wr.cell? ⟨gb101,3,none⟩=some (.int .i64 a0_3):=(blk_cell BK101.out 3).trans rfl
          have hcz36_4:wr.cell? ⟨gb101,4,none⟩=some (.int .i64 a0_4):=(blk_cell BK101.out 4).trans rfl
          have hcz36_5:wr.cell? ⟨gb101,5,none⟩=some (.slice A0_5 l0_5.length c0_5):=(blk_cell BK101.out 5).trans rfl
          have hcz36_6:wr.cell? ⟨gb101,6,none⟩=some (.slice A0_6 l0_6.length c0_6):=(blk_cell BK101.out 6).trans rfl
          have hfz36_0:=blk_frozen BK101.out 0
          have hfz36_1:=blk_frozen BK101.out 1
          have hfz36_2:=blk_frozen BK101.out 2
          have hfz36_3:=blk_frozen BK101.out 3
          have hfz36_4:=blk_frozen BK101.out 4
          have hfz36_5:=blk_frozen BK101.out 5
          have hfz36_6:=blk_frozen BK101.out 6
          go_wp2
          repeat (go_quiet (fail);try go_wp2)
          go_ret
          exact ⟨by first|rfl|(simp [errW_none,errW_some]<;>rfl)|(simp [*,errW_none,errW_some]<;>rfl),by repeat (first|(with_reducible first|exact HB.out|apply below_alloc|apply pw_below_drewN|apply below_drew1|refine below_set ?_ GE101.out)|exact HB.out)⟩
   ·rw [if_neg c8] at H
    have c8b0:((l0_6.length:Int) == (l0_5.length:Int))=false:=beq_eq_false_iff_ne.mpr c8
    have c8b1:((l0_6.length:Int) != (l0_5.length:Int))=true:=bne_iff_ne.mpr c8
    have c8b2:(l0_6.length == l0_5.length)=false:=by first|simpa using c8|(simp at c8 ⊢;omega)
    obtain rfl:=Option.some.inj H
    go_enter Tryd.func47,Tryd.ntmps47
    go_wp2_with (first|((with_reducible refine gate_dst (N:=1) rfl ?_);refine box_event ?hg (N:=1) ?hd (cs:=#[.string a0_0,.int .i64 a0_1,.int .i64 a0_2,.int .i64 a0_3,.int .i64 a0_4,.slice A0_5 l0_5.length c0_5,.slice A0_6 l0_6.length c0_6]) (t:=53) ?hr ?_;(case hd=>rfl);(case hg=>rfl);(case hr=>first|(go_simp;done)|(go_simp;rfl));intro gb101 hg w37 hbox hb;have n0_:=Aside0.mk (below_step (by repeat (first|(with_reducible first|exact HB.out|apply below_alloc|apply pw_below_drewN|apply below_drew1)|exact HB.out)) hb);have n1_:=Aside0.mk (hbox);have n2_:=Aside0.mk ((by rw [hg];exact (below_size (by repeat (first|(with_reducible first|exact HB.out|apply below_alloc|apply pw_below_drewN|apply below_drew1)|exact HB.out))):w.heap.size≤gb101));have n3_:=Aside0.mk ((by rw [hg];exact (below_size (by repeat (first|(with_reducible first|exact HB.out|apply below_alloc|apply pw_below_drewN|apply below_drew1)|exact HB.out))):w.heap.size≤gb101));clear HB;have HB:=n0_;have BK101:=n1_;have GW101:=n2_;have GE101:=n3_;clear n0_ n1_ n2_ n3_;clear hb hbox hg;have hcz38_0:w37.cell? ⟨gb101,0,none⟩=some (.string a0_0):=(blk_cell BK101.out 0).trans rfl;have hcz38_1:w37.cell? ⟨gb101,1,none⟩=some (.int .i64 a0_1):=(blk_cell BK101.out 1).trans rfl;have hcz38_2:w37.cell? ⟨gb101,2,none⟩=some (.int .i64 a0_2):=(blk_cell BK101.out 2).trans rfl;have hcz38_3:w37.cell? ⟨gb101,3,none⟩=some (.int .i64 a0_3):=(blk_cell BK101.out 3).trans rfl;have hcz38_4:w37.cell? ⟨gb101,4,none⟩=some (.int .i64 a0_4):=(blk_cell BK101.out 4).trans rfl;have hcz38_5:w37.cell? ⟨gb101,5,none⟩=some (.slice A0_5 l0_5.length c0_5):=(blk_cell BK101.out 5).trans rfl;have hcz38_6:w37.cell? ⟨gb101,6,none⟩=some (.slice A0_6 l0_6.length c0_6):=(blk_cell BK101.out 6).trans rfl;have hfz38_0:=blk_frozen BK101.out 0;have hfz38_1:=blk_frozen BK101.out 1;have hfz38_2:=blk_frozen BK101.out 2;have hfz38_3:=blk_frozen BK101.out 3;have hfz38_4:=blk_frozen BK101.out 4;have hfz38_5:=blk_frozen BK101.out 5;have hfz38_6:=blk_frozen BK101.out 6))
    repeat (go_quiet (first|((with_reducible refine gate_dst (N:=1) rfl ?_);refine box_event ?hg (N:=1) ?hd (cs:=#[.string a0_0,.int .i64 a0_1,.int .i64 a0_2,.int .i64 a0_3,.int .i64 a0_4,.slice A0_5 l0_5.length c0_5,.slice A0_6 l0_6.length c0_6]) (t:=53) ?hr ?_;(case hd=>rfl);(case hg=>rfl);(case hr=>first|(go_simp;done)|(go_simp;rfl));intro gb101 hg w37 hbox hb;have n0_:=Aside0.mk (below_step (by repeat (first|(with_reducible first|exact HB.out|apply below_alloc|apply pw_below_drewN|apply below_drew1)|exact HB.out)) hb);have n1_:=Aside0.mk (hbox);have n2_:=Aside0.mk ((by rw [hg];exact (below_size (by repeat (first|(with_reducible first|exact HB.out|apply below_alloc|apply pw_below_drewN|apply below_drew1)|exact HB.out))):w.heap.size≤gb101));have n3_:=Aside0.mk ((by rw [hg];exact (below_size (by repeat (first|(with_reducible first|exact HB.out|apply below_alloc|apply pw_below_drewN|apply below_drew1)|exact HB.out))):w.heap.size≤gb101));clear HB;have HB:=n0_;have BK101:=n1_;have GW101:=n2_;have GE101:=n3_;clear n0_ n1_ n2_ n3_;clear hb hbox hg;have hcz38_0:w37.cell? ⟨gb101,0,none⟩=some (.string a0_0):=(blk_cell BK101.out 0).trans rfl;have hcz38_1:w37.cell? ⟨gb101,1,none⟩=some (.int .i64 a0_1):=(blk_cell BK101.out 1).trans rfl;have hcz38_2:w37.cell? ⟨gb101,2,none⟩=some (.int .i64 a0_2):=(blk_cell BK101.out 2).trans rfl;have hcz38_3:w37.cell? ⟨gb101,3,none⟩=some (.int .i64 a0_3):=(blk_cell BK101.out 3).trans rfl;have hcz38_4:w37.cell? ⟨gb101,4,none⟩=some (.int .i64 a0_4):=(blk_cell BK101.out 4).trans rfl;have hcz38_5:w37.cell? ⟨gb101,5,none⟩=some (.slice A0_5 l0_5.length c0_5):=(blk_cell BK101.out 5).trans rfl;have hcz38_6:w37.cell? ⟨gb101,6,none⟩=some (.slice A0_6 l0_6.length c0_6):=(blk_cell BK101.out 6).trans rfl;have hfz38_0:=blk_frozen BK101.out 0;have hfz38_1:=blk_frozen BK101.out 1;have hfz38_2:=blk_frozen BK101.out 2;have hfz38_3:=blk_frozen BK101.out 3;have hfz38_4:=blk_frozen BK101.out 4;have hfz38_5:=blk_frozen BK101.out 5;have hfz38_6:=blk_frozen BK101.out 6));try go_wp2_with (first|((with_reducible refine gate_dst (N:=1) rfl ?_);refine box_event ?hg (N:=1) ?hd (cs:=#[.string a0_0,.int .i64 a0_1,.int .i64 a0_2,.int .i64 a0_3,.int .i64 a0_4,.slice A0_5 l0_5.length c0_5,.slice A0_6 l0_6.length c0_6]) (t:=53) ?hr ?_;(case hd=>rfl);(case hg=>rfl);(case hr=>first|(go_simp;done)|(go_simp;rfl));intro gb101 hg w37 hbox hb;have n0_:=Aside0.mk (below_step (by repeat (first|(with_reducible first|exact HB.out|apply below_alloc|apply pw_below_drewN|apply below_drew1)|exact HB.out)) hb);have n1_:=Aside0.mk (hbox);have n2_:=Aside0.mk ((by rw [hg];exact (below_size (by repeat (first|(with_reducible first|exact HB.out|apply below_alloc|apply pw_below_drewN|apply below_drew1)|exact HB.out))):w.heap.size≤gb101));have n3_:=Aside0.mk ((by rw [hg];exact (below_size (by repeat (first|(with_reducible first|exact HB.out|apply below_alloc|apply pw_below_drewN|apply below_drew1)|exact HB.out))):w.heap.size≤gb101));clear HB;have HB:=n0_;have BK101:=n1_;have GW101:=n2_;have GE101:=n3_;clear n0_ n1_ n2_ n3_;clear hb hbox hg;have hcz38_0:w37.cell? ⟨gb101,0,none⟩=some (.string a0_0):=(blk_cell BK101.out 0).trans rfl;have hcz38_1:w37.cell? ⟨gb101,1,none⟩=some (.int .i64 a0_1):=(blk_cell BK101.out 1).trans rfl;have hcz38_2:w37.cell? ⟨gb101,2,none⟩=some (.int .i64 a0_2):=(blk_cell BK101.out 2).trans rfl;have hcz38_3:w37.cell? ⟨gb101,3,none⟩=some (.int .i64 a0_3):=(blk_cell BK101.out 3).trans rfl;have hcz38_4:w37.cell? ⟨gb101,4,none⟩=some (.int .i64 a0_4):=(blk_cell BK101.out 4).trans rfl;have hcz38_5:w37.cell? ⟨gb101,5,none⟩=some (.slice A0_5 l0_5.length c0_5):=(blk_cell BK101.out 5).trans rfl;have hcz38_6:w37.cell? ⟨gb101,6,none⟩=some (.slice A0_6 l0_6.length c0_6):=(blk_cell BK101.out 6).trans rfl;have hfz38_0:=blk_frozen BK101.out 0;have hfz38_1:=blk_frozen BK101.out 1;have hfz38_2:=blk_frozen BK101.out 2;have hfz38_3:=blk_frozen BK101.out 3;have hfz38_4:=blk_frozen BK101.out 4;have hfz38_5:=blk_frozen BK101.out 5;have hfz38_6:=blk_frozen BK101.out 6)))
    go_ret
    exact ⟨by first|rfl|(simp [errW_none,errW_some]<;>rfl)|(simp [*,errW_none,errW_some]<;>rfl),by repeat (first|(with_reducible first|exact HB.out|apply below_alloc|apply pw_below_drewN|apply below_drew1|refine below_set ?_ GE101.out)|exact HB.out)⟩
end Go.Proofs.YtojkjhaobjidlaaDoor.P
namespace Go.Proofs.YtojkjhaobjidlaaDoor.P
open Go.RowKit Go.Proofs.YtojkjhaobjidlaaDoorW.PrintWords Go.Proofs.YtojkjhaobjidlaaDoorW.PrintLast Go.Proofs.YtojkjhaobjidlaaDoorW.PrintMore
attribute [local go_sem] max2_int min2_int max_two min_two max_three min_three max_four min_four
attribute [local go_sem] cell_twice
set_option linter.unusedVariables false
set_option linter.unusedSimpArgs false
def sawmillref19_sized.f (a0_0:ByteArray) (a0_1:Int) (a0_2:Int) (a0_3:Int) (a0_4:Int) (l0_5:List Int) (l0_6:List Int):Option (Bool):=if a0_1 ≥ 1 then (if a0_1≤600 then (if a0_2 ≥ 1 then (some (decide (a0_2≤600))) else (some false)) else (some false)) else (some false)
set_option maxHeartbeats 8000000 in
set_option maxRecDepth 100000 in
theorem sawmillref19_sized.calls (a0_0:ByteArray) (a0_1:Int) (a0_2:Int) (a0_3:Int) (a0_4:Int) (A0_5:Option Addr) (c0_5:Nat) (l0_5:List Int) (A0_6:Option Addr) (c0_6:Nat) (l0_6:List Int) (r:Bool) (w:World) (hr0_5:Kd.C (Kd.int .i64) w A0_5 l0_5.length l0_5) (hc0_5:l0_5.length≤c0_5) (hr0_6:Kd.C (Kd.int .i64) w A0_6 l0_6.length l0_6) (hc0_6:l0_6.length≤c0_6) (h:sawmillref19_sized.f a0_0 a0_1 a0_2 a0_3 a0_4 l0_5 l0_6=some r) :
  Calls Tryd.prog 48 #[.agg #[.string a0_0,.int .i64 a0_1,.int .i64 a0_2,.int .i64 a0_3,.int .i64 a0_4,.slice A0_5 l0_5.length c0_5,.slice A0_6 l0_6.length c0_6]] w fun e w'=>e=.returned (.bool r)∧Below w.heap.size w w':=by
 have hu53:=Tryd.underlying53
 have HR0_5:=Aside0.mk hr0_5
 have HC0_5:=Aside0.mk hc0_5
 clear hr0_5 hc0_5
 have HR0_6:=Aside0.mk hr0_6
 have HC0_6:=Aside0.mk hc0_6
 clear hr0_6 hc0_6
 have HB:=Aside0.mk (Below.refl w.heap.size w)
 have H:(if a0_1 ≥ 1 then (if a0_1≤600 then (if a0_2 ≥ 1 then (some (decide (a0_2≤600))) else (some false)) else (some false)) else (some false))=some r:=h
 clear h
 by_cases c2:a0_1 ≥ 1
 ·rw [if_pos c2] at H
  have c2b0:decide (1≤a0_1)=true:=decide_eq_true c2
  clear c2
  by_cases c3:a0_1≤600
  ·rw [if_pos c3] at H
   have c3b0:decide (a0_1≤600)=true:=decide_eq_true c3
   clear c3
   by_cases c4:a0_2 ≥ 1
   ·rw [if_pos c4] at H
    have c4b0:decide (1≤a0_2)=true:=decide_eq_true c4
    clear c4
    obtain rfl:=Option.some.inj H
    go_enter Tryd.func48,Tryd.ntmps48
    go_wp2_with (first|((with_reducible refine gate_dst (N:=1) rfl ?_);refine box_event ?hg (N:=1) ?hd (cs:=#[.string a0_0,.int .i64 a0_1,.int .i64 a0_2,.int .i64 a0_3,.int .i64 a0_4,.slice A0_5 l0_5.length c0_5,.slice A0_6 l0_6.length c0_6]) (t:=53) ?hr ?_;(case hd=>rfl);(case hg=>rfl);(case hr=>first|(go_simp;done)|(go_simp;rfl));intro gb101 hg w5 hbox hb;have n0_:=Aside0.mk (below_step (by repeat (first|(with_reducible first|exact HB.out|apply below_alloc|apply pw_below_drewN|apply below_drew1)|exact HB.out)) hb);have n1_:=Aside0.mk (hbox);have n2_:=Aside0.mk ((by rw [hg];exact (below_size (by repeat (first|(with_reducible first|exact HB.out|apply below_alloc|apply pw_below_drewN|apply below_drew1)|exact HB.out))):w.heap.size≤gb101));have n3_:=Aside0.mk ((by rw [hg];exact (below_size (by repeat (first|(with_reducible first|exact HB.out|apply below_alloc|apply pw_below_drewN|apply below_drew1)|exact HB.out))):w.heap.size≤gb101));clear HB;have HB:=n0_;have BK101:=n1_;have GW101:=n2_;have GE101:=n3_;clear n0_ n1_ n2_ n3_;clear hb hbox hg;have hcz6_0:w5.cell? ⟨gb101,0,none⟩=some (.string a0_0):=(blk_cell BK101.out 0).trans rfl;have hcz6_1:w5.cell? ⟨gb101,1,none⟩=some (.int .i64 a0_1):=(blk_cell BK101.out 1).trans rfl;have hcz6_2:w5.cell? ⟨gb101,2,none⟩=some (.int .i64 a0_2):=(blk_cell BK101.out 2).trans rfl;have hcz6_3:w5.cell? ⟨gb101,3,none⟩=some (.int .i64 a0_3):=(blk_cell BK101.out 3).trans rfl;have hcz6_4:w5.cell? ⟨gb101,4,none⟩=some (.int .i64 a0_4):=(blk_cell BK101.out 4).trans rfl;have hcz6_5:w5.cell? ⟨gb101,5,none⟩=some (.slice A0_5 l0_5.length c0_5):=(blk_cell BK101.out 5).trans rfl;have hcz6_6:w5.cell? ⟨gb101,6,none⟩=some (.slice A0_6 l0_6.length c0_6):=(blk_cell BK101.out 6).trans rfl;have hfz6_0:=blk_frozen BK101.out 0;have hfz6_1:=blk_frozen BK101.out 1;have hfz6_2:=blk_frozen BK101.out 2;have hfz6_3:=blk_frozen BK101.out 3;have hfz6_4:=blk_frozen BK101.out 4;have hfz6_5:=blk_frozen BK101.out 5;have hfz6_6:=blk_frozen BK101.out 6))
    go_ret
    exact ⟨by first|rfl|(simp [errW_none,errW_some]<;>rfl)|(simp [*,errW_none,errW_some]<;>rfl),by repeat (first|(with_reducible first|exact HB.out|apply below_alloc|apply pw_below_drewN|apply below_drew1|refine below_set ?_ GE101.out)|exact HB.out)⟩
   ·rw [if_neg c4] at H
    have c4b0:decide (1≤a0_2)=false:=decide_eq_false c4
    clear c4
    obtain rfl:=Option.some.inj H
    go_enter Tryd.func48,Tryd.ntmps48
    go_wp2_with (first|((with_reducible refine gate_dst (N:=1) rfl ?_);refine box_event ?hg (N:=1) ?hd (cs:=#[.string a0_0,.int .i64 a0_1,.int .i64 a0_2,.int .i64 a0_3,.int .i64 a0_4,.slice A0_5 l0_5.length c0_5,.slice A0_6 l0_6.length c0_6]) (t:=53) ?hr ?_;(case hd=>rfl);(case hg=>rfl);(case hr=>first|(go_simp;done)|(go_simp;rfl));intro gb101 hg w7 hbox hb;have n0_:=Aside0.mk (below_step (by repeat (first|(with_reducible first|exact HB.out|apply below_alloc|apply pw_below_drewN|apply below_drew1)|exact HB.out)) hb);have n1_:=Aside0.mk (hbox);have n2_:=Aside0.mk ((by rw [hg];exact (below_size (by repeat (first|(with_reducible first|exact HB.out|apply below_alloc|apply pw_below_drewN|apply below_drew1)|exact HB.out))):w.heap.size≤gb101));have n3_:=Aside0.mk ((by rw [hg];exact (below_size (by repeat (first|(with_reducible first|exact HB.out|apply below_alloc|apply pw_below_drewN|apply below_drew1)|exact HB.out))):w.heap.size≤gb101));clear HB;have HB:=n0_;have BK101:=n1_;have GW101:=n2_;have GE101:=n3_;clear n0_ n1_ n2_ n3_;clear hb hbox hg;have hcz8_0:w7.cell? ⟨gb101,0,none⟩=some (.string a0_0):=(blk_cell BK101.out 0).trans rfl;have hcz8_1:w7.cell? ⟨gb101,1,none⟩=some (.int .i64 a0_1):=(blk_cell BK101.out 1).trans rfl;have hcz8_2:w7.cell? ⟨gb101,2,none⟩=some (.int .i64 a0_2):=(blk_cell BK101.out 2).trans rfl;have hcz8_3:w7.cell? ⟨gb101,3,none⟩=some (.int .i64 a0_3):=(blk_cell BK101.out 3).trans rfl;have hcz8_4:w7.cell? ⟨gb101,4,none⟩=some (.int .i64 a0_4):=(blk_cell BK101.out 4).trans rfl;have hcz8_5:w7.cell? ⟨gb101,5,none⟩=some (.slice A0_5 l0_5.length c0_5):=(blk_cell BK101.out 5).trans rfl;have hcz8_6:w7.cell? ⟨gb101,6,none⟩=some (.slice A0_6 l0_6.length c0_6):=(blk_cell BK101.out 6).trans rfl;have hfz8_0:=blk_frozen BK101.out 0;have hfz8_1:=blk_frozen BK101.out 1;have hfz8_2:=blk_frozen BK101.out 2;have hfz8_3:=blk_frozen BK101.out 3;have hfz8_4:=blk_frozen BK101.out 4;have hfz8_5:=blk_frozen BK101.out 5;have hfz8_6:=blk_frozen BK101.out 6))
    go_ret
    exact ⟨by first|rfl|(simp [errW_none,errW_some]<;>rfl)|(simp [*,errW_none,errW_some]<;>rfl),by repeat (first|(with_reducible first|exact HB.out|apply below_alloc|apply pw_below_drewN|apply below_drew1|refine below_set ?_ GE101.out)|exact HB.out)⟩
  ·rw [if_neg c3] at H
   have c3b0:decide (a0_1≤600)=false:=decide_eq_false c3
   clear c3
   obtain rfl:=Option.some.inj H
   go_enter Tryd.func48,Tryd.ntmps48
   go_wp2_with (first|((with_reducible refine gate_dst (N:=1) rfl ?_);refine box_event ?hg (N:=1) ?hd (cs:=#[.string a0_0,.int .i64 a0_1,.int .i64 a0_2,.int .i64 a0_3,.int .i64 a0_4,.slice A0_5 l0_5.length c0_5,.slice A0_6 l0_6.length c0_6]) (t:=53) ?hr ?_;(case hd=>rfl);(case hg=>rfl);(case hr=>first|(go_simp;done)|(go_simp;rfl));intro gb101 hg w9 hbox hb;have n0_:=Aside0.mk (below_step (by repeat (first|(with_reducible first|exact HB.out|apply below_alloc|apply pw_below_drewN|apply below_drew1)|exact HB.out)) hb);have n1_:=Aside0.mk (hbox);have n2_:=Aside0.mk ((by rw [hg];exact (below_size (by repeat (first|(with_reducible first|exact HB.out|apply below_alloc|apply pw_below_drewN|apply below_drew1)|exact HB.out))):w.heap.size≤gb101));have n3_:=Aside0.mk ((by rw [hg];exact (below_size (by repeat (first|(with_reducible first|exact HB.out|apply below_alloc|apply pw_below_drewN|apply below_drew1)|exact HB.out))):w.heap.size≤gb101));clear HB;have HB:=n0_;have BK101:=n1_;have GW101:=n2_;have GE101:=n3_;clear n0_ n1_ n2_ n3_;clear hb hbox hg;have hcz10_0:w9.cell? ⟨gb101,0,none⟩=some (.string a0_0):=(blk_cell BK101.out 0).trans rfl;have hcz10_1:w9.cell? ⟨gb101,1,none⟩=some (.int .i64 a0_1):=(blk_cell BK101.out 1).trans rfl;have hcz10_2:w9.cell? ⟨gb101,2,none⟩=some (.int .i64 a0_2):=(blk_cell BK101.out 2).trans rfl;have hcz10_3:w9.cell? ⟨gb101,3,none⟩=some (.int .i64 a0_3):=(blk_cell BK101.out 3).trans rfl;have hcz10_4:w9.cell? ⟨gb101,4,none⟩=some (.int .i64 a0_4):=(blk_cell BK101.out 4).trans rfl;have hcz10_5:w9.cell? ⟨gb101,5,none⟩=some (.slice A0_5 l0_5.length c0_5):=(blk_cell BK101.out 5).trans rfl;have hcz10_6:w9.cell? ⟨gb101,6,none⟩=some (.slice A0_6 l0_6.length c0_6):=(blk_cell BK101.out 6).trans rfl;have hfz10_0:=blk_frozen BK101.out 0;have hfz10_1:=blk_frozen BK101.out 1;have hfz10_2:=blk_frozen BK101.out 2;have hfz10_3:=blk_frozen BK101.out 3;have hfz10_4:=blk_frozen BK101.out 4;have hfz10_5:=blk_frozen BK101.out 5;have hfz10_6:=blk_frozen BK101.out 6))
   go_ret
   exact ⟨by first|rfl|(simp [errW_none,errW_some]<;>rfl)|(simp [*,errW_none,errW_some]<;>rfl),by repeat (first|(with_reducible first|exact HB.out|apply below_alloc|apply pw_below_drewN|apply below_drew1|refine below_set ?_ GE101.out)|exact HB.out)⟩
 ·rw [if_neg c2] at H
  have c2b0:decide (1≤a0_1)=false:=decide_eq_false c2
  clear c2
  obtain rfl:=Option.some.inj H
  go_enter Tryd.func48,Tryd.ntmps48
  go_wp2_with (first|((with_reducible refine gate_dst (N:=1) rfl ?_);refine box_event ?hg (N:=1) ?hd (cs:=#[.string a0_0,.int .i64 a0_1,.int .i64 a0_2,.int .i64 a0_3,.int .i64 a0_4,.slice A0_5 l0_5.length c0_5,.slice A0_6 l0_6.length c0_6]) (t:=53) ?hr ?_;(case hd=>rfl);(case hg=>rfl);(case hr=>first|(go_simp;done)|(go_simp;rfl));intro gb101 hg w11 hbox hb;have n0_:=Aside0.mk (below_step (by repeat (first|(with_reducible first|exact HB.out|apply below_alloc|apply pw_below_drewN|apply below_drew1)|exact HB.out)) hb);have n1_:=Aside0.mk (hbox);have n2_:=Aside0.mk ((by rw [hg];exact (below_size (by repeat (first|(with_reducible first|exact HB.out|apply below_alloc|apply pw_below_drewN|apply below_drew1)|exact HB.out))):w.heap.size≤gb101));have n3_:=Aside0.mk ((by rw [hg];exact (below_size (by repeat (first|(with_reducible first|exact HB.out|apply below_alloc|apply pw_below_drewN|apply below_drew1)|exact HB.out))):w.heap.size≤gb101));clear HB;have HB:=n0_;have BK101:=n1_;have GW101:=n2_;have GE101:=n3_;clear n0_ n1_ n2_ n3_;clear hb hbox hg;have hcz12_0:w11.cell? ⟨gb101,0,none⟩=some (.string a0_0):=(blk_cell BK101.out 0).trans rfl;have hcz12_1:w11.cell? ⟨gb101,1,none⟩=some (.int .i64 a0_1):=(blk_cell BK101.out 1).trans rfl;have hcz12_2:w11.cell? ⟨gb101,2,none⟩=some (.int .i64 a0_2):=(blk_cell BK101.out 2).trans rfl;have hcz12_3:w11.cell? ⟨gb101,3,none⟩=some (.int .i64 a0_3):=(blk_cell BK101.out 3).trans rfl;have hcz12_4:w11.cell? ⟨gb101,4,none⟩=some (.int .i64 a0_4):=(blk_cell BK101.out 4).trans rfl;have hcz12_5:w11.cell? ⟨gb101,5,none⟩=some (.slice A0_5 l0_5.length c0_5):=(blk_cell BK101.out 5).trans rfl;have hcz12_6:w11.cell? ⟨gb101,6,none⟩=some (.slice A0_6 l0_6.length c0_6):=(blk_cell BK101.out 6).trans rfl;have hfz12_0:=blk_frozen BK101.out 0;have hfz12_1:=blk_frozen BK101.out 1;have hfz12_2:=blk_frozen BK101.out 2;have hfz12_3:=blk_frozen BK101.out 3;have hfz12_4:=blk_frozen BK101.out 4;have hfz12_5:=blk_frozen BK101.out 5;have hfz12_6:=blk_frozen BK101.out 6))
  go_ret
  exact ⟨by first|rfl|(simp [errW_none,errW_some]<;>rfl)|(simp [*,errW_none,errW_some]<;>rfl),by repeat (first|(with_reducible first|exact HB.out|apply below_alloc|apply pw_below_drewN|apply below_drew1|refine below_set ?_ GE101.out)|exact HB.out)⟩
end Go.Proofs.YtojkjhaobjidlaaDoor.P
namespace Go.Proofs.YtojkjhaobjidlaaDoor.P
open Go.RowKit Go.Proofs.YtojkjhaobjidlaaDoorW.PrintWords Go.Proofs.YtojkjhaobjidlaaDoorW.PrintLast Go.Proofs.YtojkjhaobjidlaaDoorW.PrintMore
attribute [local go_sem] max2_int min2_int max_two min_two max_three min_three max_four min_four
attribute [local go_sem] cell_twice
set_option linter.unusedVariables false
set_option linter.unusedSimpArgs false
def sawmillref19_Green.f (a0_0:ByteArray) (a0_1:Int) (a0_2:Int) (a0_3:Int) (a0_4:Int) (l0_5:List Int) (l0_6:List Int):Option (Int × Int):=(sawmillref19_sized.f a0_0 a0_1 a0_2 a0_3 a0_4 l0_5 l0_6).bind fun t102=>(if t102=true then (if a0_3 < 0 then (some (0,0)) else (if a0_3 > 200 then (some (0,0)) else (some (wrap64 (Int.tdiv (wrap64 ((wrap64 (a0_1 * (wrap64 (1000+a0_3))))+999)) 1000),wrap64 (Int.tdiv (wrap64 ((wrap64 (a0_2 * (wrap64 (1000+a0_3))))+999)) 1000))))) else (some (0,0)))
set_option maxHeartbeats 8000000 in
set_option maxRecDepth 100000 in
theorem sawmillref19_Green.calls (a0_0:ByteArray) (a0_1:Int) (a0_2:Int) (a0_3:Int) (a0_4:Int) (A0_5:Option Addr) (c0_5:Nat) (l0_5:List Int) (A0_6:Option Addr) (c0_6:Nat) (l0_6:List Int) (r1:Int) (r2:Int) (w:World) (hr0_5:Kd.C (Kd.int .i64) w A0_5 l0_5.length l0_5) (hc0_5:l0_5.length≤c0_5) (hr0_6:Kd.C (Kd.int .i64) w A0_6 l0_6.length l0_6) (hc0_6:l0_6.length≤c0_6) (h:sawmillref19_Green.f a0_0 a0_1 a0_2 a0_3 a0_4 l0_5 l0_6=some (r1,r2)) :
  Calls Tryd.prog 46 #[.agg #[.string a0_0,.int .i64 a0_1,.int .i64 a0_2,.int .i64 a0_3,.int .i64 a0_4,.slice A0_5 l0_5.length c0_5,.slice A0_6 l0_6.length c0_6]] w fun e w'=>e=.returned (.tuple #[.int .i64 r1,.int .i64 r2])∧Below w.heap.size w w':=by
 have hu53:=Tryd.underlying53
 have HR0_5:=Aside0.mk hr0_5
 have HC0_5:=Aside0.mk hc0_5
 clear hr0_5 hc0_5
 have HR0_6:=Aside0.mk hr0_6
 have HC0_6:=Aside0.mk hc0_6
 clear hr0_6 hc0_6
 have HB:=Aside0.mk (Below.refl w.heap.size w)
 have H:((sawmillref19_sized.f a0_0 a0_1 a0_2 a0_3 a0_4 l0_5 l0_6).bind fun t102=>(if t102=true then (if a0_3 < 0 then (some (0,0)) else (if a0_3 > 200 then (some (0,0)) else (some (wrap64 (Int.tdiv (wrap64 ((wrap64 (a0_1 * (wrap64 (1000+a0_3))))+999)) 1000),wrap64 (Int.tdiv (wrap64 ((wrap64 (a0_2 * (wrap64 (1000+a0_3))))+999)) 1000))))) else (some (0,0))))=some (r1,r2):=h
 clear h
 replace H:=Option.bind_eq_some_iff.mp H
 obtain ⟨t102,A20,H⟩:=H
 replace H:(if t102=true then (if a0_3 < 0 then (some (0,0)) else (if a0_3 > 200 then (some (0,0)) else (some (wrap64 (Int.tdiv (wrap64 ((wrap64 (a0_1 * (wrap64 (1000+a0_3))))+999)) 1000),wrap64 (Int.tdiv (wrap64 ((wrap64 (a0_2 * (wrap64 (1000+a0_3))))+999)) 1000))))) else (some (0,0)))=some (r1,r2):=H
 have A2:=Aside0.mk A20
 clear A20
 by_cases c3:t102=true
 ·subst c3
  have H1:(if a0_3 < 0 then (some (0,0)) else (if a0_3 > 200 then (some (0,0)) else (some (wrap64 (Int.tdiv (wrap64 ((wrap64 (a0_1 * (wrap64 (1000+a0_3))))+999)) 1000),wrap64 (Int.tdiv (wrap64 ((wrap64 (a0_2 * (wrap64 (1000+a0_3))))+999)) 1000)))))=some (r1,r2):=by rw [if_pos rfl] at H;exact H
  clear H
  have H:=H1
  clear H1
  by_cases c4:a0_3 < 0
  ·rw [if_pos c4] at H
   have c4b0:decide (a0_3 < 0)=true:=decide_eq_true c4
   clear c4
   simp only [Option.some.injEq,Prod.mk.injEq] at H
   obtain ⟨rfl,rfl⟩:=H
   go_enter Tryd.func46,Tryd.ntmps46
   go_wp2_with (first|((with_reducible refine gate_dst (N:=1) rfl ?_);refine box_event ?hg (N:=1) ?hd (cs:=#[.string a0_0,.int .i64 a0_1,.int .i64 a0_2,.int .i64 a0_3,.int .i64 a0_4,.slice A0_5 l0_5.length c0_5,.slice A0_6 l0_6.length c0_6]) (t:=53) ?hr ?_;(case hd=>rfl);(case hg=>rfl);(case hr=>first|(go_simp;done)|(go_simp;rfl));intro gb101 hg w5 hbox hb;have n0_:=Aside0.mk (below_step (by repeat (first|(with_reducible first|exact HB.out|apply below_alloc|apply pw_below_drewN|apply below_drew1)|exact HB.out)) hb);have n1_:=Aside0.mk (hbox);have n2_:=Aside0.mk ((by rw [hg];exact (below_size (by repeat (first|(with_reducible first|exact HB.out|apply below_alloc|apply pw_below_drewN|apply below_drew1)|exact HB.out))):w.heap.size≤gb101));have n3_:=Aside0.mk ((by rw [hg];exact (below_size (by repeat (first|(with_reducible first|exact HB.out|apply below_alloc|apply pw_below_drewN|apply below_drew1)|exact HB.out))):w.heap.size≤gb101));clear HB;have HB:=n0_;have BK101:=n1_;have GW101:=n2_;have GE101:=n3_;clear n0_ n1_ n2_ n3_;clear hb hbox hg;have hcz6_0:w5.cell? ⟨gb101,0,none⟩=some (.string a0_0):=(blk_cell BK101.out 0).trans rfl;have hcz6_1:w5.cell? ⟨gb101,1,none⟩=some (.int .i64 a0_1):=(blk_cell BK101.out 1).trans rfl;have hcz6_2:w5.cell? ⟨gb101,2,none⟩=some (.int .i64 a0_2):=(blk_cell BK101.out 2).trans rfl;have hcz6_3:w5.cell? ⟨gb101,3,none⟩=some (.int .i64 a0_3):=(blk_cell BK101.out 3).trans rfl;have hcz6_4:w5.cell? ⟨gb101,4,none⟩=some (.int .i64 a0_4):=(blk_cell BK101.out 4).trans rfl;have hcz6_5:w5.cell? ⟨gb101,5,none⟩=some (.slice A0_5 l0_5.length c0_5):=(blk_cell BK101.out 5).trans rfl;have hcz6_6:w5.cell? ⟨gb101,6,none⟩=some (.slice A0_6 l0_6.length c0_6):=(blk_cell BK101.out 6).trans rfl;have hfz6_0:=blk_frozen BK101.out 0;have hfz6_1:=blk_frozen BK101.out 1;have hfz6_2:=blk_frozen BK101.out 2;have hfz6_3:=blk_frozen BK101.out 3;have hfz6_4:=blk_frozen BK101.out 4;have hfz6_5:=blk_frozen BK101.out 5;have hfz6_6:=blk_frozen BK101.out 6)|(go_at_call 48;(with_reducible refine (sawmillref19_sized.calls a0_0 a0_1 a0_2 a0_3 a0_4 _ _ l0_5 _ _ l0_6 true _ ?side1 ?side2 ?side3 ?side4 A2.out).mono ?_);(case side1=>repeat (first|exact (Kd.C_below HR0_5.out HB.out)|(with_reducible refine Kd.C_alloc ?_ _)|(with_reducible refine Kd.C_drewN ?_ _)|(with_reducible refine Kd.C_drew ?_)));(case side2=>exact HC0_5.out);(case side3=>repeat (first|exact (Kd.C_below HR0_6.out HB.out)|(with_reducible refine Kd.C_alloc ?_ _)|(with_reducible refine Kd.C_drewN ?_ _)|(with_reducible refine Kd.C_drew ?_)));(case side4=>exact HC0_6.out);rintro e w7 ⟨rfl,hb⟩;have n0_:=Aside0.mk (blk_below (g:=gb101) (o:=.cells #[.string a0_0,.int .i64 a0_1,.int .i64 a0_2,.int .i64 a0_3,.int .i64 a0_4,.slice A0_5 l0_5.length c0_5,.slice A0_6 l0_6.length c0_6] 53 (0,0)) (by (with_reducible repeat (first|refine blk_drewN ?_ _|refine blk_drew ?_|refine blk_alloc ?_ _));exact BK101.out) hb);have n1_:=Aside0.mk (below_step (by repeat (first|(with_reducible first|exact HB.out|apply below_alloc|apply pw_below_drewN|apply below_drew1|refine below_set ?_ GE101.out)|exact HB.out)) hb);clear BK101;clear HB;have BK101:=n0_;have HB:=n1_;clear n0_ n1_;(try clear hb);(try clear hb2);(try clear hk);(try clear hi);have hcz8_0:w7.cell? ⟨gb101,0,none⟩=some (.string a0_0):=(blk_cell BK101.out 0).trans rfl;have hcz8_1:w7.cell? ⟨gb101,1,none⟩=some (.int .i64 a0_1):=(blk_cell BK101.out 1).trans rfl;have hcz8_2:w7.cell? ⟨gb101,2,none⟩=some (.int .i64 a0_2):=(blk_cell BK101.out 2).trans rfl;have hcz8_3:w7.cell? ⟨gb101,3,none⟩=some (.int .i64 a0_3):=(blk_cell BK101.out 3).trans rfl;have hcz8_4:w7.cell? ⟨gb101,4,none⟩=some (.int .i64 a0_4):=(blk_cell BK101.out 4).trans rfl;have hcz8_5:w7.cell? ⟨gb101,5,none⟩=some (.slice A0_5 l0_5.length c0_5):=(blk_cell BK101.out 5).trans rfl;have hcz8_6:w7.cell? ⟨gb101,6,none⟩=some (.slice A0_6 l0_6.length c0_6):=(blk_cell BK101.out 6).trans rfl;have hfz8_0:=blk_frozen BK101.out 0;have hfz8_1:=blk_frozen BK101.out 1;have hfz8_2:=blk_frozen BK101.out 2;have hfz8_3:=blk_frozen BK101.out 3;have hfz8_4:=blk_frozen BK101.out 4;have hfz8_5:=blk_frozen BK101.out 5;have hfz8_6:=blk_frozen BK101.out 6))
   repeat (go_quiet (first|((with_reducible refine gate_dst (N:=1) rfl ?_);refine box_event ?hg (N:=1) ?hd (cs:=#[.string a0_0,.int .i64 a0_1,.int .i64 a0_2,.int .i64 a0_3,.int .i64 a0_4,.slice A0_5 l0_5.length c0_5,.slice A0_6 l0_6.length c0_6]) (t:=53) ?hr ?_;(case hd=>rfl);(case hg=>rfl);(case hr=>first|(go_simp;done)|(go_simp;rfl));intro gb101 hg w5 hbox hb;have n0_:=Aside0.mk (below_step (by repeat (first|(with_reducible first|exact HB.out|apply below_alloc|apply pw_below_drewN|apply below_drew1)|exact HB.out)) hb);have n1_:=Aside0.mk (hbox);have n2_:=Aside0.mk ((by rw [hg];exact (below_size (by repeat (first|(with_reducible first|exact HB.out|apply below_alloc|apply pw_below_drewN|apply below_drew1)|exact HB.out))):w.heap.size≤gb101));have n3_:=Aside0.mk ((by rw [hg];exact (below_size (by repeat (first|(with_reducible first|exact HB.out|apply below_alloc|apply pw_below_drewN|apply below_drew1)|exact HB.out))):w.heap.size≤gb101));clear HB;have HB:=n0_;have BK101:=n1_;have GW101:=n2_;have GE101:=n3_;clear n0_ n1_ n2_ n3_;clear hb hbox hg;have hcz6_0:w5.cell? ⟨gb101,0,none⟩=some (.string a0_0):=(blk_cell BK101.out 0).trans rfl;have hcz6_1:w5.cell? ⟨gb101,1,none⟩=some (.int .i64 a0_1):=(blk_cell BK101.out 1).trans rfl;have hcz6_2:w5.cell? ⟨gb101,2,none⟩=some (.int .i64 a0_2):=(blk_cell BK101.out 2).trans rfl;have hcz6_3:w5.cell? ⟨gb101,3,none⟩=some (.int .i64 a0_3):=(blk_cell BK101.out 3).trans rfl;have hcz6_4:w5.cell? ⟨gb101,4,none⟩=some (.int .i64 a0_4):=(blk_cell BK101.out 4).trans rfl;have hcz6_5:w5.cell? ⟨gb101,5,none⟩=some (.slice A0_5 l0_5.length c0_5):=(blk_cell BK101.out 5).trans rfl;have hcz6_6:w5.cell? ⟨gb101,6,none⟩=some (.slice A0_6 l0_6.length c0_6):=(blk_cell BK101.out 6).trans rfl;have hfz6_0:=blk_frozen BK101.out 0;have hfz6_1:=blk_frozen BK101.out 1;have hfz6_2:=blk_frozen BK101.out 2;have hfz6_3:=blk_frozen BK101.out 3;have hfz6_4:=blk_frozen BK101.out 4;have hfz6_5:=blk_frozen BK101.out 5;have hfz6_6:=blk_frozen BK101.out 6)|(go_at_call 48;(with_reducible refine (sawmillref19_sized.calls a0_0 a0_1 a0_2 a0_3 a0_4 _ _ l0_5 _ _ l0_6 true _ ?side1 ?side2 ?side3 ?side4 A2.out).mono ?_);(case side1=>repeat (first|exact (Kd.C_below HR0_5.out HB.out)|(with_reducible refine Kd.C_alloc ?_ _)|(with_reducible refine Kd.C_drewN ?_ _)|(with_reducible refine Kd.C_drew ?_)));(case side2=>exact HC0_5.out);(case side3=>repeat (first|exact (Kd.C_below HR0_6.out HB.out)|(with_reducible refine Kd.C_alloc ?_ _)|(with_reducible refine Kd.C_drewN ?_ _)|(with_reducible refine Kd.C_drew ?_)));(case side4=>exact HC0_6.out);rintro e w7 ⟨rfl,hb⟩;have n0_:=Aside0.mk (blk_below (g:=gb101) (o:=.cells #[.string a0_0,.int .i64 a0_1,.int .i64 a0_2,.int .i64 a0_3,.int .i64 a0_4,.slice A0_5 l0_5.length c0_5,.slice A0_6 l0_6.length c0_6] 53 (0,0)) (by (with_reducible repeat (first|refine blk_drewN ?_ _|refine blk_drew ?_|refine blk_alloc ?_ _));exact BK101.out) hb);have n1_:=Aside0.mk (below_step (by repeat (first|(with_reducible first|exact HB.out|apply below_alloc|apply pw_below_drewN|apply below_drew1|refine below_set ?_ GE101.out)|exact HB.out)) hb);clear BK101;clear HB;have BK101:=n0_;have HB:=n1_;clear n0_ n1_;(try clear hb);(try clear hb2);(try clear hk);(try clear hi);have hcz8_0:w7.cell? ⟨gb101,0,none⟩=some (.string a0_0):=(blk_cell BK101.out 0).trans rfl;have hcz8_1:w7.cell? ⟨gb101,1,none⟩=some (.int .i64 a0_1):=(blk_cell BK101.out 1).trans rfl;have hcz8_2:w7.cell? ⟨gb101,2,none⟩=some (.int .i64 a0_2):=(blk_cell BK101.out 2).trans rfl;have hcz8_3:w7.cell? ⟨gb101,3,none⟩=some (.int .i64 a0_3):=(blk_cell BK101.out 3).trans rfl;have hcz8_4:w7.cell? ⟨gb101,4,none⟩=some (.int .i64 a0_4):=(blk_cell BK101.out 4).trans rfl;have hcz8_5:w7.cell? ⟨gb101,5,none⟩=some (.slice A0_5 l0_5.length c0_5):=(blk_cell BK101.out 5).trans rfl;have hcz8_6:w7.cell? ⟨gb101,6,none⟩=some (.slice A0_6 l0_6.length c0_6):=(blk_cell BK101.out 6).trans rfl;have hfz8_0:=blk_frozen BK101.out 0;have hfz8_1:=blk_frozen BK101.out 1;have hfz8_2:=blk_frozen BK101.out 2;have hfz8_3:=blk_frozen BK101.out 3;have hfz8_4:=blk_frozen BK101.out 4;have hfz8_5:=blk_frozen BK101.out 5;have hfz8_6:=blk_frozen BK101.out 6));try go_wp2_with (first|((with_reducible refine gate_dst (N:=1) rfl ?_);refine box_event ?hg (N:=1) ?hd (cs:=#[.string a0_0,.int .i64 a0_1,.int .i64 a0_2,.int .i64 a0_3,.int .i64 a0_4,.slice A0_5 l0_5.length c0_5,.slice A0_6 l0_6.length c0_6]) (t:=53) ?hr ?_;(case hd=>rfl);(case hg=>rfl);(case hr=>first|(go_simp;done)|(go_simp;rfl));intro gb101 hg w5 hbox hb;have n0_:=Aside0.mk (below_step (by repeat (first|(with_reducible first|exact HB.out|apply below_alloc|apply pw_below_drewN|apply below_drew1)|exact HB.out)) hb);have n1_:=Aside0.mk (hbox);have n2_:=Aside0.mk ((by rw [hg];exact (below_size (by repeat (first|(with_reducible first|exact HB.out|apply below_alloc|apply pw_below_drewN|apply below_drew1)|exact HB.out))):w.heap.size≤gb101));have n3_:=Aside0.mk ((by rw [hg];exact (below_size (by repeat (first|(with_reducible first|exact HB.out|apply below_alloc|apply pw_below_drewN|apply below_drew1)|exact HB.out))):w.heap.size≤gb101));clear HB;have HB:=n0_;have BK101:=n1_;have GW101:=n2_;have GE101:=n3_;clear n0_ n1_ n2_ n3_;clear hb hbox hg;have hcz6_0:w5.cell? ⟨gb101,0,none⟩=some (.string a0_0):=(blk_cell BK101.out 0).trans rfl;have hcz6_1:w5.cell? ⟨gb101,1,none⟩=some (.int .i64 a0_1):=(blk_cell BK101.out 1).trans rfl;have hcz6_2:w5.cell? ⟨gb101,2,none⟩=some (.int .i64 a0_2):=(blk_cell BK101.out 2).trans rfl;have hcz6_3:w5.cell? ⟨gb101,3,none⟩=some (.int .i64 a0_3):=(blk_cell BK101.out 3).trans rfl;have hcz6_4:w5.cell? ⟨gb101,4,none⟩=some (.int .i64 a0_4):=(blk_cell BK101.out 4).trans rfl;have hcz6_5:w5.cell? ⟨gb101,5,none⟩=some (.slice A0_5 l0_5.length c0_5):=(blk_cell BK101.out 5).trans rfl;have hcz6_6:w5.cell? ⟨gb101,6,none⟩=some (.slice A0_6 l0_6.length c0_6):=(blk_cell BK101.out 6).trans rfl;have hfz6_0:=blk_frozen BK101.out 0;have hfz6_1:=blk_frozen BK101.out 1;have hfz6_2:=blk_frozen BK101.out 2;have hfz6_3:=blk_frozen BK101.out 3;have hfz6_4:=blk_frozen BK101.out 4;have hfz6_5:=blk_frozen BK101.out 5;have hfz6_6:=blk_frozen BK101.out 6)|(go_at_call 48;(with_reducible refine (sawmillref19_sized.calls a0_0 a0_1 a0_2 a0_3 a0_4 _ _ l0_5 _ _ l0_6 true _ ?side1 ?side2 ?side3 ?side4 A2.out).mono ?_);(case side1=>repeat (first|exact (Kd.C_below HR0_5.out HB.out)|(with_reducible refine Kd.C_alloc ?_ _)|(with_reducible refine Kd.C_drewN ?_ _)|(with_reducible refine Kd.C_drew ?_)));(case side2=>exact HC0_5.out);(case side3=>repeat (first|exact (Kd.C_below HR0_6.out HB.out)|(with_reducible refine Kd.C_alloc ?_ _)|(with_reducible refine Kd.C_drewN ?_ _)|(with_reducible refine Kd.C_drew ?_)));(case side4=>exact HC0_6.out);rintro e w7 ⟨rfl,hb⟩;have n0_:=Aside0.mk (blk_below (g:=gb101) (o:=.cells #[.string a0_0,.int .i64 a0_1,.int .i64 a0_2,.int .i64 a0_3,.int .i64 a0_4,.slice A0_5 l0_5.length c0_5,.slice A0_6 l0_6.length c0_6] 53 (0,0)) (by (with_reducible repeat (first|refine blk_drewN ?_ _|refine blk_drew ?_|refine blk_alloc ?_ _));exact BK101.out) hb);have n1_:=Aside0.mk (below_step (by repeat (first|(with_reducible first|exact HB.out|apply below_alloc|apply pw_below_drewN|apply below_drew1|refine below_set ?_ GE101.out)|exact HB.out)) hb);clear BK101;clear HB;have BK101:=n0_;have HB:=n1_;clear n0_ n1_;(try clear hb);(try clear hb2);(try clear hk);(try clear hi);have hcz8_0:w7.cell? ⟨gb101,0,none⟩=some (.string a0_0):=(blk_cell BK101.out 0).trans rfl;have hcz8_1:w7.cell? ⟨gb101,1,none⟩=some (.int .i64 a0_1):=(blk_cell BK101.out 1).trans rfl;have hcz8_2:w7.cell? ⟨gb101,2,none⟩=some (.int .i64 a0_2):=(blk_cell BK101.out 2).trans rfl;have hcz8_3:w7.cell? ⟨gb101,3,none⟩=some (.int .i64 a0_3):=(blk_cell BK101.out 3).trans rfl;have hcz8_4:w7.cell? ⟨gb101,4,none⟩=some (.int .i64 a0_4):=(blk_cell BK101.out 4).trans rfl;have hcz8_5:w7.cell? ⟨gb101,5,none⟩=some (.slice A0_5 l0_5.length c0_5):=(blk_cell BK101.out 5).trans rfl;have hcz8_6:w7.cell? ⟨gb101,6,none⟩=some (.slice A0_6 l0_6.length c0_6):=(blk_cell BK101.out 6).trans rfl;have hfz8_0:=blk_frozen BK101.out 0;have hfz8_1:=blk_frozen BK101.out 1;have hfz8_2:=blk_frozen BK101.out 2;have hfz8_3:=blk_frozen BK101.out 3;have hfz8_4:=blk_frozen BK101.out 4;have hfz8_5:=blk_frozen BK101.out 5;have hfz8_6:=blk_frozen BK101.out 6)))
   go_ret2
   exact ⟨by first|rfl|(simp [errW_none,errW_some]<;>rfl)|(simp [*,errW_none,errW_some]<;>rfl),by repeat (first|(with_reducible first|exact HB.out|apply below_alloc|apply pw_below_drewN|apply below_drew1|refine below_set ?_ GE101.out)|exact HB.out)⟩
  ·rw [if_neg c4] at H
   have c4b0:decide (a0_3 < 0)=false:=decide_eq_false c4
   clear c4
   by_cases c9:a0_3 > 200
   ·rw [if_pos c9] at H
    have c9b0:decide (200 < a0_3)=true:=decide_eq_true c9
    clear c9
    simp only [Option.some.injEq,Prod.mk.injEq] at H
    obtain ⟨rfl,rfl⟩:=H
    go_enter Tryd.func46,Tryd.ntmps46
    go_wp2_with (first|((with_reducible refine gate_dst (N:=1) rfl ?_);refine box_event ?hg (N:=1) ?hd (cs:=#[.string a0_0,.int .i64 a0_1,.int .i64 a0_2,.int .i64 a0_3,.int .i64 a0_4,.slice A0_5 l0_5.length c0_5,.slice A0_6 l0_6.length c0_6]) (t:=53) ?hr ?_;(case hd=>rfl);(case hg=>rfl);(case hr=>first|(go_simp;done)|(go_simp;rfl));intro gb101 hg w10 hbox hb;have n0_:=Aside0.mk (below_step (by repeat (first|(with_reducible first|exact HB.out|apply below_alloc|apply pw_below_drewN|apply below_drew1)|exact HB.out)) hb);have n1_:=Aside0.mk (hbox);have n2_:=Aside0.mk ((by rw [hg];exact (below_size (by repeat (first|(with_reducible first|exact HB.out|apply below_alloc|apply pw_below_drewN|apply below_drew1)|exact HB.out))):w.heap.size≤gb101));have n3_:=Aside0.mk ((by rw [hg];exact (below_size (by repeat (first|(with_reducible first|exact HB.out|apply below_alloc|apply pw_below_drewN|apply below_drew1)|exact HB.out))):w.heap.size≤gb101));clear HB;have HB:=n0_;have BK101:=n1_;have GW101:=n2_;have GE101:=n3_;clear n0_ n1_ n2_ n3_;clear hb hbox hg;have hcz11_0:w10.cell? ⟨gb101,0,none⟩=some (.string a0_0):=(blk_cell BK101.out 0).trans rfl;have hcz11_1:w10.cell? ⟨gb101,1,none⟩=some (.int .i64 a0_1):=(blk_cell BK101.out 1).trans rfl;have hcz11_2:w10.cell? ⟨gb101,2,none⟩=some (.int .i64 a0_2):=(blk_cell BK101.out 2).trans rfl;have hcz11_3:w10.cell? ⟨gb101,3,none⟩=some (.int .i64 a0_3):=(blk_cell BK101.out 3).trans rfl;have hcz11_4:w10.cell? ⟨gb101,4,none⟩=some (.int .i64 a0_4):=(blk_cell BK101.out 4).trans rfl;have hcz11_5:w10.cell? ⟨gb101,5,none⟩=some (.slice A0_5 l0_5.length c0_5):=(blk_cell BK101.out 5).trans rfl;have hcz11_6:w10.cell? ⟨gb101,6,none⟩=some (.slice A0_6 l0_6.length c0_6):=(blk_cell BK101.out 6).trans rfl;have hfz11_0:=blk_frozen BK101.out 0;have hfz11_1:=blk_frozen BK101.out 1;have hfz11_2:=blk_frozen BK101.out 2;have hfz11_3:=blk_frozen BK101.out 3;have hfz11_4:=blk_frozen BK101.out 4;have hfz11_5:=blk_frozen BK101.out 5;have hfz11_6:=blk_frozen BK101.out 6)|(go_at_call 48;(with_reducible refine (sawmillref19_sized.calls a0_0 a0_1 a0_2 a0_3 a0_4 _ _ l0_5 _ _ l0_6 true _ ?side1 ?side2 ?side3 ?side4 A2.out).mono ?_);(case side1=>repeat (first|exact (Kd.C_below HR0_5.out HB.out)|(with_reducible refine Kd.C_alloc ?_ _)|(with_reducible refine Kd.C_drewN ?_ _)|(with_reducible refine Kd.C_drew ?_)));(case side2=>exact HC0_5.out);(case side3=>repeat (first|exact (Kd.C_below HR0_6.out HB.out)|(with_reducible refine Kd.C_alloc ?_ _)|(with_reducible refine Kd.C_drewN ?_ _)|(with_reducible refine Kd.C_drew ?_)));(case side4=>exact HC0_6.out);rintro e w12 ⟨rfl,hb⟩;have n0_:=Aside0.mk (blk_below (g:=gb101) (o:=.cells #[.string a0_0,.int .i64 a0_1,.int .i64 a0_2,.int .i64 a0_3,.int .i64 a0_4,.slice A0_5 l0_5.length c0_5,.slice A0_6 l0_6.length c0_6] 53 (0,0)) (by (with_reducible repeat (first|refine blk_drewN ?_ _|refine blk_drew ?_|refine blk_alloc ?_ _));exact BK101.out) hb);have n1_:=Aside0.mk (below_step (by repeat (first|(with_reducible first|exact HB.out|apply below_alloc|apply pw_below_drewN|apply below_drew1|refine below_set ?_ GE101.out)|exact HB.out)) hb);clear BK101;clear HB;have BK101:=n0_;have HB:=n1_;clear n0_ n1_;(try clear hb);(try clear hb2);(try clear hk);(try clear hi);have hcz13_0:w12.cell? ⟨gb101,0,none⟩=some (.string a0_0):=(blk_cell BK101.out 0).trans rfl;have hcz13_1:w12.cell? ⟨gb101,1,none⟩=some (.int .i64 a0_1):=(blk_cell BK101.out 1).trans rfl;have hcz13_2:w12.cell? ⟨gb101,2,none⟩=some (.int .i64 a0_2):=(blk_cell BK101.out 2).trans rfl;have hcz13_3:w12.cell? ⟨gb101,3,none⟩=some (.int .i64 a0_3):=(blk_cell BK101.out 3).trans rfl;have hcz13_4:w12.cell? ⟨gb101,4,none⟩=some (.int .i64 a0_4):=(blk_cell BK101.out 4).trans rfl;have hcz13_5:w12.cell? ⟨gb101,5,none⟩=some (.slice A0_5 l0_5.length c0_5):=(blk_cell BK101.out 5).trans rfl;have hcz13_6:w12.cell? ⟨gb101,6,none⟩=some (.slice A0_6 l0_6.length c0_6):=(blk_cell BK101.out 6).trans rfl;have hfz13_0:=blk_frozen BK101.out 0;have hfz13_1:=blk_frozen BK101.out 1;have hfz13_2:=blk_frozen BK101.out 2;have hfz13_3:=blk_frozen BK101.out 3;have hfz13_4:=blk_frozen BK101.out 4;have hfz13_5:=blk_frozen BK101.out 5;have hfz13_6:=blk_frozen BK101.out 6))
    repeat (go_quiet (first|((with_reducible refine gate_dst (N:=1) rfl ?_);refine box_event ?hg (N:=1) ?hd (cs:=#[.string a0_0,.int .i64 a0_1,.int .i64 a0_2,.int .i64 a0_3,.int .i64 a0_4,.slice A0_5 l0_5.length c0_5,.slice A0_6 l0_6.length c0_6]) (t:=53) ?hr ?_;(case hd=>rfl);(case hg=>rfl);(case hr=>first|(go_simp;done)|(go_simp;rfl));intro gb101 hg w10 hbox hb;have n0_:=Aside0.mk (below_step (by repeat (first|(with_reducible first|exact HB.out|apply below_alloc|apply pw_below_drewN|apply below_drew1)|exact HB.out)) hb);have n1_:=Aside0.mk (hbox);have n2_:=Aside0.mk ((by rw [hg];exact (below_size (by repeat (first|(with_reducible first|exact HB.out|apply below_alloc|apply pw_below_drewN|apply below_drew1)|exact HB.out))):w.heap.size≤gb101));have n3_:=Aside0.mk ((by rw [hg];exact (below_size (by repeat (first|(with_reducible first|exact HB.out|apply below_alloc|apply pw_below_drewN|apply below_drew1)|exact HB.out))):w.heap.size≤gb101));clear HB;have HB:=n0_;have BK101:=n1_;have GW101:=n2_;have GE101:=n3_;clear n0_ n1_ n2_ n3_;clear hb hbox hg;have hcz11_0:w10.cell? ⟨gb101,0,none⟩=some (.string a0_0):=(blk_cell BK101.out 0).trans rfl;have hcz11_1:w10.cell? ⟨gb101,1,none⟩=some (.int .i64 a0_1):=(blk_cell BK101.out 1).trans rfl;have hcz11_2:w10.cell? ⟨gb101,2,none⟩=some (.int .i64 a0_2):=(blk_cell BK101.out 2).trans rfl;have hcz11_3:w10.cell? ⟨gb101,3,none⟩=some (.int .i64 a0_3):=(blk_cell BK101.out 3).trans rfl;have hcz11_4:w10.cell? ⟨gb101,4,none⟩=some (.int .i64 a0_4):=(blk_cell BK101.out 4).trans rfl;have hcz11_5:w10.cell? ⟨gb101,5,none⟩=some (.slice A0_5 l0_5.length c0_5):=(blk_cell BK101.out 5).trans rfl;have hcz11_6:w10.cell? ⟨gb101,6,none⟩=some (.slice A0_6 l0_6.length c0_6):=(blk_cell BK101.out 6).trans rfl;have hfz11_0:=blk_frozen BK101.out 0;have hfz11_1:=blk_frozen BK101.out 1;have hfz11_2:=blk_frozen BK101.out 2;have hfz11_3:=blk_frozen BK101.out 3;have hfz11_4:=blk_frozen BK101.out 4;have hfz11_5:=blk_frozen BK101.out 5;have hfz11_6:=blk_frozen BK101.out 6)|(go_at_call 48;(with_reducible refine (sawmillref19_sized.calls a0_0 a0_1 a0_2 a0_3 a0_4 _ _ l0_5 _ _ l0_6 true _ ?side1 ?side2 ?side3 ?side4 A2.out).mono ?_);(case side1=>repeat (first|exact (Kd.C_below HR0_5.out HB.out)|(with_reducible refine Kd.C_alloc ?_ _)|(with_reducible refine Kd.C_drewN ?_ _)|(with_reducible refine Kd.C_drew ?_)));(case side2=>exact HC0_5.out);(case side3=>repeat (first|exact (Kd.C_below HR0_6.out HB.out)|(with_reducible refine Kd.C_alloc ?_ _)|(with_reducible refine Kd.C_drewN ?_ _)|(with_reducible refine Kd.C_drew ?_)));(case side4=>exact HC0_6.out);rintro e w12 ⟨rfl,hb⟩;have n0_:=Aside0.mk (blk_below (g:=gb101) (o:=.cells #[.string a0_0,.int .i64 a0_1,.int .i64 a0_2,.int .i64 a0_3,.int .i64 a0_4,.slice A0_5 l0_5.length c0_5,.slice A0_6 l0_6.length c0_6] 53 (0,0)) (by (with_reducible repeat (first|refine blk_drewN ?_ _|refine blk_drew ?_|refine blk_alloc ?_ _));exact BK101.out) hb);have n1_:=Aside0.mk (below_step (by repeat (first|(with_reducible first|exact HB.out|apply below_alloc|apply pw_below_drewN|apply below_drew1|refine below_set ?_ GE101.out)|exact HB.out)) hb);clear BK101;clear HB;have BK101:=n0_;have HB:=n1_;clear n0_ n1_;(try clear hb);(try clear hb2);(try clear hk);(try clear hi);have hcz13_0:w12.cell? ⟨gb101,0,none⟩=some (.string a0_0):=(blk_cell BK101.out 0).trans rfl;have hcz13_1:w12.cell? ⟨gb101,1,none⟩=some (.int .i64 a0_1):=(blk_cell BK101.out 1).trans rfl;have hcz13_2:w12.cell? ⟨gb101,2,none⟩=some (.int .i64 a0_2):=(blk_cell BK101.out 2).trans rfl;have hcz13_3:w12.cell? ⟨gb101,3,none⟩=some (.int .i64 a0_3):=(blk_cell BK101.out 3).trans rfl;have hcz13_4:w12.cell? ⟨gb101,4,none⟩=some (.int .i64 a0_4):=(blk_cell BK101.out 4).trans rfl;have hcz13_5:w12.cell? ⟨gb101,5,none⟩=some (.slice A0_5 l0_5.length c0_5):=(blk_cell BK101.out 5).trans rfl;have hcz13_6:w12.cell? ⟨gb101,6,none⟩=some (.slice A0_6 l0_6.length c0_6):=(blk_cell BK101.out 6).trans rfl;have hfz13_0:=blk_frozen BK101.out 0;have hfz13_1:=blk_frozen BK101.out 1;have hfz13_2:=blk_frozen BK101.out 2;have hfz13_3:=blk_frozen BK101.out 3;have hfz13_4:=blk_frozen BK101.out 4;have hfz13_5:=blk_frozen BK101.out 5;have hfz13_6:=blk_frozen BK101.out 6));try go_wp2_with (first|((with_reducible refine gate_dst (N:=1) rfl ?_);refine box_event ?hg (N:=1) ?hd (cs:=#[.string a0_0,.int .i64 a0_1,.int .i64 a0_2,.int .i64 a0_3,.int .i64 a0_4,.slice A0_5 l0_5.length c0_5,.slice A0_6 l0_6.length c0_6]) (t:=53) ?hr ?_;(case hd=>rfl);(case hg=>rfl);(case hr=>first|(go_simp;done)|(go_simp;rfl));intro gb101 hg w10 hbox hb;have n0_:=Aside0.mk (below_step (by repeat (first|(with_reducible first|exact HB.out|apply below_alloc|apply pw_below_drewN|apply below_drew1)|exact HB.out)) hb);have n1_:=Aside0.mk (hbox);have n2_:=Aside0.mk ((by rw [hg];exact (below_size (by repeat (first|(with_reducible first|exact HB.out|apply below_alloc|apply pw_below_drewN|apply below_drew1)|exact HB.out))):w.heap.size≤gb101));have n3_:=Aside0.mk ((by rw [hg];exact (below_size (by repeat (first|(with_reducible first|exact HB.out|apply below_alloc|apply pw_below_drewN|apply below_drew1)|exact HB.out))):w.heap.size≤gb101));clear HB;have HB:=n0_;have BK101:=n1_;have GW101:=n2_;have GE101:=n3_;clear n0_ n1_ n2_ n3_;clear hb hbox hg;have hcz11_0:w10.cell? ⟨gb101,0,none⟩=some (.string a0_0):=(blk_cell BK101.out 0).trans rfl;have hcz11_1:w10.cell? ⟨gb101,1,none⟩=some (.int .i64 a0_1):=(blk_cell BK101.out 1).trans rfl;have hcz11_2:w10.cell? ⟨gb101,2,none⟩=some (.int .i64 a0_2):=(blk_cell BK101.out 2).trans rfl;have hcz11_3:w10.cell? ⟨gb101,3,none⟩=some (.int .i64 a0_3):=(blk_cell BK101.out 3).trans rfl;have hcz11_4:w10.cell? ⟨gb101,4,none⟩=some (.int .i64 a0_4):=(blk_cell BK101.out 4).trans rfl;have hcz11_5:w10.cell? ⟨gb101,5,none⟩=some (.slice A0_5 l0_5.length c0_5):=(blk_cell BK101.out 5).trans rfl;have hcz11_6:w10.cell? ⟨gb101,6,none⟩=some (.slice A0_6 l0_6.length c0_6):=(blk_cell BK101.out 6).trans rfl;have hfz11_0:=blk_frozen BK101.out 0;have hfz11_1:=blk_frozen BK101.out 1;have hfz11_2:=blk_frozen BK101.out 2;have hfz11_3:=blk_frozen BK101.out 3;have hfz11_4:=blk_frozen BK101.out 4;have hfz11_5:=blk_frozen BK101.out 5;have hfz11_6:=blk_frozen BK101.out 6)|(go_at_call 48;(with_reducible refine (sawmillref19_sized.calls a0_0 a0_1 a0_2 a0_3 a0_4 _ _ l0_5 _ _ l0_6 true _ ?side1 ?side2 ?side3 ?side4 A2.out).mono ?_);(case side1=>repeat (first|exact (Kd.C_below HR0_5.out HB.out)|(with_reducible refine Kd.C_alloc ?_ _)|(with_reducible refine Kd.C_drewN ?_ _)|(with_reducible refine Kd.C_drew ?_)));(case side2=>exact HC0_5.out);(case side3=>repeat (first|exact (Kd.C_below HR0_6.out HB.out)|(with_reducible refine Kd.C_alloc ?_ _)|(with_reducible refine Kd.C_drewN ?_ _)|(with_reducible refine Kd.C_drew ?_)));(case side4=>exact HC0_6.out);rintro e w12 ⟨rfl,hb⟩;have n0_:=Aside0.mk (blk_below (g:=gb101) (o:=.cells #[.string a0_0,.int .i64 a0_1,.int .i64 a0_2,.int .i64 a0_3,.int .i64 a0_4,.slice A0_5 l0_5.length c0_5,.slice A0_6 l0_6.length c0_6] 53 (0,0)) (by (with_reducible repeat (first|refine blk_drewN ?_ _|refine blk_drew ?_|refine blk_alloc ?_ _));exact BK101.out) hb);have n1_:=Aside0.mk (below_step (by repeat (first|(with_reducible first|exact HB.out|apply below_alloc|apply pw_below_drewN|apply below_drew1|refine below_set ?_ GE101.out)|exact HB.out)) hb);clear BK101;clear HB;have BK101:=n0_;have HB:=n1_;clear n0_ n1_;(try clear hb);(try clear hb2);(try clear hk);(try clear hi);have hcz13_0:w12.cell? ⟨gb101,0,none⟩=some (.string a0_0):=(blk_cell BK101.out 0).trans rfl;have hcz13_1:w12.cell? ⟨gb101,1,none⟩=some (.int .i64 a0_1):=(blk_cell BK101.out 1).trans rfl;have hcz13_2:w12.cell? ⟨gb101,2,none⟩=some (.int .i64 a0_2):=(blk_cell BK101.out 2).trans rfl;have hcz13_3:w12.cell? ⟨gb101,3,none⟩=some (.int .i64 a0_3):=(blk_cell BK101.out 3).trans rfl;have hcz13_4:w12.cell? ⟨gb101,4,none⟩=some (.int .i64 a0_4):=(blk_cell BK101.out 4).trans rfl;have hcz13_5:w12.cell? ⟨gb101,5,none⟩=some (.slice A0_5 l0_5.length c0_5):=(blk_cell BK101.out 5).trans rfl;have hcz13_6:w12.cell? ⟨gb101,6,none⟩=some (.slice A0_6 l0_6.length c0_6):=(blk_cell BK101.out 6).trans rfl;have hfz13_0:=blk_frozen BK101.out 0;have hfz13_1:=blk_frozen BK101.out 1;have hfz13_2:=blk_frozen BK101.out 2;have hfz13_3:=blk_frozen BK101.out 3;have hfz13_4:=blk_frozen BK101.out 4;have hfz13_5:=blk_frozen BK101.out 5;have hfz13_6:=blk_frozen BK101.out 6)))
    go_ret2
    exact ⟨by first|rfl|(simp [errW_none,errW_some]<;>rfl)|(simp [*,errW_none,errW_some]<;>rfl),by repeat (first|(with_reducible first|exact HB.out|apply below_alloc|apply pw_below_drewN|apply below_drew1|refine below_set ?_ GE101.out)|exact HB.out)⟩
   ·rw [if_neg c9] at H
    have c9b0:decide (200 < a0_3)=false:=decide_eq_false c9
    clear c9
    simp only [Option.some.injEq,Prod.mk.injEq] at H
    obtain ⟨rfl,rfl⟩:=H
    go_enter Tryd.func46,Tryd.ntmps46
    go_wp2_with (first|((with_reducible refine gate_dst (N:=1) rfl ?_);refine box_event ?hg (N:=1) ?hd (cs:=#[.string a0_0,.int .i64 a0_1,.int .i64 a0_2,.int .i64 a0_3,.int .i64 a0_4,.slice A0_5 l0_5.length c0_5,.slice A0_6 l0_6.length c0_6]) (t:=53) ?hr ?_;(case hd=>rfl);(case hg=>rfl);(case hr=>first|(go_simp;done)|(go_simp;rfl));intro gb101 hg w14 hbox hb;have n0_:=Aside0.mk (below_step (by repeat (first|(with_reducible first|exact HB.out|apply below_alloc|apply pw_below_drewN|apply below_drew1)|exact HB.out)) hb);have n1_:=Aside0.mk (hbox);have n2_:=Aside0.mk ((by rw [hg];exact (below_size (by repeat (first|(with_reducible first|exact HB.out|apply below_alloc|apply pw_below_drewN|apply below_drew1)|exact HB.out))):w.heap.size≤gb101));have n3_:=Aside0.mk ((by rw [hg];exact (below_size (by repeat (first|(with_reducible first|exact HB.out|apply below_alloc|apply pw_below_drewN|apply below_drew1)|exact HB.out))):w.heap.size≤gb101));clear HB;have HB:=n0_;have BK101:=n1_;have GW101:=n2_;have GE101:=n3_;clear n0_ n1_ n2_ n3_;clear hb hbox hg;have hcz15_0:w14.cell? ⟨gb101,0,none⟩=some (.string a0_0):=(blk_cell BK101.out 0).trans rfl;have hcz15_1:w14.cell? ⟨gb101,1,none⟩=some (.int .i64 a0_1):=(blk_cell BK101.out 1).trans rfl;have hcz15_2:w14.cell? ⟨gb101,2,none⟩=some (.int .i64 a0_2):=(blk_cell BK101.out 2).trans rfl;have hcz15_3:w14.cell? ⟨gb101,3,none⟩=some (.int .i64 a0_3):=(blk_cell BK101.out 3).trans rfl;have hcz15_4:w14.cell? ⟨gb101,4,none⟩=some (.int .i64 a0_4):=(blk_cell BK101.out 4).trans rfl;have hcz15_5:w14.cell? ⟨gb101,5,none⟩=some (.slice A0_5 l0_5.length c0_5):=(blk_cell BK101.out 5).trans rfl;have hcz15_6:w14.cell? ⟨gb101,6,none⟩=some (.slice A0_6 l0_6.length c0_6):=(blk_cell BK101.out 6).trans rfl;have hfz15_0:=blk_frozen BK101.out 0;have hfz15_1:=blk_frozen BK101.out 1;have hfz15_2:=blk_frozen BK101.out 2;have hfz15_3:=blk_frozen BK101.out 3;have hfz15_4:=blk_frozen BK101.out 4;have hfz15_5:=blk_frozen BK101.out 5;have hfz15_6:=blk_frozen BK101.out 6)|(go_at_call 48;(with_reducible refine (sawmillref19_sized.calls a0_0 a0_1 a0_2 a0_3 a0_4 _ _ l0_5 _ _ l0_6 true _ ?side1 ?side2 ?side3 ?side4 A2.out).mono ?_);(case side1=>repeat (first|exact (Kd.C_below HR0_5.out HB.out)|(with_reducible refine Kd.C_alloc ?_ _)|(with_reducible refine Kd.C_drewN ?_ _)|(with_reducible refine Kd.C_drew ?_)));(case side2=>exact HC0_5.out);(case side3=>repeat (first|exact (Kd.C_below HR0_6.out HB.out)|(with_reducible refine Kd.C_alloc ?_ _)|(with_reducible refine Kd.C_drewN ?_ _)|(with_reducible refine Kd.C_drew ?_)));(case side4=>exact HC0_6.out);rintro e w16 ⟨rfl,hb⟩;have n0_:=Aside0.mk (blk_below (g:=gb101) (o:=.cells #[.string a0_0,.int .i64 a0_1,.int .i64 a0_2,.int .i64 a0_3,.int .i64 a0_4,.slice A0_5 l0_5.length c0_5,.slice A0_6 l0_6.length c0_6] 53 (0,0)) (by (with_reducible repeat (first|refine blk_drewN ?_ _|refine blk_drew ?_|refine blk_alloc ?_ _));exact BK101.out) hb);have n1_:=Aside0.mk (below_step (by repeat (first|(with_reducible first|exact HB.out|apply below_alloc|apply pw_below_drewN|apply below_drew1|refine below_set ?_ GE101.out)|exact HB.out)) hb);clear BK101;clear HB;have BK101:=n0_;have HB:=n1_;clear n0_ n1_;(try clear hb);(try clear hb2);(try clear hk);(try clear hi);have hcz17_0:w16.cell? ⟨gb101,0,none⟩=some (.string a0_0):=(blk_cell BK101.out 0).trans rfl;have hcz17_1:w16.cell? ⟨gb101,1,none⟩=some (.int .i64 a0_1):=(blk_cell BK101.out 1).trans rfl;have hcz17_2:w16.cell? ⟨gb101,2,none⟩=some (.int .i64 a0_2):=(blk_cell BK101.out 2).trans rfl;have hcz17_3:w16.cell? ⟨gb101,3,none⟩=some (.int .i64 a0_3):=(blk_cell BK101.out 3).trans rfl;have hcz17_4:w16.cell? ⟨gb101,4,none⟩=some (.int .i64 a0_4):=(blk_cell BK101.out 4).trans rfl;have hcz17_5:w16.cell? ⟨gb101,5,none⟩=some (.slice A0_5 l0_5.length c0_5):=(blk_cell BK101.out 5).trans rfl;have hcz17_6:w16.cell? ⟨gb101,6,none⟩=some (.slice A0_6 l0_6.length c0_6):=(blk_cell BK101.out 6).trans rfl;have hfz17_0:=blk_frozen BK101.out 0;have hfz17_1:=blk_frozen BK101.out 1;have hfz17_2:=blk_frozen BK101.out 2;have hfz17_3:=blk_frozen BK101.out 3;have hfz17_4:=blk_frozen BK101.out 4;have hfz17_5:=blk_frozen BK101.out 5;have hfz17_6:=blk_frozen BK101.out 6))
    repeat (go_quiet (first|((with_reducible refine gate_dst (N:=1) rfl ?_);refine box_event ?hg (N:=1) ?hd (cs:=#[.string a0_0,.int .i64 a0_1,.int .i64 a0_2,.int .i64 a0_3,.int .i64 a0_4,.slice A0_5 l0_5.length c0_5,.slice A0_6 l0_6.length c0_6]) (t:=53) ?hr ?_;(case hd=>rfl);(case hg=>rfl);(case hr=>first|(go_simp;done)|(go_simp;rfl));intro gb101 hg w14 hbox hb;have n0_:=Aside0.mk (below_step (by repeat (first|(with_reducible first|exact HB.out|apply below_alloc|apply pw_below_drewN|apply below_drew1)|exact HB.out)) hb);have n1_:=Aside0.mk (hbox);have n2_:=Aside0.mk ((by rw [hg];exact (below_size (by repeat (first|(with_reducible first|exact HB.out|apply below_alloc|apply pw_below_drewN|apply below_drew1)|exact HB.out))):w.heap.size≤gb101));have n3_:=Aside0.mk ((by rw [hg];exact (below_size (by repeat (first|(with_reducible first|exact HB.out|apply below_alloc|apply pw_below_drewN|apply below_drew1)|exact HB.out))):w.heap.size≤gb101));clear HB;have HB:=n0_;have BK101:=n1_;have GW101:=n2_;have GE101:=n3_;clear n0_ n1_ n2_ n3_;clear hb hbox hg;have hcz15_0:w14.cell? ⟨gb101,0,none⟩=some (.string a0_0):=(blk_cell BK101.out 0).trans rfl;have hcz15_1:w14.cell? ⟨gb101,1,none⟩=some (.int .i64 a0_1):=(blk_cell BK101.out 1).trans rfl;have hcz15_2:w14.cell? ⟨gb101,2,none⟩=some (.int .i64 a0_2):=(blk_cell BK101.out 2).trans rfl;have hcz15_3:w14.cell? ⟨gb101,3,none⟩=some (.int .i64 a0_3):=(blk_cell BK101.out 3).trans rfl;have hcz15_4:w14.cell? ⟨gb101,4,none⟩=some (.int .i64 a0_4):=(blk_cell BK101.out 4).trans rfl;have hcz15_5:w14.cell? ⟨gb101,5,none⟩=some (.slice A0_5 l0_5.length c0_5):=(blk_cell BK101.out 5).trans rfl;have hcz15_6:w14.cell? ⟨gb101,6,none⟩=some (.slice A0_6 l0_6.length c0_6):=(blk_cell BK101.out 6).trans rfl;have hfz15_0:=blk_frozen BK101.out 0;have hfz15_1:=blk_frozen BK101.out 1;have hfz15_2:=blk_frozen BK101.out 2;have hfz15_3:=blk_frozen BK101.out 3;have hfz15_4:=blk_frozen BK101.out 4;have hfz15_5:=blk_frozen BK101.out 5;have hfz15_6:=blk_frozen BK101.out 6)|(go_at_call 48;(with_reducible refine (sawmillref19_sized.calls a0_0 a0_1 a0_2 a0_3 a0_4 _ _ l0_5 _ _ l0_6 true _ ?side1 ?side2 ?side3 ?side4 A2.out).mono ?_);(case side1=>repeat (first|exact (Kd.C_below HR0_5.out HB.out)|(with_reducible refine Kd.C_alloc ?_ _)|(with_reducible refine Kd.C_drewN ?_ _)|(with_reducible refine Kd.C_drew ?_)));(case side2=>exact HC0_5.out);(case side3=>repeat (first|exact (Kd.C_below HR0_6.out HB.out)|(with_reducible refine Kd.C_alloc ?_ _)|(with_reducible refine Kd.C_drewN ?_ _)|(with_reducible refine Kd.C_drew ?_)));(case side4=>exact HC0_6.out);rintro e w16 ⟨rfl,hb⟩;have n0_:=Aside0.mk (blk_below (g:=gb101) (o:=.cells #[.string a0_0,.int .i64 a0_1,.int .i64 a0_2,.int .i64 a0_3,.int .i64 a0_4,.slice A0_5 l0_5.length c0_5,.slice A0_6 l0_6.length c0_6] 53 (0,0)) (by (with_reducible repeat (first|refine blk_drewN ?_ _|refine blk_drew ?_|refine blk_alloc ?_ _));exact BK101.out) hb);have n1_:=Aside0.mk (below_step (by repeat (first|(with_reducible first|exact HB.out|apply below_alloc|apply pw_below_drewN|apply below_drew1|refine below_set ?_ GE101.out)|exact HB.out)) hb);clear BK101;clear HB;have BK101:=n0_;have HB:=n1_;clear n0_ n1_;(try clear hb);(try clear hb2);(try clear hk);(try clear hi);have hcz17_0:w16.cell? ⟨gb101,0,none⟩=some (.string a0_0):=(blk_cell BK101.out 0).trans rfl;have hcz17_1:w16.cell? ⟨gb101,1,none⟩=some (.int .i64 a0_1):=(blk_cell BK101.out 1).trans rfl;have hcz17_2:w16.cell? ⟨gb101,2,none⟩=some (.int .i64 a0_2):=(blk_cell BK101.out 2).trans rfl;have hcz17_3:w16.cell? ⟨gb101,3,none⟩=some (.int .i64 a0_3):=(blk_cell BK101.out 3).trans rfl;have hcz17_4:w16.cell? ⟨gb101,4,none⟩=some (.int .i64 a0_4):=(blk_cell BK101.out 4).trans rfl;have hcz17_5:w16.cell? ⟨gb101,5,none⟩=some (.slice A0_5 l0_5.length c0_5):=(blk_cell BK101.out 5).trans rfl;have hcz17_6:w16.cell? ⟨gb101,6,none⟩=some (.slice A0_6 l0_6.length c0_6):=(blk_cell BK101.out 6).trans rfl;have hfz17_0:=blk_frozen BK101.out 0;have hfz17_1:=blk_frozen BK101.out 1;have hfz17_2:=blk_frozen BK101.out 2;have hfz17_3:=blk_frozen BK101.out 3;have hfz17_4:=blk_frozen BK101.out 4;have hfz17_5:=blk_frozen BK101.out 5;have hfz17_6:=blk_frozen BK101.out 6));try go_wp2_with (first|((with_reducible refine gate_dst (N:=1) rfl ?_);refine box_event ?hg (N:=1) ?hd (cs:=#[.string a0_0,.int .i64 a0_1,.int .i64 a0_2,.int .i64 a0_3,.int .i64 a0_4,.slice A0_5 l0_5.length c0_5,.slice A0_6 l0_6.length c0_6]) (t:=53) ?hr ?_;(case hd=>rfl);(case hg=>rfl);(case hr=>first|(go_simp;done)|(go_simp;rfl));intro gb101 hg w14 hbox hb;have n0_:=Aside0.mk (below_step (by repeat (first|(with_reducible first|exact HB.out|apply below_alloc|apply pw_below_drewN|apply below_drew1)|exact HB.out)) hb);have n1_:=Aside0.mk (hbox);have n2_:=Aside0.mk ((by rw [hg];exact (below_size (by repeat (first|(with_reducible first|exact HB.out|apply below_alloc|apply pw_below_drewN|apply below_drew1)|exact HB.out))):w.heap.size≤gb101));have n3_:=Aside0.mk ((by rw [hg];exact (below_size (by repeat (first|(with_reducible first|exact HB.out|apply below_alloc|apply pw_below_drewN|apply below_drew1)|exact HB.out))):w.heap.size≤gb101));clear HB;have HB:=n0_;have BK101:=n1_;have GW101:=n2_;have GE101:=n3_;clear n0_ n1_ n2_ n3_;clear hb hbox hg;have hcz15_0:w14.cell? ⟨gb101,0,none⟩=some (.string a0_0):=(blk_cell BK101.out 0).trans rfl;have hcz15_1:w14.cell? ⟨gb101,1,none⟩=some (.int .i64 a0_1):=(blk_cell BK101.out 1).trans rfl;have hcz15_2:w14.cell? ⟨gb101,2,none⟩=some (.int .i64 a0_2):=(blk_cell BK101.out 2).trans rfl;have hcz15_3:w14.cell? ⟨gb101,3,none⟩=some (.int .i64 a0_3):=(blk_cell BK101.out 3).trans rfl;have hcz15_4:w14.cell? ⟨gb101,4,none⟩=some (.int .i64 a0_4):=(blk_cell BK101.out 4).trans rfl;have hcz15_5:w14.cell? ⟨gb101,5,none⟩=some (.slice A0_5 l0_5.length c0_5):=(blk_cell BK101.out 5).trans rfl;have hcz15_6:w14.cell? ⟨gb101,6,none⟩=some (.slice A0_6 l0_6.length c0_6):=(blk_cell BK101.out 6).trans rfl;have hfz15_0:=blk_frozen BK101.out 0;have hfz15_1:=blk_frozen BK101.out 1;have hfz15_2:=blk_frozen BK101.out 2;have hfz15_3:=blk_frozen BK101.out 3;have hfz15_4:=blk_frozen BK101.out 4;have hfz15_5:=blk_frozen BK101.out 5;have hfz15_6:=blk_frozen BK101.out 6)|(go_at_call 48;(with_reducible refine (sawmillref19_sized.calls a0_0 a0_1 a0_2 a0_3 a0_4 _ _ l0_5 _ _ l0_6 true _ ?side1 ?side2 ?side3 ?side4 A2.out).mono ?_);(case side1=>repeat (first|exact (Kd.C_below HR0_5.out HB.out)|(with_reducible refine Kd.C_alloc ?_ _)|(with_reducible refine Kd.C_drewN ?_ _)|(with_reducible refine Kd.C_drew ?_)));(case side2=>exact HC0_5.out);(case side3=>repeat (first|exact (Kd.C_below HR0_6.out HB.out)|(with_reducible refine Kd.C_alloc ?_ _)|(with_reducible refine Kd.C_drewN ?_ _)|(with_reducible refine Kd.C_drew ?_)));(case side4=>exact HC0_6.out);rintro e w16 ⟨rfl,hb⟩;have n0_:=Aside0.mk (blk_below (g:=gb101) (o:=.cells #[.string a0_0,.int .i64 a0_1,.int .i64 a0_2,.int .i64 a0_3,.int .i64 a0_4,.slice A0_5 l0_5.length c0_5,.slice A0_6 l0_6.length c0_6] 53 (0,0)) (by (with_reducible repeat (first|refine blk_drewN ?_ _|refine blk_drew ?_|refine blk_alloc ?_ _));exact BK101.out) hb);have n1_:=Aside0.mk (below_step (by repeat (first|(with_reducible first|exact HB.out|apply below_alloc|apply pw_below_drewN|apply below_drew1|refine below_set ?_ GE101.out)|exact HB.out)) hb);clear BK101;clear HB;have BK101:=n0_;have HB:=n1_;clear n0_ n1_;(try clear hb);(try clear hb2);(try clear hk);(try clear hi);have hcz17_0:w16.cell? ⟨gb101,0,none⟩=some (.string a0_0):=(blk_cell BK101.out 0).trans rfl;have hcz17_1:w16.cell? ⟨gb101,1,none⟩=some (.int .i64 a0_1):=(blk_cell BK101.out 1).trans rfl;have hcz17_2:w16.cell? ⟨gb101,2,none⟩=some (.int .i64 a0_2):=(blk_cell BK101.out 2).trans rfl;have hcz17_3:w16.cell? ⟨gb101,3,none⟩=some (.int .i64 a0_3):=(blk_cell BK101.out 3).trans rfl;have hcz17_4:w16.cell? ⟨gb101,4,none⟩=some (.int .i64 a0_4):=(blk_cell BK101.out 4).trans rfl;have hcz17_5:w16.cell? ⟨gb101,5,none⟩=some (.slice A0_5 l0_5.length c0_5):=(blk_cell BK101.out 5).trans rfl;have hcz17_6:w16.cell? ⟨gb101,6,none⟩=some (.slice A0_6 l0_6.length c0_6):=(blk_cell BK101.out 6).trans rfl;have hfz17_0:=blk_frozen BK101.out 0;have hfz17_1:=blk_frozen BK101.out 1;have hfz17_2:=blk_frozen BK101.out 2;have hfz17_3:=blk_frozen BK101.out 3;have hfz17_4:=blk_frozen BK101.out 4;have hfz17_5:=blk_frozen BK101.out 5;have hfz17_6:=blk_frozen BK101.out 6)))
    go_ret2
    exact ⟨by first|rfl|(simp [errW_none,errW_some]<;>rfl)|(simp [*,errW_none,errW_some]<;>rfl),by repeat (first|(with_reducible first|exact HB.out|apply below_alloc|apply pw_below_drewN|apply below_drew1|refine below_set ?_ GE101.out)|exact HB.out)⟩
 ·replace c3:=Bool.eq_false_iff.mpr c3
  subst c3
  have H1:(some (0,0))=some (r1,r2):=by rw [if_neg (show ¬ (false=true) by decide)] at H;exact H
  clear H
  have H:=H1
  clear H1
  simp only [Option.some.injEq,Prod.mk.injEq] at H
  obtain ⟨rfl,rfl⟩:=H
  go_enter Tryd.func46,Tryd.ntmps46
  go_wp2_with (first|((with_reducible refine gate_dst (N:=1) rfl ?_);refine box_event ?hg (N:=1) ?hd (cs:=#[.string a0_0,.int .i64 a0_1,.int .i64 a0_2,.int .i64 a0_3,.int .i64 a0_4,.slice A0_5 l0_5.length c0_5,.slice A0_6 l0_6.length c0_6]) (t:=53) ?hr ?_;(case hd=>rfl);(case hg=>rfl);(case hr=>first|(go_simp;done)|(go_simp;rfl));intro gb101 hg w18 hbox hb;have n0_:=Aside0.mk (below_step (by repeat (first|(with_reducible first|exact HB.out|apply below_alloc|apply pw_below_drewN|apply below_drew1)|exact HB.out)) hb);have n1_:=Aside0.mk (hbox);have n2_:=Aside0.mk ((by rw [hg];exact (below_size (by repeat (first|(with_reducible first|exact HB.out|apply below_alloc|apply pw_below_drewN|apply below_drew1)|exact HB.out))):w.heap.size≤gb101));have n3_:=Aside0.mk ((by rw [hg];exact (below_size (by repeat (first|(with_reducible first|exact HB.out|apply below_alloc|apply pw_below_drewN|apply below_drew1)|exact HB.out))):w.heap.size≤gb101));clear HB;have HB:=n0_;have BK101:=n1_;have GW101:=n2_;have GE101:=n3_;clear n0_ n1_ n2_ n3_;clear hb hbox hg;have hcz19_0:w18.cell? ⟨gb101,0,none⟩=some (.string a0_0):=(blk_cell BK101.out 0).trans rfl;have hcz19_1:w18.cell? ⟨gb101,1,none⟩=some (.int .i64 a0_1):=(blk_cell BK101.out 1).trans rfl;have hcz19_2:w18.cell? ⟨gb101,2,none⟩=some (.int .i64 a0_2):=(blk_cell BK101.out 2).trans rfl;have hcz19_3:w18.cell? ⟨gb101,3,none⟩=some (.int .i64 a0_3):=(blk_cell BK101.out 3).trans rfl;have hcz19_4:w18.cell? ⟨gb101,4,none⟩=some (.int .i64 a0_4):=(blk_cell BK101.out 4).trans rfl;have hcz19_5:w18.cell? ⟨gb101,5,none⟩=some (.slice A0_5 l0_5.length c0_5):=(blk_cell BK101.out 5).trans rfl;have hcz19_6:w18.cell? ⟨gb101,6,none⟩=some (.slice A0_6 l0_6.length c0_6):=(blk_cell BK101.out 6).trans rfl;have hfz19_0:=blk_frozen BK101.out 0;have hfz19_1:=blk_frozen BK101.out 1;have hfz19_2:=blk_frozen BK101.out 2;have hfz19_3:=blk_frozen BK101.out 3;have hfz19_4:=blk_frozen BK101.out 4;have hfz19_5:=blk_frozen BK101.out 5;have hfz19_6:=blk_frozen BK101.out 6)|(go_at_call 48;(with_reducible refine (sawmillref19_sized.calls a0_0 a0_1 a0_2 a0_3 a0_4 _ _ l0_5 _ _ l0_6 false _ ?side1 ?side2 ?side3 ?side4 A2.out).mono ?_);(case side1=>repeat (first|exact (Kd.C_below HR0_5.out HB.out)|(with_reducible refine Kd.C_alloc ?_ _)|(with_reducible refine Kd.C_drewN ?_ _)|(with_reducible refine Kd.C_drew ?_)));(case side2=>exact HC0_5.out);(case side3=>repeat (first|exact (Kd.C_below HR0_6.out HB.out)|(with_reducible refine Kd.C_alloc ?_ _)|(with_reducible refine Kd.C_drewN ?_ _)|(with_reducible refine Kd.C_drew ?_)));(case side4=>exact HC0_6.out);rintro e w20 ⟨rfl,hb⟩;have n0_:=Aside0.mk (blk_below (g:=gb101) (o:=.cells #[.string a0_0,.int .i64 a0_1,.int .i64 a0_2,.int .i64 a0_3,.int .i64 a0_4,.slice A0_5 l0_5.length c0_5,.slice A0_6 l0_6.length c0_6] 53 (0,0)) (by (with_reducible repeat (first|refine blk_drewN ?_ _|refine blk_drew ?_|refine blk_alloc ?_ _));exact BK101.out) hb);have n1_:=Aside0.mk (below_step (by repeat (first|(with_reducible first|exact HB.out|apply below_alloc|apply pw_below_drewN|apply below_drew1|refine below_set ?_ GE101.out)|exact HB.out)) hb);clear BK101;clear HB;have BK101:=n0_;have HB:=n1_;clear n0_ n1_;(try clear hb);(try clear hb2);(try clear hk);(try clear hi)))
  repeat (go_quiet (first|((with_reducible refine gate_dst (N:=1) rfl ?_);refine box_event ?hg (N:=1) ?hd (cs:=#[.string a0_0,.int .i64 a0_1,.int .i64 a0_2,.int .i64 a0_3,.int .i64 a0_4,.slice A0_5 l0_5.length c0_5,.slice A0_6 l0_6.length c0_6]) (t:=53) ?hr ?_;(case hd=>rfl);(case hg=>rfl);(case hr=>first|(go_simp;done)|(go_simp;rfl));intro gb101 hg w18 hbox hb;have n0_:=Aside0.mk (below_step (by repeat (first|(with_reducible first|exact HB.out|apply below_alloc|apply pw_below_drewN|apply below_drew1)|exact HB.out)) hb);have n1_:=Aside0.mk (hbox);have n2_:=Aside0.mk ((by rw [hg];exact (below_size (by repeat (first|(with_reducible first|exact HB.out|apply below_alloc|apply pw_below_drewN|apply below_drew1)|exact HB.out))):w.heap.size≤gb101));have n3_:=Aside0.mk ((by rw [hg];exact (below_size (by repeat (first|(with_reducible first|exact HB.out|apply below_alloc|apply pw_below_drewN|apply below_drew1)|exact HB.out))):w.heap.size≤gb101));clear HB;have HB:=n0_;have BK101:=n1_;have GW101:=n2_;have GE101:=n3_;clear n0_ n1_ n2_ n3_;clear hb hbox hg;have hcz19_0:w18.cell? ⟨gb101,0,none⟩=some (.string a0_0):=(blk_cell BK101.out 0).trans rfl;have hcz19_1:w18.cell? ⟨gb101,1,none⟩=some (.int .i64 a0_1):=(blk_cell BK101.out 1).trans rfl;have hcz19_2:w18.cell? ⟨gb101,2,none⟩=some (.int .i64 a0_2):=(blk_cell BK101.out 2).trans rfl;have hcz19_3:w18.cell? ⟨gb101,3,none⟩=some (.int .i64 a0_3):=(blk_cell BK101.out 3).trans rfl;have hcz19_4:w18.cell? ⟨gb101,4,none⟩=some (.int .i64 a0_4):=(blk_cell BK101.out 4).trans rfl;have hcz19_5:w18.cell? ⟨gb101,5,none⟩=some (.slice A0_5 l0_5.length c0_5):=(blk_cell BK101.out 5).trans rfl;have hcz19_6:w18.cell? ⟨gb101,6,none⟩=some (.slice A0_6 l0_6.length c0_6):=(blk_cell BK101.out 6).trans rfl;have hfz19_0:=blk_frozen BK101.out 0;have hfz19_1:=blk_frozen BK101.out 1;have hfz19_2:=blk_frozen BK101.out 2;have hfz19_3:=blk_frozen BK101.out 3;have hfz19_4:=blk_frozen BK101.out 4;have hfz19_5:=blk_frozen BK101.out 5;have hfz19_6:=blk_frozen BK101.out 6)|(go_at_call 48;(with_reducible refine (sawmillref19_sized.calls a0_0 a0_1 a0_2 a0_3 a0_4 _ _ l0_5 _ _ l0_6 false _ ?side1 ?side2 ?side3 ?side4 A2.out).mono ?_);(case side1=>repeat (first|exact (Kd.C_below HR0_5.out HB.out)|(with_reducible refine Kd.C_alloc ?_ _)|(with_reducible refine Kd.C_drewN ?_ _)|(with_reducible refine Kd.C_drew ?_)));(case side2=>exact HC0_5.out);(case side3=>repeat (first|exact (Kd.C_below HR0_6.out HB.out)|(with_reducible refine Kd.C_alloc ?_ _)|(with_reducible refine Kd.C_drewN ?_ _)|(with_reducible refine Kd.C_drew ?_)));(case side4=>exact HC0_6.out);rintro e w20 ⟨rfl,hb⟩;have n0_:=Aside0.mk (blk_below (g:=gb101) (o:=.cells #[.string a0_0,.int .i64 a0_1,.int .i64 a0_2,.int .i64 a0_3,.int .i64 a0_4,.slice A0_5 l0_5.length c0_5,.slice A0_6 l0_6.length c0_6] 53 (0,0)) (by (with_reducible repeat (first|refine blk_drewN ?_ _|refine blk_drew ?_|refine blk_alloc ?_ _));exact BK101.out) hb);have n1_:=Aside0.mk (below_step (by repeat (first|(with_reducible first|exact HB.out|apply below_alloc|apply pw_below_drewN|apply below_drew1|refine below_set ?_ GE101.out)|exact HB.out)) hb);clear BK101;clear HB;have BK101:=n0_;have HB:=n1_;clear n0_ n1_;(try clear hb);(try clear hb2);(try clear hk);(try clear hi)));try go_wp2_with (first|((with_reducible refine gate_dst (N:=1) rfl ?_);refine box_event ?hg (N:=1) ?hd (cs:=#[.string a0_0,.int .i64 a0_1,.int .i64 a0_2,.int .i64 a0_3,.int .i64 a0_4,.slice A0_5 l0_5.length c0_5,.slice A0_6 l0_6.length c0_6]) (t:=53) ?hr ?_;(case hd=>rfl);(case hg=>rfl);(case hr=>first|(go_simp;done)|(go_simp;rfl));intro gb101 hg w18 hbox hb;have n0_:=Aside0.mk (below_step (by repeat (first|(with_reducible first|exact HB.out|apply below_alloc|apply pw_below_drewN|apply below_drew1)|exact HB.out)) hb);have n1_:=Aside0.mk (hbox);have n2_:=Aside0.mk ((by rw [hg];exact (below_size (by repeat (first|(with_reducible first|exact HB.out|apply below_alloc|apply pw_below_drewN|apply below_drew1)|exact HB.out))):w.heap.size≤gb101));have n3_:=Aside0.mk ((by rw [hg];exact (below_size (by repeat (first|(with_reducible first|exact HB.out|apply below_alloc|apply pw_below_drewN|apply below_drew1)|exact HB.out))):w.heap.size≤gb101));clear HB;have HB:=n0_;have BK101:=n1_;have GW101:=n2_;have GE101:=n3_;clear n0_ n1_ n2_ n3_;clear hb hbox hg;have hcz19_0:w18.cell? ⟨gb101,0,none⟩=some (.string a0_0):=(blk_cell BK101.out 0).trans rfl;have hcz19_1:w18.cell? ⟨gb101,1,none⟩=some (.int .i64 a0_1):=(blk_cell BK101.out 1).trans rfl;have hcz19_2:w18.cell? ⟨gb101,2,none⟩=some (.int .i64 a0_2):=(blk_cell BK101.out 2).trans rfl;have hcz19_3:w18.cell? ⟨gb101,3,none⟩=some (.int .i64 a0_3):=(blk_cell BK101.out 3).trans rfl;have hcz19_4:w18.cell? ⟨gb101,4,none⟩=some (.int .i64 a0_4):=(blk_cell BK101.out 4).trans rfl;have hcz19_5:w18.cell? ⟨gb101,5,none⟩=some (.slice A0_5 l0_5.length c0_5):=(blk_cell BK101.out 5).trans rfl;have hcz19_6:w18.cell? ⟨gb101,6,none⟩=some (.slice A0_6 l0_6.length c0_6):=(blk_cell BK101.out 6).trans rfl;have hfz19_0:=blk_frozen BK101.out 0;have hfz19_1:=blk_frozen BK101.out 1;have hfz19_2:=blk_frozen BK101.out 2;have hfz19_3:=blk_frozen BK101.out 3;have hfz19_4:=blk_frozen BK101.out 4;have hfz19_5:=blk_frozen BK101.out 5;have hfz19_6:=blk_frozen BK101.out 6)|(go_at_call 48;(with_reducible refine (sawmillref19_sized.calls a0_0 a0_1 a0_2 a0_3 a0_4 _ _ l0_5 _ _ l0_6 false _ ?side1 ?side2 ?side3 ?side4 A2.out).mono ?_);(case side1=>repeat (first|exact (Kd.C_below HR0_5.out HB.out)|(with_reducible refine Kd.C_alloc ?_ _)|(with_reducible refine Kd.C_drewN ?_ _)|(with_reducible refine Kd.C_drew ?_)));(case side2=>exact HC0_5.out);(case side3=>repeat (first|exact (Kd.C_below HR0_6.out HB.out)|(with_reducible refine Kd.C_alloc ?_ _)|(with_reducible refine Kd.C_drewN ?_ _)|(with_reducible refine Kd.C_drew ?_)));(case side4=>exact HC0_6.out);rintro e w20 ⟨rfl,hb⟩;have n0_:=Aside0.mk (blk_below (g:=gb101) (o:=.cells #[.string a0_0,.int .i64 a0_1,.int .i64 a0_2,.int .i64 a0_3,.int .i64 a0_4,.slice A0_5 l0_5.length c0_5,.slice A0_6 l0_6.length c0_6] 53 (0,0)) (by (with_reducible repeat (first|refine blk_drewN ?_ _|refine blk_drew ?_|refine blk_alloc ?_ _));exact BK101.out) hb);have n1_:=Aside0.mk (below_step (by repeat (first|(with_reducible first|exact HB.out|apply below_alloc|apply pw_below_drewN|apply below_drew1|refine below_set ?_ GE101.out)|exact HB.out)) hb);clear BK101;clear HB;have BK101:=n0_;have HB:=n1_;clear n0_ n1_;(try clear hb);(try clear hb2);(try clear hk);(try clear hi))))
  go_ret2
  exact ⟨by first|rfl|(simp [errW_none,errW_some]<;>rfl)|(simp [*,errW_none,errW_some]<;>rfl),by repeat (first|(with_reducible first|exact HB.out|apply below_alloc|apply pw_below_drewN|apply below_drew1|refine below_set ?_ GE101.out)|exact HB.out)⟩
end Go.Proofs.YtojkjhaobjidlaaDoor.P
