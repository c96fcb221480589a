/-
  Walks and plain laws on the way to the statement SchedulePrinted; no conditions.
-/
import Derived.Test.YtehdmplngmbnnaaDoorMb2
import Derived.Lib.ItoaMem
import Derived.Lib.ItoaLen
import Derived.Test.YtehdmplngmbnnaaDoorMb3
namespace Go.Proofs.YtehdmplngmbnnaaDoor.P
open Go.RowKit Go.Proofs.YtehdmplngmbnnaaDoorW.PrintWords Go.Proofs.YtehdmplngmbnnaaDoorW.PrintLast Go.Proofs.YtehdmplngmbnnaaDoorW.PrintMore
attribute [local go_sem] max2_int min2_int max_two min_two max_three min_three max_four min_four
attribute [local go_sem] cell_twice
set_option linter.unusedVariables false
set_option linter.unusedSimpArgs false
def sawmillref37_decimal.f:Nat→Int→Option (ByteArray)
 | 0,_=>none
 | k+1,a0=>(some (([(wrap64 (48+(Int.tmod a0 10))) % 256]:List Int):List Int)).bind fun y101=>(if a0 < 10 then (some (strOfNums y101)) else ((sawmillref37_decimal.f k (wrap64 (Int.tdiv a0 10))).bind fun t104=>(if t104.size+(strOfNums y101).size≤9223372036854775807 then (some (t104++(strOfNums y101))) else (none))))
theorem sawmillref37_decimal.mono_l:∀ k,(∀ y0,LeO (sawmillref37_decimal.f k y0) (sawmillref37_decimal.f (k+1) y0))
 | 0=>fun _ r h=>by simp [sawmillref37_decimal.f] at h
 | k+1=>by
  have ih0:=sawmillref37_decimal.mono_l k
  ·intro y0
   unfold sawmillref37_decimal.f
   repeat' first
   | (with_reducible exact ih0 _)
   | (with_reducible exact LeO.refl _)
   | (with_reducible exact LeO.none _)
   | (with_reducible refine LeO.ite ?_ ?_)
   | (with_reducible refine LeO.bind ?_ (fun _=>?_))
   | exact ih0 _
   | exact LeO.none _
   | refine LeO.ite ?_ ?_
   | refine LeO.bind ?_ (fun _=>?_)
theorem sawmillref37_decimal.mono:∀ a0 k,LeO (sawmillref37_decimal.f k a0) (sawmillref37_decimal.f (k+1) a0):=by
 intro a0 k
 have ih0:=sawmillref37_decimal.mono_l k
 exact ih0 a0
set_option maxHeartbeats 8000000 in
set_option maxRecDepth 100000 in
theorem sawmillref37_decimal.calls (k:Nat):∀ (a0:Int) (r:ByteArray) (w:World) (h:sawmillref37_decimal.f k a0=some r),
  Calls Tryd.prog 37 #[.int .i64 a0] w fun e w'=>e=.returned (.string r)∧Below w.heap.size w w':=by
 induction k using Nat.strongRecOn with
 | _ k ih =>
 intro a0 r w h
 cases k with
 | zero=>exact absurd h (by simp [sawmillref37_decimal.f])
 | succ k =>
 simp only [sawmillref37_decimal.f] at h
 have HB:=Aside0.mk (Below.refl w.heap.size w)
 have H:((some (([(wrap64 (48+(Int.tmod a0 10))) % 256]:List Int):List Int)).bind fun y101=>(if a0 < 10 then (some (strOfNums y101)) else ((sawmillref37_decimal.f k (wrap64 (Int.tdiv a0 10))).bind fun t104=>(if t104.size+(strOfNums y101).size≤9223372036854775807 then (some (t104++(strOfNums y101))) else (none)))))=some r:=h
 clear h
 obtain ⟨y101,hy101⟩:∃ y_:List Int,y_=(([(wrap64 (48+(Int.tmod a0 10))) % 256]:List Int)):=⟨_,rfl⟩
 replace H:(if a0 < 10 then (some (strOfNums y101)) else ((sawmillref37_decimal.f k (wrap64 (Int.tdiv a0 10))).bind fun t104=>(if t104.size+(strOfNums y101).size≤9223372036854775807 then (some (t104++(strOfNums y101))) else (none))))=some r:=by first|(rw [hy101];with_reducible exact H)|(have H2_:=(Option.bind_some _ _).symm.trans H;rw [hy101];with_reducible exact H2_)|(have H2_:=(Option.bind_some _ _).symm.trans H;with_reducible exact H2_)|with_reducible exact H|(rw [hy101];exact H)|exact H
 have Ny101:=Aside0.mk hy101
 clear hy101
 by_cases c2:a0 < 10
 ·rw [if_pos c2] at H
  have c2b0:decide (a0 < 10)=true:=decide_eq_true c2
  clear c2
  obtain rfl:=Option.some.inj H
  go_enter Tryd.func37,Tryd.ntmps37
  go_wp2_with (first|((with_reducible refine gate_dst (N:=8) rfl ?_);refine Kd.R_lit (Kd.int .u8) _ 5 ?hg (N:=8) ?hd (xs:=([(wrap64 (48+(Int.tmod a0 10))) % 256]:List Int)) (inner:=[.int .u8 ((wrap64 (48+(Int.tmod a0 10))) % 256)]) (ok:=fun _=>True) (okp:=fun _=>True) ?hr ?hp (fun _ hk=>hk) trivial (Below.refl _ _) (Nat.le_refl _) (by simp) ?_;(case hd=>rfl);(case hg=>rfl);(case hr=>first|(go_simp;done)|(go_simp;rfl));(case hp=>exact (Reps.one (show Kd.M (Kd.int .u8) _ _ _ ((wrap64 (48+(Int.tmod a0 10))) % 256) [.int .u8 ((wrap64 (48+(Int.tmod a0 10))) % 256)] from rfl) (Reps.none _ _)));intro v102 w3 ho4 hb hg_ hnew_;clear hg_ hnew_;(first|rw [← Ny101.out] at ho4|(simp only [Int.reduceToNat] at ho4;rw [← Ny101.out] at ho4));have n0_:=Aside0.mk (Kd.R_lower ho4 (below_size (by repeat (first|(with_reducible first|exact HB.out|apply below_alloc|apply pw_below_drewN|apply below_drew1)|exact HB.out))));have n1_:=Aside0.mk (below_step (by repeat (first|(with_reducible first|exact HB.out|apply below_alloc|apply pw_below_drewN|apply below_drew1)|exact HB.out)) hb);clear HB;have HO103:=n0_;have HB:=n1_;clear n0_ n1_;clear hb ho4;have hcv5:=own_string (P:=Tryd.prog) Tryd.underlying81 Tryd.underlying5 Tryd.underlying9 (Kd.own_of_R HO103.out)))
  go_ret
  exact ⟨by first|rfl|(simp [errW_none,errW_some]<;>rfl)|(simp [*,errW_none,errW_some]<;>rfl),by repeat (first|(with_reducible first|exact HB.out|apply below_alloc|apply pw_below_drewN|apply below_drew1)|exact HB.out)⟩
 ·rw [if_neg c2] at H
  have c2b0:decide (a0 < 10)=false:=decide_eq_false c2
  clear c2
  replace H:=Option.bind_eq_some_iff.mp H
  obtain ⟨t104,A60,H⟩:=H
  replace H:(if t104.size+(strOfNums y101).size≤9223372036854775807 then (some (t104++(strOfNums y101))) else (none))=some r:=H
  have A6:=Aside0.mk A60
  clear A60
  by_cases c7:t104.size+(strOfNums y101).size≤9223372036854775807
  ·rw [if_pos c7] at H
   have c7b0:=eq_true c7
   have c7b1:decide (t104.size+(strOfNums y101).size≤9223372036854775807)=true:=decide_eq_true c7
   try have c7b2:(9223372036854775807 < t104.size+(strOfNums y101).size)=False:=eq_false (Nat.not_lt.2 c7)
   obtain rfl:=Option.some.inj H
   go_enter Tryd.func37,Tryd.ntmps37
   go_wp2_with (first|((with_reducible refine gate_dst (N:=8) rfl ?_);refine Kd.R_lit (Kd.int .u8) _ 5 ?hg (N:=8) ?hd (xs:=([(wrap64 (48+(Int.tmod a0 10))) % 256]:List Int)) (inner:=[.int .u8 ((wrap64 (48+(Int.tmod a0 10))) % 256)]) (ok:=fun _=>True) (okp:=fun _=>True) ?hr ?hp (fun _ hk=>hk) trivial (Below.refl _ _) (Nat.le_refl _) (by simp) ?_;(case hd=>rfl);(case hg=>rfl);(case hr=>first|(go_simp;done)|(go_simp;rfl));(case hp=>exact (Reps.one (show Kd.M (Kd.int .u8) _ _ _ ((wrap64 (48+(Int.tmod a0 10))) % 256) [.int .u8 ((wrap64 (48+(Int.tmod a0 10))) % 256)] from rfl) (Reps.none _ _)));intro v102 w8 ho9 hb hg_ hnew_;clear hg_ hnew_;(first|rw [← Ny101.out] at ho9|(simp only [Int.reduceToNat] at ho9;rw [← Ny101.out] at ho9));have n0_:=Aside0.mk (Kd.R_lower ho9 (below_size (by repeat (first|(with_reducible first|exact HB.out|apply below_alloc|apply pw_below_drewN|apply below_drew1)|exact HB.out))));have n1_:=Aside0.mk (below_step (by repeat (first|(with_reducible first|exact HB.out|apply below_alloc|apply pw_below_drewN|apply below_drew1)|exact HB.out)) hb);clear HB;have HO103:=n0_;have HB:=n1_;clear n0_ n1_;clear hb ho9;have hcv10:=own_string (P:=Tryd.prog) Tryd.underlying81 Tryd.underlying5 Tryd.underlying9 (Kd.own_of_R HO103.out))|((with_reducible refine gate_callee (f:=37) rfl ?_);refine goesL_ (some 15) rfl rfl Tryd.func37 (by kernel_rfl) rfl #[.int .i64 (wrap64 (Int.tdiv a0 10))] rfl (by (try simp only [List.map_toArray,List.map_cons,List.map_nil]);first|done|rfl|(simp only [List.length_drop,List.length_take];rfl)) ?_;(with_reducible refine (ih k (by omega) (wrap64 (Int.tdiv a0 10)) t104 _ A6.out).mono ?_);rintro e w11 ⟨rfl,hb⟩;refine ⟨_,rfl,?_⟩;have n0_:=Aside0.mk (Kd.R_below (by (with_reducible repeat (first|apply Kd.R_alloc|apply Kd.R_drewN|apply Kd.R_drew));exact HO103.out) hb);have n1_:=Aside0.mk (below_step (by repeat (first|(with_reducible first|exact HB.out|apply below_alloc|apply pw_below_drewN|apply below_drew1)|exact HB.out)) hb);clear HO103;clear HB;have HO103:=n0_;have HB:=n1_;clear n0_ n1_;(try clear hb);(try clear hb2);(try clear hk);(try clear hi)))
   go_ret
   exact ⟨by first|rfl|(simp [errW_none,errW_some]<;>rfl)|(simp [*,errW_none,errW_some]<;>rfl),by repeat (first|(with_reducible first|exact HB.out|apply below_alloc|apply pw_below_drewN|apply below_drew1)|exact HB.out)⟩
  ·rw [if_neg c7] at H
   exact absurd H (by simp)
end Go.Proofs.YtehdmplngmbnnaaDoor.P
namespace Go.Proofs.YtehdmplngmbnnaaDoor.P
open Go.RowKit Go.Proofs.YtehdmplngmbnnaaDoorW.PrintWords
set_option linter.unusedVariables false
set_option linter.unusedSimpArgs false
theorem decimal_f:∀ (d n k:Nat),n < 10 ^ d→d < k→n≤1000000→sawmillref37_decimal.f k (n:Int)=some ⟨(Lib.decDigits n).toArray⟩:=by
 intro d
 induction d with
 | zero =>
  intro n k hn hk _
  obtain ⟨k,rfl⟩:∃ m,k=m+1:=⟨k - 1,by omega⟩
  obtain rfl:n=0:=by simpa using hn
  simp only [sawmillref37_decimal.f]
  rw [Lib.decDigits_one (by omega),Option.bind_some,if_pos (by omega),show (wrap64 (48+Int.tmod ((0:Nat):Int) 10)) % 256=48 by decide +kernel]
  rfl
 | succ d ih =>
  intro n k hn hk hb
  obtain ⟨k,rfl⟩:∃ m,k=m+1:=⟨k - 1,by omega⟩
  simp only [sawmillref37_decimal.f]
  have e1:(wrap64 (48+Int.tmod (n:Int) 10)) % 256=((48+n % 10:Nat):Int):=by
   rw [show Int.tmod (n:Int) 10=((n % 10:Nat):Int) from rfl]
   unfold wrap64
   omega
  have e2:wrap64 (Int.tdiv (n:Int) 10)=((n / 10:Nat):Int):=by
   rw [show Int.tdiv (n:Int) 10=((n / 10:Nat):Int) from rfl]
   unfold wrap64
   omega
  rw [e1,Option.bind_some]
  have e3:strOfNums [((48+n % 10:Nat):Int)]=⟨#[UInt8.ofNat (48+n % 10)]⟩:=rfl
  rw [e3]
  by_cases g:n < 10
  ·rw [if_pos (by omega),Lib.decDigits_one g,Nat.mod_eq_of_lt g]
  ·rw [if_neg (by omega),e2,ih (n / 10) k (by rw [Nat.pow_succ] at hn;omega) (by omega) (by omega),Option.bind_some]
   have hl:(⟨(Lib.decDigits (n / 10)).toArray⟩:ByteArray).size≤21:=by
    have:=Lib.itoa_length_le ((n / 10:Nat):Int) (by omega) (by omega)
    rw [Lib.itoa_nonneg] at this
    simpa [ByteArray.size] using this
   rw [if_pos (by have:(⟨#[UInt8.ofNat (48+n % 10)]⟩:ByteArray).size=1:=rfl;omega)]
   rw [show Lib.decDigits n=Lib.decDigits (n / 10)++[UInt8.ofNat (48+n % 10)] by rw [Lib.decDigits,dif_neg g]]
   first|(congr 1;done)|(congr 1;apply ByteArray.ext;simp)
end Go.Proofs.YtehdmplngmbnnaaDoor.P
namespace Go.Proofs.YtehdmplngmbnnaaDoor.P
open Go.RowKit Go.Proofs.YtehdmplngmbnnaaDoorW.PrintWords
set_option linter.unusedVariables false
set_option linter.unusedSimpArgs false
def bl (s:ByteArray):List UInt8:=s.data.toList
def mkB (l:List UInt8):ByteArray:=⟨l.toArray⟩
theorem bl_mkB (l:List UInt8):bl (mkB l)=l:=by simp [bl,mkB]
theorem mkB_bl (s:ByteArray):mkB (bl s)=s:=by
 apply ByteArray.ext
 simp [bl,mkB]
theorem bl_size (s:ByteArray):(bl s).length=s.size:=rfl
theorem mkB_size (l:List UInt8):(mkB l).size=l.length:=rfl
theorem bl_inj {s t:ByteArray} (h:bl s=bl t):s=t:=by rw [← mkB_bl s,h,mkB_bl]
theorem bl_append (s t:ByteArray):bl (s++t)=bl s++bl t:=by simp [bl]
theorem bl_extract (s:ByteArray) (i j:Nat):bl (s.extract i j)=((bl s).drop i).take (j - i):=by
 simp [bl,ByteArray.data_extract,Array.toList_extract]
theorem bl_suffix (s:ByteArray) (i:Nat):bl (s.extract i s.size)=(bl s).drop i:=by
 rw [bl_extract]
 apply List.take_of_length_le
 rw [List.length_drop,bl_size]
 omega
theorem bl_prefix (s:ByteArray) (j:Nat):bl (s.extract 0 j)=(bl s).take j:=by
 rw [bl_extract]
 simp
theorem prefix_mk (s:ByteArray) (j:Nat):s.extract 0 j=mkB ((bl s).take j):=by rw [← bl_prefix,mkB_bl]
theorem u8_eq (c d:UInt8):((c.toNat:Int)=(d.toNat:Int)) ↔ c=d:=⟨fun h=>UInt8.toNat.inj (by omega),fun h=>by rw [h]⟩
theorem bt_cons (s:ByteArray) (c:UInt8) (cs:List UInt8) (i:Nat) (h:(bl s).drop i=c :: cs):i < s.size∧bt s i=(c.toNat:Int)∧(bl s).drop (i+1)=cs:=by
 have hi:i < s.size:=by
  have:=congrArg List.length h
  rw [List.length_drop,bl_size] at this
  simp at this
  omega
 have hd:(bl s).drop i=(bl s)[i]'hi :: (bl s).drop (i+1):=List.drop_eq_getElem_cons hi
 rw [h] at hd
 injection hd with h1 h2
 refine ⟨hi,?_,h2.symm⟩
 have e:=bt_at s (i:Int) (by simpa using hi)
 rw [← e,h1]
 rfl
theorem drop_cons (s:ByteArray) (i:Nat) (hi:i < s.size):∃ c cs,(bl s).drop i=c :: cs:=⟨_,_,List.drop_eq_getElem_cons (show i < (bl s).length from hi)⟩
theorem wrap_nat_s (j:Nat) (h:j≤1000000000):wrap64 (j:Int)=(j:Int):=by
 unfold wrap64
 omega
def skR:Bool→List UInt8→Nat
 | _,[]=>0
 | r,c :: cs=>if c=10 then 1+skR false cs else if r=true ∨ c=32 then 1+skR r cs else if c=35 then 1+skR true cs else 0
theorem skR_le (l:List UInt8):∀ r,skR r l≤l.length:=by
 induction l with
 | nil=>intro r;cases r<;>exact Nat.le_refl _
 | cons c cs ih =>
  intro r
  have h1:=ih false
  have h2:=ih r
  have h3:=ih true
  simp only [skR,List.length_cons]
  split
  ·omega
  ·split
   ·omega
   ·split<;>omega
theorem skR_true (l:List UInt8):skR true l=(l.takeWhile notLf).length+skR false (l.drop (l.takeWhile notLf).length):=by
 induction l with
 | nil=>rfl
 | cons c cs ih =>
  by_cases h:c=10
  ·subst h
   simp [skR,List.takeWhile_cons,notLf]
  ·have hn:notLf c=true:=by simp [notLf,h]
   simp only [skR,List.takeWhile_cons,hn,if_neg h,if_true,List.length_cons,true_or,List.drop_succ_cons]
   rw [ih]
   omega
theorem skip_prog (s:ByteArray) (hs:s.size≤1000000):∀ (n i K:Nat),i+n=s.size→2 * n+2≤K→lexer_skip.l0 K s i=some ((i+skR false ((bl s).drop i):Nat):Int):=by
 intro n
 induction n using Nat.strongRecOn with
 | ind n ih =>
  intro i K hi hK
  obtain ⟨K,rfl⟩:∃ q,K=q+1:=⟨K - 1,by omega⟩
  simp only [lexer_skip.l0]
  by_cases h:n=0
  ·rw [if_neg (by omega),List.drop_eq_nil_of_le (by rw [bl_size];omega)]
   rfl
  ·obtain ⟨c,cs,hc⟩:=drop_cons s i (by omega)
   obtain ⟨h1,h2,h3⟩:=bt_cons s c cs i hc
   obtain ⟨K,rfl⟩:∃ q,K=q+1:=⟨K - 1,by omega⟩
   rw [if_pos (by omega),if_pos (by omega),h2,hc]
   have e:wrap64 ((i:Int)+1)=((i+1:Nat):Int):=wrap_nat_s (i+1) (by omega)
   have e32:((c.toNat:Int)=32) ↔ c=32:=u8_eq c 32
   have e10:((c.toNat:Int)=10) ↔ c=10:=u8_eq c 10
   have e35:((c.toNat:Int)=35) ↔ c=35:=u8_eq c 35
   simp only [lexer_skip.j1,skR]
   by_cases g1:c=32
   ·rw [if_pos (e32.mpr g1),if_pos (by rw [e32.mpr g1];rfl),e,ih (n - 1) (by omega) (i+1) K (by omega) (by omega),h3,g1]
    simp [Nat.add_assoc]
   ·rw [if_neg (fun h=>g1 (e32.mp h))]
    by_cases g2:c=10
    ·rw [if_pos (by rw [e10.mpr g2];rfl),e,ih (n - 1) (by omega) (i+1) K (by omega) (by omega),h3,g2]
     simp [Nat.add_assoc]
    ·have hf:((c.toNat:Int) == 10)=false:=by simpa using fun h=>g2 (e10.mp h)
     rw [hf,if_neg Bool.false_ne_true,if_neg g2,if_neg (show ¬ (false=true ∨ c=32) by simp [g1])]
     by_cases g3:c=35
     ·rw [if_pos (e35.mpr g3),if_pos g3,if_pos (by omega),if_pos (by omega)]
      have hl:lexer_length.f (s.extract (i:Int).toNat s.size) 62=some ((1+(cs.takeWhile notLf).length:Nat):Int):=by
       rw [show ((i:Int)).toNat=i by omega]
       unfold lexer_length.f
       rw [if_pos (by rw [ByteArray.size_extract];omega),if_pos rfl]
       unfold lenP
       rw [show (s.extract i s.size).data.toList=c :: cs from (bl_suffix s i).trans hc,g3,List.takeWhile_cons]
       simp [notLf,Nat.add_comm]
      have hw:(cs.takeWhile notLf).length≤cs.length:=List.Sublist.length_le (List.takeWhile_sublist _)
      have hcs:cs.length+1=n:=by
       have:=congrArg List.length hc
       rw [List.length_drop,bl_size] at this
       simp at this
       omega
      rw [hl,Option.bind_some,show wrap64 ((i:Int)+((1+(cs.takeWhile notLf).length:Nat):Int))=((i+(1+(cs.takeWhile notLf).length):Nat):Int) by rw [← wrap_nat_s _ (show i+(1+(cs.takeWhile notLf).length)≤1000000000 by omega)];congr 1,ih (n - (1+(cs.takeWhile notLf).length)) (by omega) _ K (by omega) (by omega),skR_true]
      have hd:(bl s).drop (i+(1+(cs.takeWhile notLf).length))=cs.drop (cs.takeWhile notLf).length:=by
       rw [← h3,List.drop_drop]
       congr 1
       omega
      rw [hd]
      congr 2
      omega
     ·rw [if_neg (fun h=>g3 (e35.mp h)),if_neg g3]
      rfl
def numAcc:Int→List UInt8→Option Int
 | n,[]=>some n
 | n,c :: cs=>if 10 * n+((c.toNat:Int) - 48) > 1099511627776 then none else numAcc (10 * n+((c.toNat:Int) - 48)) cs
def numRes:Option Int→Int × Int
 | some n=>(n,0)
 | none=>(0,9)
def numL (l:List UInt8):Int × Int:=if l.length > 1∧l.head?=some 48 then (0,5) else numRes (numAcc 0 l)
theorem dig_range {c:UInt8} (h:isDig c=true):48≤c.toNat∧c.toNat≤57:=by
 unfold isDig at h
 simp only [Bool.and_eq_true,decide_eq_true_eq,UInt8.le_iff_toNat_le] at h
 exact h
theorem numAcc_range:∀ (l:List UInt8) (n v:Int),(∀ c ∈ l,isDig c=true)→0≤n→n≤1099511627776→numAcc n l=some v→0≤v∧v≤1099511627776:=by
 intro l
 induction l with
 | nil =>
  intro n v _ h1 h2 h
  simp only [numAcc,Option.some.injEq] at h
  omega
 | cons c cs ih =>
  intro n v hd h1 h2 h
  have:=dig_range (hd c (List.mem_cons_self ..))
  simp only [numAcc] at h
  by_cases g:10 * n+((c.toNat:Int) - 48) > 1099511627776
  ·rw [if_pos g] at h;cases h
  ·rw [if_neg g] at h
   exact ih _ v (fun d hdm=>hd d (List.mem_cons_of_mem _ hdm)) (by omega) (by omega) h
def numOut (s:ByteArray) (r:Int × Int):Int × ByteArray × Int × Int × Int:=if r.2=0 then (2,s,r.1,0,0) else (0,⟨#[]⟩,0,0,r.2)
theorem num_l0 (s:ByteArray) (hs:s.size≤1000000) (hd:∀ c ∈ bl s,isDig c=true):∀ (m i:Nat) (n:Int) (K:Nat),i+m=s.size→0≤n→n≤1099511627776→m+1≤K→lexer_number.l0 K s n (s.size:Int) i=some (numOut s (numRes (numAcc n ((bl s).drop i)))):=by
 intro m
 induction m with
 | zero =>
  intro i n K hi h1 h2 hK
  obtain ⟨K,rfl⟩:∃ q,K=q+1:=⟨K - 1,by omega⟩
  rw [lexer_number.l0,if_neg (by omega),List.drop_eq_nil_of_le (by rw [bl_size];omega)]
  rfl
 | succ m ih =>
  intro i n K hi h1 h2 hK
  obtain ⟨K,rfl⟩:∃ q,K=q+1:=⟨K - 1,by omega⟩
  obtain ⟨c,cs,hc⟩:=drop_cons s i (by omega)
  obtain ⟨g1,g2,g3⟩:=bt_cons s c cs i hc
  have hdc:=dig_range (hd c (List.mem_of_mem_drop (i:=i) (by rw [hc];exact List.mem_cons_self ..)))
  have e1:wrap64 (10 * n)=10 * n:=by
   unfold wrap64
   omega
  have e2:((c.toNat:Int) - 48) % 256=(c.toNat:Int) - 48:=by omega
  have e3:wrap64 (10 * n+((c.toNat:Int) - 48))=10 * n+((c.toNat:Int) - 48):=by
   unfold wrap64
   omega
  have e4:wrap64 ((i:Int)+1)=((i+1:Nat):Int):=wrap_nat_s (i+1) (by omega)
  obtain ⟨v,hv⟩:∃ v,v=10 * n+((c.toNat:Int) - 48):=⟨_,rfl⟩
  rw [← hv] at e3
  rw [lexer_number.l0,if_pos (by omega),if_pos (by omega),if_pos (by omega),g2,hc,e1,e2,← hv,e3,e4]
  by_cases g:v > 1099511627776
  ·have ha:numAcc n (c :: cs)=none:=by
    rw [numAcc,← hv]
    exact if_pos g
   rw [ha]
   exact if_pos g
  ·have ha:numAcc n (c :: cs)=numAcc v cs:=by
    rw [numAcc,← hv]
    exact if_neg g
   rw [ha,if_neg g,ih (i+1) v K (by omega) (by omega) (by omega) (by omega),g3]
theorem number_prog (s:ByteArray) (hs:s.size≤1000000) (hd:∀ c ∈ bl s,isDig c=true) (K:Nat) (hK:s.size+2≤K):lexer_number.f K s=some (numOut s (numL (bl s))):=by
 obtain ⟨K,rfl⟩:∃ q,K=q+1:=⟨K - 1,by omega⟩
 have h0:=num_l0 s hs hd s.size 0 0 K (by omega) (by omega) (by omega) (by omega)
 rw [List.drop_zero] at h0
 unfold lexer_number.f numL
 simp only [lexer_number.j0]
 by_cases g:(s.size:Int) > 1
 ·obtain ⟨c,cs,hc⟩:=drop_cons s 0 (by omega)
  obtain ⟨g1,g2,g3⟩:=bt_cons s c cs 0 hc
  rw [List.drop_zero] at hc
  have hl:(bl s).length > 1:=by rw [bl_size];omega
  rw [if_pos g,if_pos (by omega),show bt s 0=(c.toNat:Int) from g2,hc]
  by_cases e:c=48
  ·subst e
   rw [if_pos (by rfl),if_pos ⟨by rw [← hc];exact hl,rfl⟩]
   rfl
  ·have hf:((c.toNat:Int) == 48)=false:=by simpa using fun h=>e ((u8_eq c 48).mp h)
   rw [hf,if_neg Bool.false_ne_true,if_neg (by rintro ⟨-,h⟩;exact e (Option.some.inj h)),← hc]
   exact h0
 ·rw [if_neg g,if_neg Bool.false_ne_true,if_neg (by rintro ⟨h,-⟩;rw [bl_size] at h;omega)]
  exact h0
def isMk (l:List UInt8):Bool:=(l == [60,61]) || ((l == [62,61]) || ((l == [33,61]) || ((l == [46,46]) || ((l == [60]) || ((l == [61]) || ((l == [62]) || ((l == [40]) || ((l == [41]) || ((l == [123]) || ((l == [125]) || ((l == [44]) || ((l == [59]) || ((l == [58]) || ((l == [43]) || ((l == [45]) || ((l == [42]) || ((l == [47]) || ((l == [64]) || (false)))))))))))))))))))
theorem ite_or {α:Type} [DecidableEq α] {l a:α} {X:Option Bool} {q:Bool} [BEq α] [LawfulBEq α] (h:X=some q):(if l=a then some true else X)=some ((l == a) || q):=by
 by_cases g:l=a
 ·rw [if_pos g,beq_iff_eq.mpr g]
  rfl
 ·rw [if_neg g,h,beq_eq_false_iff_ne.mpr g]
  rfl
theorem mark_prog (s:ByteArray):lexer_IsMark.f s=some (isMk (bl s)):=by
 unfold lexer_IsMark.f isMk
 rw [ByteArray.toList_eq]
 show _=some ((bl s == _) || _)
 unfold bl
 repeat refine ite_or ?_
 rfl
def firstL (l:List UInt8):Int × List UInt8 × Int × Int :=
 match l with
 | []=>(0,[],0,5)
 | c :: cs =>
  if isDig c=true then (if (numL ((c :: cs).takeWhile isDig)).2=0 then (2,(c :: cs).takeWhile isDig,(numL ((c :: cs).takeWhile isDig)).1,0) else (0,[],0,(numL ((c :: cs).takeWhile isDig)).2))
  else if isWrd c=true then (if ((c :: cs).takeWhile isWrd).length > 16 then (0,[],0,6) else (1,(c :: cs).takeWhile isWrd,0,0))
  else if isMk ((c :: cs).take 2)=true then (3,(c :: cs).take 2,0,0) else if isMk ((c :: cs).take 1)=true then (3,(c :: cs).take 1,0,0) else (0,[],0,5)
def firstOut (r:Int × List UInt8 × Int × Int):Int × ByteArray × Int × Int × Int:=(r.1,mkB r.2.1,r.2.2.1,0,r.2.2.2)
theorem take_tw (p:UInt8→Bool) (l:List UInt8):l.take (l.takeWhile p).length=l.takeWhile p:=by
 induction l with
 | nil=>rfl
 | cons c cs ih =>
  by_cases h:p c=true
  ·simp [List.takeWhile_cons,h,ih]
  ·simp [List.takeWhile_cons,h]
theorem tw_mem (p:UInt8→Bool) (l:List UInt8):∀ c ∈ l.takeWhile p,p c=true:=by
 intro c hc
 exact List.all_takeWhile (p:=p) (l:=l) |> fun h=>by simpa using List.all_eq_true.mp h c hc
theorem first_prog (s:ByteArray) (h0:0 < s.size) (hs:s.size≤1000000) (K:Nat) (hK:s.size+10≤K):lexer_first.f K s=some (firstOut (firstL (bl s))):=by
 obtain ⟨K,rfl⟩:∃ q,K=q+3:=⟨K - 3,by omega⟩
 obtain ⟨c,cs,hc⟩:=drop_cons s 0 h0
 obtain ⟨g1,g2,g3⟩:=bt_cons s c cs 0 hc
 rw [List.drop_zero] at hc
 have g2':bt s 0=(c.toNat:Int):=g2
 unfold lexer_first.f
 rw [if_pos (by omega),g2',dig_f,wrd_f,hc]
 simp only [Option.bind_some,firstL]
 by_cases b1:isDig c=true
 ·have hlen:lexer_length.f s 63=some ((((c :: cs).takeWhile isDig).length:Nat):Int):=by
   unfold lexer_length.f lenP
   rw [if_pos (by omega),if_neg (by decide),if_pos rfl,← hc]
   rfl
  have hle:((c :: cs).takeWhile isDig).length≤s.size:=by
   rw [← bl_size,hc]
   exact List.Sublist.length_le (List.takeWhile_sublist _)
  have hx:s.extract 0 ((((c :: cs).takeWhile isDig).length:Nat):Int).toNat=mkB ((c :: cs).takeWhile isDig):=by
   rw [prefix_mk,hc,Int.toNat_natCast,take_tw]
  rw [if_pos b1,if_pos b1,hlen,Option.bind_some,if_pos (by omega),if_pos (by omega),hx,number_prog (mkB _) (by rw [mkB_size];omega) (by rw [bl_mkB];exact tw_mem _ _) _ (by rw [mkB_size];omega),Option.bind_some,bl_mkB]
  unfold numOut
  split<;>rfl
 ·rw [if_neg b1,if_neg b1]
  by_cases b2:isWrd c=true
  ·have hlen:lexer_length.f s 65=some ((((c :: cs).takeWhile isWrd).length:Nat):Int):=by
    unfold lexer_length.f lenP
    rw [if_pos (by omega),if_neg (by decide),if_neg (by decide),if_pos rfl,← hc]
    rfl
   have hle:((c :: cs).takeWhile isWrd).length≤s.size:=by
    rw [← bl_size,hc]
    exact List.Sublist.length_le (List.takeWhile_sublist _)
   rw [if_pos b2,if_pos b2,hlen,Option.bind_some]
   by_cases b3:((c :: cs).takeWhile isWrd).length > 16
   ·rw [if_pos (by omega),if_pos b3]
    rfl
   ·rw [if_neg (by omega),if_neg b3,if_pos (by omega),if_pos (by omega),prefix_mk,hc,Int.toNat_natCast,take_tw]
    rfl
  ·rw [if_neg b2,if_neg b2]
   have step:∀ (n:Nat) (K:Nat),0 < n→n≤s.size→lexer_first.l0 (K+1) s n=if isMk ((c :: cs).take n)=true then some (firstOut (3,(c :: cs).take n,0,0)) else lexer_first.l0 K s ((n:Int) - 1):=by
    intro n K hn hn2
    rw [lexer_first.l0,if_pos (by omega),if_pos (by omega),if_pos (by omega),mark_prog,Option.bind_some,Int.toNat_natCast,bl_prefix,hc,prefix_mk,hc,show wrap64 ((n:Int) - 1)=(n:Int) - 1 by unfold wrap64;omega]
    rfl
   have last:∀ K,lexer_first.l0 (K+1) s 0=some (firstOut (0,[],0,5)):=by
    intro K
    rw [lexer_first.l0,if_neg (by omega)]
    rfl
   by_cases b4:s.size=1
   ·have hcs:cs=[]:=by
     have:=congrArg List.length hc
     rw [bl_size,b4] at this
     simpa using this.symm
    rw [show mn 2 (s.size:Int)=((1:Nat):Int) by unfold mn;rw [b4];rfl,step 1 _ (by omega) (by omega),hcs,show (((1:Nat):Int) - 1)=0 from rfl,last]
    simp only [List.take_succ_cons,List.take_nil,List.take_zero]
    by_cases b5:isMk [c]=true
    ·rw [if_pos b5,if_pos b5]
    ·rw [if_neg b5,if_neg b5,if_neg b5]
   ·rw [show mn 2 (s.size:Int)=((2:Nat):Int) by unfold mn;rw [if_neg (by omega)];rfl,step 2 _ (by omega) (by omega),show (((2:Nat):Int) - 1)=((1:Nat):Int) from rfl,step 1 _ (by omega) (by omega),show (((1:Nat):Int) - 1)=0 from rfl,last]
    by_cases b5:isMk ((c :: cs).take 2)=true
    ·rw [if_pos b5,if_pos b5]
    ·rw [if_neg b5,if_neg b5]
     by_cases b6:isMk ((c :: cs).take 1)=true
     ·rw [if_pos b6,if_pos b6]
     ·rw [if_neg b6,if_neg b6]
theorem first_ok (c:UInt8) (cs:List UInt8) (h:(firstL (c :: cs)).2.2.2=0):1≤(firstL (c :: cs)).2.1.length∧(firstL (c :: cs)).2.1.length≤(c :: cs).length:=by
 have htw:∀ p:UInt8→Bool,p c=true→1≤((c :: cs).takeWhile p).length∧((c :: cs).takeWhile p).length≤(c :: cs).length:=by
  intro p hp
  refine ⟨?_,List.Sublist.length_le (List.takeWhile_sublist _)⟩
  rw [List.takeWhile_cons,hp]
  simp
 simp only [firstL] at h ⊢
 by_cases b1:isDig c=true
 ·rw [if_pos b1] at h ⊢
  split at h
  ·rename_i g
   rw [if_pos g]
   exact htw isDig b1
  ·rename_i g
   exact absurd h g
 ·rw [if_neg b1] at h ⊢
  by_cases b2:isWrd c=true
  ·rw [if_pos b2] at h ⊢
   split at h
   ·cases h
   ·rename_i g
    rw [if_neg g]
    exact htw isWrd b2
  ·rw [if_neg b2] at h ⊢
   split at h
   ·rename_i g
    rw [if_pos g]
    simp only [List.length_take,List.length_cons]
    omega
   ·rename_i g
    rw [if_neg g]
    split at h
    ·rename_i g
     rw [if_pos g]
     simp only [List.length_take,List.length_cons]
     omega
    ·cases h
def scanL:Nat→List UInt8→Nat→List S68 × Int × Int
 | 0,_,_=>([],0,0)
 | _+1,[],a=>([⟨0,⟨#[]⟩,0,(a:Int)⟩],0,0)
 | n+1,c :: cs,a =>
  if (firstL (c :: cs)).2.2.2=0 then
   (if (scanL n ((c :: cs).drop ((firstL (c :: cs)).2.1.length+skR false ((c :: cs).drop (firstL (c :: cs)).2.1.length))) (a+((firstL (c :: cs)).2.1.length+skR false ((c :: cs).drop (firstL (c :: cs)).2.1.length)))).2.1=0 then
    (⟨(firstL (c :: cs)).1,mkB (firstL (c :: cs)).2.1,(firstL (c :: cs)).2.2.1,(a:Int)⟩ :: (scanL n ((c :: cs).drop ((firstL (c :: cs)).2.1.length+skR false ((c :: cs).drop (firstL (c :: cs)).2.1.length))) (a+((firstL (c :: cs)).2.1.length+skR false ((c :: cs).drop (firstL (c :: cs)).2.1.length)))).1,0,0)
   else ([],(scanL n ((c :: cs).drop ((firstL (c :: cs)).2.1.length+skR false ((c :: cs).drop (firstL (c :: cs)).2.1.length))) (a+((firstL (c :: cs)).2.1.length+skR false ((c :: cs).drop (firstL (c :: cs)).2.1.length)))).2))
  else ([],(firstL (c :: cs)).2.2.2,(a:Int))
def accOut (acc:List S68) (r:List S68 × Int × Int):List S68 × Int × Int:=if r.2.1=0 then (acc++r.1,0,0) else ([],r.2)
theorem skip_all (s:ByteArray) (hs:s.size≤1000000) (K:Nat) (hK:2 * s.size+2≤K):lexer_skip.f K s=some ((skR false (bl s):Nat):Int):=by
 have h:=skip_prog s hs s.size 0 K (Nat.zero_add _) hK
 rw [List.drop_zero,Nat.zero_add] at h
 exact h
theorem scan_l0 (s:ByteArray) (hs:s.size≤8000):∀ (n i:Nat) (acc:List S68) (K:Nat),i≤s.size→s.size - i < n→acc.length≤i→(s.size - i)+2 * s.size+20≤K→lexer_Scan.l0 K s acc i=some (accOut acc (scanL n ((bl s).drop i) i)):=by
 intro n
 induction n with
 | zero=>intro i acc K _ h;exact absurd h (Nat.not_lt_zero _)
 | succ n ih =>
  intro i acc K hi hn ha hK
  obtain ⟨K,rfl⟩:∃ q,K=q+1:=⟨K - 1,by omega⟩
  rw [lexer_Scan.l0]
  by_cases h:i=s.size
  ·rw [if_neg (by omega),if_pos (by omega),List.drop_eq_nil_of_le (by rw [bl_size];omega),h]
   rfl
  ·obtain ⟨c,cs,hc⟩:=drop_cons s i (by omega)
   have hcl:(c :: cs).length=s.size - i:=by rw [← hc,List.length_drop,bl_size]
   have hf:lexer_first.f K (s.extract i s.size)=some ((firstL (c :: cs)).1,mkB (firstL (c :: cs)).2.1,(firstL (c :: cs)).2.2.1,0,(firstL (c :: cs)).2.2.2):=by
    rw [first_prog _ (by rw [ByteArray.size_extract];omega) (by rw [ByteArray.size_extract];omega) K (by rw [ByteArray.size_extract];omega),bl_suffix,hc]
    rfl
   rw [if_pos (by omega),if_pos (by omega),if_pos (by omega),Int.toNat_natCast,hf,Option.bind_some,hc]
   simp only [scanL]
   by_cases g:(firstL (c :: cs)).2.2.2=0
   ·obtain ⟨q1,q2⟩:=first_ok c cs g
    obtain ⟨d,hd⟩:∃ d,d=(firstL (c :: cs)).2.1.length:=⟨_,rfl⟩
    have hsk:=skR_le ((c :: cs).drop d) false
    rw [List.length_drop] at hsk
    have hk:lexer_skip.f K (s.extract (((i+d:Nat):Int)).toNat s.size)=some ((skR false ((c :: cs).drop d):Nat):Int):=by
     rw [Int.toNat_natCast,skip_all (s.extract (i+d) s.size) (by rw [ByteArray.size_extract];omega) K (by rw [ByteArray.size_extract];omega),bl_suffix,← List.drop_drop,hc]
    have ha1:acc.length < 3518437208883:=by omega
    have ha2:(0:Int)≤((i+d:Nat):Int):=by omega
    have ha3:((i+d:Nat):Int)≤(s.size:Int):=by omega
    have e1:wrap64 ((i:Int)+((mkB (firstL (c :: cs)).2.1).size:Int))=((i+d:Nat):Int):=by
     rw [mkB_size,← hd,← Int.natCast_add]
     exact wrap_nat_s (i+d) (by omega)
    rw [if_pos g,if_pos g,if_pos ha1,e1,if_pos ha2,if_pos ha3,hk,Option.bind_some,← hd]
    clear e1 hk ha1 ha2 ha3
    have f1:i+(d+skR false ((c :: cs).drop d))≤s.size:=by omega
    have f2:s.size - (i+(d+skR false ((c :: cs).drop d))) < n:=by omega
    have f3:(acc++[(⟨(firstL (c :: cs)).1,mkB (firstL (c :: cs)).2.1,(firstL (c :: cs)).2.2.1,(i:Int)⟩:S68)]).length≤i+(d+skR false ((c :: cs).drop d)):=by
     rw [List.length_append,List.length_singleton]
     omega
    have f4:s.size - (i+(d+skR false ((c :: cs).drop d)))+2 * s.size+20≤K:=by omega
    have e2:wrap64 (((i+d:Nat):Int)+((skR false ((c :: cs).drop d):Nat):Int))=((i+(d+skR false ((c :: cs).drop d)):Nat):Int):=by
     rw [← wrap_nat_s (i+(d+skR false ((c :: cs).drop d))) (by omega)]
     congr 1
     omega
    rw [e2,ih (i+(d+skR false ((c :: cs).drop d))) _ K f1 f2 f3 f4]
    have e3:(bl s).drop (i+(d+skR false ((c :: cs).drop d)))=(c :: cs).drop (d+skR false ((c :: cs).drop d)):=by rw [← List.drop_drop,hc]
    rw [e3]
    unfold accOut
    by_cases g2:(scanL n ((c :: cs).drop (d+skR false ((c :: cs).drop d))) (i+(d+skR false ((c :: cs).drop d)))).2.1=0
    ·rw [if_pos g2,if_pos g2,if_pos rfl,List.append_assoc]
     rfl
    ·rw [if_neg g2,if_neg g2,if_neg g2]
   ·rw [if_neg g,if_neg g]
    unfold accOut
    rw [if_neg g]
def scanB (s:ByteArray):List S68 × Int × Int:=if s.size > 8000 then ([],4,0) else scanL (s.size+1) ((bl s).drop (skR false (bl s))) (skR false (bl s))
theorem scanL_err (n:Nat):∀ (l:List UInt8) (a:Nat),(scanL n l a).2.1=0→(scanL n l a).2.2=0:=by
 induction n with
 | zero=>intro l a _;rfl
 | succ n ih =>
  intro l a h
  cases l with
  | nil=>rfl
  | cons c cs =>
   simp only [scanL] at h ⊢
   by_cases g:(firstL (c :: cs)).2.2.2=0
   ·rw [if_pos g] at h ⊢
    split at h
    ·rename_i g2
     rw [if_pos g2]
    ·rename_i g2
     exact absurd h g2
   ·rw [if_neg g] at h
    exact absurd h g
theorem scanL_nil (n:Nat):∀ (l:List UInt8) (a:Nat),(scanL n l a).2.1 ≠ 0→(scanL n l a).1=[]:=by
 induction n with
 | zero=>intro l a h;rfl
 | succ n ih =>
  intro l a h
  cases l with
  | nil=>exact absurd rfl h
  | cons c cs =>
   simp only [scanL] at h ⊢
   by_cases g:(firstL (c :: cs)).2.2.2=0
   ·rw [if_pos g] at h ⊢
    split at h
    ·exact absurd rfl h
    ·rename_i g2
     rw [if_neg g2]
   ·rw [if_neg g]
theorem accOut_nil (n:Nat) (l:List UInt8) (a:Nat):accOut [] (scanL n l a)=scanL n l a:=by
 unfold accOut
 by_cases g:(scanL n l a).2.1=0
 ·rw [if_pos g,List.nil_append]
  have:=scanL_err n l a g
  refine Prod.ext rfl (Prod.ext g.symm this.symm)
 ·rw [if_neg g]
  exact Prod.ext (scanL_nil n l a g).symm rfl
theorem scan_prog (s:ByteArray) (K:Nat) (hK:3 * s.size+20≤K):lexer_Scan.f K s=some (scanB s):=by
 unfold lexer_Scan.f scanB
 by_cases g:s.size > 8000
 ·rw [if_pos g,if_pos (by omega)]
 ·have hsk:=skR_le (bl s) false
  rw [bl_size] at hsk
  rw [if_neg g,if_neg (by omega)]
  rw [skip_all s (by omega) K (by omega),Option.bind_some,scan_l0 s (by omega) (s.size+1) _ [] K hsk (by omega) (Nat.zero_le _) (by omega),accOut_nil]
end Go.Proofs.YtehdmplngmbnnaaDoor.P
namespace Go.Proofs.YtehdmplngmbnnaaDoor.P
open Go.RowKit Go.Proofs.YtehdmplngmbnnaaDoorW.PrintWords
set_option linter.unusedVariables false
set_option linter.unusedSimpArgs false
theorem dd_step {n:Nat} (g:¬ n < 10):Lib.decDigits n=Lib.decDigits (n / 10)++[UInt8.ofNat (48+n % 10)]:=by rw [Lib.decDigits,dif_neg g]
theorem ofNat_toNat (m:Nat) (h:m < 10):(UInt8.ofNat (48+m)).toNat=48+m:=by
 rw [UInt8.toNat_ofNat']
 exact Nat.mod_eq_of_lt (by omega)
theorem isDig_of (c:UInt8) (h1:48≤c.toNat) (h2:c.toNat≤57):isDig c=true:=by
 unfold isDig
 simp only [Bool.and_eq_true,decide_eq_true_eq,UInt8.le_iff_toNat_le]
 exact ⟨h1,h2⟩
theorem dd_all (n:Nat):∀ c ∈ Lib.decDigits n,isDig c=true:=by
 induction n using Nat.strongRecOn with
 | ind n ih =>
  intro c hc
  by_cases g:n < 10
  ·rw [Lib.decDigits_one g,List.mem_singleton] at hc
   have:=ofNat_toNat n g
   rw [← hc] at this
   exact isDig_of c (by omega) (by omega)
  ·rw [dd_step g,List.mem_append,List.mem_singleton] at hc
   rcases hc with hc|hc
   ·exact ih (n / 10) (by omega) c hc
   ·have:=ofNat_toNat (n % 10) (by omega)
    rw [← hc] at this
    exact isDig_of c (by omega) (by omega)
theorem dd_ne (n:Nat):Lib.decDigits n ≠ []:=by
 by_cases g:n < 10
 ·rw [Lib.decDigits_one g];simp
 ·rw [dd_step g];simp
theorem numAcc_snoc (l:List UInt8):∀ (v:Int) (c:UInt8),numAcc v (l++[c])=(numAcc v l).bind fun w=>if 10 * w+((c.toNat:Int) - 48) > 1099511627776 then none else some (10 * w+((c.toNat:Int) - 48)):=by
 induction l with
 | nil=>intro v c;rfl
 | cons x xs ih =>
  intro v c
  simp only [List.cons_append,numAcc]
  by_cases g:10 * v+((x.toNat:Int) - 48) > 1099511627776
  ·rw [if_pos g,if_pos g]
   rfl
  ·rw [if_neg g,if_neg g,ih]
theorem dd_acc (n:Nat):n≤1099511627776→numAcc 0 (Lib.decDigits n)=some (n:Int):=by
 induction n using Nat.strongRecOn with
 | ind n ih =>
  intro hn
  by_cases g:n < 10
  ·have h:=ofNat_toNat n g
   rw [Lib.decDigits_one g]
   simp only [numAcc]
   rw [h,if_neg (by omega)]
   congr 1
   omega
  ·have h:=ofNat_toNat (n % 10) (by omega)
   rw [dd_step g,numAcc_snoc,ih (n / 10) (by omega) (by omega),Option.bind_some,h,if_neg (by omega)]
   congr 1
   omega
theorem head_app {α:Type} (l m:List α) (h:l ≠ []):(l++m).head?=l.head?:=by
 cases l with
 | nil=>exact absurd rfl h
 | cons x xs=>rfl
theorem dd_head (n:Nat):(Lib.decDigits n).head?=some 48→n=0:=by
 induction n using Nat.strongRecOn with
 | ind n ih =>
  intro h
  by_cases g:n < 10
  ·have h2:=ofNat_toNat n g
   rw [Lib.decDigits_one g] at h
   have h3:=Option.some.inj h
   rw [h3] at h2
   have:(48:UInt8).toNat=48:=rfl
   omega
  ·rw [dd_step g,head_app _ _ (dd_ne _)] at h
   have:=ih (n / 10) (by omega) h
   omega
theorem dd_num (n:Nat) (hn:n≤1099511627776):numL (Lib.decDigits n)=((n:Int),0):=by
 unfold numL
 rw [if_neg,dd_acc n hn]
 ·rfl
 ·rintro ⟨h1,h2⟩
  have:=dd_head n h2
  subst this
  rw [Lib.decDigits_one (by omega)] at h1
  simp at h1
theorem dd_back:∀ (m:Nat) (ds:List UInt8) (v:Int),ds.length=m→ds ≠ []→(∀ c ∈ ds,isDig c=true)→numAcc 0 ds=some v→¬ (ds.length > 1∧ds.head?=some 48)→0≤v∧ds=Lib.decDigits v.toNat:=by
 intro m
 induction m with
 | zero =>
  intro ds v hl hne
  exact absurd (List.eq_nil_of_length_eq_zero hl) hne
 | succ m ih =>
  intro ds v hl hne hd hv hh
  rcases List.eq_nil_or_concat ds with h|⟨l,c,h⟩
  ·exact absurd h hne
  ·rw [List.concat_eq_append] at h
   subst h
   have hc:=dig_range (hd c (by simp))
   rw [numAcc_snoc] at hv
   obtain ⟨w,hw,hv⟩:=Option.bind_eq_some_iff.mp hv
   by_cases g:10 * w+((c.toNat:Int) - 48) > 1099511627776
   ·rw [if_pos g] at hv;cases hv
   ·rw [if_neg g] at hv
    have hv:=Option.some.inj hv
    by_cases hln:l=[]
    ·subst hln
     have hw0:w=0:=by simpa [numAcc] using hw.symm
     refine ⟨by omega,?_⟩
     rw [Lib.decDigits_one (by omega)]
     simp only [List.nil_append]
     congr 1
     apply UInt8.toNat.inj
     rw [ofNat_toNat _ (by omega)]
     omega
    ·have hhead:(l++[c]).head?=l.head?:=head_app _ _ hln
     have hlen:(l++[c]).length > 1:=by
      rw [List.length_append,List.length_singleton]
      have:=List.length_pos_iff.mpr hln
      omega
     have hno:¬ l.head?=some 48:=fun h=>hh ⟨hlen,by rw [hhead];exact h⟩
     obtain ⟨i1,i2⟩:=ih l w (by rw [List.length_append,List.length_singleton] at hl;omega) hln (fun d hd'=>hd d (List.mem_append_left _ hd')) hw (fun h=>hno h.2)
     have hw1:w ≠ 0:=by
      intro h0
      rw [h0] at i2
      apply hno
      rw [i2,Lib.decDigits_one (by decide)]
      rfl
     have hv2:v.toNat / 10=w.toNat:=by omega
     have hv3:v.toNat % 10=c.toNat - 48:=by omega
     refine ⟨by omega,?_⟩
     rw [dd_step (by omega),hv2,hv3,← i2]
     congr 2
     apply UInt8.toNat.inj
     rw [ofNat_toNat _ (by omega)]
     omega
def fmt (n:Int):ByteArray:=mkB (Lib.itoa n)
def tk3 (x:S68):Int × ByteArray × Int:=(x.f0,x.f1,x.f2)
def endT:Int × ByteArray × Int:=(0,⟨#[]⟩,0)
structure Wf (x:S68):Prop where
 kinds:x.f0=1 ∨ x.f0=2 ∨ x.f0=3
 num:x.f0=2→x.f1=fmt x.f2
 zero:x.f0 ≠ 2→x.f2=0
 rng:0≤x.f2∧x.f2≤1099511627776
theorem first_wf (c:UInt8) (cs:List UInt8) (a:Int) (h:(firstL (c :: cs)).2.2.2=0):Wf ⟨(firstL (c :: cs)).1,mkB (firstL (c :: cs)).2.1,(firstL (c :: cs)).2.2.1,a⟩:=by
 simp only [firstL] at h ⊢
 by_cases b1:isDig c=true
 ·rw [if_pos b1] at h ⊢
  by_cases g:(numL ((c :: cs).takeWhile isDig)).2=0
  ·rw [if_pos g]
   have hall:=tw_mem isDig (c :: cs)
   have hne:(c :: cs).takeWhile isDig ≠ []:=by
    rw [List.takeWhile_cons,b1]
    simp
   generalize (c :: cs).takeWhile isDig=ds at *
   unfold numL at g ⊢
   by_cases g2:ds.length > 1∧ds.head?=some 48
   ·rw [if_pos g2] at g
    cases g
   ·rw [if_neg g2] at g ⊢
    cases hv:numAcc 0 ds with
    | none=>rw [hv] at g;cases g
    | some v =>
     obtain ⟨d1,d2⟩:=dd_back ds.length ds v rfl hne hall hv g2
     have hr:=numAcc_range ds 0 v hall (by decide) (by decide) hv
     refine ⟨Or.inr (Or.inl rfl),fun _=>?_,fun h=>absurd rfl h,hr⟩
     show mkB ds=fmt v
     unfold fmt
     rw [show v=((v.toNat:Nat):Int) by omega,Lib.itoa_nonneg,← d2]
  ·rw [if_neg g] at h
   exact absurd h g
 ·rw [if_neg b1] at h ⊢
  by_cases b2:isWrd c=true
  ·rw [if_pos b2] at h ⊢
   split at h
   ·cases h
   ·rename_i g
    rw [if_neg g]
    exact ⟨Or.inl rfl,(fun h=>by simp at h),(fun _=>rfl),(by show (0:Int)≤0∧(0:Int)≤1099511627776;decide)⟩
  ·rw [if_neg b2] at h ⊢
   split at h
   ·rename_i g
    rw [if_pos g]
    exact ⟨Or.inr (Or.inr rfl),(fun h=>by simp at h),(fun _=>rfl),(by show (0:Int)≤0∧(0:Int)≤1099511627776;decide)⟩
   ·rename_i g
    rw [if_neg g]
    split at h
    ·rename_i g
     rw [if_pos g]
     exact ⟨Or.inr (Or.inr rfl),(fun h=>by simp at h),(fun _=>rfl),(by show (0:Int)≤0∧(0:Int)≤1099511627776;decide)⟩
    ·cases h
theorem scanL_wf (n:Nat):∀ (l:List UInt8) (a:Nat),l.length < n→(scanL n l a).2.1=0→∃ ts e,(scanL n l a).1=ts++[(⟨0,⟨#[]⟩,0,e⟩:S68)]∧ts.length≤l.length∧(∀ x ∈ ts,Wf x∧x.f1.size≤l.length∧0≤x.f3∧x.f3≤((a+l.length:Nat):Int))∧0≤e∧e≤((a+l.length:Nat):Int):=by
 induction n with
 | zero=>intro l a h;exact absurd h (Nat.not_lt_zero _)
 | succ n ih =>
  intro l a hl h
  cases l with
  | nil =>
   refine ⟨[],a,rfl,Nat.le_refl _,(fun x hx=>absurd hx (by simp)),(by omega),?_⟩
   simp
  | cons c cs =>
   simp only [scanL] at h ⊢
   by_cases g:(firstL (c :: cs)).2.2.2=0
   ·obtain ⟨q1,q2⟩:=first_ok c cs g
    have hw:=first_wf c cs (a:Int) g
    rw [if_pos g] at h ⊢
    generalize hd:(firstL (c :: cs)).2.1.length+skR false ((c :: cs).drop (firstL (c :: cs)).2.1.length)=d at *
    by_cases g2:(scanL n ((c :: cs).drop d) (a+d)).2.1=0
    ·have hdl:d≤(c :: cs).length:=by
      have:=skR_le ((c :: cs).drop (firstL (c :: cs)).2.1.length) false
      rw [List.length_drop] at this
      omega
     have hln:((c :: cs).drop d).length=(c :: cs).length - d:=List.length_drop
     obtain ⟨ts,e,i1,i2,i3,i4,i5⟩:=ih ((c :: cs).drop d) (a+d) (by omega) g2
     have hbound:a+d+((c :: cs).drop d).length=a+(c :: cs).length:=by omega
     rw [hbound] at i3 i5
     rw [if_pos g2,i1]
     refine ⟨_ :: ts,e,rfl,?_,?_,i4,i5⟩
     ·rw [List.length_cons]
      omega
     ·intro x hx
      rcases List.mem_cons.mp hx with hx|hx
      ·rw [hx]
       refine ⟨hw,q2,?_,?_⟩
       ·show (0:Int)≤(a:Int)
        omega
       ·show (a:Int)≤_
        omega
      ·obtain ⟨j1,j2,j3⟩:=i3 x hx
       exact ⟨j1,by omega,j3⟩
    ·rw [if_neg g2] at h
     exact absurd h g2
   ·rw [if_neg g] at h
    exact absurd h g
theorem scanL_at (n:Nat):∀ (l:List UInt8) (a:Nat),l.length < n→0≤(scanL n l a).2.2∧(scanL n l a).2.2≤((a+l.length:Nat):Int):=by
 induction n with
 | zero=>intro l a h;exact absurd h (Nat.not_lt_zero _)
 | succ n ih =>
  intro l a hl
  cases l with
  | nil =>
   simp only [scanL]
   omega
  | cons c cs =>
   simp only [scanL]
   by_cases g:(firstL (c :: cs)).2.2.2=0
   ·obtain ⟨q1,q2⟩:=first_ok c cs g
    rw [if_pos g]
    generalize hd:(firstL (c :: cs)).2.1.length+skR false ((c :: cs).drop (firstL (c :: cs)).2.1.length)=d at *
    have hdl:d≤(c :: cs).length:=by
     have:=skR_le ((c :: cs).drop (firstL (c :: cs)).2.1.length) false
     rw [List.length_drop] at this
     omega
    have hln:((c :: cs).drop d).length=(c :: cs).length - d:=List.length_drop
    have:=ih ((c :: cs).drop d) (a+d) (by omega)
    split
    ·simp only
     omega
    ·simp only
     omega
   ·rw [if_neg g]
    simp only
    omega
def Lexes (l:List UInt8) (ts:List (Int × ByteArray × Int)):Prop:=∀ n a,l.length < n→(scanL n (l.drop (skR false l)) a).2.1=0∧(scanL n (l.drop (skR false l)) a).1.map tk3=ts++[endT]
theorem Lexes.nil:Lexes [] []:=by
 intro n a h
 obtain ⟨n,rfl⟩:∃ q,n=q+1:=⟨n - 1,by omega⟩
 exact ⟨rfl,rfl⟩
theorem Lexes.blank {l:List UInt8} {ts:List (Int × ByteArray × Int)} (c:UInt8) (hc:c=32 ∨ c=10) (h:Lexes l ts):Lexes (c :: l) ts:=by
 intro n a hn
 have hk:skR false (c :: l)=1+skR false l:=by
  simp only [skR]
  rcases hc with hc|hc
  ·subst hc
   rw [if_neg (by decide),if_pos (Or.inr rfl)]
  ·subst hc
   rw [if_pos rfl]
 rw [hk,Nat.add_comm,List.drop_succ_cons]
 exact h n a (by rw [List.length_cons] at hn;omega)
theorem Lexes.tok {l:List UInt8} {ts:List (Int × ByteArray × Int)} (k:Int) (tx:List UInt8) (v:Int) (hne:tx ≠ []) (hs:skR false (tx++l)=0) (hf:firstL (tx++l)=(k,tx,v,0)) (h:Lexes l ts):Lexes (tx++l) ((k,mkB tx,v) :: ts):=by
 intro n a hn
 rw [hs,List.drop_zero]
 obtain ⟨n,rfl⟩:∃ q,n=q+1:=⟨n - 1,by omega⟩
 have hp:=List.length_pos_iff.mpr hne
 have hl:l.length < n:=by
  rw [List.length_append] at hn
  omega
 obtain ⟨h1,h2⟩:=h n (a+(tx.length+skR false l)) hl
 obtain ⟨c,cs,hcs⟩:∃ c cs,tx++l=c :: cs:=by
  cases tx with
  | nil=>exact absurd rfl hne
  | cons c cs=>exact ⟨c,cs++l,rfl⟩
 have hd:(tx++l).drop tx.length=l:=List.drop_left
 rw [hcs] at hf hd ⊢
 simp only [scanL,hf,hd]
 have hd2:(c :: cs).drop (tx.length+skR false l)=l.drop (skR false l):=by rw [← List.drop_drop,hd]
 rw [hd2,if_pos trivial,if_pos h1]
 refine ⟨rfl,?_⟩
 simp only [List.map_cons,h2]
 rfl
theorem skR_no (c:UInt8) (cs:List UInt8) (h1:c ≠ 10) (h2:c ≠ 32) (h3:c ≠ 35):skR false (c :: cs)=0:=by
 simp only [skR]
 rw [if_neg h1,if_neg (by simp [h2]),if_neg h3]
theorem tw_app (p:UInt8→Bool) (tx l:List UInt8) (h:∀ c ∈ tx,p c=true) (hl:∀ c cs,l=c :: cs→p c=false):(tx++l).takeWhile p=tx:=by
 induction tx with
 | nil =>
  cases l with
  | nil=>rfl
  | cons c cs =>
   have:=hl c cs rfl
   simp [List.takeWhile_cons,this]
 | cons c cs ih =>
  have:=h c (List.mem_cons_self ..)
  rw [List.cons_append,List.takeWhile_cons,this,if_pos rfl,ih (fun d hd=>h d (List.mem_cons_of_mem _ hd))]
theorem wrd_no {c:UInt8} (h:isWrd c=true):c ≠ 10∧c ≠ 32∧c ≠ 35:=by
 refine ⟨?_,?_,?_⟩<;>rintro rfl<;>revert h<;>decide
theorem dig_wrd {c:UInt8} (h:isDig c=true):isWrd c=true:=by
 unfold isWrd
 rw [h]
 rfl
theorem Lexes.word {l:List UInt8} {ts:List (Int × ByteArray × Int)} (c:UInt8) (cs:List UInt8) (hc:isDig c=false) (hw:∀ d ∈ c :: cs,isWrd d=true) (hlen:(c :: cs).length≤16) (hl:∀ d ds,l=d :: ds→isWrd d=false) (h:Lexes l ts):Lexes ((c :: cs)++l) ((1,mkB (c :: cs),0) :: ts):=by
 obtain ⟨n1,n2,n3⟩:=wrd_no (hw c (List.mem_cons_self ..))
 refine Lexes.tok 1 (c :: cs) 0 (by simp) (skR_no _ _ n1 n2 n3) ?_ h
 have ht:=tw_app isWrd (c :: cs) l hw hl
 rw [List.cons_append] at ht ⊢
 simp only [firstL]
 rw [if_neg (by simp [hc]),if_pos (hw c (List.mem_cons_self ..)),ht,if_neg (by omega)]
theorem Lexes.num {l:List UInt8} {ts:List (Int × ByteArray × Int)} (n:Int) (h0:0≤n) (h1:n≤1099511627776) (hl:∀ d ds,l=d :: ds→isDig d=false) (h:Lexes l ts):Lexes (bl (fmt n)++l) ((2,fmt n,n) :: ts):=by
 obtain ⟨m,rfl⟩:∃ m:Nat,n=m:=⟨n.toNat,by omega⟩
 have hb:bl (fmt (m:Int))=Lib.decDigits m:=by
  unfold fmt
  rw [bl_mkB,Lib.itoa_nonneg]
 have hf:fmt (m:Int)=mkB (Lib.decDigits m):=by
  unfold fmt
  rw [Lib.itoa_nonneg]
 rw [hb,hf]
 obtain ⟨c,cs,hcs⟩:∃ c cs,Lib.decDigits m=c :: cs:=by
  cases hd:Lib.decDigits m with
  | nil=>exact absurd hd (dd_ne m)
  | cons c cs=>exact ⟨c,cs,rfl⟩
 have hall:=dd_all m
 have hnum:=dd_num m (by omega)
 rw [hcs] at hall hnum ⊢
 have hdc:=hall c (List.mem_cons_self ..)
 obtain ⟨n1,n2,n3⟩:=wrd_no (dig_wrd hdc)
 refine Lexes.tok 2 (c :: cs) m (by simp) (skR_no _ _ n1 n2 n3) ?_ h
 have ht:=tw_app isDig (c :: cs) l hall hl
 rw [List.cons_append] at ht ⊢
 simp only [firstL]
 rw [if_pos hdc,ht,hnum,if_pos rfl]
theorem Lexes.mark {l:List UInt8} {ts:List (Int × ByteArray × Int)} (c:UInt8) (h1:isWrd c=false) (h2:c ≠ 10∧c ≠ 32∧c ≠ 35) (hm:isMk [c]=true) (hno:∀ d,isMk [c,d]=false) (h:Lexes l ts):Lexes (c :: l) ((3,mkB [c],0) :: ts):=by
 refine Lexes.tok 3 [c] 0 (by simp) (skR_no _ _ h2.1 h2.2.1 h2.2.2) ?_ h
 have hd:isDig c=false:=by
  by_cases g:isDig c=true
  ·rw [dig_wrd g] at h1;cases h1
  ·simpa using g
 rw [List.singleton_append]
 simp only [firstL]
 rw [if_neg (by simp [hd]),if_neg (by simp [h1])]
 cases l with
 | nil =>
  rw [show ([c]:List UInt8).take 2=[c] from rfl,if_pos hm]
 | cons d ds =>
  rw [show (c :: d :: ds).take 2=[c,d] from rfl,hno d,if_neg Bool.false_ne_true,show (c :: d :: ds).take 1=[c] from rfl,if_pos hm]
end Go.Proofs.YtehdmplngmbnnaaDoor.P
namespace Go.Proofs.YtehdmplngmbnnaaDoor.P
open Go.RowKit Go.Proofs.YtehdmplngmbnnaaDoorW.PrintWords
set_option linter.unusedVariables false
set_option linter.unusedSimpArgs false
def found (o:Option S24):ByteArray × Int × List S52 × Bool:=match o with
 | none=>(⟨#[]⟩,0,[],false)
 | some s=>(s.f0,s.f1,s.f2,true)
theorem find_prog (n:ByteArray) (l:List S24) (hl:l.length≤1000000) (hs:∀ s ∈ l,s.f2.length≤1000000):schedule_Find.f l n=some (found (l.find? (hasNm n))):=by
 unfold schedule_Find.f
 rw [if_pos hl]
 cases h:l.find? (hasNm n) with
 | none=>rfl
 | some s =>
  simp only [if_pos (hs s (List.mem_of_find?_eq_some h))]
  rfl
end Go.Proofs.YtehdmplngmbnnaaDoor.P
namespace Go.Proofs.YtehdmplngmbnnaaDoor.P
open Go.RowKit Go.Proofs.YtehdmplngmbnnaaDoorW.PrintWords
set_option linter.unusedVariables false
set_option linter.unusedSimpArgs false
theorem rd_mem {l:List S24} (i:Int) (h0:0≤i) (h1:i < (l.length:Int)):rd_T24 l i ∈ l:=by
 have hk:i.toNat < l.length:=by omega
 unfold rd_T24
 rw [List.getD_eq_getElem?_getD,List.getElem?_eq_getElem hk]
 simp
theorem last_some (l:List S24) (hl:0 < l.length) (hl2:l.length≤1000) (hs:∀ s ∈ l,s.f0.size≤100000∧s.f2.length≤1000000):∃ e,schedule_last.f l=some e:=by
 have e:wrap64 ((l.length:Int) - 1)=(l.length:Int) - 1:=by
  unfold wrap64
  omega
 unfold schedule_last.f
 rw [e]
 have q0:0≤(l.length:Int) - 1:=by omega
 have q1:(l.length:Int) - 1 < (l.length:Int):=by omega
 have q3:(l.length:Int) - 1≤(l.length:Int):=by omega
 by_cases g1:(l.length:Int) - 1 ≥ 8
 ·simp only [if_pos g1]
  exact ⟨_,rfl⟩
 ·simp only [if_neg g1,if_pos q0,if_pos q1,if_pos q3]
  obtain ⟨c,hc⟩:∃ c,schedule_Check.f (rd_T24 l ((l.length:Int) - 1)).f0 (rd_T24 l ((l.length:Int) - 1)).f1 (rd_T24 l ((l.length:Int) - 1)).f2=some c:=⟨_,rfl⟩
  rw [hc,Option.bind_some]
  by_cases g2:c=0
  ·rw [if_pos g2,find_prog _ _ (by rw [List.length_take];omega) (fun s hx=>by have:=(hs s (List.mem_of_mem_take hx)).2;omega)]
   simp only [Option.bind_some]
   split<;>exact ⟨_,rfl⟩
  ·rw [if_neg g2]
   exact ⟨_,rfl⟩
end Go.Proofs.YtehdmplngmbnnaaDoor.P
namespace Go.Proofs.YtehdmplngmbnnaaDoor.P
open Go.RowKit Go.Proofs.YtehdmplngmbnnaaDoorW.PrintWords
set_option linter.unusedVariables false
set_option linter.unusedSimpArgs false
theorem stOk_eq (s:S52):stOk s=(decide (0≤s.f0) && decide (s.f0≤20000) && (decide (0≤s.f1) && decide (s.f1≤10000)) && !(decide (s.f0=0) && decide (s.f1=0)) && (decide (200≤s.f2) && decide (s.f2≤1200)) && (decide (0≤s.f3) && decide (s.f3≤400))):=by
 rw [Bool.eq_iff_iff]
 unfold stOk stChk
 simp only [Bool.and_eq_true,Bool.not_eq_true',Bool.or_eq_false_iff,decide_eq_false_iff_not,beq_eq_false_iff_ne,ne_eq,decide_eq_true_eq,Bool.and_eq_false_iff]
 constructor
 ·rintro ⟨⟨⟨⟨⟨a1,a2⟩,a3,a4⟩,a5,a6⟩,a7,a8⟩,hz⟩
  have hw:wrap64 (s.f0+s.f1)=s.f0+s.f1:=by
   unfold wrap64
   omega
  rw [hw] at hz
  omega
 ·rintro ⟨⟨⟨⟨⟨a1,a2⟩,a3,a4⟩,hz⟩,a5,a6⟩,a7,a8⟩
  have hw:wrap64 (s.f0+s.f1)=s.f0+s.f1:=by
   unfold wrap64
   omega
  rw [hw]
  omega
end Go.Proofs.YtehdmplngmbnnaaDoor.P
namespace Go.Proofs.YtehdmplngmbnnaaDoor.P
open Go.RowKit Go.Proofs.YtehdmplngmbnnaaDoorW.PrintWords
set_option linter.unusedVariables false
set_option linter.unusedSimpArgs false
def fm (n:Int):ByteArray:=⟨(Lib.itoa n).toArray⟩
theorem itoa_f (n:Int) (h0:0≤n) (h1:n≤1000000):strconv_Itoa.f n=some (fm n):=by
 unfold strconv_Itoa.f
 rw [if_pos (by omega),if_pos (by omega)]
 rfl
theorem fm_size (n:Int) (h0:0≤n) (h1:n≤1000000):(fm n).size≤21:=by
 have:=Lib.itoa_length_le n (by omega) (by omega)
 simpa [fm,ByteArray.size] using this
def pPart (wd:ByteArray) (n:Int):ByteArray:=if 0 < n then wd++fm n else ⟨#[]⟩
def stageTxt (x:S52):ByteArray:=pPart (⟨#[32,98,101,108,111,119,32]⟩:ByteArray) x.f0++(pPart (⟨#[32,102,111,114,32]⟩:ByteArray) x.f1++((⟨#[32,97,116,32]⟩:ByteArray)++(fm x.f2++((⟨#[32,45,32]⟩:ByteArray)++(fm x.f3++(⟨#[59]⟩:ByteArray))))))
theorem app_nil (t:ByteArray):t++(⟨#[]⟩:ByteArray)=t:=by
 apply ByteArray.ext
 simp
theorem part_prog (t wd w2:ByteArray) (n:Int) (h1:n≤1000000) (hw:((⟨#[32]⟩:ByteArray)++wd)++(⟨#[32]⟩:ByteArray)=w2) (hz:t.size+w2.size+21≤1000000000):addPart t wd n=some (t++pPart w2 n):=by
 unfold addPart pPart
 by_cases g:0 < n
 ·have:=fm_size n (by omega) h1
  rw [if_pos g,if_pos g,itoa_f n (by omega) h1,Option.bind_some,hw]
  unfold apd
  rw [if_pos (by rw [ByteArray.size_append];omega)]
 ·rw [if_neg g,if_neg g,app_nil]
theorem stOk_nums (x:S52) (h:stOk x=true):0≤x.f0∧x.f0≤20000∧0≤x.f1∧x.f1≤10000∧200≤x.f2∧x.f2≤1200∧0≤x.f3∧x.f3≤400:=by
 rw [stOk_eq] at h
 simp only [Bool.and_eq_true,decide_eq_true_eq] at h
 omega
theorem part_size (wd:ByteArray) (n:Int) (h1:n≤1000000):(pPart wd n).size≤wd.size+21:=by
 unfold pPart
 split
 ·have:=fm_size n (by omega) h1
  rw [ByteArray.size_append]
  omega
 ·exact Nat.zero_le _
theorem stage_size (x:S52) (h:stOk x=true):(stageTxt x).size≤200:=by
 obtain ⟨a1,a2,a3,a4,a5,a6,a7,a8⟩:=stOk_nums x h
 have:=part_size (⟨#[32,98,101,108,111,119,32]⟩:ByteArray) x.f0 (by omega)
 have:=part_size (⟨#[32,102,111,114,32]⟩:ByteArray) x.f1 (by omega)
 have:=fm_size x.f2 (by omega) (by omega)
 have:=fm_size x.f3 (by omega) (by omega)
 have e1:(⟨#[32,98,101,108,111,119,32]⟩:ByteArray).size=7:=rfl
 have e2:(⟨#[32,102,111,114,32]⟩:ByteArray).size=5:=rfl
 have e3:(⟨#[32,97,116,32]⟩:ByteArray).size=4:=rfl
 have e4:(⟨#[32,45,32]⟩:ByteArray).size=3:=rfl
 have e5:(⟨#[59]⟩:ByteArray).size=1:=rfl
 unfold stageTxt
 simp only [ByteArray.size_append]
 omega
theorem stage_prog (t:ByteArray) (x:S52) (h:stOk x=true) (hz:t.size≤100000000):addStage t x=some (t++stageTxt x):=by
 obtain ⟨a1,a2,a3,a4,a5,a6,a7,a8⟩:=stOk_nums x h
 have s1:=part_size (⟨#[32,98,101,108,111,119,32]⟩:ByteArray) x.f0 (by omega)
 have s2:=part_size (⟨#[32,102,111,114,32]⟩:ByteArray) x.f1 (by omega)
 have s3:=fm_size x.f2 (by omega) (by omega)
 have s4:=fm_size x.f3 (by omega) (by omega)
 have e1:(⟨#[32,98,101,108,111,119,32]⟩:ByteArray).size=7:=rfl
 have e2:(⟨#[32,102,111,114,32]⟩:ByteArray).size=5:=rfl
 unfold addStage
 rw [part_prog t _ (⟨#[32,98,101,108,111,119,32]⟩:ByteArray) x.f0 (by omega) rfl (by omega),Option.bind_some,part_prog _ _ (⟨#[32,102,111,114,32]⟩:ByteArray) x.f1 (by omega) rfl (by rw [ByteArray.size_append];omega),Option.bind_some,itoa_f x.f2 (by omega) (by omega),Option.bind_some,itoa_f x.f3 (by omega) (by omega),Option.bind_some]
 unfold apd
 have e3:((⟨#[32]⟩:ByteArray)++(⟨#[97,116]⟩:ByteArray)++(⟨#[32]⟩:ByteArray))=(⟨#[32,97,116,32]⟩:ByteArray):=rfl
 rw [e3]
 have e4:(⟨#[32,97,116,32]⟩:ByteArray).size=4:=rfl
 have e5:(⟨#[32,45,32]⟩:ByteArray).size=3:=rfl
 have e6:(⟨#[59]⟩:ByteArray).size=1:=rfl
 rw [if_pos (by simp only [ByteArray.size_append];omega)]
 unfold stageTxt
 simp only [ByteArray.append_assoc]
def stagesTxt:List S52→ByteArray
 | []=>⟨#[]⟩
 | x :: xs=>stageTxt x++stagesTxt xs
theorem stages_size (l:List S52) (h:l.all stOk=true):(stagesTxt l).size≤200 * l.length:=by
 induction l with
 | nil=>exact Nat.zero_le _
 | cons x xs ih =>
  simp only [List.all_cons,Bool.and_eq_true] at h
  have:=ih h.2
  have:=stage_size x h.1
  simp only [stagesTxt,ByteArray.size_append,List.length_cons]
  omega
theorem stages_prog (l:List S52):∀ (t:ByteArray),l.all stOk=true→t.size+200 * l.length≤100000000→addStages t l=some (t++stagesTxt l):=by
 induction l with
 | nil =>
  intro t _ _
  simp only [addStages,stagesTxt,app_nil]
 | cons x xs ih =>
  intro t h hz
  simp only [List.all_cons,Bool.and_eq_true] at h
  simp only [List.length_cons] at hz
  have:=stage_size x h.1
  simp only [addStages,stagesTxt]
  rw [stage_prog t x h.1 (by omega),Option.bind_some,ih _ h.2 (by rw [ByteArray.size_append];omega),ByteArray.append_assoc]
def schedTxt (s:S24):ByteArray:=(⟨#[115,99,104,101,100,117,108,101,32]⟩:ByteArray)++(s.f0++((⟨#[32,114,97,109,112,32]⟩:ByteArray)++(fm s.f1++((⟨#[58]⟩:ByteArray)++(stagesTxt s.f2++(⟨#[10]⟩:ByteArray))))))
theorem check_ok (n:ByteArray) (r:Int) (l:List S52) (h:schedule_Check.f n r l=some 0):isNm n=true∧1≤r∧r≤1200∧1≤l.length∧l.length≤12∧l.all stOk=true:=by
 unfold schedule_Check.f at h
 have h:=Option.some.inj h
 by_cases g1:isNm n=true
 ·rw [if_pos g1] at h
  by_cases g2:r < 1 ∨ 1200 < r
  ·rw [if_pos g2] at h;cases h
  ·rw [if_neg g2] at h
   by_cases g3:l.length < 1
   ·rw [if_pos g3] at h;cases h
   ·rw [if_neg g3] at h
    by_cases g4:12 < l.length
    ·rw [if_pos g4] at h;cases h
    ·rw [if_neg g4] at h
     by_cases g5:l.all stOk=true
     ·exact ⟨g1,by omega,by omega,by omega,by omega,g5⟩
     ·rw [if_neg g5] at h;cases h
 ·rw [if_neg g1] at h;cases h
theorem nm_size (n:ByteArray) (h:isNm n=true):1≤n.size∧n.size≤16:=by
 unfold isNm at h
 simp only [Bool.and_eq_true,decide_eq_true_eq] at h
 omega
def Good (s:S24):Prop:=schedule_Check.f s.f0 s.f1 s.f2=some 0
theorem sched_size (s:S24) (h:Good s):(schedTxt s).size≤3000:=by
 obtain ⟨g1,g2,g3,g4,g5,g6⟩:=check_ok _ _ _ h
 have:=nm_size _ g1
 have:=stages_size _ g6
 have:=fm_size s.f1 (by omega) (by omega)
 have e1:(⟨#[115,99,104,101,100,117,108,101,32]⟩:ByteArray).size=9:=rfl
 have e2:(⟨#[32,114,97,109,112,32]⟩:ByteArray).size=6:=rfl
 have e3:(⟨#[58]⟩:ByteArray).size=1:=rfl
 have e4:(⟨#[10]⟩:ByteArray).size=1:=rfl
 unfold schedTxt
 simp only [ByteArray.size_append]
 omega
theorem sched_prog (t:ByteArray) (s:S24) (h:Good s) (hz:t.size≤10000000):addSched t s=some (t++schedTxt s):=by
 obtain ⟨g1,g2,g3,g4,g5,g6⟩:=check_ok _ _ _ h
 have:=nm_size _ g1
 have:=stages_size _ g6
 have:=fm_size s.f1 (by omega) (by omega)
 have e1:(⟨#[115,99,104,101,100,117,108,101,32]⟩:ByteArray).size=9:=rfl
 have e2:(⟨#[32,114,97,109,112,32]⟩:ByteArray).size=6:=rfl
 have e3:(⟨#[58]⟩:ByteArray).size=1:=rfl
 have e4:(⟨#[10]⟩:ByteArray).size=1:=rfl
 unfold addSched
 rw [if_pos (by omega),itoa_f s.f1 (by omega) (by omega),Option.bind_some]
 unfold apd
 rw [if_pos (by simp only [ByteArray.size_append];omega),Option.bind_some,stages_prog _ _ g6 (by simp only [ByteArray.size_append];omega),Option.bind_some,if_pos (by simp only [ByteArray.size_append];omega)]
 unfold schedTxt
 simp only [ByteArray.append_assoc]
def Bnd (l:List S24):Prop:=∀ s ∈ l,s.f0.size≤100∧s.f2.length≤40
theorem last_zero (l:List S24) (hl:0 < l.length) (hl2:l.length≤1000) (h:schedule_last.f l=some 0):l.length≤8∧Good (rd_T24 l ((l.length:Int) - 1)):=by
 have e:wrap64 ((l.length:Int) - 1)=(l.length:Int) - 1:=by
  unfold wrap64
  omega
 unfold schedule_last.f at h
 rw [e] at h
 have q0:0≤(l.length:Int) - 1:=by omega
 have q1:(l.length:Int) - 1 < (l.length:Int):=by omega
 have q3:(l.length:Int) - 1≤(l.length:Int):=by omega
 by_cases g1:(l.length:Int) - 1 ≥ 8
 ·simp only [if_pos g1,if_pos q0,if_pos q1] at h
  cases h
 ·refine ⟨by omega,?_⟩
  simp only [if_neg g1,if_pos q0,if_pos q1,if_pos q3] at h
  obtain ⟨c,hc,h⟩:=Option.bind_eq_some_iff.mp h
  unfold Good
  rw [hc]
  by_cases g2:c=0
  ·rw [g2]
  ·rw [if_neg g2] at h
   exact h
theorem rd_take (l:List S24) (k:Nat) (h:k < l.length):rd_T24 (l.take (k+1)) k=rd_T24 l k:=by
 unfold rd_T24
 rw [List.getD_eq_getElem?_getD,List.getD_eq_getElem?_getD,List.getElem?_take]
 simp
theorem drop_sched (l:List S24) (j:Nat) (h:j < l.length):l.drop j=rd_T24 l j :: l.drop (j+1):=by
 rw [List.drop_eq_getElem_cons h]
 unfold rd_T24
 rw [List.getD_eq_getElem?_getD,List.getElem?_eq_getElem (by simpa using h)]
 simp
theorem Bnd_take {l:List S24} (h:Bnd l) (k:Nat):Bnd (l.take k):=fun s hs=>h s (List.mem_of_mem_take hs)
def okGo (l:List S24):Nat→Nat→Bool
 | 0,_=>true
 | m+1,k=>if schedule_last.f (l.take (k+1))=some 0 then okGo l m (k+1) else false
def schedsTxt:List S24→ByteArray
 | []=>⟨#[]⟩
 | s :: ss=>schedTxt s++schedsTxt ss
theorem last_at_p (l:List S24) (hB:Bnd l) (hl:l.length≤1000) (k:Nat) (hk:k < l.length):∃ e,schedule_last.f (l.take (k+1))=some e∧(e=0→k < 8∧Good (rd_T24 l k)):=by
 have hln:(l.take (k+1)).length=k+1:=by rw [List.length_take];omega
 obtain ⟨e,h1⟩:=last_some (l.take (k+1)) (by omega) (by omega) (fun s hs=>by have:=Bnd_take hB _ s hs;omega)
 refine ⟨e,h1,?_⟩
 rintro rfl
 obtain ⟨z1,z2⟩:=last_zero _ (by omega) (by omega) h1
 rw [hln,show (((k+1:Nat):Int) - 1)=(k:Int) by omega,rd_take l k hk] at z2
 exact ⟨by omega,z2⟩
theorem go_prog (l:List S24) (hB:Bnd l) (hl:l.length≤1000):∀ (m k:Nat) (t:ByteArray),k+m=l.length→t.size≤3000 * k→schedule_Format.go l m k t=some (if okGo l m k=true then t++schedsTxt (l.drop k) else ⟨#[]⟩):=by
 intro m
 induction m with
 | zero =>
  intro k t hk hz
  rw [List.drop_eq_nil_of_le (by omega)]
  simp only [schedule_Format.go,okGo,schedsTxt,app_nil,if_true]
 | succ m ih =>
  intro k t hk hz
  obtain ⟨e,h1,h3⟩:=last_at_p l hB hl k (by omega)
  by_cases g:e=0
  ·obtain ⟨g1,g2⟩:=h3 g
   have:=sched_size _ g2
   have ho:okGo l (m+1) k=okGo l m (k+1):=by
    simp only [okGo]
    rw [if_pos (by rw [h1,g])]
   rw [ho]
   simp only [schedule_Format.go]
   rw [h1,Option.bind_some,if_pos g,sched_prog t _ g2 (by omega),Option.bind_some,ih (k+1) _ (by omega) (by rw [ByteArray.size_append];omega),drop_sched l k (by omega)]
   simp only [schedsTxt,ByteArray.append_assoc]
  ·have ho:okGo l (m+1) k=false:=by
    simp only [okGo]
    rw [if_neg (by rw [h1];simpa using g)]
   rw [ho]
   simp only [schedule_Format.go]
   rw [h1,Option.bind_some,if_neg g,if_neg Bool.false_ne_true]
theorem format_prog (l:List S24) (hB:Bnd l) (hl:l.length≤1000):schedule_Format.f l=some (if okGo l l.length 0=true then schedsTxt l else ⟨#[]⟩):=by
 unfold schedule_Format.f
 rw [if_pos (by omega),go_prog l hB hl l.length 0 _ (by omega) (Nat.zero_le _),List.drop_zero]
 have:(⟨#[]⟩:ByteArray)++schedsTxt l=schedsTxt l:=by
  apply ByteArray.ext
  simp
 rw [this]
theorem wrap_succ (j:Nat) (h:j≤1000000):wrap64 ((j:Int)+1)=((j+1:Nat):Int):=by
 unfold wrap64
 omega
theorem okGo_good (l:List S24) (hB:Bnd l) (hl:l.length≤1000):∀ (m i:Nat),i+m=l.length→okGo l m i=true→(0 < m→l.length≤8)∧∀ j,i≤j→j < l.length→Good (rd_T24 l j):=by
 intro m
 induction m with
 | zero =>
  intro i hi h
  exact ⟨fun h=>absurd h (Nat.lt_irrefl 0),fun j h1 h2=>by omega⟩
 | succ m ih =>
  intro i hi h
  obtain ⟨e,h1,h3⟩:=last_at_p l hB hl i (by omega)
  simp only [okGo] at h
  rw [h1] at h
  by_cases g:e=0
  ·rw [if_pos (by rw [g])] at h
   obtain ⟨i1,i2⟩:=ih (i+1) (by omega) h
   obtain ⟨g1,g2⟩:=h3 g
   refine ⟨fun _=>?_,?_⟩
   ·by_cases hm:0 < m
    ·exact i1 hm
    ·omega
   ·intro j h4 h5
    by_cases hj:j=i
    ·rw [hj]
     exact g2
    ·exact i2 j (by omega) h5
  ·rw [if_neg (by simpa using g)] at h
   cases h
end Go.Proofs.YtehdmplngmbnnaaDoor.P
namespace Go.Proofs.YtehdmplngmbnnaaDoor.P
open Go.RowKit Go.Proofs.YtehdmplngmbnnaaDoorW.PrintWords
set_option linter.unusedVariables false
set_option linter.unusedSimpArgs false
abbrev Lx:=S68
def gL (L:List Lx) (a:Nat):Lx:=rd_T68 L (a:Int)
theorem gL_eq (L:List Lx) (a:Nat) (h:a < L.length):gL L a=L[a]:=by
 unfold gL rd_T68
 rw [Int.toNat_natCast,List.getD_eq_getElem?_getD,List.getElem?_eq_getElem h]
 rfl
theorem gL_drop (L:List Lx) (a:Nat):rd_T68 (L.drop a) 0=gL L a:=by
 unfold gL rd_T68
 rw [Int.toNat_natCast,List.getD_eq_getElem?_getD,List.getD_eq_getElem?_getD,List.getElem?_drop]
 rfl
def aIs (L:List Lx) (a:Nat) (b:Bool) (k:Int) (tx:ByteArray):Bool:=if b=true then false else if (gL L a).f0=k then (if tx.toList=([]:List UInt8) then true else (gL L a).f1.toList == tx.toList) else false
def aTake (L:List Lx) (a:Nat) (b:Bool) (k:Int) (tx:ByteArray):Nat × Bool:=if aIs L a b k tx=true then (a+1,false) else (a,true)
def aLex (L:List Lx) (a:Nat) (b:Bool) (k:Int) (tx:ByteArray):Lx:=if aIs L a b k tx=true then gL L a else ⟨0,⟨#[]⟩,0,0⟩
def aNum (L:List Lx) (a:Nat) (b:Bool):Nat × Bool × Int:=((aTake L a b 2 ⟨#[]⟩).1,(aTake L a b 2 ⟨#[]⟩).2,(aLex L a b 2 ⟨#[]⟩).f2)
def aPart (L:List Lx) (a:Nat) (b:Bool) (w:ByteArray):Nat × Bool × Int:=if aIs L a b 1 w=true then (if (gL L (a+1)).f0=2∧(gL L (a+1)).f2=0 then (a+1,true,0) else aNum L (a+1) false) else (a,b,0)
def wBelow:ByteArray:=⟨#[98,101,108,111,119]⟩
def wFor:ByteArray:=⟨#[102,111,114]⟩
def wAt:ByteArray:=⟨#[97,116]⟩
def wDash:ByteArray:=⟨#[45]⟩
def wSemi:ByteArray:=⟨#[59]⟩
def wSched:ByteArray:=⟨#[115,99,104,101,100,117,108,101]⟩
def wRamp:ByteArray:=⟨#[114,97,109,112]⟩
def wColon:ByteArray:=⟨#[58]⟩
structure StRes where
 a:Nat
 b:Bool
 x:S52
def aStage (L:List Lx) (a:Nat) (b:Bool):StRes :=
 let p1:=aPart L a b wBelow
 let p2:=aPart L p1.1 p1.2.1 wFor
 let t1:=aTake L p2.1 (if p1.2.2=0∧p2.2.2=0 then true else p2.2.1) 1 wAt
 let t2:=aNum L t1.1 t1.2
 let t3:=aTake L t2.1 t2.2.1 3 wDash
 let t4:=aNum L t3.1 t3.2
 let t5:=aTake L t4.1 t4.2.1 3 wSemi
 ⟨t5.1,t5.2,⟨p1.2.2,p2.2.2,t2.2.2,t4.2.2⟩⟩
structure Sound (L:List Lx):Prop where
 pos:0 < L.length
 fin:(gL L (L.length - 1)).f0=0
 num:∀ x ∈ L,0≤x.f2∧x.f2≤1099511627776
 len:L.length≤10000
theorem Sound.at_num {L:List Lx} (h:Sound L) (a:Nat) (ha:a < L.length):0≤(gL L a).f2∧(gL L a).f2≤1099511627776:=by
 rw [gL_eq L a ha]
 exact h.num _ (List.getElem_mem ha)
theorem aIs_kind {L:List Lx} {a:Nat} {b:Bool} {k:Int} {tx:ByteArray} (h:aIs L a b k tx=true):b=false∧(gL L a).f0=k:=by
 unfold aIs at h
 cases b
 ·rw [if_neg Bool.false_ne_true] at h
  by_cases g:(gL L a).f0=k
  ·exact ⟨rfl,g⟩
  ·rw [if_neg g] at h;cases h
 ·rw [if_pos rfl] at h;cases h
theorem Sound.next {L:List Lx} (h:Sound L) (a:Nat) (ha:a < L.length) (b:Bool) (k:Int) (hk:k ≠ 0) (tx:ByteArray) (hi:aIs L a b k tx=true):a+1 < L.length:=by
 obtain ⟨-,h2⟩:=aIs_kind hi
 by_cases g:a=L.length - 1
 ·rw [g,h.fin] at h2
  exact absurd h2.symm hk
 ·omega
theorem Sound.take {L:List Lx} (h:Sound L) (a:Nat) (ha:a < L.length) (b:Bool) (k:Int) (hk:k ≠ 0) (tx:ByteArray):(aTake L a b k tx).1 < L.length∧a≤(aTake L a b k tx).1:=by
 unfold aTake
 by_cases g:aIs L a b k tx=true
 ·rw [if_pos g]
  exact ⟨h.next a ha b k hk tx g,Nat.le_succ _⟩
 ·rw [if_neg g]
  exact ⟨ha,Nat.le_refl _⟩
theorem Sound.aNum {L:List Lx} (h:Sound L) (a:Nat) (ha:a < L.length) (b:Bool):(aNum L a b).1 < L.length∧a≤(aNum L a b).1∧0≤(aNum L a b).2.2∧(aNum L a b).2.2≤1099511627776:=by
 obtain ⟨h1,h2⟩:=h.take a ha b 2 (by decide) ⟨#[]⟩
 refine ⟨h1,h2,?_⟩
 show 0≤(aLex L a b 2 ⟨#[]⟩).f2∧(aLex L a b 2 ⟨#[]⟩).f2≤1099511627776
 unfold aLex
 split
 ·exact h.at_num a ha
 ·show (0:Int)≤0∧(0:Int)≤1099511627776
  omega
theorem Sound.part {L:List Lx} (h:Sound L) (a:Nat) (ha:a < L.length) (b:Bool) (w:ByteArray):(aPart L a b w).1 < L.length∧a≤(aPart L a b w).1∧0≤(aPart L a b w).2.2∧(aPart L a b w).2.2≤1099511627776:=by
 unfold aPart
 by_cases g:aIs L a b 1 w=true
 ·have hn:=h.next a ha b 1 (by decide) w g
  rw [if_pos g]
  split
  ·show a+1 < L.length∧a≤a+1∧(0:Int)≤0∧(0:Int)≤1099511627776
   omega
  ·obtain ⟨h1,h2,h3,h4⟩:=h.aNum (a+1) hn false
   exact ⟨h1,by omega,h3,h4⟩
 ·rw [if_neg g]
  show a < L.length∧a≤a∧(0:Int)≤0∧(0:Int)≤1099511627776
  omega
theorem is_prog (L:List Lx) (a:Nat) (ha:a < L.length) (b:Bool) (k:Int) (tx:ByteArray):schedule_reader_is.f (L.drop a) b k tx=some (aIs L a b k tx,L.drop a,b):=by
 unfold schedule_reader_is.f aIs
 rw [gL_drop]
 cases b
 ·rw [if_neg Bool.false_ne_true,if_neg Bool.false_ne_true,if_pos (by rw [List.length_drop];omega)]
  by_cases g:(gL L a).f0=k
  ·rw [if_pos g,if_pos g]
   by_cases g2:tx.toList=([]:List UInt8)
   ·rw [if_pos g2,if_pos g2]
   ·rw [if_neg g2,if_neg g2]
  ·rw [if_neg g,if_neg g]
 ·rw [if_pos rfl,if_pos rfl]
theorem take_prog (L:List Lx) (a:Nat) (ha:a < L.length) (b:Bool) (k:Int) (tx:ByteArray):schedule_reader_take.f (L.drop a) b k tx=some ((aLex L a b k tx).f0,(aLex L a b k tx).f1,(aLex L a b k tx).f2,(aLex L a b k tx).f3,L.drop (aTake L a b k tx).1,(aTake L a b k tx).2):=by
 unfold schedule_reader_take.f aLex aTake
 rw [is_prog L a ha,Option.bind_some]
 by_cases g:aIs L a b k tx=true
 ·have hb:=(aIs_kind g).1
  rw [if_pos g,if_pos g,if_pos g,if_pos (by rw [List.length_drop];omega)]
  simp only [gL_drop,List.drop_drop,hb]
 ·rw [if_neg g,if_neg g,if_neg g]
theorem empty_text:(⟨#[]⟩:ByteArray).toList=([]:List UInt8):=by
 rw [ByteArray.toList_eq]
theorem part_prog' (L:List Lx) (hL:Sound L) (a:Nat) (ha:a < L.length) (b:Bool) (w:ByteArray):schedule_reader_part.f (L.drop a) b w=some ((aPart L a b w).2.2,L.drop (aPart L a b w).1,(aPart L a b w).2.1):=by
 unfold schedule_reader_part.f aPart
 rw [is_prog L a ha,Option.bind_some]
 by_cases g:aIs L a b 1 w=true
 ·have hn:=hL.next a ha b 1 (by decide) w g
  have ht:aTake L a b 1 w=(a+1,false):=by
   unfold aTake
   rw [if_pos g]
  rw [if_pos g,if_pos g,take_prog L a ha,Option.bind_some]
  simp only [ht]
  rw [is_prog L (a+1) hn,Option.bind_some]
  by_cases g2:(gL L (a+1)).f0=2
  ·have hi:aIs L (a+1) false 2 ⟨#[]⟩=true:=by
    unfold aIs
    rw [if_neg Bool.false_ne_true,if_pos g2,if_pos empty_text]
   rw [hi,if_pos rfl,if_pos (by rw [List.length_drop];omega),gL_drop]
   by_cases g3:(gL L (a+1)).f2=0
   ·have hf:aIs L (a+1) true 2 ⟨#[]⟩=false:=rfl
    rw [if_pos g3,if_pos ⟨g2,g3⟩,take_prog L (a+1) hn,Option.bind_some]
    simp only [aTake,aLex,hf,if_neg Bool.false_ne_true]
   ·rw [if_neg g3,if_neg (fun h=>g3 h.2),take_prog L (a+1) hn,Option.bind_some]
    rfl
  ·have hi:aIs L (a+1) false 2 ⟨#[]⟩=false:=by
    unfold aIs
    rw [if_neg Bool.false_ne_true,if_neg g2]
   rw [hi,if_neg Bool.false_ne_true,if_neg (fun h=>g2 h.1),take_prog L (a+1) hn,Option.bind_some]
   rfl
 ·rw [if_neg g,if_neg g]
theorem stage_prog' (L:List Lx) (hL:Sound L) (a:Nat) (ha:a < L.length) (b:Bool):schedule_reader_stage.f (L.drop a) b=some ((aStage L a b).x.f0,(aStage L a b).x.f1,(aStage L a b).x.f2,(aStage L a b).x.f3,L.drop (aStage L a b).a,(aStage L a b).b)∧(aStage L a b).a < L.length∧a≤(aStage L a b).a:=by
 obtain ⟨x1,y1,z1,z1'⟩:=hL.part a ha b wBelow
 obtain ⟨x2,y2,z2,z2'⟩:=hL.part (aPart L a b wBelow).1 x1 (aPart L a b wBelow).2.1 wFor
 generalize e1:aPart L a b wBelow=p1 at *
 generalize e2:aPart L p1.1 p1.2.1 wFor=p2 at *
 have hb:(if wrap64 (p1.2.2+p2.2.2)=0 then true else p2.2.1)=(if p1.2.2=0∧p2.2.2=0 then true else p2.2.1):=by
  have hw:wrap64 (p1.2.2+p2.2.2)=p1.2.2+p2.2.2:=by
   unfold wrap64
   omega
  rw [hw]
  by_cases g:p1.2.2=0∧p2.2.2=0
  ·rw [if_pos g,if_pos (by omega)]
  ·rw [if_neg g,if_neg (by omega)]
 obtain ⟨b2,hb2⟩:∃ b2,b2=(if p1.2.2=0∧p2.2.2=0 then true else p2.2.1):=⟨_,rfl⟩
 obtain ⟨x3,y3⟩:=hL.take p2.1 x2 b2 1 (by decide) wAt
 generalize e3:aTake L p2.1 b2 1 wAt=t1 at *
 obtain ⟨x4,y4,-,-⟩:=hL.aNum t1.1 x3 t1.2
 generalize e4:aNum L t1.1 t1.2=t2 at *
 obtain ⟨x5,y5⟩:=hL.take t2.1 x4 t2.2.1 3 (by decide) wDash
 generalize e5:aTake L t2.1 t2.2.1 3 wDash=t3 at *
 obtain ⟨x6,y6,-,-⟩:=hL.aNum t3.1 x5 t3.2
 generalize e6:aNum L t3.1 t3.2=t4 at *
 obtain ⟨x7,y7⟩:=hL.take t4.1 x6 t4.2.1 3 (by decide) wSemi
 generalize e7:aTake L t4.1 t4.2.1 3 wSemi=t5 at *
 have hs:aStage L a b=⟨t5.1,t5.2,⟨p1.2.2,p2.2.2,t2.2.2,t4.2.2⟩⟩:=by
  unfold aStage
  simp only [e1,e2,← hb2,e3,e4,e5,e6,e7]
 rw [hs]
 refine ⟨?_,x7,by simp only;omega⟩
 unfold schedule_reader_stage.f
 rw [show (⟨#[98,101,108,111,119]⟩:ByteArray)=wBelow from rfl,part_prog' L hL a ha b wBelow,Option.bind_some,e1]
 simp only []
 rw [show (⟨#[102,111,114]⟩:ByteArray)=wFor from rfl,part_prog' L hL p1.1 x1 p1.2.1 wFor,Option.bind_some,e2]
 simp only []
 rw [hb,← hb2,show (⟨#[97,116]⟩:ByteArray)=wAt from rfl,take_prog L p2.1 x2,Option.bind_some,e3]
 simp only []
 rw [take_prog L t1.1 x3,Option.bind_some]
 have n2:(aTake L t1.1 t1.2 2 ⟨#[]⟩).1=t2.1∧(aTake L t1.1 t1.2 2 ⟨#[]⟩).2=t2.2.1∧(aLex L t1.1 t1.2 2 ⟨#[]⟩).f2=t2.2.2:=by
  rw [← e4]
  exact ⟨rfl,rfl,rfl⟩
 simp only [n2.1,n2.2.1,n2.2.2]
 rw [show (⟨#[45]⟩:ByteArray)=wDash from rfl,take_prog L t2.1 x4,Option.bind_some,e5]
 simp only []
 rw [take_prog L t3.1 x5,Option.bind_some]
 have n4:(aTake L t3.1 t3.2 2 ⟨#[]⟩).1=t4.1∧(aTake L t3.1 t3.2 2 ⟨#[]⟩).2=t4.2.1∧(aLex L t3.1 t3.2 2 ⟨#[]⟩).f2=t4.2.2:=by
  rw [← e6]
  exact ⟨rfl,rfl,rfl⟩
 simp only [n4.1,n4.2.1,n4.2.2]
 rw [show (⟨#[59]⟩:ByteArray)=wSemi from rfl,take_prog L t4.1 x6,Option.bind_some,e7]
theorem aStage_more (L:List Lx) (hL:Sound L) (a:Nat) (ha:a < L.length) (b:Bool) (h:(aStage L a b).b=false):a < (aStage L a b).a:=by
 obtain ⟨x1,y1,z1,z1'⟩:=hL.part a ha b wBelow
 obtain ⟨x2,y2,z2,z2'⟩:=hL.part (aPart L a b wBelow).1 x1 (aPart L a b wBelow).2.1 wFor
 unfold aStage at h ⊢
 simp only at h ⊢
 generalize e1:aPart L a b wBelow=p1 at *
 generalize e2:aPart L p1.1 p1.2.1 wFor=p2 at *
 generalize (if p1.2.2=0∧p2.2.2=0 then true else p2.2.1)=b2 at *
 obtain ⟨x3,y3⟩:=hL.take p2.1 x2 b2 1 (by decide) wAt
 generalize e3:aTake L p2.1 b2 1 wAt=t1 at *
 obtain ⟨x4,y4,-,-⟩:=hL.aNum t1.1 x3 t1.2
 generalize e4:aNum L t1.1 t1.2=t2 at *
 obtain ⟨x5,y5⟩:=hL.take t2.1 x4 t2.2.1 3 (by decide) wDash
 generalize e5:aTake L t2.1 t2.2.1 3 wDash=t3 at *
 obtain ⟨x6,y6,-,-⟩:=hL.aNum t3.1 x5 t3.2
 generalize e6:aNum L t3.1 t3.2=t4 at *
 unfold aTake at h ⊢
 by_cases g:aIs L t4.1 t4.2.1 3 wSemi=true
 ·rw [if_pos g]
  simp only
  omega
 ·rw [if_neg g] at h
  cases h
def aStages (L:List Lx):Nat→Nat→Bool→List S52→Nat × Bool × List S52
 | 0,a,b,st=>(a,b,st)
 | n+1,a,b,st=>if b=true then (a,b,st) else if aIs L a b 1 wSched=true then (a,b,st) else if aIs L a b 0 ⟨#[]⟩=true then (a,b,st) else aStages L n (aStage L a b).a (aStage L a b).b (st++[(aStage L a b).x])
theorem aStages_bad (L:List Lx) (n a:Nat) (st:List S52):aStages L n a true st=(a,true,st):=by
 cases n
 ·rfl
 ·simp only [aStages]
  rw [if_pos trivial]
theorem aStages_len (L:List Lx):∀ n a b st,(aStages L n a b st).2.2.length≤st.length+n:=by
 intro n
 induction n with
 | zero=>intro a b st;exact Nat.le_refl _
 | succ n ih =>
  intro a b st
  simp only [aStages]
  split
  ·simp only;omega
  ·split
   ·simp only;omega
   ·split
    ·simp only;omega
    ·have:=ih (aStage L a b).a (aStage L a b).b (st++[(aStage L a b).x])
     rw [List.length_append,List.length_singleton] at this
     omega
theorem stages_loop (L:List Lx) (hL:Sound L) (x9:List S24) (x10:Int) (nm:ByteArray) (r:Int):∀ (n a:Nat) (b:Bool) (st:List S52) (K:Nat),a < L.length→(b=true ∨ L.length - a < n)→(L.length - a)+2≤K→st.length+n≤1000000 →
  ∃ K',K≤K'+((aStages L n a b st).1 - a)+2∧schedule_Parse_tail.l1 K x9 x10 (L.drop a) b nm r st=schedule_Parse_tail.j2 K' x9 x10 (L.drop (aStages L n a b st).1) (aStages L n a b st).2.1 nm r (aStages L n a b st).2.2∧(aStages L n a b st).1 < L.length∧a≤(aStages L n a b st).1:=by
 intro n
 induction n with
 | zero =>
  intro a b st K ha hb hK hst
  have hbt:b=true:=by
   rcases hb with h|h
   ·exact h
   ·omega
  subst hbt
  obtain ⟨K,rfl⟩:∃ q,K=q+1:=⟨K - 1,by omega⟩
  refine ⟨K,by omega,?_,ha,Nat.le_refl _⟩
  rw [schedule_Parse_tail.l1,if_pos rfl]
  rfl
 | succ n ih =>
  intro a b st K ha hb hK hst
  obtain ⟨K,rfl⟩:∃ q,K=q+1:=⟨K - 1,by omega⟩
  cases b
  ·rw [schedule_Parse_tail.l1,if_neg Bool.false_ne_true,show (⟨#[115,99,104,101,100,117,108,101]⟩:ByteArray)=wSched from rfl,is_prog L a ha,Option.bind_some]
   simp only [aStages]
   rw [if_neg Bool.false_ne_true]
   by_cases g1:aIs L a false 1 wSched=true
   ·rw [if_pos g1,if_pos g1]
    exact ⟨K,by omega,rfl,ha,Nat.le_refl _⟩
   ·rw [if_neg g1,if_neg g1,is_prog L a ha,Option.bind_some]
    simp only []
    by_cases g2:aIs L a false 0 ⟨#[]⟩=true
    ·rw [if_pos g2,if_pos g2]
     exact ⟨K,by omega,rfl,ha,Nat.le_refl _⟩
    ·obtain ⟨hs,hs2,hs3⟩:=stage_prog' L hL a ha false
     have hlt:L.length - a < n+1:=by
      rcases hb with h|h
      ·cases h
      ·exact h
     rw [if_neg g2,if_neg g2,hs,Option.bind_some,if_pos (by omega)]
     simp only []
     have hb2:(aStage L a false).b=true ∨ L.length - (aStage L a false).a < n:=by
      by_cases hbb:(aStage L a false).b=true
      ·exact Or.inl hbb
      ·have:=aStage_more L hL a ha false (by simpa using hbb)
       exact Or.inr (by omega)
     have hK2:L.length - (aStage L a false).a+2≤K ∨ (aStage L a false).b=true:=by
      by_cases hbb:(aStage L a false).b=true
      ·exact Or.inr hbb
      ·have:=aStage_more L hL a ha false (by simpa using hbb)
       exact Or.inl (by omega)
     rcases hK2 with hK2|hbt
     ·obtain ⟨K',k1,k2,k3,k4⟩:=ih (aStage L a false).a (aStage L a false).b (st++[(aStage L a false).x]) K hs2 hb2 hK2 (by rw [List.length_append,List.length_singleton];omega)
      by_cases hbb:(aStage L a false).b=true
      ·rw [hbb,aStages_bad] at k1 k2 k3 k4 ⊢
       obtain ⟨K,rfl⟩:∃ q,K=q+1:=⟨K - 1,by omega⟩
       refine ⟨K,by simp only;omega,?_,hs2,hs3⟩
       rw [schedule_Parse_tail.l1,if_pos rfl]
      ·have:=aStage_more L hL a ha false (by simpa using hbb)
       exact ⟨K',by omega,k2,k3,by omega⟩
     ·rw [hbt,aStages_bad]
      obtain ⟨K,rfl⟩:∃ q,K=q+1:=⟨K - 1,by omega⟩
      refine ⟨K,by simp only;omega,?_,hs2,hs3⟩
      rw [schedule_Parse_tail.l1,if_pos rfl]
  ·rw [aStages_bad]
   refine ⟨K,by simp only;omega,?_,ha,Nat.le_refl _⟩
   rw [schedule_Parse_tail.l1,if_pos rfl]
structure HdRes where
 a:Nat
 b:Bool
 nm:ByteArray
 r:Int
def aHead (L:List Lx) (a:Nat):HdRes :=
 let t0:=aTake L a false 1 wSched
 let t1:=aTake L t0.1 t0.2 1 ⟨#[]⟩
 let t2:=aTake L t1.1 t1.2 1 wRamp
 let t3:=aNum L t2.1 t2.2
 let t4:=aTake L t3.1 t3.2.1 3 wColon
 ⟨t4.1,t4.2,(aLex L t0.1 t0.2 1 ⟨#[]⟩).f1,t3.2.2⟩
structure ScRes where
 a:Nat
 b:Bool
 x:S24
def aSched (L:List Lx) (a:Nat):ScRes :=
 ⟨(aStages L (L.length+1) (aHead L a).a (aHead L a).b []).1,(aStages L (L.length+1) (aHead L a).a (aHead L a).b []).2.1,⟨(aHead L a).nm,(aHead L a).r,(aStages L (L.length+1) (aHead L a).a (aHead L a).b []).2.2⟩⟩
theorem head_lt (L:List Lx) (hL:Sound L) (a:Nat) (ha:a < L.length):(aHead L a).a < L.length∧a≤(aHead L a).a∧((aHead L a).b=false→a < (aHead L a).a):=by
 obtain ⟨x0,y0⟩:=hL.take a ha false 1 (by decide) wSched
 unfold aHead
 simp only
 generalize e0:aTake L a false 1 wSched=t0 at *
 obtain ⟨x1,y1⟩:=hL.take t0.1 x0 t0.2 1 (by decide) ⟨#[]⟩
 generalize e1:aTake L t0.1 t0.2 1 ⟨#[]⟩=t1 at *
 obtain ⟨x2,y2⟩:=hL.take t1.1 x1 t1.2 1 (by decide) wRamp
 generalize e2:aTake L t1.1 t1.2 1 wRamp=t2 at *
 obtain ⟨x3,y3,-,-⟩:=hL.aNum t2.1 x2 t2.2
 generalize e3:aNum L t2.1 t2.2=t3 at *
 obtain ⟨x4,y4⟩:=hL.take t3.1 x3 t3.2.1 3 (by decide) wColon
 refine ⟨x4,by omega,?_⟩
 intro h
 unfold aTake at h ⊢
 by_cases g:aIs L t3.1 t3.2.1 3 wColon=true
 ·rw [if_pos g]
  simp only
  omega
 ·rw [if_neg g] at h
  cases h
def aList (L:List Lx):Nat→Nat→List S24→List S24 × Int × Int
 | 0,_,_=>([],0,0)
 | n+1,a,out =>
  if aIs L a false 0 ⟨#[]⟩=true then (out,0,0)
  else if (aSched L a).b=true then ([],5,(gL L (aSched L a).a).f3)
  else if schedule_last.f (out++[(aSched L a).x])=some 0 then aList L n (aSched L a).a (out++[(aSched L a).x])
  else ([],(schedule_last.f (out++[(aSched L a).x])).getD 0,(gL L a).f3)
theorem stages_lt (L:List Lx) (hL:Sound L):∀ (n a:Nat) (b:Bool) (st:List S52),a < L.length→(aStages L n a b st).1 < L.length∧a≤(aStages L n a b st).1∧((aStages L n a b st).2.1=false→b=false):=by
 intro n
 induction n with
 | zero=>intro a b st ha;exact ⟨ha,Nat.le_refl _,fun h=>h⟩
 | succ n ih =>
  intro a b st ha
  simp only [aStages]
  split
  ·exact ⟨ha,Nat.le_refl _,fun h=>h⟩
  ·rename_i hb
   split
   ·exact ⟨ha,Nat.le_refl _,fun h=>h⟩
   ·split
    ·exact ⟨ha,Nat.le_refl _,fun h=>h⟩
    ·obtain ⟨-,hs2,hs3⟩:=stage_prog' L hL a ha b
     obtain ⟨h1,h2,h3⟩:=ih (aStage L a b).a (aStage L a b).b (st++[(aStage L a b).x]) hs2
     exact ⟨h1,by omega,fun _=>by simpa using hb⟩
theorem sched_lt (L:List Lx) (hL:Sound L) (a:Nat) (ha:a < L.length):(aSched L a).a < L.length∧a≤(aSched L a).a∧((aSched L a).b=false→a < (aSched L a).a):=by
 obtain ⟨h1,h2,h3⟩:=head_lt L hL a ha
 obtain ⟨g1,g2,g3⟩:=stages_lt L hL (L.length+1) (aHead L a).a (aHead L a).b [] h1
 refine ⟨g1,?_,?_⟩
 ·show a≤(aStages L (L.length+1) (aHead L a).a (aHead L a).b []).1
  omega
 ·intro h
  have:=h3 (g3 h)
  show a < (aStages L (L.length+1) (aHead L a).a (aHead L a).b []).1
  omega
def Bnd2 (l:List S24):Prop:=∀ s ∈ l,s.f0.size≤100000∧s.f2.length≤1000000
structure SoundT (L:List Lx):Prop extends Sound L where
 txt:∀ x ∈ L,x.f1.size≤10000
theorem head_nm (L:List Lx) (hL:SoundT L) (a:Nat) (ha:a < L.length):(aHead L a).nm.size≤100000:=by
 show (aLex L (aTake L a false 1 wSched).1 (aTake L a false 1 wSched).2 1 ⟨#[]⟩).f1.size≤100000
 obtain ⟨x0,y0⟩:=hL.take a ha false 1 (by decide) wSched
 unfold aLex
 split
 ·rw [gL_eq L _ x0]
  have:=hL.txt _ (List.getElem_mem x0)
  omega
 ·exact Nat.zero_le _
theorem sched_bnd (L:List Lx) (hL:SoundT L) (a:Nat) (ha:a < L.length):(aSched L a).x.f0.size≤100000∧(aSched L a).x.f2.length≤1000000:=by
 refine ⟨head_nm L hL a ha,?_⟩
 have h:=aStages_len L (L.length+1) (aHead L a).a (aHead L a).b []
 have:=hL.len
 show (aStages L (L.length+1) (aHead L a).a (aHead L a).b []).2.2.length≤1000000
 simp only [List.length_nil] at h
 omega
theorem tail_loop (L:List Lx) (hL:SoundT L):∀ (n a:Nat) (out:List S24) (K:Nat),a < L.length→L.length - a < n→5 * (L.length - a)+10≤K→Bnd2 out→out.length≤8 →
  ∃ l b,schedule_Parse_tail.l0 K out (L.drop a) false=some ((aList L n a out).1,(aList L n a out).2.1,(aList L n a out).2.2,l,b):=by
 intro n
 induction n with
 | zero=>intro a out K _ h;exact absurd h (Nat.not_lt_zero _)
 | succ n ih =>
  intro a out K ha hn hK hB ho
  obtain ⟨K,rfl⟩:∃ q,K=q+1:=⟨K - 1,by omega⟩
  rw [schedule_Parse_tail.l0,is_prog L a ha,Option.bind_some]
  simp only [aList]
  by_cases g0:aIs L a false 0 ⟨#[]⟩=true
  ·rw [if_pos g0,if_pos g0]
   exact ⟨_,_,rfl⟩
  ·have hdl:0 < ((L.drop a).length:Int):=by
    rw [List.length_drop]
    omega
   obtain ⟨h1,h2,h3⟩:=head_lt L hL.toSound a ha
   obtain ⟨x0,y0⟩:=hL.take a ha false 1 (by decide) wSched
   have hH:(schedule_reader_take.f (L.drop a) false 1 wSched).bind (fun bt105=>(schedule_reader_take.f bt105.2.2.2.2.1 bt105.2.2.2.2.2 1 (⟨#[]⟩:ByteArray)).bind (fun bt111=>(schedule_reader_take.f bt111.2.2.2.2.1 bt111.2.2.2.2.2 1 wRamp).bind (fun bt118=>(schedule_reader_take.f bt118.2.2.2.2.1 bt118.2.2.2.2.2 2 (⟨#[]⟩:ByteArray)).bind (fun bt124=>(schedule_reader_take.f bt124.2.2.2.2.1 bt124.2.2.2.2.2 3 wColon).bind (fun bt130=>schedule_Parse_tail.l1 K out ((rd_T68 (L.drop a) 0).f3) bt130.2.2.2.2.1 bt130.2.2.2.2.2 bt111.2.1 bt124.2.2.1 ([]:List S52))))))=schedule_Parse_tail.l1 K out (gL L a).f3 (L.drop (aHead L a).a) (aHead L a).b (aHead L a).nm (aHead L a).r []:=by
    rw [take_prog L a ha,Option.bind_some]
    unfold aHead
    simp only [gL_drop]
    generalize e0:aTake L a false 1 wSched=t0 at *
    obtain ⟨x1,y1⟩:=hL.take t0.1 x0 t0.2 1 (by decide) ⟨#[]⟩
    rw [take_prog L t0.1 x0,Option.bind_some]
    simp only
    generalize e1:aTake L t0.1 t0.2 1 ⟨#[]⟩=t1 at *
    obtain ⟨x2,y2⟩:=hL.take t1.1 x1 t1.2 1 (by decide) wRamp
    rw [take_prog L t1.1 x1,Option.bind_some]
    simp only
    generalize e2:aTake L t1.1 t1.2 1 wRamp=t2 at *
    obtain ⟨x3,y3,-,-⟩:=hL.aNum t2.1 x2 t2.2
    rw [take_prog L t2.1 x2,Option.bind_some]
    simp only
    have n2:(aTake L t2.1 t2.2 2 ⟨#[]⟩).1=(aNum L t2.1 t2.2).1∧(aTake L t2.1 t2.2 2 ⟨#[]⟩).2=(aNum L t2.1 t2.2).2.1∧(aLex L t2.1 t2.2 2 ⟨#[]⟩).f2=(aNum L t2.1 t2.2).2.2:=⟨rfl,rfl,rfl⟩
    simp only [n2.1,n2.2.1,n2.2.2]
    generalize e3:aNum L t2.1 t2.2=t3 at *
    rw [take_prog L t3.1 x3,Option.bind_some]
   rw [if_neg g0,if_neg g0,if_pos hdl,show (⟨#[115,99,104,101,100,117,108,101]⟩:ByteArray)=wSched from rfl,show (⟨#[114,97,109,112]⟩:ByteArray)=wRamp from rfl,show (⟨#[58]⟩:ByteArray)=wColon from rfl,hH]
   have hlen:=hL.len
   obtain ⟨K',k1,k2,k3,k4⟩:=stages_loop L hL.toSound out (gL L a).f3 (aHead L a).nm (aHead L a).r (L.length+1) (aHead L a).a (aHead L a).b [] K h1 (Or.inr (by omega)) (by omega) (by simp only [List.length_nil];omega)
   obtain ⟨s1,s2,s3⟩:=sched_lt L hL.toSound a ha
   have e1:(aStages L (L.length+1) (aHead L a).a (aHead L a).b []).1=(aSched L a).a:=rfl
   have e2:(aStages L (L.length+1) (aHead L a).a (aHead L a).b []).2.1=(aSched L a).b:=rfl
   have e3:(aStages L (L.length+1) (aHead L a).a (aHead L a).b []).2.2=(aSched L a).x.f2:=rfl
   rw [k2,e1,e2,e3]
   rw [e1] at k1 k3 k4
   obtain ⟨K',rfl⟩:∃ q,K'=q+1:=⟨K' - 1,by omega⟩
   rw [schedule_Parse_tail.j2]
   by_cases gb:(aSched L a).b=true
   ·rw [if_pos gb,if_pos gb,if_pos (by rw [List.length_drop];omega),gL_drop]
    exact ⟨_,_,rfl⟩
   ·rw [if_neg gb,if_neg gb,if_pos (by omega),Option.bind_some]
    have hB2:Bnd2 (out++[(aSched L a).x]):=by
     intro s hs
     rcases List.mem_append.mp hs with h|h
     ·exact hB s h
     ·rw [List.mem_singleton.mp h]
      exact sched_bnd L hL a ha
    obtain ⟨e,he⟩:=last_some (out++[(aSched L a).x]) (by simp) (by rw [List.length_append,List.length_singleton];omega) hB2
    have he':schedule_last.f (out++[(⟨(aHead L a).nm,(aHead L a).r,(aSched L a).x.f2⟩:S24)])=some e:=he
    rw [he',he,Option.bind_some]
    by_cases ge:e=0
    ·subst ge
     have hgb:(aSched L a).b=false:=by simpa using gb
     have:=s3 hgb
     obtain ⟨l8,-⟩:=last_zero _ (by simp) (by rw [List.length_append,List.length_singleton];omega) he
     rw [if_pos rfl,if_pos rfl]
     have hbf:=hgb
     rw [hbf]
     exact ih (aSched L a).a _ K' s1 (by omega) (by omega) hB2 l8
    ·rw [if_neg ge,if_neg (by simpa using ge)]
     exact ⟨_,_,rfl⟩
end Go.Proofs.YtehdmplngmbnnaaDoor.P
namespace Go.Proofs.YtehdmplngmbnnaaDoor.P
open Go.RowKit Go.Proofs.YtehdmplngmbnnaaDoorW.PrintWords
set_option linter.unusedVariables false
set_option linter.unusedSimpArgs false
abbrev Tok:=Int × ByteArray × Int
def optToks (w:ByteArray) (n:Int):List Tok:=if 0 < n then [(1,w,0),(2,fm n,n)] else []
def endToks (x:S52):List Tok:=[(1,wAt,0),(2,fm x.f2,x.f2),(3,wDash,0),(2,fm x.f3,x.f3),(3,wSemi,0)]
def stToks (x:S52):List Tok:=optToks wBelow x.f0++(optToks wFor x.f1++endToks x)
def stsToks:List S52→List Tok
 | []=>[]
 | x :: xs=>stToks x++stsToks xs
def headToks (s:S24):List Tok:=[(1,wSched,0),(1,s.f0,0),(1,wRamp,0),(2,fm s.f1,s.f1),(3,wColon,0)]
def scToks (s:S24):List Tok:=headToks s++stsToks s.f2
def allToks:List S24→List Tok
 | []=>[]
 | s :: ss=>scToks s++allToks ss
theorem nm_wrd (s:ByteArray):∀ d i:Nat,i+d=s.size→allFrom nmc s d i=true→∀ c ∈ (bl s).drop i,isWrd c=true:=by
 intro d
 induction d with
 | zero =>
  intro i hi _ c hc
  rw [List.drop_eq_nil_of_le (by rw [bl_size];omega)] at hc
  cases hc
 | succ d ih =>
  intro i hi h c hc
  obtain ⟨x,xs,hx⟩:=drop_cons s i (by omega)
  obtain ⟨h1,h2,h3⟩:=bt_cons s x xs i hx
  simp only [allFrom,Bool.and_eq_true] at h
  rw [hx] at hc
  rcases List.mem_cons.mp hc with hc|hc
  ·subst hc
   have hn:=h.1
   rw [h2] at hn
   unfold nmc at hn
   have e:∀ n:UInt8,(n≤c) ↔ (n.toNat:Int)≤c.toNat:=fun n=>by rw [UInt8.le_iff_toNat_le];omega
   have e':∀ n:UInt8,(c≤n) ↔ (c.toNat:Int)≤n.toNat:=fun n=>by rw [UInt8.le_iff_toNat_le];omega
   have e5:(c=95) ↔ (c.toNat:Int)=95:=⟨fun h=>by rw [h];rfl,fun h=>UInt8.toNat.inj (by have:(95:UInt8).toNat=95:=rfl;omega)⟩
   have a1:=e 97;have a2:=e' 122;have a3:=e 48;have a4:=e' 57
   have n1:((97:UInt8).toNat:Int)=97:=rfl
   have n2:((122:UInt8).toNat:Int)=122:=rfl
   have n3:((48:UInt8).toNat:Int)=48:=rfl
   have n4:((57:UInt8).toNat:Int)=57:=rfl
   rw [n1] at a1
   rw [n2] at a2
   rw [n3] at a3
   rw [n4] at a4
   unfold isWrd isDig
   simp only [Bool.or_eq_true,Bool.and_eq_true,decide_eq_true_eq,beq_iff_eq,a1,a2,a3,a4,e5] at hn ⊢
   rcases hn with (hn|hn)|hn
   ·exact Or.inl (Or.inl (Or.inl hn))
   ·exact Or.inr hn
   ·exact Or.inl (Or.inl (Or.inr hn))
  ·exact ih (i+1) (by omega) h.2 c (by rw [h3];exact hc)
theorem nm_bytes (s:ByteArray) (h:isNm s=true):∃ c cs,bl s=c :: cs∧isDig c=false∧(∀ d ∈ c :: cs,isWrd d=true)∧(c :: cs).length≤16:=by
 obtain ⟨z1,z2⟩:=nm_size s h
 unfold isNm at h
 simp only [Bool.and_eq_true,decide_eq_true_eq] at h
 obtain ⟨c,cs,hc⟩:=drop_cons s 0 (by omega)
 obtain ⟨h1,h2,h3⟩:=bt_cons s c cs 0 hc
 have hw:=nm_wrd s s.size 0 (by omega) h.2
 rw [hc] at hw
 rw [List.drop_zero] at hc
 have h2':bt s 0=(c.toNat:Int):=h2
 refine ⟨c,cs,hc,?_,hw,by rw [← hc,bl_size];omega⟩
 have hb:=h.1.1.2
 rw [h2'] at hb
 by_cases g:isDig c=true
 ·have:=dig_range g
  omega
 ·simpa using g
theorem dig_of_wrd {c:UInt8} (h:isWrd c=false):isDig c=false:=by
 by_cases g:isDig c=true
 ·rw [dig_wrd g] at h;cases h
 ·simpa using g
theorem lex_blank {l:List UInt8} {ts:List Tok} (h:Lexes l ts):Lexes (32 :: l) ts:=Lexes.blank 32 (Or.inl rfl) h
theorem lex_word {l:List UInt8} {ts:List Tok} (w:ByteArray) (c:UInt8) (cs:List UInt8) (hw:bl w=c :: cs) (hc:isDig c=false) (ha:∀ d ∈ c :: cs,isWrd d=true) (hl:(c :: cs).length≤16) (hn:∀ d ds,l=d :: ds→isWrd d=false) (h:Lexes l ts):Lexes (bl w++l) ((1,w,0) :: ts):=by
 have:=Lexes.word c cs hc ha hl hn h
 rw [← hw,mkB_bl] at this
 exact this
theorem lex_num {l:List UInt8} {ts:List Tok} (n:Int) (h0:0≤n) (h1:n≤1000000) (hn:∀ d ds,l=d :: ds→isWrd d=false) (h:Lexes l ts):Lexes (bl (fm n)++l) ((2,fm n,n) :: ts) :=
 Lexes.num n h0 (by omega) (fun d ds hd=>dig_of_wrd (hn d ds hd)) h
theorem lex_mark {l:List UInt8} {ts:List Tok} (c:UInt8) (hc:c=45 ∨ c=58 ∨ c=59) (h:Lexes l ts):Lexes (c :: l) ((3,mkB [c],0) :: ts):=by
 rcases hc with hc|hc|hc<;>subst hc
 ·exact Lexes.mark 45 (by decide) (by decide) (by decide) (fun d=>by unfold isMk;simp) h
 ·exact Lexes.mark 58 (by decide) (by decide) (by decide) (fun d=>by unfold isMk;simp) h
 ·exact Lexes.mark 59 (by decide) (by decide) (by decide) (fun d=>by unfold isMk;simp) h
theorem no_wrd (c:UInt8) (h:isWrd c=false) (l:List UInt8):∀ d ds,c :: l=d :: ds→isWrd d=false:=by
 intro d ds hd
 injection hd with h1 h2
 rw [← h1]
 exact h
theorem lex_opt {l:List UInt8} {ts:List Tok} (w p:ByteArray) (n:Int) (h0:0≤n) (h1:n≤1000000) (hp:bl p=32 :: (bl w++[32])) (c:UInt8) (cs:List UInt8) (hw:bl w=c :: cs) (hc:isDig c=false) (ha:∀ d ∈ c :: cs,isWrd d=true) (hl:(c :: cs).length≤16) (l':List UInt8) (hl':l=32 :: l') (h:Lexes l ts):Lexes (bl (pPart p n)++l) (optToks w n++ts):=by
 unfold pPart optToks
 by_cases g:0 < n
 ·rw [if_pos g,if_pos g,bl_append,hp]
  have e:(32 :: (bl w++[32]))++bl (fm n)++l=32 :: (bl w++(32 :: (bl (fm n)++l))):=by simp
  rw [e]
  refine lex_blank (lex_word w c cs hw hc ha hl (no_wrd 32 (by decide) _) (lex_blank (lex_num n h0 h1 ?_ h)))
  rw [hl']
  exact no_wrd 32 (by decide) _
 ·rw [if_neg g,if_neg g]
  exact h
theorem lex_end (x:S52) (h2:0≤x.f2) (h2':x.f2≤1000000) (h3:0≤x.f3) (h3':x.f3≤1000000) {l:List UInt8} {ts:List Tok} (h:Lexes l ts):Lexes (32 :: (bl wAt++(32 :: (bl (fm x.f2)++(32 :: 45 :: 32 :: (bl (fm x.f3)++(59 :: l))))))) (endToks x++ts):=by
 have e1:mkB [45]=wDash:=rfl
 have e2:mkB [59]=wSemi:=rfl
 unfold endToks
 rw [← e1,← e2]
 exact lex_blank (lex_word wAt 97 [116] rfl (by decide) (by decide) (by decide) (no_wrd 32 (by decide) _) (lex_blank (lex_num x.f2 h2 h2' (no_wrd 32 (by decide) _) (lex_blank (lex_mark 45 (Or.inl rfl) (lex_blank (lex_num x.f3 h3 h3' (no_wrd 59 (by decide) _) (lex_mark 59 (Or.inr (Or.inr rfl)) h))))))))
theorem lex_stage (x:S52) (hx:stOk x=true) {l:List UInt8} {ts:List Tok} (h:Lexes l ts):Lexes (bl (stageTxt x)++l) (stToks x++ts):=by
 obtain ⟨a1,a2,a3,a4,a5,a6,a7,a8⟩:=stOk_nums x hx
 have he:=lex_end x (by omega) (by omega) a7 (by omega) h
 have hf:=lex_opt wFor (⟨#[32,102,111,114,32]⟩:ByteArray) x.f1 a3 (by omega) rfl 102 [111,114] rfl (by decide) (by decide) (by decide) _ rfl he
 have e:bl (stageTxt x)++l=bl (pPart (⟨#[32,98,101,108,111,119,32]⟩:ByteArray) x.f0)++(bl (pPart (⟨#[32,102,111,114,32]⟩:ByteArray) x.f1)++(32 :: (bl wAt++(32 :: (bl (fm x.f2)++(32 :: 45 :: 32 :: (bl (fm x.f3)++(59 :: l)))))))):=by
  unfold stageTxt
  simp only [bl_append]
  have e1:bl (⟨#[32,97,116,32]⟩:ByteArray)=32 :: (bl wAt++[32]):=rfl
  have e2:bl (⟨#[32,45,32]⟩:ByteArray)=[32,45,32]:=rfl
  have e3:bl (⟨#[59]⟩:ByteArray)=[59]:=rfl
  rw [e1,e2,e3]
  simp
 have ef:∃ l',bl (pPart (⟨#[32,102,111,114,32]⟩:ByteArray) x.f1)++(32 :: (bl wAt++(32 :: (bl (fm x.f2)++(32 :: 45 :: 32 :: (bl (fm x.f3)++(59 :: l)))))))=32 :: l':=by
  unfold pPart
  split
  ·rw [bl_append]
   exact ⟨_,rfl⟩
  ·exact ⟨_,rfl⟩
 obtain ⟨l',el⟩:=ef
 rw [e]
 unfold stToks
 rw [List.append_assoc,List.append_assoc]
 exact lex_opt wBelow (⟨#[32,98,101,108,111,119,32]⟩:ByteArray) x.f0 a1 (by omega) rfl 98 [101,108,111,119] rfl (by decide) (by decide) (by decide) l' el hf
theorem lex_stages (xs:List S52) (hx:xs.all stOk=true) {l:List UInt8} {ts:List Tok} (h:Lexes l ts):Lexes (bl (stagesTxt xs)++l) (stsToks xs++ts):=by
 induction xs with
 | nil=>exact h
 | cons x xs ih =>
  simp only [List.all_cons,Bool.and_eq_true] at hx
  simp only [stagesTxt,stsToks,bl_append,List.append_assoc]
  exact lex_stage x hx.1 (ih hx.2)
theorem lex_sched (s:S24) (hs:Good s) {l:List UInt8} {ts:List Tok} (h:Lexes l ts):Lexes (bl (schedTxt s)++l) (scToks s++ts):=by
 obtain ⟨g1,g2,g3,g4,g5,g6⟩:=check_ok _ _ _ hs
 obtain ⟨c,cs,n1,n2,n3,n4⟩:=nm_bytes _ g1
 have h1:Lexes (bl (stagesTxt s.f2)++(10 :: l)) (stsToks s.f2++ts):=lex_stages s.f2 g6 (Lexes.blank 10 (Or.inr rfl) h)
 have e:bl (schedTxt s)++l=bl wSched++(32 :: (bl s.f0++(32 :: (bl wRamp++(32 :: (bl (fm s.f1)++(58 :: (bl (stagesTxt s.f2)++(10 :: l))))))))):=by
  unfold schedTxt
  simp only [bl_append]
  have e1:bl (⟨#[115,99,104,101,100,117,108,101,32]⟩:ByteArray)=bl wSched++[32]:=rfl
  have e2:bl (⟨#[32,114,97,109,112,32]⟩:ByteArray)=32 :: (bl wRamp++[32]):=rfl
  have e3:bl (⟨#[58]⟩:ByteArray)=[58]:=rfl
  have e4:bl (⟨#[10]⟩:ByteArray)=[10]:=rfl
  rw [e1,e2,e3,e4]
  simp
 have em:mkB [58]=wColon:=rfl
 rw [e]
 unfold scToks headToks
 rw [← em]
 exact lex_word wSched 115 [99,104,101,100,117,108,101] rfl (by decide) (by decide) (by decide) (no_wrd 32 (by decide) _) (lex_blank (lex_word s.f0 c cs n1 n2 n3 n4 (no_wrd 32 (by decide) _) (lex_blank (lex_word wRamp 114 [97,109,112] rfl (by decide) (by decide) (by decide) (no_wrd 32 (by decide) _) (lex_blank (lex_num s.f1 (by omega) (by omega) (no_wrd 58 (by decide) _) (lex_mark 58 (Or.inr (Or.inl rfl)) h1)))))))
theorem lex_all (l:List S24) (hl:∀ s ∈ l,Good s):Lexes (bl (schedsTxt l)) (allToks l):=by
 induction l with
 | nil=>exact Lexes.nil
 | cons s ss ih =>
  simp only [schedsTxt,allToks,bl_append]
  exact lex_sched s (hl s (List.mem_cons_self ..)) (ih (fun x hx=>hl x (List.mem_cons_of_mem _ hx)))
end Go.Proofs.YtehdmplngmbnnaaDoor.P
namespace Go.Proofs.YtehdmplngmbnnaaDoor.P
open Go.RowKit Go.Proofs.YtehdmplngmbnnaaDoorW.PrintWords
set_option linter.unusedVariables false
set_option linter.unusedSimpArgs false
def tkd (L:List Lx) (a:Nat):List Tok:=(L.map tk3).drop a
theorem tkd_cons {L:List Lx} {a:Nat} {t:Tok} {ts:List Tok} (h:tkd L a=t :: ts):a < L.length∧tk3 (gL L a)=t∧tkd L (a+1)=ts:=by
 unfold tkd at h ⊢
 have ha:a < (L.map tk3).length:=by
  have:=congrArg List.length h
  rw [List.length_drop] at this
  simp only [List.length_cons] at this
  omega
 have ha':a < L.length:=by simpa using ha
 have hd:(L.map tk3).drop a=(L.map tk3)[a] :: (L.map tk3).drop (a+1):=List.drop_eq_getElem_cons ha
 rw [h,List.getElem_map] at hd
 injection hd with h1 h2
 refine ⟨ha',?_,h2.symm⟩
 rw [gL_eq L a ha',h1]
theorem tkd_at (L:List Lx) (a:Nat) (ha:a < L.length):tkd L a=tk3 (gL L a) :: tkd L (a+1):=by
 unfold tkd
 rw [List.drop_eq_getElem_cons (show a < (L.map tk3).length by simpa using ha),List.getElem_map,gL_eq L a ha]
theorem text_ne (tx:ByteArray) (h:bl tx ≠ []):¬ tx.toList=([]:List UInt8):=by
 rw [ByteArray.toList_eq]
 exact h
theorem text_eq (s t:ByteArray):(s.toList == t.toList)=decide (s=t):=by
 rw [ByteArray.toList_eq,ByteArray.toList_eq]
 by_cases g:s=t
 ·rw [g]
  simp
 ·rw [decide_eq_false g]
  refine beq_eq_false_iff_ne.mpr fun h=>g ?_
  exact bl_inj h
theorem aIs_yes {L:List Lx} {a:Nat} {k:Int} {tx:ByteArray} {v:Int} {ts:List Tok} (h:tkd L a=(k,tx,v) :: ts) (u:ByteArray) (hu:u=tx ∨ u=⟨#[]⟩):aIs L a false k u=true:=by
 obtain ⟨h1,h2,h3⟩:=tkd_cons h
 have e1:(gL L a).f0=k:=congrArg (fun t:Tok=>t.1) h2
 have e2:(gL L a).f1=tx:=congrArg (fun t:Tok=>t.2.1) h2
 unfold aIs
 rw [if_neg Bool.false_ne_true,if_pos e1,e2,text_eq]
 rcases hu with hu|hu
 ·rw [hu]
  split
  ·rfl
  ·simp
 ·rw [hu,if_pos empty_text]
theorem aIs_kno {L:List Lx} {a:Nat} {b:Bool} {k k':Int} {tx:ByteArray} {v:Int} {ts:List Tok} (h:tkd L a=(k,tx,v) :: ts) (u:ByteArray) (hk:k ≠ k'):aIs L a b k' u=false:=by
 obtain ⟨h1,h2,h3⟩:=tkd_cons h
 have e1:(gL L a).f0=k:=congrArg (fun t:Tok=>t.1) h2
 by_cases g:aIs L a b k' u=true
 ·have:=(aIs_kind g).2
  rw [e1] at this
  exact absurd this hk
 ·simpa using g
theorem aIs_tno {L:List Lx} {a:Nat} {b:Bool} {k:Int} {tx:ByteArray} {v:Int} {ts:List Tok} (h:tkd L a=(k,tx,v) :: ts) (u:ByteArray) (hu:bl u ≠ []) (hne:tx ≠ u):aIs L a b k u=false:=by
 obtain ⟨h1,h2,h3⟩:=tkd_cons h
 have e1:(gL L a).f0=k:=congrArg (fun t:Tok=>t.1) h2
 have e2:(gL L a).f1=tx:=congrArg (fun t:Tok=>t.2.1) h2
 unfold aIs
 cases b
 ·rw [if_neg Bool.false_ne_true,if_pos e1,e2,text_eq,if_neg (text_ne u hu),decide_eq_false hne]
 ·rw [if_pos rfl]
theorem aTake_yes {L:List Lx} {a:Nat} {k:Int} {tx:ByteArray} {v:Int} {ts:List Tok} (h:tkd L a=(k,tx,v) :: ts) (u:ByteArray) (hu:u=tx ∨ u=⟨#[]⟩):aTake L a false k u=(a+1,false):=by
 unfold aTake
 rw [if_pos (aIs_yes h u hu)]
theorem aNum_yes {L:List Lx} {a:Nat} {tx:ByteArray} {v:Int} {ts:List Tok} (h:tkd L a=(2,tx,v) :: ts):aNum L a false=(a+1,false,v):=by
 have hi:=aIs_yes h ⟨#[]⟩ (Or.inr rfl)
 obtain ⟨h1,h2,h3⟩:=tkd_cons h
 have e3:(gL L a).f2=v:=congrArg (fun t:Tok=>t.2.2) h2
 unfold aNum aTake aLex
 rw [if_pos hi,if_pos hi,e3]
theorem part_yes {L:List Lx} {a:Nat} {w tx:ByteArray} {u n:Int} {ts:List Tok} (hn:n ≠ 0) (h:tkd L a=(1,w,u) :: (2,tx,n) :: ts):aPart L a false w=(a+2,false,n):=by
 have hi:=aIs_yes h w (Or.inl rfl)
 obtain ⟨-,-,h3⟩:=tkd_cons h
 obtain ⟨-,h4,-⟩:=tkd_cons h3
 have e3:(gL L (a+1)).f2=n:=congrArg (fun t:Tok=>t.2.2) h4
 unfold aPart
 rw [if_pos hi,if_neg (fun h=>hn (by rw [← e3];exact h.2)),aNum_yes h3]
theorem opt_yes {L:List Lx} {a:Nat} {w:ByteArray} {n:Int} {ts:List Tok} (h0:0≤n) (hw:bl w ≠ []) (h:tkd L a=optToks w n++ts) (hno:∀ u v us,ts=(1,u,v) :: us→u ≠ w) (hne:∃ t us,ts=t :: us):aPart L a false w=(a+(optToks w n).length,false,n)∧tkd L (a+(optToks w n).length)=ts:=by
 unfold optToks at h ⊢
 by_cases g:0 < n
 ·rw [if_pos g] at h ⊢
  refine ⟨part_yes (by omega) h,?_⟩
  obtain ⟨-,-,h3⟩:=tkd_cons h
  exact (tkd_cons h3).2.2
 ·rw [if_neg g] at h ⊢
  obtain rfl:n=0:=by omega
  refine ⟨?_,h⟩
  obtain ⟨⟨k,u,v⟩,us,rfl⟩:=hne
  have hi:aIs L a false 1 w=false:=by
   by_cases gk:k=1
   ·subst gk
    exact aIs_tno h w hw (hno u v us rfl)
   ·exact aIs_kno h w gk
  unfold aPart
  rw [hi]
  rfl
theorem stage_yes {L:List Lx} {a:Nat} {x:S52} {ts:List Tok} (hx:stOk x=true) (h:tkd L a=stToks x++ts):aStage L a false=⟨a+(stToks x).length,false,x⟩∧tkd L (a+(stToks x).length)=ts:=by
 obtain ⟨a1,a2,a3,a4,a5,a6,a7,a8⟩:=stOk_nums x hx
 have hz:¬ (x.f0=0∧x.f1=0):=by
  intro hz
  rw [stOk_eq] at hx
  rw [hz.1,hz.2] at hx
  simp at hx
 unfold stToks at h
 rw [List.append_assoc,List.append_assoc] at h
 obtain ⟨p1,q1⟩:=opt_yes a1 (by decide) h (by
  intro u v us hu
  unfold optToks endToks at hu
  by_cases g:0 < x.f1
  ·rw [if_pos g] at hu
   injection hu with h1 h2
   have:=congrArg (fun t:Tok=>t.2.1) h1
   simp only at this
   rw [← this]
   exact fun h=>absurd (congrArg bl h) (by decide)
  ·rw [if_neg g] at hu
   injection hu with h1 h2
   have:=congrArg (fun t:Tok=>t.2.1) h1
   simp only at this
   rw [← this]
   exact fun h=>absurd (congrArg bl h) (by decide)) (by
  unfold optToks endToks
  split
  ·exact ⟨_,_,rfl⟩
  ·exact ⟨_,_,rfl⟩)
 obtain ⟨p2,q2⟩:=opt_yes a3 (by decide) q1 (by
  intro u v us hu
  unfold endToks at hu
  injection hu with h1 h2
  have:=congrArg (fun t:Tok=>t.2.1) h1
  simp only at this
  rw [← this]
  exact fun h=>absurd (congrArg bl h) (by decide)) ⟨_,_,rfl⟩
 generalize hm:a+(optToks wBelow x.f0).length+(optToks wFor x.f1).length=m at *
 unfold endToks at q2
 simp only [List.cons_append,List.nil_append] at q2
 obtain ⟨-,-,q3⟩:=tkd_cons q2
 obtain ⟨-,-,q4⟩:=tkd_cons q3
 obtain ⟨-,-,q5⟩:=tkd_cons q4
 obtain ⟨-,-,q6⟩:=tkd_cons q5
 obtain ⟨-,-,q7⟩:=tkd_cons q6
 have hl:a+(stToks x).length=m+5:=by
  unfold stToks endToks
  rw [List.length_append,List.length_append,← hm]
  simp only [List.length_cons,List.length_nil]
  omega
 rw [hl]
 refine ⟨?_,q7⟩
 unfold aStage
 simp only [p1,p2,if_neg hz]
 rw [aTake_yes q2 wAt (Or.inl rfl)]
 simp only []
 rw [aNum_yes q3]
 simp only []
 rw [aTake_yes q4 wDash (Or.inl rfl)]
 simp only []
 rw [aNum_yes q5]
 simp only []
 rw [aTake_yes q6 wSemi (Or.inl rfl)]
theorem stages_yes {L:List Lx}:∀ (xs:List S52) (n a:Nat) (st:List S52) (ts:List Tok),xs.length < n→xs.all stOk=true→tkd L a=stsToks xs++ts→((∃ us,ts=(1,wSched,0) :: us) ∨ ∃ us,ts=endT :: us)→aStages L n a false st=(a+(stsToks xs).length,false,st++xs)∧tkd L (a+(stsToks xs).length)=ts:=by
 intro xs
 induction xs with
 | nil =>
  intro n a st ts hn hx h hts
  obtain ⟨n,rfl⟩:∃ q,n=q+1:=⟨n - 1,by omega⟩
  refine ⟨?_,h⟩
  simp only [aStages]
  rw [if_neg Bool.false_ne_true]
  have h':tkd L a=ts:=h
  rcases hts with ⟨us,hu⟩|⟨us,hu⟩
  ·rw [hu] at h'
   rw [if_pos (aIs_yes h' wSched (Or.inl rfl)),List.append_nil]
   rfl
  ·rw [hu] at h'
   have h1:aIs L a false 1 wSched=false:=aIs_kno h' wSched (by decide)
   rw [h1,if_neg Bool.false_ne_true,if_pos (aIs_yes h' ⟨#[]⟩ (Or.inl rfl)),List.append_nil]
   rfl
 | cons x xs ih =>
  intro n a st ts hn hx h hts
  obtain ⟨n,rfl⟩:∃ q,n=q+1:=⟨n - 1,by omega⟩
  simp only [List.all_cons,Bool.and_eq_true] at hx
  simp only [stsToks,List.append_assoc] at h
  obtain ⟨s1,s2⟩:=stage_yes hx.1 h
  obtain ⟨i1,i2⟩:=ih n (a+(stToks x).length) (st++[x]) ts (by simpa using hn) hx.2 s2 hts
  have hfst:∃ k tx v us,tkd L a=(k,tx,v) :: us∧(k=1)∧tx ≠ wSched:=by
   rw [h]
   unfold stToks optToks endToks
   by_cases g:0 < x.f0
   ·rw [if_pos g]
    exact ⟨_,_,_,_,rfl,rfl,fun h=>absurd (congrArg bl h) (by decide)⟩
   ·rw [if_neg g]
    by_cases g2:0 < x.f1
    ·rw [if_pos g2]
     exact ⟨_,_,_,_,rfl,rfl,fun h=>absurd (congrArg bl h) (by decide)⟩
    ·rw [if_neg g2]
     exact ⟨_,_,_,_,rfl,rfl,fun h=>absurd (congrArg bl h) (by decide)⟩
  obtain ⟨k,tx,v,us,f1,f2,f3⟩:=hfst
  subst f2
  have n1:aIs L a false 1 wSched=false:=aIs_tno f1 wSched (by decide) f3
  have n2:aIs L a false 0 ⟨#[]⟩=false:=aIs_kno f1 ⟨#[]⟩ (by decide)
  have hl:a+(stsToks (x :: xs)).length=a+(stToks x).length+(stsToks xs).length:=by
   simp only [stsToks,List.length_append]
   omega
  rw [hl]
  refine ⟨?_,i2⟩
  simp only [aStages]
  rw [if_neg Bool.false_ne_true,n1,if_neg Bool.false_ne_true,n2,if_neg Bool.false_ne_true,s1]
  simp only []
  rw [i1,List.append_assoc]
  rfl
theorem stsToks_len (xs:List S52):xs.length≤(stsToks xs).length:=by
 induction xs with
 | nil=>exact Nat.le_refl _
 | cons x xs ih =>
  have:1≤(stToks x).length:=by
   unfold stToks endToks
   simp only [List.length_append,List.length_cons]
   omega
  simp only [stsToks,List.length_append,List.length_cons]
  omega
theorem sched_yes {L:List Lx} {a:Nat} (s:S24) (hs:Good s) {ts:List Tok} (h:tkd L a=scToks s++ts) (hts:(∃ us,ts=(1,wSched,0) :: us) ∨ ∃ us,ts=endT :: us):aSched L a=⟨a+(scToks s).length,false,s⟩∧tkd L (a+(scToks s).length)=ts:=by
 obtain ⟨g1,g2,g3,g4,g5,g6⟩:=check_ok _ _ _ hs
 have hn:s.f2.length≤L.length:=by
  have h1:=congrArg List.length h
  have h2:=stsToks_len s.f2
  unfold tkd scToks at h1
  simp only [List.length_drop,List.length_map,List.length_append] at h1
  omega
 unfold scToks headToks at h
 simp only [List.cons_append,List.nil_append] at h
 obtain ⟨-,-,q1⟩:=tkd_cons h
 obtain ⟨-,q2',q2⟩:=tkd_cons q1
 obtain ⟨-,-,q3⟩:=tkd_cons q2
 obtain ⟨-,-,q4⟩:=tkd_cons q3
 obtain ⟨-,-,q5⟩:=tkd_cons q4
 have e1:(gL L (a+1)).f1=s.f0:=congrArg (fun t:Tok=>t.2.1) q2'
 have hh:aHead L a=⟨a+5,false,s.f0,s.f1⟩:=by
  unfold aHead
  simp only []
  rw [aTake_yes h wSched (Or.inl rfl)]
  simp only []
  rw [aTake_yes q1 ⟨#[]⟩ (Or.inr rfl)]
  simp only []
  rw [aTake_yes q2 wRamp (Or.inl rfl)]
  simp only []
  rw [aNum_yes q3]
  simp only []
  rw [aTake_yes q4 wColon (Or.inl rfl)]
  unfold aLex
  rw [if_pos (aIs_yes q1 ⟨#[]⟩ (Or.inr rfl)),e1]
 obtain ⟨s1,s2⟩:=stages_yes s.f2 (L.length+1) (a+5) [] ts (by omega) g6 q5 hts
 have hl:a+(scToks s).length=a+5+(stsToks s.f2).length:=by
  unfold scToks headToks
  rw [List.length_append]
  simp only [List.length_cons,List.length_nil]
  omega
 rw [hl]
 refine ⟨?_,s2⟩
 unfold aSched
 rw [hh]
 simp only []
 rw [s1]
 rfl
theorem allToks_fst (l:List S24):(∃ us,allToks l++[endT]=(1,wSched,0) :: us) ∨ ∃ us,allToks l++[endT]=endT :: us:=by
 cases l with
 | nil=>exact Or.inr ⟨_,rfl⟩
 | cons s ss=>exact Or.inl ⟨_,rfl⟩
theorem list_yes {L:List Lx} (l:List S24) (hg:∀ j,j < l.length→schedule_last.f (l.take (j+1))=some 0) (hG:∀ s ∈ l,Good s):∀ (m i n a:Nat),i+m=l.length→m < n→tkd L a=allToks (l.drop i)++[endT]→aList L n a (l.take i)=(l,0,0):=by
 intro m
 induction m with
 | zero =>
  intro i n a hi hn h
  obtain ⟨n,rfl⟩:∃ q,n=q+1:=⟨n - 1,by omega⟩
  rw [List.drop_eq_nil_of_le (by omega)] at h
  simp only [aList]
  rw [if_pos (aIs_yes h ⟨#[]⟩ (Or.inl rfl)),List.take_of_length_le (by omega)]
 | succ m ih =>
  intro i n a hi hn h
  obtain ⟨n,rfl⟩:∃ q,n=q+1:=⟨n - 1,by omega⟩
  have hlt:i < l.length:=by omega
  have hd:l.drop i=l[i] :: l.drop (i+1):=List.drop_eq_getElem_cons hlt
  have hGi:=hG _ (List.getElem_mem hlt)
  rw [hd] at h
  simp only [allToks,List.append_assoc] at h
  obtain ⟨s1,s2⟩:=sched_yes l[i] hGi h (allToks_fst _)
  have h0:aIs L a false 0 ⟨#[]⟩=false:=by
   unfold scToks headToks at h
   exact aIs_kno h ⟨#[]⟩ (by decide)
  have ht:l.take i++[l[i]]=l.take (i+1):=by rw [List.take_succ_eq_append_getElem hlt]
  simp only [aList]
  rw [h0,if_neg Bool.false_ne_true,s1]
  simp only []
  rw [if_neg Bool.false_ne_true,ht,if_pos (hg i hlt)]
  exact ih (i+1) n _ (by omega) (by omega) s2
end Go.Proofs.YtehdmplngmbnnaaDoor.P
namespace Go.Proofs.YtehdmplngmbnnaaDoor.P
open Go.RowKit Go.Proofs.YtehdmplngmbnnaaDoorW.PrintWords Go.Proofs.YtehdmplngmbnnaaDoorW.PrintLast Go.Proofs.YtehdmplngmbnnaaDoorW.PrintMore
attribute [local go_sem] max2_int min2_int max_two min_two max_three min_three max_four min_four
attribute [local go_sem] cell_twice
set_option linter.unusedVariables false
set_option linter.unusedSimpArgs false
def sawmilllaw37_valid.l0:Nat→List (S24)→Int→Option (Bool)
 | 0,_,_=>none
 | k+1,x0,x3=>if x3 < (x0.length:Int) then (if 0≤x3 then (if x3≤(x0.length:Int) then ((schedule_Find.f (x0.take (x3:Int).toNat) ((rd_T24 x0 x3).f0)).bind fun bt106=>(if bt106.2.2.2=true then (some false) else ((schedule_Check.f ((rd_T24 x0 x3).f0) ((rd_T24 x0 x3).f1) ((rd_T24 x0 x3).f2)).bind fun t114=>(if t114=0 then (sawmilllaw37_valid.l0 k x0 (wrap64 (x3+1))) else (some false))))) else (none)) else (none)) else (some (decide ((x0.length:Int)≤8)))
def sawmilllaw37_valid.f (k:Nat) (l0:List (S24)):Option (Bool):=sawmilllaw37_valid.l0 k l0 0
theorem sawmilllaw37_valid.mono_l:∀ k,(∀ y0 y1,LeO (sawmilllaw37_valid.l0 k y0 y1) (sawmilllaw37_valid.l0 (k+1) y0 y1))
 | 0=>fun _ _ r h=>by simp [sawmilllaw37_valid.l0] at h
 | k+1=>by
  have ih0:=sawmilllaw37_valid.mono_l k
  ·intro y0 y1
   unfold sawmilllaw37_valid.l0
   repeat' first
   | (with_reducible exact ih0 _ _)
   | (with_reducible exact LeO.refl _)
   | (with_reducible exact LeO.none _)
   | (with_reducible refine LeO.ite ?_ ?_)
   | (with_reducible refine LeO.bind ?_ (fun _=>?_))
   | exact ih0 _ _
   | exact LeO.none _
   | refine LeO.ite ?_ ?_
   | refine LeO.bind ?_ (fun _=>?_)
theorem sawmilllaw37_valid.mono:∀ a0 k,LeO (sawmilllaw37_valid.f k a0) (sawmilllaw37_valid.f (k+1) a0):=by
 intro a0 k
 have ih0:=sawmilllaw37_valid.mono_l k
 unfold sawmilllaw37_valid.f
 repeat' first
   | (with_reducible exact ih0 _ _)
   | (with_reducible exact LeO.refl _)
   | (with_reducible exact LeO.none _)
   | (with_reducible refine LeO.ite ?_ ?_)
   | (with_reducible refine LeO.bind ?_ (fun _=>?_))
   | exact ih0 _ _
   | exact LeO.none _
   | refine LeO.ite ?_ ?_
   | refine LeO.bind ?_ (fun _=>?_)
def sawmilllaw37_valid.T4:Bool × List (List Nat × List Nat):=(true,[([],[]),([],[]),([0,1],[0,1]),([],[]),([],[]),([3,4],[3,4]),([5],[5]),([6],[6]),([2,7],[2,7]),([8],[8]),([9],[9]),([9],[9]),([],[]),([12,10,8,0,1,2,3,4,5,6,7,8,9,10,12],[10,12]),([11,13,0,1,2,3,4,5,6,7,8,9,10,11,12,13],[11])])
def sawmilllaw37_valid.B4:List Nat:=[0,0,3,0,0,24,56,120,255,511,1023,1023,0,6143,16383]
theorem sawmilllaw37_valid.tab4:rtab .any (opsOf Tryd.f28 4)=sawmilllaw37_valid.T4:=by kernel_rfl
theorem sawmilllaw37_valid.bits4:waitsOk sawmilllaw37_valid.T4.2 sawmilllaw37_valid.B4=true:=by kernel_rfl
set_option maxHeartbeats 8000000 in
set_option maxRecDepth 100000 in
theorem sawmilllaw37_valid.calls (k:Nat) (A0:Option Addr) (c0:Nat) (l0:List (S24)) (r:Bool) (w:World) (hr0:Kd.C k24 w A0 l0.length l0) (hc0:l0.length≤c0) (h:sawmilllaw37_valid.f k l0=some r) (HG_:Aside0 (Glob w)) :
  Calls Tryd.prog 28 #[.slice A0 l0.length c0] w fun e w'=>e=.returned (.bool r)∧Below w.heap.size w w':=by
 have hu24:=Tryd.underlying24
 have HR0:=Aside0.mk hr0
 have HC0:=Aside0.mk hc0
 clear hr0 hc0
 have HB:=Aside0.mk (Below.refl w.heap.size w)
 have H:(sawmilllaw37_valid.l0 k l0 0)=some r:=h
 clear h
 have H':=Aside0.mk H
 clear H
 go_enter Tryd.func28,Tryd.ntmps28
 go_wp2
 go_loopg [3] k (fun kq v3 w'=>∃ (x3_1:Int),v3=.int .i64 x3_1∧Aside0 (sawmilllaw37_valid.l0 kq l0 x3_1=some r)∧Aside0 (kq≤k)∧Aside0 (Below w.heap.size w w'))
 case atStart=>exact ⟨(0),(by first|rfl|(simp;done)|(simp [*];done)),H',⟨Nat.le_refl _⟩,⟨by repeat (first|(with_reducible first|exact HB.out|apply below_alloc|apply pw_below_drewN|apply below_drew1)|exact HB.out)⟩⟩
 case round =>
  clear H'
  obtain ⟨x3_1,rfl,HA,HK1,HB⟩:=hrel
  cases gk with
  | zero=>exact absurd HA.out (by simp [sawmilllaw37_valid.l0])
  | succ k1 =>
   have H:=HA.out
   clear HA
   simp only [sawmilllaw37_valid.l0] at H
   by_cases c2:x3_1 < (l0.length:Int)
   ·rw [if_pos c2] at H
    have c2b0:decide (x3_1 < (l0.length:Int))=true:=decide_eq_true c2
    clear c2
    by_cases c3:0≤x3_1
    ·rw [if_pos c3] at H
     have c3b0:=eq_true c3
     have c3b1:decide (0≤x3_1)=true:=decide_eq_true c3
     clear c3
     by_cases c4:x3_1≤(l0.length:Int)
     ·rw [if_pos c4] at H
      have c4b0:=eq_true c4
      have c4b1:decide (x3_1≤(l0.length:Int))=true:=decide_eq_true c4
      clear c4
      obtain ⟨y101,hy101⟩:∃ y_:List (S24),y_=(l0.take (x3_1:Int).toNat):=⟨_,rfl⟩
      replace H:((schedule_Find.f y101 ((rd_T24 l0 x3_1).f0)).bind fun bt106=>(if bt106.2.2.2=true then (some false) else ((schedule_Check.f ((rd_T24 l0 x3_1).f0) ((rd_T24 l0 x3_1).f1) ((rd_T24 l0 x3_1).f2)).bind fun t114=>(if t114=0 then (sawmilllaw37_valid.l0 k1 l0 (wrap64 (x3_1+1))) else (some false)))))=some r:=by first|(rw [hy101];with_reducible exact H)|(have H2_:=(Option.bind_some _ _).symm.trans H;rw [hy101];with_reducible exact H2_)|(have H2_:=(Option.bind_some _ _).symm.trans H;with_reducible exact H2_)|with_reducible exact H|(rw [hy101];exact H)|exact H
      have Ny101:=Aside0.mk hy101
      clear hy101
      replace H:=Option.bind_eq_some_iff.mp H
      obtain ⟨⟨t106,t107,t108,t111⟩,A50,H⟩:=H
      replace H:(if t111=true then (some false) else ((schedule_Check.f ((rd_T24 l0 x3_1).f0) ((rd_T24 l0 x3_1).f1) ((rd_T24 l0 x3_1).f2)).bind fun t114=>(if t114=0 then (sawmilllaw37_valid.l0 k1 l0 (wrap64 (x3_1+1))) else (some false))))=some r:=H
      have A5:=Aside0.mk A50
      clear A50
      by_cases c6:t111=true
      ·subst c6
       have H1:(some false)=some r:=by rw [if_pos rfl] at H;exact H
       clear H
       have H:=H1
       clear H1
       obtain rfl:=Option.some.inj H
       try go_wp2
       have n0_:=Aside0.mk (below_drew1 HB.out)
       clear HB
       have HB:=n0_
       clear n0_
       have q8:(x3_1:Int)≤((l0.length:Int):Int):=of_decide_eq_true (by first|(with_reducible assumption)|assumption)
       obtain ⟨i08,hi08,_,hsz8,_⟩:=info_parts info24
       have hroom8:l0.length≤c0:=HC0.out
       have hC8:Kd.C k24 _ A0 l0.length l0:=HR0.out
       have hcut8:=cut_to (P:=Tryd.prog) 25 24 .i64 Tryd.underlying25 hi08 A0 l0.length c0 x3_1 (of_decide_eq_true (by first|(with_reducible assumption)|assumption)) q8 hroom8
       have hr8:=Kd.C_take (m:=(x3_1:Int).toNat) hC8 (by omega)
       have hy8:y101.length=(x3_1:Int).toNat:=(by rw [Ny101.out,List.length_take];omega)
       rw [← Ny101.out] at hr8
       rw [← hy8] at hcut8
       have HR104:=Aside0.mk hr8
       have HC104:=Aside0.mk (show y101.length≤c0 from by omega)
       clear hr8 hC8 hroom8 hi08 hsz8
       have KY8:=Aside0.mk hy8
       clear hy8
       replace q8:=eq_true q8
       have p105:0≤(x3_1:Int):=of_decide_eq_true (by first|(with_reducible assumption)|assumption)
       have q105:x3_1 < (l0.length:Int):=of_decide_eq_true (by first|(with_reducible assumption)|assumption)
       obtain ⟨ad105,A105_2,c105_2,e105,hx105_0,hx105_1,hx105_2,hl105_2,hi105_2⟩:=at_T24 HR0.out x3_1 p105 q105
       have hw105_2:=hx105_2
       have hw105_1:=hx105_1
       have hw105_0:=hx105_0
       cases e105
       replace hx105_0:=(HB.out.cell (World.block_lt_of_cell? w _ hx105_0)).trans hx105_0
       replace hx105_1:=(HB.out.cell (World.block_lt_of_cell? w _ hx105_1)).trans hx105_1
       replace hx105_2:=(HB.out.cell (World.block_lt_of_cell? w _ hx105_2)).trans hx105_2
       have HR105_2:=Aside0.mk hi105_2
       have HC105_2:=Aside0.mk hl105_2
       clear hi105_2 hl105_2
       replace p105:=eq_true p105
       replace q105:=eq_true q105
       refine start_ (n:=15) (S:=fun w'=>w'.cell? (ad105.add ((x3_1).toNat * 3))=some (.string ((rd_T24 l0 x3_1).f0))∧w'.cell? ⟨(ad105.add ((x3_1).toNat * 3)).block,(ad105.add ((x3_1).toNat * 3)).off+1,none⟩=some (.int .i64 ((rd_T24 l0 x3_1).f1))∧w'.cell? ⟨(ad105.add ((x3_1).toNat * 3)).block,(ad105.add ((x3_1).toNat * 3)).off+2,none⟩=some (.slice A105_2 ((rd_T24 l0 x3_1).f2).length c105_2)) (ds:=[]) #[false,false,false,false,false,false,false,false,false,false,false,false,false,false,false] (by kernel_rfl) rfl rfl ⟨((HB.out.cell (World.block_lt_of_cell? w _ hw105_0)).trans hw105_0),((HB.out.cell (World.block_lt_of_cell? w _ hw105_1)).trans hw105_1),((HB.out.cell (World.block_lt_of_cell? w _ hw105_2)).trans hw105_2)⟩ (fun hHeld=>?_);refine with_tabW sawmilllaw37_valid.tab4 sawmilllaw37_valid.bits4 (fun HT_ HW_=>?_)
       generalize wr.drew=w7 at HB HR104 HR105_2 hx105_0 hx105_1 hx105_2 hHeld ⊢
       refine pure_ (i:=0) (N:=some 13) (v:=?_) (a':=?_) #[true,false,false,false,false,false,false,false,false,false,false,false,false,false,false] rfl rfl (any_of HT_.out (by kernel_rfl)) (fun _ _ _ h=>h) (Or.inl ⟨by rfl,?_⟩) ?_ ?_
       rotate_left
       ·intro w'
        go_simp
        with_reducible rfl
       rotate_left
       ·simp only [Act.put,List.setIfInBounds_toArray,List.set_cons_zero,List.set_cons_succ,i64_w,i32_w]
        rfl
       refine pure_ (i:=1) (N:=some 14) (v:=?_) (a':=?_) #[true,true,false,false,false,false,false,false,false,false,false,false,false,false,false] rfl rfl (any_of HT_.out (by kernel_rfl)) (fun _ _ _ h=>h) (Or.inl ⟨by rfl,?_⟩) ?_ ?_
       rotate_left
       ·intro w'
        go_simp
        with_reducible rfl
       rotate_left
       ·simp only [Act.put,List.setIfInBounds_toArray,List.set_cons_zero,List.set_cons_succ,i64_w,i32_w]
        rfl
       refine pure_ (i:=2) (N:=some 15) (v:=?_) (a':=?_) #[true,true,true,false,false,false,false,false,false,false,false,false,false,false,false] rfl rfl (any_of HT_.out (by kernel_rfl)) (fun _ _ _ h=>h) (Or.inl ⟨by rfl,?_⟩) ?_ ?_
       rotate_left
       ·intro w'
        go_simp
        with_reducible rfl
       rotate_left
       ·simp only [Act.put,List.setIfInBounds_toArray,List.set_cons_zero,List.set_cons_succ,i64_w,i32_w]
        rfl
       refine pure_ (i:=3) (N:=some 16) (v:=?_) (a':=?_) #[true,true,true,true,false,false,false,false,false,false,false,false,false,false,false] rfl rfl (any_of HT_.out (by kernel_rfl)) (fun _ _ _ h=>h) (Or.inl ⟨by rfl,?_⟩) ?_ ?_
       rotate_left
       ·intro w'
        go_simp
        with_reducible rfl
       rotate_left
       ·simp only [Act.put,List.setIfInBounds_toArray,List.set_cons_zero,List.set_cons_succ,i64_w,i32_w]
        rfl
       refine pure_ (i:=4) (N:=some 17) (v:=?_) (a':=?_) #[true,true,true,true,true,false,false,false,false,false,false,false,false,false,false] rfl rfl (any_of HT_.out (by kernel_rfl)) (fun _ _ _ h=>h) (Or.inl ⟨by rfl,?_⟩) ?_ ?_
       rotate_left
       ·intro w'
        go_simp
        with_reducible rfl
       rotate_left
       ·simp only [Act.put,List.setIfInBounds_toArray,List.set_cons_zero,List.set_cons_succ,i64_w,i32_w]
        rfl
       refine pure_ (i:=5) (N:=some 18) (v:=?_) (a':=?_) #[true,true,true,true,true,true,false,false,false,false,false,false,false,false,false] rfl rfl (any_of HT_.out (by kernel_rfl)) (fun _ _ _ h=>h) (Or.inl ⟨by rfl,?_⟩) ?_ ?_
       rotate_left
       ·intro w'
        go_simp
        with_reducible rfl
       rotate_left
       ·simp only [Act.put,List.setIfInBounds_toArray,List.set_cons_zero,List.set_cons_succ,i64_w,i32_w]
        rfl
       refine pure_ (i:=6) (N:=some 19) (v:=?_) (a':=?_) #[true,true,true,true,true,true,true,false,false,false,false,false,false,false,false] rfl rfl (any_of HT_.out (by kernel_rfl)) (fun _ _ _ h=>h) (Or.inl ⟨by rfl,?_⟩) ?_ ?_
       rotate_left
       ·intro w'
        go_simp
        with_reducible rfl
       rotate_left
       ·simp only [Act.put,List.setIfInBounds_toArray,List.set_cons_zero,List.set_cons_succ,i64_w,i32_w]
        rfl
       refine take_ (i:=7) (N:=some 20) (v:=?_) (a':=?_) #[true,true,true,true,true,true,true,true,false,false,false,false,false,false,false] rfl rfl (take_ofW HT_.out HW_.out (by kernel_rfl)) (fun _ _ _ h=>h) (Or.inl ⟨by rfl,?_⟩) hHeld ?_ ?_
       rotate_left
       ·rintro w' ⟨s0,s1,s2⟩
        go_simp
        with_reducible rfl
       rotate_left
       ·simp only [Act.put,List.setIfInBounds_toArray,List.set_cons_zero,List.set_cons_succ,i64_w,i32_w]
        rfl
       refine join_ (σ:=Value × Nat) 2 #[true,true,true,true,true,true,true,true,true,true,true,true,true,false,false] (fun s_=>[(21,.tuple #[.agg #[.string t106,.int .i64 t107,s_.1],.bool true]),(4,.pointer (some ⟨s_.2,0,none⟩)),(12,.tuple #[.agg #[.string t106,.int .i64 t107,s_.1],.bool true]),(22,.agg #[.string t106,.int .i64 t107,s_.1]),(23,.bool true)]) (fun s_ w'=>(w'.cell? (ad105.add ((x3_1).toNat * 3))=some (.string ((rd_T24 l0 x3_1).f0))∧w'.cell? ⟨(ad105.add ((x3_1).toNat * 3)).block,(ad105.add ((x3_1).toNat * 3)).off+1,none⟩=some (.int .i64 ((rd_T24 l0 x3_1).f1))∧w'.cell? ⟨(ad105.add ((x3_1).toNat * 3)).block,(ad105.add ((x3_1).toNat * 3)).off+2,none⟩=some (.slice A105_2 ((rd_T24 l0 x3_1).f2).length c105_2))∧(Kd.R k52 52 w' w.heap.size (fun _=>True) s_.1 t108)∧(w'.heap[s_.2]?=some (.cells #[.string (⟨#[]⟩:ByteArray),.int .i64 0,.slice none 0 0] 24 (0,0)))∧(w.heap.size≤s_.2)∧(w.heap.size≤s_.2)∧(Below w.heap.size w w')) ?_ ?_
       rotate_left
       ·intro hCont
        refine two_ (i:=8) (j:=12) (Ni:=some 21) (Nj:=some 4) #[true,true,true,true,true,true,true,true,true,false,false,false,false,false,false] #[true,true,true,true,true,true,true,true,false,false,false,false,true,false,false] rfl rfl rfl rfl (two_of HT_.out (by kernel_rfl)) (by decide) (by decide) (fun K hK=>?_) (fun K hK=>?_)
        ·skip
         refine goes_ Tryd.func14 (by kernel_rfl) rfl #[.slice (some ad105) y101.length c0,.string ((rd_T24 l0 x3_1).f0)] (by rfl) rfl rfl (by (try simp only [List.map_toArray,List.map_cons,List.map_nil]);first|done|rfl|(simp only [List.length_drop,List.length_take];rfl)) ?_
         with_reducible refine (schedule_Find.calls _ _ y101 ((rd_T24 l0 x3_1).f0) t106 t107 t108 true _ ?side1 ?side2 A5.out).mono ?_
         (case side1=>repeat (first|exact (Kd.C_below HR104.out HB.out)|(with_reducible refine Kd.C_alloc ?_ _)|(with_reducible refine Kd.C_drewN ?_ _)|(with_reducible refine Kd.C_drew ?_)))
         (case side2=>exact HC104.out)
         rintro e w9 ⟨v109,rfl,ho0,hb⟩
         refine ⟨_,rfl,?_⟩
         have n0_:=Aside0.mk (Kd.R_lower ho0 (below_size (by repeat (first|(with_reducible first|exact HB.out|apply below_alloc|apply pw_below_drewN|apply below_drew1)|exact HB.out))))
         have n1_:=Aside0.mk (below_step (by repeat (first|(with_reducible first|exact HB.out|apply below_alloc|apply pw_below_drewN|apply below_drew1)|exact HB.out)) hb)
         clear HB
         have HO110:=n0_
         have HB:=n1_
         clear n0_ n1_
         (try clear hb)
         (try clear hb2)
         (try clear hk)
         (try clear hi)
         (try clear ho0)
         refine hK.out _ _ ⟨((HB.out.cell (World.block_lt_of_cell? w _ hw105_0)).trans hw105_0),((HB.out.cell (World.block_lt_of_cell? w _ hw105_1)).trans hw105_1),((HB.out.cell (World.block_lt_of_cell? w _ hw105_2)).trans hw105_2)⟩ (fun hHeld=>?_)
         clear hK K
         refine norm_ (a':=?_) ?_ ?_
         rotate_left
         ·show Act.put _ (some 21) _=_
          simp only [Act.put,List.setIfInBounds_toArray,List.set_cons_zero,List.set_cons_succ,i64_w,i32_w]
          rfl
         refine pure_ (i:=9) (N:=some 12) (v:=?_) (a':=?_) #[true,true,true,true,true,true,true,true,true,true,false,false,false,false,false] rfl rfl (any_of HT_.out (by kernel_rfl)) (fun _ _ _ h=>h) (Or.inl ⟨by rfl,?_⟩) ?_ ?_
         rotate_left
         ·intro w'
          go_simp
          with_reducible rfl
         rotate_left
         ·simp only [Act.put,List.setIfInBounds_toArray,List.set_cons_zero,List.set_cons_succ,i64_w,i32_w]
          rfl
         refine pure_ (i:=10) (N:=some 22) (v:=?_) (a':=?_) #[true,true,true,true,true,true,true,true,true,true,true,false,false,false,false] rfl rfl (any_of HT_.out (by kernel_rfl)) (fun _ _ _ h=>h) (Or.inl ⟨by rfl,?_⟩) ?_ ?_
         rotate_left
         ·intro w'
          go_simp
          with_reducible rfl
         rotate_left
         ·simp only [Act.put,List.setIfInBounds_toArray,List.set_cons_zero,List.set_cons_succ,i64_w,i32_w]
          rfl
         refine pure_ (i:=11) (N:=some 23) (v:=?_) (a':=?_) #[true,true,true,true,true,true,true,true,true,true,true,true,false,false,false] rfl rfl (any_of HT_.out (by kernel_rfl)) (fun _ _ _ h=>h) (Or.inl ⟨by rfl,?_⟩) ?_ ?_
         rotate_left
         ·intro w'
          go_simp
          with_reducible rfl
         rotate_left
         ·simp only [Act.put,List.setIfInBounds_toArray,List.set_cons_zero,List.set_cons_succ,i64_w,i32_w]
          rfl
         refine one_ (i:=12) (N:=some 4) #[true,true,true,true,true,true,true,true,true,true,true,true,true,false,false] rfl rfl (one_of HT_.out (by kernel_rfl)) (by decide) (fun K hK=>?_)
         refine box_step ?hg (N:=4) ?hd (cs:=#[.string (⟨#[]⟩:ByteArray),.int .i64 0,.slice none 0 0]) (t:=24) ?hr ?_;(case hd=>rfl);(case hg=>rfl);(case hr=>first|(go_simp;done)|(go_simp;rfl))
         intro gb112 hg w10 hbox hb
         have n0_:=Aside0.mk (Kd.R_below (by (with_reducible repeat (first|apply Kd.R_alloc|apply Kd.R_drewN|apply Kd.R_drew));exact HO110.out) hb)
         have n1_:=Aside0.mk (below_step (by repeat (first|(with_reducible first|exact HB.out|apply below_alloc|apply pw_below_drewN|apply below_drew1)|exact HB.out)) hb)
         have n2_:=Aside0.mk (hbox)
         have n3_:=Aside0.mk ((by rw [hg];exact (below_size (by repeat (first|(with_reducible first|exact HB.out|apply below_alloc|apply pw_below_drewN|apply below_drew1)|exact HB.out))):w.heap.size≤gb112))
         have n4_:=Aside0.mk ((by rw [hg];exact (below_size (by repeat (first|(with_reducible first|exact HB.out|apply below_alloc|apply pw_below_drewN|apply below_drew1)|exact HB.out))):w.heap.size≤gb112))
         clear HO110
         clear HB
         have HO110:=n0_
         have HB:=n1_
         have BK112:=n2_
         have GW112:=n3_
         have GE112:=n4_
         clear n0_ n1_ n2_ n3_ n4_
         clear hb hbox hg
         refine hK.out _ _ ⟨((HB.out.cell (World.block_lt_of_cell? w _ hw105_0)).trans hw105_0),((HB.out.cell (World.block_lt_of_cell? w _ hw105_1)).trans hw105_1),((HB.out.cell (World.block_lt_of_cell? w _ hw105_2)).trans hw105_2)⟩ (fun hHeld=>?_)
         clear hK K
         refine norm_ (a':=?_) ?_ ?_
         rotate_left
         ·show Act.put _ (some 4) _=_
          simp only [Act.put,List.setIfInBounds_toArray,List.set_cons_zero,List.set_cons_succ,i64_w,i32_w]
          rfl
         exact norm_ (by simp only [putAll,Act.put,List.setIfInBounds_toArray,List.set_cons_zero,List.set_cons_succ]) (hCont (v109,gb112) _ ⟨hHeld,(by (with_reducible repeat (first|apply Kd.R_alloc|apply Kd.R_drewN|apply Kd.R_drew));exact HO110.out),(by (with_reducible repeat (first|refine blk_drewN ?_ _|refine blk_drew ?_|refine blk_alloc ?_ _));exact BK112.out),GW112.out,GE112.out,(by repeat (first|(with_reducible first|exact HB.out|apply below_alloc|apply pw_below_drewN|apply below_drew1|refine below_set ?_ GE112.out)|exact HB.out))⟩)
        ·skip
         refine box_step ?hg (N:=4) ?hd (cs:=#[.string (⟨#[]⟩:ByteArray),.int .i64 0,.slice none 0 0]) (t:=24) ?hr ?_;(case hd=>rfl);(case hg=>rfl);(case hr=>first|(go_simp;done)|(go_simp;rfl))
         intro gb112 hg w9 hbox hb
         have n0_:=Aside0.mk (below_step (by repeat (first|(with_reducible first|exact HB.out|apply below_alloc|apply pw_below_drewN|apply below_drew1)|exact HB.out)) hb)
         have n1_:=Aside0.mk (hbox)
         have n2_:=Aside0.mk ((by rw [hg];exact (below_size (by repeat (first|(with_reducible first|exact HB.out|apply below_alloc|apply pw_below_drewN|apply below_drew1)|exact HB.out))):w.heap.size≤gb112))
         have n3_:=Aside0.mk ((by rw [hg];exact (below_size (by repeat (first|(with_reducible first|exact HB.out|apply below_alloc|apply pw_below_drewN|apply below_drew1)|exact HB.out))):w.heap.size≤gb112))
         clear HB
         have HB:=n0_
         have BK112:=n1_
         have GW112:=n2_
         have GE112:=n3_
         clear n0_ n1_ n2_ n3_
         clear hb hbox hg
         refine hK.out _ _ ⟨((HB.out.cell (World.block_lt_of_cell? w _ hw105_0)).trans hw105_0),((HB.out.cell (World.block_lt_of_cell? w _ hw105_1)).trans hw105_1),((HB.out.cell (World.block_lt_of_cell? w _ hw105_2)).trans hw105_2)⟩ (fun hHeld=>?_)
         clear hK K
         refine norm_ (a':=?_) ?_ ?_
         rotate_left
         ·show Act.put _ (some 4) _=_
          simp only [Act.put,List.setIfInBounds_toArray,List.set_cons_zero,List.set_cons_succ,i64_w,i32_w]
          rfl
         refine one_ (i:=8) (N:=some 21) #[true,true,true,true,true,true,true,true,true,false,false,false,true,false,false] rfl rfl (one_of HT_.out (by kernel_rfl)) (by decide) (fun K hK=>?_)
         refine goes_ Tryd.func14 (by kernel_rfl) rfl #[.slice (some ad105) y101.length c0,.string ((rd_T24 l0 x3_1).f0)] (by rfl) rfl rfl (by (try simp only [List.map_toArray,List.map_cons,List.map_nil]);first|done|rfl|(simp only [List.length_drop,List.length_take];rfl)) ?_
         with_reducible refine (schedule_Find.calls _ _ y101 ((rd_T24 l0 x3_1).f0) t106 t107 t108 true _ ?side1 ?side2 A5.out).mono ?_
         (case side1=>repeat (first|exact (Kd.C_below HR104.out HB.out)|(with_reducible refine Kd.C_alloc ?_ _)|(with_reducible refine Kd.C_drewN ?_ _)|(with_reducible refine Kd.C_drew ?_)))
         (case side2=>exact HC104.out)
         rintro e w10 ⟨v109,rfl,ho0,hb⟩
         refine ⟨_,rfl,?_⟩
         have n0_:=Aside0.mk (Kd.R_lower ho0 (below_size (by repeat (first|(with_reducible first|exact HB.out|apply below_alloc|apply pw_below_drewN|apply below_drew1|refine below_set ?_ GE112.out)|exact HB.out))))
         have n1_:=Aside0.mk (blk_below (g:=gb112) (o:=.cells #[.string (⟨#[]⟩:ByteArray),.int .i64 0,.slice none 0 0] 24 (0,0)) (by (with_reducible repeat (first|refine blk_drewN ?_ _|refine blk_drew ?_|refine blk_alloc ?_ _));exact BK112.out) hb)
         have n2_:=Aside0.mk (below_step (by repeat (first|(with_reducible first|exact HB.out|apply below_alloc|apply pw_below_drewN|apply below_drew1|refine below_set ?_ GE112.out)|exact HB.out)) hb)
         clear BK112
         clear HB
         have HO110:=n0_
         have BK112:=n1_
         have HB:=n2_
         clear n0_ n1_ n2_
         (try clear hb)
         (try clear hb2)
         (try clear hk)
         (try clear hi)
         (try clear ho0)
         refine hK.out _ _ ⟨((HB.out.cell (World.block_lt_of_cell? w _ hw105_0)).trans hw105_0),((HB.out.cell (World.block_lt_of_cell? w _ hw105_1)).trans hw105_1),((HB.out.cell (World.block_lt_of_cell? w _ hw105_2)).trans hw105_2)⟩ (fun hHeld=>?_)
         clear hK K
         refine norm_ (a':=?_) ?_ ?_
         rotate_left
         ·show Act.put _ (some 21) _=_
          simp only [Act.put,List.setIfInBounds_toArray,List.set_cons_zero,List.set_cons_succ,i64_w,i32_w]
          rfl
         refine pure_ (i:=9) (N:=some 12) (v:=?_) (a':=?_) #[true,true,true,true,true,true,true,true,true,true,false,false,true,false,false] rfl rfl (any_of HT_.out (by kernel_rfl)) (fun _ _ _ h=>h) (Or.inl ⟨by rfl,?_⟩) ?_ ?_
         rotate_left
         ·intro w'
          go_simp
          with_reducible rfl
         rotate_left
         ·simp only [Act.put,List.setIfInBounds_toArray,List.set_cons_zero,List.set_cons_succ,i64_w,i32_w]
          rfl
         refine pure_ (i:=10) (N:=some 22) (v:=?_) (a':=?_) #[true,true,true,true,true,true,true,true,true,true,true,false,true,false,false] rfl rfl (any_of HT_.out (by kernel_rfl)) (fun _ _ _ h=>h) (Or.inl ⟨by rfl,?_⟩) ?_ ?_
         rotate_left
         ·intro w'
          go_simp
          with_reducible rfl
         rotate_left
         ·simp only [Act.put,List.setIfInBounds_toArray,List.set_cons_zero,List.set_cons_succ,i64_w,i32_w]
          rfl
         refine pure_ (i:=11) (N:=some 23) (v:=?_) (a':=?_) #[true,true,true,true,true,true,true,true,true,true,true,true,true,false,false] rfl rfl (any_of HT_.out (by kernel_rfl)) (fun _ _ _ h=>h) (Or.inl ⟨by rfl,?_⟩) ?_ ?_
         rotate_left
         ·intro w'
          go_simp
          with_reducible rfl
         rotate_left
         ·simp only [Act.put,List.setIfInBounds_toArray,List.set_cons_zero,List.set_cons_succ,i64_w,i32_w]
          rfl
         exact norm_ (by simp only [putAll,Act.put,List.setIfInBounds_toArray,List.set_cons_zero,List.set_cons_succ]) (hCont (v109,gb112) _ ⟨hHeld,(by (with_reducible repeat (first|apply Kd.R_alloc|apply Kd.R_drewN|apply Kd.R_drew));exact HO110.out),(by (with_reducible repeat (first|refine blk_drewN ?_ _|refine blk_drew ?_|refine blk_alloc ?_ _));exact BK112.out),GW112.out,GE112.out,(by repeat (first|(with_reducible first|exact HB.out|apply below_alloc|apply pw_below_drewN|apply below_drew1|refine below_set ?_ GE112.out)|exact HB.out))⟩)
       rintro ⟨v109,gb112⟩ w11 ⟨hS_,h0_,h1_,h2_,h3_,h4_⟩
       have n0_:Aside0 (Kd.R k52 52 w11 w.heap.size (fun _=>True) v109 t108):=⟨h0_⟩
       have n1_:Aside0 (w11.heap[gb112]?=some (.cells #[.string (⟨#[]⟩:ByteArray),.int .i64 0,.slice none 0 0] 24 (0,0))):=⟨h1_⟩
       have n2_:Aside0 (w.heap.size≤gb112):=⟨h2_⟩
       have n3_:Aside0 (w.heap.size≤gb112):=⟨h3_⟩
       have n4_:Aside0 (Below w.heap.size w w11):=⟨h4_⟩
       clear HB
       clear h0_ h1_ h2_ h3_ h4_
       have HO110:=n0_
       have BK112:=n1_
       have GW112:=n2_
       have GE112:=n3_
       have HB:=n4_
       clear n0_ n1_ n2_ n3_ n4_
       have hHeld:w11.cell? (ad105.add ((x3_1).toNat * 3))=some (.string ((rd_T24 l0 x3_1).f0))∧w11.cell? ⟨(ad105.add ((x3_1).toNat * 3)).block,(ad105.add ((x3_1).toNat * 3)).off+1,none⟩=some (.int .i64 ((rd_T24 l0 x3_1).f1))∧w11.cell? ⟨(ad105.add ((x3_1).toNat * 3)).block,(ad105.add ((x3_1).toNat * 3)).off+2,none⟩=some (.slice A105_2 ((rd_T24 l0 x3_1).f2).length c105_2):=hS_
       obtain ⟨Ao14,co14,eo14⟩:=Kd.R_slice HO110.out
       (first|subst eo14|(injection eo14 with f1_ f2_ f3_;have f4_:=f1_.symm;have f5_:=f3_.symm;clear f1_ f2_ f3_;subst f4_;subst f5_))
       refine norm_ (a':=?_) ?_ ?_
       rotate_left
       ·simp only [putAll,Act.put,List.setIfInBounds_toArray,List.set_cons_zero,List.set_cons_succ]
        rfl
       refine one_ (i:=13) (N:=none) #[true,true,true,true,true,true,true,true,true,true,true,true,true,true,false] rfl rfl (one_of HT_.out (by kernel_rfl)) (by decide) (fun K hK=>?_)
       have hs12:w11.cell? ⟨gb112,0,none⟩=some (.string (⟨#[]⟩:ByteArray)):=(blk_cell BK112.out 0).trans rfl
       have hfs12:=blk_frozen BK112.out 0
       have hs13:w11.cell? ⟨gb112,1,none⟩=some (.int .i64 0):=(blk_cell BK112.out 1).trans rfl
       have hfs13:=blk_frozen BK112.out 1
       have hs15:w11.cell? ⟨gb112,2,none⟩=some (.slice none 0 0):=(blk_cell BK112.out 2).trans rfl
       have hfs15:=blk_frozen BK112.out 2
       refine skip_ (w1:=?_) (by rfl) rfl ?_ ?_
       rotate_left
       ·go_simp
        rfl
       refine hK.out _ _ ⟨((cell_far (p:=⟨gb112,_,none⟩) (by first|exact Nat.ne_of_lt (Nat.lt_of_lt_of_le (by have:=World.block_lt_of_cell? _ _ hw105_0;first|rwa [add_block] at this|exact this) GW112.out)|(rw [add_block];exact Nat.ne_of_lt (Nat.lt_of_lt_of_le (by have:=World.block_lt_of_cell? _ _ hw105_0;first|rwa [add_block] at this|exact this) GW112.out))|(show (Addr.add _ _).block ≠ _;rw [add_block];exact Nat.ne_of_lt (Nat.lt_of_lt_of_le (by have:=World.block_lt_of_cell? _ _ hw105_0;first|rwa [add_block] at this|exact this) GW112.out))|(dsimp only;exact Nat.ne_of_lt (Nat.lt_of_lt_of_le (by have:=World.block_lt_of_cell? _ _ hw105_0;first|rwa [add_block] at this|exact this) GW112.out))) _).trans (((cell_far (p:=⟨gb112,_,none⟩) (by first|exact Nat.ne_of_lt (Nat.lt_of_lt_of_le (by have:=World.block_lt_of_cell? _ _ hw105_0;first|rwa [add_block] at this|exact this) GW112.out)|(rw [add_block];exact Nat.ne_of_lt (Nat.lt_of_lt_of_le (by have:=World.block_lt_of_cell? _ _ hw105_0;first|rwa [add_block] at this|exact this) GW112.out))|(show (Addr.add _ _).block ≠ _;rw [add_block];exact Nat.ne_of_lt (Nat.lt_of_lt_of_le (by have:=World.block_lt_of_cell? _ _ hw105_0;first|rwa [add_block] at this|exact this) GW112.out))|(dsimp only;exact Nat.ne_of_lt (Nat.lt_of_lt_of_le (by have:=World.block_lt_of_cell? _ _ hw105_0;first|rwa [add_block] at this|exact this) GW112.out))) _).trans (((cell_far (p:=⟨gb112,_,none⟩) (by first|exact Nat.ne_of_lt (Nat.lt_of_lt_of_le (by have:=World.block_lt_of_cell? _ _ hw105_0;first|rwa [add_block] at this|exact this) GW112.out)|(rw [add_block];exact Nat.ne_of_lt (Nat.lt_of_lt_of_le (by have:=World.block_lt_of_cell? _ _ hw105_0;first|rwa [add_block] at this|exact this) GW112.out))|(show (Addr.add _ _).block ≠ _;rw [add_block];exact Nat.ne_of_lt (Nat.lt_of_lt_of_le (by have:=World.block_lt_of_cell? _ _ hw105_0;first|rwa [add_block] at this|exact this) GW112.out))|(dsimp only;exact Nat.ne_of_lt (Nat.lt_of_lt_of_le (by have:=World.block_lt_of_cell? _ _ hw105_0;first|rwa [add_block] at this|exact this) GW112.out))) _).trans (hHeld.1)))))),((cell_far (p:=⟨gb112,_,none⟩) (by first|exact Nat.ne_of_lt (Nat.lt_of_lt_of_le (by have:=World.block_lt_of_cell? _ _ hw105_1;first|rwa [add_block] at this|exact this) GW112.out)|(rw [add_block];exact Nat.ne_of_lt (Nat.lt_of_lt_of_le (by have:=World.block_lt_of_cell? _ _ hw105_1;first|rwa [add_block] at this|exact this) GW112.out))|(show (Addr.add _ _).block ≠ _;rw [add_block];exact Nat.ne_of_lt (Nat.lt_of_lt_of_le (by have:=World.block_lt_of_cell? _ _ hw105_1;first|rwa [add_block] at this|exact this) GW112.out))|(dsimp only;exact Nat.ne_of_lt (Nat.lt_of_lt_of_le (by have:=World.block_lt_of_cell? _ _ hw105_1;first|rwa [add_block] at this|exact this) GW112.out))) _).trans (((cell_far (p:=⟨gb112,_,none⟩) (by first|exact Nat.ne_of_lt (Nat.lt_of_lt_of_le (by have:=World.block_lt_of_cell? _ _ hw105_1;first|rwa [add_block] at this|exact this) GW112.out)|(rw [add_block];exact Nat.ne_of_lt (Nat.lt_of_lt_of_le (by have:=World.block_lt_of_cell? _ _ hw105_1;first|rwa [add_block] at this|exact this) GW112.out))|(show (Addr.add _ _).block ≠ _;rw [add_block];exact Nat.ne_of_lt (Nat.lt_of_lt_of_le (by have:=World.block_lt_of_cell? _ _ hw105_1;first|rwa [add_block] at this|exact this) GW112.out))|(dsimp only;exact Nat.ne_of_lt (Nat.lt_of_lt_of_le (by have:=World.block_lt_of_cell? _ _ hw105_1;first|rwa [add_block] at this|exact this) GW112.out))) _).trans (((cell_far (p:=⟨gb112,_,none⟩) (by first|exact Nat.ne_of_lt (Nat.lt_of_lt_of_le (by have:=World.block_lt_of_cell? _ _ hw105_1;first|rwa [add_block] at this|exact this) GW112.out)|(rw [add_block];exact Nat.ne_of_lt (Nat.lt_of_lt_of_le (by have:=World.block_lt_of_cell? _ _ hw105_1;first|rwa [add_block] at this|exact this) GW112.out))|(show (Addr.add _ _).block ≠ _;rw [add_block];exact Nat.ne_of_lt (Nat.lt_of_lt_of_le (by have:=World.block_lt_of_cell? _ _ hw105_1;first|rwa [add_block] at this|exact this) GW112.out))|(dsimp only;exact Nat.ne_of_lt (Nat.lt_of_lt_of_le (by have:=World.block_lt_of_cell? _ _ hw105_1;first|rwa [add_block] at this|exact this) GW112.out))) _).trans (hHeld.2.1)))))),((cell_far (p:=⟨gb112,_,none⟩) (by first|exact Nat.ne_of_lt (Nat.lt_of_lt_of_le (by have:=World.block_lt_of_cell? _ _ hw105_2;first|rwa [add_block] at this|exact this) GW112.out)|(rw [add_block];exact Nat.ne_of_lt (Nat.lt_of_lt_of_le (by have:=World.block_lt_of_cell? _ _ hw105_2;first|rwa [add_block] at this|exact this) GW112.out))|(show (Addr.add _ _).block ≠ _;rw [add_block];exact Nat.ne_of_lt (Nat.lt_of_lt_of_le (by have:=World.block_lt_of_cell? _ _ hw105_2;first|rwa [add_block] at this|exact this) GW112.out))|(dsimp only;exact Nat.ne_of_lt (Nat.lt_of_lt_of_le (by have:=World.block_lt_of_cell? _ _ hw105_2;first|rwa [add_block] at this|exact this) GW112.out))) _).trans (((cell_far (p:=⟨gb112,_,none⟩) (by first|exact Nat.ne_of_lt (Nat.lt_of_lt_of_le (by have:=World.block_lt_of_cell? _ _ hw105_2;first|rwa [add_block] at this|exact this) GW112.out)|(rw [add_block];exact Nat.ne_of_lt (Nat.lt_of_lt_of_le (by have:=World.block_lt_of_cell? _ _ hw105_2;first|rwa [add_block] at this|exact this) GW112.out))|(show (Addr.add _ _).block ≠ _;rw [add_block];exact Nat.ne_of_lt (Nat.lt_of_lt_of_le (by have:=World.block_lt_of_cell? _ _ hw105_2;first|rwa [add_block] at this|exact this) GW112.out))|(dsimp only;exact Nat.ne_of_lt (Nat.lt_of_lt_of_le (by have:=World.block_lt_of_cell? _ _ hw105_2;first|rwa [add_block] at this|exact this) GW112.out))) _).trans (((cell_far (p:=⟨gb112,_,none⟩) (by first|exact Nat.ne_of_lt (Nat.lt_of_lt_of_le (by have:=World.block_lt_of_cell? _ _ hw105_2;first|rwa [add_block] at this|exact this) GW112.out)|(rw [add_block];exact Nat.ne_of_lt (Nat.lt_of_lt_of_le (by have:=World.block_lt_of_cell? _ _ hw105_2;first|rwa [add_block] at this|exact this) GW112.out))|(show (Addr.add _ _).block ≠ _;rw [add_block];exact Nat.ne_of_lt (Nat.lt_of_lt_of_le (by have:=World.block_lt_of_cell? _ _ hw105_2;first|rwa [add_block] at this|exact this) GW112.out))|(dsimp only;exact Nat.ne_of_lt (Nat.lt_of_lt_of_le (by have:=World.block_lt_of_cell? _ _ hw105_2;first|rwa [add_block] at this|exact this) GW112.out))) _).trans (hHeld.2.2))))))⟩ (fun hHeld=>?_)
       clear hK K
       refine pure_ (i:=14) (N:=some 5) (v:=?_) (a':=?_) #[true,true,true,true,true,true,true,true,true,true,true,true,true,true,true] rfl rfl (any_of HT_.out (by kernel_rfl)) (fun _ _ _ h=>h) (Or.inl ⟨by rfl,?_⟩) ?_ ?_
       rotate_left
       ·intro w'
        go_simp
        with_reducible rfl
       rotate_left
       ·simp only [Act.put,List.setIfInBounds_toArray,List.set_cons_zero,List.set_cons_succ,i64_w,i32_w]
        rfl
       refine done_ (done_of HT_.out (by kernel_rfl)) ?_
       try go_wp2
       go_ret
       exact ⟨by first|rfl|(simp [errW_none,errW_some]<;>rfl)|(simp [*,errW_none,errW_some]<;>rfl),by repeat (first|(with_reducible first|exact HB.out|apply below_alloc|apply pw_below_drewN|apply below_drew1|refine below_set ?_ GE112.out)|exact HB.out)⟩
      ·replace c6:=Bool.eq_false_iff.mpr c6
       subst c6
       have H1:((schedule_Check.f ((rd_T24 l0 x3_1).f0) ((rd_T24 l0 x3_1).f1) ((rd_T24 l0 x3_1).f2)).bind fun t114=>(if t114=0 then (sawmilllaw37_valid.l0 k1 l0 (wrap64 (x3_1+1))) else (some false)))=some r:=by rw [if_neg (show ¬ (false=true) by decide)] at H;exact H
       clear H
       have H:=H1
       clear H1
       replace H:=Option.bind_eq_some_iff.mp H
       obtain ⟨t114,A160,H⟩:=H
       replace H:(if t114=0 then (sawmilllaw37_valid.l0 k1 l0 (wrap64 (x3_1+1))) else (some false))=some r:=H
       have A16:=Aside0.mk A160
       clear A160
       by_cases c17:t114=0
       ·rw [if_pos c17] at H
        have c17b0:(t114 == 0)=true:=beq_iff_eq.mpr c17
        have c17b1:(t114 != 0)=false:=bne_eq_false_iff_eq.mpr c17
        clear c17
        have H':=Aside0.mk H
        clear H
        try go_wp2
        have n0_:=Aside0.mk (below_drew1 HB.out)
        clear HB
        have HB:=n0_
        clear n0_
        have q19:(x3_1:Int)≤((l0.length:Int):Int):=of_decide_eq_true (by first|(with_reducible assumption)|assumption)
        obtain ⟨i019,hi019,_,hsz19,_⟩:=info_parts info24
        have hroom19:l0.length≤c0:=HC0.out
        have hC19:Kd.C k24 _ A0 l0.length l0:=HR0.out
        have hcut19:=cut_to (P:=Tryd.prog) 25 24 .i64 Tryd.underlying25 hi019 A0 l0.length c0 x3_1 (of_decide_eq_true (by first|(with_reducible assumption)|assumption)) q19 hroom19
        have hr19:=Kd.C_take (m:=(x3_1:Int).toNat) hC19 (by omega)
        have hy19:y101.length=(x3_1:Int).toNat:=(by rw [Ny101.out,List.length_take];omega)
        rw [← Ny101.out] at hr19
        rw [← hy19] at hcut19
        have HR104:=Aside0.mk hr19
        have HC104:=Aside0.mk (show y101.length≤c0 from by omega)
        clear hr19 hC19 hroom19 hi019 hsz19
        have KY19:=Aside0.mk hy19
        clear hy19
        replace q19:=eq_true q19
        have p105:0≤(x3_1:Int):=of_decide_eq_true (by first|(with_reducible assumption)|assumption)
        have q105:x3_1 < (l0.length:Int):=of_decide_eq_true (by first|(with_reducible assumption)|assumption)
        obtain ⟨ad105,A105_2,c105_2,e105,hx105_0,hx105_1,hx105_2,hl105_2,hi105_2⟩:=at_T24 HR0.out x3_1 p105 q105
        have hw105_2:=hx105_2
        have hw105_1:=hx105_1
        have hw105_0:=hx105_0
        cases e105
        replace hx105_0:=(HB.out.cell (World.block_lt_of_cell? w _ hx105_0)).trans hx105_0
        replace hx105_1:=(HB.out.cell (World.block_lt_of_cell? w _ hx105_1)).trans hx105_1
        replace hx105_2:=(HB.out.cell (World.block_lt_of_cell? w _ hx105_2)).trans hx105_2
        have HR105_2:=Aside0.mk hi105_2
        have HC105_2:=Aside0.mk hl105_2
        clear hi105_2 hl105_2
        replace p105:=eq_true p105
        replace q105:=eq_true q105
        refine start_ (n:=15) (S:=fun w'=>w'.cell? (ad105.add ((x3_1).toNat * 3))=some (.string ((rd_T24 l0 x3_1).f0))∧w'.cell? ⟨(ad105.add ((x3_1).toNat * 3)).block,(ad105.add ((x3_1).toNat * 3)).off+1,none⟩=some (.int .i64 ((rd_T24 l0 x3_1).f1))∧w'.cell? ⟨(ad105.add ((x3_1).toNat * 3)).block,(ad105.add ((x3_1).toNat * 3)).off+2,none⟩=some (.slice A105_2 ((rd_T24 l0 x3_1).f2).length c105_2)) (ds:=[]) #[false,false,false,false,false,false,false,false,false,false,false,false,false,false,false] (by kernel_rfl) rfl rfl ⟨((HB.out.cell (World.block_lt_of_cell? w _ hw105_0)).trans hw105_0),((HB.out.cell (World.block_lt_of_cell? w _ hw105_1)).trans hw105_1),((HB.out.cell (World.block_lt_of_cell? w _ hw105_2)).trans hw105_2)⟩ (fun hHeld=>?_);refine with_tabW sawmilllaw37_valid.tab4 sawmilllaw37_valid.bits4 (fun HT_ HW_=>?_)
        generalize wr.drew=w18 at HB HR104 HR105_2 hx105_0 hx105_1 hx105_2 hHeld ⊢
        refine pure_ (i:=0) (N:=some 13) (v:=?_) (a':=?_) #[true,false,false,false,false,false,false,false,false,false,false,false,false,false,false] rfl rfl (any_of HT_.out (by kernel_rfl)) (fun _ _ _ h=>h) (Or.inl ⟨by rfl,?_⟩) ?_ ?_
        rotate_left
        ·intro w'
         go_simp
         with_reducible rfl
        rotate_left
        ·simp only [Act.put,List.setIfInBounds_toArray,List.set_cons_zero,List.set_cons_succ,i64_w,i32_w]
         rfl
        refine pure_ (i:=1) (N:=some 14) (v:=?_) (a':=?_) #[true,true,false,false,false,false,false,false,false,false,false,false,false,false,false] rfl rfl (any_of HT_.out (by kernel_rfl)) (fun _ _ _ h=>h) (Or.inl ⟨by rfl,?_⟩) ?_ ?_
        rotate_left
        ·intro w'
         go_simp
         with_reducible rfl
        rotate_left
        ·simp only [Act.put,List.setIfInBounds_toArray,List.set_cons_zero,List.set_cons_succ,i64_w,i32_w]
         rfl
        refine pure_ (i:=2) (N:=some 15) (v:=?_) (a':=?_) #[true,true,true,false,false,false,false,false,false,false,false,false,false,false,false] rfl rfl (any_of HT_.out (by kernel_rfl)) (fun _ _ _ h=>h) (Or.inl ⟨by rfl,?_⟩) ?_ ?_
        rotate_left
        ·intro w'
         go_simp
         with_reducible rfl
        rotate_left
        ·simp only [Act.put,List.setIfInBounds_toArray,List.set_cons_zero,List.set_cons_succ,i64_w,i32_w]
         rfl
        refine pure_ (i:=3) (N:=some 16) (v:=?_) (a':=?_) #[true,true,true,true,false,false,false,false,false,false,false,false,false,false,false] rfl rfl (any_of HT_.out (by kernel_rfl)) (fun _ _ _ h=>h) (Or.inl ⟨by rfl,?_⟩) ?_ ?_
        rotate_left
        ·intro w'
         go_simp
         with_reducible rfl
        rotate_left
        ·simp only [Act.put,List.setIfInBounds_toArray,List.set_cons_zero,List.set_cons_succ,i64_w,i32_w]
         rfl
        refine pure_ (i:=4) (N:=some 17) (v:=?_) (a':=?_) #[true,true,true,true,true,false,false,false,false,false,false,false,false,false,false] rfl rfl (any_of HT_.out (by kernel_rfl)) (fun _ _ _ h=>h) (Or.inl ⟨by rfl,?_⟩) ?_ ?_
        rotate_left
        ·intro w'
         go_simp
         with_reducible rfl
        rotate_left
        ·simp only [Act.put,List.setIfInBounds_toArray,List.set_cons_zero,List.set_cons_succ,i64_w,i32_w]
         rfl
        refine pure_ (i:=5) (N:=some 18) (v:=?_) (a':=?_) #[true,true,true,true,true,true,false,false,false,false,false,false,false,false,false] rfl rfl (any_of HT_.out (by kernel_rfl)) (fun _ _ _ h=>h) (Or.inl ⟨by rfl,?_⟩) ?_ ?_
        rotate_left
        ·intro w'
         go_simp
         with_reducible rfl
        rotate_left
        ·simp only [Act.put,List.setIfInBounds_toArray,List.set_cons_zero,List.set_cons_succ,i64_w,i32_w]
         rfl
        refine pure_ (i:=6) (N:=some 19) (v:=?_) (a':=?_) #[true,true,true,true,true,true,true,false,false,false,false,false,false,false,false] rfl rfl (any_of HT_.out (by kernel_rfl)) (fun _ _ _ h=>h) (Or.inl ⟨by rfl,?_⟩) ?_ ?_
        rotate_left
        ·intro w'
         go_simp
         with_reducible rfl
        rotate_left
        ·simp only [Act.put,List.setIfInBounds_toArray,List.set_cons_zero,List.set_cons_succ,i64_w,i32_w]
         rfl
        refine take_ (i:=7) (N:=some 20) (v:=?_) (a':=?_) #[true,true,true,true,true,true,true,true,false,false,false,false,false,false,false] rfl rfl (take_ofW HT_.out HW_.out (by kernel_rfl)) (fun _ _ _ h=>h) (Or.inl ⟨by rfl,?_⟩) hHeld ?_ ?_
        rotate_left
        ·rintro w' ⟨s0,s1,s2⟩
         go_simp
         with_reducible rfl
        rotate_left
        ·simp only [Act.put,List.setIfInBounds_toArray,List.set_cons_zero,List.set_cons_succ,i64_w,i32_w]
         rfl
        refine join_ (σ:=Value × Nat) 2 #[true,true,true,true,true,true,true,true,true,true,true,true,true,false,false] (fun s_=>[(21,.tuple #[.agg #[.string t106,.int .i64 t107,s_.1],.bool false]),(4,.pointer (some ⟨s_.2,0,none⟩)),(12,.tuple #[.agg #[.string t106,.int .i64 t107,s_.1],.bool false]),(22,.agg #[.string t106,.int .i64 t107,s_.1]),(23,.bool false)]) (fun s_ w'=>(w'.cell? (ad105.add ((x3_1).toNat * 3))=some (.string ((rd_T24 l0 x3_1).f0))∧w'.cell? ⟨(ad105.add ((x3_1).toNat * 3)).block,(ad105.add ((x3_1).toNat * 3)).off+1,none⟩=some (.int .i64 ((rd_T24 l0 x3_1).f1))∧w'.cell? ⟨(ad105.add ((x3_1).toNat * 3)).block,(ad105.add ((x3_1).toNat * 3)).off+2,none⟩=some (.slice A105_2 ((rd_T24 l0 x3_1).f2).length c105_2))∧(Kd.R k52 52 w' w.heap.size (fun _=>True) s_.1 t108)∧(w'.heap[s_.2]?=some (.cells #[.string (⟨#[]⟩:ByteArray),.int .i64 0,.slice none 0 0] 24 (0,0)))∧(w.heap.size≤s_.2)∧(w.heap.size≤s_.2)∧(Below w.heap.size w w')) ?_ ?_
        rotate_left
        ·intro hCont
         refine two_ (i:=8) (j:=12) (Ni:=some 21) (Nj:=some 4) #[true,true,true,true,true,true,true,true,true,false,false,false,false,false,false] #[true,true,true,true,true,true,true,true,false,false,false,false,true,false,false] rfl rfl rfl rfl (two_of HT_.out (by kernel_rfl)) (by decide) (by decide) (fun K hK=>?_) (fun K hK=>?_)
         ·skip
          refine goes_ Tryd.func14 (by kernel_rfl) rfl #[.slice (some ad105) y101.length c0,.string ((rd_T24 l0 x3_1).f0)] (by rfl) rfl rfl (by (try simp only [List.map_toArray,List.map_cons,List.map_nil]);first|done|rfl|(simp only [List.length_drop,List.length_take];rfl)) ?_
          with_reducible refine (schedule_Find.calls _ _ y101 ((rd_T24 l0 x3_1).f0) t106 t107 t108 false _ ?side1 ?side2 A5.out).mono ?_
          (case side1=>repeat (first|exact (Kd.C_below HR104.out HB.out)|(with_reducible refine Kd.C_alloc ?_ _)|(with_reducible refine Kd.C_drewN ?_ _)|(with_reducible refine Kd.C_drew ?_)))
          (case side2=>exact HC104.out)
          rintro e w20 ⟨v109,rfl,ho0,hb⟩
          refine ⟨_,rfl,?_⟩
          have n0_:=Aside0.mk (Kd.R_lower ho0 (below_size (by repeat (first|(with_reducible first|exact HB.out|apply below_alloc|apply pw_below_drewN|apply below_drew1)|exact HB.out))))
          have n1_:=Aside0.mk (below_step (by repeat (first|(with_reducible first|exact HB.out|apply below_alloc|apply pw_below_drewN|apply below_drew1)|exact HB.out)) hb)
          clear HB
          have HO110:=n0_
          have HB:=n1_
          clear n0_ n1_
          (try clear hb)
          (try clear hb2)
          (try clear hk)
          (try clear hi)
          (try clear ho0)
          refine hK.out _ _ ⟨((HB.out.cell (World.block_lt_of_cell? w _ hw105_0)).trans hw105_0),((HB.out.cell (World.block_lt_of_cell? w _ hw105_1)).trans hw105_1),((HB.out.cell (World.block_lt_of_cell? w _ hw105_2)).trans hw105_2)⟩ (fun hHeld=>?_)
          clear hK K
          refine norm_ (a':=?_) ?_ ?_
          rotate_left
          ·show Act.put _ (some 21) _=_
           simp only [Act.put,List.setIfInBounds_toArray,List.set_cons_zero,List.set_cons_succ,i64_w,i32_w]
           rfl
          refine pure_ (i:=9) (N:=some 12) (v:=?_) (a':=?_) #[true,true,true,true,true,true,true,true,true,true,false,false,false,false,false] rfl rfl (any_of HT_.out (by kernel_rfl)) (fun _ _ _ h=>h) (Or.inl ⟨by rfl,?_⟩) ?_ ?_
          rotate_left
          ·intro w'
           go_simp
           with_reducible rfl
          rotate_left
          ·simp only [Act.put,List.setIfInBounds_toArray,List.set_cons_zero,List.set_cons_succ,i64_w,i32_w]
           rfl
          refine pure_ (i:=10) (N:=some 22) (v:=?_) (a':=?_) #[true,true,true,true,true,true,true,true,true,true,true,false,false,false,false] rfl rfl (any_of HT_.out (by kernel_rfl)) (fun _ _ _ h=>h) (Or.inl ⟨by rfl,?_⟩) ?_ ?_
          rotate_left
          ·intro w'
           go_simp
           with_reducible rfl
          rotate_left
          ·simp only [Act.put,List.setIfInBounds_toArray,List.set_cons_zero,List.set_cons_succ,i64_w,i32_w]
           rfl
          refine pure_ (i:=11) (N:=some 23) (v:=?_) (a':=?_) #[true,true,true,true,true,true,true,true,true,true,true,true,false,false,false] rfl rfl (any_of HT_.out (by kernel_rfl)) (fun _ _ _ h=>h) (Or.inl ⟨by rfl,?_⟩) ?_ ?_
          rotate_left
          ·intro w'
           go_simp
           with_reducible rfl
          rotate_left
          ·simp only [Act.put,List.setIfInBounds_toArray,List.set_cons_zero,List.set_cons_succ,i64_w,i32_w]
           rfl
          refine one_ (i:=12) (N:=some 4) #[true,true,true,true,true,true,true,true,true,true,true,true,true,false,false] rfl rfl (one_of HT_.out (by kernel_rfl)) (by decide) (fun K hK=>?_)
          refine box_step ?hg (N:=4) ?hd (cs:=#[.string (⟨#[]⟩:ByteArray),.int .i64 0,.slice none 0 0]) (t:=24) ?hr ?_;(case hd=>rfl);(case hg=>rfl);(case hr=>first|(go_simp;done)|(go_simp;rfl))
          intro gb112 hg w21 hbox hb
          have n0_:=Aside0.mk (Kd.R_below (by (with_reducible repeat (first|apply Kd.R_alloc|apply Kd.R_drewN|apply Kd.R_drew));exact HO110.out) hb)
          have n1_:=Aside0.mk (below_step (by repeat (first|(with_reducible first|exact HB.out|apply below_alloc|apply pw_below_drewN|apply below_drew1)|exact HB.out)) hb)
          have n2_:=Aside0.mk (hbox)
          have n3_:=Aside0.mk ((by rw [hg];exact (below_size (by repeat (first|(with_reducible first|exact HB.out|apply below_alloc|apply pw_below_drewN|apply below_drew1)|exact HB.out))):w.heap.size≤gb112))
          have n4_:=Aside0.mk ((by rw [hg];exact (below_size (by repeat (first|(with_reducible first|exact HB.out|apply below_alloc|apply pw_below_drewN|apply below_drew1)|exact HB.out))):w.heap.size≤gb112))
          clear HO110
          clear HB
          have HO110:=n0_
          have HB:=n1_
          have BK112:=n2_
          have GW112:=n3_
          have GE112:=n4_
          clear n0_ n1_ n2_ n3_ n4_
          clear hb hbox hg
          refine hK.out _ _ ⟨((HB.out.cell (World.block_lt_of_cell? w _ hw105_0)).trans hw105_0),((HB.out.cell (World.block_lt_of_cell? w _ hw105_1)).trans hw105_1),((HB.out.cell (World.block_lt_of_cell? w _ hw105_2)).trans hw105_2)⟩ (fun hHeld=>?_)
          clear hK K
          refine norm_ (a':=?_) ?_ ?_
          rotate_left
          ·show Act.put _ (some 4) _=_
           simp only [Act.put,List.setIfInBounds_toArray,List.set_cons_zero,List.set_cons_succ,i64_w,i32_w]
           rfl
          exact norm_ (by simp only [putAll,Act.put,List.setIfInBounds_toArray,List.set_cons_zero,List.set_cons_succ]) (hCont (v109,gb112) _ ⟨hHeld,(by (with_reducible repeat (first|apply Kd.R_alloc|apply Kd.R_drewN|apply Kd.R_drew));exact HO110.out),(by (with_reducible repeat (first|refine blk_drewN ?_ _|refine blk_drew ?_|refine blk_alloc ?_ _));exact BK112.out),GW112.out,GE112.out,(by repeat (first|(with_reducible first|exact HB.out|apply below_alloc|apply pw_below_drewN|apply below_drew1|refine below_set ?_ GE112.out)|exact HB.out))⟩)
         ·skip
          refine box_step ?hg (N:=4) ?hd (cs:=#[.string (⟨#[]⟩:ByteArray),.int .i64 0,.slice none 0 0]) (t:=24) ?hr ?_;(case hd=>rfl);(case hg=>rfl);(case hr=>first|(go_simp;done)|(go_simp;rfl))
          intro gb112 hg w20 hbox hb
          have n0_:=Aside0.mk (below_step (by repeat (first|(with_reducible first|exact HB.out|apply below_alloc|apply pw_below_drewN|apply below_drew1)|exact HB.out)) hb)
          have n1_:=Aside0.mk (hbox)
          have n2_:=Aside0.mk ((by rw [hg];exact (below_size (by repeat (first|(with_reducible first|exact HB.out|apply below_alloc|apply pw_below_drewN|apply below_drew1)|exact HB.out))):w.heap.size≤gb112))
          have n3_:=Aside0.mk ((by rw [hg];exact (below_size (by repeat (first|(with_reducible first|exact HB.out|apply below_alloc|apply pw_below_drewN|apply below_drew1)|exact HB.out))):w.heap.size≤gb112))
          clear HB
          have HB:=n0_
          have BK112:=n1_
          have GW112:=n2_
          have GE112:=n3_
          clear n0_ n1_ n2_ n3_
          clear hb hbox hg
          refine hK.out _ _ ⟨((HB.out.cell (World.block_lt_of_cell? w _ hw105_0)).trans hw105_0),((HB.out.cell (World.block_lt_of_cell? w _ hw105_1)).trans hw105_1),((HB.out.cell (World.block_lt_of_cell? w _ hw105_2)).trans hw105_2)⟩ (fun hHeld=>?_)
          clear hK K
          refine norm_ (a':=?_) ?_ ?_
          rotate_left
          ·show Act.put _ (some 4) _=_
           simp only [Act.put,List.setIfInBounds_toArray,List.set_cons_zero,List.set_cons_succ,i64_w,i32_w]
           rfl
          refine one_ (i:=8) (N:=some 21) #[true,true,true,true,true,true,true,true,true,false,false,false,true,false,false] rfl rfl (one_of HT_.out (by kernel_rfl)) (by decide) (fun K hK=>?_)
          refine goes_ Tryd.func14 (by kernel_rfl) rfl #[.slice (some ad105) y101.length c0,.string ((rd_T24 l0 x3_1).f0)] (by rfl) rfl rfl (by (try simp only [List.map_toArray,List.map_cons,List.map_nil]);first|done|rfl|(simp only [List.length_drop,List.length_take];rfl)) ?_
          with_reducible refine (schedule_Find.calls _ _ y101 ((rd_T24 l0 x3_1).f0) t106 t107 t108 false _ ?side1 ?side2 A5.out).mono ?_
          (case side1=>repeat (first|exact (Kd.C_below HR104.out HB.out)|(with_reducible refine Kd.C_alloc ?_ _)|(with_reducible refine Kd.C_drewN ?_ _)|(with_reducible refine Kd.C_drew ?_)))
          (case side2=>exact HC104.out)
          rintro e w21 ⟨v109,rfl,ho0,hb⟩
          refine ⟨_,rfl,?_⟩
          have n0_:=Aside0.mk (Kd.R_lower ho0 (below_size (by repeat (first|(with_reducible first|exact HB.out|apply below_alloc|apply pw_below_drewN|apply below_drew1|refine below_set ?_ GE112.out)|exact HB.out))))
          have n1_:=Aside0.mk (blk_below (g:=gb112) (o:=.cells #[.string (⟨#[]⟩:ByteArray),.int .i64 0,.slice none 0 0] 24 (0,0)) (by (with_reducible repeat (first|refine blk_drewN ?_ _|refine blk_drew ?_|refine blk_alloc ?_ _));exact BK112.out) hb)
          have n2_:=Aside0.mk (below_step (by repeat (first|(with_reducible first|exact HB.out|apply below_alloc|apply pw_below_drewN|apply below_drew1|refine below_set ?_ GE112.out)|exact HB.out)) hb)
          clear BK112
          clear HB
          have HO110:=n0_
          have BK112:=n1_
          have HB:=n2_
          clear n0_ n1_ n2_
          (try clear hb)
          (try clear hb2)
          (try clear hk)
          (try clear hi)
          (try clear ho0)
          refine hK.out _ _ ⟨((HB.out.cell (World.block_lt_of_cell? w _ hw105_0)).trans hw105_0),((HB.out.cell (World.block_lt_of_cell? w _ hw105_1)).trans hw105_1),((HB.out.cell (World.block_lt_of_cell? w _ hw105_2)).trans hw105_2)⟩ (fun hHeld=>?_)
          clear hK K
          refine norm_ (a':=?_) ?_ ?_
          rotate_left
          ·show Act.put _ (some 21) _=_
           simp only [Act.put,List.setIfInBounds_toArray,List.set_cons_zero,List.set_cons_succ,i64_w,i32_w]
           rfl
          refine pure_ (i:=9) (N:=some 12) (v:=?_) (a':=?_) #[true,true,true,true,true,true,true,true,true,true,false,false,true,false,false] rfl rfl (any_of HT_.out (by kernel_rfl)) (fun _ _ _ h=>h) (Or.inl ⟨by rfl,?_⟩) ?_ ?_
          rotate_left
          ·intro w'
           go_simp
           with_reducible rfl
          rotate_left
          ·simp only [Act.put,List.setIfInBounds_toArray,List.set_cons_zero,List.set_cons_succ,i64_w,i32_w]
           rfl
          refine pure_ (i:=10) (N:=some 22) (v:=?_) (a':=?_) #[true,true,true,true,true,true,true,true,true,true,true,false,true,false,false] rfl rfl (any_of HT_.out (by kernel_rfl)) (fun _ _ _ h=>h) (Or.inl ⟨by rfl,?_⟩) ?_ ?_
          rotate_left
          ·intro w'
           go_simp
           with_reducible rfl
          rotate_left
          ·simp only [Act.put,List.setIfInBounds_toArray,List.set_cons_zero,List.set_cons_succ,i64_w,i32_w]
           rfl
          refine pure_ (i:=11) (N:=some 23) (v:=?_) (a':=?_) #[true,true,true,true,true,true,true,true,true,true,true,true,true,false,false] rfl rfl (any_of HT_.out (by kernel_rfl)) (fun _ _ _ h=>h) (Or.inl ⟨by rfl,?_⟩) ?_ ?_
          rotate_left
          ·intro w'
           go_simp
           with_reducible rfl
          rotate_left
          ·simp only [Act.put,List.setIfInBounds_toArray,List.set_cons_zero,List.set_cons_succ,i64_w,i32_w]
           rfl
          exact norm_ (by simp only [putAll,Act.put,List.setIfInBounds_toArray,List.set_cons_zero,List.set_cons_succ]) (hCont (v109,gb112) _ ⟨hHeld,(by (with_reducible repeat (first|apply Kd.R_alloc|apply Kd.R_drewN|apply Kd.R_drew));exact HO110.out),(by (with_reducible repeat (first|refine blk_drewN ?_ _|refine blk_drew ?_|refine blk_alloc ?_ _));exact BK112.out),GW112.out,GE112.out,(by repeat (first|(with_reducible first|exact HB.out|apply below_alloc|apply pw_below_drewN|apply below_drew1|refine below_set ?_ GE112.out)|exact HB.out))⟩)
        rintro ⟨v109,gb112⟩ w22 ⟨hS_,h0_,h1_,h2_,h3_,h4_⟩
        have n0_:Aside0 (Kd.R k52 52 w22 w.heap.size (fun _=>True) v109 t108):=⟨h0_⟩
        have n1_:Aside0 (w22.heap[gb112]?=some (.cells #[.string (⟨#[]⟩:ByteArray),.int .i64 0,.slice none 0 0] 24 (0,0))):=⟨h1_⟩
        have n2_:Aside0 (w.heap.size≤gb112):=⟨h2_⟩
        have n3_:Aside0 (w.heap.size≤gb112):=⟨h3_⟩
        have n4_:Aside0 (Below w.heap.size w w22):=⟨h4_⟩
        clear HB
        clear h0_ h1_ h2_ h3_ h4_
        have HO110:=n0_
        have BK112:=n1_
        have GW112:=n2_
        have GE112:=n3_
        have HB:=n4_
        clear n0_ n1_ n2_ n3_ n4_
        have hHeld:w22.cell? (ad105.add ((x3_1).toNat * 3))=some (.string ((rd_T24 l0 x3_1).f0))∧w22.cell? ⟨(ad105.add ((x3_1).toNat * 3)).block,(ad105.add ((x3_1).toNat * 3)).off+1,none⟩=some (.int .i64 ((rd_T24 l0 x3_1).f1))∧w22.cell? ⟨(ad105.add ((x3_1).toNat * 3)).block,(ad105.add ((x3_1).toNat * 3)).off+2,none⟩=some (.slice A105_2 ((rd_T24 l0 x3_1).f2).length c105_2):=hS_
        obtain ⟨Ao25,co25,eo25⟩:=Kd.R_slice HO110.out
        (first|subst eo25|(injection eo25 with f1_ f2_ f3_;have f4_:=f1_.symm;have f5_:=f3_.symm;clear f1_ f2_ f3_;subst f4_;subst f5_))
        refine norm_ (a':=?_) ?_ ?_
        rotate_left
        ·simp only [putAll,Act.put,List.setIfInBounds_toArray,List.set_cons_zero,List.set_cons_succ]
         rfl
        refine one_ (i:=13) (N:=none) #[true,true,true,true,true,true,true,true,true,true,true,true,true,true,false] rfl rfl (one_of HT_.out (by kernel_rfl)) (by decide) (fun K hK=>?_)
        have hs23:w22.cell? ⟨gb112,0,none⟩=some (.string (⟨#[]⟩:ByteArray)):=(blk_cell BK112.out 0).trans rfl
        have hfs23:=blk_frozen BK112.out 0
        have hs24:w22.cell? ⟨gb112,1,none⟩=some (.int .i64 0):=(blk_cell BK112.out 1).trans rfl
        have hfs24:=blk_frozen BK112.out 1
        have hs26:w22.cell? ⟨gb112,2,none⟩=some (.slice none 0 0):=(blk_cell BK112.out 2).trans rfl
        have hfs26:=blk_frozen BK112.out 2
        refine skip_ (w1:=?_) (by rfl) rfl ?_ ?_
        rotate_left
        ·go_simp
         rfl
        refine hK.out _ _ ⟨((cell_far (p:=⟨gb112,_,none⟩) (by first|exact Nat.ne_of_lt (Nat.lt_of_lt_of_le (by have:=World.block_lt_of_cell? _ _ hw105_0;first|rwa [add_block] at this|exact this) GW112.out)|(rw [add_block];exact Nat.ne_of_lt (Nat.lt_of_lt_of_le (by have:=World.block_lt_of_cell? _ _ hw105_0;first|rwa [add_block] at this|exact this) GW112.out))|(show (Addr.add _ _).block ≠ _;rw [add_block];exact Nat.ne_of_lt (Nat.lt_of_lt_of_le (by have:=World.block_lt_of_cell? _ _ hw105_0;first|rwa [add_block] at this|exact this) GW112.out))|(dsimp only;exact Nat.ne_of_lt (Nat.lt_of_lt_of_le (by have:=World.block_lt_of_cell? _ _ hw105_0;first|rwa [add_block] at this|exact this) GW112.out))) _).trans (((cell_far (p:=⟨gb112,_,none⟩) (by first|exact Nat.ne_of_lt (Nat.lt_of_lt_of_le (by have:=World.block_lt_of_cell? _ _ hw105_0;first|rwa [add_block] at this|exact this) GW112.out)|(rw [add_block];exact Nat.ne_of_lt (Nat.lt_of_lt_of_le (by have:=World.block_lt_of_cell? _ _ hw105_0;first|rwa [add_block] at this|exact this) GW112.out))|(show (Addr.add _ _).block ≠ _;rw [add_block];exact Nat.ne_of_lt (Nat.lt_of_lt_of_le (by have:=World.block_lt_of_cell? _ _ hw105_0;first|rwa [add_block] at this|exact this) GW112.out))|(dsimp only;exact Nat.ne_of_lt (Nat.lt_of_lt_of_le (by have:=World.block_lt_of_cell? _ _ hw105_0;first|rwa [add_block] at this|exact this) GW112.out))) _).trans (((cell_far (p:=⟨gb112,_,none⟩) (by first|exact Nat.ne_of_lt (Nat.lt_of_lt_of_le (by have:=World.block_lt_of_cell? _ _ hw105_0;first|rwa [add_block] at this|exact this) GW112.out)|(rw [add_block];exact Nat.ne_of_lt (Nat.lt_of_lt_of_le (by have:=World.block_lt_of_cell? _ _ hw105_0;first|rwa [add_block] at this|exact this) GW112.out))|(show (Addr.add _ _).block ≠ _;rw [add_block];exact Nat.ne_of_lt (Nat.lt_of_lt_of_le (by have:=World.block_lt_of_cell? _ _ hw105_0;first|rwa [add_block] at this|exact this) GW112.out))|(dsimp only;exact Nat.ne_of_lt (Nat.lt_of_lt_of_le (by have:=World.block_lt_of_cell? _ _ hw105_0;first|rwa [add_block] at this|exact this) GW112.out))) _).trans (hHeld.1)))))),((cell_far (p:=⟨gb112,_,none⟩) (by first|exact Nat.ne_of_lt (Nat.lt_of_lt_of_le (by have:=World.block_lt_of_cell? _ _ hw105_1;first|rwa [add_block] at this|exact this) GW112.out)|(rw [add_block];exact Nat.ne_of_lt (Nat.lt_of_lt_of_le (by have:=World.block_lt_of_cell? _ _ hw105_1;first|rwa [add_block] at this|exact this) GW112.out))|(show (Addr.add _ _).block ≠ _;rw [add_block];exact Nat.ne_of_lt (Nat.lt_of_lt_of_le (by have:=World.block_lt_of_cell? _ _ hw105_1;first|rwa [add_block] at this|exact this) GW112.out))|(dsimp only;exact Nat.ne_of_lt (Nat.lt_of_lt_of_le (by have:=World.block_lt_of_cell? _ _ hw105_1;first|rwa [add_block] at this|exact this) GW112.out))) _).trans (((cell_far (p:=⟨gb112,_,none⟩) (by first|exact Nat.ne_of_lt (Nat.lt_of_lt_of_le (by have:=World.block_lt_of_cell? _ _ hw105_1;first|rwa [add_block] at this|exact this) GW112.out)|(rw [add_block];exact Nat.ne_of_lt (Nat.lt_of_lt_of_le (by have:=World.block_lt_of_cell? _ _ hw105_1;first|rwa [add_block] at this|exact this) GW112.out))|(show (Addr.add _ _).block ≠ _;rw [add_block];exact Nat.ne_of_lt (Nat.lt_of_lt_of_le (by have:=World.block_lt_of_cell? _ _ hw105_1;first|rwa [add_block] at this|exact this) GW112.out))|(dsimp only;exact Nat.ne_of_lt (Nat.lt_of_lt_of_le (by have:=World.block_lt_of_cell? _ _ hw105_1;first|rwa [add_block] at this|exact this) GW112.out))) _).trans (((cell_far (p:=⟨gb112,_,none⟩) (by first|exact Nat.ne_of_lt (Nat.lt_of_lt_of_le (by have:=World.block_lt_of_cell? _ _ hw105_1;first|rwa [add_block] at this|exact this) GW112.out)|(rw [add_block];exact Nat.ne_of_lt (Nat.lt_of_lt_of_le (by have:=World.block_lt_of_cell? _ _ hw105_1;first|rwa [add_block] at this|exact this) GW112.out))|(show (Addr.add _ _).block ≠ _;rw [add_block];exact Nat.ne_of_lt (Nat.lt_of_lt_of_le (by have:=World.block_lt_of_cell? _ _ hw105_1;first|rwa [add_block] at this|exact this) GW112.out))|(dsimp only;exact Nat.ne_of_lt (Nat.lt_of_lt_of_le (by have:=World.block_lt_of_cell? _ _ hw105_1;first|rwa [add_block] at this|exact this) GW112.out))) _).trans (hHeld.2.1)))))),((cell_far (p:=⟨gb112,_,none⟩) (by first|exact Nat.ne_of_lt (Nat.lt_of_lt_of_le (by have:=World.block_lt_of_cell? _ _ hw105_2;first|rwa [add_block] at this|exact this) GW112.out)|(rw [add_block];exact Nat.ne_of_lt (Nat.lt_of_lt_of_le (by have:=World.block_lt_of_cell? _ _ hw105_2;first|rwa [add_block] at this|exact this) GW112.out))|(show (Addr.add _ _).block ≠ _;rw [add_block];exact Nat.ne_of_lt (Nat.lt_of_lt_of_le (by have:=World.block_lt_of_cell? _ _ hw105_2;first|rwa [add_block] at this|exact this) GW112.out))|(dsimp only;exact Nat.ne_of_lt (Nat.lt_of_lt_of_le (by have:=World.block_lt_of_cell? _ _ hw105_2;first|rwa [add_block] at this|exact this) GW112.out))) _).trans (((cell_far (p:=⟨gb112,_,none⟩) (by first|exact Nat.ne_of_lt (Nat.lt_of_lt_of_le (by have:=World.block_lt_of_cell? _ _ hw105_2;first|rwa [add_block] at this|exact this) GW112.out)|(rw [add_block];exact Nat.ne_of_lt (Nat.lt_of_lt_of_le (by have:=World.block_lt_of_cell? _ _ hw105_2;first|rwa [add_block] at this|exact this) GW112.out))|(show (Addr.add _ _).block ≠ _;rw [add_block];exact Nat.ne_of_lt (Nat.lt_of_lt_of_le (by have:=World.block_lt_of_cell? _ _ hw105_2;first|rwa [add_block] at this|exact this) GW112.out))|(dsimp only;exact Nat.ne_of_lt (Nat.lt_of_lt_of_le (by have:=World.block_lt_of_cell? _ _ hw105_2;first|rwa [add_block] at this|exact this) GW112.out))) _).trans (((cell_far (p:=⟨gb112,_,none⟩) (by first|exact Nat.ne_of_lt (Nat.lt_of_lt_of_le (by have:=World.block_lt_of_cell? _ _ hw105_2;first|rwa [add_block] at this|exact this) GW112.out)|(rw [add_block];exact Nat.ne_of_lt (Nat.lt_of_lt_of_le (by have:=World.block_lt_of_cell? _ _ hw105_2;first|rwa [add_block] at this|exact this) GW112.out))|(show (Addr.add _ _).block ≠ _;rw [add_block];exact Nat.ne_of_lt (Nat.lt_of_lt_of_le (by have:=World.block_lt_of_cell? _ _ hw105_2;first|rwa [add_block] at this|exact this) GW112.out))|(dsimp only;exact Nat.ne_of_lt (Nat.lt_of_lt_of_le (by have:=World.block_lt_of_cell? _ _ hw105_2;first|rwa [add_block] at this|exact this) GW112.out))) _).trans (hHeld.2.2))))))⟩ (fun hHeld=>?_)
        clear hK K
        refine pure_ (i:=14) (N:=some 5) (v:=?_) (a':=?_) #[true,true,true,true,true,true,true,true,true,true,true,true,true,true,true] rfl rfl (any_of HT_.out (by kernel_rfl)) (fun _ _ _ h=>h) (Or.inl ⟨by rfl,?_⟩) ?_ ?_
        rotate_left
        ·intro w'
         go_simp
         with_reducible rfl
        rotate_left
        ·simp only [Act.put,List.setIfInBounds_toArray,List.set_cons_zero,List.set_cons_succ,i64_w,i32_w]
         rfl
        refine done_ (done_of HT_.out (by kernel_rfl)) ?_
        have p113:0≤(x3_1:Int):=of_decide_eq_true (by first|(with_reducible assumption)|assumption)
        have q113:x3_1 < (l0.length:Int):=of_decide_eq_true (by first|(with_reducible assumption)|assumption)
        obtain ⟨ad113,A113_2,c113_2,e113,hx113_0,hx113_1,hx113_2,hl113_2,hi113_2⟩:=at_T24 HR0.out x3_1 p113 q113
        obtain rfl:ad105=ad113:=(by injection e113);have ea_:=Option.some.inj (hw105_2.symm.trans hx113_2);injection ea_ with ea_ en_ ec_;subst ea_;subst ec_
        have hn113_0:ad105.block ≠ gb112:=Nat.ne_of_lt (Nat.lt_of_lt_of_le (by have:=World.block_lt_of_cell? _ _ hx113_0;first|rwa [add_block] at this|exact this) GW112.out)
        have hn113_1:ad105.block ≠ gb112:=Nat.ne_of_lt (Nat.lt_of_lt_of_le (by have:=World.block_lt_of_cell? _ _ hx113_0;first|rwa [add_block] at this|exact this) GW112.out)
        have hn113_2:ad105.block ≠ gb112:=Nat.ne_of_lt (Nat.lt_of_lt_of_le (by have:=World.block_lt_of_cell? _ _ hx113_0;first|rwa [add_block] at this|exact this) GW112.out)
        replace hx113_0:=(HB.out.cell (World.block_lt_of_cell? w _ hx113_0)).trans hx113_0
        replace hx113_1:=(HB.out.cell (World.block_lt_of_cell? w _ hx113_1)).trans hx113_1
        replace hx113_2:=(HB.out.cell (World.block_lt_of_cell? w _ hx113_2)).trans hx113_2
        have HR113_2:=Aside0.mk hi113_2
        have HC113_2:=Aside0.mk hl113_2
        clear hi113_2 hl113_2
        replace hx113_0:=(cell_far (p:=⟨gb112,0,none⟩) (by first|(rw [add_block];exact hn113_0)|(show (Addr.add _ _).block ≠ _;rw [add_block];exact hn113_0)|exact hn113_0) (.string t106)).trans hx113_0
        replace hx113_1:=(cell_far (p:=⟨gb112,0,none⟩) (by first|(rw [add_block];exact hn113_0)|(show (Addr.add _ _).block ≠ _;rw [add_block];exact hn113_0)|exact hn113_0) (.string t106)).trans hx113_1
        replace hx113_2:=(cell_far (p:=⟨gb112,0,none⟩) (by first|(rw [add_block];exact hn113_0)|(show (Addr.add _ _).block ≠ _;rw [add_block];exact hn113_0)|exact hn113_0) (.string t106)).trans hx113_2
        replace hx113_0:=(cell_far (p:=⟨gb112,1,none⟩) (by first|(rw [add_block];exact hn113_1)|(show (Addr.add _ _).block ≠ _;rw [add_block];exact hn113_1)|exact hn113_1) (.int .i64 t107)).trans hx113_0
        replace hx113_1:=(cell_far (p:=⟨gb112,1,none⟩) (by first|(rw [add_block];exact hn113_1)|(show (Addr.add _ _).block ≠ _;rw [add_block];exact hn113_1)|exact hn113_1) (.int .i64 t107)).trans hx113_1
        replace hx113_2:=(cell_far (p:=⟨gb112,1,none⟩) (by first|(rw [add_block];exact hn113_1)|(show (Addr.add _ _).block ≠ _;rw [add_block];exact hn113_1)|exact hn113_1) (.int .i64 t107)).trans hx113_2
        replace hx113_0:=(cell_far (p:=⟨gb112,2,none⟩) (by first|(rw [add_block];exact hn113_2)|(show (Addr.add _ _).block ≠ _;rw [add_block];exact hn113_2)|exact hn113_2) (.slice Ao25 t108.length co25)).trans hx113_0
        replace hx113_1:=(cell_far (p:=⟨gb112,2,none⟩) (by first|(rw [add_block];exact hn113_2)|(show (Addr.add _ _).block ≠ _;rw [add_block];exact hn113_2)|exact hn113_2) (.slice Ao25 t108.length co25)).trans hx113_1
        replace hx113_2:=(cell_far (p:=⟨gb112,2,none⟩) (by first|(rw [add_block];exact hn113_2)|(show (Addr.add _ _).block ≠ _;rw [add_block];exact hn113_2)|exact hn113_2) (.slice Ao25 t108.length co25)).trans hx113_2
        clear hn113_0
        clear hn113_1
        clear hn113_2
        replace p113:=eq_true p113
        replace q113:=eq_true q113
        try go_wp2_with (first|(go_at_call 16;(with_reducible refine (schedule_Check.calls ((rd_T24 l0 x3_1).f0) ((rd_T24 l0 x3_1).f1) _ _ ((rd_T24 l0 x3_1).f2) t114 _ ?side1 ?side2 A16.out (glob_at HG_ (by repeat (first|(with_reducible first|exact HB.out|apply below_alloc|apply pw_below_drewN|apply below_drew1|refine below_set ?_ (Aside0.out (by assumption)))|exact HB.out)))).mono ?_);(case side1=>exact Kd.C_below HR113_2.out (by repeat (first|(with_reducible first|exact HB.out|apply below_alloc|apply pw_below_drewN|apply below_drew1|refine below_set ?_ GE112.out)|exact HB.out)));(case side2=>exact HC113_2.out);rintro e w27 ⟨rfl,hb⟩;have n0_:=Aside0.mk (Kd.R_below (by (with_reducible repeat (first|apply Kd.R_alloc|apply Kd.R_drewN|apply Kd.R_drew));exact (Kd.R_mono (Kd.R_far (p:=⟨gb112,2,none⟩) (Kd.R_far (p:=⟨gb112,1,none⟩) (Kd.R_far (p:=⟨gb112,0,none⟩) (Kd.R_types HO110.out BK112.out (by decide)) (fun _ hk=>hk.2) (.string t106)) (fun _ hk=>hk.2) (.int .i64 t107)) (fun _ hk=>hk.2) (.slice Ao25 t108.length co25)) (fun _ h_=>h_.1))) hb);have n1_:=Aside0.mk (blk_below (g:=gb112) (o:=.cells #[.string t106,.int .i64 t107,.slice Ao25 t108.length co25] 24 (0,0)) (by (with_reducible repeat (first|refine blk_drewN ?_ _|refine blk_drew ?_|refine blk_alloc ?_ _));refine blk_put (cs:=#[.string t106,.int .i64 t107,.slice none 0 0]) ?_ 2 _ rfl;(with_reducible repeat (first|refine blk_drewN ?_ _|refine blk_drew ?_|refine blk_alloc ?_ _));refine blk_put (cs:=#[.string t106,.int .i64 0,.slice none 0 0]) ?_ 1 _ rfl;(with_reducible repeat (first|refine blk_drewN ?_ _|refine blk_drew ?_|refine blk_alloc ?_ _));refine blk_put (cs:=#[.string (⟨#[]⟩:ByteArray),.int .i64 0,.slice none 0 0]) ?_ 0 _ rfl;(with_reducible repeat (first|refine blk_drewN ?_ _|refine blk_drew ?_|refine blk_alloc ?_ _));exact BK112.out) hb);have n2_:=Aside0.mk (below_step (by repeat (first|(with_reducible first|exact HB.out|apply below_alloc|apply pw_below_drewN|apply below_drew1|refine below_set ?_ GE112.out)|exact HB.out)) hb);clear HO110;clear BK112;clear HB;have HO110:=n0_;have BK112:=n1_;have HB:=n2_;clear n0_ n1_ n2_;(try clear hb);(try clear hb2);(try clear hk);(try clear hi)))
        go_roundg k1
        case measure=>have:=HK1.out;omega
        case rel=>exact ⟨(wrap64 (x3_1+1)),(by first|rfl|(simp;done)|(simp [*];done)),H',⟨by have:=HK1.out;omega⟩,⟨by repeat (first|(with_reducible first|exact HB.out|apply below_alloc|apply pw_below_drewN|apply below_drew1|refine below_set ?_ GE112.out)|exact HB.out)⟩⟩
       ·rw [if_neg c17] at H
        have c17b0:(t114 == 0)=false:=beq_eq_false_iff_ne.mpr c17
        have c17b1:(t114 != 0)=true:=bne_iff_ne.mpr c17
        obtain rfl:=Option.some.inj H
        try go_wp2
        have n0_:=Aside0.mk (below_drew1 HB.out)
        clear HB
        have HB:=n0_
        clear n0_
        have q29:(x3_1:Int)≤((l0.length:Int):Int):=of_decide_eq_true (by first|(with_reducible assumption)|assumption)
        obtain ⟨i029,hi029,_,hsz29,_⟩:=info_parts info24
        have hroom29:l0.length≤c0:=HC0.out
        have hC29:Kd.C k24 _ A0 l0.length l0:=HR0.out
        have hcut29:=cut_to (P:=Tryd.prog) 25 24 .i64 Tryd.underlying25 hi029 A0 l0.length c0 x3_1 (of_decide_eq_true (by first|(with_reducible assumption)|assumption)) q29 hroom29
        have hr29:=Kd.C_take (m:=(x3_1:Int).toNat) hC29 (by omega)
        have hy29:y101.length=(x3_1:Int).toNat:=(by rw [Ny101.out,List.length_take];omega)
        rw [← Ny101.out] at hr29
        rw [← hy29] at hcut29
        have HR104:=Aside0.mk hr29
        have HC104:=Aside0.mk (show y101.length≤c0 from by omega)
        clear hr29 hC29 hroom29 hi029 hsz29
        have KY29:=Aside0.mk hy29
        clear hy29
        replace q29:=eq_true q29
        have p105:0≤(x3_1:Int):=of_decide_eq_true (by first|(with_reducible assumption)|assumption)
        have q105:x3_1 < (l0.length:Int):=of_decide_eq_true (by first|(with_reducible assumption)|assumption)
        obtain ⟨ad105,A105_2,c105_2,e105,hx105_0,hx105_1,hx105_2,hl105_2,hi105_2⟩:=at_T24 HR0.out x3_1 p105 q105
        have hw105_2:=hx105_2
        have hw105_1:=hx105_1
        have hw105_0:=hx105_0
        cases e105
        replace hx105_0:=(HB.out.cell (World.block_lt_of_cell? w _ hx105_0)).trans hx105_0
        replace hx105_1:=(HB.out.cell (World.block_lt_of_cell? w _ hx105_1)).trans hx105_1
        replace hx105_2:=(HB.out.cell (World.block_lt_of_cell? w _ hx105_2)).trans hx105_2
        have HR105_2:=Aside0.mk hi105_2
        have HC105_2:=Aside0.mk hl105_2
        clear hi105_2 hl105_2
        replace p105:=eq_true p105
        replace q105:=eq_true q105
        refine start_ (n:=15) (S:=fun w'=>w'.cell? (ad105.add ((x3_1).toNat * 3))=some (.string ((rd_T24 l0 x3_1).f0))∧w'.cell? ⟨(ad105.add ((x3_1).toNat * 3)).block,(ad105.add ((x3_1).toNat * 3)).off+1,none⟩=some (.int .i64 ((rd_T24 l0 x3_1).f1))∧w'.cell? ⟨(ad105.add ((x3_1).toNat * 3)).block,(ad105.add ((x3_1).toNat * 3)).off+2,none⟩=some (.slice A105_2 ((rd_T24 l0 x3_1).f2).length c105_2)) (ds:=[]) #[false,false,false,false,false,false,false,false,false,false,false,false,false,false,false] (by kernel_rfl) rfl rfl ⟨((HB.out.cell (World.block_lt_of_cell? w _ hw105_0)).trans hw105_0),((HB.out.cell (World.block_lt_of_cell? w _ hw105_1)).trans hw105_1),((HB.out.cell (World.block_lt_of_cell? w _ hw105_2)).trans hw105_2)⟩ (fun hHeld=>?_);refine with_tabW sawmilllaw37_valid.tab4 sawmilllaw37_valid.bits4 (fun HT_ HW_=>?_)
        generalize wr.drew=w28 at HB HR104 HR105_2 hx105_0 hx105_1 hx105_2 hHeld ⊢
        refine pure_ (i:=0) (N:=some 13) (v:=?_) (a':=?_) #[true,false,false,false,false,false,false,false,false,false,false,false,false,false,false] rfl rfl (any_of HT_.out (by kernel_rfl)) (fun _ _ _ h=>h) (Or.inl ⟨by rfl,?_⟩) ?_ ?_
        rotate_left
        ·intro w'
         go_simp
         with_reducible rfl
        rotate_left
        ·simp only [Act.put,List.setIfInBounds_toArray,List.set_cons_zero,List.set_cons_succ,i64_w,i32_w]
         rfl
        refine pure_ (i:=1) (N:=some 14) (v:=?_) (a':=?_) #[true,true,false,false,false,false,false,false,false,false,false,false,false,false,false] rfl rfl (any_of HT_.out (by kernel_rfl)) (fun _ _ _ h=>h) (Or.inl ⟨by rfl,?_⟩) ?_ ?_
        rotate_left
        ·intro w'
         go_simp
         with_reducible rfl
        rotate_left
        ·simp only [Act.put,List.setIfInBounds_toArray,List.set_cons_zero,List.set_cons_succ,i64_w,i32_w]
         rfl
        refine pure_ (i:=2) (N:=some 15) (v:=?_) (a':=?_) #[true,true,true,false,false,false,false,false,false,false,false,false,false,false,false] rfl rfl (any_of HT_.out (by kernel_rfl)) (fun _ _ _ h=>h) (Or.inl ⟨by rfl,?_⟩) ?_ ?_
        rotate_left
        ·intro w'
         go_simp
         with_reducible rfl
        rotate_left
        ·simp only [Act.put,List.setIfInBounds_toArray,List.set_cons_zero,List.set_cons_succ,i64_w,i32_w]
         rfl
        refine pure_ (i:=3) (N:=some 16) (v:=?_) (a':=?_) #[true,true,true,true,false,false,false,false,false,false,false,false,false,false,false] rfl rfl (any_of HT_.out (by kernel_rfl)) (fun _ _ _ h=>h) (Or.inl ⟨by rfl,?_⟩) ?_ ?_
        rotate_left
        ·intro w'
         go_simp
         with_reducible rfl
        rotate_left
        ·simp only [Act.put,List.setIfInBounds_toArray,List.set_cons_zero,List.set_cons_succ,i64_w,i32_w]
         rfl
        refine pure_ (i:=4) (N:=some 17) (v:=?_) (a':=?_) #[true,true,true,true,true,false,false,false,false,false,false,false,false,false,false] rfl rfl (any_of HT_.out (by kernel_rfl)) (fun _ _ _ h=>h) (Or.inl ⟨by rfl,?_⟩) ?_ ?_
        rotate_left
        ·intro w'
         go_simp
         with_reducible rfl
        rotate_left
        ·simp only [Act.put,List.setIfInBounds_toArray,List.set_cons_zero,List.set_cons_succ,i64_w,i32_w]
         rfl
        refine pure_ (i:=5) (N:=some 18) (v:=?_) (a':=?_) #[true,true,true,true,true,true,false,false,false,false,false,false,false,false,false] rfl rfl (any_of HT_.out (by kernel_rfl)) (fun _ _ _ h=>h) (Or.inl ⟨by rfl,?_⟩) ?_ ?_
        rotate_left
        ·intro w'
         go_simp
         with_reducible rfl
        rotate_left
        ·simp only [Act.put,List.setIfInBounds_toArray,List.set_cons_zero,List.set_cons_succ,i64_w,i32_w]
         rfl
        refine pure_ (i:=6) (N:=some 19) (v:=?_) (a':=?_) #[true,true,true,true,true,true,true,false,false,false,false,false,false,false,false] rfl rfl (any_of HT_.out (by kernel_rfl)) (fun _ _ _ h=>h) (Or.inl ⟨by rfl,?_⟩) ?_ ?_
        rotate_left
        ·intro w'
         go_simp
         with_reducible rfl
        rotate_left
        ·simp only [Act.put,List.setIfInBounds_toArray,List.set_cons_zero,List.set_cons_succ,i64_w,i32_w]
         rfl
        refine take_ (i:=7) (N:=some 20) (v:=?_) (a':=?_) #[true,true,true,true,true,true,true,true,false,false,false,false,false,false,false] rfl rfl (take_ofW HT_.out HW_.out (by kernel_rfl)) (fun _ _ _ h=>h) (Or.inl ⟨by rfl,?_⟩) hHeld ?_ ?_
        rotate_left
        ·rintro w' ⟨s0,s1,s2⟩
         go_simp
         with_reducible rfl
        rotate_left
        ·simp only [Act.put,List.setIfInBounds_toArray,List.set_cons_zero,List.set_cons_succ,i64_w,i32_w]
         rfl
        refine join_ (σ:=Value × Nat) 2 #[true,true,true,true,true,true,true,true,true,true,true,true,true,false,false] (fun s_=>[(21,.tuple #[.agg #[.string t106,.int .i64 t107,s_.1],.bool false]),(4,.pointer (some ⟨s_.2,0,none⟩)),(12,.tuple #[.agg #[.string t106,.int .i64 t107,s_.1],.bool false]),(22,.agg #[.string t106,.int .i64 t107,s_.1]),(23,.bool false)]) (fun s_ w'=>(w'.cell? (ad105.add ((x3_1).toNat * 3))=some (.string ((rd_T24 l0 x3_1).f0))∧w'.cell? ⟨(ad105.add ((x3_1).toNat * 3)).block,(ad105.add ((x3_1).toNat * 3)).off+1,none⟩=some (.int .i64 ((rd_T24 l0 x3_1).f1))∧w'.cell? ⟨(ad105.add ((x3_1).toNat * 3)).block,(ad105.add ((x3_1).toNat * 3)).off+2,none⟩=some (.slice A105_2 ((rd_T24 l0 x3_1).f2).length c105_2))∧(Kd.R k52 52 w' w.heap.size (fun _=>True) s_.1 t108)∧(w'.heap[s_.2]?=some (.cells #[.string (⟨#[]⟩:ByteArray),.int .i64 0,.slice none 0 0] 24 (0,0)))∧(w.heap.size≤s_.2)∧(w.heap.size≤s_.2)∧(Below w.heap.size w w')) ?_ ?_
        rotate_left
        ·intro hCont
         refine two_ (i:=8) (j:=12) (Ni:=some 21) (Nj:=some 4) #[true,true,true,true,true,true,true,true,true,false,false,false,false,false,false] #[true,true,true,true,true,true,true,true,false,false,false,false,true,false,false] rfl rfl rfl rfl (two_of HT_.out (by kernel_rfl)) (by decide) (by decide) (fun K hK=>?_) (fun K hK=>?_)
         ·skip
          refine goes_ Tryd.func14 (by kernel_rfl) rfl #[.slice (some ad105) y101.length c0,.string ((rd_T24 l0 x3_1).f0)] (by rfl) rfl rfl (by (try simp only [List.map_toArray,List.map_cons,List.map_nil]);first|done|rfl|(simp only [List.length_drop,List.length_take];rfl)) ?_
          with_reducible refine (schedule_Find.calls _ _ y101 ((rd_T24 l0 x3_1).f0) t106 t107 t108 false _ ?side1 ?side2 A5.out).mono ?_
          (case side1=>repeat (first|exact (Kd.C_below HR104.out HB.out)|(with_reducible refine Kd.C_alloc ?_ _)|(with_reducible refine Kd.C_drewN ?_ _)|(with_reducible refine Kd.C_drew ?_)))
          (case side2=>exact HC104.out)
          rintro e w30 ⟨v109,rfl,ho0,hb⟩
          refine ⟨_,rfl,?_⟩
          have n0_:=Aside0.mk (Kd.R_lower ho0 (below_size (by repeat (first|(with_reducible first|exact HB.out|apply below_alloc|apply pw_below_drewN|apply below_drew1)|exact HB.out))))
          have n1_:=Aside0.mk (below_step (by repeat (first|(with_reducible first|exact HB.out|apply below_alloc|apply pw_below_drewN|apply below_drew1)|exact HB.out)) hb)
          clear HB
          have HO110:=n0_
          have HB:=n1_
          clear n0_ n1_
          (try clear hb)
          (try clear hb2)
          (try clear hk)
          (try clear hi)
          (try clear ho0)
          refine hK.out _ _ ⟨((HB.out.cell (World.block_lt_of_cell? w _ hw105_0)).trans hw105_0),((HB.out.cell (World.block_lt_of_cell? w _ hw105_1)).trans hw105_1),((HB.out.cell (World.block_lt_of_cell? w _ hw105_2)).trans hw105_2)⟩ (fun hHeld=>?_)
          clear hK K
          refine norm_ (a':=?_) ?_ ?_
          rotate_left
          ·show Act.put _ (some 21) _=_
           simp only [Act.put,List.setIfInBounds_toArray,List.set_cons_zero,List.set_cons_succ,i64_w,i32_w]
           rfl
          refine pure_ (i:=9) (N:=some 12) (v:=?_) (a':=?_) #[true,true,true,true,true,true,true,true,true,true,false,false,false,false,false] rfl rfl (any_of HT_.out (by kernel_rfl)) (fun _ _ _ h=>h) (Or.inl ⟨by rfl,?_⟩) ?_ ?_
          rotate_left
          ·intro w'
           go_simp
           with_reducible rfl
          rotate_left
          ·simp only [Act.put,List.setIfInBounds_toArray,List.set_cons_zero,List.set_cons_succ,i64_w,i32_w]
           rfl
          refine pure_ (i:=10) (N:=some 22) (v:=?_) (a':=?_) #[true,true,true,true,true,true,true,true,true,true,true,false,false,false,false] rfl rfl (any_of HT_.out (by kernel_rfl)) (fun _ _ _ h=>h) (Or.inl ⟨by rfl,?_⟩) ?_ ?_
          rotate_left
          ·intro w'
           go_simp
           with_reducible rfl
          rotate_left
          ·simp only [Act.put,List.setIfInBounds_toArray,List.set_cons_zero,List.set_cons_succ,i64_w,i32_w]
           rfl
          refine pure_ (i:=11) (N:=some 23) (v:=?_) (a':=?_) #[true,true,true,true,true,true,true,true,true,true,true,true,false,false,false] rfl rfl (any_of HT_.out (by kernel_rfl)) (fun _ _ _ h=>h) (Or.inl ⟨by rfl,?_⟩) ?_ ?_
          rotate_left
          ·intro w'
           go_simp
           with_reducible rfl
          rotate_left
          ·simp only [Act.put,List.setIfInBounds_toArray,List.set_cons_zero,List.set_cons_succ,i64_w,i32_w]
           rfl
          refine one_ (i:=12) (N:=some 4) #[true,true,true,true,true,true,true,true,true,true,true,true,true,false,false] rfl rfl (one_of HT_.out (by kernel_rfl)) (by decide) (fun K hK=>?_)
          refine box_step ?hg (N:=4) ?hd (cs:=#[.string (⟨#[]⟩:ByteArray),.int .i64 0,.slice none 0 0]) (t:=24) ?hr ?_;(case hd=>rfl);(case hg=>rfl);(case hr=>first|(go_simp;done)|(go_simp;rfl))
          intro gb112 hg w31 hbox hb
          have n0_:=Aside0.mk (Kd.R_below (by (with_reducible repeat (first|apply Kd.R_alloc|apply Kd.R_drewN|apply Kd.R_drew));exact HO110.out) hb)
          have n1_:=Aside0.mk (below_step (by repeat (first|(with_reducible first|exact HB.out|apply below_alloc|apply pw_below_drewN|apply below_drew1)|exact HB.out)) hb)
          have n2_:=Aside0.mk (hbox)
          have n3_:=Aside0.mk ((by rw [hg];exact (below_size (by repeat (first|(with_reducible first|exact HB.out|apply below_alloc|apply pw_below_drewN|apply below_drew1)|exact HB.out))):w.heap.size≤gb112))
          have n4_:=Aside0.mk ((by rw [hg];exact (below_size (by repeat (first|(with_reducible first|exact HB.out|apply below_alloc|apply pw_below_drewN|apply below_drew1)|exact HB.out))):w.heap.size≤gb112))
          clear HO110
          clear HB
          have HO110:=n0_
          have HB:=n1_
          have BK112:=n2_
          have GW112:=n3_
          have GE112:=n4_
          clear n0_ n1_ n2_ n3_ n4_
          clear hb hbox hg
          refine hK.out _ _ ⟨((HB.out.cell (World.block_lt_of_cell? w _ hw105_0)).trans hw105_0),((HB.out.cell (World.block_lt_of_cell? w _ hw105_1)).trans hw105_1),((HB.out.cell (World.block_lt_of_cell? w _ hw105_2)).trans hw105_2)⟩ (fun hHeld=>?_)
          clear hK K
          refine norm_ (a':=?_) ?_ ?_
          rotate_left
          ·show Act.put _ (some 4) _=_
           simp only [Act.put,List.setIfInBounds_toArray,List.set_cons_zero,List.set_cons_succ,i64_w,i32_w]
           rfl
          exact norm_ (by simp only [putAll,Act.put,List.setIfInBounds_toArray,List.set_cons_zero,List.set_cons_succ]) (hCont (v109,gb112) _ ⟨hHeld,(by (with_reducible repeat (first|apply Kd.R_alloc|apply Kd.R_drewN|apply Kd.R_drew));exact HO110.out),(by (with_reducible repeat (first|refine blk_drewN ?_ _|refine blk_drew ?_|refine blk_alloc ?_ _));exact BK112.out),GW112.out,GE112.out,(by repeat (first|(with_reducible first|exact HB.out|apply below_alloc|apply pw_below_drewN|apply below_drew1|refine below_set ?_ GE112.out)|exact HB.out))⟩)
         ·skip
          refine box_step ?hg (N:=4) ?hd (cs:=#[.string (⟨#[]⟩:ByteArray),.int .i64 0,.slice none 0 0]) (t:=24) ?hr ?_;(case hd=>rfl);(case hg=>rfl);(case hr=>first|(go_simp;done)|(go_simp;rfl))
          intro gb112 hg w30 hbox hb
          have n0_:=Aside0.mk (below_step (by repeat (first|(with_reducible first|exact HB.out|apply below_alloc|apply pw_below_drewN|apply below_drew1)|exact HB.out)) hb)
          have n1_:=Aside0.mk (hbox)
          have n2_:=Aside0.mk ((by rw [hg];exact (below_size (by repeat (first|(with_reducible first|exact HB.out|apply below_alloc|apply pw_below_drewN|apply below_drew1)|exact HB.out))):w.heap.size≤gb112))
          have n3_:=Aside0.mk ((by rw [hg];exact (below_size (by repeat (first|(with_reducible first|exact HB.out|apply below_alloc|apply pw_below_drewN|apply below_drew1)|exact HB.out))):w.heap.size≤gb112))
          clear HB
          have HB:=n0_
          have BK112:=n1_
          have GW112:=n2_
          have GE112:=n3_
          clear n0_ n1_ n2_ n3_
          clear hb hbox hg
          refine hK.out _ _ ⟨((HB.out.cell (World.block_lt_of_cell? w _ hw105_0)).trans hw105_0),((HB.out.cell (World.block_lt_of_cell? w _ hw105_1)).trans hw105_1),((HB.out.cell (World.block_lt_of_cell? w _ hw105_2)).trans hw105_2)⟩ (fun hHeld=>?_)
          clear hK K
          refine norm_ (a':=?_) ?_ ?_
          rotate_left
          ·show Act.put _ (some 4) _=_
           simp only [Act.put,List.setIfInBounds_toArray,List.set_cons_zero,List.set_cons_succ,i64_w,i32_w]
           rfl
          refine one_ (i:=8) (N:=some 21) #[true,true,true,true,true,true,true,true,true,false,false,false,true,false,false] rfl rfl (one_of HT_.out (by kernel_rfl)) (by decide) (fun K hK=>?_)
          refine goes_ Tryd.func14 (by kernel_rfl) rfl #[.slice (some ad105) y101.length c0,.string ((rd_T24 l0 x3_1).f0)] (by rfl) rfl rfl (by (try simp only [List.map_toArray,List.map_cons,List.map_nil]);first|done|rfl|(simp only [List.length_drop,List.length_take];rfl)) ?_
          with_reducible refine (schedule_Find.calls _ _ y101 ((rd_T24 l0 x3_1).f0) t106 t107 t108 false _ ?side1 ?side2 A5.out).mono ?_
          (case side1=>repeat (first|exact (Kd.C_below HR104.out HB.out)|(with_reducible refine Kd.C_alloc ?_ _)|(with_reducible refine Kd.C_drewN ?_ _)|(with_reducible refine Kd.C_drew ?_)))
          (case side2=>exact HC104.out)
          rintro e w31 ⟨v109,rfl,ho0,hb⟩
          refine ⟨_,rfl,?_⟩
          have n0_:=Aside0.mk (Kd.R_lower ho0 (below_size (by repeat (first|(with_reducible first|exact HB.out|apply below_alloc|apply pw_below_drewN|apply below_drew1|refine below_set ?_ GE112.out)|exact HB.out))))
          have n1_:=Aside0.mk (blk_below (g:=gb112) (o:=.cells #[.string (⟨#[]⟩:ByteArray),.int .i64 0,.slice none 0 0] 24 (0,0)) (by (with_reducible repeat (first|refine blk_drewN ?_ _|refine blk_drew ?_|refine blk_alloc ?_ _));exact BK112.out) hb)
          have n2_:=Aside0.mk (below_step (by repeat (first|(with_reducible first|exact HB.out|apply below_alloc|apply pw_below_drewN|apply below_drew1|refine below_set ?_ GE112.out)|exact HB.out)) hb)
          clear BK112
          clear HB
          have HO110:=n0_
          have BK112:=n1_
          have HB:=n2_
          clear n0_ n1_ n2_
          (try clear hb)
          (try clear hb2)
          (try clear hk)
          (try clear hi)
          (try clear ho0)
          refine hK.out _ _ ⟨((HB.out.cell (World.block_lt_of_cell? w _ hw105_0)).trans hw105_0),((HB.out.cell (World.block_lt_of_cell? w _ hw105_1)).trans hw105_1),((HB.out.cell (World.block_lt_of_cell? w _ hw105_2)).trans hw105_2)⟩ (fun hHeld=>?_)
          clear hK K
          refine norm_ (a':=?_) ?_ ?_
          rotate_left
          ·show Act.put _ (some 21) _=_
           simp only [Act.put,List.setIfInBounds_toArray,List.set_cons_zero,List.set_cons_succ,i64_w,i32_w]
           rfl
          refine pure_ (i:=9) (N:=some 12) (v:=?_) (a':=?_) #[true,true,true,true,true,true,true,true,true,true,false,false,true,false,false] rfl rfl (any_of HT_.out (by kernel_rfl)) (fun _ _ _ h=>h) (Or.inl ⟨by rfl,?_⟩) ?_ ?_
          rotate_left
          ·intro w'
           go_simp
           with_reducible rfl
          rotate_left
          ·simp only [Act.put,List.setIfInBounds_toArray,List.set_cons_zero,List.set_cons_succ,i64_w,i32_w]
           rfl
          refine pure_ (i:=10) (N:=some 22) (v:=?_) (a':=?_) #[true,true,true,true,true,true,true,true,true,true,true,false,true,false,false] rfl rfl (any_of HT_.out (by kernel_rfl)) (fun _ _ _ h=>h) (Or.inl ⟨by rfl,?_⟩) ?_ ?_
          rotate_left
          ·intro w'
           go_simp
           with_reducible rfl
          rotate_left
          ·simp only [Act.put,List.setIfInBounds_toArray,List.set_cons_zero,List.set_cons_succ,i64_w,i32_w]
           rfl
          refine pure_ (i:=11) (N:=some 23) (v:=?_) (a':=?_) #[true,true,true,true,true,true,true,true,true,true,true,true,true,false,false] rfl rfl (any_of HT_.out (by kernel_rfl)) (fun _ _ _ h=>h) (Or.inl ⟨by rfl,?_⟩) ?_ ?_
          rotate_left
          ·intro w'
           go_simp
           with_reducible rfl
          rotate_left
          ·simp only [Act.put,List.setIfInBounds_toArray,List.set_cons_zero,List.set_cons_succ,i64_w,i32_w]
           rfl
          exact norm_ (by simp only [putAll,Act.put,List.setIfInBounds_toArray,List.set_cons_zero,List.set_cons_succ]) (hCont (v109,gb112) _ ⟨hHeld,(by (with_reducible repeat (first|apply Kd.R_alloc|apply Kd.R_drewN|apply Kd.R_drew));exact HO110.out),(by (with_reducible repeat (first|refine blk_drewN ?_ _|refine blk_drew ?_|refine blk_alloc ?_ _));exact BK112.out),GW112.out,GE112.out,(by repeat (first|(with_reducible first|exact HB.out|apply below_alloc|apply pw_below_drewN|apply below_drew1|refine below_set ?_ GE112.out)|exact HB.out))⟩)
        rintro ⟨v109,gb112⟩ w32 ⟨hS_,h0_,h1_,h2_,h3_,h4_⟩
        have n0_:Aside0 (Kd.R k52 52 w32 w.heap.size (fun _=>True) v109 t108):=⟨h0_⟩
        have n1_:Aside0 (w32.heap[gb112]?=some (.cells #[.string (⟨#[]⟩:ByteArray),.int .i64 0,.slice none 0 0] 24 (0,0))):=⟨h1_⟩
        have n2_:Aside0 (w.heap.size≤gb112):=⟨h2_⟩
        have n3_:Aside0 (w.heap.size≤gb112):=⟨h3_⟩
        have n4_:Aside0 (Below w.heap.size w w32):=⟨h4_⟩
        clear HB
        clear h0_ h1_ h2_ h3_ h4_
        have HO110:=n0_
        have BK112:=n1_
        have GW112:=n2_
        have GE112:=n3_
        have HB:=n4_
        clear n0_ n1_ n2_ n3_ n4_
        have hHeld:w32.cell? (ad105.add ((x3_1).toNat * 3))=some (.string ((rd_T24 l0 x3_1).f0))∧w32.cell? ⟨(ad105.add ((x3_1).toNat * 3)).block,(ad105.add ((x3_1).toNat * 3)).off+1,none⟩=some (.int .i64 ((rd_T24 l0 x3_1).f1))∧w32.cell? ⟨(ad105.add ((x3_1).toNat * 3)).block,(ad105.add ((x3_1).toNat * 3)).off+2,none⟩=some (.slice A105_2 ((rd_T24 l0 x3_1).f2).length c105_2):=hS_
        obtain ⟨Ao35,co35,eo35⟩:=Kd.R_slice HO110.out
        (first|subst eo35|(injection eo35 with f1_ f2_ f3_;have f4_:=f1_.symm;have f5_:=f3_.symm;clear f1_ f2_ f3_;subst f4_;subst f5_))
        refine norm_ (a':=?_) ?_ ?_
        rotate_left
        ·simp only [putAll,Act.put,List.setIfInBounds_toArray,List.set_cons_zero,List.set_cons_succ]
         rfl
        refine one_ (i:=13) (N:=none) #[true,true,true,true,true,true,true,true,true,true,true,true,true,true,false] rfl rfl (one_of HT_.out (by kernel_rfl)) (by decide) (fun K hK=>?_)
        have hs33:w32.cell? ⟨gb112,0,none⟩=some (.string (⟨#[]⟩:ByteArray)):=(blk_cell BK112.out 0).trans rfl
        have hfs33:=blk_frozen BK112.out 0
        have hs34:w32.cell? ⟨gb112,1,none⟩=some (.int .i64 0):=(blk_cell BK112.out 1).trans rfl
        have hfs34:=blk_frozen BK112.out 1
        have hs36:w32.cell? ⟨gb112,2,none⟩=some (.slice none 0 0):=(blk_cell BK112.out 2).trans rfl
        have hfs36:=blk_frozen BK112.out 2
        refine skip_ (w1:=?_) (by rfl) rfl ?_ ?_
        rotate_left
        ·go_simp
         rfl
        refine hK.out _ _ ⟨((cell_far (p:=⟨gb112,_,none⟩) (by first|exact Nat.ne_of_lt (Nat.lt_of_lt_of_le (by have:=World.block_lt_of_cell? _ _ hw105_0;first|rwa [add_block] at this|exact this) GW112.out)|(rw [add_block];exact Nat.ne_of_lt (Nat.lt_of_lt_of_le (by have:=World.block_lt_of_cell? _ _ hw105_0;first|rwa [add_block] at this|exact this) GW112.out))|(show (Addr.add _ _).block ≠ _;rw [add_block];exact Nat.ne_of_lt (Nat.lt_of_lt_of_le (by have:=World.block_lt_of_cell? _ _ hw105_0;first|rwa [add_block] at this|exact this) GW112.out))|(dsimp only;exact Nat.ne_of_lt (Nat.lt_of_lt_of_le (by have:=World.block_lt_of_cell? _ _ hw105_0;first|rwa [add_block] at this|exact this) GW112.out))) _).trans (((cell_far (p:=⟨gb112,_,none⟩) (by first|exact Nat.ne_of_lt (Nat.lt_of_lt_of_le (by have:=World.block_lt_of_cell? _ _ hw105_0;first|rwa [add_block] at this|exact this) GW112.out)|(rw [add_block];exact Nat.ne_of_lt (Nat.lt_of_lt_of_le (by have:=World.block_lt_of_cell? _ _ hw105_0;first|rwa [add_block] at this|exact this) GW112.out))|(show (Addr.add _ _).block ≠ _;rw [add_block];exact Nat.ne_of_lt (Nat.lt_of_lt_of_le (by have:=World.block_lt_of_cell? _ _ hw105_0;first|rwa [add_block] at this|exact this) GW112.out))|(dsimp only;exact Nat.ne_of_lt (Nat.lt_of_lt_of_le (by have:=World.block_lt_of_cell? _ _ hw105_0;first|rwa [add_block] at this|exact this) GW112.out))) _).trans (((cell_far (p:=⟨gb112,_,none⟩) (by first|exact Nat.ne_of_lt (Nat.lt_of_lt_of_le (by have:=World.block_lt_of_cell? _ _ hw105_0;first|rwa [add_block] at this|exact this) GW112.out)|(rw [add_block];exact Nat.ne_of_lt (Nat.lt_of_lt_of_le (by have:=World.block_lt_of_cell? _ _ hw105_0;first|rwa [add_block] at this|exact this) GW112.out))|(show (Addr.add _ _).block ≠ _;rw [add_block];exact Nat.ne_of_lt (Nat.lt_of_lt_of_le (by have:=World.block_lt_of_cell? _ _ hw105_0;first|rwa [add_block] at this|exact this) GW112.out))|(dsimp only;exact Nat.ne_of_lt (Nat.lt_of_lt_of_le (by have:=World.block_lt_of_cell? _ _ hw105_0;first|rwa [add_block] at this|exact this) GW112.out))) _).trans (hHeld.1)))))),((cell_far (p:=⟨gb112,_,none⟩) (by first|exact Nat.ne_of_lt (Nat.lt_of_lt_of_le (by have:=World.block_lt_of_cell? _ _ hw105_1;first|rwa [add_block] at this|exact this) GW112.out)|(rw [add_block];exact Nat.ne_of_lt (Nat.lt_of_lt_of_le (by have:=World.block_lt_of_cell? _ _ hw105_1;first|rwa [add_block] at this|exact this) GW112.out))|(show (Addr.add _ _).block ≠ _;rw [add_block];exact Nat.ne_of_lt (Nat.lt_of_lt_of_le (by have:=World.block_lt_of_cell? _ _ hw105_1;first|rwa [add_block] at this|exact this) GW112.out))|(dsimp only;exact Nat.ne_of_lt (Nat.lt_of_lt_of_le (by have:=World.block_lt_of_cell? _ _ hw105_1;first|rwa [add_block] at this|exact this) GW112.out))) _).trans (((cell_far (p:=⟨gb112,_,none⟩) (by first|exact Nat.ne_of_lt (Nat.lt_of_lt_of_le (by have:=World.block_lt_of_cell? _ _ hw105_1;first|rwa [add_block] at this|exact this) GW112.out)|(rw [add_block];exact Nat.ne_of_lt (Nat.lt_of_lt_of_le (by have:=World.block_lt_of_cell? _ _ hw105_1;first|rwa [add_block] at this|exact this) GW112.out))|(show (Addr.add _ _).block ≠ _;rw [add_block];exact Nat.ne_of_lt (Nat.lt_of_lt_of_le (by have:=World.block_lt_of_cell? _ _ hw105_1;first|rwa [add_block] at this|exact this) GW112.out))|(dsimp only;exact Nat.ne_of_lt (Nat.lt_of_lt_of_le (by have:=World.block_lt_of_cell? _ _ hw105_1;first|rwa [add_block] at this|exact this) GW112.out))) _).trans (((cell_far (p:=⟨gb112,_,none⟩) (by first|exact Nat.ne_of_lt (Nat.lt_of_lt_of_le (by have:=World.block_lt_of_cell? _ _ hw105_1;first|rwa [add_block] at this|exact this) GW112.out)|(rw [add_block];exact Nat.ne_of_lt (Nat.lt_of_lt_of_le (by have:=World.block_lt_of_cell? _ _ hw105_1;first|rwa [add_block] at this|exact this) GW112.out))|(show (Addr.add _ _).block ≠ _;rw [add_block];exact Nat.ne_of_lt (Nat.lt_of_lt_of_le (by have:=World.block_lt_of_cell? _ _ hw105_1;first|rwa [add_block] at this|exact this) GW112.out))|(dsimp only;exact Nat.ne_of_lt (Nat.lt_of_lt_of_le (by have:=World.block_lt_of_cell? _ _ hw105_1;first|rwa [add_block] at this|exact this) GW112.out))) _).trans (hHeld.2.1)))))),((cell_far (p:=⟨gb112,_,none⟩) (by first|exact Nat.ne_of_lt (Nat.lt_of_lt_of_le (by have:=World.block_lt_of_cell? _ _ hw105_2;first|rwa [add_block] at this|exact this) GW112.out)|(rw [add_block];exact Nat.ne_of_lt (Nat.lt_of_lt_of_le (by have:=World.block_lt_of_cell? _ _ hw105_2;first|rwa [add_block] at this|exact this) GW112.out))|(show (Addr.add _ _).block ≠ _;rw [add_block];exact Nat.ne_of_lt (Nat.lt_of_lt_of_le (by have:=World.block_lt_of_cell? _ _ hw105_2;first|rwa [add_block] at this|exact this) GW112.out))|(dsimp only;exact Nat.ne_of_lt (Nat.lt_of_lt_of_le (by have:=World.block_lt_of_cell? _ _ hw105_2;first|rwa [add_block] at this|exact this) GW112.out))) _).trans (((cell_far (p:=⟨gb112,_,none⟩) (by first|exact Nat.ne_of_lt (Nat.lt_of_lt_of_le (by have:=World.block_lt_of_cell? _ _ hw105_2;first|rwa [add_block] at this|exact this) GW112.out)|(rw [add_block];exact Nat.ne_of_lt (Nat.lt_of_lt_of_le (by have:=World.block_lt_of_cell? _ _ hw105_2;first|rwa [add_block] at this|exact this) GW112.out))|(show (Addr.add _ _).block ≠ _;rw [add_block];exact Nat.ne_of_lt (Nat.lt_of_lt_of_le (by have:=World.block_lt_of_cell? _ _ hw105_2;first|rwa [add_block] at this|exact this) GW112.out))|(dsimp only;exact Nat.ne_of_lt (Nat.lt_of_lt_of_le (by have:=World.block_lt_of_cell? _ _ hw105_2;first|rwa [add_block] at this|exact this) GW112.out))) _).trans (((cell_far (p:=⟨gb112,_,none⟩) (by first|exact Nat.ne_of_lt (Nat.lt_of_lt_of_le (by have:=World.block_lt_of_cell? _ _ hw105_2;first|rwa [add_block] at this|exact this) GW112.out)|(rw [add_block];exact Nat.ne_of_lt (Nat.lt_of_lt_of_le (by have:=World.block_lt_of_cell? _ _ hw105_2;first|rwa [add_block] at this|exact this) GW112.out))|(show (Addr.add _ _).block ≠ _;rw [add_block];exact Nat.ne_of_lt (Nat.lt_of_lt_of_le (by have:=World.block_lt_of_cell? _ _ hw105_2;first|rwa [add_block] at this|exact this) GW112.out))|(dsimp only;exact Nat.ne_of_lt (Nat.lt_of_lt_of_le (by have:=World.block_lt_of_cell? _ _ hw105_2;first|rwa [add_block] at this|exact this) GW112.out))) _).trans (hHeld.2.2))))))⟩ (fun hHeld=>?_)
        clear hK K
        refine pure_ (i:=14) (N:=some 5) (v:=?_) (a':=?_) #[true,true,true,true,true,true,true,true,true,true,true,true,true,true,true] rfl rfl (any_of HT_.out (by kernel_rfl)) (fun _ _ _ h=>h) (Or.inl ⟨by rfl,?_⟩) ?_ ?_
        rotate_left
        ·intro w'
         go_simp
         with_reducible rfl
        rotate_left
        ·simp only [Act.put,List.setIfInBounds_toArray,List.set_cons_zero,List.set_cons_succ,i64_w,i32_w]
         rfl
        refine done_ (done_of HT_.out (by kernel_rfl)) ?_
        have p113:0≤(x3_1:Int):=of_decide_eq_true (by first|(with_reducible assumption)|assumption)
        have q113:x3_1 < (l0.length:Int):=of_decide_eq_true (by first|(with_reducible assumption)|assumption)
        obtain ⟨ad113,A113_2,c113_2,e113,hx113_0,hx113_1,hx113_2,hl113_2,hi113_2⟩:=at_T24 HR0.out x3_1 p113 q113
        obtain rfl:ad105=ad113:=(by injection e113);have ea_:=Option.some.inj (hw105_2.symm.trans hx113_2);injection ea_ with ea_ en_ ec_;subst ea_;subst ec_
        have hn113_0:ad105.block ≠ gb112:=Nat.ne_of_lt (Nat.lt_of_lt_of_le (by have:=World.block_lt_of_cell? _ _ hx113_0;first|rwa [add_block] at this|exact this) GW112.out)
        have hn113_1:ad105.block ≠ gb112:=Nat.ne_of_lt (Nat.lt_of_lt_of_le (by have:=World.block_lt_of_cell? _ _ hx113_0;first|rwa [add_block] at this|exact this) GW112.out)
        have hn113_2:ad105.block ≠ gb112:=Nat.ne_of_lt (Nat.lt_of_lt_of_le (by have:=World.block_lt_of_cell? _ _ hx113_0;first|rwa [add_block] at this|exact this) GW112.out)
        replace hx113_0:=(HB.out.cell (World.block_lt_of_cell? w _ hx113_0)).trans hx113_0
        replace hx113_1:=(HB.out.cell (World.block_lt_of_cell? w _ hx113_1)).trans hx113_1
        replace hx113_2:=(HB.out.cell (World.block_lt_of_cell? w _ hx113_2)).trans hx113_2
        have HR113_2:=Aside0.mk hi113_2
        have HC113_2:=Aside0.mk hl113_2
        clear hi113_2 hl113_2
        replace hx113_0:=(cell_far (p:=⟨gb112,0,none⟩) (by first|(rw [add_block];exact hn113_0)|(show (Addr.add _ _).block ≠ _;rw [add_block];exact hn113_0)|exact hn113_0) (.string t106)).trans hx113_0
        replace hx113_1:=(cell_far (p:=⟨gb112,0,none⟩) (by first|(rw [add_block];exact hn113_0)|(show (Addr.add _ _).block ≠ _;rw [add_block];exact hn113_0)|exact hn113_0) (.string t106)).trans hx113_1
        replace hx113_2:=(cell_far (p:=⟨gb112,0,none⟩) (by first|(rw [add_block];exact hn113_0)|(show (Addr.add _ _).block ≠ _;rw [add_block];exact hn113_0)|exact hn113_0) (.string t106)).trans hx113_2
        replace hx113_0:=(cell_far (p:=⟨gb112,1,none⟩) (by first|(rw [add_block];exact hn113_1)|(show (Addr.add _ _).block ≠ _;rw [add_block];exact hn113_1)|exact hn113_1) (.int .i64 t107)).trans hx113_0
        replace hx113_1:=(cell_far (p:=⟨gb112,1,none⟩) (by first|(rw [add_block];exact hn113_1)|(show (Addr.add _ _).block ≠ _;rw [add_block];exact hn113_1)|exact hn113_1) (.int .i64 t107)).trans hx113_1
        replace hx113_2:=(cell_far (p:=⟨gb112,1,none⟩) (by first|(rw [add_block];exact hn113_1)|(show (Addr.add _ _).block ≠ _;rw [add_block];exact hn113_1)|exact hn113_1) (.int .i64 t107)).trans hx113_2
        replace hx113_0:=(cell_far (p:=⟨gb112,2,none⟩) (by first|(rw [add_block];exact hn113_2)|(show (Addr.add _ _).block ≠ _;rw [add_block];exact hn113_2)|exact hn113_2) (.slice Ao35 t108.length co35)).trans hx113_0
        replace hx113_1:=(cell_far (p:=⟨gb112,2,none⟩) (by first|(rw [add_block];exact hn113_2)|(show (Addr.add _ _).block ≠ _;rw [add_block];exact hn113_2)|exact hn113_2) (.slice Ao35 t108.length co35)).trans hx113_1
        replace hx113_2:=(cell_far (p:=⟨gb112,2,none⟩) (by first|(rw [add_block];exact hn113_2)|(show (Addr.add _ _).block ≠ _;rw [add_block];exact hn113_2)|exact hn113_2) (.slice Ao35 t108.length co35)).trans hx113_2
        clear hn113_0
        clear hn113_1
        clear hn113_2
        replace p113:=eq_true p113
        replace q113:=eq_true q113
        try go_wp2_with (first|(go_at_call 16;(with_reducible refine (schedule_Check.calls ((rd_T24 l0 x3_1).f0) ((rd_T24 l0 x3_1).f1) _ _ ((rd_T24 l0 x3_1).f2) t114 _ ?side1 ?side2 A16.out (glob_at HG_ (by repeat (first|(with_reducible first|exact HB.out|apply below_alloc|apply pw_below_drewN|apply below_drew1|refine below_set ?_ (Aside0.out (by assumption)))|exact HB.out)))).mono ?_);(case side1=>exact Kd.C_below HR113_2.out (by repeat (first|(with_reducible first|exact HB.out|apply below_alloc|apply pw_below_drewN|apply below_drew1|refine below_set ?_ GE112.out)|exact HB.out)));(case side2=>exact HC113_2.out);rintro e w37 ⟨rfl,hb⟩;have n0_:=Aside0.mk (Kd.R_below (by (with_reducible repeat (first|apply Kd.R_alloc|apply Kd.R_drewN|apply Kd.R_drew));exact (Kd.R_mono (Kd.R_far (p:=⟨gb112,2,none⟩) (Kd.R_far (p:=⟨gb112,1,none⟩) (Kd.R_far (p:=⟨gb112,0,none⟩) (Kd.R_types HO110.out BK112.out (by decide)) (fun _ hk=>hk.2) (.string t106)) (fun _ hk=>hk.2) (.int .i64 t107)) (fun _ hk=>hk.2) (.slice Ao35 t108.length co35)) (fun _ h_=>h_.1))) hb);have n1_:=Aside0.mk (blk_below (g:=gb112) (o:=.cells #[.string t106,.int .i64 t107,.slice Ao35 t108.length co35] 24 (0,0)) (by (with_reducible repeat (first|refine blk_drewN ?_ _|refine blk_drew ?_|refine blk_alloc ?_ _));refine blk_put (cs:=#[.string t106,.int .i64 t107,.slice none 0 0]) ?_ 2 _ rfl;(with_reducible repeat (first|refine blk_drewN ?_ _|refine blk_drew ?_|refine blk_alloc ?_ _));refine blk_put (cs:=#[.string t106,.int .i64 0,.slice none 0 0]) ?_ 1 _ rfl;(with_reducible repeat (first|refine blk_drewN ?_ _|refine blk_drew ?_|refine blk_alloc ?_ _));refine blk_put (cs:=#[.string (⟨#[]⟩:ByteArray),.int .i64 0,.slice none 0 0]) ?_ 0 _ rfl;(with_reducible repeat (first|refine blk_drewN ?_ _|refine blk_drew ?_|refine blk_alloc ?_ _));exact BK112.out) hb);have n2_:=Aside0.mk (below_step (by repeat (first|(with_reducible first|exact HB.out|apply below_alloc|apply pw_below_drewN|apply below_drew1|refine below_set ?_ GE112.out)|exact HB.out)) hb);clear HO110;clear BK112;clear HB;have HO110:=n0_;have BK112:=n1_;have HB:=n2_;clear n0_ n1_ n2_;(try clear hb);(try clear hb2);(try clear hk);(try clear hi)))
        go_ret
        exact ⟨by first|rfl|(simp [errW_none,errW_some]<;>rfl)|(simp [*,errW_none,errW_some]<;>rfl),by repeat (first|(with_reducible first|exact HB.out|apply below_alloc|apply pw_below_drewN|apply below_drew1|refine below_set ?_ GE112.out)|exact HB.out)⟩
     ·rw [if_neg c4] at H
      exact absurd H (by simp)
    ·rw [if_neg c3] at H
     exact absurd H (by simp)
   ·rw [if_neg c2] at H
    have c2b0:decide (x3_1 < (l0.length:Int))=false:=decide_eq_false c2
    clear c2
    obtain rfl:=Option.some.inj H
    go_wp2
    go_ret
    exact ⟨by first|rfl|(simp [errW_none,errW_some]<;>rfl)|(simp [*,errW_none,errW_some]<;>rfl),by repeat (first|(with_reducible first|exact HB.out|apply below_alloc|apply pw_below_drewN|apply below_drew1)|exact HB.out)⟩
end Go.Proofs.YtehdmplngmbnnaaDoor.P
namespace Go.Proofs.YtehdmplngmbnnaaDoor.P
open Go.RowKit Go.Proofs.YtehdmplngmbnnaaDoorW.PrintWords
set_option linter.unusedVariables false
set_option linter.unusedSimpArgs false
theorem scanB_wf (s:ByteArray) (h:(scanB s).2.1=0):s.size≤8000∧∃ ts e,(scanB s).1=ts++[(⟨0,⟨#[]⟩,0,e⟩:Lx)]∧ts.length≤s.size∧(∀ x ∈ ts,Wf x∧x.f1.size≤s.size∧0≤x.f3∧x.f3≤(s.size:Int))∧0≤e∧e≤(s.size:Int):=by
 unfold scanB at h ⊢
 by_cases g:s.size > 8000
 ·rw [if_pos g] at h;cases h
 ·rw [if_neg g] at h ⊢
  have hk:=skR_le (bl s) false
  rw [bl_size] at hk
  have hl:((bl s).drop (skR false (bl s))).length=s.size - skR false (bl s):=by rw [List.length_drop,bl_size]
  obtain ⟨ts,e,h1,h2,h3,h4,h5⟩:=scanL_wf (s.size+1) _ (skR false (bl s)) (by rw [hl];omega) h
  rw [hl] at h2 h3 h5
  have hz:skR false (bl s)+(s.size - skR false (bl s))=s.size:=by omega
  rw [hz] at h3 h5
  exact ⟨by omega,ts,e,h1,by omega,(fun x hx=>by obtain ⟨j1,j2,j3⟩:=h3 x hx;exact ⟨j1,by omega,j3⟩),h4,h5⟩
theorem scanB_at (s:ByteArray):0≤(scanB s).2.2∧(scanB s).2.2≤(s.size:Int):=by
 unfold scanB
 by_cases g:s.size > 8000
 ·rw [if_pos g]
  exact ⟨Int.le_refl 0,by simp only;omega⟩
 ·rw [if_neg g]
  have hk:=skR_le (bl s) false
  rw [bl_size] at hk
  have hl:((bl s).drop (skR false (bl s))).length=s.size - skR false (bl s):=by rw [List.length_drop,bl_size]
  have:=scanL_at (s.size+1) ((bl s).drop (skR false (bl s))) (skR false (bl s)) (by rw [hl];omega)
  rw [hl] at this
  have hz:skR false (bl s)+(s.size - skR false (bl s))=s.size:=by omega
  rw [hz] at this
  exact this
theorem scanB_sound (s:ByteArray) (h:(scanB s).2.1=0):SoundT (scanB s).1∧(scanB s).1.length≤s.size+1:=by
 obtain ⟨h8,ts,e,h1,h2,h3,h4,h5⟩:=scanB_wf s h
 rw [h1]
 have hl:(ts++[(⟨0,⟨#[]⟩,0,e⟩:Lx)]).length=ts.length+1:=by simp
 refine ⟨⟨⟨by omega,?_,?_,by omega⟩,?_⟩,by omega⟩
 ·rw [hl,gL_eq _ _ (by omega)]
  simp
 ·intro x hx
  rcases List.mem_append.mp hx with hx|hx
  ·exact (h3 x hx).1.rng
  ·rw [List.mem_singleton.mp hx]
   exact ⟨Int.le_refl 0,by show (0:Int)≤1099511627776;omega⟩
 ·intro x hx
  rcases List.mem_append.mp hx with hx|hx
  ·have:=(h3 x hx).2.1
   omega
  ·rw [List.mem_singleton.mp hx]
   exact Nat.zero_le _
def parseB (s:ByteArray):List S24 × Int × Int:=if (scanB s).2.1=0 then aList (scanB s).1 ((scanB s).1.length+1) 0 [] else ([],(scanB s).2.1,(scanB s).2.2)
theorem parse_f (s:ByteArray):schedule_Parse.f s=some (parseB s):=by
 unfold schedule_Parse.f parseB
 rw [scan_prog s (pFuel s) (by unfold pFuel;omega),Option.bind_some]
 by_cases g:(scanB s).2.1=0
 ·obtain ⟨h1,h2⟩:=scanB_sound s g
  have hp:=h1.pos
  rw [if_pos g,if_pos g]
  unfold schedule_Parse_tail.f
  obtain ⟨l,b,ht⟩:=tail_loop (scanB s).1 h1 ((scanB s).1.length+1) 0 [] (pFuel s) hp (by omega) (by unfold pFuel;omega) (fun x hx=>absurd hx (by simp)) (Nat.zero_le _)
  rw [List.drop_zero] at ht
  rw [ht,Option.bind_some]
 ·rw [if_neg g,if_neg g]
def stepOk (l:List S24) (i:Nat):Bool:=decide (schedule_Check.f (rd_T24 l i).f0 (rd_T24 l i).f1 (rd_T24 l i).f2=some 0) && ((l.take i).find? (hasNm (rd_T24 l i).f0)).isNone
def vGo (l:List S24):Nat→Nat→Bool
 | 0,_=>true
 | m+1,i=>stepOk l i && vGo l m (i+1)
theorem found_some (o:Option S24):(found o).2.2.2=o.isSome:=by
 cases o<;>rfl
theorem last_iff (l:List S24) (hB:Bnd2 l) (hl:l.length≤1000) (i:Nat) (hi:i < l.length):((schedule_last.f (l.take (i+1))=some 0) ↔ (i < 8∧stepOk l i=true)):=by
 have hln:(l.take (i+1)).length=i+1:=by rw [List.length_take];omega
 have e:wrap64 (((i+1:Nat):Int) - 1)=(i:Int):=by
  rw [show ((i+1:Nat):Int) - 1=(i:Int) by omega]
  exact wrap_nat_s i (by omega)
 unfold schedule_last.f stepOk
 rw [hln,e,rd_take l i hi]
 have q0:(0:Int)≤(i:Int):=by omega
 have q1:(i:Int) < ((i+1:Nat):Int):=by omega
 have q2:(i:Int)≤((i+1:Nat):Int):=by omega
 by_cases g1:(i:Int) ≥ 8
 ·rw [if_pos g1]
  constructor
  ·intro h;cases h
  ·rintro ⟨h,-⟩;omega
 ·rw [if_neg g1,if_pos q0,if_pos q1]
  have g8:i < 8:=by omega
  obtain ⟨c,hc⟩:∃ c,schedule_Check.f (rd_T24 l i).f0 (rd_T24 l i).f1 (rd_T24 l i).f2=some c:=⟨_,rfl⟩
  rw [hc,Option.bind_some]
  by_cases g2:c=0
  ·have ht:(l.take (i+1)).take ((i:Int)).toNat=l.take i:=by rw [Int.toNat_natCast,List.take_take,Nat.min_eq_left (by omega)]
   rw [if_pos g2,if_pos q2,ht,find_prog _ _ (by rw [List.length_take];omega) (fun s hs=>(hB s (List.mem_of_mem_take hs)).2),Option.bind_some,found_some,g2]
   cases (l.take i).find? (hasNm (rd_T24 l i).f0) with
   | none=>simp [g8]
   | some x=>simp
  ·rw [if_neg g2]
   have:¬ (some c=some (0:Int)):=fun h=>g2 (Option.some.inj h)
   simp [this]
theorem valid_l0 (l:List S24) (hB:Bnd2 l) (hl:l.length≤1000):∀ (m i K:Nat),i+m=l.length→m+1≤K→sawmilllaw37_valid.l0 K l i=some (vGo l m i && (decide (l.length≤8) || !vGo l m i)):=by
 intro m
 induction m with
 | zero =>
  intro i K hi hK
  obtain ⟨K,rfl⟩:∃ q,K=q+1:=⟨K - 1,by omega⟩
  rw [sawmilllaw37_valid.l0,if_neg (by omega)]
  have:decide ((l.length:Int)≤8)=decide (l.length≤8):=by
   by_cases g:l.length≤8
   ·rw [decide_eq_true g,decide_eq_true (by omega)]
   ·rw [decide_eq_false g,decide_eq_false (by omega)]
  rw [this]
  simp [vGo]
 | succ m ih =>
  intro i K hi hK
  obtain ⟨K,rfl⟩:∃ q,K=q+1:=⟨K - 1,by omega⟩
  have q1:(i:Int) < (l.length:Int):=by omega
  have q2:(0:Int)≤(i:Int):=by omega
  have q3:(i:Int)≤(l.length:Int):=by omega
  have e:wrap64 ((i:Int)+1)=((i+1:Nat):Int):=wrap_nat_s (i+1) (by omega)
  have i1:=ih (i+1) K (by omega) (by omega)
  rw [sawmilllaw37_valid.l0,if_pos q1,if_pos q2,if_pos q3,Int.toNat_natCast,find_prog _ _ (by rw [List.length_take];omega) (fun s hs=>(hB s (List.mem_of_mem_take hs)).2),Option.bind_some,found_some,e,i1]
  simp only [vGo,stepOk]
  obtain ⟨c,hc⟩:∃ c,schedule_Check.f (rd_T24 l i).f0 (rd_T24 l i).f1 (rd_T24 l i).f2=some c:=⟨_,rfl⟩
  rw [hc,Option.bind_some]
  cases (l.take i).find? (hasNm (rd_T24 l i).f0) with
  | some x=>simp
  | none =>
   by_cases g2:c=0
   ·subst g2
    simp
   ·have:¬ (some c=some (0:Int)):=fun h=>g2 (Option.some.inj h)
    simp [this,g2]
theorem valid_prog (l:List S24) (hB:Bnd2 l) (hl:l.length≤1000) (K:Nat) (hK:1001≤K):sawmilllaw37_valid.f K l=some (vGo l l.length 0 && decide (l.length≤8)):=by
 unfold sawmilllaw37_valid.f
 rw [show (0:Int)=((0:Nat):Int) from rfl,valid_l0 l hB hl l.length 0 K (by omega) (by omega)]
 cases vGo l l.length 0<;>simp
theorem okGo_v (l:List S24) (hB:Bnd2 l) (hl:l.length≤1000):∀ m i,i+m=l.length→okGo l m i=(vGo l m i && (decide (l.length≤8) || decide (m=0))):=by
 intro m
 induction m with
 | zero =>
  intro i hi
  simp [okGo,vGo]
 | succ m ih =>
  intro i hi
  have hlt:=last_iff l hB hl i (by omega)
  have i1:=ih (i+1) (by omega)
  simp only [vGo]
  by_cases g:schedule_last.f (l.take (i+1))=some 0
  ·obtain ⟨h8,hs⟩:=hlt.mp g
   have ho:okGo l (m+1) i=okGo l m (i+1):=by
    simp only [okGo]
    rw [if_pos g]
   rw [ho,i1,hs]
   by_cases hm:m=0
   ·subst hm
    have:l.length≤8:=by omega
    simp [vGo,this]
   ·simp [hm]
  ·have ho:okGo l (m+1) i=false:=by
    simp only [okGo]
    rw [if_neg g]
   rw [ho]
   by_cases hs:stepOk l i=true
   ·have:¬ i < 8:=fun h=>g (hlt.mpr ⟨h,hs⟩)
    have h8:¬ l.length≤8:=by omega
    simp [h8]
   ·have hs':stepOk l i=false:=by simpa using hs
    rw [hs']
    rfl
theorem okGo_valid (l:List S24) (hB:Bnd2 l) (hl:l.length≤1000):okGo l l.length 0=(vGo l l.length 0 && decide (l.length≤8)):=by
 rw [okGo_v l hB hl l.length 0 (by omega)]
 by_cases g:l.length=0
 ·simp [g]
 ·simp [g]
theorem okGo_last (l:List S24):∀ m i,i+m=l.length→okGo l m i=true→∀ j,i≤j→j < l.length→schedule_last.f (l.take (j+1))=some 0:=by
 intro m
 induction m with
 | zero=>intro i hi _ j h1 h2;omega
 | succ m ih =>
  intro i hi h j h1 h2
  simp only [okGo] at h
  by_cases g:schedule_last.f (l.take (i+1))=some 0
  ·rw [if_pos g] at h
   by_cases hj:j=i
   ·rw [hj];exact g
   ·exact ih (i+1) (by omega) h j (by omega) h2
  ·rw [if_neg g] at h;cases h
theorem last_okGo (l:List S24) (hlast:∀ j,j < l.length→schedule_last.f (l.take (j+1))=some 0):∀ m i,i+m=l.length→okGo l m i=true:=by
 intro m
 induction m with
 | zero=>intro i hi;rfl
 | succ m ih =>
  intro i hi
  simp only [okGo]
  rw [if_pos (hlast i (by omega))]
  exact ih (i+1) (by omega)
theorem Bnd_2 {l:List S24} (h:Bnd l):Bnd2 l:=fun s hs=>by
 have:=h s hs
 omega
theorem rd_all {P:S24→Prop} (l:List S24) (h:∀ j,j < l.length→P (rd_T24 l j)):∀ s ∈ l,P s:=by
 intro s hs
 obtain ⟨j,hj,rfl⟩:=List.getElem_of_mem hs
 have:=h j hj
 unfold rd_T24 at this
 rw [Int.toNat_natCast,List.getD_eq_getElem?_getD,List.getElem?_eq_getElem hj] at this
 exact this
theorem dd_len (k:Nat):∀ n,n < 10 ^ (k+1)→(Lib.decDigits n).length≤k+1:=by
 induction k with
 | zero =>
  intro n hn
  rw [Lib.decDigits_one (by simpa using hn)]
  exact Nat.le_refl _
 | succ k ih =>
  intro n hn
  by_cases g:n < 10
  ·rw [Lib.decDigits_one g]
   simp
  ·rw [dd_step g,List.length_append,List.length_singleton]
   have:=ih (n / 10) (by rw [Nat.pow_succ] at hn;omega)
   omega
theorem fm_size5 (n:Int) (h0:0≤n) (h1:n < 100000):(fm n).size≤5:=by
 obtain ⟨m,rfl⟩:∃ m:Nat,n=m:=⟨n.toNat,by omega⟩
 have h:=dd_len 4 m (by omega)
 unfold fm
 rw [Lib.itoa_nonneg]
 exact h
theorem part_size5 (wd:ByteArray) (n:Int) (h1:n < 100000):(pPart wd n).size≤wd.size+5:=by
 unfold pPart
 split
 ·have:=fm_size5 n (by omega) h1
  rw [ByteArray.size_append]
  omega
 ·exact Nat.zero_le _
theorem stages_size5 (l:List S52) (h:l.all stOk=true):(stagesTxt l).size≤40 * l.length:=by
 induction l with
 | nil=>exact Nat.zero_le _
 | cons x xs ih =>
  simp only [List.all_cons,Bool.and_eq_true] at h
  obtain ⟨a1,a2,a3,a4,a5,a6,a7,a8⟩:=stOk_nums x h.1
  have:=ih h.2
  have:=part_size5 (⟨#[32,98,101,108,111,119,32]⟩:ByteArray) x.f0 (by omega)
  have:=part_size5 (⟨#[32,102,111,114,32]⟩:ByteArray) x.f1 (by omega)
  have:=fm_size5 x.f2 (by omega) (by omega)
  have:=fm_size5 x.f3 (by omega) (by omega)
  have e1:(⟨#[32,98,101,108,111,119,32]⟩:ByteArray).size=7:=rfl
  have e2:(⟨#[32,102,111,114,32]⟩:ByteArray).size=5:=rfl
  have e3:(⟨#[32,97,116,32]⟩:ByteArray).size=4:=rfl
  have e4:(⟨#[32,45,32]⟩:ByteArray).size=3:=rfl
  have e5:(⟨#[59]⟩:ByteArray).size=1:=rfl
  simp only [stagesTxt,stageTxt,ByteArray.size_append,List.length_cons]
  omega
theorem sched_size5 (s:S24) (h:Good s):(schedTxt s).size≤600∧1≤(schedTxt s).size:=by
 obtain ⟨g1,g2,g3,g4,g5,g6⟩:=check_ok _ _ _ h
 have:=nm_size _ g1
 have:=stages_size5 _ g6
 have:=fm_size5 s.f1 (by omega) (by omega)
 have e1:(⟨#[115,99,104,101,100,117,108,101,32]⟩:ByteArray).size=9:=rfl
 have e2:(⟨#[32,114,97,109,112,32]⟩:ByteArray).size=6:=rfl
 have e3:(⟨#[58]⟩:ByteArray).size=1:=rfl
 have e4:(⟨#[10]⟩:ByteArray).size=1:=rfl
 unfold schedTxt
 simp only [ByteArray.size_append]
 omega
theorem scheds_size5 (l:List S24) (h:∀ s ∈ l,Good s):(schedsTxt l).size≤600 * l.length∧(l ≠ []→1≤(schedsTxt l).size):=by
 induction l with
 | nil=>exact ⟨Nat.zero_le _,fun h=>absurd rfl h⟩
 | cons s ss ih =>
  obtain ⟨i1,i2⟩:=ih (fun x hx=>h x (List.mem_cons_of_mem _ hx))
  obtain ⟨s1,s2⟩:=sched_size5 s (h s (List.mem_cons_self ..))
  simp only [schedsTxt,ByteArray.size_append,List.length_cons]
  exact ⟨by omega,fun _=>by omega⟩
theorem scan_txt (l:List S24) (h:∀ s ∈ l,Good s) (hl:l.length≤8):(scanB (schedsTxt l)).2.1=0∧(scanB (schedsTxt l)).1.map tk3=allToks l++[endT]:=by
 have hz:=(scheds_size5 l h).1
 unfold scanB
 rw [if_neg (by omega)]
 exact lex_all l h ((schedsTxt l).size+1) _ (by rw [bl_size];omega)
theorem parse_txt (l:List S24) (hlast:∀ j,j < l.length→schedule_last.f (l.take (j+1))=some 0) (h:∀ s ∈ l,Good s) (hl:l.length≤8):parseB (schedsTxt l)=(l,0,0):=by
 obtain ⟨h1,h2⟩:=scan_txt l h hl
 unfold parseB
 rw [if_pos h1]
 have hm:l.length < (scanB (schedsTxt l)).1.length+1:=by
  have e1:=congrArg List.length h2
  have e2:∀ m:List S24,m.length≤(allToks m).length:=by
   intro m
   induction m with
   | nil=>exact Nat.le_refl _
   | cons s ss ih =>
    simp only [allToks,scToks,headToks,List.length_append,List.length_cons]
    omega
  have:=e2 l
  rw [List.length_map,List.length_append,List.length_singleton] at e1
  omega
 have:=list_yes (L:=(scanB (schedsTxt l)).1) l hlast h l.length 0 ((scanB (schedsTxt l)).1.length+1) 0 (by omega) hm (by unfold tkd;rw [List.drop_zero,List.drop_zero];exact h2)
 rw [List.take_zero] at this
 exact this
end Go.Proofs.YtehdmplngmbnnaaDoor.P
namespace Go.Proofs.YtehdmplngmbnnaaDoor.P
open Go.RowKit Go.Proofs.YtehdmplngmbnnaaDoorW.PrintWords
set_option linter.unusedVariables false
set_option linter.unusedSimpArgs false
structure WfL (L:List Lx):Prop extends SoundT L where
 wf:∀ a,a < L.length→(gL L a).f0 ≠ 0→Wf (gL L a)
 zero:∀ a,a < L.length→(gL L a).f0=0→a+1=L.length∧tk3 (gL L a)=endT
theorem s_taken {L:List Lx} {a:Nat} {b:Bool} {k:Int} {u:ByteArray} (h:(aTake L a b k u).2=false):aIs L a b k u=true∧b=false∧(aTake L a b k u).1=a+1:=by
 unfold aTake at h ⊢
 by_cases g:aIs L a b k u=true
 ·rw [if_pos g]
  exact ⟨g,(aIs_kind g).1,rfl⟩
 ·rw [if_neg g] at h
  cases h
theorem s_text {L:List Lx} {a:Nat} {b:Bool} {k:Int} {u:ByteArray} (hu:bl u ≠ []) (h:aIs L a b k u=true):(gL L a).f1=u:=by
 unfold aIs at h
 cases b
 ·rw [if_neg Bool.false_ne_true] at h
  by_cases g:(gL L a).f0=k
  ·rw [if_pos g,if_neg (text_ne u hu),text_eq] at h
   simpa using h
  ·rw [if_neg g] at h;cases h
 ·rw [if_pos rfl] at h;cases h
theorem s_word {L:List Lx} (hL:WfL L) {a:Nat} (ha:a < L.length) {b:Bool} {k:Int} {u:ByteArray} (hk:k ≠ 0) (hk2:k ≠ 2) (hu:bl u ≠ []) (h:aIs L a b k u=true):tkd L a=(k,u,0) :: tkd L (a+1):=by
 have h1:=(aIs_kind h).2
 have h2:=s_text hu h
 have h3:=(hL.wf a ha (by rw [h1];exact hk)).zero (by rw [h1];exact hk2)
 rw [tkd_at L a ha]
 unfold tk3
 rw [h1,h2,h3]
theorem s_name {L:List Lx} (hL:WfL L) {a:Nat} (ha:a < L.length) {b:Bool} {u:ByteArray} (h:aIs L a b 1 u=true):tkd L a=(1,(gL L a).f1,0) :: tkd L (a+1):=by
 have h1:=(aIs_kind h).2
 have h3:=(hL.wf a ha (by rw [h1];decide)).zero (by rw [h1];decide)
 rw [tkd_at L a ha]
 unfold tk3
 rw [h1,h3]
theorem s_num {L:List Lx} (hL:WfL L) {a:Nat} (ha:a < L.length) {b:Bool} {u:ByteArray} (h:aIs L a b 2 u=true):tkd L a=(2,fm (gL L a).f2,(gL L a).f2) :: tkd L (a+1):=by
 have h1:=(aIs_kind h).2
 have h3:=(hL.wf a ha (by rw [h1];decide)).num h1
 rw [tkd_at L a ha]
 unfold tk3
 rw [h1,h3]
 rfl
theorem s_aNum {L:List Lx} (hL:WfL L) {a:Nat} (ha:a < L.length) {b:Bool} (h:(aNum L a b).2.1=false):b=false∧(aNum L a b).1=a+1∧(aNum L a b).2.2=(gL L a).f2∧tkd L a=(2,fm (aNum L a b).2.2,(aNum L a b).2.2) :: tkd L (aNum L a b).1:=by
 obtain ⟨h1,h2,h3⟩:=s_taken (show (aTake L a b 2 ⟨#[]⟩).2=false from h)
 have h4:(aNum L a b).2.2=(gL L a).f2:=by
  show (aLex L a b 2 ⟨#[]⟩).f2=_
  unfold aLex
  rw [if_pos h1]
 have h5:(aNum L a b).1=a+1:=h3
 rw [h4,h5]
 exact ⟨h2,rfl,rfl,s_num hL ha h1⟩
theorem s_part {L:List Lx} (hL:WfL L) {a:Nat} (ha:a < L.length) {b:Bool} {w:ByteArray} (hw:bl w ≠ []) (h:(aPart L a b w).2.1=false):b=false∧tkd L a=optToks w (aPart L a b w).2.2++tkd L (aPart L a b w).1:=by
 unfold aPart at h ⊢
 by_cases g:aIs L a b 1 w=true
 ·have hn:=hL.next a ha b 1 (by decide) w g
  rw [if_pos g] at h ⊢
  have hb:=(aIs_kind g).1
  by_cases g2:(gL L (a+1)).f0=2∧(gL L (a+1)).f2=0
  ·rw [if_pos g2] at h;cases h
  ·rw [if_neg g2] at h ⊢
   obtain ⟨h1,h2,h3,h4⟩:=s_aNum hL hn h
   obtain ⟨q1,q2,q3,q4⟩:=hL.aNum (a+1) hn false
   have hk:(gL L (a+1)).f0=2:=(aIs_kind (s_taken (show (aTake L (a+1) false 2 ⟨#[]⟩).2=false from h)).1).2
   have hp:0 < (aNum L (a+1) false).2.2:=by
    rw [h3] at q3 ⊢
    have:(gL L (a+1)).f2 ≠ 0:=fun h=>g2 ⟨hk,h⟩
    omega
   refine ⟨hb,?_⟩
   rw [s_word hL ha (by decide) (by decide) hw g,h4]
   unfold optToks
   rw [if_pos hp]
   rfl
 ·rw [if_neg g] at h ⊢
  refine ⟨h,?_⟩
  unfold optToks
  rw [if_neg (by show ¬ (0:Int) < 0;decide)]
  rfl
theorem s_stage {L:List Lx} (hL:WfL L) {a:Nat} (ha:a < L.length) {b:Bool} (h:(aStage L a b).b=false):b=false∧tkd L a=stToks (aStage L a b).x++tkd L (aStage L a b).a:=by
 obtain ⟨x1,-,-,-⟩:=hL.part a ha b wBelow
 obtain ⟨x2,-,-,-⟩:=hL.part (aPart L a b wBelow).1 x1 (aPart L a b wBelow).2.1 wFor
 have z1:=s_part hL ha (b:=b) (w:=wBelow) (by decide)
 have z2:=s_part hL x1 (b:=(aPart L a b wBelow).2.1) (w:=wFor) (by decide)
 unfold aStage at h ⊢
 simp only at h ⊢
 generalize e1:aPart L a b wBelow=p1 at *
 generalize e2:aPart L p1.1 p1.2.1 wFor=p2 at *
 obtain ⟨b2,hb2⟩:∃ b2,b2=(if p1.2.2=0∧p2.2.2=0 then true else p2.2.1):=⟨_,rfl⟩
 rw [← hb2] at h ⊢
 obtain ⟨x3,-⟩:=hL.take p2.1 x2 b2 1 (by decide) wAt
 have z3:=s_taken (L:=L) (a:=p2.1) (b:=b2) (k:=1) (u:=wAt)
 generalize e3:aTake L p2.1 b2 1 wAt=t1 at *
 obtain ⟨x4,-,-,-⟩:=hL.aNum t1.1 x3 t1.2
 have z4:=s_aNum hL x3 (b:=t1.2)
 generalize e4:aNum L t1.1 t1.2=t2 at *
 obtain ⟨x5,-⟩:=hL.take t2.1 x4 t2.2.1 3 (by decide) wDash
 have z5:=s_taken (L:=L) (a:=t2.1) (b:=t2.2.1) (k:=3) (u:=wDash)
 generalize e5:aTake L t2.1 t2.2.1 3 wDash=t3 at *
 obtain ⟨x6,-,-,-⟩:=hL.aNum t3.1 x5 t3.2
 have z6:=s_aNum hL x5 (b:=t3.2)
 generalize e6:aNum L t3.1 t3.2=t4 at *
 have z7:=s_taken (L:=L) (a:=t4.1) (b:=t4.2.1) (k:=3) (u:=wSemi)
 generalize e7:aTake L t4.1 t4.2.1 3 wSemi=t5 at *
 obtain ⟨i7,b7,n7⟩:=z7 h
 obtain ⟨b6,n6,-,k6⟩:=z6 b7
 obtain ⟨i5,b5,n5⟩:=z5 b6
 obtain ⟨b4,n4,-,k4⟩:=z4 b5
 obtain ⟨i3,b3,n3⟩:=z3 b4
 have b2f:p2.2.1=false:=by
  rw [b3] at hb2
  by_cases g:p1.2.2=0∧p2.2.2=0
  ·rw [if_pos g] at hb2;cases hb2
  ·rw [if_neg g] at hb2
   exact hb2.symm
 obtain ⟨b1f,k2⟩:=z2 b2f
 obtain ⟨b0f,k1⟩:=z1 b1f
 have k3:=s_word hL x2 (by decide) (by decide) (by decide) i3
 have k5:=s_word hL x4 (by decide) (by decide) (by decide) i5
 have k7:=s_word hL x6 (by decide) (by decide) (by decide) i7
 refine ⟨b0f,?_⟩
 unfold stToks endToks
 rw [k1,k2,k3,← n3,k4,k5,← n5,k6,k7,← n7]
 simp
theorem s_stages {L:List Lx} (hL:WfL L):∀ (n a:Nat) (b:Bool) (st:List S52),a < L.length→(aStages L n a b st).2.1=false→∃ xs,(aStages L n a b st).2.2=st++xs∧tkd L a=stsToks xs++tkd L (aStages L n a b st).1∧b=false:=by
 intro n
 induction n with
 | zero=>intro a b st ha h;exact ⟨[],(List.append_nil _).symm,rfl,h⟩
 | succ n ih =>
  intro a b st ha h
  simp only [aStages] at h ⊢
  by_cases g1:b=true
  ·rw [if_pos g1] at h
   rw [g1] at h
   cases h
  ·rw [if_neg g1] at h ⊢
   by_cases g2:aIs L a b 1 wSched=true
   ·rw [if_pos g2] at h ⊢
    exact ⟨[],(List.append_nil _).symm,rfl,h⟩
   ·rw [if_neg g2] at h ⊢
    by_cases g3:aIs L a b 0 ⟨#[]⟩=true
    ·rw [if_pos g3] at h ⊢
     exact ⟨[],(List.append_nil _).symm,rfl,h⟩
    ·rw [if_neg g3] at h ⊢
     obtain ⟨-,hs2,-⟩:=stage_prog' L hL.toSound a ha b
     obtain ⟨xs,i1,i2,i3⟩:=ih (aStage L a b).a (aStage L a b).b (st++[(aStage L a b).x]) hs2 h
     obtain ⟨j1,j2⟩:=s_stage hL ha i3
     refine ⟨(aStage L a b).x :: xs,?_,?_,j1⟩
     ·rw [i1,List.append_assoc]
      rfl
     ·rw [j2,i2]
      simp only [stsToks,List.append_assoc]
theorem s_head {L:List Lx} (hL:WfL L) {a:Nat} (ha:a < L.length) (h:(aHead L a).b=false):tkd L a=[(1,wSched,0),(1,(aHead L a).nm,0),(1,wRamp,0),(2,fm (aHead L a).r,(aHead L a).r),(3,wColon,0)]++tkd L (aHead L a).a:=by
 obtain ⟨x0,-⟩:=hL.take a ha false 1 (by decide) wSched
 unfold aHead at h ⊢
 simp only at h ⊢
 have z0:=s_taken (L:=L) (a:=a) (b:=false) (k:=1) (u:=wSched)
 generalize e0:aTake L a false 1 wSched=t0 at *
 obtain ⟨x1,-⟩:=hL.take t0.1 x0 t0.2 1 (by decide) ⟨#[]⟩
 have z1:=s_taken (L:=L) (a:=t0.1) (b:=t0.2) (k:=1) (u:=⟨#[]⟩)
 generalize e1:aTake L t0.1 t0.2 1 ⟨#[]⟩=t1 at *
 obtain ⟨x2,-⟩:=hL.take t1.1 x1 t1.2 1 (by decide) wRamp
 have z2:=s_taken (L:=L) (a:=t1.1) (b:=t1.2) (k:=1) (u:=wRamp)
 generalize e2:aTake L t1.1 t1.2 1 wRamp=t2 at *
 obtain ⟨x3,-,-,-⟩:=hL.aNum t2.1 x2 t2.2
 have z3:=s_aNum hL x2 (b:=t2.2)
 generalize e3:aNum L t2.1 t2.2=t3 at *
 have z4:=s_taken (L:=L) (a:=t3.1) (b:=t3.2.1) (k:=3) (u:=wColon)
 generalize e4:aTake L t3.1 t3.2.1 3 wColon=t4 at *
 obtain ⟨i4,b4,n4⟩:=z4 h
 obtain ⟨b3,n3,-,k3⟩:=z3 b4
 obtain ⟨i2,b2,n2⟩:=z2 b3
 obtain ⟨i1,b1,n1⟩:=z1 b2
 obtain ⟨i0,-,n0⟩:=z0 b1
 have k0:=s_word hL ha (by decide) (by decide) (by decide) i0
 have k1:=s_name hL x0 i1
 have k2:=s_word hL x1 (by decide) (by decide) (by decide) i2
 have k4:=s_word hL x3 (by decide) (by decide) (by decide) i4
 have hl:(aLex L t0.1 t0.2 1 ⟨#[]⟩).f1=(gL L t0.1).f1:=by
  unfold aLex
  rw [if_pos i1]
 rw [hl,k0,← n0,k1,← n1,k2,← n2,k3,k4,← n4]
 rfl
theorem s_sched {L:List Lx} (hL:WfL L) {a:Nat} (ha:a < L.length) (h:(aSched L a).b=false):tkd L a=scToks (aSched L a).x++tkd L (aSched L a).a:=by
 obtain ⟨h1,-,-⟩:=head_lt L hL.toSound a ha
 obtain ⟨xs,i1,i2,i3⟩:=s_stages hL (L.length+1) (aHead L a).a (aHead L a).b [] h1 h
 have hh:=s_head hL ha i3
 have e:(aSched L a).x=⟨(aHead L a).nm,(aHead L a).r,xs⟩:=by
  unfold aSched
  rw [i1]
  rfl
 rw [e,hh,i2]
 unfold scToks headToks
 simp only [List.append_assoc]
 rfl
theorem s_list {L:List Lx} (hL:WfL L):∀ (n a:Nat) (out:List S24),a < L.length→L.length - a < n→Bnd2 out→out.length≤8→(∀ j,j < out.length→schedule_last.f (out.take (j+1))=some 0)→(aList L n a out).2.1=0 →
  ∃ new,(aList L n a out).1=out++new∧tkd L a=allToks new++[endT]∧(aList L n a out).2.2=0∧(∀ j,j < (out++new).length→schedule_last.f ((out++new).take (j+1))=some 0)∧Bnd2 (out++new)∧(out++new).length≤8:=by
 intro n
 induction n with
 | zero=>intro a out _ h;exact absurd h (Nat.not_lt_zero _)
 | succ n ih =>
  intro a out ha hn hB ho hc h
  simp only [aList] at h ⊢
  by_cases g0:aIs L a false 0 ⟨#[]⟩=true
  ·rw [if_pos g0]
   refine ⟨[],(List.append_nil _).symm,?_,rfl,?_,?_,?_⟩
   ·obtain ⟨z1,z2⟩:=hL.zero a ha (aIs_kind g0).2
    rw [tkd_at L a ha,z2]
    unfold tkd
    rw [List.drop_eq_nil_of_le (by rw [List.length_map];omega)]
    rfl
   ·rw [List.append_nil]
    exact hc
   ·rw [List.append_nil]
    exact hB
   ·rw [List.append_nil]
    exact ho
  ·rw [if_neg g0] at h ⊢
   by_cases gb:(aSched L a).b=true
   ·rw [if_pos gb] at h
    cases h
   ·rw [if_neg gb] at h ⊢
    have hgb:(aSched L a).b=false:=by simpa using gb
    obtain ⟨s1,s2,s3⟩:=sched_lt L hL.toSound a ha
    have:=s3 hgb
    have hB2:Bnd2 (out++[(aSched L a).x]):=by
     intro s hs
     rcases List.mem_append.mp hs with h|h
     ·exact hB s h
     ·rw [List.mem_singleton.mp h]
      exact sched_bnd L hL.toSoundT a ha
    obtain ⟨e,he⟩:=last_some (out++[(aSched L a).x]) (by simp) (by rw [List.length_append,List.length_singleton];omega) hB2
    by_cases ge:e=0
    ·subst ge
     obtain ⟨l8,-⟩:=last_zero _ (by simp) (by rw [List.length_append,List.length_singleton];omega) he
     rw [if_pos he] at h ⊢
     obtain ⟨new,n1,n2,n3,n4,n5,n6⟩:=ih (aSched L a).a (out++[(aSched L a).x]) s1 (by omega) hB2 l8 (by
      intro j hj
      by_cases hjo:j < out.length
      ·rw [List.take_append_of_le_length (by omega)]
       exact hc j hjo
      ·rw [List.length_append,List.length_singleton] at hj
       rw [List.take_of_length_le (by rw [List.length_append,List.length_singleton];omega)]
       exact he) h
     have ea:out++(aSched L a).x :: new=out++[(aSched L a).x]++new:=by simp
     refine ⟨(aSched L a).x :: new,?_,?_,n3,?_,?_,?_⟩
     ·rw [n1,ea]
     ·rw [s_sched hL ha hgb,n2]
      simp only [allToks,List.append_assoc]
     ·rw [ea]
      exact n4
     ·rw [ea]
      exact n5
     ·rw [ea]
      exact n6
    ·rw [if_neg (by rw [he];simpa using ge),he] at h
     exact absurd h ge
end Go.Proofs.YtehdmplngmbnnaaDoor.P
namespace Go.Proofs.YtehdmplngmbnnaaDoor.P
open Go.RowKit Go.Proofs.YtehdmplngmbnnaaDoorW.PrintWords Go.Proofs.YtehdmplngmbnnaaDoorW.PrintLast Go.Proofs.YtehdmplngmbnnaaDoorW.PrintMore
attribute [local go_sem] max2_int min2_int max_two min_two max_three min_three max_four min_four
attribute [local go_sem] cell_twice
set_option linter.unusedVariables false
set_option linter.unusedSimpArgs false
def lexer_Same_1.f (a0_0:Int) (a0_1:ByteArray) (a0_2:Int) (a0_3:Int) (a1_0:Int) (a1_1:ByteArray) (a1_2:Int) (a1_3:Int):Option (Bool):=if a0_0=a1_0 then (if a0_1.toList=a1_1.toList then (some (a0_2 == a1_2)) else (some false)) else (some false)
set_option maxHeartbeats 8000000 in
set_option maxRecDepth 100000 in
theorem lexer_Same_1.calls (a0_0:Int) (a0_1:ByteArray) (a0_2:Int) (a0_3:Int) (a1_0:Int) (a1_1:ByteArray) (a1_2:Int) (a1_3:Int) (r:Bool) (w:World) (h:lexer_Same_1.f a0_0 a0_1 a0_2 a0_3 a1_0 a1_1 a1_2 a1_3=some r) :
  Calls Tryd.prog 47 #[.agg #[.int .i64 a0_0,.string a0_1,.int .i64 a0_2,.int .i64 a0_3],.agg #[.int .i64 a1_0,.string a1_1,.int .i64 a1_2,.int .i64 a1_3]] w fun e w'=>e=.returned (.bool r)∧Below w.heap.size w w':=by
 have hu68:=Tryd.underlying68
 have HB:=Aside0.mk (Below.refl w.heap.size w)
 have H:(if a0_0=a1_0 then (if a0_1.toList=a1_1.toList then (some (a0_2 == a1_2)) else (some false)) else (some false))=some r:=h
 clear h
 by_cases c3:a0_0=a1_0
 ·rw [if_pos c3] at H
  have c3b0:(a0_0 == a1_0)=true:=beq_iff_eq.mpr c3
  have c3b1:(a0_0 != a1_0)=false:=bne_eq_false_iff_eq.mpr c3
  clear c3
  by_cases c4:a0_1.toList=a1_1.toList
  ·rw [if_pos c4] at H
   have c4b0:(a0_1.toList == a1_1.toList)=true:=beq_iff_eq.mpr c4
   have c4b1:(a0_1.toList != a1_1.toList)=false:=bne_eq_false_iff_eq.mpr c4
   clear c4
   obtain rfl:=Option.some.inj H
   go_enter Tryd.func47,Tryd.ntmps47
   go_wp2_with (first|((with_reducible refine gate_dst (N:=2) rfl ?_);refine box_event ?hg (N:=2) ?hd (cs:=#[.int .i64 a0_0,.string a0_1,.int .i64 a0_2,.int .i64 a0_3]) (t:=68) ?hr ?_;(case hd=>rfl);(case hg=>rfl);(case hr=>first|(go_simp;done)|(go_simp;rfl));intro gb101 hg w5 hbox hb;have n0_:=Aside0.mk (below_step (by repeat (first|(with_reducible first|exact HB.out|apply below_alloc|apply pw_below_drewN|apply below_drew1)|exact HB.out)) hb);have n1_:=Aside0.mk (hbox);have n2_:=Aside0.mk ((by rw [hg];exact (below_size (by repeat (first|(with_reducible first|exact HB.out|apply below_alloc|apply pw_below_drewN|apply below_drew1)|exact HB.out))):w.heap.size≤gb101));have n3_:=Aside0.mk ((by rw [hg];exact (below_size (by repeat (first|(with_reducible first|exact HB.out|apply below_alloc|apply pw_below_drewN|apply below_drew1)|exact HB.out))):w.heap.size≤gb101));clear HB;have HB:=n0_;have BK101:=n1_;have GW101:=n2_;have GE101:=n3_;clear n0_ n1_ n2_ n3_;clear hb hbox hg)|((with_reducible refine gate_dst (N:=3) rfl ?_);refine box_event ?hg (N:=3) ?hd (cs:=#[.int .i64 a1_0,.string a1_1,.int .i64 a1_2,.int .i64 a1_3]) (t:=68) ?hr ?_;(case hd=>rfl);(case hg=>rfl);(case hr=>first|(go_simp;done)|(go_simp;rfl));intro gb102 hg w6 hbox hb;have n0_:=Aside0.mk (blk_below (g:=gb101) (o:=.cells #[.int .i64 a0_0,.string a0_1,.int .i64 a0_2,.int .i64 a0_3] 68 (0,0)) (by (with_reducible repeat (first|refine blk_drewN ?_ _|refine blk_drew ?_|refine blk_alloc ?_ _));exact BK101.out) hb);have n1_:=Aside0.mk (below_step (by repeat (first|(with_reducible first|exact HB.out|apply below_alloc|apply pw_below_drewN|apply below_drew1|refine below_set ?_ GE101.out)|exact HB.out)) hb);have n2_:=Aside0.mk (hbox);have n3_:=Aside0.mk ((by rw [hg];exact (below_size (by repeat (first|(with_reducible first|exact HB.out|apply below_alloc|apply pw_below_drewN|apply below_drew1|refine below_set ?_ GE101.out)|exact HB.out))):w.heap.size≤gb102));have n4_:=Aside0.mk ((by rw [hg];exact (below_size (by repeat (first|(with_reducible first|exact HB.out|apply below_alloc|apply pw_below_drewN|apply below_drew1|refine below_set ?_ GE101.out)|exact HB.out))):w.heap.size≤gb102));have n5_:=Aside0.mk ((by rw [hg];exact Nat.ne_of_lt (blk_lt (g:=gb101) (o:=.cells #[.int .i64 a0_0,.string a0_1,.int .i64 a0_2,.int .i64 a0_3] 68 (0,0)) (by (with_reducible repeat (first|refine blk_drewN ?_ _|refine blk_drew ?_|refine blk_alloc ?_ _));exact BK101.out)):gb101 ≠ gb102));have n6_:=Aside0.mk ((by rw [hg];exact Nat.ne_of_gt (blk_lt (g:=gb101) (o:=.cells #[.int .i64 a0_0,.string a0_1,.int .i64 a0_2,.int .i64 a0_3] 68 (0,0)) (by (with_reducible repeat (first|refine blk_drewN ?_ _|refine blk_drew ?_|refine blk_alloc ?_ _));exact BK101.out)):gb102 ≠ gb101));clear BK101;clear HB;have BK101:=n0_;have HB:=n1_;have BK102:=n2_;have GW102:=n3_;have GE102:=n4_;have NB101_102:=n5_;have NB102_101:=n6_;clear n0_ n1_ n2_ n3_ n4_ n5_ n6_;clear hb hbox hg;have hnb7:=NB101_102.out;have hnc7:=NB102_101.out;have hcz8_0:w6.cell? ⟨gb101,0,none⟩=some (.int .i64 a0_0):=(blk_cell BK101.out 0).trans rfl;have hcz8_1:w6.cell? ⟨gb101,1,none⟩=some (.string a0_1):=(blk_cell BK101.out 1).trans rfl;have hcz8_2:w6.cell? ⟨gb101,2,none⟩=some (.int .i64 a0_2):=(blk_cell BK101.out 2).trans rfl;have hcz8_3:w6.cell? ⟨gb101,3,none⟩=some (.int .i64 a0_3):=(blk_cell BK101.out 3).trans rfl;have hfz8_0:=blk_frozen BK101.out 0;have hfz8_1:=blk_frozen BK101.out 1;have hfz8_2:=blk_frozen BK101.out 2;have hfz8_3:=blk_frozen BK101.out 3;have hcz9_0:w6.cell? ⟨gb102,0,none⟩=some (.int .i64 a1_0):=(blk_cell BK102.out 0).trans rfl;have hcz9_1:w6.cell? ⟨gb102,1,none⟩=some (.string a1_1):=(blk_cell BK102.out 1).trans rfl;have hcz9_2:w6.cell? ⟨gb102,2,none⟩=some (.int .i64 a1_2):=(blk_cell BK102.out 2).trans rfl;have hcz9_3:w6.cell? ⟨gb102,3,none⟩=some (.int .i64 a1_3):=(blk_cell BK102.out 3).trans rfl;have hfz9_0:=blk_frozen BK102.out 0;have hfz9_1:=blk_frozen BK102.out 1;have hfz9_2:=blk_frozen BK102.out 2;have hfz9_3:=blk_frozen BK102.out 3))
   go_ret
   exact ⟨by first|rfl|(simp [errW_none,errW_some]<;>rfl)|(simp [*,errW_none,errW_some]<;>rfl),by repeat (first|(with_reducible first|exact HB.out|apply below_alloc|apply pw_below_drewN|apply below_drew1|refine below_set ?_ GE101.out|refine below_set ?_ GE102.out)|exact HB.out)⟩
  ·rw [if_neg c4] at H
   have c4b0:(a0_1.toList == a1_1.toList)=false:=beq_eq_false_iff_ne.mpr c4
   have c4b1:(a0_1.toList != a1_1.toList)=true:=bne_iff_ne.mpr c4
   obtain rfl:=Option.some.inj H
   go_enter Tryd.func47,Tryd.ntmps47
   go_wp2_with (first|((with_reducible refine gate_dst (N:=2) rfl ?_);refine box_event ?hg (N:=2) ?hd (cs:=#[.int .i64 a0_0,.string a0_1,.int .i64 a0_2,.int .i64 a0_3]) (t:=68) ?hr ?_;(case hd=>rfl);(case hg=>rfl);(case hr=>first|(go_simp;done)|(go_simp;rfl));intro gb101 hg w10 hbox hb;have n0_:=Aside0.mk (below_step (by repeat (first|(with_reducible first|exact HB.out|apply below_alloc|apply pw_below_drewN|apply below_drew1)|exact HB.out)) hb);have n1_:=Aside0.mk (hbox);have n2_:=Aside0.mk ((by rw [hg];exact (below_size (by repeat (first|(with_reducible first|exact HB.out|apply below_alloc|apply pw_below_drewN|apply below_drew1)|exact HB.out))):w.heap.size≤gb101));have n3_:=Aside0.mk ((by rw [hg];exact (below_size (by repeat (first|(with_reducible first|exact HB.out|apply below_alloc|apply pw_below_drewN|apply below_drew1)|exact HB.out))):w.heap.size≤gb101));clear HB;have HB:=n0_;have BK101:=n1_;have GW101:=n2_;have GE101:=n3_;clear n0_ n1_ n2_ n3_;clear hb hbox hg)|((with_reducible refine gate_dst (N:=3) rfl ?_);refine box_event ?hg (N:=3) ?hd (cs:=#[.int .i64 a1_0,.string a1_1,.int .i64 a1_2,.int .i64 a1_3]) (t:=68) ?hr ?_;(case hd=>rfl);(case hg=>rfl);(case hr=>first|(go_simp;done)|(go_simp;rfl));intro gb102 hg w11 hbox hb;have n0_:=Aside0.mk (blk_below (g:=gb101) (o:=.cells #[.int .i64 a0_0,.string a0_1,.int .i64 a0_2,.int .i64 a0_3] 68 (0,0)) (by (with_reducible repeat (first|refine blk_drewN ?_ _|refine blk_drew ?_|refine blk_alloc ?_ _));exact BK101.out) hb);have n1_:=Aside0.mk (below_step (by repeat (first|(with_reducible first|exact HB.out|apply below_alloc|apply pw_below_drewN|apply below_drew1|refine below_set ?_ GE101.out)|exact HB.out)) hb);have n2_:=Aside0.mk (hbox);have n3_:=Aside0.mk ((by rw [hg];exact (below_size (by repeat (first|(with_reducible first|exact HB.out|apply below_alloc|apply pw_below_drewN|apply below_drew1|refine below_set ?_ GE101.out)|exact HB.out))):w.heap.size≤gb102));have n4_:=Aside0.mk ((by rw [hg];exact (below_size (by repeat (first|(with_reducible first|exact HB.out|apply below_alloc|apply pw_below_drewN|apply below_drew1|refine below_set ?_ GE101.out)|exact HB.out))):w.heap.size≤gb102));have n5_:=Aside0.mk ((by rw [hg];exact Nat.ne_of_lt (blk_lt (g:=gb101) (o:=.cells #[.int .i64 a0_0,.string a0_1,.int .i64 a0_2,.int .i64 a0_3] 68 (0,0)) (by (with_reducible repeat (first|refine blk_drewN ?_ _|refine blk_drew ?_|refine blk_alloc ?_ _));exact BK101.out)):gb101 ≠ gb102));have n6_:=Aside0.mk ((by rw [hg];exact Nat.ne_of_gt (blk_lt (g:=gb101) (o:=.cells #[.int .i64 a0_0,.string a0_1,.int .i64 a0_2,.int .i64 a0_3] 68 (0,0)) (by (with_reducible repeat (first|refine blk_drewN ?_ _|refine blk_drew ?_|refine blk_alloc ?_ _));exact BK101.out)):gb102 ≠ gb101));clear BK101;clear HB;have BK101:=n0_;have HB:=n1_;have BK102:=n2_;have GW102:=n3_;have GE102:=n4_;have NB101_102:=n5_;have NB102_101:=n6_;clear n0_ n1_ n2_ n3_ n4_ n5_ n6_;clear hb hbox hg;have hnb12:=NB101_102.out;have hnc12:=NB102_101.out;have hcz13_0:w11.cell? ⟨gb101,0,none⟩=some (.int .i64 a0_0):=(blk_cell BK101.out 0).trans rfl;have hcz13_1:w11.cell? ⟨gb101,1,none⟩=some (.string a0_1):=(blk_cell BK101.out 1).trans rfl;have hcz13_2:w11.cell? ⟨gb101,2,none⟩=some (.int .i64 a0_2):=(blk_cell BK101.out 2).trans rfl;have hcz13_3:w11.cell? ⟨gb101,3,none⟩=some (.int .i64 a0_3):=(blk_cell BK101.out 3).trans rfl;have hfz13_0:=blk_frozen BK101.out 0;have hfz13_1:=blk_frozen BK101.out 1;have hfz13_2:=blk_frozen BK101.out 2;have hfz13_3:=blk_frozen BK101.out 3;have hcz14_0:w11.cell? ⟨gb102,0,none⟩=some (.int .i64 a1_0):=(blk_cell BK102.out 0).trans rfl;have hcz14_1:w11.cell? ⟨gb102,1,none⟩=some (.string a1_1):=(blk_cell BK102.out 1).trans rfl;have hcz14_2:w11.cell? ⟨gb102,2,none⟩=some (.int .i64 a1_2):=(blk_cell BK102.out 2).trans rfl;have hcz14_3:w11.cell? ⟨gb102,3,none⟩=some (.int .i64 a1_3):=(blk_cell BK102.out 3).trans rfl;have hfz14_0:=blk_frozen BK102.out 0;have hfz14_1:=blk_frozen BK102.out 1;have hfz14_2:=blk_frozen BK102.out 2;have hfz14_3:=blk_frozen BK102.out 3))
   go_ret
   exact ⟨by first|rfl|(simp [errW_none,errW_some]<;>rfl)|(simp [*,errW_none,errW_some]<;>rfl),by repeat (first|(with_reducible first|exact HB.out|apply below_alloc|apply pw_below_drewN|apply below_drew1|refine below_set ?_ GE101.out|refine below_set ?_ GE102.out)|exact HB.out)⟩
 ·rw [if_neg c3] at H
  have c3b0:(a0_0 == a1_0)=false:=beq_eq_false_iff_ne.mpr c3
  have c3b1:(a0_0 != a1_0)=true:=bne_iff_ne.mpr c3
  obtain rfl:=Option.some.inj H
  go_enter Tryd.func47,Tryd.ntmps47
  go_wp2_with (first|((with_reducible refine gate_dst (N:=2) rfl ?_);refine box_event ?hg (N:=2) ?hd (cs:=#[.int .i64 a0_0,.string a0_1,.int .i64 a0_2,.int .i64 a0_3]) (t:=68) ?hr ?_;(case hd=>rfl);(case hg=>rfl);(case hr=>first|(go_simp;done)|(go_simp;rfl));intro gb101 hg w15 hbox hb;have n0_:=Aside0.mk (below_step (by repeat (first|(with_reducible first|exact HB.out|apply below_alloc|apply pw_below_drewN|apply below_drew1)|exact HB.out)) hb);have n1_:=Aside0.mk (hbox);have n2_:=Aside0.mk ((by rw [hg];exact (below_size (by repeat (first|(with_reducible first|exact HB.out|apply below_alloc|apply pw_below_drewN|apply below_drew1)|exact HB.out))):w.heap.size≤gb101));have n3_:=Aside0.mk ((by rw [hg];exact (below_size (by repeat (first|(with_reducible first|exact HB.out|apply below_alloc|apply pw_below_drewN|apply below_drew1)|exact HB.out))):w.heap.size≤gb101));clear HB;have HB:=n0_;have BK101:=n1_;have GW101:=n2_;have GE101:=n3_;clear n0_ n1_ n2_ n3_;clear hb hbox hg)|((with_reducible refine gate_dst (N:=3) rfl ?_);refine box_event ?hg (N:=3) ?hd (cs:=#[.int .i64 a1_0,.string a1_1,.int .i64 a1_2,.int .i64 a1_3]) (t:=68) ?hr ?_;(case hd=>rfl);(case hg=>rfl);(case hr=>first|(go_simp;done)|(go_simp;rfl));intro gb102 hg w16 hbox hb;have n0_:=Aside0.mk (blk_below (g:=gb101) (o:=.cells #[.int .i64 a0_0,.string a0_1,.int .i64 a0_2,.int .i64 a0_3] 68 (0,0)) (by (with_reducible repeat (first|refine blk_drewN ?_ _|refine blk_drew ?_|refine blk_alloc ?_ _));exact BK101.out) hb);have n1_:=Aside0.mk (below_step (by repeat (first|(with_reducible first|exact HB.out|apply below_alloc|apply pw_below_drewN|apply below_drew1|refine below_set ?_ GE101.out)|exact HB.out)) hb);have n2_:=Aside0.mk (hbox);have n3_:=Aside0.mk ((by rw [hg];exact (below_size (by repeat (first|(with_reducible first|exact HB.out|apply below_alloc|apply pw_below_drewN|apply below_drew1|refine below_set ?_ GE101.out)|exact HB.out))):w.heap.size≤gb102));have n4_:=Aside0.mk ((by rw [hg];exact (below_size (by repeat (first|(with_reducible first|exact HB.out|apply below_alloc|apply pw_below_drewN|apply below_drew1|refine below_set ?_ GE101.out)|exact HB.out))):w.heap.size≤gb102));have n5_:=Aside0.mk ((by rw [hg];exact Nat.ne_of_lt (blk_lt (g:=gb101) (o:=.cells #[.int .i64 a0_0,.string a0_1,.int .i64 a0_2,.int .i64 a0_3] 68 (0,0)) (by (with_reducible repeat (first|refine blk_drewN ?_ _|refine blk_drew ?_|refine blk_alloc ?_ _));exact BK101.out)):gb101 ≠ gb102));have n6_:=Aside0.mk ((by rw [hg];exact Nat.ne_of_gt (blk_lt (g:=gb101) (o:=.cells #[.int .i64 a0_0,.string a0_1,.int .i64 a0_2,.int .i64 a0_3] 68 (0,0)) (by (with_reducible repeat (first|refine blk_drewN ?_ _|refine blk_drew ?_|refine blk_alloc ?_ _));exact BK101.out)):gb102 ≠ gb101));clear BK101;clear HB;have BK101:=n0_;have HB:=n1_;have BK102:=n2_;have GW102:=n3_;have GE102:=n4_;have NB101_102:=n5_;have NB102_101:=n6_;clear n0_ n1_ n2_ n3_ n4_ n5_ n6_;clear hb hbox hg;have hnb17:=NB101_102.out;have hnc17:=NB102_101.out;have hcz18_0:w16.cell? ⟨gb101,0,none⟩=some (.int .i64 a0_0):=(blk_cell BK101.out 0).trans rfl;have hcz18_1:w16.cell? ⟨gb101,1,none⟩=some (.string a0_1):=(blk_cell BK101.out 1).trans rfl;have hcz18_2:w16.cell? ⟨gb101,2,none⟩=some (.int .i64 a0_2):=(blk_cell BK101.out 2).trans rfl;have hcz18_3:w16.cell? ⟨gb101,3,none⟩=some (.int .i64 a0_3):=(blk_cell BK101.out 3).trans rfl;have hfz18_0:=blk_frozen BK101.out 0;have hfz18_1:=blk_frozen BK101.out 1;have hfz18_2:=blk_frozen BK101.out 2;have hfz18_3:=blk_frozen BK101.out 3;have hcz19_0:w16.cell? ⟨gb102,0,none⟩=some (.int .i64 a1_0):=(blk_cell BK102.out 0).trans rfl;have hcz19_1:w16.cell? ⟨gb102,1,none⟩=some (.string a1_1):=(blk_cell BK102.out 1).trans rfl;have hcz19_2:w16.cell? ⟨gb102,2,none⟩=some (.int .i64 a1_2):=(blk_cell BK102.out 2).trans rfl;have hcz19_3:w16.cell? ⟨gb102,3,none⟩=some (.int .i64 a1_3):=(blk_cell BK102.out 3).trans rfl;have hfz19_0:=blk_frozen BK102.out 0;have hfz19_1:=blk_frozen BK102.out 1;have hfz19_2:=blk_frozen BK102.out 2;have hfz19_3:=blk_frozen BK102.out 3))
  go_ret
  exact ⟨by first|rfl|(simp [errW_none,errW_some]<;>rfl)|(simp [*,errW_none,errW_some]<;>rfl),by repeat (first|(with_reducible first|exact HB.out|apply below_alloc|apply pw_below_drewN|apply below_drew1|refine below_set ?_ GE101.out|refine below_set ?_ GE102.out)|exact HB.out)⟩
end Go.Proofs.YtehdmplngmbnnaaDoor.P
namespace Go.Proofs.YtehdmplngmbnnaaDoor.P
open Go.RowKit Go.Proofs.YtehdmplngmbnnaaDoorW.PrintWords Go.Proofs.YtehdmplngmbnnaaDoorW.PrintLast
set_option linter.unusedVariables false
set_option linter.unusedSimpArgs false
def same1 (x y:S68):Bool:=if x.f0=y.f0 then (if x.f1.toList=y.f1.toList then x.f2 == y.f2 else false) else false
def sameAt (l0 l1:List S68):Nat→Nat→Bool
 | 0,_=>true
 | m+1,i=>same1 (rd_T68 l0 i) (rd_T68 l1 i) && sameAt l0 l1 m (i+1)
def sameLs (l0 l1:List S68):Bool:=if l0.length=l1.length then sameAt l0 l1 l0.length 0 else false
def lexer_Same.f (l0 l1:List S68):Option Bool:=if l0.length≤1000000 then some (sameLs l0 l1) else none
theorem same1_f (x y:S68):lexer_Same_1.f x.f0 x.f1 x.f2 x.f3 y.f0 y.f1 y.f2 y.f3=some (same1 x y):=by
 unfold lexer_Same_1.f same1
 split
 ·split<;>rfl
 ·rfl
theorem cf47 (args:Array Value) (w:World):Sem.run Tryd.prog (callFunc 47 args) w=.ok (.enter 47 args) w:=by go_simp
set_option maxHeartbeats 4000000 in
set_option maxRecDepth 100000 in
theorem equalFunc_walk (A0:Option Addr) (c0:Nat) (l0:List S68) (A1:Option Addr) (c1:Nat) (l1:List S68) (w:World) (hr0:Kd.C k68 w A0 l0.length l0) (hc0:l0.length≤c0) (hr1:Kd.C k68 w A1 l1.length l1) (hc1:l1.length≤c1) (hl:l0.length≤1000000) :
  Calls Tryd.prog 46 #[.slice A0 l0.length c0,.slice A1 l1.length c1,.func (.func 47) #[] #[]] w fun e w'=>e=.returned (.bool (sameLs l0 l1))∧Below w.heap.size w w':=by
 have hux:=Tryd.underlying68
 have HR0:=Aside0.mk hr0
 have HC0:=Aside0.mk hc0
 have HR1:=Aside0.mk hr1
 have HC1:=Aside0.mk hc1
 have HL:=Aside0.mk hl
 clear hr0 hc0 hr1 hc1 hl
 by_cases hln:l0.length=l1.length
 case neg =>
  have e1:((l0.length:Int) != (l1.length:Int))=true:=by
   rw [bne_iff_ne]
   omega
  have HS:=Aside0.mk (show sameLs l0 l1=false by unfold sameLs;rw [if_neg hln])
  go_enter Tryd.func46,Tryd.ntmps46
  go_wp2_with fail
  go_ret
  exact ⟨by rw [HS.out];rfl,Below.refl _ w⟩
 have e1:((l0.length:Int) != (l1.length:Int))=false:=by
  rw [bne_eq_false_iff_eq,hln]
 have HS:=Aside0.mk (show sameLs l0 l1=sameAt l0 l1 l0.length 0 by unfold sameLs;rw [if_pos hln])
 have HLN:=Aside0.mk hln
 clear hln
 go_enter Tryd.func46,Tryd.ntmps46
 go_wp2_with fail
 go_loopg [17] l0.length (fun kq i wr=>∃ k:Nat,i=.int .i64 k∧Aside0 (k+kq=l0.length)∧Aside0 (sameLs l0 l1=sameAt l0 l1 kq k)∧Aside0 (Below w.heap.size w wr))
 case atStart=>exact ⟨0,rfl,⟨Nat.zero_add _⟩,HS,⟨Below.refl _ w⟩⟩
 case round =>
  obtain ⟨k,rfl,HK,HT,HB⟩:=hrel
  clear HS
  by_cases hk:k < l0.length
  ·have c5:decide ((k:Int) < (l0.length:Int))=true:=decide_eq_true (by omega)
   obtain ⟨ad0,ea0,hx0,hx1,hx2,hx3⟩:=at_T68 HR0.out k (by omega) (by omega)
   obtain ⟨ad1,ea1,hy0,hy1,hy2,hy3⟩:=at_T68 HR1.out k (by omega) (by have:=HLN.out;omega)
   subst ea0 ea1
   obtain ⟨x,hx⟩:∃ x,x=rd_T68 l0 k:=⟨_,rfl⟩
   obtain ⟨y,hy⟩:∃ y,y=rd_T68 l1 k:=⟨_,rfl⟩
   rw [← hx] at hx0 hx1 hx2 hx3
   rw [← hy] at hy0 hy1 hy2 hy3
   have HX:=Aside0.mk hx
   have HY:=Aside0.mk hy
   clear hx hy
   replace hx0:=cell_of_below HB.out hx0
   replace hx1:=cell_of_below HB.out hx1
   replace hx2:=cell_of_below HB.out hx2
   replace hx3:=cell_of_below HB.out hx3
   replace hy0:=cell_of_below HB.out hy0
   replace hy1:=cell_of_below HB.out hy1
   replace hy2:=cell_of_below HB.out hy2
   replace hy3:=cell_of_below HB.out hy3
   simp only [Int.toNat_natCast] at hx0 hx1 hx2 hx3 hy0 hy1 hy2 hy3
   have HK2:=Aside0.mk hk
   have hk1:k < l1.length:=by have:=HLN.out;omega
   have hba:=below_alloc (Below.refl wr.heap.size wr) (.cells #[.int .i64 x.f0,.string x.f1,.int .i64 x.f2,.int .i64 x.f3] 68)
   replace hy0:=cell_of_below hba hy0
   replace hy1:=cell_of_below hba hy1
   replace hy2:=cell_of_below hba hy2
   replace hy3:=cell_of_below hba hy3
   have hb8:=blk_alloc (heap_alloc_new wr (.cells #[.int .i64 x.f0,.string x.f1,.int .i64 x.f2,.int .i64 x.f3] 68)) (.cells #[.int .i64 y.f0,.string y.f1,.int .i64 y.f2,.int .i64 y.f3] 68)
   have hz0:=blk_cell hb8 0
   have hz1:=blk_cell hb8 1
   have hz2:=blk_cell hb8 2
   have hz3:=blk_cell hb8 3
   simp at hz0 hz1 hz2 hz3
   have hb9:=heap_alloc_new (wr.alloc (.cells #[.int .i64 x.f0,.string x.f1,.int .i64 x.f2,.int .i64 x.f3] 68)) (.cells #[.int .i64 y.f0,.string y.f1,.int .i64 y.f2,.int .i64 y.f3] 68)
   have hv0:=blk_cell hb9 0
   have hv1:=blk_cell hb9 1
   have hv2:=blk_cell hb9 2
   have hv3:=blk_cell hb9 3
   simp at hv0 hv1 hv2 hv3
   clear hb8 hb9 hba
   go_wp2_with fail
   have HBx:=Aside0.mk (below_alloc (below_alloc HB.out (.cells #[.int .i64 x.f0,.string x.f1,.int .i64 x.f2,.int .i64 x.f3] 68)) (.cells #[.int .i64 y.f0,.string y.f1,.int .i64 y.f2,.int .i64 y.f3] 68))
   refine (lexer_Same_1.calls _ _ _ _ _ _ _ _ _ _ (same1_f x y)).mono ?_
   rintro e w' ⟨rfl,hb⟩
   have HB2:=Aside0.mk (below_step HBx.out hb)
   clear hb HBx HB
   have HTS:=Aside0.mk (show sameLs l0 l1=(same1 x y && sameAt l0 l1 (gk - 1) (k+1)) by
    have h1:=HK.out
    rw [HT.out,show gk=(gk - 1)+1 by omega]
    simp only [sameAt]
    rw [← HX.out,← HY.out]
    rfl)
   cases hs:same1 x y
   ·have HM:=Aside0.mk (show sameLs l0 l1=false by rw [HTS.out,hs];rfl)
    go_wp2_with fail
    go_ret
    exact ⟨by rw [HM.out];rfl,HB2.out⟩
   ·have HM:=Aside0.mk (show sameLs l0 l1=sameAt l0 l1 (gk - 1) (k+1) by rw [HTS.out,hs];rfl)
    have e:wrap64 ((k:Int)+1)=(k:Int)+1:=by
     have:=HL.out
     unfold wrap64
     omega
    go_wp2_with fail
    go_roundg (gk - 1)
    case measure=>have:=HK.out;omega
    case rel=>exact ⟨k+1,by simp [e],⟨by have:=HK.out;omega⟩,HM,HB2⟩
  ·have HM:=Aside0.mk (show sameLs l0 l1=true by
    have h1:=HK.out
    rw [HT.out,show gk=0 by omega]
    rfl)
   have c5:decide ((k:Int) < (l0.length:Int))=false:=decide_eq_false (by omega)
   go_wp2_with fail
   go_ret
   exact ⟨by rw [HM.out];rfl,HB.out⟩
theorem cf46 (args:Array Value) (w:World):Sem.run Tryd.prog (callFunc 46 args) w=.ok (.enter 46 args) w:=by go_simp
set_option maxHeartbeats 4000000 in
set_option maxRecDepth 100000 in
theorem lexer_Same.calls (A0:Option Addr) (c0:Nat) (l0:List S68) (A1:Option Addr) (c1:Nat) (l1:List S68) (r:Bool) (w:World) (hr0:Kd.C k68 w A0 l0.length l0) (hc0:l0.length≤c0) (hr1:Kd.C k68 w A1 l1.length l1) (hc1:l1.length≤c1) (h:lexer_Same.f l0 l1=some r) :
  Calls Tryd.prog 30 #[.slice A0 l0.length c0,.slice A1 l1.length c1] w fun e w'=>e=.returned (.bool r)∧Below w.heap.size w w':=by
 unfold lexer_Same.f at h
 by_cases hl:l0.length≤1000000
 case neg=>rw [if_neg hl] at h;cases h
 rw [if_pos hl] at h
 obtain rfl:=Option.some.inj h
 have HW:=Aside0.mk (equalFunc_walk A0 c0 l0 A1 c1 l1 w hr0 hc0 hr1 hc1 hl)
 clear h hr0 hc0 hr1 hc1 hl
 go_enter Tryd.func30,Tryd.ntmps30
 go_wp2_with fail
 refine HW.out.mono ?_
 rintro e w' ⟨rfl,hb⟩
 have HB:=Aside0.mk hb
 clear hb
 go_wp2_with fail
 go_ret
 exact ⟨rfl,HB.out⟩
end Go.Proofs.YtehdmplngmbnnaaDoor.P
