/-
  The statement BillRounds of this chapter holds for every input, as its tied card says; no conditions.
-/
import Derived.Laws.Strings
import Derived.Test.YtojkjhaobjidlaaDoorMb2
import Derived.Test.YtojkjhaobjidlaaDoorMb3
import Derived.Test.YtojkjhaobjidlaaDoorTie
import Derived.Test.YtojkjhaobjidlaaDoorCards
import Derived.WalkKit
import Derived.ProofKit
import Derived.OpenShut
import Derived.ShutString
import Derived.ChangeOld
import Derived.Below
import Derived.Carry
import Derived.SizedLaws
import Derived.Stop.Joined
import Derived.SevenTiedAt
import Derived.LaidMore
namespace Go.Proofs.YtojkjhaobjidlaaDoor.P
open Go.RowKit Go.Proofs.YtojkjhaobjidlaaDoorW.PrintWords Go.Proofs.YtojkjhaobjidlaaDoorW.PrintLast
set_option linter.unusedVariables false
set_option linter.unusedSimpArgs false
def nmc (c:Int):Bool:=decide (48≤c∧c≤57) || decide (c=95) || decide (97≤c∧c≤122)
def allFrom (p:Int→Bool) (s:ByteArray):Nat→Nat→Bool
 | 0,_=>true
 | d+1,i=>p (bt s i) && allFrom p s d (i+1)
def isNm (s:ByteArray):Bool:=decide (1≤s.size) && decide (s.size≤16) && decide (97≤bt s 0) && decide (bt s 0≤122) && allFrom nmc s s.size 0
theorem wrap_nat (i:Nat) (n:Nat) (h:i≤n) (hn:n≤140737488351232):wrap64 ((i:Int)+1)=((i+1:Nat):Int):=by
 unfold wrap64
 omega
theorem ident_l0 (s:ByteArray) (hs:s.size≤140737488351232):∀ (d k i:Nat),i+d=s.size→d < k→ident_IsName.l0 k s (s.size:Int) (i:Int)=some (allFrom nmc s d i):=by
 intro d
 induction d with
 | zero =>
  intro k i hi hk
  obtain ⟨k,rfl⟩:∃ m,k=m+1:=⟨k - 1,by omega⟩
  simp only [ident_IsName.l0]
  rw [if_neg (by omega)]
  rfl
 | succ d ih =>
  intro k i hi hk
  obtain ⟨k,rfl⟩:∃ m,k=m+1:=⟨k - 1,by omega⟩
  simp only [ident_IsName.l0]
  rw [if_pos (by omega),if_pos (by omega),if_pos (by omega),wrap_nat i s.size (by omega) hs,ih k (i+1) (by omega) (by omega)]
  simp only [allFrom]
  generalize bt s (i:Int)=c
  unfold ident_digit.f nmc
  by_cases h1:48≤c
  ·rw [if_pos h1,Option.bind_some]
   by_cases h2:c≤57
   ·simp [h1,h2]
   ·by_cases h3:c=95
    ·simp [h1,h2,h3]
    ·by_cases h4:c < 97
     ·simp [h1,h2,h3,h4];omega
     ·by_cases h5:c > 122
      ·simp [h1,h2,h3,h4,h5];omega
      ·simp [h1,h2,h3,h4,h5];omega
  ·rw [if_neg h1,Option.bind_some]
   have h3:¬ c=95:=by omega
   have h4:c < 97:=by omega
   simp [h1,h3,h4]
   omega
theorem size_nil (s:ByteArray):s.toList=[] ↔ s.size=0:=by
 rw [ByteArray.toList_eq,List.eq_nil_iff_length_eq_zero,Array.length_toList]
 rfl
theorem ident_name (s:ByteArray) (hs:s.size≤140737488351232) (k:Nat) (hk:s.size+1 < k):ident_IsName.f k s=some (isNm s):=by
 obtain ⟨k,rfl⟩:∃ m,k=m+1:=⟨k - 1,by omega⟩
 unfold ident_IsName.f isNm
 have hj:∀ b,ident_IsName.j0 (k+1) s b=if b=true then some false else some (allFrom nmc s s.size 0):=by
  intro b
  simp only [ident_IsName.j0]
  rw [show (0:Int)=((0:Nat):Int) from rfl,ident_l0 s hs s.size k 0 (by omega) (by omega)]
 simp only [hj,size_nil]
 by_cases h0:s.size=0
 ·rw [if_pos h0];simp [h0]
 ·rw [if_neg h0]
  by_cases h1:(s.size:Int) > 16
  ·rw [if_pos h1]
   have:¬ s.size≤16:=by omega
   simp [this]
  ·rw [if_neg h1,if_pos (by omega)]
   have e1:1≤s.size:=by omega
   have e2:s.size≤16:=by omega
   obtain ⟨m,hm⟩:∃ m,s.size=m+1:=⟨s.size - 1,by omega⟩
   rw [hm]
   simp only [allFrom]
   generalize allFrom nmc s m (0+1)=rest
   rw [show ((0:Nat):Int)=(0:Int) from rfl]
   generalize bt s 0=c
   have e3:1≤m+1:=by omega
   have e4:m+1≤16:=by omega
   unfold ident_digit.f nmc
   by_cases g1:48≤c<;>by_cases g2:c≤57<;>by_cases g3:c=95<;>by_cases g4:97≤c<;>by_cases g5:c≤122<;>first|(exfalso;omega)|simp [e3,e4,g1,g2,g3,g4,g5]
theorem ident_at (s:ByteArray) (k:Nat):ident_IsName.f (20+k) s=some (isNm s):=by
 by_cases h:s.size≤16
 ·exact ident_name s (by omega) (20+k) (by omega)
 ·obtain ⟨k,hk⟩:∃ m,20+k=m+1:=⟨19+k,by omega⟩
  rw [hk]
  unfold ident_IsName.f isNm
  simp only [size_nil]
  rw [if_neg (by omega),if_pos (by omega)]
  simp [ident_IsName.j0,h]
theorem ident_nm (s:ByteArray):ident_IsName.f 20 s=some (isNm s):=by
 by_cases h:s.size≤16
 ·exact ident_name s (by omega) 20 (by omega)
 ·unfold ident_IsName.f isNm
  simp only [size_nil]
  rw [if_neg (by omega),if_pos (by omega)]
  simp [ident_IsName.j0,h]
end Go.Proofs.YtojkjhaobjidlaaDoor.P
namespace Go.Proofs.YtojkjhaobjidlaaDoor.P
open Go.RowKit Go.Proofs.YtojkjhaobjidlaaDoorW.PrintWords Go.Proofs.YtojkjhaobjidlaaDoorW.PrintMore
set_option linter.unusedVariables false
set_option linter.unusedSimpArgs false
abbrev PR:=S53
theorem rdP_get {l:List PR} (i:Nat) (h:i < l.length):rd_T53 l (i:Int)=l[i]:=by
 unfold rd_T53
 rw [List.getD_eq_getElem?_getD,List.getElem?_eq_getElem (by simpa using h)]
 simp
theorem rdP_drop {l:List PR} (i:Nat) (h:i < l.length):l.drop i=rd_T53 l (i:Int) :: l.drop (i+1):=by
 rw [List.drop_eq_getElem_cons h,rdP_get i h]
theorem rd_get_ {l:List Int} (i:Nat) (h:i < l.length):rd l (i:Int)=l[i]:=by
 unfold rd
 simp [h]
theorem rd_drop_ {l:List Int} (i:Nat) (h:i < l.length):l.drop i=rd l (i:Int) :: l.drop (i+1):=by
 rw [List.drop_eq_getElem_cons h,rd_get_ i h]
def fnd (n:ByteArray):List PR→Nat→Int × Bool
 | [],_=>(0,false)
 | p :: l,i=>if p.f0.toList=n.toList then ((i:Int),true) else fnd n l (i+1)
theorem find_l0 (n:ByteArray) (l:List PR) (hl:l.length≤1000000):∀ (d k i:Nat),i+d=l.length→d < k→product_Find.l0 k n l (l.length:Int) (i:Int)=some (fnd n (l.drop i) i):=by
 intro d
 induction d with
 | zero =>
  intro k i hi hk
  obtain ⟨k,rfl⟩:∃ m,k=m+1:=⟨k - 1,by omega⟩
  simp only [product_Find.l0]
  rw [if_neg (by omega),List.drop_of_length_le (by omega)]
  rfl
 | succ d ih =>
  intro k i hi hk
  obtain ⟨k,rfl⟩:∃ m,k=m+1:=⟨k - 1,by omega⟩
  have h2:i < l.length:=by omega
  simp only [product_Find.l0]
  rw [if_pos (by omega),if_pos (by omega),if_pos (by omega),wrap_nat i 1000000 (by omega) (by omega),ih k (i+1) (by omega) (by omega),rdP_drop i h2]
  rw [fnd]
  by_cases h:(rd_T53 l (i:Int)).f0.toList=n.toList
  ·rw [if_pos h,if_pos h]
  ·rw [if_neg h,if_neg h]
theorem find_f (n:ByteArray) (l:List PR) (hl:l.length≤1000000) (k:Nat) (hk:l.length < k):product_Find.f k l n=some (fnd n l 0):=by
 unfold product_Find.f
 exact find_l0 n l hl l.length k 0 (by omega) hk
def greenB (t w a:Int):Int × Int:=if t < 1 ∨ w < 1 ∨ 600 < t ∨ 600 < w ∨ a < 0 ∨ 200 < a then (0,0) else ((t * (1000+a)+999) / 1000,(w * (1000+a)+999) / 1000)
theorem floor_f (t a:Int) (h1:1≤t) (h2:t≤600) (h3:0≤a) (h4:a≤200):units_Floor.f (wrap64 ((wrap64 ((wrap64 (t * (wrap64 (1000+a))))+1000)) - 1)) 1000=some ((t * (1000+a)+999) / 1000,true):=by
 have e1:wrap64 (1000+a)=1000+a:=by unfold wrap64;omega
 have hm0:0≤t * (1000+a):=Int.mul_nonneg (by omega) (by omega)
 have hm1:t * (1000+a)≤600 * 1200:=Int.mul_le_mul h2 (by omega) (by omega) (by omega)
 rw [e1]
 generalize t * (1000+a)=m at hm0 hm1 ⊢
 have e2:wrap64 m=m:=by unfold wrap64;omega
 have e3:wrap64 (m+1000)=m+1000:=by unfold wrap64;omega
 have e4:wrap64 (m+1000 - 1)=m+999:=by unfold wrap64;omega
 rw [e2,e3,e4]
 unfold units_Floor.f
 rw [if_pos (by omega),if_pos (by omega),if_pos (by omega)]
theorem green_f (n:ByteArray) (t w a x:Int) (L P:List Int) (k:Nat) (hk:0 < k):product_Green.f k n t w a x L P=some (greenB t w a):=by
 obtain ⟨k,rfl⟩:∃ m,k=m+1:=⟨k - 1,by omega⟩
 unfold product_Green.f greenB mn mx
 simp only [product_Green.j0,if_true,decide_eq_true_eq,gt_iff_lt]
 by_cases h1:t < 1 ∨ w < 1
 ·rw [if_pos (by split<;>omega),if_pos (by omega)]
 ·rw [if_neg (by split<;>omega)]
  by_cases h2:600 < t ∨ 600 < w
  ·rw [if_pos (by split<;>omega),if_pos (by omega)]
  ·rw [if_neg (by split<;>omega)]
   by_cases h3:a < 0
   ·rw [if_pos h3,if_pos (by omega)]
   ·rw [if_neg h3]
    by_cases h4:200 < a
    ·rw [if_pos h4,if_pos (by omega)]
    ·rw [if_neg h4,if_neg (by omega),floor_f t a (by omega) (by omega) (by omega) (by omega),floor_f w a (by omega) (by omega) (by omega) (by omega)]
     rfl
def sizedB (t w a x:Int):Bool:=!(decide (t < 5) || (decide (300 < t) || (decide (w < t) || (decide (600 < w) || (decide (a < 0) || (decide (200 < a) || (decide (x < 0) || (decide (1000 < x) || decide (600 < (greenB t w a).2)))))))))
theorem sized_f (n:ByteArray) (t w a x:Int) (L P:List Int) (k:Nat) (hk:1 < k):product_sized.f k n t w a x L P=some (sizedB t w a x):=by
 obtain ⟨k,rfl⟩:∃ m,k=m+1:=⟨k - 1,by omega⟩
 unfold product_sized.f sizedB
 simp only [product_sized.j0,green_f n t w a x L P k (by omega),Option.bind_some]
 by_cases h1:t < 5
 ·simp [h1]
 by_cases h2:300 < t
 ·simp [h1,h2]
 by_cases h3:w < t
 ·simp [h1,h2,h3]
 by_cases h4:600 < w
 ·simp [h1,h2,h3,h4]
 by_cases h5:a < 0
 ·simp [h1,h2,h3,h4,h5]
 by_cases h6:200 < a
 ·simp [h1,h2,h3,h4,h5,h6]
 by_cases h7:x < 0
 ·simp [h1,h2,h3,h4,h5,h6,h7]
 by_cases h8:1000 < x
 ·simp [h1,h2,h3,h4,h5,h6,h7,h8]
 simp [h1,h2,h3,h4,h5,h6,h7,h8]
 by_cases h9:(greenB t w a).2≤600
 ·simp [h9]<;>omega
 ·simp [h9]<;>omega
def leQ (n:Int):Option Int→Bool
 | none=>false
 | some p=>decide (n≤p)
def lensGo:Option Int→List Int→Int
 | _,[]=>0
 | q,n :: l=>if n < 100 ∨ 20000 < n then 9 else if leQ n q=true then 11 else lensGo (some n) l
def priceOk (n:Int):Bool:=!(decide (n < 0) || decide (1000000 < n))
def pricesE (P:List Int):Int:=if P.all priceOk=true then 0 else 9
def lensE (L P:List Int):Int:=if L.length=0 then 3 else if 8 < L.length then 4 else if L.length=P.length then (if lensGo none L=0 then pricesE P else lensGo none L) else 19
theorem prices_l1 (P:List Int) (hP:P.length≤1000):∀ (d k i:Nat),i+d=P.length→d < k→product_checkLengths.l1 k P (P.length:Int) (i:Int)=some (pricesE (P.drop i)):=by
 intro d
 induction d with
 | zero =>
  intro k i hi hk
  obtain ⟨k,rfl⟩:∃ m,k=m+1:=⟨k - 1,by omega⟩
  simp only [product_checkLengths.l1]
  rw [if_neg (by omega),List.drop_of_length_le (by omega)]
  rfl
 | succ d ih =>
  intro k i hi hk
  obtain ⟨k,rfl⟩:∃ m,k=m+1:=⟨k - 1,by omega⟩
  have h2:i < P.length:=by omega
  simp only [product_checkLengths.l1]
  rw [if_pos (by omega),if_pos (by omega),if_pos (by omega),wrap_nat i 1000000 (by omega) (by omega),ih k (i+1) (by omega) (by omega),rd_drop_ i h2]
  unfold pricesE
  rw [List.all_cons]
  generalize rd P (i:Int)=c
  generalize (P.drop (i+1)).all priceOk=b
  unfold priceOk
  by_cases g1:c < 0
  ·simp [g1]
  ·by_cases g2:c > 1000000
   ·simp [g1,g2]
   ·simp [g1,g2]
def prevOf (L:List Int) (i:Nat):Option Int:=if i=0 then none else some (rd L ((i:Int) - 1))
theorem lens_l0 (n:ByteArray) (t w a x:Int) (L P:List Int) (hL:L.length≤1000) (hP:P.length≤1000):∀ (d k i:Nat),i+d=L.length→2 * d+P.length+1 < k→product_checkLengths.l0 k L (L.length:Int) (i:Int) n t w a x L P=some (if lensGo (prevOf L i) (L.drop i)=0 then pricesE P else lensGo (prevOf L i) (L.drop i)):=by
 intro d
 induction d with
 | zero =>
  intro k i hi hk
  obtain ⟨k,rfl⟩:∃ m,k=m+1:=⟨k - 1,by omega⟩
  simp only [product_checkLengths.l0]
  rw [if_neg (by omega),List.drop_of_length_le (by omega)]
  have:=prices_l1 P hP P.length k 0 (by omega) (by omega)
  rw [show ((0:Nat):Int)=0 from rfl] at this
  rw [this]
  simp [lensGo]
 | succ d ih =>
  intro k i hi hk
  obtain ⟨k,rfl⟩:∃ m,k=m+2:=⟨k - 2,by omega⟩
  have h2:i < L.length:=by omega
  have e:wrap64 ((i:Int)+1)=((i+1:Nat):Int):=wrap_nat i 1000000 (by omega) (by omega)
  have hi2:=ih k (i+1) (by omega) (by omega)
  have hp:prevOf L (i+1)=some (rd L (i:Int)):=by
   unfold prevOf
   rw [if_neg (by omega),show ((i+1:Nat):Int) - 1=(i:Int) by omega]
  rw [hp] at hi2
  simp only [product_checkLengths.l0,product_checkLengths.j1]
  rw [if_pos (by omega),if_pos (by omega),if_pos (by omega),e,hi2,rd_drop_ i h2]
  rw [lensGo]
  obtain ⟨q,hq⟩:∃ q,q=rd L ((i:Int) - 1):=⟨_,rfl⟩
  have hpv:prevOf L i=if i=0 then none else some q:=by rw [hq];rfl
  rw [hpv]
  generalize hc:rd L (i:Int)=c
  by_cases g1:c < 100
  ·simp [g1]
  by_cases g2:20000 < c
  ·simp [g1,g2]
  simp only [g1,g2,or_self,if_false,decide_false,Bool.false_eq_true,if_neg,gt_iff_lt]
  by_cases hz:i=0
  ·subst hz
   simp [leQ]
  ·have hw:wrap64 ((i:Int) - 1)=(i:Int) - 1:=by unfold wrap64;omega
   rw [if_pos (by omega),hw,if_pos (by omega),if_pos (by omega),if_neg hz,← hq]
   by_cases g3:c≤q
   ·simp [leQ,g3]
   ·simp [leQ,g3]
theorem lens_f (n:ByteArray) (t w a x:Int) (L P:List Int) (k:Nat) (hk:26 < k):product_checkLengths.f k n t w a x L P=some (lensE L P):=by
 unfold product_checkLengths.f lensE
 by_cases h1:L.length=0
 ·rw [if_pos (by omega),if_pos h1]
 rw [if_neg (by omega),if_neg h1]
 by_cases h2:8 < L.length
 ·rw [if_pos (by omega),if_pos h2]
 rw [if_neg (by omega),if_neg h2]
 by_cases h3:L.length=P.length
 ·rw [if_pos (by omega),if_pos h3]
  have:=lens_l0 n t w a x L P (by omega) (by omega) L.length k 0 (by omega) (by omega)
  rw [show ((0:Nat):Int)=0 from rfl] at this
  rw [this]
  rfl
 ·rw [if_neg (by omega),if_neg h3]
def prodE (before:List PR) (p:PR):Int:=if isNm p.f0=true then (if (fnd p.f0 before 0).2=true then 7 else if sizedB p.f1 p.f2 p.f3 p.f4=true then lensE p.f5 p.f6 else 9) else 6
def chkGo (l:List PR):Nat→Nat→Int
 | 0,_=>0
 | d+1,i=>if prodE (l.take i) (rd_T53 l (i:Int))=0 then chkGo l d (i+1) else prodE (l.take i) (rd_T53 l (i:Int))
def chkB (l:List PR):Int:=if 16 < l.length then 4 else chkGo l l.length 0
theorem chk_l0 (l:List PR) (hl:l.length≤16):∀ (d k i:Nat),i+d=l.length→d+40 < k→product_Check.l0 k l l (l.length:Int) (i:Int)=some (chkGo l d i):=by
 intro d
 induction d with
 | zero =>
  intro k i hi hk
  obtain ⟨k,rfl⟩:∃ m,k=m+1:=⟨k - 1,by omega⟩
  simp only [product_Check.l0]
  rw [if_neg (by omega)]
  rfl
 | succ d ih =>
  intro k i hi hk
  obtain ⟨k,rfl⟩:∃ m,k=m+1:=⟨k - 1,by omega⟩
  obtain ⟨q,rfl⟩:∃ q,k=20+q:=⟨k - 20,by omega⟩
  have h2:i < l.length:=by omega
  have e:wrap64 ((i:Int)+1)=((i+1:Nat):Int):=wrap_nat i 1000000 (by omega) (by omega)
  simp only [product_Check.l0]
  rw [if_pos (by omega),if_pos (by omega),if_pos (by omega),e,ih (20+q) (i+1) (by omega) (by omega),ident_at,Option.bind_some]
  rw [show ((i:Int)).toNat=i from rfl,find_f _ (l.take i) (by rw [List.length_take];omega) (20+q) (by rw [List.length_take];omega),sized_f _ _ _ _ _ _ _ (20+q) (by omega),lens_f _ _ _ _ _ _ _ (20+q) (by omega)]
  have hle:(i:Int)≤(l.length:Int):=by omega
  simp only [Option.bind_some,if_pos hle]
  rw [chkGo]
  unfold prodE
  generalize rd_T53 l (i:Int)=p
  cases isNm p.f0
  ·simp
  ·simp only [if_true]
   generalize (fnd p.f0 (l.take i) 0).2=b
   cases b
   ·simp only [Bool.false_eq_true,if_false]
    generalize sizedB p.f1 p.f2 p.f3 p.f4=b2
    cases b2
    ·simp
    ·simp only [if_true]
     by_cases h:lensE p.f5 p.f6=0
     ·rw [if_pos h,if_pos h]
     ·rw [if_neg h,if_neg h]
   ·simp
theorem chk_f (l:List PR) (k:Nat) (hk:60 < k):product_Check.f k l=some (chkB l):=by
 unfold product_Check.f chkB
 by_cases h:16 < l.length
 ·rw [if_pos (by omega),if_pos h]
 ·rw [if_neg (by omega),if_neg h]
  exact chk_l0 l (by omega) l.length k 0 (by omega) (by omega)
structure ProdOk (p:PR):Prop where
 nm:isNm p.f0=true
 sz:sizedB p.f1 p.f2 p.f3 p.f4=true
 ln:lensE p.f5 p.f6=0
theorem chkGo_ok (l:List PR):∀ (d i:Nat),i+d=l.length→chkGo l d i=0→∀ j,i≤j→(h:j < l.length)→ProdOk l[j]:=by
 intro d
 induction d with
 | zero=>intro i hi h0 j hij hj;omega
 | succ d ih =>
  intro i hi h0 j hij hj
  rw [chkGo] at h0
  by_cases hp:prodE (l.take i) (rd_T53 l (i:Int))=0
  ·rw [if_pos hp] at h0
   by_cases he:i=j
   ·subst he
    rw [rdP_get i hj] at hp
    unfold prodE at hp
    by_cases g1:isNm l[i].f0=true
    ·rw [if_pos g1] at hp
     by_cases g2:(fnd l[i].f0 (l.take i) 0).2=true
     ·rw [if_pos g2] at hp;omega
     ·rw [if_neg g2] at hp
      by_cases g3:sizedB l[i].f1 l[i].f2 l[i].f3 l[i].f4=true
      ·rw [if_pos g3] at hp
       exact ⟨g1,g3,hp⟩
      ·rw [if_neg g3] at hp;omega
    ·rw [if_neg g1] at hp;omega
   ·exact ih (i+1) (by omega) h0 j (by omega) hj
  ·rw [if_neg hp] at h0;exact absurd h0 hp
theorem chk_ok (l:List PR) (h:chkB l=0):l.length≤16∧∀ p ∈ l,ProdOk p:=by
 unfold chkB at h
 by_cases g:16 < l.length
 ·rw [if_pos g] at h;omega
 ·rw [if_neg g] at h
  refine ⟨by omega,fun p hp=>?_⟩
  obtain ⟨j,hj,rfl⟩:=List.getElem_of_mem hp
  exact chkGo_ok l l.length 0 (by omega) h j (by omega) hj
theorem lensGo_ok:∀ (L:List Int) (q:Option Int),lensGo q L=0→∀ n ∈ L,100≤n∧n≤20000:=by
 intro L
 induction L with
 | nil=>intro q h n hn;cases hn
 | cons x L ih =>
  intro q h n hn
  rw [lensGo] at h
  by_cases g:x < 100 ∨ 20000 < x
  ·rw [if_pos g] at h;omega
  ·rw [if_neg g] at h
   have hx:100≤x∧x≤20000:=by omega
   clear g
   rcases List.mem_cons.mp hn with rfl|hn
   ·exact hx
   ·split at h
    ·omega
    ·exact ih _ h n hn
theorem lensE_ok (L P:List Int) (h:lensE L P=0):0 < L.length∧L.length≤8∧L.length=P.length∧(∀ n ∈ L,100≤n∧n≤20000)∧P.all priceOk=true:=by
 unfold lensE at h
 by_cases h1:L.length=0
 ·rw [if_pos h1] at h;omega
 rw [if_neg h1] at h
 by_cases h2:8 < L.length
 ·rw [if_pos h2] at h;omega
 rw [if_neg h2] at h
 by_cases h3:L.length=P.length
 ·rw [if_pos h3] at h
  by_cases h4:lensGo none L=0
  ·rw [if_pos h4] at h
   unfold pricesE at h
   by_cases h5:P.all priceOk=true
   ·exact ⟨by omega,by omega,h3,lensGo_ok L none h4,h5⟩
   ·rw [if_neg h5] at h;omega
  ·rw [if_neg h4] at h;exact absurd h h4
 ·rw [if_neg h3] at h;omega
end Go.Proofs.YtojkjhaobjidlaaDoor.P
namespace Go.Proofs.YtojkjhaobjidlaaDoor.P
open Go.RowKit Go.Proofs.YtojkjhaobjidlaaDoorW.PrintWords Go.Proofs.YtojkjhaobjidlaaDoorW.PrintMore
set_option linter.unusedVariables false
set_option linter.unusedSimpArgs false
abbrev IT:=S35
abbrev TI:=S56
def prcGo (P:List Int) (n:Int):List Int→Nat→Int × Bool
 | [],_=>(0,false)
 | x :: l,i=>if x=n then (if P.length≤i then (0,false) else (rd P (i:Int),true)) else prcGo P n l (i+1)
theorem price_l0 (nm:ByteArray) (t w a x n:Int) (L P:List Int) (hL:L.length≤1000):∀ (d k i:Nat),i+d=L.length→d < k→product_Price.l0 k n L (L.length:Int) (i:Int) nm t w a x L P=some (prcGo P n (L.drop i) i):=by
 intro d
 induction d with
 | zero =>
  intro k i hi hk
  obtain ⟨k,rfl⟩:∃ m,k=m+1:=⟨k - 1,by omega⟩
  simp only [product_Price.l0]
  rw [if_neg (by omega),List.drop_of_length_le (by omega)]
  rfl
 | succ d ih =>
  intro k i hi hk
  obtain ⟨k,rfl⟩:∃ m,k=m+1:=⟨k - 1,by omega⟩
  have h2:i < L.length:=by omega
  simp only [product_Price.l0]
  rw [if_pos (by omega),if_pos (by omega),if_pos (by omega),wrap_nat i 1000000 (by omega) (by omega),ih k (i+1) (by omega) (by omega),rd_drop_ i h2,prcGo]
  by_cases h:rd L (i:Int)=n
  ·rw [if_pos h,if_pos h]
   by_cases g:P.length≤i
   ·rw [if_pos (by omega),if_pos g]
   ·rw [if_neg (by omega),if_neg g,if_pos (by omega)]
  ·rw [if_neg h,if_neg h]
theorem price_f (nm:ByteArray) (t w a x n:Int) (L P:List Int) (hL:L.length≤1000) (k:Nat) (hk:L.length < k):product_Price.f k nm t w a x L P n=some (prcGo P n L 0):=by
 unfold product_Price.f
 exact price_l0 nm t w a x n L P hL L.length k 0 (by omega) hk
theorem prcGo_mem (P:List Int) (n:Int):∀ (L:List Int) (i:Nat),(prcGo P n L i).2=true→n ∈ L:=by
 intro L
 induction L with
 | nil=>intro i h;simp [prcGo] at h
 | cons x L ih =>
  intro i h
  rw [prcGo] at h
  by_cases g:x=n
  ·subst g;exact List.mem_cons_self
  ·rw [if_neg g] at h
   exact List.mem_cons_of_mem _ (ih _ h)
theorem sized_nums {t w a x:Int} (h:sizedB t w a x=true):5≤t∧t≤300∧t≤w∧w≤600∧0≤a∧a≤200:=by
 unfold sizedB at h
 simp only [Bool.not_eq_true',Bool.or_eq_false_iff,decide_eq_false_iff_not] at h
 omega
theorem vol_le {t w n c:Int} (h1:5≤t) (h2:t≤300) (h3:t≤w) (h4:w≤600) (h5:100≤n) (h6:n≤20000) (h7:0≤c) (h8:c≤200):0≤t * w∧t * w≤180000∧0≤t * w * n∧t * w * n≤3600000000∧0≤t * w * n * c∧t * w * n * c≤720000000000:=by
 have a0:0≤t * w:=Int.mul_nonneg (by omega) (by omega)
 have a1:t * w≤300 * 600:=Int.mul_le_mul h2 h4 (by omega) (by omega)
 have b0:0≤t * w * n:=Int.mul_nonneg a0 (by omega)
 have b1:t * w * n≤180000 * 20000:=Int.mul_le_mul (by omega) h6 (by omega) (by omega)
 have c0:0≤t * w * n * c:=Int.mul_nonneg b0 h7
 have c1:t * w * n * c≤3600000000 * 200:=Int.mul_le_mul (by omega) h8 h7 (by omega)
 omega
def amountB (c:List PR) (x:IT):Int × Int :=
 if chkB c=0 then (if x.f0 < 0 ∨ (c.length:Int)≤x.f0 then (0,8) else
  if (prcGo (rd_T53 c x.f0).f6 x.f1 (rd_T53 c x.f0).f5 0).2=true then (if x.f2 < 0 ∨ 200 < x.f2 ∨ x.f3 < 0 ∨ 1000000000 < x.f3 then (0,9) else
   ((x.f3 * ((rd_T53 c x.f0).f1 * (rd_T53 c x.f0).f2 * x.f1 * x.f2)+500000000) / 1000000000,0)) else (0,20)) else (0,chkB c)
theorem rdP_mem {c:List PR} {i:Int} (h0:0≤i) (h1:i < (c.length:Int)):rd_T53 c i ∈ c:=by
 obtain ⟨n,rfl⟩:=Int.eq_ofNat_of_zero_le h0
 rw [rdP_get n (by omega)]
 exact List.getElem_mem _
theorem amount_f (c:List PR) (x:IT) (k:Nat) (hk:70 < k):bill_Amount.f k c x.f0 x.f1 x.f2 x.f3=some (amountB c x):=by
 obtain ⟨k,rfl⟩:∃ m,k=m+2:=⟨k - 2,by omega⟩
 unfold bill_Amount.f amountB
 rw [chk_f c _ (by omega),Option.bind_some]
 by_cases h0:chkB c=0
 case neg=>rw [if_neg h0,if_neg h0]
 rw [if_pos h0,if_pos h0]
 simp only [bill_Amount.j0,if_true,decide_eq_true_eq,ge_iff_le]
 by_cases h1:x.f0 < 0
 ·rw [if_pos h1,if_pos (by omega)]
 rw [if_neg h1]
 by_cases h2:(c.length:Int)≤x.f0
 ·rw [if_pos h2,if_pos (by omega)]
 rw [if_neg h2,if_neg (show ¬ (x.f0 < 0 ∨ (c.length:Int)≤x.f0) by omega),if_pos (by omega),if_pos (by omega)]
 have hp:=(chk_ok c h0).2 _ (rdP_mem (c:=c) (i:=x.f0) (by omega) (by omega))
 generalize rd_T53 c x.f0=p at hp ⊢
 obtain ⟨l1,l2,l3,l4,l5⟩:=lensE_ok p.f5 p.f6 hp.ln
 rw [price_f _ _ _ _ _ _ _ _ (by omega) _ (by omega),Option.bind_some]
 by_cases h3:(prcGo p.f6 x.f1 p.f5 0).2=true
 case neg=>rw [if_neg h3,if_neg h3]
 rw [if_pos h3,if_pos h3]
 have hx:=l4 _ (prcGo_mem _ _ _ _ h3)
 simp only [bill_Amount.j1,if_true,decide_eq_true_eq,gt_iff_lt]
 by_cases h4:x.f2 < 0
 ·rw [if_pos h4,if_pos (by omega)]
 rw [if_neg h4]
 by_cases h5:200 < x.f2
 ·rw [if_pos h5,if_pos (by omega)]
 rw [if_neg h5]
 by_cases h6:x.f3 < 0
 ·rw [if_pos h6,if_pos (by omega)]
 rw [if_neg h6]
 by_cases h7:1000000000 < x.f3
 ·rw [if_pos h7,if_pos (by omega)]
 rw [if_neg h7,if_neg (by omega)]
 obtain ⟨s1,s2,s3,s4,s5,s6⟩:=sized_nums hp.sz
 obtain ⟨v1,v2,v3,v4,v5,v6⟩:=vol_le s1 s2 s3 s4 hx.1 hx.2 (show 0≤x.f2 by omega) (show x.f2≤200 by omega)
 unfold product_Volume.f mn mx
 rw [if_neg (by split<;>split<;>omega),if_neg (by split<;>omega),if_neg (by omega),Option.bind_some]
 have e1:wrap64 (p.f1 * p.f2)=p.f1 * p.f2:=by generalize p.f1 * p.f2=m at v1 v2 ⊢;unfold wrap64;omega
 have e2:wrap64 (p.f1 * p.f2 * x.f1)=p.f1 * p.f2 * x.f1:=by generalize p.f1 * p.f2 * x.f1=m at v3 v4 ⊢;unfold wrap64;omega
 rw [e1,e2]
 generalize p.f1 * p.f2 * x.f1 * x.f2=m at v5 v6 ⊢
 have e3:wrap64 m=m:=by unfold wrap64;omega
 have e4:IntKind.u64.wrap m=m:=by rw [IntKind.wrap_u64];omega
 have e5:IntKind.u64.wrap x.f3=x.f3:=by rw [IntKind.wrap_u64];omega
 rw [e3,e4,e5]
 unfold bill_nearest.f
 rw [if_pos (by omega),if_pos (by omega),if_pos (by omega),if_pos (by omega),if_pos rfl]
 rfl
theorem amount_ok (c:List PR) (x:IT) (h:(amountB c x).2=0):chkB c=0∧0≤x.f0∧x.f0 < (c.length:Int)∧100≤x.f1∧x.f1≤20000∧0≤x.f2∧x.f2≤200∧0≤x.f3∧x.f3≤1000000000∧x.f1 ∈ (rd_T53 c x.f0).f5∧ProdOk (rd_T53 c x.f0) ∧
  (amountB c x).1=(x.f3 * ((rd_T53 c x.f0).f1 * (rd_T53 c x.f0).f2 * x.f1 * x.f2)+500000000) / 1000000000∧0≤(amountB c x).1∧(amountB c x).1≤720000000001:=by
 unfold amountB at h ⊢
 by_cases h0:chkB c=0
 case neg=>rw [if_neg h0] at h;exact absurd h h0
 rw [if_pos h0] at h ⊢
 by_cases h1:x.f0 < 0 ∨ (c.length:Int)≤x.f0
 ·rw [if_pos h1] at h;exact absurd h (by decide)
 rw [if_neg h1] at h ⊢
 have hp:=(chk_ok c h0).2 _ (rdP_mem (c:=c) (i:=x.f0) (by omega) (by omega))
 obtain ⟨l1,l2,l3,l4,l5⟩:=lensE_ok _ _ hp.ln
 by_cases h3:(prcGo (rd_T53 c x.f0).f6 x.f1 (rd_T53 c x.f0).f5 0).2=true
 case neg=>rw [if_neg h3] at h;exact absurd h (by decide)
 rw [if_pos h3] at h ⊢
 have hm:=prcGo_mem _ _ _ _ h3
 have hx:=l4 _ hm
 by_cases h4:x.f2 < 0 ∨ 200 < x.f2 ∨ x.f3 < 0 ∨ 1000000000 < x.f3
 ·rw [if_pos h4] at h;exact absurd h (by decide)
 rw [if_neg h4]
 obtain ⟨s1,s2,s3,s4,s5,s6⟩:=sized_nums hp.sz
 obtain ⟨v1,v2,v3,v4,v5,v6⟩:=vol_le s1 s2 s3 s4 hx.1 hx.2 (show 0≤x.f2 by omega) (show x.f2≤200 by omega)
 refine ⟨h0,by omega,by omega,hx.1,hx.2,by omega,by omega,by omega,by omega,hm,hp,rfl,?_⟩
 generalize (rd_T53 c x.f0).f1 * (rd_T53 c x.f0).f2 * x.f1 * x.f2=m at v5 v6 ⊢
 have a0:0≤x.f3 * m:=Int.mul_nonneg (by omega) (by omega)
 have a1:x.f3 * m≤1000000000 * 720000000000:=Int.mul_le_mul (by omega) v6 v5 (by omega)
 generalize x.f3 * m=q at a0 a1 ⊢
 show 0≤(q+500000000) / 1000000000∧(q+500000000) / 1000000000≤720000000001
 omega
theorem amount_err (c:List PR) (x:IT) (h:(amountB c x).2 ≠ 0):(amountB c x).1=0:=by
 unfold amountB at h ⊢
 split
 ·rename_i h0
  rw [if_pos h0] at h
  split
  ·rfl
  ·rename_i h1
   rw [if_neg h1] at h
   split
   ·rename_i h2
    rw [if_pos h2] at h
    split
    ·rfl
    ·rename_i h3
     rw [if_neg h3] at h
     exact absurd rfl h
   ·rfl
 ·rfl
def discGo (total:Int):Int→Int→List TI→Int × Int
 | _,off,[]=>if total < 0 then (0,9) else if 1000000000000000 < total then (0,9) else (total * off / 1000,0)
 | b,off,t :: l=>if t.f0≤b then (0,11) else if 1000000000000000 < t.f0 ∨ t.f1 < 0 ∨ 1000 < t.f1 then (0,9) else discGo total t.f0 (if t.f0≤total then t.f1 else off) l
def discB (l:List TI) (total:Int):Int × Int:=if 8 < l.length then (0,4) else discGo total (-1) 0 l
theorem rdT_drop {l:List TI} (i:Nat) (h:i < l.length):l.drop i=rd_T56 l (i:Int) :: l.drop (i+1):=by
 rw [List.drop_eq_getElem_cons h]
 unfold rd_T56
 rw [List.getD_eq_getElem?_getD,List.getElem?_eq_getElem (by simpa using h)]
 simp
theorem rdI_get {l:List IT} (i:Nat) (h:i < l.length):rd_T35 l (i:Int)=l[i]:=by
 unfold rd_T35
 rw [List.getD_eq_getElem?_getD,List.getElem?_eq_getElem (by simpa using h)]
 simp
theorem rdI_drop {l:List IT} (i:Nat) (h:i < l.length):l.drop i=rd_T35 l (i:Int) :: l.drop (i+1):=by
 rw [List.drop_eq_getElem_cons h,rdI_get i h]
theorem disc_l0 (total:Int) (l:List TI) (hl:l.length≤1000):∀ (d k i:Nat) (b off:Int),i+d=l.length→2 * d < k→0≤off→off≤1000→bill_Discount.l0 k total b off l (l.length:Int) (i:Int)=some (discGo total b off (l.drop i)):=by
 intro d
 induction d with
 | zero =>
  intro k i b off hi hk h0 h1
  obtain ⟨k,rfl⟩:∃ m,k=m+1:=⟨k - 1,by omega⟩
  simp only [bill_Discount.l0]
  rw [if_neg (by omega),List.drop_of_length_le (by omega),discGo]
  by_cases g1:total < 0
  ·rw [if_pos g1,if_pos g1]
  rw [if_neg g1,if_neg g1]
  by_cases g2:1000000000000000 < total
  ·rw [if_pos g2,if_pos g2]
  rw [if_neg g2,if_neg g2]
  have a0:0≤total * off:=Int.mul_nonneg (by omega) h0
  have a1:total * off≤1000000000000000 * 1000:=Int.mul_le_mul (by omega) h1 h0 (by omega)
  generalize total * off=m at a0 a1 ⊢
  have e1:wrap64 m=m:=by unfold wrap64;omega
  rw [e1,Int.tdiv_eq_ediv_of_nonneg a0]
  have e2:wrap64 (m / 1000)=m / 1000:=by unfold wrap64;omega
  rw [e2]
 | succ d ih =>
  intro k i b off hi hk h0 h1
  obtain ⟨k,rfl⟩:∃ m,k=m+2:=⟨k - 2,by omega⟩
  have h2:i < l.length:=by omega
  have e:wrap64 ((i:Int)+1)=((i+1:Nat):Int):=wrap_nat i 1000000 (by omega) (by omega)
  simp only [bill_Discount.l0,bill_Discount.j1,if_true,decide_eq_true_eq,gt_iff_lt]
  rw [if_pos (by omega),if_pos (by omega),if_pos (by omega),e,rdT_drop i h2,discGo]
  generalize rd_T56 l (i:Int)=t
  by_cases g1:t.f0≤b
  ·rw [if_pos g1,if_pos g1]
  rw [if_neg g1,if_neg g1]
  by_cases g2:1000000000000000 < t.f0
  ·rw [if_pos g2,if_pos (by omega)]
  rw [if_neg g2]
  by_cases g3:t.f1 < 0
  ·rw [if_pos g3,if_pos (by omega)]
  rw [if_neg g3]
  by_cases g4:1000 < t.f1
  ·rw [if_pos g4,if_pos (by omega)]
  rw [if_neg g4,if_neg (show ¬ (1000000000000000 < t.f0 ∨ t.f1 < 0 ∨ 1000 < t.f1) by omega)]
  by_cases g5:t.f0≤total
  ·rw [if_pos g5,if_pos g5,ih k (i+1) _ _ (by omega) (by omega) (by omega) (by omega)]
  ·rw [if_neg g5,if_neg g5,ih k (i+1) _ _ (by omega) (by omega) (by omega) (by omega)]
theorem disc_f (l:List TI) (total:Int) (k:Nat) (hk:20 < k):bill_Discount.f k l total=some (discB l total):=by
 unfold bill_Discount.f discB
 by_cases h:8 < l.length
 ·rw [if_pos (by omega),if_pos h]
 ·rw [if_neg (by omega),if_neg h]
  exact disc_l0 total l (by omega) l.length k 0 (-1) 0 (by omega) (by omega) (by omega) (by omega)
theorem discGo_ok (total:Int):∀ (l:List TI) (b off:Int),0≤off→off≤1000→(discGo total b off l).2=0→0≤total∧total≤1000000000000000∧∃ o,0≤o∧o≤1000∧(discGo total b off l).1=total * o / 1000:=by
 intro l
 induction l with
 | nil =>
  intro b off h0 h1 h
  rw [discGo] at h ⊢
  by_cases g1:total < 0
  ·rw [if_pos g1] at h;exact absurd h (by decide)
  rw [if_neg g1] at h ⊢
  by_cases g2:1000000000000000 < total
  ·rw [if_pos g2] at h;exact absurd h (by decide)
  rw [if_neg g2]
  exact ⟨by omega,by omega,off,h0,h1,rfl⟩
 | cons t l ih =>
  intro b off h0 h1 h
  rw [discGo] at h ⊢
  by_cases g1:t.f0≤b
  ·rw [if_pos g1] at h;exact absurd h (by decide)
  rw [if_neg g1] at h ⊢
  by_cases g2:1000000000000000 < t.f0 ∨ t.f1 < 0 ∨ 1000 < t.f1
  ·rw [if_pos g2] at h;exact absurd h (by decide)
  rw [if_neg g2] at h ⊢
  exact ih _ _ (by split<;>omega) (by split<;>omega) h
theorem disc_ok (l:List TI) (total:Int) (h:(discB l total).2=0):l.length≤8∧0≤total∧total≤1000000000000000∧0≤(discB l total).1∧(discB l total).1≤total:=by
 unfold discB at h ⊢
 by_cases g:8 < l.length
 ·rw [if_pos g] at h;exact absurd h (by decide)
 rw [if_neg g] at h ⊢
 obtain ⟨h1,h2,o,h3,h4,h5⟩:=discGo_ok total l (-1) 0 (by omega) (by omega) h
 rw [h5]
 have a0:0≤total * o:=Int.mul_nonneg h1 h3
 have a1:total * o≤total * 1000:=Int.mul_le_mul_of_nonneg_left h4 h1
 generalize total * o=m at a0 a1 ⊢
 omega
def invGo (c:List PR) (t:List TI):List Int→Int→List IT→List Int × Int × Int × Int
 | acc,n,[]=>if (discB t n).2=0 then (acc,(discB t n).1,n - (discB t n).1,0) else ([],0,0,(discB t n).2)
 | acc,n,x :: l=>if (amountB c x).2=0 then invGo c t (acc++[(amountB c x).1]) (n+(amountB c x).1) l else ([],0,0,(amountB c x).2)
def invB (c:List PR) (l:List IT) (t:List TI):List Int × Int × Int × Int:=if 32 < l.length then ([],0,0,4) else invGo c t [] 0 l
theorem inv_l0 (c:List PR) (t:List TI) (l:List IT) (hl:l.length≤1000):∀ (d k i:Nat) (acc:List Int) (n:Int),i+d=l.length→d+80 < k→acc.length=i→0≤n→n≤800000000000 * (i:Int)→bill_invoice.l0 k c t acc n l (l.length:Int) (i:Int)=some (invGo c t acc n (l.drop i)):=by
 intro d
 induction d with
 | zero =>
  intro k i acc n hi hk ha h0 h1
  obtain ⟨k,rfl⟩:∃ m,k=m+1:=⟨k - 1,by omega⟩
  simp only [bill_invoice.l0]
  rw [if_neg (by omega),List.drop_of_length_le (by omega),disc_f t n k (by omega),Option.bind_some,invGo]
  by_cases h:(discB t n).2=0
  ·rw [if_pos h,if_pos h]
   obtain ⟨-,-,-,h2,h3⟩:=disc_ok t n h
   have e:wrap64 (n - (discB t n).1)=n - (discB t n).1:=by
    generalize (discB t n).1=m at h2 h3 ⊢
    unfold wrap64
    omega
   rw [e]
  ·rw [if_neg h,if_neg h]
 | succ d ih =>
  intro k i acc n hi hk ha h0 h1
  obtain ⟨k,rfl⟩:∃ m,k=m+1:=⟨k - 1,by omega⟩
  have h2:i < l.length:=by omega
  have e:wrap64 ((i:Int)+1)=((i+1:Nat):Int):=wrap_nat i 1000000 (by omega) (by omega)
  simp only [bill_invoice.l0]
  rw [if_pos (by omega),if_pos (by omega),if_pos (by omega),e,amount_f c _ k (by omega),Option.bind_some,rdI_drop i h2,invGo]
  generalize rd_T35 l (i:Int)=x
  by_cases h:(amountB c x).2=0
  ·have hb:=(amount_ok c x h).2.2.2.2.2.2.2.2.2.2.2.2
   have e2:wrap64 (n+(amountB c x).1)=n+(amountB c x).1:=by
    generalize (amountB c x).1=m at hb ⊢
    unfold wrap64
    omega
   rw [if_pos h,if_pos h,if_pos (by omega),e2,ih k (i+1) _ _ (by omega) (by omega) (by rw [List.length_append,ha];rfl) (by omega) (by omega)]
  ·rw [if_neg h,if_neg h]
theorem inv_f (c:List PR) (l:List IT) (t:List TI) (k:Nat) (hk:120 < k):bill_invoice.f k c l t=some (invB c l t):=by
 unfold bill_invoice.f invB
 by_cases h:32 < l.length
 ·rw [if_pos (by omega),if_pos h]
 ·rw [if_neg (by omega),if_neg h]
  exact inv_l0 c t l (by omega) l.length k 0 [] 0 (by omega) (by omega) rfl (by omega) (by omega)
theorem total_f (c:List PR) (l:List IT) (t:List TI) (k:Nat) (hk:120 < k):bill_Total.f k c l t=some ((invB c l t).2.2.1,(invB c l t).2.2.2):=by
 unfold bill_Total.f
 rw [inv_f c l t k hk]
 rfl
def sumB (c:List PR) (l:List IT):Int:=(l.map fun x=>(amountB c x).1).sum
theorem invGo_ok (c:List PR) (t:List TI):∀ (l:List IT) (acc:List Int) (n:Int),(invGo c t acc n l).2.2.2=0→(∀ x ∈ l,(amountB c x).2=0)∧(discB t (n+sumB c l)).2=0∧invGo c t acc n l=(acc++l.map (fun x=>(amountB c x).1),(discB t (n+sumB c l)).1,n+sumB c l - (discB t (n+sumB c l)).1,0):=by
 intro l
 induction l with
 | nil =>
  intro acc n h
  rw [invGo] at h ⊢
  have e:n+sumB c []=n:=by simp [sumB]
  rw [e]
  by_cases g:(discB t n).2=0
  ·rw [if_pos g]
   exact ⟨fun x hx=>(by cases hx),g,by simp⟩
  ·rw [if_neg g] at h;exact absurd h g
 | cons x l ih =>
  intro acc n h
  rw [invGo] at h ⊢
  by_cases g:(amountB c x).2=0
  ·rw [if_pos g] at h ⊢
   obtain ⟨h1,h2,h3⟩:=ih _ _ h
   have e:n+(amountB c x).1+sumB c l=n+sumB c (x :: l):=by
    simp only [sumB,List.map_cons,List.sum_cons]
    omega
   rw [e] at h2 h3
   refine ⟨fun y hy=>?_,h2,?_⟩
   ·rcases List.mem_cons.mp hy with rfl|hy
    ·exact g
    ·exact h1 y hy
   ·rw [h3];simp
  ·rw [if_neg g] at h;exact absurd h g
theorem inv_ok (c:List PR) (l:List IT) (t:List TI) (h:(invB c l t).2.2.2=0):l.length≤32∧(∀ x ∈ l,(amountB c x).2=0)∧(discB t (sumB c l)).2=0∧invB c l t=(l.map (fun x=>(amountB c x).1),(discB t (sumB c l)).1,sumB c l - (discB t (sumB c l)).1,0):=by
 unfold invB at h ⊢
 by_cases g:32 < l.length
 ·rw [if_pos g] at h;exact absurd h (by decide)
 rw [if_neg g] at h ⊢
 have:=invGo_ok c t l [] 0 h
 simp only [Int.zero_add,List.nil_append] at this
 exact ⟨by omega,this⟩
theorem invGo_err (c:List PR) (t:List TI):∀ (l:List IT) (acc:List Int) (n:Int),(invGo c t acc n l).2.2.2 ≠ 0→(invGo c t acc n l).2.2.1=0:=by
 intro l
 induction l with
 | nil =>
  intro acc n h
  rw [invGo] at h ⊢
  by_cases g:(discB t n).2=0
  ·rw [if_pos g] at h;exact absurd rfl h
  ·rw [if_neg g]
 | cons x l ih =>
  intro acc n h
  rw [invGo] at h ⊢
  by_cases g:(amountB c x).2=0
  ·rw [if_pos g] at h ⊢;exact ih _ _ h
  ·rw [if_neg g]
end Go.Proofs.YtojkjhaobjidlaaDoor.P
namespace Go.Proofs.YtojkjhaobjidlaaDoor.P
open Go.RowKit Go.Proofs.YtojkjhaobjidlaaDoorW.PrintWords Go.Proofs.YtojkjhaobjidlaaDoorW.PrintLast Go.Proofs.YtojkjhaobjidlaaDoorW.PrintMore
attribute [local go_sem] max2_int min2_int max_two min_two max_three min_three max_four min_four
attribute [local go_sem] cell_twice
set_option linter.unusedVariables false
set_option linter.unusedSimpArgs false
mutual
def sawmilllaw50_small.j0:Nat→Bool→List (S53)→List (S35)→List (S56)→Option (Bool)
 | 0,_,_,_,_=>none
 | k+1,x19,x102000,x102001,x102002=>if x19=true then (some false) else (sawmilllaw50_small.l0 k 0 x102000 x102001 x102002)
def sawmilllaw50_small.l0:Nat→Int→List (S53)→List (S35)→List (S56)→Option (Bool)
 | 0,_,_,_,_=>none
 | k+1,x3,x102000,x102001,x102002=>if x3 < (x102000.length:Int) then (if 0≤x3 then (if (((rd_T53 x102000 x3).f0).size:Int) > 100 then (some false) else (if (((rd_T53 x102000 x3).f5).length:Int) > 12 then (some false) else (if (((rd_T53 x102000 x3).f6).length:Int) > 12 then (some false) else (sawmilllaw50_small.l0 k (wrap64 (x3+1)) x102000 x102001 x102002)))) else (none)) else (some true)
end
def sawmilllaw50_small.f (k:Nat) (l0_0:List (S53)) (l0_1:List (S35)) (l0_2:List (S56)):Option (Bool):=if (l0_0.length:Int) > 20 then (sawmilllaw50_small.j0 k true l0_0 l0_1 l0_2) else (if (l0_1.length:Int) > 100 then (sawmilllaw50_small.j0 k true l0_0 l0_1 l0_2) else (sawmilllaw50_small.j0 k (decide ((l0_2.length:Int) > 30)) l0_0 l0_1 l0_2))
theorem sawmilllaw50_small.mono_l:∀ k,(∀ y0 y1 y2 y3,LeO (sawmilllaw50_small.j0 k y0 y1 y2 y3) (sawmilllaw50_small.j0 (k+1) y0 y1 y2 y3))∧(∀ y0 y1 y2 y3,LeO (sawmilllaw50_small.l0 k y0 y1 y2 y3) (sawmilllaw50_small.l0 (k+1) y0 y1 y2 y3))
 | 0=>⟨fun _ _ _ _ r h=>by simp [sawmilllaw50_small.j0] at h,fun _ _ _ _ r h=>by simp [sawmilllaw50_small.l0] at h⟩
 | k+1=>by
  obtain ⟨ih0,ih1⟩:=sawmilllaw50_small.mono_l k
  refine ⟨?_,?_⟩
  ·intro y0 y1 y2 y3
   unfold sawmilllaw50_small.j0
   repeat' first
   | (with_reducible exact ih0 _ _ _ _)
   | (with_reducible exact ih1 _ _ _ _)
   | (with_reducible exact LeO.refl _)
   | (with_reducible exact LeO.none _)
   | (with_reducible refine LeO.ite ?_ ?_)
   | (with_reducible refine LeO.bind ?_ (fun _=>?_))
   | exact ih0 _ _ _ _
   | exact ih1 _ _ _ _
   | exact LeO.none _
   | refine LeO.ite ?_ ?_
   | refine LeO.bind ?_ (fun _=>?_)
  ·intro y0 y1 y2 y3
   unfold sawmilllaw50_small.l0
   repeat' first
   | (with_reducible exact ih0 _ _ _ _)
   | (with_reducible exact ih1 _ _ _ _)
   | (with_reducible exact LeO.refl _)
   | (with_reducible exact LeO.none _)
   | (with_reducible refine LeO.ite ?_ ?_)
   | (with_reducible refine LeO.bind ?_ (fun _=>?_))
   | exact ih0 _ _ _ _
   | exact ih1 _ _ _ _
   | exact LeO.none _
   | refine LeO.ite ?_ ?_
   | refine LeO.bind ?_ (fun _=>?_)
theorem sawmilllaw50_small.mono:∀ a0 a1 a2 k,LeO (sawmilllaw50_small.f k a0 a1 a2) (sawmilllaw50_small.f (k+1) a0 a1 a2):=by
 intro a0 a1 a2 k
 obtain ⟨ih0,ih1⟩:=sawmilllaw50_small.mono_l k
 unfold sawmilllaw50_small.f
 repeat' first
   | (with_reducible exact ih0 _ _ _ _)
   | (with_reducible exact ih1 _ _ _ _)
   | (with_reducible exact LeO.refl _)
   | (with_reducible exact LeO.none _)
   | (with_reducible refine LeO.ite ?_ ?_)
   | (with_reducible refine LeO.bind ?_ (fun _=>?_))
   | exact ih0 _ _ _ _
   | exact ih1 _ _ _ _
   | exact LeO.none _
   | refine LeO.ite ?_ ?_
   | refine LeO.bind ?_ (fun _=>?_)
set_option maxHeartbeats 8000000 in
set_option maxRecDepth 100000 in
theorem sawmilllaw50_small.calls (k:Nat) (A0_0:Option Addr) (c0_0:Nat) (l0_0:List (S53)) (A0_1:Option Addr) (c0_1:Nat) (l0_1:List (S35)) (A0_2:Option Addr) (c0_2:Nat) (l0_2:List (S56)) (r:Bool) (w:World) (hr0_0:Kd.C k53 w A0_0 l0_0.length l0_0) (hc0_0:l0_0.length≤c0_0) (hr0_1:Kd.C k35 w A0_1 l0_1.length l0_1) (hc0_1:l0_1.length≤c0_1) (hr0_2:Kd.C k56 w A0_2 l0_2.length l0_2) (hc0_2:l0_2.length≤c0_2) (h:sawmilllaw50_small.f k l0_0 l0_1 l0_2=some r) :
  Calls Tryd.prog 10 #[.agg #[.slice A0_0 l0_0.length c0_0,.slice A0_1 l0_1.length c0_1,.slice A0_2 l0_2.length c0_2]] w fun e w'=>e=.returned (.bool r)∧Below w.heap.size w w':=by
 have hu26:=Tryd.underlying26
 have HR0_0:=Aside0.mk hr0_0
 have HC0_0:=Aside0.mk hc0_0
 clear hr0_0 hc0_0
 have HR0_1:=Aside0.mk hr0_1
 have HC0_1:=Aside0.mk hc0_1
 clear hr0_1 hc0_1
 have HR0_2:=Aside0.mk hr0_2
 have HC0_2:=Aside0.mk hc0_2
 clear hr0_2 hc0_2
 have HB:=Aside0.mk (Below.refl w.heap.size w)
 have H:(if (l0_0.length:Int) > 20 then (sawmilllaw50_small.j0 k true l0_0 l0_1 l0_2) else (if (l0_1.length:Int) > 100 then (sawmilllaw50_small.j0 k true l0_0 l0_1 l0_2) else (sawmilllaw50_small.j0 k (decide ((l0_2.length:Int) > 30)) l0_0 l0_1 l0_2)))=some r:=h
 clear h
 have HC2:=Aside0.mk H
 clear H
 go_enter Tryd.func10,Tryd.ntmps10
 go_upto_region 1 with (first|((with_reducible refine gate_dst (N:=1) rfl ?_);(try (refine gate_guard (by rfl) ?_;dsimp only));refine box_event ?hg (N:=1) ?hd (cs:=#[.slice A0_0 l0_0.length c0_0,.slice A0_1 l0_1.length c0_1,.slice A0_2 l0_2.length c0_2]) (t:=26) ?hr ?_;(case hd=>rfl);(case hg=>rfl);(case hr=>first|(go_simp;done)|(go_simp;rfl));intro gb101 hg w3 hbox hb;have n0_:=Aside0.mk (below_step (by repeat (first|(with_reducible first|exact HB.out|apply below_alloc|apply pw_below_drewN|apply below_drew1)|exact HB.out)) hb);have n1_:=Aside0.mk (hbox);have n2_:=Aside0.mk ((by rw [hg];exact (below_size (by repeat (first|(with_reducible first|exact HB.out|apply below_alloc|apply pw_below_drewN|apply below_drew1)|exact HB.out))):w.heap.size≤gb101));have n3_:=Aside0.mk ((by rw [hg];exact (below_size (by repeat (first|(with_reducible first|exact HB.out|apply below_alloc|apply pw_below_drewN|apply below_drew1)|exact HB.out))):w.heap.size≤gb101));clear HB;have HB:=n0_;have BK101:=n1_;have GW101:=n2_;have GE101:=n3_;clear n0_ n1_ n2_ n3_;clear hb hbox hg))
 (try simp only [Act.put,List.setIfInBounds_toArray,List.set_cons_zero,List.set_cons_succ])
 go_cut [19] (fun v19 wc=>∃ (kq:Nat) (x19_1:Bool),v19=.bool x19_1∧Aside0 (sawmilllaw50_small.j0 kq x19_1 l0_0 l0_1 l0_2=some r)∧Aside0 (kq≤k)∧Aside0 (wc.heap[gb101]?=some (.cells #[(.slice A0_0 l0_0.length c0_0),(.slice A0_1 l0_1.length c0_1),(.slice A0_2 l0_2.length c0_2)] 26 (0,0)))∧Aside0 (Below w.heap.size w wc))
 case first =>
  have H:=HC2.out
  clear HC2
  by_cases c4:(l0_0.length:Int) > 20
  ·rw [if_pos c4] at H
   have c4b0:decide (20 < (l0_0.length:Int))=true:=decide_eq_true c4
   have c4b1:decide (20 < l0_0.length)=true:=decide_eq_true (by omega)
   clear c4
   (first|rw [c4b0]|(simp only [i64_w,i32_w];rw [c4b0])|skip)
   have H':=Aside0.mk H
   clear H
   have hcz5_0:w3.cell? ⟨gb101,0,none⟩=some (.slice A0_0 l0_0.length c0_0):=(blk_cell BK101.out 0).trans rfl
   have hcz5_1:w3.cell? ⟨gb101,1,none⟩=some (.slice A0_1 l0_1.length c0_1):=(blk_cell BK101.out 1).trans rfl
   have hcz5_2:w3.cell? ⟨gb101,2,none⟩=some (.slice A0_2 l0_2.length c0_2):=(blk_cell BK101.out 2).trans rfl
   have hfz5_0:=blk_frozen BK101.out 0
   have hfz5_1:=blk_frozen BK101.out 1
   have hfz5_2:=blk_frozen BK101.out 2
   go_wp2
   go_meet
   case rel=>exact ⟨_,(true),(by first|rfl|(simp;done)|(simp [*];done)),H',⟨by first|omega|exact Nat.le_refl _⟩,⟨by (with_reducible repeat (first|refine blk_drewN ?_ _|refine blk_drew ?_|refine blk_alloc ?_ _));exact BK101.out⟩,⟨by repeat (first|(with_reducible first|exact HB.out|apply below_alloc|apply pw_below_drewN|apply below_drew1|refine below_set ?_ GE101.out)|exact HB.out)⟩⟩
  ·rw [if_neg c4] at H
   have c4b0:decide (20 < (l0_0.length:Int))=false:=decide_eq_false c4
   have c4b1:decide (20 < l0_0.length)=false:=decide_eq_false (by omega)
   clear c4
   (first|rw [c4b0]|(simp only [i64_w,i32_w];rw [c4b0])|skip)
   by_cases c6:(l0_1.length:Int) > 100
   ·rw [if_pos c6] at H
    have c6b0:decide (100 < (l0_1.length:Int))=true:=decide_eq_true c6
    have c6b1:decide (100 < l0_1.length)=true:=decide_eq_true (by omega)
    clear c6
    have H':=Aside0.mk H
    clear H
    have hcz7_0:w3.cell? ⟨gb101,0,none⟩=some (.slice A0_0 l0_0.length c0_0):=(blk_cell BK101.out 0).trans rfl
    have hcz7_1:w3.cell? ⟨gb101,1,none⟩=some (.slice A0_1 l0_1.length c0_1):=(blk_cell BK101.out 1).trans rfl
    have hcz7_2:w3.cell? ⟨gb101,2,none⟩=some (.slice A0_2 l0_2.length c0_2):=(blk_cell BK101.out 2).trans rfl
    have hfz7_0:=blk_frozen BK101.out 0
    have hfz7_1:=blk_frozen BK101.out 1
    have hfz7_2:=blk_frozen BK101.out 2
    go_wp2
    go_meet
    case rel=>exact ⟨_,(true),(by first|rfl|(simp;done)|(simp [*];done)),H',⟨by first|omega|exact Nat.le_refl _⟩,⟨by (with_reducible repeat (first|refine blk_drewN ?_ _|refine blk_drew ?_|refine blk_alloc ?_ _));exact BK101.out⟩,⟨by repeat (first|(with_reducible first|exact HB.out|apply below_alloc|apply pw_below_drewN|apply below_drew1|refine below_set ?_ GE101.out)|exact HB.out)⟩⟩
   ·rw [if_neg c6] at H
    have c6b0:decide (100 < (l0_1.length:Int))=false:=decide_eq_false c6
    have c6b1:decide (100 < l0_1.length)=false:=decide_eq_false (by omega)
    clear c6
    have H':=Aside0.mk H
    clear H
    have hcz8_0:w3.cell? ⟨gb101,0,none⟩=some (.slice A0_0 l0_0.length c0_0):=(blk_cell BK101.out 0).trans rfl
    have hcz8_1:w3.cell? ⟨gb101,1,none⟩=some (.slice A0_1 l0_1.length c0_1):=(blk_cell BK101.out 1).trans rfl
    have hcz8_2:w3.cell? ⟨gb101,2,none⟩=some (.slice A0_2 l0_2.length c0_2):=(blk_cell BK101.out 2).trans rfl
    have hfz8_0:=blk_frozen BK101.out 0
    have hfz8_1:=blk_frozen BK101.out 1
    have hfz8_2:=blk_frozen BK101.out 2
    go_wp2
    go_meet
    case rel=>exact ⟨_,(decide ((l0_2.length:Int) > 30)),(by first|rfl|(simp;done)|(simp [*];done)),H',⟨by first|omega|exact Nat.le_refl _⟩,⟨by (with_reducible repeat (first|refine blk_drewN ?_ _|refine blk_drew ?_|refine blk_alloc ?_ _));exact BK101.out⟩,⟨by repeat (first|(with_reducible first|exact HB.out|apply below_alloc|apply pw_below_drewN|apply below_drew1|refine below_set ?_ GE101.out)|exact HB.out)⟩⟩
 case rest =>
  clear HC2
  try clear c1
  try clear p2
  try clear c4
  try clear c4b0
  try clear c4b1
  try clear c6
  try clear c6b0
  try clear c6b1
  try clear hcz5_0
  try clear hcz5_1
  try clear hcz5_2
  try clear hcz7_0
  try clear hcz7_1
  try clear hcz7_2
  try clear hcz8_0
  try clear hcz8_1
  try clear hcz8_2
  try clear hfz5_0
  try clear hfz5_1
  try clear hfz5_2
  try clear hfz7_0
  try clear hfz7_1
  try clear hfz7_2
  try clear hfz8_0
  try clear hfz8_1
  try clear hfz8_2
  obtain ⟨kq,x19_1,rfl,HA,HJ1,BK101,HB⟩:=hcut
  cases kq with
  | zero=>exact absurd HA.out (by simp [sawmilllaw50_small.j0])
  | succ kj1 =>
   have H:=HA.out
   clear HA
   simp only [sawmilllaw50_small.j0] at H
   by_cases c9:x19_1=true
   ·subst c9
    have H1:(some false)=some r:=by rw [if_pos rfl] at H;exact H
    clear H
    have H:=H1
    clear H1
    obtain rfl:=Option.some.inj H
    go_wp2
    go_ret
    exact ⟨by first|rfl|(simp [errW_none,errW_some]<;>rfl)|(simp [*,errW_none,errW_some]<;>rfl),by repeat (first|(with_reducible first|exact HB.out|apply below_alloc|apply pw_below_drewN|apply below_drew1|refine below_set ?_ GE101.out)|exact HB.out)⟩
   ·replace c9:=Bool.eq_false_iff.mpr c9
    subst c9
    have H1:(sawmilllaw50_small.l0 kj1 0 l0_0 l0_1 l0_2)=some r:=by rw [if_neg (show ¬ (false=true) by decide)] at H;exact H
    clear H
    have H:=H1
    clear H1
    have H':=Aside0.mk H
    clear H
    go_wp2
    go_loopg [3] kj1 (fun kq v3 w'=>∃ (x3_2:Int),v3=.int .i64 x3_2∧Aside0 (sawmilllaw50_small.l0 kq x3_2 l0_0 l0_1 l0_2=some r)∧Aside0 (kq≤kj1)∧Aside0 (w'.heap[gb101]?=some (.cells #[(.slice A0_0 l0_0.length c0_0),(.slice A0_1 l0_1.length c0_1),(.slice A0_2 l0_2.length c0_2)] 26 (0,0)))∧Aside0 (Below w.heap.size w w'))
    case atStart=>exact ⟨(0),(by first|rfl|(simp;done)|(simp [*];done)),H',⟨Nat.le_refl _⟩,⟨by (with_reducible repeat (first|refine blk_drewN ?_ _|refine blk_drew ?_|refine blk_alloc ?_ _));exact BK101.out⟩,⟨by repeat (first|(with_reducible first|exact HB.out|apply below_alloc|apply pw_below_drewN|apply below_drew1|refine below_set ?_ GE101.out)|exact HB.out)⟩⟩
    case round =>
     clear H'
     try clear c1
     try clear p2
     try clear c4
     try clear c4b0
     try clear c4b1
     try clear c6
     try clear c6b0
     try clear c6b1
     try clear c9
     try clear hcz5_0
     try clear hcz5_1
     try clear hcz5_2
     try clear hcz7_0
     try clear hcz7_1
     try clear hcz7_2
     try clear hcz8_0
     try clear hcz8_1
     try clear hcz8_2
     try clear hfz5_0
     try clear hfz5_1
     try clear hfz5_2
     try clear hfz7_0
     try clear hfz7_1
     try clear hfz7_2
     try clear hfz8_0
     try clear hfz8_1
     try clear hfz8_2
     try clear p2
     obtain ⟨x3_2,rfl,HA,HK2,BK101,HB⟩:=hrel
     cases gk with
     | zero=>exact absurd HA.out (by simp [sawmilllaw50_small.l0])
     | succ k2 =>
      have H:=HA.out
      clear HA
      simp only [sawmilllaw50_small.l0] at H
      by_cases c10:x3_2 < (l0_0.length:Int)
      ·rw [if_pos c10] at H
       have c10b0:decide (x3_2 < (l0_0.length:Int))=true:=decide_eq_true c10
       clear c10
       by_cases c11:0≤x3_2
       ·rw [if_pos c11] at H
        have c11b0:decide (0≤x3_2)=true:=decide_eq_true c11
        clear c11
        by_cases c12:(((rd_T53 l0_0 x3_2).f0).size:Int) > 100
        ·rw [if_pos c12] at H
         have c12b0:decide (100 < (((rd_T53 l0_0 x3_2).f0).size:Int))=true:=decide_eq_true c12
         have c12b1:decide (100 < ((rd_T53 l0_0 x3_2).f0).size)=true:=decide_eq_true (by omega)
         clear c12
         obtain rfl:=Option.some.inj H
         have hcz13_0:wr.cell? ⟨gb101,0,none⟩=some (.slice A0_0 l0_0.length c0_0):=(blk_cell BK101.out 0).trans rfl
         have hcz13_1:wr.cell? ⟨gb101,1,none⟩=some (.slice A0_1 l0_1.length c0_1):=(blk_cell BK101.out 1).trans rfl
         have hcz13_2:wr.cell? ⟨gb101,2,none⟩=some (.slice A0_2 l0_2.length c0_2):=(blk_cell BK101.out 2).trans rfl
         have hfz13_0:=blk_frozen BK101.out 0
         have hfz13_1:=blk_frozen BK101.out 1
         have hfz13_2:=blk_frozen BK101.out 2
         have p102:0≤(x3_2:Int):=of_decide_eq_true (by first|(with_reducible assumption)|assumption)
         have q102:x3_2 < (l0_0.length:Int):=of_decide_eq_true (by first|(with_reducible assumption)|assumption)
         obtain ⟨ad102,A102_5,c102_5,A102_6,c102_6,e102,hx102_0,hx102_1,hx102_2,hx102_3,hx102_4,hx102_5,hx102_6,hl102_5,hi102_5,hl102_6,hi102_6⟩:=at_T53 HR0_0.out x3_2 p102 q102
         cases e102
         replace hx102_0:=(HB.out.cell (World.block_lt_of_cell? w _ hx102_0)).trans hx102_0
         replace hx102_1:=(HB.out.cell (World.block_lt_of_cell? w _ hx102_1)).trans hx102_1
         replace hx102_2:=(HB.out.cell (World.block_lt_of_cell? w _ hx102_2)).trans hx102_2
         replace hx102_3:=(HB.out.cell (World.block_lt_of_cell? w _ hx102_3)).trans hx102_3
         replace hx102_4:=(HB.out.cell (World.block_lt_of_cell? w _ hx102_4)).trans hx102_4
         replace hx102_5:=(HB.out.cell (World.block_lt_of_cell? w _ hx102_5)).trans hx102_5
         replace hx102_6:=(HB.out.cell (World.block_lt_of_cell? w _ hx102_6)).trans hx102_6
         have HR102_5:=Aside0.mk hi102_5
         have HC102_5:=Aside0.mk hl102_5
         clear hi102_5 hl102_5
         have HR102_6:=Aside0.mk hi102_6
         have HC102_6:=Aside0.mk hl102_6
         clear hi102_6 hl102_6
         replace p102:=eq_true p102
         replace q102:=eq_true q102
         go_wp2
         go_ret
         exact ⟨by first|rfl|(simp [errW_none,errW_some]<;>rfl)|(simp [*,errW_none,errW_some]<;>rfl),by repeat (first|(with_reducible first|exact HB.out|apply below_alloc|apply pw_below_drewN|apply below_drew1|refine below_set ?_ GE101.out)|exact HB.out)⟩
        ·rw [if_neg c12] at H
         have c12b0:decide (100 < (((rd_T53 l0_0 x3_2).f0).size:Int))=false:=decide_eq_false c12
         have c12b1:decide (100 < ((rd_T53 l0_0 x3_2).f0).size)=false:=decide_eq_false (by omega)
         clear c12
         by_cases c14:(((rd_T53 l0_0 x3_2).f5).length:Int) > 12
         ·rw [if_pos c14] at H
          have c14b0:decide (12 < (((rd_T53 l0_0 x3_2).f5).length:Int))=true:=decide_eq_true c14
          have c14b1:decide (12 < ((rd_T53 l0_0 x3_2).f5).length)=true:=decide_eq_true (by omega)
          clear c14
          obtain rfl:=Option.some.inj H
          have hcz15_0:wr.cell? ⟨gb101,0,none⟩=some (.slice A0_0 l0_0.length c0_0):=(blk_cell BK101.out 0).trans rfl
          have hcz15_1:wr.cell? ⟨gb101,1,none⟩=some (.slice A0_1 l0_1.length c0_1):=(blk_cell BK101.out 1).trans rfl
          have hcz15_2:wr.cell? ⟨gb101,2,none⟩=some (.slice A0_2 l0_2.length c0_2):=(blk_cell BK101.out 2).trans rfl
          have hfz15_0:=blk_frozen BK101.out 0
          have hfz15_1:=blk_frozen BK101.out 1
          have hfz15_2:=blk_frozen BK101.out 2
          have p102:0≤(x3_2:Int):=of_decide_eq_true (by first|(with_reducible assumption)|assumption)
          have q102:x3_2 < (l0_0.length:Int):=of_decide_eq_true (by first|(with_reducible assumption)|assumption)
          obtain ⟨ad102,A102_5,c102_5,A102_6,c102_6,e102,hx102_0,hx102_1,hx102_2,hx102_3,hx102_4,hx102_5,hx102_6,hl102_5,hi102_5,hl102_6,hi102_6⟩:=at_T53 HR0_0.out x3_2 p102 q102
          cases e102
          replace hx102_0:=(HB.out.cell (World.block_lt_of_cell? w _ hx102_0)).trans hx102_0
          replace hx102_1:=(HB.out.cell (World.block_lt_of_cell? w _ hx102_1)).trans hx102_1
          replace hx102_2:=(HB.out.cell (World.block_lt_of_cell? w _ hx102_2)).trans hx102_2
          replace hx102_3:=(HB.out.cell (World.block_lt_of_cell? w _ hx102_3)).trans hx102_3
          replace hx102_4:=(HB.out.cell (World.block_lt_of_cell? w _ hx102_4)).trans hx102_4
          replace hx102_5:=(HB.out.cell (World.block_lt_of_cell? w _ hx102_5)).trans hx102_5
          replace hx102_6:=(HB.out.cell (World.block_lt_of_cell? w _ hx102_6)).trans hx102_6
          have HR102_5:=Aside0.mk hi102_5
          have HC102_5:=Aside0.mk hl102_5
          clear hi102_5 hl102_5
          have HR102_6:=Aside0.mk hi102_6
          have HC102_6:=Aside0.mk hl102_6
          clear hi102_6 hl102_6
          replace p102:=eq_true p102
          replace q102:=eq_true q102
          have p103:0≤(x3_2:Int):=of_decide_eq_true (by first|(with_reducible assumption)|assumption)
          have q103:x3_2 < (l0_0.length:Int):=of_decide_eq_true (by first|(with_reducible assumption)|assumption)
          obtain ⟨ad103,A103_5,c103_5,A103_6,c103_6,e103,hx103_0,hx103_1,hx103_2,hx103_3,hx103_4,hx103_5,hx103_6,hl103_5,hi103_5,hl103_6,hi103_6⟩:=at_T53 HR0_0.out x3_2 p103 q103
          obtain rfl:ad102=ad103:=(by injection e103)
          replace hx103_0:=(HB.out.cell (World.block_lt_of_cell? w _ hx103_0)).trans hx103_0
          replace hx103_1:=(HB.out.cell (World.block_lt_of_cell? w _ hx103_1)).trans hx103_1
          replace hx103_2:=(HB.out.cell (World.block_lt_of_cell? w _ hx103_2)).trans hx103_2
          replace hx103_3:=(HB.out.cell (World.block_lt_of_cell? w _ hx103_3)).trans hx103_3
          replace hx103_4:=(HB.out.cell (World.block_lt_of_cell? w _ hx103_4)).trans hx103_4
          replace hx103_5:=(HB.out.cell (World.block_lt_of_cell? w _ hx103_5)).trans hx103_5
          replace hx103_6:=(HB.out.cell (World.block_lt_of_cell? w _ hx103_6)).trans hx103_6
          have HR103_5:=Aside0.mk hi103_5
          have HC103_5:=Aside0.mk hl103_5
          clear hi103_5 hl103_5
          have HR103_6:=Aside0.mk hi103_6
          have HC103_6:=Aside0.mk hl103_6
          clear hi103_6 hl103_6
          replace p103:=eq_true p103
          replace q103:=eq_true q103
          have ea_:=Option.some.inj (hx102_5.symm.trans hx103_5)
          injection ea_ with ea_ en_ ec_
          subst ea_
          subst ec_
          clear en_
          have ea_:=Option.some.inj (hx102_6.symm.trans hx103_6)
          injection ea_ with ea_ en_ ec_
          subst ea_
          subst ec_
          clear en_
          go_wp2
          go_ret
          exact ⟨by first|rfl|(simp [errW_none,errW_some]<;>rfl)|(simp [*,errW_none,errW_some]<;>rfl),by repeat (first|(with_reducible first|exact HB.out|apply below_alloc|apply pw_below_drewN|apply below_drew1|refine below_set ?_ GE101.out)|exact HB.out)⟩
         ·rw [if_neg c14] at H
          have c14b0:decide (12 < (((rd_T53 l0_0 x3_2).f5).length:Int))=false:=decide_eq_false c14
          have c14b1:decide (12 < ((rd_T53 l0_0 x3_2).f5).length)=false:=decide_eq_false (by omega)
          clear c14
          by_cases c16:(((rd_T53 l0_0 x3_2).f6).length:Int) > 12
          ·rw [if_pos c16] at H
           have c16b0:decide (12 < (((rd_T53 l0_0 x3_2).f6).length:Int))=true:=decide_eq_true c16
           have c16b1:decide (12 < ((rd_T53 l0_0 x3_2).f6).length)=true:=decide_eq_true (by omega)
           clear c16
           obtain rfl:=Option.some.inj H
           have hcz17_0:wr.cell? ⟨gb101,0,none⟩=some (.slice A0_0 l0_0.length c0_0):=(blk_cell BK101.out 0).trans rfl
           have hcz17_1:wr.cell? ⟨gb101,1,none⟩=some (.slice A0_1 l0_1.length c0_1):=(blk_cell BK101.out 1).trans rfl
           have hcz17_2:wr.cell? ⟨gb101,2,none⟩=some (.slice A0_2 l0_2.length c0_2):=(blk_cell BK101.out 2).trans rfl
           have hfz17_0:=blk_frozen BK101.out 0
           have hfz17_1:=blk_frozen BK101.out 1
           have hfz17_2:=blk_frozen BK101.out 2
           have p102:0≤(x3_2:Int):=of_decide_eq_true (by first|(with_reducible assumption)|assumption)
           have q102:x3_2 < (l0_0.length:Int):=of_decide_eq_true (by first|(with_reducible assumption)|assumption)
           obtain ⟨ad102,A102_5,c102_5,A102_6,c102_6,e102,hx102_0,hx102_1,hx102_2,hx102_3,hx102_4,hx102_5,hx102_6,hl102_5,hi102_5,hl102_6,hi102_6⟩:=at_T53 HR0_0.out x3_2 p102 q102
           cases e102
           replace hx102_0:=(HB.out.cell (World.block_lt_of_cell? w _ hx102_0)).trans hx102_0
           replace hx102_1:=(HB.out.cell (World.block_lt_of_cell? w _ hx102_1)).trans hx102_1
           replace hx102_2:=(HB.out.cell (World.block_lt_of_cell? w _ hx102_2)).trans hx102_2
           replace hx102_3:=(HB.out.cell (World.block_lt_of_cell? w _ hx102_3)).trans hx102_3
           replace hx102_4:=(HB.out.cell (World.block_lt_of_cell? w _ hx102_4)).trans hx102_4
           replace hx102_5:=(HB.out.cell (World.block_lt_of_cell? w _ hx102_5)).trans hx102_5
           replace hx102_6:=(HB.out.cell (World.block_lt_of_cell? w _ hx102_6)).trans hx102_6
           have HR102_5:=Aside0.mk hi102_5
           have HC102_5:=Aside0.mk hl102_5
           clear hi102_5 hl102_5
           have HR102_6:=Aside0.mk hi102_6
           have HC102_6:=Aside0.mk hl102_6
           clear hi102_6 hl102_6
           replace p102:=eq_true p102
           replace q102:=eq_true q102
           have p103:0≤(x3_2:Int):=of_decide_eq_true (by first|(with_reducible assumption)|assumption)
           have q103:x3_2 < (l0_0.length:Int):=of_decide_eq_true (by first|(with_reducible assumption)|assumption)
           obtain ⟨ad103,A103_5,c103_5,A103_6,c103_6,e103,hx103_0,hx103_1,hx103_2,hx103_3,hx103_4,hx103_5,hx103_6,hl103_5,hi103_5,hl103_6,hi103_6⟩:=at_T53 HR0_0.out x3_2 p103 q103
           obtain rfl:ad102=ad103:=(by injection e103)
           replace hx103_0:=(HB.out.cell (World.block_lt_of_cell? w _ hx103_0)).trans hx103_0
           replace hx103_1:=(HB.out.cell (World.block_lt_of_cell? w _ hx103_1)).trans hx103_1
           replace hx103_2:=(HB.out.cell (World.block_lt_of_cell? w _ hx103_2)).trans hx103_2
           replace hx103_3:=(HB.out.cell (World.block_lt_of_cell? w _ hx103_3)).trans hx103_3
           replace hx103_4:=(HB.out.cell (World.block_lt_of_cell? w _ hx103_4)).trans hx103_4
           replace hx103_5:=(HB.out.cell (World.block_lt_of_cell? w _ hx103_5)).trans hx103_5
           replace hx103_6:=(HB.out.cell (World.block_lt_of_cell? w _ hx103_6)).trans hx103_6
           have HR103_5:=Aside0.mk hi103_5
           have HC103_5:=Aside0.mk hl103_5
           clear hi103_5 hl103_5
           have HR103_6:=Aside0.mk hi103_6
           have HC103_6:=Aside0.mk hl103_6
           clear hi103_6 hl103_6
           replace p103:=eq_true p103
           replace q103:=eq_true q103
           have ea_:=Option.some.inj (hx102_5.symm.trans hx103_5)
           injection ea_ with ea_ en_ ec_
           subst ea_
           subst ec_
           clear en_
           have ea_:=Option.some.inj (hx102_6.symm.trans hx103_6)
           injection ea_ with ea_ en_ ec_
           subst ea_
           subst ec_
           clear en_
           have p104:0≤(x3_2:Int):=of_decide_eq_true (by first|(with_reducible assumption)|assumption)
           have q104:x3_2 < (l0_0.length:Int):=of_decide_eq_true (by first|(with_reducible assumption)|assumption)
           obtain ⟨ad104,A104_5,c104_5,A104_6,c104_6,e104,hx104_0,hx104_1,hx104_2,hx104_3,hx104_4,hx104_5,hx104_6,hl104_5,hi104_5,hl104_6,hi104_6⟩:=at_T53 HR0_0.out x3_2 p104 q104
           obtain rfl:ad102=ad104:=(by injection e104)
           replace hx104_0:=(HB.out.cell (World.block_lt_of_cell? w _ hx104_0)).trans hx104_0
           replace hx104_1:=(HB.out.cell (World.block_lt_of_cell? w _ hx104_1)).trans hx104_1
           replace hx104_2:=(HB.out.cell (World.block_lt_of_cell? w _ hx104_2)).trans hx104_2
           replace hx104_3:=(HB.out.cell (World.block_lt_of_cell? w _ hx104_3)).trans hx104_3
           replace hx104_4:=(HB.out.cell (World.block_lt_of_cell? w _ hx104_4)).trans hx104_4
           replace hx104_5:=(HB.out.cell (World.block_lt_of_cell? w _ hx104_5)).trans hx104_5
           replace hx104_6:=(HB.out.cell (World.block_lt_of_cell? w _ hx104_6)).trans hx104_6
           have HR104_5:=Aside0.mk hi104_5
           have HC104_5:=Aside0.mk hl104_5
           clear hi104_5 hl104_5
           have HR104_6:=Aside0.mk hi104_6
           have HC104_6:=Aside0.mk hl104_6
           clear hi104_6 hl104_6
           replace p104:=eq_true p104
           replace q104:=eq_true q104
           have ea_:=Option.some.inj (hx102_5.symm.trans hx104_5)
           injection ea_ with ea_ en_ ec_
           subst ea_
           subst ec_
           clear en_
           have ea_:=Option.some.inj (hx102_6.symm.trans hx104_6)
           injection ea_ with ea_ en_ ec_
           subst ea_
           subst ec_
           clear en_
           go_wp2
           go_ret
           exact ⟨by first|rfl|(simp [errW_none,errW_some]<;>rfl)|(simp [*,errW_none,errW_some]<;>rfl),by repeat (first|(with_reducible first|exact HB.out|apply below_alloc|apply pw_below_drewN|apply below_drew1|refine below_set ?_ GE101.out)|exact HB.out)⟩
          ·rw [if_neg c16] at H
           have c16b0:decide (12 < (((rd_T53 l0_0 x3_2).f6).length:Int))=false:=decide_eq_false c16
           have c16b1:decide (12 < ((rd_T53 l0_0 x3_2).f6).length)=false:=decide_eq_false (by omega)
           clear c16
           have H':=Aside0.mk H
           clear H
           have hcz18_0:wr.cell? ⟨gb101,0,none⟩=some (.slice A0_0 l0_0.length c0_0):=(blk_cell BK101.out 0).trans rfl
           have hcz18_1:wr.cell? ⟨gb101,1,none⟩=some (.slice A0_1 l0_1.length c0_1):=(blk_cell BK101.out 1).trans rfl
           have hcz18_2:wr.cell? ⟨gb101,2,none⟩=some (.slice A0_2 l0_2.length c0_2):=(blk_cell BK101.out 2).trans rfl
           have hfz18_0:=blk_frozen BK101.out 0
           have hfz18_1:=blk_frozen BK101.out 1
           have hfz18_2:=blk_frozen BK101.out 2
           have p102:0≤(x3_2:Int):=of_decide_eq_true (by first|(with_reducible assumption)|assumption)
           have q102:x3_2 < (l0_0.length:Int):=of_decide_eq_true (by first|(with_reducible assumption)|assumption)
           obtain ⟨ad102,A102_5,c102_5,A102_6,c102_6,e102,hx102_0,hx102_1,hx102_2,hx102_3,hx102_4,hx102_5,hx102_6,hl102_5,hi102_5,hl102_6,hi102_6⟩:=at_T53 HR0_0.out x3_2 p102 q102
           cases e102
           replace hx102_0:=(HB.out.cell (World.block_lt_of_cell? w _ hx102_0)).trans hx102_0
           replace hx102_1:=(HB.out.cell (World.block_lt_of_cell? w _ hx102_1)).trans hx102_1
           replace hx102_2:=(HB.out.cell (World.block_lt_of_cell? w _ hx102_2)).trans hx102_2
           replace hx102_3:=(HB.out.cell (World.block_lt_of_cell? w _ hx102_3)).trans hx102_3
           replace hx102_4:=(HB.out.cell (World.block_lt_of_cell? w _ hx102_4)).trans hx102_4
           replace hx102_5:=(HB.out.cell (World.block_lt_of_cell? w _ hx102_5)).trans hx102_5
           replace hx102_6:=(HB.out.cell (World.block_lt_of_cell? w _ hx102_6)).trans hx102_6
           have HR102_5:=Aside0.mk hi102_5
           have HC102_5:=Aside0.mk hl102_5
           clear hi102_5 hl102_5
           have HR102_6:=Aside0.mk hi102_6
           have HC102_6:=Aside0.mk hl102_6
           clear hi102_6 hl102_6
           replace p102:=eq_true p102
           replace q102:=eq_true q102
           have p103:0≤(x3_2:Int):=of_decide_eq_true (by first|(with_reducible assumption)|assumption)
           have q103:x3_2 < (l0_0.length:Int):=of_decide_eq_true (by first|(with_reducible assumption)|assumption)
           obtain ⟨ad103,A103_5,c103_5,A103_6,c103_6,e103,hx103_0,hx103_1,hx103_2,hx103_3,hx103_4,hx103_5,hx103_6,hl103_5,hi103_5,hl103_6,hi103_6⟩:=at_T53 HR0_0.out x3_2 p103 q103
           obtain rfl:ad102=ad103:=(by injection e103)
           replace hx103_0:=(HB.out.cell (World.block_lt_of_cell? w _ hx103_0)).trans hx103_0
           replace hx103_1:=(HB.out.cell (World.block_lt_of_cell? w _ hx103_1)).trans hx103_1
           replace hx103_2:=(HB.out.cell (World.block_lt_of_cell? w _ hx103_2)).trans hx103_2
           replace hx103_3:=(HB.out.cell (World.block_lt_of_cell? w _ hx103_3)).trans hx103_3
           replace hx103_4:=(HB.out.cell (World.block_lt_of_cell? w _ hx103_4)).trans hx103_4
           replace hx103_5:=(HB.out.cell (World.block_lt_of_cell? w _ hx103_5)).trans hx103_5
           replace hx103_6:=(HB.out.cell (World.block_lt_of_cell? w _ hx103_6)).trans hx103_6
           have HR103_5:=Aside0.mk hi103_5
           have HC103_5:=Aside0.mk hl103_5
           clear hi103_5 hl103_5
           have HR103_6:=Aside0.mk hi103_6
           have HC103_6:=Aside0.mk hl103_6
           clear hi103_6 hl103_6
           replace p103:=eq_true p103
           replace q103:=eq_true q103
           have ea_:=Option.some.inj (hx102_5.symm.trans hx103_5)
           injection ea_ with ea_ en_ ec_
           subst ea_
           subst ec_
           clear en_
           have ea_:=Option.some.inj (hx102_6.symm.trans hx103_6)
           injection ea_ with ea_ en_ ec_
           subst ea_
           subst ec_
           clear en_
           have p104:0≤(x3_2:Int):=of_decide_eq_true (by first|(with_reducible assumption)|assumption)
           have q104:x3_2 < (l0_0.length:Int):=of_decide_eq_true (by first|(with_reducible assumption)|assumption)
           obtain ⟨ad104,A104_5,c104_5,A104_6,c104_6,e104,hx104_0,hx104_1,hx104_2,hx104_3,hx104_4,hx104_5,hx104_6,hl104_5,hi104_5,hl104_6,hi104_6⟩:=at_T53 HR0_0.out x3_2 p104 q104
           obtain rfl:ad102=ad104:=(by injection e104)
           replace hx104_0:=(HB.out.cell (World.block_lt_of_cell? w _ hx104_0)).trans hx104_0
           replace hx104_1:=(HB.out.cell (World.block_lt_of_cell? w _ hx104_1)).trans hx104_1
           replace hx104_2:=(HB.out.cell (World.block_lt_of_cell? w _ hx104_2)).trans hx104_2
           replace hx104_3:=(HB.out.cell (World.block_lt_of_cell? w _ hx104_3)).trans hx104_3
           replace hx104_4:=(HB.out.cell (World.block_lt_of_cell? w _ hx104_4)).trans hx104_4
           replace hx104_5:=(HB.out.cell (World.block_lt_of_cell? w _ hx104_5)).trans hx104_5
           replace hx104_6:=(HB.out.cell (World.block_lt_of_cell? w _ hx104_6)).trans hx104_6
           have HR104_5:=Aside0.mk hi104_5
           have HC104_5:=Aside0.mk hl104_5
           clear hi104_5 hl104_5
           have HR104_6:=Aside0.mk hi104_6
           have HC104_6:=Aside0.mk hl104_6
           clear hi104_6 hl104_6
           replace p104:=eq_true p104
           replace q104:=eq_true q104
           have ea_:=Option.some.inj (hx102_5.symm.trans hx104_5)
           injection ea_ with ea_ en_ ec_
           subst ea_
           subst ec_
           clear en_
           have ea_:=Option.some.inj (hx102_6.symm.trans hx104_6)
           injection ea_ with ea_ en_ ec_
           subst ea_
           subst ec_
           clear en_
           go_wp2
           go_roundg k2
           case measure=>have:=HJ1.out;have:=HK2.out;omega
           case rel=>exact ⟨(wrap64 (x3_2+1)),(by first|rfl|(simp;done)|(simp [*];done)),H',⟨by have:=HJ1.out;have:=HK2.out;omega⟩,⟨by (with_reducible repeat (first|refine blk_drewN ?_ _|refine blk_drew ?_|refine blk_alloc ?_ _));exact BK101.out⟩,⟨by repeat (first|(with_reducible first|exact HB.out|apply below_alloc|apply pw_below_drewN|apply below_drew1|refine below_set ?_ GE101.out)|exact HB.out)⟩⟩
       ·rw [if_neg c11] at H
        exact absurd H (by simp)
      ·rw [if_neg c10] at H
       have c10b0:decide (x3_2 < (l0_0.length:Int))=false:=decide_eq_false c10
       clear c10
       obtain rfl:=Option.some.inj H
       have hcz19_0:wr.cell? ⟨gb101,0,none⟩=some (.slice A0_0 l0_0.length c0_0):=(blk_cell BK101.out 0).trans rfl
       have hcz19_1:wr.cell? ⟨gb101,1,none⟩=some (.slice A0_1 l0_1.length c0_1):=(blk_cell BK101.out 1).trans rfl
       have hcz19_2:wr.cell? ⟨gb101,2,none⟩=some (.slice A0_2 l0_2.length c0_2):=(blk_cell BK101.out 2).trans rfl
       have hfz19_0:=blk_frozen BK101.out 0
       have hfz19_1:=blk_frozen BK101.out 1
       have hfz19_2:=blk_frozen BK101.out 2
       go_wp2
       go_ret
       exact ⟨by first|rfl|(simp [errW_none,errW_some]<;>rfl)|(simp [*,errW_none,errW_some]<;>rfl),by repeat (first|(with_reducible first|exact HB.out|apply below_alloc|apply pw_below_drewN|apply below_drew1|refine below_set ?_ GE101.out)|exact HB.out)⟩
end Go.Proofs.YtojkjhaobjidlaaDoor.P
namespace Go.Proofs.YtojkjhaobjidlaaDoor.P
open Go.RowKit Go.Proofs.YtojkjhaobjidlaaDoorW.PrintWords Go.Proofs.YtojkjhaobjidlaaDoorW.PrintMore
set_option linter.unusedVariables false
set_option linter.unusedSimpArgs false
def smallP (p:PR):Bool:=!(decide (100 < p.f0.size) || (decide (12 < p.f5.length) || decide (12 < p.f6.length)))
def smallB (c:List PR) (l:List IT) (t:List TI):Bool:=!(decide (20 < c.length) || (decide (100 < l.length) || decide (30 < t.length))) && c.all smallP
theorem small_l0 (c:List PR) (l:List IT) (t:List TI) (hc:c.length≤1000):∀ (d k i:Nat),i+d=c.length→d < k→sawmilllaw50_small.l0 k (i:Int) c l t=some ((c.drop i).all smallP):=by
 intro d
 induction d with
 | zero =>
  intro k i hi hk
  obtain ⟨k,rfl⟩:∃ m,k=m+1:=⟨k - 1,by omega⟩
  simp only [sawmilllaw50_small.l0]
  rw [if_neg (by omega),List.drop_of_length_le (by omega)]
  rfl
 | succ d ih =>
  intro k i hi hk
  obtain ⟨k,rfl⟩:∃ m,k=m+1:=⟨k - 1,by omega⟩
  have h2:i < c.length:=by omega
  simp only [sawmilllaw50_small.l0]
  rw [if_pos (by omega),if_pos (by omega),wrap_nat i 1000000 (by omega) (by omega),ih k (i+1) (by omega) (by omega),rdP_drop i h2,List.all_cons]
  generalize rd_T53 c (i:Int)=p
  generalize (c.drop (i+1)).all smallP=b
  unfold smallP
  by_cases g1:100 < p.f0.size
  ·rw [if_pos (by omega)];simp [g1]
  ·rw [if_neg (by omega)]
   by_cases g2:12 < p.f5.length
   ·rw [if_pos (by omega)];simp [g1,g2]
   ·rw [if_neg (by omega)]
    by_cases g3:12 < p.f6.length
    ·rw [if_pos (by omega)];simp [g1,g2,g3]
    ·rw [if_neg (by omega)];simp [g1,g2,g3]
theorem small_f (c:List PR) (l:List IT) (t:List TI) (k:Nat) (hk:30 < k):sawmilllaw50_small.f k c l t=some (smallB c l t):=by
 obtain ⟨k,rfl⟩:∃ m,k=m+1:=⟨k - 1,by omega⟩
 unfold sawmilllaw50_small.f smallB
 simp only [sawmilllaw50_small.j0,if_true,decide_eq_true_eq,gt_iff_lt]
 by_cases g1:20 < c.length
 ·rw [if_pos (by omega)];simp [g1]
 ·rw [if_neg (by omega)]
  by_cases g2:100 < l.length
  ·rw [if_pos (by omega)];simp [g1,g2]
  ·rw [if_neg (by omega)]
   by_cases g3:30 < t.length
   ·rw [if_pos (by omega)];simp [g1,g2,g3]
   ·rw [if_neg (by omega)]
    have:=small_l0 c l t (by omega) c.length k 0 (by omega) (by omega)
    rw [show ((0:Nat):Int)=0 from rfl] at this
    rw [this]
    simp [g1,g2,g3]
end Go.Proofs.YtojkjhaobjidlaaDoor.P
namespace Go.Proofs.YtojkjhaobjidlaaDoor.P
open Go.RowKit Go.Proofs.YtojkjhaobjidlaaDoorW.PrintWords Go.Proofs.YtojkjhaobjidlaaDoorW.PrintLast Go.Proofs.YtojkjhaobjidlaaDoorW.PrintMore
set_option linter.unusedVariables false
set_option linter.unusedSimpArgs false
theorem amount_more (c:List PR) (x:IT) (m0 m1:Int) (h0:0≤m0) (h1:0≤m1) (h:(amountB c x).2=0):((amountB c ⟨x.f0,x.f1,x.f2+m1,x.f3+m0⟩).2=0∧(amountB c x).1≤(amountB c ⟨x.f0,x.f1,x.f2+m1,x.f3+m0⟩).1) ∨ (amountB c ⟨x.f0,x.f1,x.f2+m1,x.f3+m0⟩).2=9:=by
 obtain ⟨a0,a1,a2,a3,a4,a5,a6,a7,a8,a9,a10,a11,a12,a13⟩:=amount_ok c x h
 have hprc:(prcGo (rd_T53 c x.f0).f6 x.f1 (rd_T53 c x.f0).f5 0).2=true:=by
  unfold amountB at h
  rw [if_pos a0,if_neg (by omega)] at h
  by_cases g:(prcGo (rd_T53 c x.f0).f6 x.f1 (rd_T53 c x.f0).f5 0).2=true
  ·exact g
  ·rw [if_neg g] at h;exact absurd h (by decide)
 have e:amountB c ⟨x.f0,x.f1,x.f2+m1,x.f3+m0⟩=if x.f2+m1 < 0 ∨ 200 < x.f2+m1 ∨ x.f3+m0 < 0 ∨ 1000000000 < x.f3+m0 then (0,9) else
   (((x.f3+m0) * ((rd_T53 c x.f0).f1 * (rd_T53 c x.f0).f2 * x.f1 * (x.f2+m1))+500000000) / 1000000000,0):=by
  unfold amountB
  simp only []
  rw [if_pos a0,if_neg (by omega),if_pos hprc]
 rw [e]
 by_cases g:x.f2+m1 < 0 ∨ 200 < x.f2+m1 ∨ x.f3+m0 < 0 ∨ 1000000000 < x.f3+m0
 ·rw [if_pos g];exact Or.inr rfl
 ·rw [if_neg g,a11]
  refine Or.inl ⟨rfl,?_⟩
  obtain ⟨s1,s2,s3,s4,s5,s6⟩:=sized_nums a10.sz
  obtain ⟨v1,v2,v3,v4,v5,v6⟩:=vol_le s1 s2 s3 s4 a3 a4 a5 a6
  show _≤((x.f3+m0) * ((rd_T53 c x.f0).f1 * (rd_T53 c x.f0).f2 * x.f1 * (x.f2+m1))+500000000) / 1000000000
  generalize (rd_T53 c x.f0).f1 * (rd_T53 c x.f0).f2 * x.f1=v at v3 v4 v5 v6 ⊢
  have p1:v * x.f2≤v * (x.f2+m1):=Int.mul_le_mul_of_nonneg_left (by omega) v3
  have p2:x.f3 * (v * x.f2)≤(x.f3+m0) * (v * (x.f2+m1)):=Int.mul_le_mul (by omega) p1 v5 (by omega)
  generalize x.f3 * (v * x.f2)=q at p2 ⊢
  generalize (x.f3+m0) * (v * (x.f2+m1))=r at p2 ⊢
  omega
theorem vol_f (p:PR) (n:Int) (hp:ProdOk p) (h1:100≤n) (h2:n≤20000):product_Volume.f p.f0 p.f1 p.f2 p.f3 p.f4 p.f5 p.f6 n=some (p.f1 * p.f2 * n)∧0≤p.f1 * p.f2 * n∧p.f1 * p.f2 * n≤3600000000:=by
 obtain ⟨s1,s2,s3,s4,s5,s6⟩:=sized_nums hp.sz
 obtain ⟨v1,v2,v3,v4,v5,v6⟩:=vol_le s1 s2 s3 s4 h1 h2 (Int.le_refl 0) (show (0:Int)≤200 by decide)
 refine ⟨?_,v3,v4⟩
 unfold product_Volume.f mn mx
 rw [if_neg (by split<;>split<;>omega),if_neg (by split<;>omega),if_neg (by omega)]
 have e1:wrap64 (p.f1 * p.f2)=p.f1 * p.f2:=by generalize p.f1 * p.f2=m at v1 v2 ⊢;unfold wrap64;omega
 have e2:wrap64 (p.f1 * p.f2 * n)=p.f1 * p.f2 * n:=by generalize p.f1 * p.f2 * n=m at v3 v4 ⊢;unfold wrap64;omega
 rw [e1,e2]
theorem wrap_sm (x:Int) (h0:0≤x) (h1:x≤4611686018427387904):wrap64 x=x:=by
 unfold wrap64
 omega
theorem rounds_fin (v n c a:Int) (h0:0≤v) (h1:v≤3600000000) (h2:0≤n) (h3:n≤200) (h4:0≤c) (h5:c≤1000000000) (h6:wrap64 (v * n)≤2000000000) (ha:a=(c * (v * n)+500000000) / 1000000000) (h7:a≤2000000000) :
  wrap64 (wrap64 (2 * wrap64 (wrap64 (v * n) * c)) - 1000000000) < wrap64 (2000000000 * a)∧wrap64 (2000000000 * a)≤wrap64 (wrap64 (2 * wrap64 (wrap64 (v * n) * c))+1000000000):=by
 have m0:0≤v * n:=Int.mul_nonneg h0 h2
 have m1:v * n≤3600000000 * 200:=Int.mul_le_mul h1 h3 h2 (by decide)
 have w1:wrap64 (v * n)=v * n:=by generalize v * n=m at m0 m1 ⊢;unfold wrap64;omega
 rw [w1] at h6 ⊢
 generalize v * n=m at m0 m1 h6 ha ⊢
 have p0:0≤m * c:=Int.mul_nonneg m0 h4
 have p1:m * c≤2000000000 * 1000000000:=Int.mul_le_mul h6 h5 h4 (by decide)
 rw [Int.mul_comm c m] at ha
 generalize m * c=p at p0 p1 ha ⊢
 have w2:wrap64 p=p:=by unfold wrap64;omega
 have w3:wrap64 (2 * p)=2 * p:=by unfold wrap64;omega
 rw [w2,w3]
 have hA1:1000000000 * a≤p+500000000:=by omega
 have hA2:p+500000000 < 1000000000 * a+1000000000:=by omega
 clear ha w2 w3
 have w4:wrap64 (2000000000 * a)=2000000000 * a:=by unfold wrap64;omega
 have w5:wrap64 (2 * p - 1000000000)=2 * p - 1000000000:=by unfold wrap64;omega
 have w6:wrap64 (2 * p+1000000000)=2 * p+1000000000:=by unfold wrap64;omega
 rw [w4,w5,w6]
 omega
structure RR (w W:World) (b0 b1 b2:Nat) (v0 v1 v2:Value) (x:IT) (m0 m1:Int):Prop where
 h0:W.heap[b0]?=some (.cells #[v0,v1,v2] 26 (0,0))
 h1:W.heap[b1]?=some (.cells #[.int .i64 x.f0,.int .i64 x.f1,.int .i64 x.f2,.int .i64 x.f3] 35 (0,0))
 h2:W.heap[b2]?=some (.cells #[.int .i64 m0,.int .i64 m1] 49 (0,0))
 bel:Below w.heap.size w W
 l0:w.heap.size≤b0
 l1:w.heap.size≤b1
 l2:w.heap.size≤b2
theorem RR.step {w W W2:World} {b0 b1 b2:Nat} {v0 v1 v2:Value} {x:IT} {m0 m1:Int} (h:RR w W b0 b1 b2 v0 v1 v2 x m0 m1) (hb:Below W.heap.size W W2):RR w W2 b0 b1 b2 v0 v1 v2 x m0 m1 :=
 ⟨(hb.block b0 (blk_lt h.h0)).trans h.h0,(hb.block b1 (blk_lt h.h1)).trans h.h1,(hb.block b2 (blk_lt h.h2)).trans h.h2,below_step h.bel hb,h.l0,h.l1,h.l2⟩
theorem RR.drew {w W:World} {b0 b1 b2:Nat} {v0 v1 v2:Value} {x:IT} {m0 m1:Int} (h:RR w W b0 b1 b2 v0 v1 v2 x m0 m1):RR w W.drew b0 b1 b2 v0 v1 v2 x m0 m1 :=
 ⟨blk_drew h.h0,blk_drew h.h1,blk_drew h.h2,below_drew1 h.bel,h.l0,h.l1,h.l2⟩
theorem RR.put {w W:World} {b0 b1 b2:Nat} {v0 v1 v2:Value} {x:IT} {m0 m1:Int} (h:RR w W b0 b1 b2 v0 v1 v2 x m0 m1) (b9 i:Nat) (n0:b0 ≠ b9) (n1:b1 ≠ b9) (n2:b2 ≠ b9) (hl:w.heap.size≤b9) (y:Value):RR w (W.setCell ⟨b9,i,none⟩ y) b0 b1 b2 v0 v1 v2 x m0 m1 :=
 ⟨blk_far (p:=⟨b9,i,none⟩) h.h0 n0 y,blk_far (p:=⟨b9,i,none⟩) h.h1 n1 y,blk_far (p:=⟨b9,i,none⟩) h.h2 n2 y,below_set h.bel hl,h.l0,h.l1,h.l2⟩
def sawmilllaw50_BillRounds.T14:Bool × List (List Nat × List Nat):=(true,[([],[]),([0],[0]),([],[]),([2],[2]),([1,3],[1,3]),([4],[4]),([],[]),([6],[6]),([5,7],[5,7]),([8,8,0,1,2,3,4,5,6,7,8],[8])])
def sawmilllaw50_BillRounds.B14:List Nat:=[0,1,0,4,15,31,0,64,255,511]
theorem sawmilllaw50_BillRounds.tab14:rtab .any (opsOf Tryd.f7 14)=sawmilllaw50_BillRounds.T14:=by kernel_rfl
theorem sawmilllaw50_BillRounds.bits14:waitsOk sawmilllaw50_BillRounds.T14.2 sawmilllaw50_BillRounds.B14=true:=by kernel_rfl
set_option maxHeartbeats 4000000 in
set_option maxRecDepth 100000 in
theorem rounds_calls (A0:Option Addr) (c0:Nat) (l0:List PR) (A1:Option Addr) (c1:Nat) (l1:List IT) (A2:Option Addr) (c2:Nat) (l2:List TI) (x:IT) (m0 m1:Int) (w:World) (hr0:Kd.C k53 w A0 l0.length l0) (hc0:l0.length≤c0) (hr1:Kd.C k35 w A1 l1.length l1) (hc1:l1.length≤c1) (hr2:Kd.C k56 w A2 l2.length l2) (hc2:l2.length≤c2) (HG_:Aside0 (Glob w)) :
  Calls Tryd.prog 7 #[.agg #[.slice A0 l0.length c0,.slice A1 l1.length c1,.slice A2 l2.length c2],.agg #[.int .i64 x.f0,.int .i64 x.f1,.int .i64 x.f2,.int .i64 x.f3],.agg #[.int .i64 m0,.int .i64 m1]] w fun e w'=>e=.returned (.bool true)∧Below w.heap.size w w':=by
 have hui:=Tryd.underlying35
 have hup:=Tryd.underlying53
 have huv:=Tryd.underlying26
 have hu2:Tryd.prog.underlying 49=some (.array 2 3):=by kernel_rfl
 have HSM:=Aside0.mk (fun W (hb:Below w.heap.size w W)=>sawmilllaw50_small.calls 100 A0 c0 l0 A1 c1 l1 A2 c2 l2 _ W (Kd.C_below hr0 hb) hc0 (Kd.C_below hr1 hb) hc1 (Kd.C_below hr2 hb) hc2 (small_f l0 l1 l2 100 (by decide)))
 have HAM:=Aside0.mk (fun W (y:IT) (hb:Below w.heap.size w W)=>bill_Amount.calls 100 A0 c0 l0 y.f0 y.f1 y.f2 y.f3 (amountB l0 y).1 (amountB l0 y).2 W (Kd.C_below hr0 hb) hc0 (amount_f l0 y 100 (by decide)))
 have HAW:=Aside0.mk (fun W (hb:Below w.heap.size w W)=>sawmilllaw50_awake.calls 300 true W (awake_at 300 (by decide)) (glob_at HG_ hb))
 have HR:=Aside0.mk hr0
 have HC:=Aside0.mk hc0
 clear hr0 hc0 hr1 hc1 hr2 hc2
 go_enter Tryd.func7,Tryd.ntmps7
 go_wp2_with fail
 have H0:RR w (((w.alloc (.cells #[.slice A0 l0.length c0,.slice A1 l1.length c1,.slice A2 l2.length c2] 26)).alloc (.cells #[.int .i64 x.f0,.int .i64 x.f1,.int .i64 x.f2,.int .i64 x.f3] 35)).alloc (.cells #[.int .i64 m0,.int .i64 m1] 49)) w.heap.size (w.heap.size+1) (w.heap.size+2) (.slice A0 l0.length c0) (.slice A1 l1.length c1) (.slice A2 l2.length c2) x m0 m1 :=
  ⟨blk_alloc (blk_alloc (heap_alloc_new _ _) _) _,blk_alloc (by simpa using heap_alloc_new (w.alloc (.cells #[.slice A0 l0.length c0,.slice A1 l1.length c1,.slice A2 l2.length c2] 26)) (.cells #[.int .i64 x.f0,.int .i64 x.f1,.int .i64 x.f2,.int .i64 x.f3] 35)) _,
   by simpa using heap_alloc_new ((w.alloc (.cells #[.slice A0 l0.length c0,.slice A1 l1.length c1,.slice A2 l2.length c2] 26)).alloc (.cells #[.int .i64 x.f0,.int .i64 x.f1,.int .i64 x.f2,.int .i64 x.f3] 35)) (.cells #[.int .i64 m0,.int .i64 m1] 49),
   below_alloc (below_alloc (below_alloc (Below.refl _ _) _) _) _,by omega,by omega,by omega⟩
 obtain ⟨b0,hb0⟩:∃ b,b=w.heap.size:=⟨_,rfl⟩
 obtain ⟨b1,hb1⟩:∃ b,b=w.heap.size+1:=⟨_,rfl⟩
 obtain ⟨b2,hb2⟩:∃ b,b=w.heap.size+2:=⟨_,rfl⟩
 have H1:Aside0 (RR w (((w.alloc (.cells #[.slice A0 l0.length c0,.slice A1 l1.length c1,.slice A2 l2.length c2] 26)).alloc (.cells #[.int .i64 x.f0,.int .i64 x.f1,.int .i64 x.f2,.int .i64 x.f3] 35)).alloc (.cells #[.int .i64 m0,.int .i64 m1] 49)) b0 b1 b2 (.slice A0 l0.length c0) (.slice A1 l1.length c1) (.slice A2 l2.length c2) x m0 m1):=⟨by rw [hb0,hb1,hb2];exact H0⟩
 rw [← hb2,← hb1,← hb0]
 clear H0 hb0 hb1 hb2
 refine (HSM.out _ H1.out.bel).mono ?_
 rintro e w1 ⟨rfl,hb⟩
 have H:=Aside0.mk (H1.out.step hb)
 clear H1 hb HSM
 have hz0:=(blk_cell H.out.h2 0).trans rfl
 have hz1:=(blk_cell H.out.h2 1).trans rfl
 have hy0:=(blk_cell H.out.h0 0).trans rfl
 have hx0:=(blk_cell H.out.h1 0).trans rfl
 have hx1:=(blk_cell H.out.h1 1).trans rfl
 have hx2:=(blk_cell H.out.h1 2).trans rfl
 have hx3:=(blk_cell H.out.h1 3).trans rfl
 cases hs:smallB l0 l1 l2
 ·go_wp2_with fail
  refine (HAW.out _ H.out.bel).mono ?_
  rintro en wn ⟨rfl,hb⟩
  have HF:=Aside0.mk (below_step H.out.bel hb)
  clear hb
  go_wp2_with fail
  go_ret
  exact ⟨rfl,HF.out⟩
 by_cases g0:m0 < 0
 ·have c0:decide (m0 < 0)=true:=decide_eq_true g0
  go_wp2_with fail
  refine (HAW.out _ H.out.bel).mono ?_
  rintro en wn ⟨rfl,hb⟩
  have HF:=Aside0.mk (below_step H.out.bel hb)
  clear hb
  go_wp2_with fail
  go_ret
  exact ⟨rfl,HF.out⟩
 have c0:decide (m0 < 0)=false:=decide_eq_false g0
 by_cases g1:1000 < m0
 ·have c1:decide (1000 < m0)=true:=decide_eq_true g1
  go_wp2_with fail
  refine (HAW.out _ H.out.bel).mono ?_
  rintro en wn ⟨rfl,hb⟩
  have HF:=Aside0.mk (below_step H.out.bel hb)
  clear hb
  go_wp2_with fail
  go_ret
  exact ⟨rfl,HF.out⟩
 have c1:decide (1000 < m0)=false:=decide_eq_false g1
 by_cases g2:m1 < 0
 ·have c2:decide (m1 < 0)=true:=decide_eq_true g2
  go_wp2_with fail
  refine (HAW.out _ H.out.bel).mono ?_
  rintro en wn ⟨rfl,hb⟩
  have HF:=Aside0.mk (below_step H.out.bel hb)
  clear hb
  go_wp2_with fail
  go_ret
  exact ⟨rfl,HF.out⟩
 have c2:decide (m1 < 0)=false:=decide_eq_false g2
 by_cases g3:10 < m1
 ·have c3:decide (10 < m1)=true:=decide_eq_true g3
  go_wp2_with fail
  refine (HAW.out _ H.out.bel).mono ?_
  rintro en wn ⟨rfl,hb⟩
  have HF:=Aside0.mk (below_step H.out.bel hb)
  clear hb
  go_wp2_with fail
  go_ret
  exact ⟨rfl,HF.out⟩
 have c3:decide (10 < m1)=false:=decide_eq_false g3
 go_wp2_with fail
 clear hs c0 c1 c2 c3
 refine (HAM.out _ x H.out.bel).mono ?_
 rintro e w2 ⟨rfl,hb⟩
 have H2:=Aside0.mk (H.out.step hb)
 clear hb hz0 hz1 hy0 hx0 hx1 hx2 hx3 H
 have H:=H2
 clear H2
 have hz0:=(blk_cell H.out.h2 0).trans rfl
 have hz1:=(blk_cell H.out.h2 1).trans rfl
 have hy0:=(blk_cell H.out.h0 0).trans rfl
 have hx0:=(blk_cell H.out.h1 0).trans rfl
 have hx1:=(blk_cell H.out.h1 1).trans rfl
 have hx2:=(blk_cell H.out.h1 2).trans rfl
 have hx3:=(blk_cell H.out.h1 3).trans rfl
 obtain ⟨a,ha⟩:∃ a,a=(amountB l0 x).1:=⟨_,rfl⟩
 obtain ⟨er,he⟩:∃ a,a=(amountB l0 x).2:=⟨_,rfl⟩
 rw [← ha,← he]
 by_cases h:er=0
 case neg =>
  have ha0:a=0:=by rw [ha];exact amount_err l0 x (by rw [← he];exact h)
  have d1:(er != 0)=true:=bne_iff_ne.mpr h
  have d2:(a == 0)=true:=beq_iff_eq.mpr ha0
  clear ha he h ha0
  go_wp2_with fail
  refine (HAW.out _ H.out.bel).mono ?_
  rintro en wn ⟨rfl,hb⟩
  have HF:=Aside0.mk (below_step H.out.bel hb)
  clear hb
  go_wp2_with fail
  go_ret
  exact ⟨rfl,HF.out⟩
 subst h
 have hok:=amount_ok l0 x he.symm
 have hmo:=amount_more l0 x m0 m1 (by omega) (by omega) he.symm
 rw [← ha] at hmo
 obtain ⟨-,a1,a2,a3,a4,a5,a6,a7,a8,-,hpk,a11,-,-⟩:=hok
 rw [← ha] at a11
 obtain ⟨y2,hy2⟩:∃ y,y=x.f2+m1:=⟨_,rfl⟩
 obtain ⟨y3,hy3⟩:∃ y,y=x.f3+m0:=⟨_,rfl⟩
 rw [← hy2,← hy3] at hmo
 have e1:wrap64 (x.f2+m1)=y2:=by rw [hy2];exact wrap_sm _ (by omega) (by omega)
 have e2:wrap64 (x.f3+m0)=y3:=by rw [hy3];exact wrap_sm _ (by omega) (by omega)
 have d1:decide (x.f0 < 0)=false:=decide_eq_false (by omega)
 have d2:decide ((l0.length:Int)≤x.f0)=false:=decide_eq_false (by omega)
 clear hy2 hy3 g0 g1 g2 g3 ha he
 have HA:=Aside0.mk a11
 have HMO:=Aside0.mk hmo
 clear a11 hmo
 go_upto_region 9 with fail
 have hb9:=heap_alloc_new w2 (.cells #[.int .i64 x.f0,.int .i64 x.f1,.int .i64 x.f2,.int .i64 x.f3] 35)
 have H2:=Aside0.mk (H.out.step (below_alloc (Below.refl _ w2) (.cells #[.int .i64 x.f0,.int .i64 x.f1,.int .i64 x.f2,.int .i64 x.f3] 35)))
 have hle9:=below_size H.out.bel
 have k0:=blk_lt H.out.h0
 have k1:=blk_lt H.out.h1
 have k2:=blk_lt H.out.h2
 obtain ⟨b9,h9⟩:∃ b,b=w2.heap.size:=⟨_,rfl⟩
 rw [← h9] at hb9 hle9 k0 k1 k2 ⊢
 clear h9 hz0 hz1 hy0 hx0 hx1 hx2 hx3 H d1 d2
 have H:=H2
 clear H2
 generalize w2.alloc (.cells #[.int .i64 x.f0,.int .i64 x.f1,.int .i64 x.f2,.int .i64 x.f3] 35)=w3 at hb9 H ⊢
 have hz0:=(blk_cell H.out.h2 0).trans rfl
 have hz1:=(blk_cell H.out.h2 1).trans rfl
 have hy0:=(blk_cell H.out.h0 0).trans rfl
 have hx0:=(blk_cell H.out.h1 0).trans rfl
 have hx1:=(blk_cell H.out.h1 1).trans rfl
 have hx2:=(blk_cell H.out.h1 2).trans rfl
 have hx3:=(blk_cell H.out.h1 3).trans rfl
 have n0:¬ b0=b9:=by omega
 have n1:¬ b1=b9:=by omega
 have n2:¬ b2=b9:=by omega
 have n3:¬ b9=b0:=by omega
 have n4:¬ b9=b1:=by omega
 have n5:¬ b9=b2:=by omega
 have HL9:=Aside0.mk hle9
 have HB9:=Aside0.mk hb9
 clear k0 k1 k2 hle9
 have hq0:=(blk_cell hb9 0).trans rfl
 have hq1:=(blk_cell hb9 1).trans rfl
 have hq2:=(blk_cell hb9 2).trans rfl
 have hq3:=(blk_cell hb9 3).trans rfl
 have hf2:=blk_frozen hb9 2
 have hf3:=blk_frozen hb9 3
 clear hb9
 go_wp2_with fail
 have HP:=Aside0.mk ((H.out.put b9 3 n0 n1 n2 HL9.out (.int .i64 y3)).put b9 2 n0 n1 n2 HL9.out (.int .i64 y2))
 refine (HAM.out _ ⟨x.f0,x.f1,y2,y3⟩ HP.out.bel).mono ?_
 rintro e w4 ⟨rfl,hb⟩
 have H2:=Aside0.mk (HP.out.step hb)
 clear hb hz0 hz1 hy0 hx0 hx1 hx2 hx3 H HP hq0 hq1 hq2 hq3 hf2 hf3 n0 n1 n2 n3 n4 n5 HB9 HL9 e1 e2
 have H:=H2
 clear H2
 obtain ⟨u,hu⟩:∃ a,a=(amountB l0 ⟨x.f0,x.f1,y2,y3⟩).1:=⟨_,rfl⟩
 obtain ⟨eu,heu⟩:∃ a,a=(amountB l0 ⟨x.f0,x.f1,y2,y3⟩).2:=⟨_,rfl⟩
 rw [← hu,← heu]
 have hmo:=HMO.out
 rw [← hu,← heu] at hmo
 clear hu heu HMO
 have HM2:=Aside0.mk hmo
 clear hmo
 go_upto_region 12 with fail
 go_cut [97] (fun v wc=>v=.bool false∧Aside0 (RR w wc b0 b1 b2 (.slice A0 l0.length c0) (.slice A1 l1.length c1) (.slice A2 l2.length c2) x m0 m1))
 case first =>
  rcases HM2.out with ⟨rfl,q2⟩|rfl
  ·have q3:decide (u < a)=false:=decide_eq_false (by omega)
   clear q2
   go_wp2_with fail
   go_meet
   case rel=>exact ⟨rfl,H⟩
  ·go_wp2_with fail
   go_meet
   case rel=>exact ⟨rfl,H⟩
 case rest =>
 obtain ⟨rfl,H'⟩:=hcut
 clear H HM2 HAM
 have H:=H'
 clear H'
 obtain ⟨ad,A5,c5,A6,c6,ea,hp0,hp1,hp2,hp3,hp4,hp5,hp6,hl5,hg5,hl6,hg6⟩:=at_T53 HR.out x.f0 a1 a2
 subst ea
 obtain ⟨p,hp⟩:∃ p,p=rd_T53 l0 x.f0:=⟨_,rfl⟩
 rw [← hp] at hp0 hp1 hp2 hp3 hp4 hp5 hp6 hl5 hg5 hl6 hg6 hpk
 have ha:=HA.out
 rw [← hp] at ha
 clear hp HA
 replace hp0:=cell_below_at H.out.bel hp0
 replace hp1:=cell_below_at H.out.bel hp1
 replace hp2:=cell_below_at H.out.bel hp2
 replace hp3:=cell_below_at H.out.bel hp3
 replace hp4:=cell_below_at H.out.bel hp4
 replace hp5:=cell_below_at H.out.bel hp5
 replace hp6:=cell_below_at H.out.bel hp6
 have hz0:=(blk_cell H.out.h2 0).trans rfl
 have hz1:=(blk_cell H.out.h2 1).trans rfl
 have hy0:=(blk_cell H.out.h0 0).trans rfl
 have hx0:=(blk_cell H.out.h1 0).trans rfl
 have hx1:=(blk_cell H.out.h1 1).trans rfl
 have hx2:=(blk_cell H.out.h1 2).trans rfl
 have hx3:=(blk_cell H.out.h1 3).trans rfl
 have HPV:=Aside0.mk (fun W (hb:Below w.heap.size w W)=>product_Volume.calls p.f0 p.f1 p.f2 p.f3 p.f4 A5 c5 p.f5 A6 c6 p.f6 x.f1 _ W (Kd.C_below hg5 hb) hl5 (Kd.C_below hg6 hb) hl6 (vol_f p x.f1 hpk a3 a4).1)
 obtain ⟨-,hv0,hv1⟩:=vol_f p x.f1 hpk a3 a4
 obtain ⟨v,hv⟩:∃ v,v=p.f1 * p.f2 * x.f1:=⟨_,rfl⟩
 rw [← hv] at HPV ha hv0 hv1
 have HV:=Aside0.mk (And.intro hv0 hv1)
 have HA:=Aside0.mk ha
 clear hv hv0 hv1 ha hg5 hg6 hl5 hl6 hpk
 go_wp2_with fail
 have Hd:=Aside0.mk H.out.drew
 clear H
 have H:=Hd
 clear Hd
 refine start_ (n:=10) (S:=fun w'=>w'.cell? ⟨b0,0,none⟩=some (.slice (some ad) l0.length c0)∧w'.cell? ⟨b1,0,none⟩=some (.int .i64 x.f0)∧w'.cell? ⟨b1,1,none⟩=some (.int .i64 x.f1)∧w'.cell? (ad.add (x.f0.toNat * 7))=some (.string p.f0)∧w'.cell? ⟨(ad.add (x.f0.toNat * 7)).block,(ad.add (x.f0.toNat * 7)).off+1,none⟩=some (.int .i64 p.f1)∧w'.cell? ⟨(ad.add (x.f0.toNat * 7)).block,(ad.add (x.f0.toNat * 7)).off+2,none⟩=some (.int .i64 p.f2)∧w'.cell? ⟨(ad.add (x.f0.toNat * 7)).block,(ad.add (x.f0.toNat * 7)).off+3,none⟩=some (.int .i64 p.f3)∧w'.cell? ⟨(ad.add (x.f0.toNat * 7)).block,(ad.add (x.f0.toNat * 7)).off+4,none⟩=some (.int .i64 p.f4)∧w'.cell? ⟨(ad.add (x.f0.toNat * 7)).block,(ad.add (x.f0.toNat * 7)).off+5,none⟩=some (.slice A5 p.f5.length c5)∧w'.cell? ⟨(ad.add (x.f0.toNat * 7)).block,(ad.add (x.f0.toNat * 7)).off+6,none⟩=some (.slice A6 p.f6.length c6)) (ds:=[8]) (bitsA 10 0) (by kernel_rfl) rfl rfl ⟨hy0,hx0,hx1,hp0,hp1,hp2,hp3,hp4,hp5,hp6⟩ (fun hHeld=>?_)
 clear hz0 hz1 hy0 hx0 hx1 hx2 hx3 hp0 hp1 hp2 hp3 hp4 hp5 hp6
 generalize wc.drew=wd at H hHeld ⊢
 refine with_tabW sawmilllaw50_BillRounds.tab14 sawmilllaw50_BillRounds.bits14 (fun HT_ HW_=>?_)
 refine pure_ (i:=0) (N:=some 98) (v:=?_) (a':=?_) (bitsA 10 1) rfl rfl (any_of HT_.out (by kernel_rfl)) (fun _ _ _ h=>h) (Or.inl ⟨by rfl,?_⟩) ?_ ?_
 rotate_left;(intro w';go_simp;with_reducible rfl);rotate_left;(simp only [Act.put,List.setIfInBounds_toArray,List.set_cons_zero,List.set_cons_succ,i64_w,i32_w];rfl)
 refine pure_ (i:=2) (N:=some 100) (v:=?_) (a':=?_) (bitsA 10 5) rfl rfl (any_of HT_.out (by kernel_rfl)) (fun _ _ _ h=>h) (Or.inl ⟨by rfl,?_⟩) ?_ ?_
 rotate_left;(intro w';go_simp;with_reducible rfl);rotate_left;(simp only [Act.put,List.setIfInBounds_toArray,List.set_cons_zero,List.set_cons_succ,i64_w,i32_w];rfl)
 refine pure_ (i:=6) (N:=some 104) (v:=?_) (a':=?_) (bitsA 10 69) rfl rfl (any_of HT_.out (by kernel_rfl)) (fun _ _ _ h=>h) (Or.inl ⟨by rfl,?_⟩) ?_ ?_
 rotate_left;(intro w';go_simp;with_reducible rfl);rotate_left;(simp only [Act.put,List.setIfInBounds_toArray,List.set_cons_zero,List.set_cons_succ,i64_w,i32_w];rfl)
 refine take_ (i:=1) (N:=some 99) (v:=?_) (a':=?_) (bitsA 10 71) rfl rfl (take_ofW HT_.out HW_.out (by kernel_rfl)) (fun _ _ _ h=>h) (Or.inl ⟨by rfl,?_⟩) hHeld ?_ ?_
 rotate_left;(rintro w' ⟨s0,s1,s2,s3,s4,s5,s6,s7,s8,s9⟩;go_simp;with_reducible rfl);rotate_left;(simp only [Act.put,List.setIfInBounds_toArray,List.set_cons_zero,List.set_cons_succ,i64_w,i32_w];rfl)
 refine take_ (i:=3) (N:=some 101) (v:=?_) (a':=?_) (bitsA 10 79) rfl rfl (take_ofW HT_.out HW_.out (by kernel_rfl)) (fun _ _ _ h=>h) (Or.inl ⟨by rfl,?_⟩) hHeld ?_ ?_
 rotate_left;(rintro w' ⟨s0,s1,s2,s3,s4,s5,s6,s7,s8,s9⟩;go_simp;with_reducible rfl);rotate_left;(simp only [Act.put,List.setIfInBounds_toArray,List.set_cons_zero,List.set_cons_succ,i64_w,i32_w];rfl)
 refine pure_ (i:=4) (N:=some 102) (v:=?_) (a':=?_) (bitsA 10 95) rfl rfl (any_of HT_.out (by kernel_rfl)) (fun _ _ _ h=>h) (Or.inl ⟨by rfl,?_⟩) ?_ ?_
 rotate_left;(intro w';go_simp;with_reducible rfl);rotate_left;(simp only [Act.put,List.setIfInBounds_toArray,List.set_cons_zero,List.set_cons_succ,i64_w,i32_w];rfl)
 refine take_ (i:=5) (N:=some 103) (v:=?_) (a':=?_) (bitsA 10 127) rfl rfl (take_ofW HT_.out HW_.out (by kernel_rfl)) (fun _ _ _ h=>h) (Or.inl ⟨by rfl,?_⟩) hHeld ?_ ?_
 rotate_left;(rintro w' ⟨s0,s1,s2,s3,s4,s5,s6,s7,s8,s9⟩;go_simp;with_reducible rfl);rotate_left;(simp only [Act.put,List.setIfInBounds_toArray,List.set_cons_zero,List.set_cons_succ,i64_w,i32_w];rfl)
 refine take_ (i:=7) (N:=some 105) (v:=?_) (a':=?_) (bitsA 10 255) rfl rfl (take_ofW HT_.out HW_.out (by kernel_rfl)) (fun _ _ _ h=>h) (Or.inl ⟨by rfl,?_⟩) hHeld ?_ ?_
 rotate_left;(rintro w' ⟨s0,s1,s2,s3,s4,s5,s6,s7,s8,s9⟩;go_simp;with_reducible rfl);rotate_left;(simp only [Act.put,List.setIfInBounds_toArray,List.set_cons_zero,List.set_cons_succ,i64_w,i32_w];rfl)
 refine last_ (i:=8) (N:=some 106) #[true,true,true,true,true,true,true,true,true,false] rfl rfl (one_of HT_.out (by kernel_rfl)) (by decide) (fun K hK=>?_)
 refine goes_ Tryd.func22 (by kernel_rfl) rfl #[.agg #[.string p.f0,.int .i64 p.f1,.int .i64 p.f2,.int .i64 p.f3,.int .i64 p.f4,.slice A5 p.f5.length c5,.slice A6 p.f6.length c6],.int .i64 x.f1] (by rfl) rfl rfl (by simp only [List.map_toArray,List.map_cons,List.map_nil];rfl) ?_
 with_reducible refine (HPV.out wd H.out.bel).mono ?_
 rintro e w5 ⟨rfl,hb5⟩
 refine ⟨_,rfl,?_⟩
 have H5:=Aside0.mk (H.out.step hb5)
 clear hb5
 refine hK.out _ _ ?_
 clear hK K
 refine norm_ (a':=?_) ?_ ?_
 rotate_left
 ·show Act.put _ (some 106) _=_
  simp only [Act.put,List.setIfInBounds_toArray,List.set_cons_zero,List.set_cons_succ,i64_w,i32_w]
  rfl
 refine pure_ (i:=9) (N:=some 12) (v:=?_) (a':=?_) (bitsA 10 1023) rfl rfl (any_of HT_.out (by kernel_rfl)) (fun _ _ _ h=>h) (Or.inl ⟨by rfl,?_⟩) ?_ ?_
 rotate_left;(intro w';go_simp;with_reducible rfl);rotate_left;(simp only [Act.put,List.setIfInBounds_toArray,List.set_cons_zero,List.set_cons_succ,i64_w,i32_w];rfl)
 refine done_ (done_of HT_.out (by kernel_rfl)) ?_
 have H:=H5
 clear H5
 have hz0:=(blk_cell H.out.h2 0).trans rfl
 have hz1:=(blk_cell H.out.h2 1).trans rfl
 have hy0:=(blk_cell H.out.h0 0).trans rfl
 have hx0:=(blk_cell H.out.h1 0).trans rfl
 have hx1:=(blk_cell H.out.h1 1).trans rfl
 have hx2:=(blk_cell H.out.h1 2).trans rfl
 have hx3:=(blk_cell H.out.h1 3).trans rfl
 have d1:decide (v < 0)=false:=decide_eq_false (by have:=HV.out;omega)
 have d3:decide (x.f2 < 0)=false:=decide_eq_false (by omega)
 have d4:decide (200 < x.f2)=false:=decide_eq_false (by omega)
 have d6:decide (x.f3 < 0)=false:=decide_eq_false (by omega)
 have d7:decide (1000000000 < x.f3)=false:=decide_eq_false (by omega)
 obtain ⟨p1,e1⟩:∃ y,wrap64 (v * x.f2)=y:=⟨_,rfl⟩
 have HE1:=Aside0.mk e1
 by_cases g1:2000000000 < v
 ·have d2:decide (2000000000 < v)=true:=decide_eq_true g1
  go_wp2_with fail
  refine (HAW.out _ H.out.bel).mono ?_
  rintro en wn ⟨rfl,hb⟩
  have HF:=Aside0.mk (below_step H.out.bel hb)
  clear hb
  go_wp2_with fail
  go_ret
  exact ⟨rfl,HF.out⟩
 have d2:decide (2000000000 < v)=false:=decide_eq_false g1
 by_cases g2:2000000000 < p1
 ·have d5:decide (2000000000 < p1)=true:=decide_eq_true g2
  go_wp2_with fail
  refine (HAW.out _ H.out.bel).mono ?_
  rintro en wn ⟨rfl,hb⟩
  have HF:=Aside0.mk (below_step H.out.bel hb)
  clear hb
  go_wp2_with fail
  go_ret
  exact ⟨rfl,HF.out⟩
 have d5:decide (2000000000 < p1)=false:=decide_eq_false g2
 by_cases g3:a < 0
 ·have d8:decide (a < 0)=true:=decide_eq_true g3
  go_wp2_with fail
  refine (HAW.out _ H.out.bel).mono ?_
  rintro en wn ⟨rfl,hb⟩
  have HF:=Aside0.mk (below_step H.out.bel hb)
  clear hb
  go_wp2_with fail
  go_ret
  exact ⟨rfl,HF.out⟩
 have d8:decide (a < 0)=false:=decide_eq_false g3
 by_cases g4:2000000000 < a
 ·have d9:decide (2000000000 < a)=true:=decide_eq_true g4
  go_wp2_with fail
  refine (HAW.out _ H.out.bel).mono ?_
  rintro en wn ⟨rfl,hb⟩
  have HF:=Aside0.mk (below_step H.out.bel hb)
  clear hb
  go_wp2_with fail
  go_ret
  exact ⟨rfl,HF.out⟩
 have d9:decide (2000000000 < a)=false:=decide_eq_false g4
 have hfin:=rounds_fin v x.f2 x.f3 a HV.out.1 HV.out.2 a5 a6 a7 a8 (by rw [e1];omega) HA.out (by omega)
 rw [e1] at hfin
 clear HE1 HA HV g1 g2 g3 g4
 obtain ⟨p2,e2⟩:∃ y,wrap64 (p1 * x.f3)=y:=⟨_,rfl⟩
 rw [e2] at hfin
 obtain ⟨p3,e3⟩:∃ y,wrap64 (2 * p2)=y:=⟨_,rfl⟩
 rw [e3] at hfin
 obtain ⟨p4,e4⟩:∃ y,wrap64 (p3 - 1000000000)=y:=⟨_,rfl⟩
 obtain ⟨p5,e5⟩:∃ y,wrap64 (p3+1000000000)=y:=⟨_,rfl⟩
 obtain ⟨p6,e6⟩:∃ y,wrap64 (2000000000 * a)=y:=⟨_,rfl⟩
 rw [e4,e5,e6] at hfin
 have f1:decide (p4 < p6)=true:=decide_eq_true hfin.1
 have f2:decide (p6≤p5)=true:=decide_eq_true hfin.2
 clear hfin
 go_wp2_with fail
 refine (HAW.out _ H.out.bel).mono ?_
 rintro en wn ⟨rfl,hb⟩
 have HF:=Aside0.mk (below_step H.out.bel hb)
 clear hb
 go_wp2_with fail
 go_ret
 exact ⟨rfl,HF.out⟩
end Go.Proofs.YtojkjhaobjidlaaDoor.P
namespace Go.Proofs.YtojkjhaobjidlaaDoor.billRounds
open Go.ChangeShapes Go.WideShapes Go.ChangeAt Go.WideMaps Go.WideElems Go.RowKit Go.Proofs.YtojkjhaobjidlaaDoor.P Go.Proofs.YtojkjhaobjidlaaDoorW.PrintWords
set_option linter.unusedVariables false
set_option maxRecDepth 100000 in
theorem lifted (os:Os) (started:os.Started) (H:Type) (enc:TypeId × Value→H) :
  ReturnsInHanded {} Tryd.checked os 7 .any (fun w args=>(Rows.billRoundsSpec.pre enc Tryd.prog Tryd.f7 [] false w args∧laidMetH Tryd.prog laid3 w)∧sizedMet enc Tryd.prog Tryd.f7 (OpenSpec.ofChange Rows.billRoundsSpec) false w args)
   (Rows.billRoundsSpec.post enc Tryd.prog Tryd.f7 false true false false):=by
 refine returnsInHanded_of_change_and (C:=Tryd.checked) (X:=fun w _=>laidMetH Tryd.prog laid3 w) (fun _ _ _ hh h=>h.of_heap hh) own started (by kernel_rfl) Tryd.func7
  (ChangeSpec.witness_shaped (enc:=enc) (C:=Tryd.checked) (os:=os) (X:=fun w _=>laidMetH Tryd.prog laid3 w) false (World.doorLaid Tryd.prog 38 os) #[.agg #[.slice none 0 0,.slice none 0 0,.slice none 0 0],.agg #[.int .i64 0,.int .i64 0,.int .i64 0,.int .i64 0],.agg #[.int .i64 0,.int .i64 0]] 8 rfl (World.shaped_of_RefB (by kernel_rfl) (by kernel_rfl)) (by kernel_rfl) (by kernel_rfl) (by kernel_rfl) (door_met os _)) ?_
 intro W base args ds gs before hval0 hW _ _ hL _
 have hval:∀ (j:Nat) t v,Tryd.f7.params[j]?=some t→args[j]?=some v→Value.okWide Tryd.prog W .any base t v:=hval0
 have hW':=hW
 obtain ⟨p,q,hA0,hV,rfl,hfz,hnd⟩:=hW
 have hA:DataW.TrodAll enc Tryd.prog W 0 (fun _=>true) true Tryd.f7.params.toList args.toList ds p:=hA0
 rw [Tryd.params7] at hA hval
 obtain ⟨v0,vs0,d0,ds0,p0,q0,hargs,rfl,rfl,h0,r0⟩:=trodAll_cons hA
 obtain ⟨v1,vs1,d1,ds1,p1,q1,rfl,rfl,rfl,h1,r1⟩:=trodAll_cons r0
 obtain ⟨v2,vs2,d2,ds2,p2,q2,rfl,rfl,rfl,h2,r2⟩:=trodAll_cons r1
 obtain ⟨rfl,rfl,rfl⟩:=trodAll_nil r2
 obtain rfl:args=#[v0,v1,v2]:=by cases args;simp_all
 obtain ⟨rfl,rfl⟩:=trodVars_none hV
 have k0:=h0
 have lt0:∀ x ∈ p0,x.block < W.heap.size:=by obtain ⟨m,hm⟩:=k0;exact DataW.trod_lt m _ _ _ hm
 obtain ⟨fu0,hf0⟩:=h0
 obtain ⟨cs0,rfl,_⟩:=okWide_struct Tryd.underlying26 (hval 0 26 v0 rfl rfl)
 obtain ⟨a0_0,A0_0,c0_0,l0_0,g0_0,a0_1,A0_1,c0_1,l0_1,g0_1,a0_2,A0_2,c0_2,l0_2,g0_2,e0⟩:=opens_inv H enc W _ _ _ hf0
 obtain rfl:cs0=#[.slice A0_0 a0_0.length c0_0,.slice A0_1 a0_1.length c0_1,.slice A0_2 a0_2.length c0_2]:=Array.toList_inj.mp e0
 have k1:=h1
 have lt1:∀ x ∈ p1,x.block < W.heap.size:=by obtain ⟨m,hm⟩:=k1;exact DataW.trod_lt m _ _ _ hm
 obtain ⟨fu1,hf1⟩:=h1
 obtain ⟨cs1,rfl,_⟩:=okWide_struct Tryd.underlying35 (hval 1 35 v1 rfl rfl)
 obtain ⟨a1,ha1⟩:=opens_item H enc W _ _ _ hf1
 have e1:=k35_open ha1
 obtain rfl:cs1=#[.int .i64 a1.f0,.int .i64 a1.f1,.int .i64 a1.f2,.int .i64 a1.f3]:=Array.toList_inj.mp e1
 have k2:=h2
 have lt2:∀ x ∈ p2,x.block < W.heap.size:=by obtain ⟨m,hm⟩:=k2;exact DataW.trod_lt m _ _ _ hm
 obtain ⟨fu2,hf2⟩:=h2
 obtain ⟨cs2,rfl,_⟩:=okWide_array ui2 (hval 2 49 v2 rfl rfl)
 obtain ⟨x2_0,x2_1,e2⟩:=opens_i2 H enc W _ _ _ hf2
 obtain rfl:cs2=#[.int .i64 x2_0,.int .i64 x2_1]:=Array.toList_inj.mp e2
 refine (rounds_calls _ _ a0_0 _ _ a0_1 _ _ a0_2 a1 x2_0 x2_1 W g0_0 l0_0 g0_1 l0_1 g0_2 l0_2 ⟨glob_of hL⟩).mono fun e W' ⟨he,bel⟩=>?_
 subst he
 exact ⟨_,rfl,_,_,_,[],_,[],hW',trodAll_mk1 (shut_bool Tryd.underlying4 _),(trodAll_cons_mk (Below.trod laidOut (by kernel_rfl) (of_decide_eq_true (by kernel_rfl)) k0 bel lt0) (trodAll_cons_mk (Below.trod laidOut (by kernel_rfl) (of_decide_eq_true (by kernel_rfl)) k1 bel lt1) (trodAll_cons_mk (Below.trod laidOut (by kernel_rfl) (of_decide_eq_true (by kernel_rfl)) k2 bel lt2) trodAll_mk0))),rfl,bel.frame _,fun h=>by cases h⟩
theorem holds:Rows.BillRoundsSaid :=
 OpenClaim.holds_of_wide 7 Tryd.f7 rfl rfl rfl rfl rfl rfl rfl ⟨rfl,rfl,rfl,rfl,rfl⟩ rfl rfl rfl rfl rfl (by kernel_rfl) Tryd.func7 (by kernel_rfl)
  (of_decide_eq_true (by kernel_rfl)) (by unfold Func.isWrapper;first|(rw [if_pos (by decide +kernel)];kernel_rfl)|(rw [if_neg (by decide +kernel)];exact ⟨rfl,rfl⟩))
  (fun os started H enc _=>lifted os started H enc)
theorem card_holds:Rows.BillRoundsCardSaid :=
 Claim7.holds_tied_plain_at .later [] [.data, .data, .data] true (true, "19f5dea25a4b6f3af804689818080770bcddf1653a3dc0e8785111f2bf0fa93c") false
  holds (fun _ h=>by cases h) (by kernel_rfl) (fun _ h=>by cases h) billRounds_row_tie rfl ⟨rfl,rfl⟩ (by kernel_rfl) rfl
  (fun f fn hf hfn=>by
   obtain rfl : f = 7 := Option.some.inj ((show Tryd.prog.funcNamed "sawmill/sawmilllaw50.BillRounds" = some 7 by kernel_rfl).symm.trans hf) |>.symm
   obtain rfl:fn=Tryd.f7:=(Option.some.inj (Tryd.func7.symm.trans hfn)).symm
   exact ⟨by kernel_rfl,fun j t ht=>by
    rw [Tryd.params7] at ht
    have hm:t ∈ [26,35,49]:=by simpa using Array.mem_of_getElem? ht
    have hall:([26,35,49].all fun u=>!Tryd.prog.wantsStandIn u)=true:=by kernel_rfl
    exact (show Tryd.prog.wantsStandIn t=false by simpa using List.all_eq_true.1 hall t hm)⟩)
  (by kernel_rfl)
end Go.Proofs.YtojkjhaobjidlaaDoor.billRounds
namespace Go.Proofs.YtojkjhaobjidlaaDoor
theorem billRounds_card:Rows.BillRoundsCardSaid:=billRounds.card_holds
end Go.Proofs.YtojkjhaobjidlaaDoor
