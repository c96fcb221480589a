/-
  The statement BillDiscounts of this chapter holds for every input, as its tied card says; no conditions.
-/
import Derived.Laws.Strings
import Derived.Test.YtojkjhaobjidlaaDoorMb2
import Derived.Test.YtojkjhaobjidlaaDoorMb3
import Derived.Test.YtojkjhaobjidlaaDoorTie
import Derived.Test.YtojkjhaobjidlaaDoorCards
import Derived.WalkKit
import Derived.ProofKit
import Derived.OpenShut
import Derived.ShutString
import Derived.ChangeOld
import Derived.Below
import Derived.Carry
import Derived.SizedLaws
import Derived.Stop.Joined
import Derived.SevenTiedAt
import Derived.LaidMore
namespace Go.Proofs.YtojkjhaobjidlaaDoor.P
open Go.RowKit Go.Proofs.YtojkjhaobjidlaaDoorW.PrintWords Go.Proofs.YtojkjhaobjidlaaDoorW.PrintLast
set_option linter.unusedVariables false
set_option linter.unusedSimpArgs false
def nmc (c:Int):Bool:=decide (48≤c∧c≤57) || decide (c=95) || decide (97≤c∧c≤122)
def allFrom (p:Int→Bool) (s:ByteArray):Nat→Nat→Bool
 | 0,_=>true
 | d+1,i=>p (bt s i) && allFrom p s d (i+1)
def isNm (s:ByteArray):Bool:=decide (1≤s.size) && decide (s.size≤16) && decide (97≤bt s 0) && decide (bt s 0≤122) && allFrom nmc s s.size 0
theorem wrap_nat (i:Nat) (n:Nat) (h:i≤n) (hn:n≤140737488351232):wrap64 ((i:Int)+1)=((i+1:Nat):Int):=by
 unfold wrap64
 omega
theorem ident_l0 (s:ByteArray) (hs:s.size≤140737488351232):∀ (d k i:Nat),i+d=s.size→d < k→ident_IsName.l0 k s (s.size:Int) (i:Int)=some (allFrom nmc s d i):=by
 intro d
 induction d with
 | zero =>
  intro k i hi hk
  obtain ⟨k,rfl⟩:∃ m,k=m+1:=⟨k - 1,by omega⟩
  simp only [ident_IsName.l0]
  rw [if_neg (by omega)]
  rfl
 | succ d ih =>
  intro k i hi hk
  obtain ⟨k,rfl⟩:∃ m,k=m+1:=⟨k - 1,by omega⟩
  simp only [ident_IsName.l0]
  rw [if_pos (by omega),if_pos (by omega),if_pos (by omega),wrap_nat i s.size (by omega) hs,ih k (i+1) (by omega) (by omega)]
  simp only [allFrom]
  generalize bt s (i:Int)=c
  unfold ident_digit.f nmc
  by_cases h1:48≤c
  ·rw [if_pos h1,Option.bind_some]
   by_cases h2:c≤57
   ·simp [h1,h2]
   ·by_cases h3:c=95
    ·simp [h1,h2,h3]
    ·by_cases h4:c < 97
     ·simp [h1,h2,h3,h4];omega
     ·by_cases h5:c > 122
      ·simp [h1,h2,h3,h4,h5];omega
      ·simp [h1,h2,h3,h4,h5];omega
  ·rw [if_neg h1,Option.bind_some]
   have h3:¬ c=95:=by omega
   have h4:c < 97:=by omega
   simp [h1,h3,h4]
   omega
theorem size_nil (s:ByteArray):s.toList=[] ↔ s.size=0:=by
 rw [ByteArray.toList_eq,List.eq_nil_iff_length_eq_zero,Array.length_toList]
 rfl
theorem ident_name (s:ByteArray) (hs:s.size≤140737488351232) (k:Nat) (hk:s.size+1 < k):ident_IsName.f k s=some (isNm s):=by
 obtain ⟨k,rfl⟩:∃ m,k=m+1:=⟨k - 1,by omega⟩
 unfold ident_IsName.f isNm
 have hj:∀ b,ident_IsName.j0 (k+1) s b=if b=true then some false else some (allFrom nmc s s.size 0):=by
  intro b
  simp only [ident_IsName.j0]
  rw [show (0:Int)=((0:Nat):Int) from rfl,ident_l0 s hs s.size k 0 (by omega) (by omega)]
 simp only [hj,size_nil]
 by_cases h0:s.size=0
 ·rw [if_pos h0];simp [h0]
 ·rw [if_neg h0]
  by_cases h1:(s.size:Int) > 16
  ·rw [if_pos h1]
   have:¬ s.size≤16:=by omega
   simp [this]
  ·rw [if_neg h1,if_pos (by omega)]
   have e1:1≤s.size:=by omega
   have e2:s.size≤16:=by omega
   obtain ⟨m,hm⟩:∃ m,s.size=m+1:=⟨s.size - 1,by omega⟩
   rw [hm]
   simp only [allFrom]
   generalize allFrom nmc s m (0+1)=rest
   rw [show ((0:Nat):Int)=(0:Int) from rfl]
   generalize bt s 0=c
   have e3:1≤m+1:=by omega
   have e4:m+1≤16:=by omega
   unfold ident_digit.f nmc
   by_cases g1:48≤c<;>by_cases g2:c≤57<;>by_cases g3:c=95<;>by_cases g4:97≤c<;>by_cases g5:c≤122<;>first|(exfalso;omega)|simp [e3,e4,g1,g2,g3,g4,g5]
theorem ident_at (s:ByteArray) (k:Nat):ident_IsName.f (20+k) s=some (isNm s):=by
 by_cases h:s.size≤16
 ·exact ident_name s (by omega) (20+k) (by omega)
 ·obtain ⟨k,hk⟩:∃ m,20+k=m+1:=⟨19+k,by omega⟩
  rw [hk]
  unfold ident_IsName.f isNm
  simp only [size_nil]
  rw [if_neg (by omega),if_pos (by omega)]
  simp [ident_IsName.j0,h]
theorem ident_nm (s:ByteArray):ident_IsName.f 20 s=some (isNm s):=by
 by_cases h:s.size≤16
 ·exact ident_name s (by omega) 20 (by omega)
 ·unfold ident_IsName.f isNm
  simp only [size_nil]
  rw [if_neg (by omega),if_pos (by omega)]
  simp [ident_IsName.j0,h]
end Go.Proofs.YtojkjhaobjidlaaDoor.P
namespace Go.Proofs.YtojkjhaobjidlaaDoor.P
open Go.RowKit Go.Proofs.YtojkjhaobjidlaaDoorW.PrintWords Go.Proofs.YtojkjhaobjidlaaDoorW.PrintMore
set_option linter.unusedVariables false
set_option linter.unusedSimpArgs false
abbrev PR:=S53
theorem rdP_get {l:List PR} (i:Nat) (h:i < l.length):rd_T53 l (i:Int)=l[i]:=by
 unfold rd_T53
 rw [List.getD_eq_getElem?_getD,List.getElem?_eq_getElem (by simpa using h)]
 simp
theorem rdP_drop {l:List PR} (i:Nat) (h:i < l.length):l.drop i=rd_T53 l (i:Int) :: l.drop (i+1):=by
 rw [List.drop_eq_getElem_cons h,rdP_get i h]
theorem rd_get_ {l:List Int} (i:Nat) (h:i < l.length):rd l (i:Int)=l[i]:=by
 unfold rd
 simp [h]
theorem rd_drop_ {l:List Int} (i:Nat) (h:i < l.length):l.drop i=rd l (i:Int) :: l.drop (i+1):=by
 rw [List.drop_eq_getElem_cons h,rd_get_ i h]
def fnd (n:ByteArray):List PR→Nat→Int × Bool
 | [],_=>(0,false)
 | p :: l,i=>if p.f0.toList=n.toList then ((i:Int),true) else fnd n l (i+1)
theorem find_l0 (n:ByteArray) (l:List PR) (hl:l.length≤1000000):∀ (d k i:Nat),i+d=l.length→d < k→product_Find.l0 k n l (l.length:Int) (i:Int)=some (fnd n (l.drop i) i):=by
 intro d
 induction d with
 | zero =>
  intro k i hi hk
  obtain ⟨k,rfl⟩:∃ m,k=m+1:=⟨k - 1,by omega⟩
  simp only [product_Find.l0]
  rw [if_neg (by omega),List.drop_of_length_le (by omega)]
  rfl
 | succ d ih =>
  intro k i hi hk
  obtain ⟨k,rfl⟩:∃ m,k=m+1:=⟨k - 1,by omega⟩
  have h2:i < l.length:=by omega
  simp only [product_Find.l0]
  rw [if_pos (by omega),if_pos (by omega),if_pos (by omega),wrap_nat i 1000000 (by omega) (by omega),ih k (i+1) (by omega) (by omega),rdP_drop i h2]
  rw [fnd]
  by_cases h:(rd_T53 l (i:Int)).f0.toList=n.toList
  ·rw [if_pos h,if_pos h]
  ·rw [if_neg h,if_neg h]
theorem find_f (n:ByteArray) (l:List PR) (hl:l.length≤1000000) (k:Nat) (hk:l.length < k):product_Find.f k l n=some (fnd n l 0):=by
 unfold product_Find.f
 exact find_l0 n l hl l.length k 0 (by omega) hk
def greenB (t w a:Int):Int × Int:=if t < 1 ∨ w < 1 ∨ 600 < t ∨ 600 < w ∨ a < 0 ∨ 200 < a then (0,0) else ((t * (1000+a)+999) / 1000,(w * (1000+a)+999) / 1000)
theorem floor_f (t a:Int) (h1:1≤t) (h2:t≤600) (h3:0≤a) (h4:a≤200):units_Floor.f (wrap64 ((wrap64 ((wrap64 (t * (wrap64 (1000+a))))+1000)) - 1)) 1000=some ((t * (1000+a)+999) / 1000,true):=by
 have e1:wrap64 (1000+a)=1000+a:=by unfold wrap64;omega
 have hm0:0≤t * (1000+a):=Int.mul_nonneg (by omega) (by omega)
 have hm1:t * (1000+a)≤600 * 1200:=Int.mul_le_mul h2 (by omega) (by omega) (by omega)
 rw [e1]
 generalize t * (1000+a)=m at hm0 hm1 ⊢
 have e2:wrap64 m=m:=by unfold wrap64;omega
 have e3:wrap64 (m+1000)=m+1000:=by unfold wrap64;omega
 have e4:wrap64 (m+1000 - 1)=m+999:=by unfold wrap64;omega
 rw [e2,e3,e4]
 unfold units_Floor.f
 rw [if_pos (by omega),if_pos (by omega),if_pos (by omega)]
theorem green_f (n:ByteArray) (t w a x:Int) (L P:List Int) (k:Nat) (hk:0 < k):product_Green.f k n t w a x L P=some (greenB t w a):=by
 obtain ⟨k,rfl⟩:∃ m,k=m+1:=⟨k - 1,by omega⟩
 unfold product_Green.f greenB mn mx
 simp only [product_Green.j0,if_true,decide_eq_true_eq,gt_iff_lt]
 by_cases h1:t < 1 ∨ w < 1
 ·rw [if_pos (by split<;>omega),if_pos (by omega)]
 ·rw [if_neg (by split<;>omega)]
  by_cases h2:600 < t ∨ 600 < w
  ·rw [if_pos (by split<;>omega),if_pos (by omega)]
  ·rw [if_neg (by split<;>omega)]
   by_cases h3:a < 0
   ·rw [if_pos h3,if_pos (by omega)]
   ·rw [if_neg h3]
    by_cases h4:200 < a
    ·rw [if_pos h4,if_pos (by omega)]
    ·rw [if_neg h4,if_neg (by omega),floor_f t a (by omega) (by omega) (by omega) (by omega),floor_f w a (by omega) (by omega) (by omega) (by omega)]
     rfl
def sizedB (t w a x:Int):Bool:=!(decide (t < 5) || (decide (300 < t) || (decide (w < t) || (decide (600 < w) || (decide (a < 0) || (decide (200 < a) || (decide (x < 0) || (decide (1000 < x) || decide (600 < (greenB t w a).2)))))))))
theorem sized_f (n:ByteArray) (t w a x:Int) (L P:List Int) (k:Nat) (hk:1 < k):product_sized.f k n t w a x L P=some (sizedB t w a x):=by
 obtain ⟨k,rfl⟩:∃ m,k=m+1:=⟨k - 1,by omega⟩
 unfold product_sized.f sizedB
 simp only [product_sized.j0,green_f n t w a x L P k (by omega),Option.bind_some]
 by_cases h1:t < 5
 ·simp [h1]
 by_cases h2:300 < t
 ·simp [h1,h2]
 by_cases h3:w < t
 ·simp [h1,h2,h3]
 by_cases h4:600 < w
 ·simp [h1,h2,h3,h4]
 by_cases h5:a < 0
 ·simp [h1,h2,h3,h4,h5]
 by_cases h6:200 < a
 ·simp [h1,h2,h3,h4,h5,h6]
 by_cases h7:x < 0
 ·simp [h1,h2,h3,h4,h5,h6,h7]
 by_cases h8:1000 < x
 ·simp [h1,h2,h3,h4,h5,h6,h7,h8]
 simp [h1,h2,h3,h4,h5,h6,h7,h8]
 by_cases h9:(greenB t w a).2≤600
 ·simp [h9]<;>omega
 ·simp [h9]<;>omega
def leQ (n:Int):Option Int→Bool
 | none=>false
 | some p=>decide (n≤p)
def lensGo:Option Int→List Int→Int
 | _,[]=>0
 | q,n :: l=>if n < 100 ∨ 20000 < n then 9 else if leQ n q=true then 11 else lensGo (some n) l
def priceOk (n:Int):Bool:=!(decide (n < 0) || decide (1000000 < n))
def pricesE (P:List Int):Int:=if P.all priceOk=true then 0 else 9
def lensE (L P:List Int):Int:=if L.length=0 then 3 else if 8 < L.length then 4 else if L.length=P.length then (if lensGo none L=0 then pricesE P else lensGo none L) else 19
theorem prices_l1 (P:List Int) (hP:P.length≤1000):∀ (d k i:Nat),i+d=P.length→d < k→product_checkLengths.l1 k P (P.length:Int) (i:Int)=some (pricesE (P.drop i)):=by
 intro d
 induction d with
 | zero =>
  intro k i hi hk
  obtain ⟨k,rfl⟩:∃ m,k=m+1:=⟨k - 1,by omega⟩
  simp only [product_checkLengths.l1]
  rw [if_neg (by omega),List.drop_of_length_le (by omega)]
  rfl
 | succ d ih =>
  intro k i hi hk
  obtain ⟨k,rfl⟩:∃ m,k=m+1:=⟨k - 1,by omega⟩
  have h2:i < P.length:=by omega
  simp only [product_checkLengths.l1]
  rw [if_pos (by omega),if_pos (by omega),if_pos (by omega),wrap_nat i 1000000 (by omega) (by omega),ih k (i+1) (by omega) (by omega),rd_drop_ i h2]
  unfold pricesE
  rw [List.all_cons]
  generalize rd P (i:Int)=c
  generalize (P.drop (i+1)).all priceOk=b
  unfold priceOk
  by_cases g1:c < 0
  ·simp [g1]
  ·by_cases g2:c > 1000000
   ·simp [g1,g2]
   ·simp [g1,g2]
def prevOf (L:List Int) (i:Nat):Option Int:=if i=0 then none else some (rd L ((i:Int) - 1))
theorem lens_l0 (n:ByteArray) (t w a x:Int) (L P:List Int) (hL:L.length≤1000) (hP:P.length≤1000):∀ (d k i:Nat),i+d=L.length→2 * d+P.length+1 < k→product_checkLengths.l0 k L (L.length:Int) (i:Int) n t w a x L P=some (if lensGo (prevOf L i) (L.drop i)=0 then pricesE P else lensGo (prevOf L i) (L.drop i)):=by
 intro d
 induction d with
 | zero =>
  intro k i hi hk
  obtain ⟨k,rfl⟩:∃ m,k=m+1:=⟨k - 1,by omega⟩
  simp only [product_checkLengths.l0]
  rw [if_neg (by omega),List.drop_of_length_le (by omega)]
  have:=prices_l1 P hP P.length k 0 (by omega) (by omega)
  rw [show ((0:Nat):Int)=0 from rfl] at this
  rw [this]
  simp [lensGo]
 | succ d ih =>
  intro k i hi hk
  obtain ⟨k,rfl⟩:∃ m,k=m+2:=⟨k - 2,by omega⟩
  have h2:i < L.length:=by omega
  have e:wrap64 ((i:Int)+1)=((i+1:Nat):Int):=wrap_nat i 1000000 (by omega) (by omega)
  have hi2:=ih k (i+1) (by omega) (by omega)
  have hp:prevOf L (i+1)=some (rd L (i:Int)):=by
   unfold prevOf
   rw [if_neg (by omega),show ((i+1:Nat):Int) - 1=(i:Int) by omega]
  rw [hp] at hi2
  simp only [product_checkLengths.l0,product_checkLengths.j1]
  rw [if_pos (by omega),if_pos (by omega),if_pos (by omega),e,hi2,rd_drop_ i h2]
  rw [lensGo]
  obtain ⟨q,hq⟩:∃ q,q=rd L ((i:Int) - 1):=⟨_,rfl⟩
  have hpv:prevOf L i=if i=0 then none else some q:=by rw [hq];rfl
  rw [hpv]
  generalize hc:rd L (i:Int)=c
  by_cases g1:c < 100
  ·simp [g1]
  by_cases g2:20000 < c
  ·simp [g1,g2]
  simp only [g1,g2,or_self,if_false,decide_false,Bool.false_eq_true,if_neg,gt_iff_lt]
  by_cases hz:i=0
  ·subst hz
   simp [leQ]
  ·have hw:wrap64 ((i:Int) - 1)=(i:Int) - 1:=by unfold wrap64;omega
   rw [if_pos (by omega),hw,if_pos (by omega),if_pos (by omega),if_neg hz,← hq]
   by_cases g3:c≤q
   ·simp [leQ,g3]
   ·simp [leQ,g3]
theorem lens_f (n:ByteArray) (t w a x:Int) (L P:List Int) (k:Nat) (hk:26 < k):product_checkLengths.f k n t w a x L P=some (lensE L P):=by
 unfold product_checkLengths.f lensE
 by_cases h1:L.length=0
 ·rw [if_pos (by omega),if_pos h1]
 rw [if_neg (by omega),if_neg h1]
 by_cases h2:8 < L.length
 ·rw [if_pos (by omega),if_pos h2]
 rw [if_neg (by omega),if_neg h2]
 by_cases h3:L.length=P.length
 ·rw [if_pos (by omega),if_pos h3]
  have:=lens_l0 n t w a x L P (by omega) (by omega) L.length k 0 (by omega) (by omega)
  rw [show ((0:Nat):Int)=0 from rfl] at this
  rw [this]
  rfl
 ·rw [if_neg (by omega),if_neg h3]
def prodE (before:List PR) (p:PR):Int:=if isNm p.f0=true then (if (fnd p.f0 before 0).2=true then 7 else if sizedB p.f1 p.f2 p.f3 p.f4=true then lensE p.f5 p.f6 else 9) else 6
def chkGo (l:List PR):Nat→Nat→Int
 | 0,_=>0
 | d+1,i=>if prodE (l.take i) (rd_T53 l (i:Int))=0 then chkGo l d (i+1) else prodE (l.take i) (rd_T53 l (i:Int))
def chkB (l:List PR):Int:=if 16 < l.length then 4 else chkGo l l.length 0
theorem chk_l0 (l:List PR) (hl:l.length≤16):∀ (d k i:Nat),i+d=l.length→d+40 < k→product_Check.l0 k l l (l.length:Int) (i:Int)=some (chkGo l d i):=by
 intro d
 induction d with
 | zero =>
  intro k i hi hk
  obtain ⟨k,rfl⟩:∃ m,k=m+1:=⟨k - 1,by omega⟩
  simp only [product_Check.l0]
  rw [if_neg (by omega)]
  rfl
 | succ d ih =>
  intro k i hi hk
  obtain ⟨k,rfl⟩:∃ m,k=m+1:=⟨k - 1,by omega⟩
  obtain ⟨q,rfl⟩:∃ q,k=20+q:=⟨k - 20,by omega⟩
  have h2:i < l.length:=by omega
  have e:wrap64 ((i:Int)+1)=((i+1:Nat):Int):=wrap_nat i 1000000 (by omega) (by omega)
  simp only [product_Check.l0]
  rw [if_pos (by omega),if_pos (by omega),if_pos (by omega),e,ih (20+q) (i+1) (by omega) (by omega),ident_at,Option.bind_some]
  rw [show ((i:Int)).toNat=i from rfl,find_f _ (l.take i) (by rw [List.length_take];omega) (20+q) (by rw [List.length_take];omega),sized_f _ _ _ _ _ _ _ (20+q) (by omega),lens_f _ _ _ _ _ _ _ (20+q) (by omega)]
  have hle:(i:Int)≤(l.length:Int):=by omega
  simp only [Option.bind_some,if_pos hle]
  rw [chkGo]
  unfold prodE
  generalize rd_T53 l (i:Int)=p
  cases isNm p.f0
  ·simp
  ·simp only [if_true]
   generalize (fnd p.f0 (l.take i) 0).2=b
   cases b
   ·simp only [Bool.false_eq_true,if_false]
    generalize sizedB p.f1 p.f2 p.f3 p.f4=b2
    cases b2
    ·simp
    ·simp only [if_true]
     by_cases h:lensE p.f5 p.f6=0
     ·rw [if_pos h,if_pos h]
     ·rw [if_neg h,if_neg h]
   ·simp
theorem chk_f (l:List PR) (k:Nat) (hk:60 < k):product_Check.f k l=some (chkB l):=by
 unfold product_Check.f chkB
 by_cases h:16 < l.length
 ·rw [if_pos (by omega),if_pos h]
 ·rw [if_neg (by omega),if_neg h]
  exact chk_l0 l (by omega) l.length k 0 (by omega) (by omega)
structure ProdOk (p:PR):Prop where
 nm:isNm p.f0=true
 sz:sizedB p.f1 p.f2 p.f3 p.f4=true
 ln:lensE p.f5 p.f6=0
theorem chkGo_ok (l:List PR):∀ (d i:Nat),i+d=l.length→chkGo l d i=0→∀ j,i≤j→(h:j < l.length)→ProdOk l[j]:=by
 intro d
 induction d with
 | zero=>intro i hi h0 j hij hj;omega
 | succ d ih =>
  intro i hi h0 j hij hj
  rw [chkGo] at h0
  by_cases hp:prodE (l.take i) (rd_T53 l (i:Int))=0
  ·rw [if_pos hp] at h0
   by_cases he:i=j
   ·subst he
    rw [rdP_get i hj] at hp
    unfold prodE at hp
    by_cases g1:isNm l[i].f0=true
    ·rw [if_pos g1] at hp
     by_cases g2:(fnd l[i].f0 (l.take i) 0).2=true
     ·rw [if_pos g2] at hp;omega
     ·rw [if_neg g2] at hp
      by_cases g3:sizedB l[i].f1 l[i].f2 l[i].f3 l[i].f4=true
      ·rw [if_pos g3] at hp
       exact ⟨g1,g3,hp⟩
      ·rw [if_neg g3] at hp;omega
    ·rw [if_neg g1] at hp;omega
   ·exact ih (i+1) (by omega) h0 j (by omega) hj
  ·rw [if_neg hp] at h0;exact absurd h0 hp
theorem chk_ok (l:List PR) (h:chkB l=0):l.length≤16∧∀ p ∈ l,ProdOk p:=by
 unfold chkB at h
 by_cases g:16 < l.length
 ·rw [if_pos g] at h;omega
 ·rw [if_neg g] at h
  refine ⟨by omega,fun p hp=>?_⟩
  obtain ⟨j,hj,rfl⟩:=List.getElem_of_mem hp
  exact chkGo_ok l l.length 0 (by omega) h j (by omega) hj
theorem lensGo_ok:∀ (L:List Int) (q:Option Int),lensGo q L=0→∀ n ∈ L,100≤n∧n≤20000:=by
 intro L
 induction L with
 | nil=>intro q h n hn;cases hn
 | cons x L ih =>
  intro q h n hn
  rw [lensGo] at h
  by_cases g:x < 100 ∨ 20000 < x
  ·rw [if_pos g] at h;omega
  ·rw [if_neg g] at h
   have hx:100≤x∧x≤20000:=by omega
   clear g
   rcases List.mem_cons.mp hn with rfl|hn
   ·exact hx
   ·split at h
    ·omega
    ·exact ih _ h n hn
theorem lensE_ok (L P:List Int) (h:lensE L P=0):0 < L.length∧L.length≤8∧L.length=P.length∧(∀ n ∈ L,100≤n∧n≤20000)∧P.all priceOk=true:=by
 unfold lensE at h
 by_cases h1:L.length=0
 ·rw [if_pos h1] at h;omega
 rw [if_neg h1] at h
 by_cases h2:8 < L.length
 ·rw [if_pos h2] at h;omega
 rw [if_neg h2] at h
 by_cases h3:L.length=P.length
 ·rw [if_pos h3] at h
  by_cases h4:lensGo none L=0
  ·rw [if_pos h4] at h
   unfold pricesE at h
   by_cases h5:P.all priceOk=true
   ·exact ⟨by omega,by omega,h3,lensGo_ok L none h4,h5⟩
   ·rw [if_neg h5] at h;omega
  ·rw [if_neg h4] at h;exact absurd h h4
 ·rw [if_neg h3] at h;omega
end Go.Proofs.YtojkjhaobjidlaaDoor.P
namespace Go.Proofs.YtojkjhaobjidlaaDoor.P
open Go.RowKit Go.Proofs.YtojkjhaobjidlaaDoorW.PrintWords Go.Proofs.YtojkjhaobjidlaaDoorW.PrintMore
set_option linter.unusedVariables false
set_option linter.unusedSimpArgs false
abbrev IT:=S35
abbrev TI:=S56
def prcGo (P:List Int) (n:Int):List Int→Nat→Int × Bool
 | [],_=>(0,false)
 | x :: l,i=>if x=n then (if P.length≤i then (0,false) else (rd P (i:Int),true)) else prcGo P n l (i+1)
theorem price_l0 (nm:ByteArray) (t w a x n:Int) (L P:List Int) (hL:L.length≤1000):∀ (d k i:Nat),i+d=L.length→d < k→product_Price.l0 k n L (L.length:Int) (i:Int) nm t w a x L P=some (prcGo P n (L.drop i) i):=by
 intro d
 induction d with
 | zero =>
  intro k i hi hk
  obtain ⟨k,rfl⟩:∃ m,k=m+1:=⟨k - 1,by omega⟩
  simp only [product_Price.l0]
  rw [if_neg (by omega),List.drop_of_length_le (by omega)]
  rfl
 | succ d ih =>
  intro k i hi hk
  obtain ⟨k,rfl⟩:∃ m,k=m+1:=⟨k - 1,by omega⟩
  have h2:i < L.length:=by omega
  simp only [product_Price.l0]
  rw [if_pos (by omega),if_pos (by omega),if_pos (by omega),wrap_nat i 1000000 (by omega) (by omega),ih k (i+1) (by omega) (by omega),rd_drop_ i h2,prcGo]
  by_cases h:rd L (i:Int)=n
  ·rw [if_pos h,if_pos h]
   by_cases g:P.length≤i
   ·rw [if_pos (by omega),if_pos g]
   ·rw [if_neg (by omega),if_neg g,if_pos (by omega)]
  ·rw [if_neg h,if_neg h]
theorem price_f (nm:ByteArray) (t w a x n:Int) (L P:List Int) (hL:L.length≤1000) (k:Nat) (hk:L.length < k):product_Price.f k nm t w a x L P n=some (prcGo P n L 0):=by
 unfold product_Price.f
 exact price_l0 nm t w a x n L P hL L.length k 0 (by omega) hk
theorem prcGo_mem (P:List Int) (n:Int):∀ (L:List Int) (i:Nat),(prcGo P n L i).2=true→n ∈ L:=by
 intro L
 induction L with
 | nil=>intro i h;simp [prcGo] at h
 | cons x L ih =>
  intro i h
  rw [prcGo] at h
  by_cases g:x=n
  ·subst g;exact List.mem_cons_self
  ·rw [if_neg g] at h
   exact List.mem_cons_of_mem _ (ih _ h)
theorem sized_nums {t w a x:Int} (h:sizedB t w a x=true):5≤t∧t≤300∧t≤w∧w≤600∧0≤a∧a≤200:=by
 unfold sizedB at h
 simp only [Bool.not_eq_true',Bool.or_eq_false_iff,decide_eq_false_iff_not] at h
 omega
theorem vol_le {t w n c:Int} (h1:5≤t) (h2:t≤300) (h3:t≤w) (h4:w≤600) (h5:100≤n) (h6:n≤20000) (h7:0≤c) (h8:c≤200):0≤t * w∧t * w≤180000∧0≤t * w * n∧t * w * n≤3600000000∧0≤t * w * n * c∧t * w * n * c≤720000000000:=by
 have a0:0≤t * w:=Int.mul_nonneg (by omega) (by omega)
 have a1:t * w≤300 * 600:=Int.mul_le_mul h2 h4 (by omega) (by omega)
 have b0:0≤t * w * n:=Int.mul_nonneg a0 (by omega)
 have b1:t * w * n≤180000 * 20000:=Int.mul_le_mul (by omega) h6 (by omega) (by omega)
 have c0:0≤t * w * n * c:=Int.mul_nonneg b0 h7
 have c1:t * w * n * c≤3600000000 * 200:=Int.mul_le_mul (by omega) h8 h7 (by omega)
 omega
def amountB (c:List PR) (x:IT):Int × Int :=
 if chkB c=0 then (if x.f0 < 0 ∨ (c.length:Int)≤x.f0 then (0,8) else
  if (prcGo (rd_T53 c x.f0).f6 x.f1 (rd_T53 c x.f0).f5 0).2=true then (if x.f2 < 0 ∨ 200 < x.f2 ∨ x.f3 < 0 ∨ 1000000000 < x.f3 then (0,9) else
   ((x.f3 * ((rd_T53 c x.f0).f1 * (rd_T53 c x.f0).f2 * x.f1 * x.f2)+500000000) / 1000000000,0)) else (0,20)) else (0,chkB c)
theorem rdP_mem {c:List PR} {i:Int} (h0:0≤i) (h1:i < (c.length:Int)):rd_T53 c i ∈ c:=by
 obtain ⟨n,rfl⟩:=Int.eq_ofNat_of_zero_le h0
 rw [rdP_get n (by omega)]
 exact List.getElem_mem _
theorem amount_f (c:List PR) (x:IT) (k:Nat) (hk:70 < k):bill_Amount.f k c x.f0 x.f1 x.f2 x.f3=some (amountB c x):=by
 obtain ⟨k,rfl⟩:∃ m,k=m+2:=⟨k - 2,by omega⟩
 unfold bill_Amount.f amountB
 rw [chk_f c _ (by omega),Option.bind_some]
 by_cases h0:chkB c=0
 case neg=>rw [if_neg h0,if_neg h0]
 rw [if_pos h0,if_pos h0]
 simp only [bill_Amount.j0,if_true,decide_eq_true_eq,ge_iff_le]
 by_cases h1:x.f0 < 0
 ·rw [if_pos h1,if_pos (by omega)]
 rw [if_neg h1]
 by_cases h2:(c.length:Int)≤x.f0
 ·rw [if_pos h2,if_pos (by omega)]
 rw [if_neg h2,if_neg (show ¬ (x.f0 < 0 ∨ (c.length:Int)≤x.f0) by omega),if_pos (by omega),if_pos (by omega)]
 have hp:=(chk_ok c h0).2 _ (rdP_mem (c:=c) (i:=x.f0) (by omega) (by omega))
 generalize rd_T53 c x.f0=p at hp ⊢
 obtain ⟨l1,l2,l3,l4,l5⟩:=lensE_ok p.f5 p.f6 hp.ln
 rw [price_f _ _ _ _ _ _ _ _ (by omega) _ (by omega),Option.bind_some]
 by_cases h3:(prcGo p.f6 x.f1 p.f5 0).2=true
 case neg=>rw [if_neg h3,if_neg h3]
 rw [if_pos h3,if_pos h3]
 have hx:=l4 _ (prcGo_mem _ _ _ _ h3)
 simp only [bill_Amount.j1,if_true,decide_eq_true_eq,gt_iff_lt]
 by_cases h4:x.f2 < 0
 ·rw [if_pos h4,if_pos (by omega)]
 rw [if_neg h4]
 by_cases h5:200 < x.f2
 ·rw [if_pos h5,if_pos (by omega)]
 rw [if_neg h5]
 by_cases h6:x.f3 < 0
 ·rw [if_pos h6,if_pos (by omega)]
 rw [if_neg h6]
 by_cases h7:1000000000 < x.f3
 ·rw [if_pos h7,if_pos (by omega)]
 rw [if_neg h7,if_neg (by omega)]
 obtain ⟨s1,s2,s3,s4,s5,s6⟩:=sized_nums hp.sz
 obtain ⟨v1,v2,v3,v4,v5,v6⟩:=vol_le s1 s2 s3 s4 hx.1 hx.2 (show 0≤x.f2 by omega) (show x.f2≤200 by omega)
 unfold product_Volume.f mn mx
 rw [if_neg (by split<;>split<;>omega),if_neg (by split<;>omega),if_neg (by omega),Option.bind_some]
 have e1:wrap64 (p.f1 * p.f2)=p.f1 * p.f2:=by generalize p.f1 * p.f2=m at v1 v2 ⊢;unfold wrap64;omega
 have e2:wrap64 (p.f1 * p.f2 * x.f1)=p.f1 * p.f2 * x.f1:=by generalize p.f1 * p.f2 * x.f1=m at v3 v4 ⊢;unfold wrap64;omega
 rw [e1,e2]
 generalize p.f1 * p.f2 * x.f1 * x.f2=m at v5 v6 ⊢
 have e3:wrap64 m=m:=by unfold wrap64;omega
 have e4:IntKind.u64.wrap m=m:=by rw [IntKind.wrap_u64];omega
 have e5:IntKind.u64.wrap x.f3=x.f3:=by rw [IntKind.wrap_u64];omega
 rw [e3,e4,e5]
 unfold bill_nearest.f
 rw [if_pos (by omega),if_pos (by omega),if_pos (by omega),if_pos (by omega),if_pos rfl]
 rfl
theorem amount_ok (c:List PR) (x:IT) (h:(amountB c x).2=0):chkB c=0∧0≤x.f0∧x.f0 < (c.length:Int)∧100≤x.f1∧x.f1≤20000∧0≤x.f2∧x.f2≤200∧0≤x.f3∧x.f3≤1000000000∧x.f1 ∈ (rd_T53 c x.f0).f5∧ProdOk (rd_T53 c x.f0) ∧
  (amountB c x).1=(x.f3 * ((rd_T53 c x.f0).f1 * (rd_T53 c x.f0).f2 * x.f1 * x.f2)+500000000) / 1000000000∧0≤(amountB c x).1∧(amountB c x).1≤720000000001:=by
 unfold amountB at h ⊢
 by_cases h0:chkB c=0
 case neg=>rw [if_neg h0] at h;exact absurd h h0
 rw [if_pos h0] at h ⊢
 by_cases h1:x.f0 < 0 ∨ (c.length:Int)≤x.f0
 ·rw [if_pos h1] at h;exact absurd h (by decide)
 rw [if_neg h1] at h ⊢
 have hp:=(chk_ok c h0).2 _ (rdP_mem (c:=c) (i:=x.f0) (by omega) (by omega))
 obtain ⟨l1,l2,l3,l4,l5⟩:=lensE_ok _ _ hp.ln
 by_cases h3:(prcGo (rd_T53 c x.f0).f6 x.f1 (rd_T53 c x.f0).f5 0).2=true
 case neg=>rw [if_neg h3] at h;exact absurd h (by decide)
 rw [if_pos h3] at h ⊢
 have hm:=prcGo_mem _ _ _ _ h3
 have hx:=l4 _ hm
 by_cases h4:x.f2 < 0 ∨ 200 < x.f2 ∨ x.f3 < 0 ∨ 1000000000 < x.f3
 ·rw [if_pos h4] at h;exact absurd h (by decide)
 rw [if_neg h4]
 obtain ⟨s1,s2,s3,s4,s5,s6⟩:=sized_nums hp.sz
 obtain ⟨v1,v2,v3,v4,v5,v6⟩:=vol_le s1 s2 s3 s4 hx.1 hx.2 (show 0≤x.f2 by omega) (show x.f2≤200 by omega)
 refine ⟨h0,by omega,by omega,hx.1,hx.2,by omega,by omega,by omega,by omega,hm,hp,rfl,?_⟩
 generalize (rd_T53 c x.f0).f1 * (rd_T53 c x.f0).f2 * x.f1 * x.f2=m at v5 v6 ⊢
 have a0:0≤x.f3 * m:=Int.mul_nonneg (by omega) (by omega)
 have a1:x.f3 * m≤1000000000 * 720000000000:=Int.mul_le_mul (by omega) v6 v5 (by omega)
 generalize x.f3 * m=q at a0 a1 ⊢
 show 0≤(q+500000000) / 1000000000∧(q+500000000) / 1000000000≤720000000001
 omega
theorem amount_err (c:List PR) (x:IT) (h:(amountB c x).2 ≠ 0):(amountB c x).1=0:=by
 unfold amountB at h ⊢
 split
 ·rename_i h0
  rw [if_pos h0] at h
  split
  ·rfl
  ·rename_i h1
   rw [if_neg h1] at h
   split
   ·rename_i h2
    rw [if_pos h2] at h
    split
    ·rfl
    ·rename_i h3
     rw [if_neg h3] at h
     exact absurd rfl h
   ·rfl
 ·rfl
def discGo (total:Int):Int→Int→List TI→Int × Int
 | _,off,[]=>if total < 0 then (0,9) else if 1000000000000000 < total then (0,9) else (total * off / 1000,0)
 | b,off,t :: l=>if t.f0≤b then (0,11) else if 1000000000000000 < t.f0 ∨ t.f1 < 0 ∨ 1000 < t.f1 then (0,9) else discGo total t.f0 (if t.f0≤total then t.f1 else off) l
def discB (l:List TI) (total:Int):Int × Int:=if 8 < l.length then (0,4) else discGo total (-1) 0 l
theorem rdT_drop {l:List TI} (i:Nat) (h:i < l.length):l.drop i=rd_T56 l (i:Int) :: l.drop (i+1):=by
 rw [List.drop_eq_getElem_cons h]
 unfold rd_T56
 rw [List.getD_eq_getElem?_getD,List.getElem?_eq_getElem (by simpa using h)]
 simp
theorem rdI_get {l:List IT} (i:Nat) (h:i < l.length):rd_T35 l (i:Int)=l[i]:=by
 unfold rd_T35
 rw [List.getD_eq_getElem?_getD,List.getElem?_eq_getElem (by simpa using h)]
 simp
theorem rdI_drop {l:List IT} (i:Nat) (h:i < l.length):l.drop i=rd_T35 l (i:Int) :: l.drop (i+1):=by
 rw [List.drop_eq_getElem_cons h,rdI_get i h]
theorem disc_l0 (total:Int) (l:List TI) (hl:l.length≤1000):∀ (d k i:Nat) (b off:Int),i+d=l.length→2 * d < k→0≤off→off≤1000→bill_Discount.l0 k total b off l (l.length:Int) (i:Int)=some (discGo total b off (l.drop i)):=by
 intro d
 induction d with
 | zero =>
  intro k i b off hi hk h0 h1
  obtain ⟨k,rfl⟩:∃ m,k=m+1:=⟨k - 1,by omega⟩
  simp only [bill_Discount.l0]
  rw [if_neg (by omega),List.drop_of_length_le (by omega),discGo]
  by_cases g1:total < 0
  ·rw [if_pos g1,if_pos g1]
  rw [if_neg g1,if_neg g1]
  by_cases g2:1000000000000000 < total
  ·rw [if_pos g2,if_pos g2]
  rw [if_neg g2,if_neg g2]
  have a0:0≤total * off:=Int.mul_nonneg (by omega) h0
  have a1:total * off≤1000000000000000 * 1000:=Int.mul_le_mul (by omega) h1 h0 (by omega)
  generalize total * off=m at a0 a1 ⊢
  have e1:wrap64 m=m:=by unfold wrap64;omega
  rw [e1,Int.tdiv_eq_ediv_of_nonneg a0]
  have e2:wrap64 (m / 1000)=m / 1000:=by unfold wrap64;omega
  rw [e2]
 | succ d ih =>
  intro k i b off hi hk h0 h1
  obtain ⟨k,rfl⟩:∃ m,k=m+2:=⟨k - 2,by omega⟩
  have h2:i < l.length:=by omega
  have e:wrap64 ((i:Int)+1)=((i+1:Nat):Int):=wrap_nat i 1000000 (by omega) (by omega)
  simp only [bill_Discount.l0,bill_Discount.j1,if_true,decide_eq_true_eq,gt_iff_lt]
  rw [if_pos (by omega),if_pos (by omega),if_pos (by omega),e,rdT_drop i h2,discGo]
  generalize rd_T56 l (i:Int)=t
  by_cases g1:t.f0≤b
  ·rw [if_pos g1,if_pos g1]
  rw [if_neg g1,if_neg g1]
  by_cases g2:1000000000000000 < t.f0
  ·rw [if_pos g2,if_pos (by omega)]
  rw [if_neg g2]
  by_cases g3:t.f1 < 0
  ·rw [if_pos g3,if_pos (by omega)]
  rw [if_neg g3]
  by_cases g4:1000 < t.f1
  ·rw [if_pos g4,if_pos (by omega)]
  rw [if_neg g4,if_neg (show ¬ (1000000000000000 < t.f0 ∨ t.f1 < 0 ∨ 1000 < t.f1) by omega)]
  by_cases g5:t.f0≤total
  ·rw [if_pos g5,if_pos g5,ih k (i+1) _ _ (by omega) (by omega) (by omega) (by omega)]
  ·rw [if_neg g5,if_neg g5,ih k (i+1) _ _ (by omega) (by omega) (by omega) (by omega)]
theorem disc_f (l:List TI) (total:Int) (k:Nat) (hk:20 < k):bill_Discount.f k l total=some (discB l total):=by
 unfold bill_Discount.f discB
 by_cases h:8 < l.length
 ·rw [if_pos (by omega),if_pos h]
 ·rw [if_neg (by omega),if_neg h]
  exact disc_l0 total l (by omega) l.length k 0 (-1) 0 (by omega) (by omega) (by omega) (by omega)
theorem discGo_ok (total:Int):∀ (l:List TI) (b off:Int),0≤off→off≤1000→(discGo total b off l).2=0→0≤total∧total≤1000000000000000∧∃ o,0≤o∧o≤1000∧(discGo total b off l).1=total * o / 1000:=by
 intro l
 induction l with
 | nil =>
  intro b off h0 h1 h
  rw [discGo] at h ⊢
  by_cases g1:total < 0
  ·rw [if_pos g1] at h;exact absurd h (by decide)
  rw [if_neg g1] at h ⊢
  by_cases g2:1000000000000000 < total
  ·rw [if_pos g2] at h;exact absurd h (by decide)
  rw [if_neg g2]
  exact ⟨by omega,by omega,off,h0,h1,rfl⟩
 | cons t l ih =>
  intro b off h0 h1 h
  rw [discGo] at h ⊢
  by_cases g1:t.f0≤b
  ·rw [if_pos g1] at h;exact absurd h (by decide)
  rw [if_neg g1] at h ⊢
  by_cases g2:1000000000000000 < t.f0 ∨ t.f1 < 0 ∨ 1000 < t.f1
  ·rw [if_pos g2] at h;exact absurd h (by decide)
  rw [if_neg g2] at h ⊢
  exact ih _ _ (by split<;>omega) (by split<;>omega) h
theorem disc_ok (l:List TI) (total:Int) (h:(discB l total).2=0):l.length≤8∧0≤total∧total≤1000000000000000∧0≤(discB l total).1∧(discB l total).1≤total:=by
 unfold discB at h ⊢
 by_cases g:8 < l.length
 ·rw [if_pos g] at h;exact absurd h (by decide)
 rw [if_neg g] at h ⊢
 obtain ⟨h1,h2,o,h3,h4,h5⟩:=discGo_ok total l (-1) 0 (by omega) (by omega) h
 rw [h5]
 have a0:0≤total * o:=Int.mul_nonneg h1 h3
 have a1:total * o≤total * 1000:=Int.mul_le_mul_of_nonneg_left h4 h1
 generalize total * o=m at a0 a1 ⊢
 omega
def invGo (c:List PR) (t:List TI):List Int→Int→List IT→List Int × Int × Int × Int
 | acc,n,[]=>if (discB t n).2=0 then (acc,(discB t n).1,n - (discB t n).1,0) else ([],0,0,(discB t n).2)
 | acc,n,x :: l=>if (amountB c x).2=0 then invGo c t (acc++[(amountB c x).1]) (n+(amountB c x).1) l else ([],0,0,(amountB c x).2)
def invB (c:List PR) (l:List IT) (t:List TI):List Int × Int × Int × Int:=if 32 < l.length then ([],0,0,4) else invGo c t [] 0 l
theorem inv_l0 (c:List PR) (t:List TI) (l:List IT) (hl:l.length≤1000):∀ (d k i:Nat) (acc:List Int) (n:Int),i+d=l.length→d+80 < k→acc.length=i→0≤n→n≤800000000000 * (i:Int)→bill_invoice.l0 k c t acc n l (l.length:Int) (i:Int)=some (invGo c t acc n (l.drop i)):=by
 intro d
 induction d with
 | zero =>
  intro k i acc n hi hk ha h0 h1
  obtain ⟨k,rfl⟩:∃ m,k=m+1:=⟨k - 1,by omega⟩
  simp only [bill_invoice.l0]
  rw [if_neg (by omega),List.drop_of_length_le (by omega),disc_f t n k (by omega),Option.bind_some,invGo]
  by_cases h:(discB t n).2=0
  ·rw [if_pos h,if_pos h]
   obtain ⟨-,-,-,h2,h3⟩:=disc_ok t n h
   have e:wrap64 (n - (discB t n).1)=n - (discB t n).1:=by
    generalize (discB t n).1=m at h2 h3 ⊢
    unfold wrap64
    omega
   rw [e]
  ·rw [if_neg h,if_neg h]
 | succ d ih =>
  intro k i acc n hi hk ha h0 h1
  obtain ⟨k,rfl⟩:∃ m,k=m+1:=⟨k - 1,by omega⟩
  have h2:i < l.length:=by omega
  have e:wrap64 ((i:Int)+1)=((i+1:Nat):Int):=wrap_nat i 1000000 (by omega) (by omega)
  simp only [bill_invoice.l0]
  rw [if_pos (by omega),if_pos (by omega),if_pos (by omega),e,amount_f c _ k (by omega),Option.bind_some,rdI_drop i h2,invGo]
  generalize rd_T35 l (i:Int)=x
  by_cases h:(amountB c x).2=0
  ·have hb:=(amount_ok c x h).2.2.2.2.2.2.2.2.2.2.2.2
   have e2:wrap64 (n+(amountB c x).1)=n+(amountB c x).1:=by
    generalize (amountB c x).1=m at hb ⊢
    unfold wrap64
    omega
   rw [if_pos h,if_pos h,if_pos (by omega),e2,ih k (i+1) _ _ (by omega) (by omega) (by rw [List.length_append,ha];rfl) (by omega) (by omega)]
  ·rw [if_neg h,if_neg h]
theorem inv_f (c:List PR) (l:List IT) (t:List TI) (k:Nat) (hk:120 < k):bill_invoice.f k c l t=some (invB c l t):=by
 unfold bill_invoice.f invB
 by_cases h:32 < l.length
 ·rw [if_pos (by omega),if_pos h]
 ·rw [if_neg (by omega),if_neg h]
  exact inv_l0 c t l (by omega) l.length k 0 [] 0 (by omega) (by omega) rfl (by omega) (by omega)
theorem total_f (c:List PR) (l:List IT) (t:List TI) (k:Nat) (hk:120 < k):bill_Total.f k c l t=some ((invB c l t).2.2.1,(invB c l t).2.2.2):=by
 unfold bill_Total.f
 rw [inv_f c l t k hk]
 rfl
def sumB (c:List PR) (l:List IT):Int:=(l.map fun x=>(amountB c x).1).sum
theorem invGo_ok (c:List PR) (t:List TI):∀ (l:List IT) (acc:List Int) (n:Int),(invGo c t acc n l).2.2.2=0→(∀ x ∈ l,(amountB c x).2=0)∧(discB t (n+sumB c l)).2=0∧invGo c t acc n l=(acc++l.map (fun x=>(amountB c x).1),(discB t (n+sumB c l)).1,n+sumB c l - (discB t (n+sumB c l)).1,0):=by
 intro l
 induction l with
 | nil =>
  intro acc n h
  rw [invGo] at h ⊢
  have e:n+sumB c []=n:=by simp [sumB]
  rw [e]
  by_cases g:(discB t n).2=0
  ·rw [if_pos g]
   exact ⟨fun x hx=>(by cases hx),g,by simp⟩
  ·rw [if_neg g] at h;exact absurd h g
 | cons x l ih =>
  intro acc n h
  rw [invGo] at h ⊢
  by_cases g:(amountB c x).2=0
  ·rw [if_pos g] at h ⊢
   obtain ⟨h1,h2,h3⟩:=ih _ _ h
   have e:n+(amountB c x).1+sumB c l=n+sumB c (x :: l):=by
    simp only [sumB,List.map_cons,List.sum_cons]
    omega
   rw [e] at h2 h3
   refine ⟨fun y hy=>?_,h2,?_⟩
   ·rcases List.mem_cons.mp hy with rfl|hy
    ·exact g
    ·exact h1 y hy
   ·rw [h3];simp
  ·rw [if_neg g] at h;exact absurd h g
theorem inv_ok (c:List PR) (l:List IT) (t:List TI) (h:(invB c l t).2.2.2=0):l.length≤32∧(∀ x ∈ l,(amountB c x).2=0)∧(discB t (sumB c l)).2=0∧invB c l t=(l.map (fun x=>(amountB c x).1),(discB t (sumB c l)).1,sumB c l - (discB t (sumB c l)).1,0):=by
 unfold invB at h ⊢
 by_cases g:32 < l.length
 ·rw [if_pos g] at h;exact absurd h (by decide)
 rw [if_neg g] at h ⊢
 have:=invGo_ok c t l [] 0 h
 simp only [Int.zero_add,List.nil_append] at this
 exact ⟨by omega,this⟩
theorem invGo_err (c:List PR) (t:List TI):∀ (l:List IT) (acc:List Int) (n:Int),(invGo c t acc n l).2.2.2 ≠ 0→(invGo c t acc n l).2.2.1=0:=by
 intro l
 induction l with
 | nil =>
  intro acc n h
  rw [invGo] at h ⊢
  by_cases g:(discB t n).2=0
  ·rw [if_pos g] at h;exact absurd rfl h
  ·rw [if_neg g]
 | cons x l ih =>
  intro acc n h
  rw [invGo] at h ⊢
  by_cases g:(amountB c x).2=0
  ·rw [if_pos g] at h ⊢;exact ih _ _ h
  ·rw [if_neg g]
end Go.Proofs.YtojkjhaobjidlaaDoor.P
namespace Go.Proofs.YtojkjhaobjidlaaDoor.P
open Go.RowKit Go.Proofs.YtojkjhaobjidlaaDoorW.PrintWords Go.Proofs.YtojkjhaobjidlaaDoorW.PrintLast Go.Proofs.YtojkjhaobjidlaaDoorW.PrintMore
attribute [local go_sem] max2_int min2_int max_two min_two max_three min_three max_four min_four
attribute [local go_sem] cell_twice
set_option linter.unusedVariables false
set_option linter.unusedSimpArgs false
mutual
def sawmilllaw50_BillSpares.j0:Nat→List (S56)→Int→Int→Bool→Option (Bool)
 | 0,_,_,_,_=>none
 | k+1,x0,x1,x2,x33=>if x33=true then ((sawmilllaw50_awake.f k).bind fun t101=>(some t101)) else ((bill_Discount.f k x0 x1).bind fun bt102=>(if bt102.2=0 then (if bt102.1 < 0 then (sawmilllaw50_BillSpares.j1 k x0 x1 x2 bt102.1 true) else (sawmilllaw50_BillSpares.j1 k x0 x1 x2 bt102.1 (decide (bt102.1 > x1)))) else (if bt102.1=0 then ((sawmilllaw50_awake.f k).bind fun t104=>(some t104)) else (some false))))
def sawmilllaw50_BillSpares.j1:Nat→List (S56)→Int→Int→Int→Bool→Option (Bool)
 | 0,_,_,_,_,_=>none
 | k+1,x0,x1,x2,x7,x54=>if x54=true then (some false) else (sawmilllaw50_BillSpares.l0 k x0 x1 x2 x7 (-1) 0)
def sawmilllaw50_BillSpares.l0:Nat→List (S56)→Int→Int→Int→Int→Int→Option (Bool)
 | 0,_,_,_,_,_,_=>none
 | k+1,x0,x1,x2,x7,x9,x10=>if x10 < (x0.length:Int) then (if 0≤x10 then (if ((rd_T56 x0 x10).f0)≤x1 then (sawmilllaw50_BillSpares.l0 k x0 x1 x2 x7 x10 (wrap64 (x10+1))) else (sawmilllaw50_BillSpares.l0 k x0 x1 x2 x7 x9 (wrap64 (x10+1)))) else (none)) else (if x9 < 0 then (if x7=0 then ((sawmilllaw50_awake.f k).bind fun t106=>(some t106)) else (some false)) else (if 0≤x9 then (if x9≤(wrap64 (x9+1)) then (if (wrap64 (x9+1))≤(x0.length:Int) then ((bill_Discount.f k ((x0.take ((wrap64 (x9+1)):Int).toNat).drop (x9:Int).toNat) x1).bind fun bt111=>((bill_Discount.f k ((x0.take ((wrap64 (x9+1)):Int).toNat).drop (x9:Int).toNat) (wrap64 (x1+x2))).bind fun bt117=>(if bt111.2=0 then (if bt111.1=x7 then (if bt117.2=0 then (if bt117.1 ≥ x7 then ((sawmilllaw50_awake.f k).bind fun t119=>(some t119)) else (some false)) else ((sawmilllaw50_awake.f k).bind fun t120=>(some t120))) else (some false)) else (some false)))) else (none)) else (none)) else (none)))
end
def sawmilllaw50_BillSpares.f (k:Nat) (l0:List (S56)) (a1:Int) (a2:Int):Option (Bool):=if (l0.length:Int) > 30 then (sawmilllaw50_BillSpares.j0 k l0 a1 a2 true) else (if a2 < 0 then (sawmilllaw50_BillSpares.j0 k l0 a1 a2 true) else (if a2 > 1099511627776 then (sawmilllaw50_BillSpares.j0 k l0 a1 a2 true) else (if a1 < 0 then (sawmilllaw50_BillSpares.j0 k l0 a1 a2 true) else (sawmilllaw50_BillSpares.j0 k l0 a1 a2 (decide (a1 > 1125899906842624))))))
theorem sawmilllaw50_BillSpares.mono_l:∀ k,(∀ y0 y1 y2 y3,LeO (sawmilllaw50_BillSpares.j0 k y0 y1 y2 y3) (sawmilllaw50_BillSpares.j0 (k+1) y0 y1 y2 y3))∧(∀ y0 y1 y2 y3 y4,LeO (sawmilllaw50_BillSpares.j1 k y0 y1 y2 y3 y4) (sawmilllaw50_BillSpares.j1 (k+1) y0 y1 y2 y3 y4))∧(∀ y0 y1 y2 y3 y4 y5,LeO (sawmilllaw50_BillSpares.l0 k y0 y1 y2 y3 y4 y5) (sawmilllaw50_BillSpares.l0 (k+1) y0 y1 y2 y3 y4 y5))
 | 0=>⟨fun _ _ _ _ r h=>by simp [sawmilllaw50_BillSpares.j0] at h,fun _ _ _ _ _ r h=>by simp [sawmilllaw50_BillSpares.j1] at h,fun _ _ _ _ _ _ r h=>by simp [sawmilllaw50_BillSpares.l0] at h⟩
 | k+1=>by
  obtain ⟨ih0,ih1,ih2⟩:=sawmilllaw50_BillSpares.mono_l k
  refine ⟨?_,?_,?_⟩
  ·intro y0 y1 y2 y3
   unfold sawmilllaw50_BillSpares.j0
   repeat' first
   | (with_reducible exact ih0 _ _ _ _)
   | (with_reducible exact ih1 _ _ _ _ _)
   | (with_reducible exact ih2 _ _ _ _ _ _)
   | (with_reducible exact bill_Discount.mono _ _ _)
   | (with_reducible exact sawmilllaw50_awake.mono _)
   | (with_reducible exact LeO.refl _)
   | (with_reducible exact LeO.none _)
   | (with_reducible refine LeO.ite ?_ ?_)
   | (with_reducible refine LeO.bind ?_ (fun _=>?_))
   | exact ih0 _ _ _ _
   | exact ih1 _ _ _ _ _
   | exact ih2 _ _ _ _ _ _
   | exact bill_Discount.mono _ _ _
   | exact sawmilllaw50_awake.mono _
   | exact LeO.none _
   | refine LeO.ite ?_ ?_
   | refine LeO.bind ?_ (fun _=>?_)
  ·intro y0 y1 y2 y3 y4
   unfold sawmilllaw50_BillSpares.j1
   repeat' first
   | (with_reducible exact ih0 _ _ _ _)
   | (with_reducible exact ih1 _ _ _ _ _)
   | (with_reducible exact ih2 _ _ _ _ _ _)
   | (with_reducible exact bill_Discount.mono _ _ _)
   | (with_reducible exact sawmilllaw50_awake.mono _)
   | (with_reducible exact LeO.refl _)
   | (with_reducible exact LeO.none _)
   | (with_reducible refine LeO.ite ?_ ?_)
   | (with_reducible refine LeO.bind ?_ (fun _=>?_))
   | exact ih0 _ _ _ _
   | exact ih1 _ _ _ _ _
   | exact ih2 _ _ _ _ _ _
   | exact bill_Discount.mono _ _ _
   | exact sawmilllaw50_awake.mono _
   | exact LeO.none _
   | refine LeO.ite ?_ ?_
   | refine LeO.bind ?_ (fun _=>?_)
  ·intro y0 y1 y2 y3 y4 y5
   unfold sawmilllaw50_BillSpares.l0
   repeat' first
   | (with_reducible exact ih0 _ _ _ _)
   | (with_reducible exact ih1 _ _ _ _ _)
   | (with_reducible exact ih2 _ _ _ _ _ _)
   | (with_reducible exact bill_Discount.mono _ _ _)
   | (with_reducible exact sawmilllaw50_awake.mono _)
   | (with_reducible exact LeO.refl _)
   | (with_reducible exact LeO.none _)
   | (with_reducible refine LeO.ite ?_ ?_)
   | (with_reducible refine LeO.bind ?_ (fun _=>?_))
   | exact ih0 _ _ _ _
   | exact ih1 _ _ _ _ _
   | exact ih2 _ _ _ _ _ _
   | exact bill_Discount.mono _ _ _
   | exact sawmilllaw50_awake.mono _
   | exact LeO.none _
   | refine LeO.ite ?_ ?_
   | refine LeO.bind ?_ (fun _=>?_)
theorem sawmilllaw50_BillSpares.mono:∀ a0 a1 a2 k,LeO (sawmilllaw50_BillSpares.f k a0 a1 a2) (sawmilllaw50_BillSpares.f (k+1) a0 a1 a2):=by
 intro a0 a1 a2 k
 obtain ⟨ih0,ih1,ih2⟩:=sawmilllaw50_BillSpares.mono_l k
 unfold sawmilllaw50_BillSpares.f
 repeat' first
   | (with_reducible exact ih0 _ _ _ _)
   | (with_reducible exact ih1 _ _ _ _ _)
   | (with_reducible exact ih2 _ _ _ _ _ _)
   | (with_reducible exact bill_Discount.mono _ _ _)
   | (with_reducible exact sawmilllaw50_awake.mono _)
   | (with_reducible exact LeO.refl _)
   | (with_reducible exact LeO.none _)
   | (with_reducible refine LeO.ite ?_ ?_)
   | (with_reducible refine LeO.bind ?_ (fun _=>?_))
   | exact ih0 _ _ _ _
   | exact ih1 _ _ _ _ _
   | exact ih2 _ _ _ _ _ _
   | exact bill_Discount.mono _ _ _
   | exact sawmilllaw50_awake.mono _
   | exact LeO.none _
   | refine LeO.ite ?_ ?_
   | refine LeO.bind ?_ (fun _=>?_)
set_option maxHeartbeats 8000000 in
set_option maxRecDepth 100000 in
theorem sawmilllaw50_BillSpares.calls (k:Nat) (A0:Option Addr) (c0:Nat) (l0:List (S56)) (a1:Int) (a2:Int) (r:Bool) (w:World) (hr0:Kd.C k56 w A0 l0.length l0) (hc0:l0.length≤c0) (h:sawmilllaw50_BillSpares.f k l0 a1 a2=some r) (HG_:Aside0 (Glob w)) :
  Calls Tryd.prog 8 #[.slice A0 l0.length c0,.int .i64 a1,.int .i64 a2] w fun e w'=>e=.returned (.bool r)∧Below w.heap.size w w':=by
 have HR0:=Aside0.mk hr0
 have HC0:=Aside0.mk hc0
 clear hr0 hc0
 have HB:=Aside0.mk (Below.refl w.heap.size w)
 have H:(if (l0.length:Int) > 30 then (sawmilllaw50_BillSpares.j0 k l0 a1 a2 true) else (if a2 < 0 then (sawmilllaw50_BillSpares.j0 k l0 a1 a2 true) else (if a2 > 1099511627776 then (sawmilllaw50_BillSpares.j0 k l0 a1 a2 true) else (if a1 < 0 then (sawmilllaw50_BillSpares.j0 k l0 a1 a2 true) else (sawmilllaw50_BillSpares.j0 k l0 a1 a2 (decide (a1 > 1125899906842624)))))))=some r:=h
 clear h
 have HC4:=Aside0.mk H
 clear H
 go_enter Tryd.func8,Tryd.ntmps8
 go_upto_region 1 with (fail)
 go_cut [33] (fun v33 wc=>∃ (kq:Nat) (x33_3:Bool),v33=.bool x33_3∧Aside0 (sawmilllaw50_BillSpares.j0 kq l0 a1 a2 x33_3=some r)∧Aside0 (kq≤k)∧Aside0 (Below w.heap.size w wc))
 case first =>
  have H:=HC4.out
  clear HC4
  by_cases c5:(l0.length:Int) > 30
  ·rw [if_pos c5] at H
   have c5b0:decide (30 < (l0.length:Int))=true:=decide_eq_true c5
   have c5b1:decide (30 < l0.length)=true:=decide_eq_true (by omega)
   clear c5
   (first|rw [c5b0]|(simp only [i64_w,i32_w];rw [c5b0])|skip)
   have H':=Aside0.mk H
   clear H
   go_wp2
   go_meet
   case rel=>exact ⟨_,(true),(by first|rfl|(simp;done)|(simp [*];done)),H',⟨by first|omega|exact Nat.le_refl _⟩,⟨by repeat (first|(with_reducible first|exact HB.out|apply below_alloc|apply pw_below_drewN|apply below_drew1)|exact HB.out)⟩⟩
  ·rw [if_neg c5] at H
   have c5b0:decide (30 < (l0.length:Int))=false:=decide_eq_false c5
   have c5b1:decide (30 < l0.length)=false:=decide_eq_false (by omega)
   clear c5
   (first|rw [c5b0]|(simp only [i64_w,i32_w];rw [c5b0])|skip)
   by_cases c6:a2 < 0
   ·rw [if_pos c6] at H
    have c6b0:decide (a2 < 0)=true:=decide_eq_true c6
    clear c6
    have H':=Aside0.mk H
    clear H
    go_wp2
    go_meet
    case rel=>exact ⟨_,(true),(by first|rfl|(simp;done)|(simp [*];done)),H',⟨by first|omega|exact Nat.le_refl _⟩,⟨by repeat (first|(with_reducible first|exact HB.out|apply below_alloc|apply pw_below_drewN|apply below_drew1)|exact HB.out)⟩⟩
   ·rw [if_neg c6] at H
    have c6b0:decide (a2 < 0)=false:=decide_eq_false c6
    clear c6
    by_cases c7:a2 > 1099511627776
    ·rw [if_pos c7] at H
     have c7b0:decide (1099511627776 < a2)=true:=decide_eq_true c7
     clear c7
     have H':=Aside0.mk H
     clear H
     go_wp2
     go_meet
     case rel=>exact ⟨_,(true),(by first|rfl|(simp;done)|(simp [*];done)),H',⟨by first|omega|exact Nat.le_refl _⟩,⟨by repeat (first|(with_reducible first|exact HB.out|apply below_alloc|apply pw_below_drewN|apply below_drew1)|exact HB.out)⟩⟩
    ·rw [if_neg c7] at H
     have c7b0:decide (1099511627776 < a2)=false:=decide_eq_false c7
     clear c7
     by_cases c8:a1 < 0
     ·rw [if_pos c8] at H
      have c8b0:decide (a1 < 0)=true:=decide_eq_true c8
      clear c8
      have H':=Aside0.mk H
      clear H
      go_wp2
      go_meet
      case rel=>exact ⟨_,(true),(by first|rfl|(simp;done)|(simp [*];done)),H',⟨by first|omega|exact Nat.le_refl _⟩,⟨by repeat (first|(with_reducible first|exact HB.out|apply below_alloc|apply pw_below_drewN|apply below_drew1)|exact HB.out)⟩⟩
     ·rw [if_neg c8] at H
      have c8b0:decide (a1 < 0)=false:=decide_eq_false c8
      clear c8
      have H':=Aside0.mk H
      clear H
      go_wp2
      go_meet
      case rel=>exact ⟨_,(decide (a1 > 1125899906842624)),(by first|rfl|(simp;done)|(simp [*];done)),H',⟨by first|omega|exact Nat.le_refl _⟩,⟨by repeat (first|(with_reducible first|exact HB.out|apply below_alloc|apply pw_below_drewN|apply below_drew1)|exact HB.out)⟩⟩
 case rest =>
  clear HC4
  try clear p2
  try clear c5
  try clear c5b0
  try clear c5b1
  try clear c6
  try clear c6b0
  try clear c7
  try clear c7b0
  try clear c8
  try clear c8b0
  obtain ⟨kq,x33_3,rfl,HA,HJ3,HB⟩:=hcut
  cases kq with
  | zero=>exact absurd HA.out (by simp [sawmilllaw50_BillSpares.j0])
  | succ kj3 =>
   have H:=HA.out
   clear HA
   simp only [sawmilllaw50_BillSpares.j0] at H
   by_cases c9:x33_3=true
   ·subst c9
    have H1:((sawmilllaw50_awake.f kj3).bind fun t101=>(some t101))=some r:=by rw [if_pos rfl] at H;exact H
    clear H
    have H:=H1
    clear H1
    replace H:=Option.bind_eq_some_iff.mp H
    obtain ⟨t101,A100,H⟩:=H
    replace H:(some t101)=some r:=H
    have A10:=Aside0.mk A100
    clear A100
    obtain rfl:=Option.some.inj H
    go_wp2_with (first|((with_reducible refine gate_callee (f:=11) rfl ?_);refine goesL_ (some 34) rfl rfl Tryd.func11 (by kernel_rfl) rfl #[] rfl (by (try simp only [List.map_toArray,List.map_cons,List.map_nil]);first|done|rfl|(simp only [List.length_drop,List.length_take];rfl)) ?_;(with_reducible refine (sawmilllaw50_awake.calls kj3  t101 _ A10.out (glob_at HG_ (by repeat (first|(with_reducible first|exact HB.out|apply below_alloc|apply pw_below_drewN|apply below_drew1|refine below_set ?_ (Aside0.out (by assumption)))|exact HB.out)))).mono ?_);rintro e w11 ⟨rfl,hb⟩;refine ⟨_,rfl,?_⟩;have n0_:=Aside0.mk (below_step (by repeat (first|(with_reducible first|exact HB.out|apply below_alloc|apply pw_below_drewN|apply below_drew1)|exact HB.out)) hb);clear HB;have HB:=n0_;clear n0_;(try clear hb);(try clear hb2);(try clear hk);(try clear hi)))
    go_ret
    exact ⟨by first|rfl|(simp [errW_none,errW_some]<;>rfl)|(simp [*,errW_none,errW_some]<;>rfl),by repeat (first|(with_reducible first|exact HB.out|apply below_alloc|apply pw_below_drewN|apply below_drew1)|exact HB.out)⟩
   ·replace c9:=Bool.eq_false_iff.mpr c9
    subst c9
    have H1:((bill_Discount.f kj3 l0 a1).bind fun bt102=>(if bt102.2=0 then (if bt102.1 < 0 then (sawmilllaw50_BillSpares.j1 kj3 l0 a1 a2 bt102.1 true) else (sawmilllaw50_BillSpares.j1 kj3 l0 a1 a2 bt102.1 (decide (bt102.1 > a1)))) else (if bt102.1=0 then ((sawmilllaw50_awake.f kj3).bind fun t104=>(some t104)) else (some false))))=some r:=by rw [if_neg (show ¬ (false=true) by decide)] at H;exact H
    clear H
    have H:=H1
    clear H1
    replace H:=Option.bind_eq_some_iff.mp H
    obtain ⟨⟨t102,t103⟩,A120,H⟩:=H
    replace H:(if t103=0 then (if t102 < 0 then (sawmilllaw50_BillSpares.j1 kj3 l0 a1 a2 t102 true) else (sawmilllaw50_BillSpares.j1 kj3 l0 a1 a2 t102 (decide (t102 > a1)))) else (if t102=0 then ((sawmilllaw50_awake.f kj3).bind fun t104=>(some t104)) else (some false)))=some r:=H
    have A12:=Aside0.mk A120
    clear A120
    by_cases c13:t103=0
    ·rw [if_pos c13] at H
     have c13b0:(t103 == 0)=true:=beq_iff_eq.mpr c13
     have c13b1:(t103 != 0)=false:=bne_eq_false_iff_eq.mpr c13
     clear c13
     have HC14:=Aside0.mk H
     clear H
     go_upto_region 6 with (first|((with_reducible refine gate_callee (f:=16) rfl ?_);refine goesL_ (some 38) rfl rfl Tryd.func16 (by kernel_rfl) rfl #[.slice A0 l0.length c0,.int .i64 a1] rfl (by (try simp only [List.map_toArray,List.map_cons,List.map_nil]);first|done|rfl|(simp only [List.length_drop,List.length_take];rfl)) ?_;(with_reducible refine (bill_Discount.calls kj3 _ _ l0 a1 t102 t103 _ ?side1 ?side2 A12.out).mono ?_);(case side1=>repeat (first|exact (Kd.C_below HR0.out HB.out)|(with_reducible refine Kd.C_alloc ?_ _)|(with_reducible refine Kd.C_drewN ?_ _)|(with_reducible refine Kd.C_drew ?_)));(case side2=>exact HC0.out);rintro e w15 ⟨rfl,hb⟩;refine ⟨_,rfl,?_⟩;have n0_:=Aside0.mk (below_step (by repeat (first|(with_reducible first|exact HB.out|apply below_alloc|apply pw_below_drewN|apply below_drew1)|exact HB.out)) hb);clear HB;have HB:=n0_;clear n0_;(try clear hb);(try clear hb2);(try clear hk);(try clear hi)))
     (try simp only [Act.put,List.setIfInBounds_toArray,List.set_cons_zero,List.set_cons_succ])
     go_cut [54] (fun v54 wc=>∃ (kq:Nat) (x54_13:Bool),v54=.bool x54_13∧Aside0 (sawmilllaw50_BillSpares.j1 kq l0 a1 a2 t102 x54_13=some r)∧Aside0 (kq≤kj3)∧Aside0 (Below w.heap.size w wc))
     case first =>
      have H:=HC14.out
      clear HC14
      by_cases c16:t102 < 0
      ·rw [if_pos c16] at H
       have c16b0:decide (t102 < 0)=true:=decide_eq_true c16
       clear c16
       (first|rw [c16b0]|(simp only [i64_w,i32_w];rw [c16b0])|skip)
       have H':=Aside0.mk H
       clear H
       go_wp2
       go_meet
       case rel=>exact ⟨_,(true),(by first|rfl|(simp;done)|(simp [*];done)),H',⟨by have:=HJ3.out;first|omega|exact Nat.le_refl _⟩,⟨by repeat (first|(with_reducible first|exact HB.out|apply below_alloc|apply pw_below_drewN|apply below_drew1)|exact HB.out)⟩⟩
      ·rw [if_neg c16] at H
       have c16b0:decide (t102 < 0)=false:=decide_eq_false c16
       clear c16
       (first|rw [c16b0]|(simp only [i64_w,i32_w];rw [c16b0])|skip)
       have H':=Aside0.mk H
       clear H
       go_wp2
       go_meet
       case rel=>exact ⟨_,(decide (t102 > a1)),(by first|rfl|(simp;done)|(simp [*];done)),H',⟨by have:=HJ3.out;first|omega|exact Nat.le_refl _⟩,⟨by repeat (first|(with_reducible first|exact HB.out|apply below_alloc|apply pw_below_drewN|apply below_drew1)|exact HB.out)⟩⟩
     case rest =>
      clear HC14
      try clear c1
      try clear p2
      try clear c5
      try clear c5b0
      try clear c5b1
      try clear c6
      try clear c6b0
      try clear c7
      try clear c7b0
      try clear c8
      try clear c8b0
      try clear c9
      try clear c11
      try clear c13
      try clear c13b0
      try clear c13b1
      try clear c16
      try clear c16b0
      try clear p2
      obtain ⟨kq,x54_13,rfl,HA,HJ13,HB⟩:=hcut
      cases kq with
      | zero=>exact absurd HA.out (by simp [sawmilllaw50_BillSpares.j1])
      | succ kj13 =>
       have H:=HA.out
       clear HA
       simp only [sawmilllaw50_BillSpares.j1] at H
       by_cases c17:x54_13=true
       ·subst c17
        have H1:(some false)=some r:=by rw [if_pos rfl] at H;exact H
        clear H
        have H:=H1
        clear H1
        obtain rfl:=Option.some.inj H
        go_wp2
        go_ret
        exact ⟨by first|rfl|(simp [errW_none,errW_some]<;>rfl)|(simp [*,errW_none,errW_some]<;>rfl),by repeat (first|(with_reducible first|exact HB.out|apply below_alloc|apply pw_below_drewN|apply below_drew1)|exact HB.out)⟩
       ·replace c17:=Bool.eq_false_iff.mpr c17
        subst c17
        have H1:(sawmilllaw50_BillSpares.l0 kj13 l0 a1 a2 t102 (-1) 0)=some r:=by rw [if_neg (show ¬ (false=true) by decide)] at H;exact H
        clear H
        have H:=H1
        clear H1
        have H':=Aside0.mk H
        clear H
        go_wp2
        go_loopg [9,10] kj13 (fun kq v9 v10 w'=>∃ (x9_3:Int) (x10_3:Int),v9=.int .i64 x9_3∧v10=.int .i64 x10_3∧Aside0 (sawmilllaw50_BillSpares.l0 kq l0 a1 a2 t102 x9_3 x10_3=some r)∧Aside0 (kq≤kj13)∧Aside0 (Below w.heap.size w w'))
        case atStart=>exact ⟨((-1)),(0),(by first|rfl|(simp;done)|(simp [*];done)),(by first|rfl|(simp;done)|(simp [*];done)),H',⟨Nat.le_refl _⟩,⟨by repeat (first|(with_reducible first|exact HB.out|apply below_alloc|apply pw_below_drewN|apply below_drew1)|exact HB.out)⟩⟩
        case round =>
         clear H'
         try clear c1
         try clear p2
         try clear c5
         try clear c5b0
         try clear c5b1
         try clear c6
         try clear c6b0
         try clear c7
         try clear c7b0
         try clear c8
         try clear c8b0
         try clear c9
         try clear c11
         try clear c13
         try clear c13b0
         try clear c13b1
         try clear c16
         try clear c16b0
         try clear c17
         try clear p2
         obtain ⟨x9_3,x10_3,rfl,rfl,HA,HK3,HB⟩:=hrel
         cases gk with
         | zero=>exact absurd HA.out (by simp [sawmilllaw50_BillSpares.l0])
         | succ k3 =>
          have H:=HA.out
          clear HA
          simp only [sawmilllaw50_BillSpares.l0] at H
          by_cases c18:x10_3 < (l0.length:Int)
          ·rw [if_pos c18] at H
           have c18b0:decide (x10_3 < (l0.length:Int))=true:=decide_eq_true c18
           clear c18
           by_cases c19:0≤x10_3
           ·rw [if_pos c19] at H
            have c19b0:decide (0≤x10_3)=true:=decide_eq_true c19
            clear c19
            by_cases c20:((rd_T56 l0 x10_3).f0)≤a1
            ·rw [if_pos c20] at H
             have c20b0:decide (((rd_T56 l0 x10_3).f0)≤a1)=true:=decide_eq_true c20
             clear c20
             have H':=Aside0.mk H
             clear H
             have p105:0≤(x10_3:Int):=of_decide_eq_true (by first|(with_reducible assumption)|assumption)
             have q105:x10_3 < (l0.length:Int):=of_decide_eq_true (by first|(with_reducible assumption)|assumption)
             obtain ⟨ad105,e105,hx105_0,hx105_1⟩:=at_T56 HR0.out x10_3 p105 q105
             cases e105
             replace hx105_0:=(HB.out.cell (World.block_lt_of_cell? w _ hx105_0)).trans hx105_0
             replace hx105_1:=(HB.out.cell (World.block_lt_of_cell? w _ hx105_1)).trans hx105_1
             replace p105:=eq_true p105
             replace q105:=eq_true q105
             go_wp2
             go_roundg k3
             case measure=>have:=HJ3.out;have:=HJ13.out;have:=HK3.out;omega
             case rel=>exact ⟨(x10_3),(wrap64 (x10_3+1)),(by first|rfl|(simp;done)|(simp [*];done)),(by first|rfl|(simp;done)|(simp [*];done)),H',⟨by have:=HJ3.out;have:=HJ13.out;have:=HK3.out;omega⟩,⟨by repeat (first|(with_reducible first|exact HB.out|apply below_alloc|apply pw_below_drewN|apply below_drew1)|exact HB.out)⟩⟩
            ·rw [if_neg c20] at H
             have c20b0:decide (((rd_T56 l0 x10_3).f0)≤a1)=false:=decide_eq_false c20
             clear c20
             have H':=Aside0.mk H
             clear H
             have p105:0≤(x10_3:Int):=of_decide_eq_true (by first|(with_reducible assumption)|assumption)
             have q105:x10_3 < (l0.length:Int):=of_decide_eq_true (by first|(with_reducible assumption)|assumption)
             obtain ⟨ad105,e105,hx105_0,hx105_1⟩:=at_T56 HR0.out x10_3 p105 q105
             cases e105
             replace hx105_0:=(HB.out.cell (World.block_lt_of_cell? w _ hx105_0)).trans hx105_0
             replace hx105_1:=(HB.out.cell (World.block_lt_of_cell? w _ hx105_1)).trans hx105_1
             replace p105:=eq_true p105
             replace q105:=eq_true q105
             go_wp2
             go_roundg k3
             case measure=>have:=HJ3.out;have:=HJ13.out;have:=HK3.out;omega
             case rel=>exact ⟨(x9_3),(wrap64 (x10_3+1)),(by first|rfl|(simp;done)|(simp [*];done)),(by first|rfl|(simp;done)|(simp [*];done)),H',⟨by have:=HJ3.out;have:=HJ13.out;have:=HK3.out;omega⟩,⟨by repeat (first|(with_reducible first|exact HB.out|apply below_alloc|apply pw_below_drewN|apply below_drew1)|exact HB.out)⟩⟩
           ·rw [if_neg c19] at H
            exact absurd H (by simp)
          ·rw [if_neg c18] at H
           have c18b0:decide (x10_3 < (l0.length:Int))=false:=decide_eq_false c18
           clear c18
           by_cases c21:x9_3 < 0
           ·rw [if_pos c21] at H
            have c21b0:decide (x9_3 < 0)=true:=decide_eq_true c21
            clear c21
            by_cases c22:t102=0
            ·rw [if_pos c22] at H
             have c22b0:(t102 == 0)=true:=beq_iff_eq.mpr c22
             have c22b1:(t102 != 0)=false:=bne_eq_false_iff_eq.mpr c22
             clear c22
             replace H:=Option.bind_eq_some_iff.mp H
             obtain ⟨t106,A230,H⟩:=H
             replace H:(some t106)=some r:=H
             have A23:=Aside0.mk A230
             clear A230
             obtain rfl:=Option.some.inj H
             go_wp2_with (first|(go_at_call 11;(with_reducible refine (sawmilllaw50_awake.calls k3  t106 _ A23.out (glob_at HG_ (by repeat (first|(with_reducible first|exact HB.out|apply below_alloc|apply pw_below_drewN|apply below_drew1|refine below_set ?_ (Aside0.out (by assumption)))|exact HB.out)))).mono ?_);rintro e w24 ⟨rfl,hb⟩;have n0_:=Aside0.mk (below_step (by repeat (first|(with_reducible first|exact HB.out|apply below_alloc|apply pw_below_drewN|apply below_drew1)|exact HB.out)) hb);clear HB;have HB:=n0_;clear n0_;(try clear hb);(try clear hb2);(try clear hk);(try clear hi)))
             go_ret
             exact ⟨by first|rfl|(simp [errW_none,errW_some]<;>rfl)|(simp [*,errW_none,errW_some]<;>rfl),by repeat (first|(with_reducible first|exact HB.out|apply below_alloc|apply pw_below_drewN|apply below_drew1)|exact HB.out)⟩
            ·rw [if_neg c22] at H
             have c22b0:(t102 == 0)=false:=beq_eq_false_iff_ne.mpr c22
             have c22b1:(t102 != 0)=true:=bne_iff_ne.mpr c22
             obtain rfl:=Option.some.inj H
             go_wp2
             go_ret
             exact ⟨by first|rfl|(simp [errW_none,errW_some]<;>rfl)|(simp [*,errW_none,errW_some]<;>rfl),by repeat (first|(with_reducible first|exact HB.out|apply below_alloc|apply pw_below_drewN|apply below_drew1)|exact HB.out)⟩
           ·rw [if_neg c21] at H
            have c21b0:decide (x9_3 < 0)=false:=decide_eq_false c21
            clear c21
            by_cases c25:0≤x9_3
            ·rw [if_pos c25] at H
             have c25b0:=eq_true c25
             have c25b1:decide (0≤x9_3)=true:=decide_eq_true c25
             clear c25
             by_cases c26:x9_3≤(wrap64 (x9_3+1))
             ·rw [if_pos c26] at H
              have c26b0:=eq_true c26
              have c26b1:decide (x9_3≤(wrap64 (x9_3+1)))=true:=decide_eq_true c26
              by_cases c27:(wrap64 (x9_3+1))≤(l0.length:Int)
              ·rw [if_pos c27] at H
               have c27b0:=eq_true c27
               have c27b1:decide ((wrap64 (x9_3+1))≤(l0.length:Int))=true:=decide_eq_true c27
               obtain ⟨y107,hy107⟩:∃ y_:List (S56),y_=((l0.take ((wrap64 (x9_3+1)):Int).toNat).drop (x9_3:Int).toNat):=⟨_,rfl⟩
               replace H:((bill_Discount.f k3 y107 a1).bind fun bt111=>((bill_Discount.f k3 ((l0.take ((wrap64 (x9_3+1)):Int).toNat).drop (x9_3:Int).toNat) (wrap64 (a1+a2))).bind fun bt117=>(if bt111.2=0 then (if bt111.1=t102 then (if bt117.2=0 then (if bt117.1 ≥ t102 then ((sawmilllaw50_awake.f k3).bind fun t119=>(some t119)) else (some false)) else ((sawmilllaw50_awake.f k3).bind fun t120=>(some t120))) else (some false)) else (some false))))=some r:=by first|(rw [hy107];with_reducible exact H)|(have H2_:=(Option.bind_some _ _).symm.trans H;rw [hy107];with_reducible exact H2_)|(have H2_:=(Option.bind_some _ _).symm.trans H;with_reducible exact H2_)|with_reducible exact H|(rw [hy107];exact H)|exact H
               have Ny107:=Aside0.mk hy107
               clear hy107
               replace H:=Option.bind_eq_some_iff.mp H
               obtain ⟨⟨t111,t112⟩,A280,H⟩:=H
               replace H:((bill_Discount.f k3 ((l0.take ((wrap64 (x9_3+1)):Int).toNat).drop (x9_3:Int).toNat) (wrap64 (a1+a2))).bind fun bt117=>(if t112=0 then (if t111=t102 then (if bt117.2=0 then (if bt117.1 ≥ t102 then ((sawmilllaw50_awake.f k3).bind fun t119=>(some t119)) else (some false)) else ((sawmilllaw50_awake.f k3).bind fun t120=>(some t120))) else (some false)) else (some false)))=some r:=H
               have A28:=Aside0.mk A280
               clear A280
               have c29b0:=eq_true (of_decide_eq_true (by first|(with_reducible assumption)|assumption):0≤x9_3)
               have c30b0:=eq_true (of_decide_eq_true (by first|(with_reducible assumption)|assumption):x9_3≤(wrap64 (x9_3+1)))
               have c31b0:=eq_true (of_decide_eq_true (by first|(with_reducible assumption)|assumption):(wrap64 (x9_3+1))≤(l0.length:Int))
               obtain ⟨y113,hy113⟩:∃ y_:List (S56),y_=((l0.take ((wrap64 (x9_3+1)):Int).toNat).drop (x9_3:Int).toNat):=⟨_,rfl⟩
               replace H:((bill_Discount.f k3 y113 (wrap64 (a1+a2))).bind fun bt117=>(if t112=0 then (if t111=t102 then (if bt117.2=0 then (if bt117.1 ≥ t102 then ((sawmilllaw50_awake.f k3).bind fun t119=>(some t119)) else (some false)) else ((sawmilllaw50_awake.f k3).bind fun t120=>(some t120))) else (some false)) else (some false)))=some r:=by first|(rw [hy113];with_reducible exact H)|(have H2_:=(Option.bind_some _ _).symm.trans H;rw [hy113];with_reducible exact H2_)|(have H2_:=(Option.bind_some _ _).symm.trans H;with_reducible exact H2_)|with_reducible exact H|(rw [hy113];exact H)|exact H
               have Ny113:=Aside0.mk hy113
               clear hy113
               replace H:=Option.bind_eq_some_iff.mp H
               obtain ⟨⟨t117,t118⟩,A320,H⟩:=H
               replace H:(if t112=0 then (if t111=t102 then (if t118=0 then (if t117 ≥ t102 then ((sawmilllaw50_awake.f k3).bind fun t119=>(some t119)) else (some false)) else ((sawmilllaw50_awake.f k3).bind fun t120=>(some t120))) else (some false)) else (some false))=some r:=H
               have A32:=Aside0.mk A320
               clear A320
               by_cases c33:t112=0
               ·rw [if_pos c33] at H
                have c33b0:(t112 == 0)=true:=beq_iff_eq.mpr c33
                have c33b1:(t112 != 0)=false:=bne_eq_false_iff_eq.mpr c33
                clear c33
                by_cases c34:t111=t102
                ·rw [if_pos c34] at H
                 have c34b0:(t111 == t102)=true:=beq_iff_eq.mpr c34
                 have c34b1:(t111 != t102)=false:=bne_eq_false_iff_eq.mpr c34
                 clear c34
                 by_cases c35:t118=0
                 ·rw [if_pos c35] at H
                  have c35b0:(t118 == 0)=true:=beq_iff_eq.mpr c35
                  have c35b1:(t118 != 0)=false:=bne_eq_false_iff_eq.mpr c35
                  clear c35
                  by_cases c36:t117 ≥ t102
                  ·rw [if_pos c36] at H
                   have c36b0:decide (t102≤t117)=true:=decide_eq_true c36
                   clear c36
                   replace H:=Option.bind_eq_some_iff.mp H
                   obtain ⟨t119,A370,H⟩:=H
                   replace H:(some t119)=some r:=H
                   have A37:=Aside0.mk A370
                   clear A370
                   obtain rfl:=Option.some.inj H
                   have q38:((wrap64 (x9_3+1)):Int)≤((l0.length:Int):Int):=of_decide_eq_true (by first|(with_reducible assumption)|assumption)
                   obtain ⟨i038,hi038,_,hsz38,_⟩:=info_parts info56
                   have hroom38:l0.length≤c0:=HC0.out
                   have hC38:Kd.C k56 _ A0 l0.length l0:=HR0.out
                   have ql38:(x9_3:Int)≤((wrap64 (x9_3+1)):Int):=of_decide_eq_true (by first|(with_reducible assumption)|assumption)
                   have q038:(0:Int)≤(x9_3:Int):=of_decide_eq_true (by first|(with_reducible assumption)|assumption)
                   have hcut38:=cut_mid (P:=Tryd.prog) 24 56 .i64 .i64 Tryd.underlying24 hi038 2 hsz38 A0 l0.length c0 x9_3 (wrap64 (x9_3+1)) q038 ql38 q38 hroom38
                   have hr38:=Kd.C_mid (lo:=(x9_3:Int).toNat) (hi:=((wrap64 (x9_3+1)):Int).toNat) (c:=c0) hC38 (by omega) (by omega) hroom38
                   obtain ⟨A38,hA38⟩:∃ A1,A1=(if c0=(x9_3:Int).toNat then A0 else (A0:Option Addr).map (·.add ((x9_3:Int).toNat * 2))):=⟨_,rfl⟩
                   obtain ⟨c38,hc38⟩:∃ c1,c1=c0 - (x9_3:Int).toNat:=⟨_,rfl⟩
                   have hy38:y107.length=((wrap64 (x9_3+1)):Int).toNat - (x9_3:Int).toNat:=(by rw [Ny107.out,List.length_drop,List.length_take]<;>omega)
                   rw [show ((l0).take ((wrap64 (x9_3+1)):Int).toNat).drop (x9_3:Int).toNat=y107 from Ny107.out.symm] at hr38
                   replace hr38:Kd.C k56 _ A38 y107.length y107:=(by rw [hA38];exact hr38)
                   rw [← hy38,← hA38,← hc38] at hcut38
                   have HR110:=Aside0.mk hr38
                   have HC110:=Aside0.mk (show y107.length≤c38 from by rw [hy38,hc38];exact Nat.sub_le_sub_right (Nat.le_trans (by omega) hroom38) _)
                   clear hr38 hC38 hroom38 hi038 hsz38 hc38
                   have KY38:=Aside0.mk hy38
                   have KA38:=Aside0.mk hA38
                   clear hy38 hA38
                   replace q38:=eq_true q38
                   go_wp2_with (first|((with_reducible refine gate_callee (f:=16) rfl ?_);refine goesL_ (some 83) rfl rfl Tryd.func16 (by kernel_rfl) rfl #[.slice A38 y107.length c38,.int .i64 a1] rfl (by (try simp only [List.map_toArray,List.map_cons,List.map_nil]);first|done|rfl|(simp only [List.length_drop,List.length_take];rfl)) ?_;(with_reducible refine (bill_Discount.calls k3 _ _ y107 a1 t111 t112 _ ?side1 ?side2 A28.out).mono ?_);(case side1=>repeat (first|exact (Kd.C_below HR110.out HB.out)|(with_reducible refine Kd.C_alloc ?_ _)|(with_reducible refine Kd.C_drewN ?_ _)|(with_reducible refine Kd.C_drew ?_)));(case side2=>exact HC110.out);rintro e w39 ⟨rfl,hb⟩;refine ⟨_,rfl,?_⟩;have n0_:=Aside0.mk (below_step (by repeat (first|(with_reducible first|exact HB.out|apply below_alloc|apply pw_below_drewN|apply below_drew1)|exact HB.out)) hb);clear HB;have HB:=n0_;clear n0_;(try clear hb);(try clear hb2);(try clear hk);(try clear hi);have q40:((wrap64 (x9_3+1)):Int)≤((l0.length:Int):Int):=of_decide_eq_true (by first|(with_reducible assumption)|assumption);obtain ⟨i040,hi040,_,hsz40,_⟩:=info_parts info56;have hroom40:l0.length≤c0:=HC0.out;have hC40:Kd.C k56 _ A0 l0.length l0:=HR0.out;have ql40:(x9_3:Int)≤((wrap64 (x9_3+1)):Int):=of_decide_eq_true (by first|(with_reducible assumption)|assumption);have q040:(0:Int)≤(x9_3:Int):=of_decide_eq_true (by first|(with_reducible assumption)|assumption);clear hcut38;have hcut40:=cut_mid (P:=Tryd.prog) 24 56 .i64 .i64 Tryd.underlying24 hi040 2 hsz40 A0 l0.length c0 x9_3 (wrap64 (x9_3+1)) q040 ql40 q40 hroom40;have hr40:=Kd.C_mid (lo:=(x9_3:Int).toNat) (hi:=((wrap64 (x9_3+1)):Int).toNat) (c:=c0) hC40 (by omega) (by omega) hroom40;obtain ⟨A40,hA40⟩:∃ A1,A1=(if c0=(x9_3:Int).toNat then A0 else (A0:Option Addr).map (·.add ((x9_3:Int).toNat * 2))):=⟨_,rfl⟩;obtain ⟨c40,hc40⟩:∃ c1,c1=c0 - (x9_3:Int).toNat:=⟨_,rfl⟩;have hy40:y113.length=((wrap64 (x9_3+1)):Int).toNat - (x9_3:Int).toNat:=(by rw [Ny113.out,List.length_drop,List.length_take]<;>omega);rw [show ((l0).take ((wrap64 (x9_3+1)):Int).toNat).drop (x9_3:Int).toNat=y113 from Ny113.out.symm] at hr40;replace hr40:Kd.C k56 _ A40 y113.length y113:=(by rw [hA40];exact hr40);rw [← hy40,← hA40,← hc40] at hcut40;have HR116:=Aside0.mk hr40;have HC116:=Aside0.mk (show y113.length≤c40 from by rw [hy40,hc40];exact Nat.sub_le_sub_right (Nat.le_trans (by omega) hroom40) _);clear hr40 hC40 hroom40 hi040 hsz40 hc40;have KY40:=Aside0.mk hy40;have KA40:=Aside0.mk hA40;clear hy40 hA40;replace q40:=eq_true q40)|((with_reducible refine gate_callee (f:=16) rfl ?_);refine goesL_ (some 95) rfl rfl Tryd.func16 (by kernel_rfl) rfl #[.slice A40 y113.length c40,.int .i64 (wrap64 (a1+a2))] rfl (by (try simp only [List.map_toArray,List.map_cons,List.map_nil]);first|done|rfl|(simp only [List.length_drop,List.length_take];rfl)) ?_;(with_reducible refine (bill_Discount.calls k3 _ _ y113 (wrap64 (a1+a2)) t117 t118 _ ?side1 ?side2 A32.out).mono ?_);(case side1=>repeat (first|exact (Kd.C_below HR116.out HB.out)|(with_reducible refine Kd.C_alloc ?_ _)|(with_reducible refine Kd.C_drewN ?_ _)|(with_reducible refine Kd.C_drew ?_)));(case side2=>exact HC116.out);rintro e w41 ⟨rfl,hb⟩;refine ⟨_,rfl,?_⟩;have n0_:=Aside0.mk (below_step (by repeat (first|(with_reducible first|exact HB.out|apply below_alloc|apply pw_below_drewN|apply below_drew1)|exact HB.out)) hb);clear HB;have HB:=n0_;clear n0_;(try clear hb);(try clear hb2);(try clear hk);(try clear hi))|(go_at_call 11;(with_reducible refine (sawmilllaw50_awake.calls k3  t119 _ A37.out (glob_at HG_ (by repeat (first|(with_reducible first|exact HB.out|apply below_alloc|apply pw_below_drewN|apply below_drew1|refine below_set ?_ (Aside0.out (by assumption)))|exact HB.out)))).mono ?_);rintro e w42 ⟨rfl,hb⟩;have n0_:=Aside0.mk (below_step (by repeat (first|(with_reducible first|exact HB.out|apply below_alloc|apply pw_below_drewN|apply below_drew1)|exact HB.out)) hb);clear HB;have HB:=n0_;clear n0_;(try clear hb);(try clear hb2);(try clear hk);(try clear hi)))
                   go_ret
                   exact ⟨by first|rfl|(simp [errW_none,errW_some]<;>rfl)|(simp [*,errW_none,errW_some]<;>rfl),by repeat (first|(with_reducible first|exact HB.out|apply below_alloc|apply pw_below_drewN|apply below_drew1)|exact HB.out)⟩
                  ·rw [if_neg c36] at H
                   have c36b0:decide (t102≤t117)=false:=decide_eq_false c36
                   clear c36
                   obtain rfl:=Option.some.inj H
                   have q43:((wrap64 (x9_3+1)):Int)≤((l0.length:Int):Int):=of_decide_eq_true (by first|(with_reducible assumption)|assumption)
                   obtain ⟨i043,hi043,_,hsz43,_⟩:=info_parts info56
                   have hroom43:l0.length≤c0:=HC0.out
                   have hC43:Kd.C k56 _ A0 l0.length l0:=HR0.out
                   have ql43:(x9_3:Int)≤((wrap64 (x9_3+1)):Int):=of_decide_eq_true (by first|(with_reducible assumption)|assumption)
                   have q043:(0:Int)≤(x9_3:Int):=of_decide_eq_true (by first|(with_reducible assumption)|assumption)
                   have hcut43:=cut_mid (P:=Tryd.prog) 24 56 .i64 .i64 Tryd.underlying24 hi043 2 hsz43 A0 l0.length c0 x9_3 (wrap64 (x9_3+1)) q043 ql43 q43 hroom43
                   have hr43:=Kd.C_mid (lo:=(x9_3:Int).toNat) (hi:=((wrap64 (x9_3+1)):Int).toNat) (c:=c0) hC43 (by omega) (by omega) hroom43
                   obtain ⟨A43,hA43⟩:∃ A1,A1=(if c0=(x9_3:Int).toNat then A0 else (A0:Option Addr).map (·.add ((x9_3:Int).toNat * 2))):=⟨_,rfl⟩
                   obtain ⟨c43,hc43⟩:∃ c1,c1=c0 - (x9_3:Int).toNat:=⟨_,rfl⟩
                   have hy43:y107.length=((wrap64 (x9_3+1)):Int).toNat - (x9_3:Int).toNat:=(by rw [Ny107.out,List.length_drop,List.length_take]<;>omega)
                   rw [show ((l0).take ((wrap64 (x9_3+1)):Int).toNat).drop (x9_3:Int).toNat=y107 from Ny107.out.symm] at hr43
                   replace hr43:Kd.C k56 _ A43 y107.length y107:=(by rw [hA43];exact hr43)
                   rw [← hy43,← hA43,← hc43] at hcut43
                   have HR110:=Aside0.mk hr43
                   have HC110:=Aside0.mk (show y107.length≤c43 from by rw [hy43,hc43];exact Nat.sub_le_sub_right (Nat.le_trans (by omega) hroom43) _)
                   clear hr43 hC43 hroom43 hi043 hsz43 hc43
                   have KY43:=Aside0.mk hy43
                   have KA43:=Aside0.mk hA43
                   clear hy43 hA43
                   replace q43:=eq_true q43
                   go_wp2_with (first|((with_reducible refine gate_callee (f:=16) rfl ?_);refine goesL_ (some 83) rfl rfl Tryd.func16 (by kernel_rfl) rfl #[.slice A43 y107.length c43,.int .i64 a1] rfl (by (try simp only [List.map_toArray,List.map_cons,List.map_nil]);first|done|rfl|(simp only [List.length_drop,List.length_take];rfl)) ?_;(with_reducible refine (bill_Discount.calls k3 _ _ y107 a1 t111 t112 _ ?side1 ?side2 A28.out).mono ?_);(case side1=>repeat (first|exact (Kd.C_below HR110.out HB.out)|(with_reducible refine Kd.C_alloc ?_ _)|(with_reducible refine Kd.C_drewN ?_ _)|(with_reducible refine Kd.C_drew ?_)));(case side2=>exact HC110.out);rintro e w44 ⟨rfl,hb⟩;refine ⟨_,rfl,?_⟩;have n0_:=Aside0.mk (below_step (by repeat (first|(with_reducible first|exact HB.out|apply below_alloc|apply pw_below_drewN|apply below_drew1)|exact HB.out)) hb);clear HB;have HB:=n0_;clear n0_;(try clear hb);(try clear hb2);(try clear hk);(try clear hi);have q45:((wrap64 (x9_3+1)):Int)≤((l0.length:Int):Int):=of_decide_eq_true (by first|(with_reducible assumption)|assumption);obtain ⟨i045,hi045,_,hsz45,_⟩:=info_parts info56;have hroom45:l0.length≤c0:=HC0.out;have hC45:Kd.C k56 _ A0 l0.length l0:=HR0.out;have ql45:(x9_3:Int)≤((wrap64 (x9_3+1)):Int):=of_decide_eq_true (by first|(with_reducible assumption)|assumption);have q045:(0:Int)≤(x9_3:Int):=of_decide_eq_true (by first|(with_reducible assumption)|assumption);clear hcut43;have hcut45:=cut_mid (P:=Tryd.prog) 24 56 .i64 .i64 Tryd.underlying24 hi045 2 hsz45 A0 l0.length c0 x9_3 (wrap64 (x9_3+1)) q045 ql45 q45 hroom45;have hr45:=Kd.C_mid (lo:=(x9_3:Int).toNat) (hi:=((wrap64 (x9_3+1)):Int).toNat) (c:=c0) hC45 (by omega) (by omega) hroom45;obtain ⟨A45,hA45⟩:∃ A1,A1=(if c0=(x9_3:Int).toNat then A0 else (A0:Option Addr).map (·.add ((x9_3:Int).toNat * 2))):=⟨_,rfl⟩;obtain ⟨c45,hc45⟩:∃ c1,c1=c0 - (x9_3:Int).toNat:=⟨_,rfl⟩;have hy45:y113.length=((wrap64 (x9_3+1)):Int).toNat - (x9_3:Int).toNat:=(by rw [Ny113.out,List.length_drop,List.length_take]<;>omega);rw [show ((l0).take ((wrap64 (x9_3+1)):Int).toNat).drop (x9_3:Int).toNat=y113 from Ny113.out.symm] at hr45;replace hr45:Kd.C k56 _ A45 y113.length y113:=(by rw [hA45];exact hr45);rw [← hy45,← hA45,← hc45] at hcut45;have HR116:=Aside0.mk hr45;have HC116:=Aside0.mk (show y113.length≤c45 from by rw [hy45,hc45];exact Nat.sub_le_sub_right (Nat.le_trans (by omega) hroom45) _);clear hr45 hC45 hroom45 hi045 hsz45 hc45;have KY45:=Aside0.mk hy45;have KA45:=Aside0.mk hA45;clear hy45 hA45;replace q45:=eq_true q45)|((with_reducible refine gate_callee (f:=16) rfl ?_);refine goesL_ (some 95) rfl rfl Tryd.func16 (by kernel_rfl) rfl #[.slice A45 y113.length c45,.int .i64 (wrap64 (a1+a2))] rfl (by (try simp only [List.map_toArray,List.map_cons,List.map_nil]);first|done|rfl|(simp only [List.length_drop,List.length_take];rfl)) ?_;(with_reducible refine (bill_Discount.calls k3 _ _ y113 (wrap64 (a1+a2)) t117 t118 _ ?side1 ?side2 A32.out).mono ?_);(case side1=>repeat (first|exact (Kd.C_below HR116.out HB.out)|(with_reducible refine Kd.C_alloc ?_ _)|(with_reducible refine Kd.C_drewN ?_ _)|(with_reducible refine Kd.C_drew ?_)));(case side2=>exact HC116.out);rintro e w46 ⟨rfl,hb⟩;refine ⟨_,rfl,?_⟩;have n0_:=Aside0.mk (below_step (by repeat (first|(with_reducible first|exact HB.out|apply below_alloc|apply pw_below_drewN|apply below_drew1)|exact HB.out)) hb);clear HB;have HB:=n0_;clear n0_;(try clear hb);(try clear hb2);(try clear hk);(try clear hi)))
                   go_ret
                   exact ⟨by first|rfl|(simp [errW_none,errW_some]<;>rfl)|(simp [*,errW_none,errW_some]<;>rfl),by repeat (first|(with_reducible first|exact HB.out|apply below_alloc|apply pw_below_drewN|apply below_drew1)|exact HB.out)⟩
                 ·rw [if_neg c35] at H
                  have c35b0:(t118 == 0)=false:=beq_eq_false_iff_ne.mpr c35
                  have c35b1:(t118 != 0)=true:=bne_iff_ne.mpr c35
                  replace H:=Option.bind_eq_some_iff.mp H
                  obtain ⟨t120,A470,H⟩:=H
                  replace H:(some t120)=some r:=H
                  have A47:=Aside0.mk A470
                  clear A470
                  obtain rfl:=Option.some.inj H
                  have q48:((wrap64 (x9_3+1)):Int)≤((l0.length:Int):Int):=of_decide_eq_true (by first|(with_reducible assumption)|assumption)
                  obtain ⟨i048,hi048,_,hsz48,_⟩:=info_parts info56
                  have hroom48:l0.length≤c0:=HC0.out
                  have hC48:Kd.C k56 _ A0 l0.length l0:=HR0.out
                  have ql48:(x9_3:Int)≤((wrap64 (x9_3+1)):Int):=of_decide_eq_true (by first|(with_reducible assumption)|assumption)
                  have q048:(0:Int)≤(x9_3:Int):=of_decide_eq_true (by first|(with_reducible assumption)|assumption)
                  have hcut48:=cut_mid (P:=Tryd.prog) 24 56 .i64 .i64 Tryd.underlying24 hi048 2 hsz48 A0 l0.length c0 x9_3 (wrap64 (x9_3+1)) q048 ql48 q48 hroom48
                  have hr48:=Kd.C_mid (lo:=(x9_3:Int).toNat) (hi:=((wrap64 (x9_3+1)):Int).toNat) (c:=c0) hC48 (by omega) (by omega) hroom48
                  obtain ⟨A48,hA48⟩:∃ A1,A1=(if c0=(x9_3:Int).toNat then A0 else (A0:Option Addr).map (·.add ((x9_3:Int).toNat * 2))):=⟨_,rfl⟩
                  obtain ⟨c48,hc48⟩:∃ c1,c1=c0 - (x9_3:Int).toNat:=⟨_,rfl⟩
                  have hy48:y107.length=((wrap64 (x9_3+1)):Int).toNat - (x9_3:Int).toNat:=(by rw [Ny107.out,List.length_drop,List.length_take]<;>omega)
                  rw [show ((l0).take ((wrap64 (x9_3+1)):Int).toNat).drop (x9_3:Int).toNat=y107 from Ny107.out.symm] at hr48
                  replace hr48:Kd.C k56 _ A48 y107.length y107:=(by rw [hA48];exact hr48)
                  rw [← hy48,← hA48,← hc48] at hcut48
                  have HR110:=Aside0.mk hr48
                  have HC110:=Aside0.mk (show y107.length≤c48 from by rw [hy48,hc48];exact Nat.sub_le_sub_right (Nat.le_trans (by omega) hroom48) _)
                  clear hr48 hC48 hroom48 hi048 hsz48 hc48
                  have KY48:=Aside0.mk hy48
                  have KA48:=Aside0.mk hA48
                  clear hy48 hA48
                  replace q48:=eq_true q48
                  go_wp2_with (first|((with_reducible refine gate_callee (f:=16) rfl ?_);refine goesL_ (some 83) rfl rfl Tryd.func16 (by kernel_rfl) rfl #[.slice A48 y107.length c48,.int .i64 a1] rfl (by (try simp only [List.map_toArray,List.map_cons,List.map_nil]);first|done|rfl|(simp only [List.length_drop,List.length_take];rfl)) ?_;(with_reducible refine (bill_Discount.calls k3 _ _ y107 a1 t111 t112 _ ?side1 ?side2 A28.out).mono ?_);(case side1=>repeat (first|exact (Kd.C_below HR110.out HB.out)|(with_reducible refine Kd.C_alloc ?_ _)|(with_reducible refine Kd.C_drewN ?_ _)|(with_reducible refine Kd.C_drew ?_)));(case side2=>exact HC110.out);rintro e w49 ⟨rfl,hb⟩;refine ⟨_,rfl,?_⟩;have n0_:=Aside0.mk (below_step (by repeat (first|(with_reducible first|exact HB.out|apply below_alloc|apply pw_below_drewN|apply below_drew1)|exact HB.out)) hb);clear HB;have HB:=n0_;clear n0_;(try clear hb);(try clear hb2);(try clear hk);(try clear hi);have q50:((wrap64 (x9_3+1)):Int)≤((l0.length:Int):Int):=of_decide_eq_true (by first|(with_reducible assumption)|assumption);obtain ⟨i050,hi050,_,hsz50,_⟩:=info_parts info56;have hroom50:l0.length≤c0:=HC0.out;have hC50:Kd.C k56 _ A0 l0.length l0:=HR0.out;have ql50:(x9_3:Int)≤((wrap64 (x9_3+1)):Int):=of_decide_eq_true (by first|(with_reducible assumption)|assumption);have q050:(0:Int)≤(x9_3:Int):=of_decide_eq_true (by first|(with_reducible assumption)|assumption);clear hcut48;have hcut50:=cut_mid (P:=Tryd.prog) 24 56 .i64 .i64 Tryd.underlying24 hi050 2 hsz50 A0 l0.length c0 x9_3 (wrap64 (x9_3+1)) q050 ql50 q50 hroom50;have hr50:=Kd.C_mid (lo:=(x9_3:Int).toNat) (hi:=((wrap64 (x9_3+1)):Int).toNat) (c:=c0) hC50 (by omega) (by omega) hroom50;obtain ⟨A50,hA50⟩:∃ A1,A1=(if c0=(x9_3:Int).toNat then A0 else (A0:Option Addr).map (·.add ((x9_3:Int).toNat * 2))):=⟨_,rfl⟩;obtain ⟨c50,hc50⟩:∃ c1,c1=c0 - (x9_3:Int).toNat:=⟨_,rfl⟩;have hy50:y113.length=((wrap64 (x9_3+1)):Int).toNat - (x9_3:Int).toNat:=(by rw [Ny113.out,List.length_drop,List.length_take]<;>omega);rw [show ((l0).take ((wrap64 (x9_3+1)):Int).toNat).drop (x9_3:Int).toNat=y113 from Ny113.out.symm] at hr50;replace hr50:Kd.C k56 _ A50 y113.length y113:=(by rw [hA50];exact hr50);rw [← hy50,← hA50,← hc50] at hcut50;have HR116:=Aside0.mk hr50;have HC116:=Aside0.mk (show y113.length≤c50 from by rw [hy50,hc50];exact Nat.sub_le_sub_right (Nat.le_trans (by omega) hroom50) _);clear hr50 hC50 hroom50 hi050 hsz50 hc50;have KY50:=Aside0.mk hy50;have KA50:=Aside0.mk hA50;clear hy50 hA50;replace q50:=eq_true q50)|((with_reducible refine gate_callee (f:=16) rfl ?_);refine goesL_ (some 95) rfl rfl Tryd.func16 (by kernel_rfl) rfl #[.slice A50 y113.length c50,.int .i64 (wrap64 (a1+a2))] rfl (by (try simp only [List.map_toArray,List.map_cons,List.map_nil]);first|done|rfl|(simp only [List.length_drop,List.length_take];rfl)) ?_;(with_reducible refine (bill_Discount.calls k3 _ _ y113 (wrap64 (a1+a2)) t117 t118 _ ?side1 ?side2 A32.out).mono ?_);(case side1=>repeat (first|exact (Kd.C_below HR116.out HB.out)|(with_reducible refine Kd.C_alloc ?_ _)|(with_reducible refine Kd.C_drewN ?_ _)|(with_reducible refine Kd.C_drew ?_)));(case side2=>exact HC116.out);rintro e w51 ⟨rfl,hb⟩;refine ⟨_,rfl,?_⟩;have n0_:=Aside0.mk (below_step (by repeat (first|(with_reducible first|exact HB.out|apply below_alloc|apply pw_below_drewN|apply below_drew1)|exact HB.out)) hb);clear HB;have HB:=n0_;clear n0_;(try clear hb);(try clear hb2);(try clear hk);(try clear hi))|(go_at_call 11;(with_reducible refine (sawmilllaw50_awake.calls k3  t120 _ A47.out (glob_at HG_ (by repeat (first|(with_reducible first|exact HB.out|apply below_alloc|apply pw_below_drewN|apply below_drew1|refine below_set ?_ (Aside0.out (by assumption)))|exact HB.out)))).mono ?_);rintro e w52 ⟨rfl,hb⟩;have n0_:=Aside0.mk (below_step (by repeat (first|(with_reducible first|exact HB.out|apply below_alloc|apply pw_below_drewN|apply below_drew1)|exact HB.out)) hb);clear HB;have HB:=n0_;clear n0_;(try clear hb);(try clear hb2);(try clear hk);(try clear hi)))
                  go_ret
                  exact ⟨by first|rfl|(simp [errW_none,errW_some]<;>rfl)|(simp [*,errW_none,errW_some]<;>rfl),by repeat (first|(with_reducible first|exact HB.out|apply below_alloc|apply pw_below_drewN|apply below_drew1)|exact HB.out)⟩
                ·rw [if_neg c34] at H
                 have c34b0:(t111 == t102)=false:=beq_eq_false_iff_ne.mpr c34
                 have c34b1:(t111 != t102)=true:=bne_iff_ne.mpr c34
                 obtain rfl:=Option.some.inj H
                 have q53:((wrap64 (x9_3+1)):Int)≤((l0.length:Int):Int):=of_decide_eq_true (by first|(with_reducible assumption)|assumption)
                 obtain ⟨i053,hi053,_,hsz53,_⟩:=info_parts info56
                 have hroom53:l0.length≤c0:=HC0.out
                 have hC53:Kd.C k56 _ A0 l0.length l0:=HR0.out
                 have ql53:(x9_3:Int)≤((wrap64 (x9_3+1)):Int):=of_decide_eq_true (by first|(with_reducible assumption)|assumption)
                 have q053:(0:Int)≤(x9_3:Int):=of_decide_eq_true (by first|(with_reducible assumption)|assumption)
                 have hcut53:=cut_mid (P:=Tryd.prog) 24 56 .i64 .i64 Tryd.underlying24 hi053 2 hsz53 A0 l0.length c0 x9_3 (wrap64 (x9_3+1)) q053 ql53 q53 hroom53
                 have hr53:=Kd.C_mid (lo:=(x9_3:Int).toNat) (hi:=((wrap64 (x9_3+1)):Int).toNat) (c:=c0) hC53 (by omega) (by omega) hroom53
                 obtain ⟨A53,hA53⟩:∃ A1,A1=(if c0=(x9_3:Int).toNat then A0 else (A0:Option Addr).map (·.add ((x9_3:Int).toNat * 2))):=⟨_,rfl⟩
                 obtain ⟨c53,hc53⟩:∃ c1,c1=c0 - (x9_3:Int).toNat:=⟨_,rfl⟩
                 have hy53:y107.length=((wrap64 (x9_3+1)):Int).toNat - (x9_3:Int).toNat:=(by rw [Ny107.out,List.length_drop,List.length_take]<;>omega)
                 rw [show ((l0).take ((wrap64 (x9_3+1)):Int).toNat).drop (x9_3:Int).toNat=y107 from Ny107.out.symm] at hr53
                 replace hr53:Kd.C k56 _ A53 y107.length y107:=(by rw [hA53];exact hr53)
                 rw [← hy53,← hA53,← hc53] at hcut53
                 have HR110:=Aside0.mk hr53
                 have HC110:=Aside0.mk (show y107.length≤c53 from by rw [hy53,hc53];exact Nat.sub_le_sub_right (Nat.le_trans (by omega) hroom53) _)
                 clear hr53 hC53 hroom53 hi053 hsz53 hc53
                 have KY53:=Aside0.mk hy53
                 have KA53:=Aside0.mk hA53
                 clear hy53 hA53
                 replace q53:=eq_true q53
                 go_wp2_with (first|((with_reducible refine gate_callee (f:=16) rfl ?_);refine goesL_ (some 83) rfl rfl Tryd.func16 (by kernel_rfl) rfl #[.slice A53 y107.length c53,.int .i64 a1] rfl (by (try simp only [List.map_toArray,List.map_cons,List.map_nil]);first|done|rfl|(simp only [List.length_drop,List.length_take];rfl)) ?_;(with_reducible refine (bill_Discount.calls k3 _ _ y107 a1 t111 t112 _ ?side1 ?side2 A28.out).mono ?_);(case side1=>repeat (first|exact (Kd.C_below HR110.out HB.out)|(with_reducible refine Kd.C_alloc ?_ _)|(with_reducible refine Kd.C_drewN ?_ _)|(with_reducible refine Kd.C_drew ?_)));(case side2=>exact HC110.out);rintro e w54 ⟨rfl,hb⟩;refine ⟨_,rfl,?_⟩;have n0_:=Aside0.mk (below_step (by repeat (first|(with_reducible first|exact HB.out|apply below_alloc|apply pw_below_drewN|apply below_drew1)|exact HB.out)) hb);clear HB;have HB:=n0_;clear n0_;(try clear hb);(try clear hb2);(try clear hk);(try clear hi);have q55:((wrap64 (x9_3+1)):Int)≤((l0.length:Int):Int):=of_decide_eq_true (by first|(with_reducible assumption)|assumption);obtain ⟨i055,hi055,_,hsz55,_⟩:=info_parts info56;have hroom55:l0.length≤c0:=HC0.out;have hC55:Kd.C k56 _ A0 l0.length l0:=HR0.out;have ql55:(x9_3:Int)≤((wrap64 (x9_3+1)):Int):=of_decide_eq_true (by first|(with_reducible assumption)|assumption);have q055:(0:Int)≤(x9_3:Int):=of_decide_eq_true (by first|(with_reducible assumption)|assumption);clear hcut53;have hcut55:=cut_mid (P:=Tryd.prog) 24 56 .i64 .i64 Tryd.underlying24 hi055 2 hsz55 A0 l0.length c0 x9_3 (wrap64 (x9_3+1)) q055 ql55 q55 hroom55;have hr55:=Kd.C_mid (lo:=(x9_3:Int).toNat) (hi:=((wrap64 (x9_3+1)):Int).toNat) (c:=c0) hC55 (by omega) (by omega) hroom55;obtain ⟨A55,hA55⟩:∃ A1,A1=(if c0=(x9_3:Int).toNat then A0 else (A0:Option Addr).map (·.add ((x9_3:Int).toNat * 2))):=⟨_,rfl⟩;obtain ⟨c55,hc55⟩:∃ c1,c1=c0 - (x9_3:Int).toNat:=⟨_,rfl⟩;have hy55:y113.length=((wrap64 (x9_3+1)):Int).toNat - (x9_3:Int).toNat:=(by rw [Ny113.out,List.length_drop,List.length_take]<;>omega);rw [show ((l0).take ((wrap64 (x9_3+1)):Int).toNat).drop (x9_3:Int).toNat=y113 from Ny113.out.symm] at hr55;replace hr55:Kd.C k56 _ A55 y113.length y113:=(by rw [hA55];exact hr55);rw [← hy55,← hA55,← hc55] at hcut55;have HR116:=Aside0.mk hr55;have HC116:=Aside0.mk (show y113.length≤c55 from by rw [hy55,hc55];exact Nat.sub_le_sub_right (Nat.le_trans (by omega) hroom55) _);clear hr55 hC55 hroom55 hi055 hsz55 hc55;have KY55:=Aside0.mk hy55;have KA55:=Aside0.mk hA55;clear hy55 hA55;replace q55:=eq_true q55)|((with_reducible refine gate_callee (f:=16) rfl ?_);refine goesL_ (some 95) rfl rfl Tryd.func16 (by kernel_rfl) rfl #[.slice A55 y113.length c55,.int .i64 (wrap64 (a1+a2))] rfl (by (try simp only [List.map_toArray,List.map_cons,List.map_nil]);first|done|rfl|(simp only [List.length_drop,List.length_take];rfl)) ?_;(with_reducible refine (bill_Discount.calls k3 _ _ y113 (wrap64 (a1+a2)) t117 t118 _ ?side1 ?side2 A32.out).mono ?_);(case side1=>repeat (first|exact (Kd.C_below HR116.out HB.out)|(with_reducible refine Kd.C_alloc ?_ _)|(with_reducible refine Kd.C_drewN ?_ _)|(with_reducible refine Kd.C_drew ?_)));(case side2=>exact HC116.out);rintro e w56 ⟨rfl,hb⟩;refine ⟨_,rfl,?_⟩;have n0_:=Aside0.mk (below_step (by repeat (first|(with_reducible first|exact HB.out|apply below_alloc|apply pw_below_drewN|apply below_drew1)|exact HB.out)) hb);clear HB;have HB:=n0_;clear n0_;(try clear hb);(try clear hb2);(try clear hk);(try clear hi)))
                 go_ret
                 exact ⟨by first|rfl|(simp [errW_none,errW_some]<;>rfl)|(simp [*,errW_none,errW_some]<;>rfl),by repeat (first|(with_reducible first|exact HB.out|apply below_alloc|apply pw_below_drewN|apply below_drew1)|exact HB.out)⟩
               ·rw [if_neg c33] at H
                have c33b0:(t112 == 0)=false:=beq_eq_false_iff_ne.mpr c33
                have c33b1:(t112 != 0)=true:=bne_iff_ne.mpr c33
                obtain rfl:=Option.some.inj H
                have q57:((wrap64 (x9_3+1)):Int)≤((l0.length:Int):Int):=of_decide_eq_true (by first|(with_reducible assumption)|assumption)
                obtain ⟨i057,hi057,_,hsz57,_⟩:=info_parts info56
                have hroom57:l0.length≤c0:=HC0.out
                have hC57:Kd.C k56 _ A0 l0.length l0:=HR0.out
                have ql57:(x9_3:Int)≤((wrap64 (x9_3+1)):Int):=of_decide_eq_true (by first|(with_reducible assumption)|assumption)
                have q057:(0:Int)≤(x9_3:Int):=of_decide_eq_true (by first|(with_reducible assumption)|assumption)
                have hcut57:=cut_mid (P:=Tryd.prog) 24 56 .i64 .i64 Tryd.underlying24 hi057 2 hsz57 A0 l0.length c0 x9_3 (wrap64 (x9_3+1)) q057 ql57 q57 hroom57
                have hr57:=Kd.C_mid (lo:=(x9_3:Int).toNat) (hi:=((wrap64 (x9_3+1)):Int).toNat) (c:=c0) hC57 (by omega) (by omega) hroom57
                obtain ⟨A57,hA57⟩:∃ A1,A1=(if c0=(x9_3:Int).toNat then A0 else (A0:Option Addr).map (·.add ((x9_3:Int).toNat * 2))):=⟨_,rfl⟩
                obtain ⟨c57,hc57⟩:∃ c1,c1=c0 - (x9_3:Int).toNat:=⟨_,rfl⟩
                have hy57:y107.length=((wrap64 (x9_3+1)):Int).toNat - (x9_3:Int).toNat:=(by rw [Ny107.out,List.length_drop,List.length_take]<;>omega)
                rw [show ((l0).take ((wrap64 (x9_3+1)):Int).toNat).drop (x9_3:Int).toNat=y107 from Ny107.out.symm] at hr57
                replace hr57:Kd.C k56 _ A57 y107.length y107:=(by rw [hA57];exact hr57)
                rw [← hy57,← hA57,← hc57] at hcut57
                have HR110:=Aside0.mk hr57
                have HC110:=Aside0.mk (show y107.length≤c57 from by rw [hy57,hc57];exact Nat.sub_le_sub_right (Nat.le_trans (by omega) hroom57) _)
                clear hr57 hC57 hroom57 hi057 hsz57 hc57
                have KY57:=Aside0.mk hy57
                have KA57:=Aside0.mk hA57
                clear hy57 hA57
                replace q57:=eq_true q57
                go_wp2_with (first|((with_reducible refine gate_callee (f:=16) rfl ?_);refine goesL_ (some 83) rfl rfl Tryd.func16 (by kernel_rfl) rfl #[.slice A57 y107.length c57,.int .i64 a1] rfl (by (try simp only [List.map_toArray,List.map_cons,List.map_nil]);first|done|rfl|(simp only [List.length_drop,List.length_take];rfl)) ?_;(with_reducible refine (bill_Discount.calls k3 _ _ y107 a1 t111 t112 _ ?side1 ?side2 A28.out).mono ?_);(case side1=>repeat (first|exact (Kd.C_below HR110.out HB.out)|(with_reducible refine Kd.C_alloc ?_ _)|(with_reducible refine Kd.C_drewN ?_ _)|(with_reducible refine Kd.C_drew ?_)));(case side2=>exact HC110.out);rintro e w58 ⟨rfl,hb⟩;refine ⟨_,rfl,?_⟩;have n0_:=Aside0.mk (below_step (by repeat (first|(with_reducible first|exact HB.out|apply below_alloc|apply pw_below_drewN|apply below_drew1)|exact HB.out)) hb);clear HB;have HB:=n0_;clear n0_;(try clear hb);(try clear hb2);(try clear hk);(try clear hi);have q59:((wrap64 (x9_3+1)):Int)≤((l0.length:Int):Int):=of_decide_eq_true (by first|(with_reducible assumption)|assumption);obtain ⟨i059,hi059,_,hsz59,_⟩:=info_parts info56;have hroom59:l0.length≤c0:=HC0.out;have hC59:Kd.C k56 _ A0 l0.length l0:=HR0.out;have ql59:(x9_3:Int)≤((wrap64 (x9_3+1)):Int):=of_decide_eq_true (by first|(with_reducible assumption)|assumption);have q059:(0:Int)≤(x9_3:Int):=of_decide_eq_true (by first|(with_reducible assumption)|assumption);clear hcut57;have hcut59:=cut_mid (P:=Tryd.prog) 24 56 .i64 .i64 Tryd.underlying24 hi059 2 hsz59 A0 l0.length c0 x9_3 (wrap64 (x9_3+1)) q059 ql59 q59 hroom59;have hr59:=Kd.C_mid (lo:=(x9_3:Int).toNat) (hi:=((wrap64 (x9_3+1)):Int).toNat) (c:=c0) hC59 (by omega) (by omega) hroom59;obtain ⟨A59,hA59⟩:∃ A1,A1=(if c0=(x9_3:Int).toNat then A0 else (A0:Option Addr).map (·.add ((x9_3:Int).toNat * 2))):=⟨_,rfl⟩;obtain ⟨c59,hc59⟩:∃ c1,c1=c0 - (x9_3:Int).toNat:=⟨_,rfl⟩;have hy59:y113.length=((wrap64 (x9_3+1)):Int).toNat - (x9_3:Int).toNat:=(by rw [Ny113.out,List.length_drop,List.length_take]<;>omega);rw [show ((l0).take ((wrap64 (x9_3+1)):Int).toNat).drop (x9_3:Int).toNat=y113 from Ny113.out.symm] at hr59;replace hr59:Kd.C k56 _ A59 y113.length y113:=(by rw [hA59];exact hr59);rw [← hy59,← hA59,← hc59] at hcut59;have HR116:=Aside0.mk hr59;have HC116:=Aside0.mk (show y113.length≤c59 from by rw [hy59,hc59];exact Nat.sub_le_sub_right (Nat.le_trans (by omega) hroom59) _);clear hr59 hC59 hroom59 hi059 hsz59 hc59;have KY59:=Aside0.mk hy59;have KA59:=Aside0.mk hA59;clear hy59 hA59;replace q59:=eq_true q59)|((with_reducible refine gate_callee (f:=16) rfl ?_);refine goesL_ (some 95) rfl rfl Tryd.func16 (by kernel_rfl) rfl #[.slice A59 y113.length c59,.int .i64 (wrap64 (a1+a2))] rfl (by (try simp only [List.map_toArray,List.map_cons,List.map_nil]);first|done|rfl|(simp only [List.length_drop,List.length_take];rfl)) ?_;(with_reducible refine (bill_Discount.calls k3 _ _ y113 (wrap64 (a1+a2)) t117 t118 _ ?side1 ?side2 A32.out).mono ?_);(case side1=>repeat (first|exact (Kd.C_below HR116.out HB.out)|(with_reducible refine Kd.C_alloc ?_ _)|(with_reducible refine Kd.C_drewN ?_ _)|(with_reducible refine Kd.C_drew ?_)));(case side2=>exact HC116.out);rintro e w60 ⟨rfl,hb⟩;refine ⟨_,rfl,?_⟩;have n0_:=Aside0.mk (below_step (by repeat (first|(with_reducible first|exact HB.out|apply below_alloc|apply pw_below_drewN|apply below_drew1)|exact HB.out)) hb);clear HB;have HB:=n0_;clear n0_;(try clear hb);(try clear hb2);(try clear hk);(try clear hi)))
                go_ret
                exact ⟨by first|rfl|(simp [errW_none,errW_some]<;>rfl)|(simp [*,errW_none,errW_some]<;>rfl),by repeat (first|(with_reducible first|exact HB.out|apply below_alloc|apply pw_below_drewN|apply below_drew1)|exact HB.out)⟩
              ·rw [if_neg c27] at H
               exact absurd H (by simp)
             ·rw [if_neg c26] at H
              exact absurd H (by simp)
            ·rw [if_neg c25] at H
             exact absurd H (by simp)
    ·rw [if_neg c13] at H
     have c13b0:(t103 == 0)=false:=beq_eq_false_iff_ne.mpr c13
     have c13b1:(t103 != 0)=true:=bne_iff_ne.mpr c13
     by_cases c61:t102=0
     ·rw [if_pos c61] at H
      have c61b0:(t102 == 0)=true:=beq_iff_eq.mpr c61
      have c61b1:(t102 != 0)=false:=bne_eq_false_iff_eq.mpr c61
      clear c61
      replace H:=Option.bind_eq_some_iff.mp H
      obtain ⟨t104,A620,H⟩:=H
      replace H:(some t104)=some r:=H
      have A62:=Aside0.mk A620
      clear A620
      obtain rfl:=Option.some.inj H
      go_wp2_with (first|((with_reducible refine gate_callee (f:=16) rfl ?_);refine goesL_ (some 38) rfl rfl Tryd.func16 (by kernel_rfl) rfl #[.slice A0 l0.length c0,.int .i64 a1] rfl (by (try simp only [List.map_toArray,List.map_cons,List.map_nil]);first|done|rfl|(simp only [List.length_drop,List.length_take];rfl)) ?_;(with_reducible refine (bill_Discount.calls kj3 _ _ l0 a1 t102 t103 _ ?side1 ?side2 A12.out).mono ?_);(case side1=>repeat (first|exact (Kd.C_below HR0.out HB.out)|(with_reducible refine Kd.C_alloc ?_ _)|(with_reducible refine Kd.C_drewN ?_ _)|(with_reducible refine Kd.C_drew ?_)));(case side2=>exact HC0.out);rintro e w63 ⟨rfl,hb⟩;refine ⟨_,rfl,?_⟩;have n0_:=Aside0.mk (below_step (by repeat (first|(with_reducible first|exact HB.out|apply below_alloc|apply pw_below_drewN|apply below_drew1)|exact HB.out)) hb);clear HB;have HB:=n0_;clear n0_;(try clear hb);(try clear hb2);(try clear hk);(try clear hi))|(go_at_call 11;(with_reducible refine (sawmilllaw50_awake.calls kj3  t104 _ A62.out (glob_at HG_ (by repeat (first|(with_reducible first|exact HB.out|apply below_alloc|apply pw_below_drewN|apply below_drew1|refine below_set ?_ (Aside0.out (by assumption)))|exact HB.out)))).mono ?_);rintro e w64 ⟨rfl,hb⟩;have n0_:=Aside0.mk (below_step (by repeat (first|(with_reducible first|exact HB.out|apply below_alloc|apply pw_below_drewN|apply below_drew1)|exact HB.out)) hb);clear HB;have HB:=n0_;clear n0_;(try clear hb);(try clear hb2);(try clear hk);(try clear hi)))
      go_ret
      exact ⟨by first|rfl|(simp [errW_none,errW_some]<;>rfl)|(simp [*,errW_none,errW_some]<;>rfl),by repeat (first|(with_reducible first|exact HB.out|apply below_alloc|apply pw_below_drewN|apply below_drew1)|exact HB.out)⟩
     ·rw [if_neg c61] at H
      have c61b0:(t102 == 0)=false:=beq_eq_false_iff_ne.mpr c61
      have c61b1:(t102 != 0)=true:=bne_iff_ne.mpr c61
      obtain rfl:=Option.some.inj H
      go_wp2_with (first|((with_reducible refine gate_callee (f:=16) rfl ?_);refine goesL_ (some 38) rfl rfl Tryd.func16 (by kernel_rfl) rfl #[.slice A0 l0.length c0,.int .i64 a1] rfl (by (try simp only [List.map_toArray,List.map_cons,List.map_nil]);first|done|rfl|(simp only [List.length_drop,List.length_take];rfl)) ?_;(with_reducible refine (bill_Discount.calls kj3 _ _ l0 a1 t102 t103 _ ?side1 ?side2 A12.out).mono ?_);(case side1=>repeat (first|exact (Kd.C_below HR0.out HB.out)|(with_reducible refine Kd.C_alloc ?_ _)|(with_reducible refine Kd.C_drewN ?_ _)|(with_reducible refine Kd.C_drew ?_)));(case side2=>exact HC0.out);rintro e w65 ⟨rfl,hb⟩;refine ⟨_,rfl,?_⟩;have n0_:=Aside0.mk (below_step (by repeat (first|(with_reducible first|exact HB.out|apply below_alloc|apply pw_below_drewN|apply below_drew1)|exact HB.out)) hb);clear HB;have HB:=n0_;clear n0_;(try clear hb);(try clear hb2);(try clear hk);(try clear hi)))
      go_ret
      exact ⟨by first|rfl|(simp [errW_none,errW_some]<;>rfl)|(simp [*,errW_none,errW_some]<;>rfl),by repeat (first|(with_reducible first|exact HB.out|apply below_alloc|apply pw_below_drewN|apply below_drew1)|exact HB.out)⟩
end Go.Proofs.YtojkjhaobjidlaaDoor.P
namespace Go.Proofs.YtojkjhaobjidlaaDoor.P
open Go.RowKit Go.Proofs.YtojkjhaobjidlaaDoorW.PrintWords Go.Proofs.YtojkjhaobjidlaaDoorW.PrintMore
set_option linter.unusedVariables false
set_option linter.unusedSimpArgs false
def offGo (total:Int):Int→List TI→Int
 | off,[]=>off
 | off,t :: l=>offGo total (if t.f0≤total then t.f1 else off) l
theorem discGo_is (total:Int):∀ (l:List TI) (b off:Int),(discGo total b off l).2=0→0≤total∧total≤1000000000000000∧(discGo total b off l).1=total * offGo total off l / 1000∧∀ t ∈ l,b < t.f0∧t.f0≤1000000000000000∧0≤t.f1∧t.f1≤1000:=by
 intro l
 induction l with
 | nil =>
  intro b off h
  rw [discGo] at h ⊢
  by_cases g1:total < 0
  ·rw [if_pos g1] at h;exact absurd h (by decide)
  rw [if_neg g1] at h ⊢
  by_cases g2:1000000000000000 < total
  ·rw [if_pos g2] at h;exact absurd h (by decide)
  rw [if_neg g2]
  exact ⟨by omega,by omega,rfl,fun t ht=>(by cases ht)⟩
 | cons t l ih =>
  intro b off h
  rw [discGo] at h ⊢
  by_cases g1:t.f0≤b
  ·rw [if_pos g1] at h;exact absurd h (by decide)
  rw [if_neg g1] at h ⊢
  by_cases g2:1000000000000000 < t.f0 ∨ t.f1 < 0 ∨ 1000 < t.f1
  ·rw [if_pos g2] at h;exact absurd h (by decide)
  rw [if_neg g2] at h ⊢
  obtain ⟨h1,h2,h3,h4⟩:=ih _ _ h
  refine ⟨h1,h2,h3,fun x hx=>?_⟩
  rcases List.mem_cons.mp hx with rfl|hx
  ·omega
  ·have:=h4 x hx
   omega
theorem disc_is (l:List TI) (total:Int) (h:(discB l total).2=0):l.length≤8∧0≤total∧total≤1000000000000000∧(discB l total).1=total * offGo total 0 l / 1000∧∀ t ∈ l,0≤t.f0∧t.f0≤1000000000000000∧0≤t.f1∧t.f1≤1000:=by
 unfold discB at h ⊢
 by_cases g:8 < l.length
 ·rw [if_pos g] at h;exact absurd h (by decide)
 rw [if_neg g] at h ⊢
 obtain ⟨h1,h2,h3,h4⟩:=discGo_is total l (-1) 0 h
 exact ⟨by omega,h1,h2,h3,fun t ht=>by have:=h4 t ht;omega⟩
theorem discGo_err (total:Int):∀ (l:List TI) (b off:Int),(discGo total b off l).2 ≠ 0→(discGo total b off l).1=0:=by
 intro l
 induction l with
 | nil =>
  intro b off h
  rw [discGo] at h ⊢
  by_cases g1:total < 0
  ·rw [if_pos g1]
  rw [if_neg g1] at h ⊢
  by_cases g2:1000000000000000 < total
  ·rw [if_pos g2]
  rw [if_neg g2] at h
  exact absurd rfl h
 | cons t l ih =>
  intro b off h
  rw [discGo] at h ⊢
  by_cases g1:t.f0≤b
  ·rw [if_pos g1]
  rw [if_neg g1] at h ⊢
  by_cases g2:1000000000000000 < t.f0 ∨ t.f1 < 0 ∨ 1000 < t.f1
  ·rw [if_pos g2]
  rw [if_neg g2] at h ⊢
  exact ih _ _ h
theorem disc_err (l:List TI) (total:Int) (h:(discB l total).2 ≠ 0):(discB l total).1=0:=by
 unfold discB at h ⊢
 by_cases g:8 < l.length
 ·rw [if_pos g]
 ·rw [if_neg g] at h ⊢
  exact discGo_err _ _ _ _ h
theorem disc_one (t:TI) (total:Int) (h1:0≤t.f0) (h2:t.f0≤1000000000000000) (h3:0≤t.f1) (h4:t.f1≤1000) (h5:t.f0≤total):discB [t] total=if 1000000000000000 < total then (0,9) else (total * t.f1 / 1000,0):=by
 unfold discB
 rw [if_neg (by simp),discGo,if_neg (by omega),if_neg (by omega),if_pos h5,discGo,if_neg (by omega)]
theorem offGo_snoc (total:Int):∀ (l:List TI) (off:Int) (t:TI),offGo total off (l++[t])=if t.f0≤total then t.f1 else offGo total off l:=by
 intro l
 induction l with
 | nil=>intro off t;rfl
 | cons x l ih=>intro off t;exact ih _ t
theorem rdT_get {l:List TI} (i:Nat) (h:i < l.length):rd_T56 l (i:Int)=l[i]:=by
 unfold rd_T56
 rw [List.getD_eq_getElem?_getD,List.getElem?_eq_getElem (by simpa using h)]
 simp
def Kept (l:List TI) (total:Int) (i:Nat) (x9:Int):Prop:=(x9=-1∧offGo total 0 (l.take i)=0) ∨ ∃ j:Nat,x9=(j:Int)∧∃ h:j < l.length,offGo total 0 (l.take i)=l[j].f1∧l[j].f0≤total
theorem kept_step (l:List TI) (total:Int) (i:Nat) (x9:Int) (h:i < l.length) (hk:Kept l total i x9):Kept l total (i+1) (if l[i].f0≤total then (i:Int) else x9):=by
 have e:l.take (i+1)=l.take i++[l[i]]:=by rw [List.take_add_one,List.getElem?_eq_getElem h];rfl
 by_cases g:l[i].f0≤total
 ·rw [if_pos g]
  exact Or.inr ⟨i,rfl,h,by rw [e,offGo_snoc,if_pos g],g⟩
 ·rw [if_neg g]
  have e2:offGo total 0 (l.take (i+1))=offGo total 0 (l.take i):=by rw [e,offGo_snoc,if_neg g]
  unfold Kept at hk ⊢
  rw [e2]
  exact hk
theorem wrap_small (x:Int) (h0:0≤x) (h1:x≤4611686018427387904):wrap64 x=x:=by
 unfold wrap64
 omega
theorem spares_end (l:List TI) (total more:Int) (hm0:0≤more) (hm1:more≤1099511627776) (h:(discB l total).2=0) (x9:Int) (hk:Kept l total l.length x9) (k:Nat) (hk2:300≤k) :
  (if x9 < 0 then (if (discB l total).1=0 then ((sawmilllaw50_awake.f k).bind fun t106=>(some t106)) else (some false)) else (if 0≤x9 then (if x9≤(wrap64 (x9+1)) then (if (wrap64 (x9+1))≤(l.length:Int) then ((bill_Discount.f k ((l.take ((wrap64 (x9+1)):Int).toNat).drop (x9:Int).toNat) total).bind fun bt111=>((bill_Discount.f k ((l.take ((wrap64 (x9+1)):Int).toNat).drop (x9:Int).toNat) (wrap64 (total+more))).bind fun bt117=>(if bt111.2=0 then (if bt111.1=(discB l total).1 then (if bt117.2=0 then (if bt117.1 ≥ (discB l total).1 then ((sawmilllaw50_awake.f k).bind fun t119=>(some t119)) else (some false)) else ((sawmilllaw50_awake.f k).bind fun t120=>(some t120))) else (some false)) else (some false)))) else (none)) else (none)) else (none)))=some true:=by
 obtain ⟨d1,d2,d3,d4,d5⟩:=disc_is l total h
 have e3:wrap64 (total+more)=total+more:=wrap_small (total+more) (by omega) (by omega)
 rw [awake_at k (by omega)]
 clear h
 unfold Kept at hk
 rw [List.take_length] at hk
 rcases hk with ⟨rfl,ho⟩|⟨j,rfl,hj,ho,hle⟩
 ·rw [if_pos (by decide),if_pos (by rw [d4,ho];simp)]
  rfl
 ·have hjl:j≤l.length:=by omega
  have hj8:j≤1000000:=by omega
  have e2:(l.take (j+1)).drop j=[l[j]]:=by
   rw [List.take_add_one,List.getElem?_eq_getElem hj,List.drop_append_of_le_length (by rw [List.length_take,Nat.min_eq_left hjl];exact Nat.le_refl _),List.drop_of_length_le (by rw [List.length_take,Nat.min_eq_left hjl];exact Nat.le_refl _)]
   rfl
  obtain ⟨t1,t2,t3,t4⟩:=d5 l[j] (List.getElem_mem hj)
  have o1:=disc_one l[j] total t1 t2 t3 t4 hle
  have o2:=disc_one l[j] (total+more) t1 t2 t3 t4 (Int.le_trans hle (Int.le_add_of_nonneg_right hm0))
  have hd:discB [l[j]] total=(total * l[j].f1 / 1000,0):=by rw [o1,if_neg (Int.not_lt.mpr d3)]
  have hge:total * l[j].f1 / 1000≤(total+more) * l[j].f1 / 1000:=by
   have:total * l[j].f1≤(total+more) * l[j].f1:=Int.mul_le_mul_of_nonneg_right (Int.le_add_of_nonneg_right hm0) t3
   generalize total * l[j].f1=a at this ⊢
   generalize (total+more) * l[j].f1=b at this ⊢
   omega
  rw [ho] at d4
  have q1:¬ (j:Int) < 0:=by omega
  have q2:(0:Int)≤(j:Int):=by omega
  have q3:(j:Int)≤((j+1:Nat):Int):=by omega
  have q4:((j+1:Nat):Int)≤(l.length:Int):=by omega
  have q5:20 < k:=by omega
  rw [if_neg q1,if_pos q2,wrap_nat j 1000000 hj8 (by decide),if_pos q3,if_pos q4,show (((j+1:Nat):Int)).toNat=j+1 from rfl,show ((j:Int)).toNat=j from rfl,e2,e3,disc_f _ total k q5,disc_f _ (total+more) k q5,hd,o2,d4]
  generalize l[j].f1=f at hge ⊢
  generalize total * f / 1000=p at hge ⊢
  generalize (total+more) * f / 1000=q at hge ⊢
  by_cases g:1000000000000000 < total+more
  ·rw [if_pos g]
   simp
  ·rw [if_neg g]
   simp only [Option.bind_some,if_true]
   rw [if_pos hge]
theorem spares_l0 (l:List TI) (total more:Int) (hm0:0≤more) (hm1:more≤1099511627776) (h:(discB l total).2=0) (hl:l.length≤1000):∀ (d k i:Nat) (x9:Int),i+d=l.length→d+400 < k→Kept l total i x9→sawmilllaw50_BillSpares.l0 k l total more (discB l total).1 x9 (i:Int)=some true:=by
 intro d
 induction d with
 | zero =>
  intro k i x9 hi hk hkept
  obtain ⟨k,rfl⟩:∃ m,k=m+1:=⟨k - 1,by omega⟩
  obtain rfl:i=l.length:=by omega
  simp only [sawmilllaw50_BillSpares.l0]
  rw [if_neg (by omega)]
  exact spares_end l total more hm0 hm1 h x9 hkept k (by omega)
 | succ d ih =>
  intro k i x9 hi hk hkept
  obtain ⟨k,rfl⟩:∃ m,k=m+1:=⟨k - 1,by omega⟩
  have h2:i < l.length:=by omega
  have e:wrap64 ((i:Int)+1)=((i+1:Nat):Int):=wrap_nat i 1000000 (by omega) (by omega)
  have hs:=kept_step l total i x9 h2 hkept
  simp only [sawmilllaw50_BillSpares.l0]
  rw [if_pos (by omega),if_pos (by omega),e,rdT_get i h2]
  by_cases g:l[i].f0≤total
  ·rw [if_pos g] at hs
   rw [if_pos g]
   exact ih k (i+1) _ (by omega) (by omega) hs
  ·rw [if_neg g] at hs
   rw [if_neg g]
   exact ih k (i+1) _ (by omega) (by omega) hs
theorem spares_true (l:List TI) (total more:Int):sawmilllaw50_BillSpares.f 6000 l total more=some true:=by
 unfold sawmilllaw50_BillSpares.f
 have hj:∀ (k:Nat) (b:Bool),2000≤k→(b=false→l.length≤30∧0≤more∧more≤1099511627776)→sawmilllaw50_BillSpares.j0 k l total more b=some true:=by
  intro k b hk hb
  obtain ⟨k,rfl⟩:∃ m,k=m+1:=⟨k - 1,by omega⟩
  have f1:200≤k:=by omega
  simp only [sawmilllaw50_BillSpares.j0]
  rw [awake_at k f1]
  cases b
  case true=>rw [if_pos rfl];rfl
  obtain ⟨q0,q1,q2⟩:=hb rfl
  rw [if_neg (by simp),disc_f l total k (by omega),Option.bind_some]
  by_cases h:(discB l total).2=0
  case neg =>
   rw [if_neg h,if_pos (disc_err l total h)]
   rfl
  obtain ⟨-,-,-,d1,d2⟩:=disc_ok l total h
  rw [if_pos h,if_neg (by omega),show decide ((discB l total).1 > total)=false from decide_eq_false (by omega)]
  obtain ⟨k,rfl⟩:∃ m,k=m+1:=⟨k - 1,by omega⟩
  simp only [sawmilllaw50_BillSpares.j1]
  rw [if_neg (by simp)]
  exact spares_l0 l total more q1 q2 h (by omega) l.length k 0 (-1) (by omega) (by omega) (Or.inl ⟨rfl,rfl⟩)
 by_cases g0:(l.length:Int) > 30
 ·rw [if_pos g0];exact hj _ true (by omega) (fun h=>by cases h)
 rw [if_neg g0]
 by_cases g1:more < 0
 ·rw [if_pos g1];exact hj _ true (by omega) (fun h=>by cases h)
 rw [if_neg g1]
 by_cases g2:more > 1099511627776
 ·rw [if_pos g2];exact hj _ true (by omega) (fun h=>by cases h)
 rw [if_neg g2]
 by_cases g3:total < 0
 ·rw [if_pos g3];exact hj _ true (by omega) (fun h=>by cases h)
 rw [if_neg g3]
 exact hj _ _ (by omega) (fun _=>⟨by omega,by omega,by omega⟩)
end Go.Proofs.YtojkjhaobjidlaaDoor.P
namespace Go.Proofs.YtojkjhaobjidlaaDoor.P
open Go.RowKit Go.Proofs.YtojkjhaobjidlaaDoorW.PrintWords Go.Proofs.YtojkjhaobjidlaaDoorW.PrintLast Go.Proofs.YtojkjhaobjidlaaDoorW.PrintMore
attribute [local go_sem] max2_int min2_int max_two min_two max_three min_three max_four min_four
attribute [local go_sem] cell_twice
set_option linter.unusedVariables false
set_option linter.unusedSimpArgs false
mutual
def sawmillref50_Discount.l0:Nat→List (S77)→Int→Int→Option (Int × Int)
 | 0,_,_,_=>none
 | k+1,x0,x1,x6=>if x6 < (x0.length:Int) then (if 0≤x6 then (if ((rd_T77 x0 x6).f0) < 0 then (sawmillref50_Discount.j1 k x0 x1 x6 true) else (if x6 > 0 then (if 0≤(wrap64 (x6 - 1)) then (if (wrap64 (x6 - 1)) < (x0.length:Int) then (sawmillref50_Discount.j1 k x0 x1 x6 (decide (((rd_T77 x0 x6).f0)≤((rd_T77 x0 (wrap64 (x6 - 1))).f0)))) else (none)) else (none)) else (sawmillref50_Discount.j1 k x0 x1 x6 false))) else (none)) else (if x1 < 0 then (sawmillref50_Discount.j2 k x0 x1 true) else (sawmillref50_Discount.j2 k x0 x1 (decide (x1 > 1000000000000000))))
def sawmillref50_Discount.j1:Nat→List (S77)→Int→Int→Bool→Option (Int × Int)
 | 0,_,_,_,_=>none
 | k+1,x0,x1,x6,x41=>if x41=true then (some (0,11)) else (if 0≤x6 then (if x6 < (x0.length:Int) then (if ((rd_T77 x0 x6).f0) > 1000000000000000 then (some (0,9)) else (if ((rd_T77 x0 x6).f1) < 0 then (some (0,9)) else (if ((rd_T77 x0 x6).f1) > 1000 then (some (0,9)) else (sawmillref50_Discount.l0 k x0 x1 (wrap64 (x6+1)))))) else (none)) else (none))
def sawmillref50_Discount.j2:Nat→List (S77)→Int→Bool→Option (Int × Int)
 | 0,_,_,_=>none
 | k+1,x0,x1,x69=>if x69=true then (some (0,9)) else (sawmillref50_Discount.l1 k x0 x1 0 0)
def sawmillref50_Discount.l1:Nat→List (S77)→Int→Int→Int→Option (Int × Int)
 | 0,_,_,_,_=>none
 | k+1,x0,x1,x7,x8=>if x8 < (x0.length:Int) then (if 0≤x8 then (if ((rd_T77 x0 x8).f0)≤x1 then (sawmillref50_Discount.l1 k x0 x1 ((rd_T77 x0 x8).f1) (wrap64 (x8+1))) else (sawmillref50_Discount.l1 k x0 x1 x7 (wrap64 (x8+1)))) else (none)) else (some (wrap64 (Int.tdiv (wrap64 (x1 * x7)) 1000),0))
end
def sawmillref50_Discount.f (k:Nat) (l0:List (S77)) (a1:Int):Option (Int × Int):=if (l0.length:Int) > 8 then (some (0,4)) else (sawmillref50_Discount.l0 k l0 a1 0)
theorem sawmillref50_Discount.mono_l:∀ k,(∀ y0 y1 y2,LeO (sawmillref50_Discount.l0 k y0 y1 y2) (sawmillref50_Discount.l0 (k+1) y0 y1 y2))∧(∀ y0 y1 y2 y3,LeO (sawmillref50_Discount.j1 k y0 y1 y2 y3) (sawmillref50_Discount.j1 (k+1) y0 y1 y2 y3))∧(∀ y0 y1 y2,LeO (sawmillref50_Discount.j2 k y0 y1 y2) (sawmillref50_Discount.j2 (k+1) y0 y1 y2))∧(∀ y0 y1 y2 y3,LeO (sawmillref50_Discount.l1 k y0 y1 y2 y3) (sawmillref50_Discount.l1 (k+1) y0 y1 y2 y3))
 | 0=>⟨fun _ _ _ r h=>by simp [sawmillref50_Discount.l0] at h,fun _ _ _ _ r h=>by simp [sawmillref50_Discount.j1] at h,fun _ _ _ r h=>by simp [sawmillref50_Discount.j2] at h,fun _ _ _ _ r h=>by simp [sawmillref50_Discount.l1] at h⟩
 | k+1=>by
  obtain ⟨ih0,ih1,ih2,ih3⟩:=sawmillref50_Discount.mono_l k
  refine ⟨?_,?_,?_,?_⟩
  ·intro y0 y1 y2
   unfold sawmillref50_Discount.l0
   repeat' first
   | (with_reducible exact ih0 _ _ _)
   | (with_reducible exact ih1 _ _ _ _)
   | (with_reducible exact ih2 _ _ _)
   | (with_reducible exact ih3 _ _ _ _)
   | (with_reducible exact LeO.refl _)
   | (with_reducible exact LeO.none _)
   | (with_reducible refine LeO.ite ?_ ?_)
   | (with_reducible refine LeO.bind ?_ (fun _=>?_))
   | exact ih0 _ _ _
   | exact ih1 _ _ _ _
   | exact ih2 _ _ _
   | exact ih3 _ _ _ _
   | exact LeO.none _
   | refine LeO.ite ?_ ?_
   | refine LeO.bind ?_ (fun _=>?_)
  ·intro y0 y1 y2 y3
   unfold sawmillref50_Discount.j1
   repeat' first
   | (with_reducible exact ih0 _ _ _)
   | (with_reducible exact ih1 _ _ _ _)
   | (with_reducible exact ih2 _ _ _)
   | (with_reducible exact ih3 _ _ _ _)
   | (with_reducible exact LeO.refl _)
   | (with_reducible exact LeO.none _)
   | (with_reducible refine LeO.ite ?_ ?_)
   | (with_reducible refine LeO.bind ?_ (fun _=>?_))
   | exact ih0 _ _ _
   | exact ih1 _ _ _ _
   | exact ih2 _ _ _
   | exact ih3 _ _ _ _
   | exact LeO.none _
   | refine LeO.ite ?_ ?_
   | refine LeO.bind ?_ (fun _=>?_)
  ·intro y0 y1 y2
   unfold sawmillref50_Discount.j2
   repeat' first
   | (with_reducible exact ih0 _ _ _)
   | (with_reducible exact ih1 _ _ _ _)
   | (with_reducible exact ih2 _ _ _)
   | (with_reducible exact ih3 _ _ _ _)
   | (with_reducible exact LeO.refl _)
   | (with_reducible exact LeO.none _)
   | (with_reducible refine LeO.ite ?_ ?_)
   | (with_reducible refine LeO.bind ?_ (fun _=>?_))
   | exact ih0 _ _ _
   | exact ih1 _ _ _ _
   | exact ih2 _ _ _
   | exact ih3 _ _ _ _
   | exact LeO.none _
   | refine LeO.ite ?_ ?_
   | refine LeO.bind ?_ (fun _=>?_)
  ·intro y0 y1 y2 y3
   unfold sawmillref50_Discount.l1
   repeat' first
   | (with_reducible exact ih0 _ _ _)
   | (with_reducible exact ih1 _ _ _ _)
   | (with_reducible exact ih2 _ _ _)
   | (with_reducible exact ih3 _ _ _ _)
   | (with_reducible exact LeO.refl _)
   | (with_reducible exact LeO.none _)
   | (with_reducible refine LeO.ite ?_ ?_)
   | (with_reducible refine LeO.bind ?_ (fun _=>?_))
   | exact ih0 _ _ _
   | exact ih1 _ _ _ _
   | exact ih2 _ _ _
   | exact ih3 _ _ _ _
   | exact LeO.none _
   | refine LeO.ite ?_ ?_
   | refine LeO.bind ?_ (fun _=>?_)
theorem sawmillref50_Discount.mono:∀ a0 a1 k,LeO (sawmillref50_Discount.f k a0 a1) (sawmillref50_Discount.f (k+1) a0 a1):=by
 intro a0 a1 k
 obtain ⟨ih0,ih1,ih2,ih3⟩:=sawmillref50_Discount.mono_l k
 unfold sawmillref50_Discount.f
 repeat' first
   | (with_reducible exact ih0 _ _ _)
   | (with_reducible exact ih1 _ _ _ _)
   | (with_reducible exact ih2 _ _ _)
   | (with_reducible exact ih3 _ _ _ _)
   | (with_reducible exact LeO.refl _)
   | (with_reducible exact LeO.none _)
   | (with_reducible refine LeO.ite ?_ ?_)
   | (with_reducible refine LeO.bind ?_ (fun _=>?_))
   | exact ih0 _ _ _
   | exact ih1 _ _ _ _
   | exact ih2 _ _ _
   | exact ih3 _ _ _ _
   | exact LeO.none _
   | refine LeO.ite ?_ ?_
   | refine LeO.bind ?_ (fun _=>?_)
set_option maxHeartbeats 8000000 in
set_option maxRecDepth 100000 in
theorem sawmillref50_Discount.calls (k:Nat) (A0:Option Addr) (c0:Nat) (l0:List (S77)) (a1:Int) (r1:Int) (r2:Int) (w:World) (hr0:Kd.C k77 w A0 l0.length l0) (hc0:l0.length≤c0) (h:sawmillref50_Discount.f k l0 a1=some (r1,r2)) :
  Calls Tryd.prog 17 #[.slice A0 l0.length c0,.int .i64 a1] w fun e w'=>e=.returned (.tuple #[.int .i64 r1,.int .i64 r2])∧Drawn0 w w':=by
 have HR0:=Aside0.mk hr0
 have HC0:=Aside0.mk hc0
 clear hr0 hc0
 have H:(if (l0.length:Int) > 8 then (some (0,4)) else (sawmillref50_Discount.l0 k l0 a1 0))=some (r1,r2):=h
 clear h
 by_cases c3:(l0.length:Int) > 8
 ·rw [if_pos c3] at H
  have c3b0:decide (8 < (l0.length:Int))=true:=decide_eq_true c3
  have c3b1:decide (8 < l0.length)=true:=decide_eq_true (by omega)
  clear c3
  simp only [Option.some.injEq,Prod.mk.injEq] at H
  obtain ⟨rfl,rfl⟩:=H
  go_enter Tryd.func17,Tryd.ntmps17
  go_wp2
  repeat (go_quiet (fail);try go_wp2)
  go_ret2
  exact ⟨by first|rfl|(simp;done)|(simp [*];done),by repeat (first|exact Drawn0.refl _|apply Drawn0.step)⟩
 ·rw [if_neg c3] at H
  have c3b0:decide (8 < (l0.length:Int))=false:=decide_eq_false c3
  have c3b1:decide (8 < l0.length)=false:=decide_eq_false (by omega)
  clear c3
  have H':=Aside0.mk H
  clear H
  go_enter Tryd.func17,Tryd.ntmps17
  go_wp2
  repeat (go_quiet (fail);try go_wp2)
  go_loopg [6] k (fun kq v6 w'=>∃ (x6_1:Int),v6=.int .i64 x6_1∧Aside0 (sawmillref50_Discount.l0 kq l0 a1 x6_1=some (r1,r2))∧Aside0 (kq≤k)∧Drawn0 w w')
  case atStart=>exact ⟨(0),(by first|rfl|(simp;done)|(simp [*];done)),H',⟨Nat.le_refl _⟩,by repeat (first|exact Drawn0.refl _|apply Drawn0.step)⟩
  case round =>
   clear H'
   try clear c1
   try clear p2
   try clear c3
   try clear c3b0
   try clear c3b1
   obtain ⟨x6_1,rfl,HA,HK1,⟨m1,rfl⟩⟩:=hrel
   cases gk with
   | zero=>exact absurd HA.out (by simp [sawmillref50_Discount.l0])
   | succ k1 =>
    have H:=HA.out
    clear HA
    simp only [sawmillref50_Discount.l0] at H
    by_cases c4:x6_1 < (l0.length:Int)
    ·rw [if_pos c4] at H
     have c4b0:decide (x6_1 < (l0.length:Int))=true:=decide_eq_true c4
     clear c4
     have HC5:=Aside0.mk H
     clear H
     go_upto_region 6 with (fail)
     repeat (go_quiet (fail);go_upto_region 6 with (fail))
     go_cut [41] (fun v41 wc=>∃ (kq:Nat) (x41_4:Bool),v41=.bool x41_4∧Aside0 (sawmillref50_Discount.j1 kq l0 a1 x6_1 x41_4=some (r1,r2))∧Aside0 (kq≤k1)∧Drawn0 w wc)
     case first =>
      have H:=HC5.out
      clear HC5
      by_cases c6:0≤x6_1
      ·rw [if_pos c6] at H
       have c6b0:decide (0≤x6_1)=true:=decide_eq_true c6
       clear c6
       (first|rw [c6b0]|(simp only [i64_w,i32_w];rw [c6b0])|skip)
       by_cases c7:((rd_T77 l0 x6_1).f0) < 0
       ·rw [if_pos c7] at H
        have c7b0:decide (((rd_T77 l0 x6_1).f0) < 0)=true:=decide_eq_true c7
        clear c7
        have H':=Aside0.mk H
        clear H
        have p101:0≤(x6_1:Int):=of_decide_eq_true (by first|(with_reducible assumption)|assumption)
        have q101:x6_1 < (l0.length:Int):=of_decide_eq_true (by first|(with_reducible assumption)|assumption)
        obtain ⟨ad101,e101,hx101_0,hx101_1⟩:=at_T77 HR0.out x6_1 p101 q101
        cases e101
        replace p101:=eq_true p101
        replace q101:=eq_true q101
        go_wp2
        repeat (go_quiet (fail);try go_wp2)
        go_meet
        case rel=>exact ⟨_,(true),(by first|rfl|(simp;done)|(simp [*];done)),H',⟨by have:=HK1.out;first|omega|exact Nat.le_refl _⟩,by repeat (first|exact Drawn0.refl _|apply Drawn0.step)⟩
       ·rw [if_neg c7] at H
        have c7b0:decide (((rd_T77 l0 x6_1).f0) < 0)=false:=decide_eq_false c7
        clear c7
        by_cases c8:x6_1 > 0
        ·rw [if_pos c8] at H
         have c8b0:decide (0 < x6_1)=true:=decide_eq_true c8
         clear c8
         obtain ⟨ji9,hji9⟩:∃ j_:Int,(wrap64 (x6_1 - 1))=j_:=⟨_,rfl⟩
         replace H:(if 0≤(ji9) then (if (ji9) < (l0.length:Int) then (sawmillref50_Discount.j1 k1 l0 a1 x6_1 (decide (((rd_T77 l0 x6_1).f0)≤((rd_T77 l0 (ji9)).f0)))) else (none)) else (none))=some (r1,r2):=by first|(rw [hji9] at H;exact H)|(simp only [hji9] at H ⊢;exact H)
         have hji9w:(IntKind.i64.wrap (x6_1 - 1))=ji9:=(i64_w _).trans hji9
         by_cases c10:0≤(ji9)
         ·rw [if_pos c10] at H
          have c10b0:decide (0≤(ji9))=true:=decide_eq_true c10
          clear c10
          by_cases c11:(ji9) < (l0.length:Int)
          ·rw [if_pos c11] at H
           have c11b0:decide ((ji9) < (l0.length:Int))=true:=decide_eq_true c11
           clear c11
           have H':=Aside0.mk H
           clear H
           have p101:0≤(x6_1:Int):=of_decide_eq_true (by first|(with_reducible assumption)|assumption)
           have q101:x6_1 < (l0.length:Int):=of_decide_eq_true (by first|(with_reducible assumption)|assumption)
           obtain ⟨ad101,e101,hx101_0,hx101_1⟩:=at_T77 HR0.out x6_1 p101 q101
           cases e101
           replace p101:=eq_true p101
           replace q101:=eq_true q101
           have p102:0≤(x6_1:Int):=of_decide_eq_true (by first|(with_reducible assumption)|assumption)
           have q102:x6_1 < (l0.length:Int):=of_decide_eq_true (by first|(with_reducible assumption)|assumption)
           obtain ⟨ad102,e102,hx102_0,hx102_1⟩:=at_T77 HR0.out x6_1 p102 q102
           obtain rfl:ad101=ad102:=(by injection e102)
           replace p102:=eq_true p102
           replace q102:=eq_true q102
           have p103:0≤((ji9):Int):=of_decide_eq_true (by first|(with_reducible assumption)|assumption)
           have q103:(ji9) < (l0.length:Int):=of_decide_eq_true (by first|(with_reducible assumption)|assumption)
           obtain ⟨ad103,e103,hx103_0,hx103_1⟩:=at_T77 HR0.out (ji9) p103 q103
           obtain rfl:ad101=ad103:=(by injection e103)
           replace p103:=eq_true p103
           replace q103:=eq_true q103
           go_wp2
           repeat (go_quiet (fail);try go_wp2)
           go_meet
           case rel=>exact ⟨_,(decide (((rd_T77 l0 x6_1).f0)≤((rd_T77 l0 (ji9)).f0))),(by first|rfl|(simp;done)|(simp only [← hji9]<;>(first|rfl|simp))|(simp [*];done)),H',⟨by have:=HK1.out;first|omega|exact Nat.le_refl _⟩,by repeat (first|exact Drawn0.refl _|apply Drawn0.step)⟩
          ·rw [if_neg c11] at H
           exact absurd H (by simp)
         ·rw [if_neg c10] at H
          exact absurd H (by simp)
        ·rw [if_neg c8] at H
         have c8b0:decide (0 < x6_1)=false:=decide_eq_false c8
         clear c8
         have H':=Aside0.mk H
         clear H
         have p101:0≤(x6_1:Int):=of_decide_eq_true (by first|(with_reducible assumption)|assumption)
         have q101:x6_1 < (l0.length:Int):=of_decide_eq_true (by first|(with_reducible assumption)|assumption)
         obtain ⟨ad101,e101,hx101_0,hx101_1⟩:=at_T77 HR0.out x6_1 p101 q101
         cases e101
         replace p101:=eq_true p101
         replace q101:=eq_true q101
         go_wp2
         repeat (go_quiet (fail);try go_wp2)
         go_meet
         case rel=>exact ⟨_,(false),(by first|rfl|(simp;done)|(simp [*];done)),H',⟨by have:=HK1.out;first|omega|exact Nat.le_refl _⟩,by repeat (first|exact Drawn0.refl _|apply Drawn0.step)⟩
      ·rw [if_neg c6] at H
       exact absurd H (by simp)
     case rest =>
      clear HC5
      try clear c1
      try clear p1
      try clear q1
      try clear hx1
      try clear p2
      try clear c3
      try clear c3b0
      try clear c3b1
      try clear c4
      try clear c4b0
      try clear c6
      try clear c6b0
      try clear p6
      try clear c7
      try clear c7b0
      try clear c8
      try clear c8b0
      try clear c10
      try clear c10b0
      try clear p10
      try clear q10
      try clear hx10
      try clear c11
      try clear c11b0
      try clear hx101_0
      try clear hx101_1
      try clear hx102_0
      try clear hx102_1
      try clear hx103_0
      try clear hx103_1
      try clear p101
      try clear p102
      try clear p103
      try clear p2
      try clear q101
      try clear q102
      try clear q103
      obtain ⟨kq,x41_4,rfl,HA,HJ4,⟨mc4,rfl⟩⟩:=hcut
      cases kq with
      | zero=>exact absurd HA.out (by simp [sawmillref50_Discount.j1])
      | succ kj4 =>
       have H:=HA.out
       clear HA
       simp only [sawmillref50_Discount.j1] at H
       by_cases c12:x41_4=true
       ·subst c12
        have H1:(some (0,11))=some (r1,r2):=by rw [if_pos rfl] at H;exact H
        clear H
        have H:=H1
        clear H1
        simp only [Option.some.injEq,Prod.mk.injEq] at H
        obtain ⟨rfl,rfl⟩:=H
        go_wp2
        repeat (go_quiet (fail);try go_wp2)
        go_ret2
        exact ⟨by first|rfl|(simp;done)|(simp [*];done),by repeat (first|exact Drawn0.refl _|apply Drawn0.step)⟩
       ·replace c12:=Bool.eq_false_iff.mpr c12
        subst c12
        have H1:(if 0≤x6_1 then (if x6_1 < (l0.length:Int) then (if ((rd_T77 l0 x6_1).f0) > 1000000000000000 then (some (0,9)) else (if ((rd_T77 l0 x6_1).f1) < 0 then (some (0,9)) else (if ((rd_T77 l0 x6_1).f1) > 1000 then (some (0,9)) else (sawmillref50_Discount.l0 kj4 l0 a1 (wrap64 (x6_1+1)))))) else (none)) else (none))=some (r1,r2):=by rw [if_neg (show ¬ (false=true) by decide)] at H;exact H
        clear H
        have H:=H1
        clear H1
        by_cases c13:0≤x6_1
        ·rw [if_pos c13] at H
         have c13b0:decide (0≤x6_1)=true:=decide_eq_true c13
         clear c13
         by_cases c14:x6_1 < (l0.length:Int)
         ·rw [if_pos c14] at H
          have c14b0:decide (x6_1 < (l0.length:Int))=true:=decide_eq_true c14
          clear c14
          by_cases c15:((rd_T77 l0 x6_1).f0) > 1000000000000000
          ·rw [if_pos c15] at H
           have c15b0:decide (1000000000000000 < ((rd_T77 l0 x6_1).f0))=true:=decide_eq_true c15
           clear c15
           simp only [Option.some.injEq,Prod.mk.injEq] at H
           obtain ⟨rfl,rfl⟩:=H
           have p104:0≤(x6_1:Int):=of_decide_eq_true (by first|(with_reducible assumption)|assumption)
           have q104:x6_1 < (l0.length:Int):=of_decide_eq_true (by first|(with_reducible assumption)|assumption)
           obtain ⟨ad104,e104,hx104_0,hx104_1⟩:=at_T77 HR0.out x6_1 p104 q104
           cases e104
           replace p104:=eq_true p104
           replace q104:=eq_true q104
           go_wp2
           repeat (go_quiet (fail);try go_wp2)
           go_ret2
           exact ⟨by first|rfl|(simp;done)|(simp [*];done),by repeat (first|exact Drawn0.refl _|apply Drawn0.step)⟩
          ·rw [if_neg c15] at H
           have c15b0:decide (1000000000000000 < ((rd_T77 l0 x6_1).f0))=false:=decide_eq_false c15
           clear c15
           by_cases c16:((rd_T77 l0 x6_1).f1) < 0
           ·rw [if_pos c16] at H
            have c16b0:decide (((rd_T77 l0 x6_1).f1) < 0)=true:=decide_eq_true c16
            clear c16
            simp only [Option.some.injEq,Prod.mk.injEq] at H
            obtain ⟨rfl,rfl⟩:=H
            have p104:0≤(x6_1:Int):=of_decide_eq_true (by first|(with_reducible assumption)|assumption)
            have q104:x6_1 < (l0.length:Int):=of_decide_eq_true (by first|(with_reducible assumption)|assumption)
            obtain ⟨ad104,e104,hx104_0,hx104_1⟩:=at_T77 HR0.out x6_1 p104 q104
            cases e104
            replace p104:=eq_true p104
            replace q104:=eq_true q104
            have p105:0≤(x6_1:Int):=of_decide_eq_true (by first|(with_reducible assumption)|assumption)
            have q105:x6_1 < (l0.length:Int):=of_decide_eq_true (by first|(with_reducible assumption)|assumption)
            obtain ⟨ad105,e105,hx105_0,hx105_1⟩:=at_T77 HR0.out x6_1 p105 q105
            obtain rfl:ad104=ad105:=(by injection e105)
            replace p105:=eq_true p105
            replace q105:=eq_true q105
            go_wp2
            repeat (go_quiet (fail);try go_wp2)
            go_ret2
            exact ⟨by first|rfl|(simp;done)|(simp [*];done),by repeat (first|exact Drawn0.refl _|apply Drawn0.step)⟩
           ·rw [if_neg c16] at H
            have c16b0:decide (((rd_T77 l0 x6_1).f1) < 0)=false:=decide_eq_false c16
            clear c16
            by_cases c17:((rd_T77 l0 x6_1).f1) > 1000
            ·rw [if_pos c17] at H
             have c17b0:decide (1000 < ((rd_T77 l0 x6_1).f1))=true:=decide_eq_true c17
             clear c17
             simp only [Option.some.injEq,Prod.mk.injEq] at H
             obtain ⟨rfl,rfl⟩:=H
             have p104:0≤(x6_1:Int):=of_decide_eq_true (by first|(with_reducible assumption)|assumption)
             have q104:x6_1 < (l0.length:Int):=of_decide_eq_true (by first|(with_reducible assumption)|assumption)
             obtain ⟨ad104,e104,hx104_0,hx104_1⟩:=at_T77 HR0.out x6_1 p104 q104
             cases e104
             replace p104:=eq_true p104
             replace q104:=eq_true q104
             have p105:0≤(x6_1:Int):=of_decide_eq_true (by first|(with_reducible assumption)|assumption)
             have q105:x6_1 < (l0.length:Int):=of_decide_eq_true (by first|(with_reducible assumption)|assumption)
             obtain ⟨ad105,e105,hx105_0,hx105_1⟩:=at_T77 HR0.out x6_1 p105 q105
             obtain rfl:ad104=ad105:=(by injection e105)
             replace p105:=eq_true p105
             replace q105:=eq_true q105
             have p106:0≤(x6_1:Int):=of_decide_eq_true (by first|(with_reducible assumption)|assumption)
             have q106:x6_1 < (l0.length:Int):=of_decide_eq_true (by first|(with_reducible assumption)|assumption)
             obtain ⟨ad106,e106,hx106_0,hx106_1⟩:=at_T77 HR0.out x6_1 p106 q106
             obtain rfl:ad104=ad106:=(by injection e106)
             replace p106:=eq_true p106
             replace q106:=eq_true q106
             go_wp2
             repeat (go_quiet (fail);try go_wp2)
             go_ret2
             exact ⟨by first|rfl|(simp;done)|(simp [*];done),by repeat (first|exact Drawn0.refl _|apply Drawn0.step)⟩
            ·rw [if_neg c17] at H
             have c17b0:decide (1000 < ((rd_T77 l0 x6_1).f1))=false:=decide_eq_false c17
             clear c17
             have H':=Aside0.mk H
             clear H
             have p104:0≤(x6_1:Int):=of_decide_eq_true (by first|(with_reducible assumption)|assumption)
             have q104:x6_1 < (l0.length:Int):=of_decide_eq_true (by first|(with_reducible assumption)|assumption)
             obtain ⟨ad104,e104,hx104_0,hx104_1⟩:=at_T77 HR0.out x6_1 p104 q104
             cases e104
             replace p104:=eq_true p104
             replace q104:=eq_true q104
             have p105:0≤(x6_1:Int):=of_decide_eq_true (by first|(with_reducible assumption)|assumption)
             have q105:x6_1 < (l0.length:Int):=of_decide_eq_true (by first|(with_reducible assumption)|assumption)
             obtain ⟨ad105,e105,hx105_0,hx105_1⟩:=at_T77 HR0.out x6_1 p105 q105
             obtain rfl:ad104=ad105:=(by injection e105)
             replace p105:=eq_true p105
             replace q105:=eq_true q105
             have p106:0≤(x6_1:Int):=of_decide_eq_true (by first|(with_reducible assumption)|assumption)
             have q106:x6_1 < (l0.length:Int):=of_decide_eq_true (by first|(with_reducible assumption)|assumption)
             obtain ⟨ad106,e106,hx106_0,hx106_1⟩:=at_T77 HR0.out x6_1 p106 q106
             obtain rfl:ad104=ad106:=(by injection e106)
             replace p106:=eq_true p106
             replace q106:=eq_true q106
             go_wp2
             repeat (go_quiet (fail);try go_wp2)
             go_roundg kj4
             case measure=>have:=HK1.out;have:=HJ4.out;omega
             case rel=>exact ⟨(wrap64 (x6_1+1)),(by first|rfl|(simp;done)|(simp [*];done)),H',⟨by have:=HK1.out;have:=HJ4.out;omega⟩,by repeat (first|exact Drawn0.refl _|apply Drawn0.step)⟩
         ·rw [if_neg c14] at H
          exact absurd H (by simp)
        ·rw [if_neg c13] at H
         exact absurd H (by simp)
    ·rw [if_neg c4] at H
     have c4b0:decide (x6_1 < (l0.length:Int))=false:=decide_eq_false c4
     clear c4
     have HC18:=Aside0.mk H
     clear H
     go_upto_region 10 with (fail)
     repeat (go_quiet (fail);go_upto_region 10 with (fail))
     go_cut [69] (fun v69 wc=>∃ (kq:Nat) (x69_17:Bool),v69=.bool x69_17∧Aside0 (sawmillref50_Discount.j2 kq l0 a1 x69_17=some (r1,r2))∧Aside0 (kq≤k1)∧Drawn0 w wc)
     case first =>
      have H:=HC18.out
      clear HC18
      by_cases c19:a1 < 0
      ·rw [if_pos c19] at H
       have c19b0:decide (a1 < 0)=true:=decide_eq_true c19
       clear c19
       (first|rw [c19b0]|(simp only [i64_w,i32_w];rw [c19b0])|skip)
       have H':=Aside0.mk H
       clear H
       go_wp2
       repeat (go_quiet (fail);try go_wp2)
       go_meet
       case rel=>exact ⟨_,(true),(by first|rfl|(simp;done)|(simp [*];done)),H',⟨by have:=HK1.out;first|omega|exact Nat.le_refl _⟩,by repeat (first|exact Drawn0.refl _|apply Drawn0.step)⟩
      ·rw [if_neg c19] at H
       have c19b0:decide (a1 < 0)=false:=decide_eq_false c19
       clear c19
       (first|rw [c19b0]|(simp only [i64_w,i32_w];rw [c19b0])|skip)
       have H':=Aside0.mk H
       clear H
       go_wp2
       repeat (go_quiet (fail);try go_wp2)
       go_meet
       case rel=>exact ⟨_,(decide (a1 > 1000000000000000)),(by first|rfl|(simp;done)|(simp [*];done)),H',⟨by have:=HK1.out;first|omega|exact Nat.le_refl _⟩,by repeat (first|exact Drawn0.refl _|apply Drawn0.step)⟩
     case rest =>
      clear HC18
      try clear c1
      try clear p1
      try clear q1
      try clear hx1
      try clear p2
      try clear c3
      try clear c3b0
      try clear c3b1
      try clear c4
      try clear c4b0
      try clear c6
      try clear c6b0
      try clear p6
      try clear c7
      try clear c7b0
      try clear c8
      try clear c8b0
      try clear c10
      try clear c10b0
      try clear p10
      try clear q10
      try clear hx10
      try clear c11
      try clear c11b0
      try clear c12
      try clear c13
      try clear c13b0
      try clear c14
      try clear c14b0
      try clear c15
      try clear c15b0
      try clear c16
      try clear c16b0
      try clear c17
      try clear c17b0
      try clear c19
      try clear c19b0
      try clear hx101_0
      try clear hx101_1
      try clear hx102_0
      try clear hx102_1
      try clear hx103_0
      try clear hx103_1
      try clear hx104_0
      try clear hx104_1
      try clear hx105_0
      try clear hx105_1
      try clear hx106_0
      try clear hx106_1
      try clear p1
      try clear p10
      try clear p101
      try clear p102
      try clear p103
      try clear p104
      try clear p105
      try clear p106
      try clear p2
      try clear p6
      try clear q1
      try clear q10
      try clear q101
      try clear q102
      try clear q103
      try clear q104
      try clear q105
      try clear q106
      obtain ⟨kq,x69_17,rfl,HA,HJ17,⟨mc17,rfl⟩⟩:=hcut
      cases kq with
      | zero=>exact absurd HA.out (by simp [sawmillref50_Discount.j2])
      | succ kj17 =>
       have H:=HA.out
       clear HA
       simp only [sawmillref50_Discount.j2] at H
       by_cases c20:x69_17=true
       ·subst c20
        have H1:(some (0,9))=some (r1,r2):=by rw [if_pos rfl] at H;exact H
        clear H
        have H:=H1
        clear H1
        simp only [Option.some.injEq,Prod.mk.injEq] at H
        obtain ⟨rfl,rfl⟩:=H
        go_wp2
        repeat (go_quiet (fail);try go_wp2)
        go_ret2
        exact ⟨by first|rfl|(simp;done)|(simp [*];done),by repeat (first|exact Drawn0.refl _|apply Drawn0.step)⟩
       ·replace c20:=Bool.eq_false_iff.mpr c20
        subst c20
        have H1:(sawmillref50_Discount.l1 kj17 l0 a1 0 0)=some (r1,r2):=by rw [if_neg (show ¬ (false=true) by decide)] at H;exact H
        clear H
        have H:=H1
        clear H1
        have H':=Aside0.mk H
        clear H
        go_wp2
        repeat (go_quiet (fail);try go_wp2)
        go_loopg [7,8] kj17 (fun kq v7 v8 w'=>∃ (x7_3:Int) (x8_3:Int),v7=.int .i64 x7_3∧v8=.int .i64 x8_3∧Aside0 (sawmillref50_Discount.l1 kq l0 a1 x7_3 x8_3=some (r1,r2))∧Aside0 (kq≤kj17)∧Drawn0 w w')
        case atStart=>exact ⟨(0),(0),(by first|rfl|(simp;done)|(simp [*];done)),(by first|rfl|(simp;done)|(simp [*];done)),H',⟨Nat.le_refl _⟩,by repeat (first|exact Drawn0.refl _|apply Drawn0.step)⟩
        case round =>
         clear H'
         try clear c1
         try clear p1
         try clear q1
         try clear hx1
         try clear c2
         try clear p2
         try clear c3
         try clear c3b0
         try clear c3b1
         try clear c4
         try clear c4b0
         try clear c6
         try clear c6b0
         try clear p6
         try clear c7
         try clear c7b0
         try clear c8
         try clear c8b0
         try clear c10
         try clear c10b0
         try clear p10
         try clear q10
         try clear hx10
         try clear c11
         try clear c11b0
         try clear c12
         try clear c13
         try clear c13b0
         try clear c14
         try clear c14b0
         try clear c15
         try clear c15b0
         try clear c16
         try clear c16b0
         try clear c17
         try clear c17b0
         try clear c19
         try clear c19b0
         try clear c20
         try clear hx101_0
         try clear hx101_1
         try clear hx102_0
         try clear hx102_1
         try clear hx103_0
         try clear hx103_1
         try clear hx104_0
         try clear hx104_1
         try clear hx105_0
         try clear hx105_1
         try clear hx106_0
         try clear hx106_1
         try clear p1
         try clear p10
         try clear p101
         try clear p102
         try clear p103
         try clear p104
         try clear p105
         try clear p106
         try clear p2
         try clear p6
         try clear q1
         try clear q10
         try clear q101
         try clear q102
         try clear q103
         try clear q104
         try clear q105
         try clear q106
         obtain ⟨x7_3,x8_3,rfl,rfl,HA,HK3,⟨m3,rfl⟩⟩:=hrel
         cases gk with
         | zero=>exact absurd HA.out (by simp [sawmillref50_Discount.l1])
         | succ k3 =>
          have H:=HA.out
          clear HA
          simp only [sawmillref50_Discount.l1] at H
          by_cases c21:x8_3 < (l0.length:Int)
          ·rw [if_pos c21] at H
           have c21b0:decide (x8_3 < (l0.length:Int))=true:=decide_eq_true c21
           clear c21
           by_cases c22:0≤x8_3
           ·rw [if_pos c22] at H
            have c22b0:decide (0≤x8_3)=true:=decide_eq_true c22
            clear c22
            by_cases c23:((rd_T77 l0 x8_3).f0)≤a1
            ·rw [if_pos c23] at H
             have c23b0:decide (((rd_T77 l0 x8_3).f0)≤a1)=true:=decide_eq_true c23
             clear c23
             have H':=Aside0.mk H
             clear H
             have p107:0≤(x8_3:Int):=of_decide_eq_true (by first|(with_reducible assumption)|assumption)
             have q107:x8_3 < (l0.length:Int):=of_decide_eq_true (by first|(with_reducible assumption)|assumption)
             obtain ⟨ad107,e107,hx107_0,hx107_1⟩:=at_T77 HR0.out x8_3 p107 q107
             cases e107
             replace p107:=eq_true p107
             replace q107:=eq_true q107
             have p108:0≤(x8_3:Int):=of_decide_eq_true (by first|(with_reducible assumption)|assumption)
             have q108:x8_3 < (l0.length:Int):=of_decide_eq_true (by first|(with_reducible assumption)|assumption)
             obtain ⟨ad108,e108,hx108_0,hx108_1⟩:=at_T77 HR0.out x8_3 p108 q108
             obtain rfl:ad107=ad108:=(by injection e108)
             replace p108:=eq_true p108
             replace q108:=eq_true q108
             go_wp2
             repeat (go_quiet (fail);try go_wp2)
             go_roundg k3
             case measure=>have:=HK1.out;have:=HJ17.out;have:=HK3.out;omega
             case rel=>exact ⟨((rd_T77 l0 x8_3).f1),(wrap64 (x8_3+1)),(by first|rfl|(simp;done)|(simp [*];done)),(by first|rfl|(simp;done)|(simp [*];done)),H',⟨by have:=HK1.out;have:=HJ17.out;have:=HK3.out;omega⟩,by repeat (first|exact Drawn0.refl _|apply Drawn0.step)⟩
            ·rw [if_neg c23] at H
             have c23b0:decide (((rd_T77 l0 x8_3).f0)≤a1)=false:=decide_eq_false c23
             clear c23
             have H':=Aside0.mk H
             clear H
             have p107:0≤(x8_3:Int):=of_decide_eq_true (by first|(with_reducible assumption)|assumption)
             have q107:x8_3 < (l0.length:Int):=of_decide_eq_true (by first|(with_reducible assumption)|assumption)
             obtain ⟨ad107,e107,hx107_0,hx107_1⟩:=at_T77 HR0.out x8_3 p107 q107
             cases e107
             replace p107:=eq_true p107
             replace q107:=eq_true q107
             go_wp2
             repeat (go_quiet (fail);try go_wp2)
             go_roundg k3
             case measure=>have:=HK1.out;have:=HJ17.out;have:=HK3.out;omega
             case rel=>exact ⟨(x7_3),(wrap64 (x8_3+1)),(by first|rfl|(simp;done)|(simp [*];done)),(by first|rfl|(simp;done)|(simp [*];done)),H',⟨by have:=HK1.out;have:=HJ17.out;have:=HK3.out;omega⟩,by repeat (first|exact Drawn0.refl _|apply Drawn0.step)⟩
           ·rw [if_neg c22] at H
            exact absurd H (by simp)
          ·rw [if_neg c21] at H
           have c21b0:decide (x8_3 < (l0.length:Int))=false:=decide_eq_false c21
           clear c21
           simp only [Option.some.injEq,Prod.mk.injEq] at H
           obtain ⟨rfl,rfl⟩:=H
           go_wp2
           repeat (go_quiet (fail);try go_wp2)
           go_ret2
           exact ⟨by first|rfl|(simp;done)|(simp [*];done),by repeat (first|exact Drawn0.refl _|apply Drawn0.step)⟩
end Go.Proofs.YtojkjhaobjidlaaDoor.P
namespace Go.Proofs.YtojkjhaobjidlaaDoor.P
open Go.RowKit Go.Proofs.YtojkjhaobjidlaaDoorW.PrintWords Go.Proofs.YtojkjhaobjidlaaDoorW.PrintLast Go.Proofs.YtojkjhaobjidlaaDoorW.PrintMore
attribute [local go_sem] max2_int min2_int max_two min_two max_three min_three max_four min_four
attribute [local go_sem] cell_twice
set_option linter.unusedVariables false
set_option linter.unusedSimpArgs false
def sawmilllaw50_tiers.l0:Nat→List (S56)→List (S77)→Int→Option ((List (S77)))
 | 0,_,_,_=>none
 | k+1,x0,x3,x4=>if x4 < (x0.length:Int) then (if 0≤x4 then (if x3.length < 8796093022208 then (sawmilllaw50_tiers.l0 k x0 (x3++[(⟨(rd_T56 x0 x4).f0,(rd_T56 x0 x4).f1⟩:S77)]) (wrap64 (x4+1))) else (none)) else (none)) else (some x3)
def sawmilllaw50_tiers.f (k:Nat) (l0:List (S56)):Option ((List (S77))):=sawmilllaw50_tiers.l0 k l0 ([]:List (S77)) 0
theorem sawmilllaw50_tiers.mono_l:∀ k,(∀ y0 y1 y2,LeO (sawmilllaw50_tiers.l0 k y0 y1 y2) (sawmilllaw50_tiers.l0 (k+1) y0 y1 y2))
 | 0=>fun _ _ _ r h=>by simp [sawmilllaw50_tiers.l0] at h
 | k+1=>by
  have ih0:=sawmilllaw50_tiers.mono_l k
  ·intro y0 y1 y2
   unfold sawmilllaw50_tiers.l0
   repeat' first
   | (with_reducible exact ih0 _ _ _)
   | (with_reducible exact LeO.refl _)
   | (with_reducible exact LeO.none _)
   | (with_reducible refine LeO.ite ?_ ?_)
   | (with_reducible refine LeO.bind ?_ (fun _=>?_))
   | exact ih0 _ _ _
   | exact LeO.none _
   | refine LeO.ite ?_ ?_
   | refine LeO.bind ?_ (fun _=>?_)
theorem sawmilllaw50_tiers.mono:∀ a0 k,LeO (sawmilllaw50_tiers.f k a0) (sawmilllaw50_tiers.f (k+1) a0):=by
 intro a0 k
 have ih0:=sawmilllaw50_tiers.mono_l k
 unfold sawmilllaw50_tiers.f
 repeat' first
   | (with_reducible exact ih0 _ _ _)
   | (with_reducible exact LeO.refl _)
   | (with_reducible exact LeO.none _)
   | (with_reducible refine LeO.ite ?_ ?_)
   | (with_reducible refine LeO.bind ?_ (fun _=>?_))
   | exact ih0 _ _ _
   | exact LeO.none _
   | refine LeO.ite ?_ ?_
   | refine LeO.bind ?_ (fun _=>?_)
set_option maxHeartbeats 8000000 in
set_option maxRecDepth 100000 in
theorem sawmilllaw50_tiers.calls (k:Nat) (A0:Option Addr) (c0:Nat) (l0:List (S56)) (r:List (S77)) (w:World) (hr0:Kd.C k56 w A0 l0.length l0) (hc0:l0.length≤c0) (h:sawmilllaw50_tiers.f k l0=some r) :
  Calls Tryd.prog 18 #[.slice A0 l0.length c0] w fun e w'=>∃ v0_:Value,e=.returned (v0_)∧Kd.R k77 77 w' w.heap.size (fun _=>True) v0_ r∧Below w.heap.size w w':=by
 have hu56:=Tryd.underlying56
 have HR0:=Aside0.mk hr0
 have HC0:=Aside0.mk hc0
 clear hr0 hc0
 have HB:=Aside0.mk (Below.refl w.heap.size w)
 have H:(sawmilllaw50_tiers.l0 k l0 ([]:List (S77)) 0)=some r:=h
 clear h
 have H':=Aside0.mk H
 clear H
 go_enter Tryd.func18,Tryd.ntmps18
 go_wp2
 go_loopg [3,4] k (fun kq v3 v4 w'=>∃ (x3_1:List (S77)) (x4_1:Int),v4=.int .i64 x4_1∧Aside0 (sawmilllaw50_tiers.l0 kq l0 x3_1 x4_1=some r)∧Aside0 (kq≤k)∧Aside0 (Kd.R k77 77 w' w.heap.size (fun _=>True) v3 x3_1)∧Aside0 (Below w.heap.size w w'))
 case atStart=>exact ⟨(([]:List (S77))),(0),(by first|rfl|(simp;done)|(simp [*];done)),H',⟨Nat.le_refl _⟩,⟨by first|exact Kd.R_nil _ _ _ _ _|exact Kd.N_nil _ _ _ _ _|exact Kd.V_nil _ _ _ _ _|exact Kd.Q_nil _ _ _ _ _|exact Kd.S_nil _ _ _ _ _⟩,⟨by repeat (first|(with_reducible first|exact HB.out|apply below_alloc|apply pw_below_drewN|apply below_drew1)|exact HB.out)⟩⟩
 case round =>
  clear H'
  try clear c1
  obtain ⟨x3_1,x4_1,rfl,HA,HK1,HO_3,HB⟩:=hrel
  cases gk with
  | zero=>exact absurd HA.out (by simp [sawmilllaw50_tiers.l0])
  | succ k1 =>
   have H:=HA.out
   clear HA
   simp only [sawmilllaw50_tiers.l0] at H
   by_cases c2:x4_1 < (l0.length:Int)
   ·rw [if_pos c2] at H
    have c2b0:decide (x4_1 < (l0.length:Int))=true:=decide_eq_true c2
    clear c2
    by_cases c3:0≤x4_1
    ·rw [if_pos c3] at H
     have c3b0:decide (0≤x4_1)=true:=decide_eq_true c3
     clear c3
     by_cases c4:x3_1.length < 8796093022208
     ·rw [if_pos c4] at H
      have LMc4:=Aside0.mk c4
      clear c4
      obtain ⟨y102,hy102⟩:∃ y_:List (S77),y_=(x3_1++[(⟨(rd_T56 l0 x4_1).f0,(rd_T56 l0 x4_1).f1⟩:S77)]):=⟨_,rfl⟩
      replace H:(sawmilllaw50_tiers.l0 k1 l0 y102 (wrap64 (x4_1+1)))=some r:=by first|(rw [hy102];with_reducible exact H)|(have H2_:=(Option.bind_some _ _).symm.trans H;rw [hy102];with_reducible exact H2_)|(have H2_:=(Option.bind_some _ _).symm.trans H;with_reducible exact H2_)|with_reducible exact H|(rw [hy102];exact H)|exact H
      have Ny102:=Aside0.mk hy102
      clear hy102
      have H':=Aside0.mk H
      clear H
      have p101:0≤(x4_1:Int):=of_decide_eq_true (by first|(with_reducible assumption)|assumption)
      have q101:x4_1 < (l0.length:Int):=of_decide_eq_true (by first|(with_reducible assumption)|assumption)
      obtain ⟨ad101,e101,hx101_0,hx101_1⟩:=at_T56 HR0.out x4_1 p101 q101
      cases e101
      replace hx101_0:=(HB.out.cell (World.block_lt_of_cell? w _ hx101_0)).trans hx101_0
      replace hx101_1:=(HB.out.cell (World.block_lt_of_cell? w _ hx101_1)).trans hx101_1
      replace p101:=eq_true p101
      replace q101:=eq_true q101
      go_wp2_with (first|((with_reducible refine gate_builtin (b:=.append) (xs:=#[.tmp 11,.tmp 16]) rfl ?_);at_builtin;refine Kd.R_append k77 (w0:=w) w.heap.size rfl (.tmp 11) (.tmp 16) 42 77 (.agg #[(.int .i64 0),(.int .i64 0)]) 16 rfl Tryd.underlying42 info77 rfl (by decide) (by omega) u3 x3_1 (⟨(rd_T56 l0 x4_1).f0,(rd_T56 l0 x4_1).f1⟩:S77) [.int .i64 ((rd_T56 l0 x4_1).f0),.int .i64 ((rd_T56 l0 x4_1).f1)] (fun _=>True) (fun _=>False) rfl rfl ?aP (fun _ hk=>hk.elim) ?aF ?aO ?aB ?aS ?aL ?_;(case aP=>exact k77_mkM _ _ _ (⟨(rd_T56 l0 x4_1).f0,(rd_T56 l0 x4_1).f1⟩:S77));(case aB=>exact (by repeat (first|(with_reducible first|exact HB.out|apply below_alloc|apply pw_below_drewN|apply below_drew1)|exact HB.out)));(case aF=>exact (fun _ _=>trivial));(case aO=>exact (by (with_reducible repeat (first|apply Kd.R_alloc|apply Kd.R_drewN|apply Kd.R_drew));exact HO_3.out));(case aS=>exact (below_size (by repeat (first|(with_reducible first|exact HB.out|apply below_alloc|apply pw_below_drewN|apply below_drew1)|exact HB.out))));(case aL=>have:=LMc4.out;omega);intro v103 w5 ho hb hg hat;rw [← Ny102.out] at ho;have n0_:=Aside0.mk (hb);have n1_:=Aside0.mk (ho);clear HB;clear HO_3;have HB:=n0_;have HO104:=n1_;clear n0_ n1_;clear ho hb hg hat))
      go_roundg k1
      case measure=>have:=HK1.out;omega
      case rel=>exact ⟨(y102),(wrap64 (x4_1+1)),(by first|rfl|(simp;done)|(simp [*];done)),H',⟨by have:=HK1.out;omega⟩,⟨by (with_reducible repeat (first|apply Kd.R_alloc|apply Kd.R_drewN|apply Kd.R_drew));exact HO104.out⟩,⟨by repeat (first|(with_reducible first|exact HB.out|apply below_alloc|apply pw_below_drewN|apply below_drew1)|exact HB.out)⟩⟩
     ·rw [if_neg c4] at H
      exact absurd H (by simp)
    ·rw [if_neg c3] at H
     exact absurd H (by simp)
   ·rw [if_neg c2] at H
    have c2b0:decide (x4_1 < (l0.length:Int))=false:=decide_eq_false c2
    clear c2
    obtain rfl:=Option.some.inj H
    go_wp2
    go_ret
    exact ⟨_,by first|rfl|(simp [errW_none,errW_some]<;>rfl)|(simp [*,errW_none,errW_some]<;>rfl),by (with_reducible repeat (first|apply Kd.R_alloc|apply Kd.R_drewN|apply Kd.R_drew));exact HO_3.out,by repeat (first|(with_reducible first|exact HB.out|apply below_alloc|apply pw_below_drewN|apply below_drew1)|exact HB.out)⟩
end Go.Proofs.YtojkjhaobjidlaaDoor.P
namespace Go.Proofs.YtojkjhaobjidlaaDoor.P
open Go.RowKit Go.Proofs.YtojkjhaobjidlaaDoorW.PrintWords Go.Proofs.YtojkjhaobjidlaaDoorW.PrintMore
set_option linter.unusedVariables false
set_option linter.unusedSimpArgs false
abbrev TR:=S77
def cvT (t:TI):TR:=⟨t.f0,t.f1⟩
theorem rdR_get (l:List TI) (i:Nat) (h:i < l.length):rd_T77 (l.map cvT) (i:Int)=cvT l[i]:=by
 unfold rd_T77
 rw [List.getD_eq_getElem?_getD,List.getElem?_eq_getElem (by simpa using h)]
 simp
theorem tiers_l0 (l:List TI) (hl:l.length≤1000):∀ (d k i:Nat),i+d=l.length→d < k→sawmilllaw50_tiers.l0 k l ((l.take i).map cvT) (i:Int)=some (l.map cvT):=by
 intro d
 induction d with
 | zero =>
  intro k i hi hk
  obtain ⟨k,rfl⟩:∃ m,k=m+1:=⟨k - 1,by omega⟩
  simp only [sawmilllaw50_tiers.l0]
  rw [if_neg (by omega),List.take_of_length_le (by omega)]
 | succ d ih =>
  intro k i hi hk
  obtain ⟨k,rfl⟩:∃ m,k=m+1:=⟨k - 1,by omega⟩
  have h2:i < l.length:=by omega
  have h3:((l.take i).map cvT).length < 8796093022208:=by rw [List.length_map,List.length_take];omega
  have hs:=ih k (i+1) (by omega) (by omega)
  have e2:(l.take i).map cvT++[(⟨(rd_T56 l (i:Int)).f0,(rd_T56 l (i:Int)).f1⟩:TR)]=(l.take (i+1)).map cvT:=by
   rw [List.take_add_one,List.getElem?_eq_getElem h2,List.map_append,rdT_get i h2]
   rfl
  simp only [sawmilllaw50_tiers.l0]
  rw [if_pos (by omega),if_pos (by omega),if_pos h3,e2,wrap_nat i 1000000 (by omega) (by omega)]
  exact hs
theorem tiers_f (l:List TI) (hl:l.length≤1000) (k:Nat) (hk:l.length < k):sawmilllaw50_tiers.f k l=some (l.map cvT):=tiers_l0 l hl l.length k 0 (by omega) hk
theorem offGo_in (total:Int):∀ (l:List TI) (off:Int),0≤off→off≤1000→(∀ t ∈ l,0≤t.f1∧t.f1≤1000)→0≤offGo total off l∧offGo total off l≤1000:=by
 intro l
 induction l with
 | nil=>intro off h0 h1 h;exact ⟨h0,h1⟩
 | cons t l ih =>
  intro off h0 h1 h
  have ht:=h t List.mem_cons_self
  rw [offGo]
  refine ih _ ?_ ?_ (fun x hx=>h x (List.mem_cons_of_mem _ hx))
  ·split<;>omega
  ·split<;>omega
theorem rdisc_l1 (total:Int) (h0:0≤total) (h1:total≤1000000000000000) (l:List TI) (hl:l.length≤1000) (ht:∀ t ∈ l,0≤t.f1∧t.f1≤1000):∀ (d k i:Nat) (off:Int),i+d=l.length→d < k→0≤off→off≤1000→sawmillref50_Discount.l1 k (l.map cvT) total off (i:Int)=some (total * offGo total off (l.drop i) / 1000,0):=by
 intro d
 induction d with
 | zero =>
  intro k i off hi hk g0 g1
  obtain ⟨k,rfl⟩:∃ m,k=m+1:=⟨k - 1,by omega⟩
  simp only [sawmillref50_Discount.l1,List.length_map]
  rw [if_neg (by omega),List.drop_of_length_le (by omega),offGo]
  have a0:0≤total * off:=Int.mul_nonneg h0 g0
  have a1:total * off≤1000000000000000 * 1000:=Int.mul_le_mul h1 g1 g0 (by omega)
  clear ht
  generalize total * off=m at a0 a1 ⊢
  have e1:wrap64 m=m:=wrap_small m a0 (by omega)
  rw [e1,Int.tdiv_eq_ediv_of_nonneg a0,wrap_small (m / 1000) (by omega) (by omega)]
 | succ d ih =>
  intro k i off hi hk g0 g1
  obtain ⟨k,rfl⟩:∃ m,k=m+1:=⟨k - 1,by omega⟩
  have h2:i < l.length:=by omega
  have ht2:=ht l[i] (List.getElem_mem h2)
  simp only [sawmillref50_Discount.l1,List.length_map]
  rw [if_pos (by omega),if_pos (by omega),wrap_nat i 1000000 (by omega) (by omega),rdR_get l i h2,List.drop_eq_getElem_cons h2,offGo]
  by_cases g:l[i].f0≤total
  ·rw [if_pos g,if_pos (show (cvT l[i]).f0≤total from g)]
   exact ih k (i+1) _ (by omega) (by omega) ht2.1 ht2.2
  ·rw [if_neg g,if_neg (show ¬ (cvT l[i]).f0≤total from g)]
   exact ih k (i+1) _ (by omega) (by omega) g0 g1
def rfin (total:Int) (l:List TI) (r:Int × Int):Int × Int:=if r.2=0 then (total * offGo total 0 l / 1000,0) else (0,r.2)
theorem rdisc_l0 (total:Int) (l:List TI) (hl:l.length≤1000):∀ (d k i:Nat) (b off:Int),i+d=l.length→2 * d+l.length+3 < k→(∀ t ∈ l.take i,0≤t.f1∧t.f1≤1000)→(i=0∧b=-1 ∨ 0 < i∧0≤b∧∃ h:i - 1 < l.length,b=l[i - 1].f0)→sawmillref50_Discount.l0 k (l.map cvT) total (i:Int)=some (rfin total l (discGo total b off (l.drop i))):=by
 intro d
 induction d with
 | zero =>
  intro k i b off hi hk ht hb
  obtain ⟨k,rfl⟩:∃ m,k=m+2:=⟨k - 2,by omega⟩
  have f1:l.length < k:=by omega
  simp only [sawmillref50_Discount.l0,sawmillref50_Discount.j2,List.length_map,if_true,decide_eq_true_eq,gt_iff_lt]
  rw [if_neg (by omega),List.drop_of_length_le (by omega),discGo]
  rw [List.take_of_length_le (by omega)] at ht
  clear hb
  by_cases g1:total < 0
  ·rw [if_pos g1,if_pos g1]
   rfl
  rw [if_neg g1,if_neg g1]
  by_cases g2:1000000000000000 < total
  ·rw [if_pos g2,if_pos g2]
   rfl
  rw [if_neg g2,if_neg g2]
  have:=rdisc_l1 total (by omega) (by omega) l hl ht l.length k 0 0 (by omega) f1 (by omega) (by omega)
  rw [show ((0:Nat):Int)=0 from rfl] at this
  rw [this]
  rfl
 | succ d ih =>
  intro k i b off hi hk ht hb
  obtain ⟨k,rfl⟩:∃ m,k=m+2:=⟨k - 2,by omega⟩
  have h2:i < l.length:=by omega
  have f2:2 * d+l.length+3 < k:=by omega
  have f3:i+1+d=l.length:=by omega
  have q0:(i:Int) < (l.length:Int):=by omega
  have q1:(0:Int)≤(i:Int):=by omega
  have q2:i≤1000000:=by omega
  have hstep:∀ off,0≤l[i].f0→0≤l[i].f1→l[i].f1≤1000→sawmillref50_Discount.l0 k (l.map cvT) total ((i+1:Nat):Int)=some (rfin total l (discGo total l[i].f0 off (l.drop (i+1)))):=fun off z0 z1 z2=>by
   refine ih k (i+1) l[i].f0 off f3 f2 (fun t htt=>?_) (Or.inr ⟨Nat.succ_pos i,z0,h2,rfl⟩)
   rw [List.take_add_one,List.getElem?_eq_getElem h2,List.mem_append] at htt
   rcases htt with htt|htt
   ·exact ht t htt
   ·simp at htt
    rw [htt]
    exact ⟨z1,z2⟩
  have hj:sawmillref50_Discount.j1 (k+1) (l.map cvT) total (i:Int) false=some (rfin total l (if 1000000000000000 < l[i].f0 ∨ l[i].f1 < 0 ∨ 1000 < l[i].f1 then (0,9) else discGo total l[i].f0 (if l[i].f0≤total then l[i].f1 else off) (l.drop (i+1)))) ∨ l[i].f0 < 0:=by
   by_cases z0:l[i].f0 < 0
   ·exact Or.inr z0
   refine Or.inl ?_
   simp only [sawmillref50_Discount.j1,List.length_map]
   rw [if_neg (by simp),if_pos q1,if_pos q0,rdR_get l i h2,wrap_nat i 1000000 q2 (by decide)]
   show (if l[i].f0 > 1000000000000000 then _ else if l[i].f1 < 0 then _ else if l[i].f1 > 1000 then _ else _)=_
   by_cases g2:1000000000000000 < l[i].f0
   ·rw [if_pos g2,if_pos (Or.inl g2)];rfl
   rw [if_neg g2]
   by_cases g3:l[i].f1 < 0
   ·rw [if_pos g3,if_pos (Or.inr (Or.inl g3))];rfl
   rw [if_neg g3]
   by_cases g4:1000 < l[i].f1
   ·rw [if_pos g4,if_pos (Or.inr (Or.inr g4))];rfl
   rw [if_neg g4,if_neg (by omega)]
   exact hstep _ (by omega) (by omega) (by omega)
  have hj2:sawmillref50_Discount.j1 (k+1) (l.map cvT) total (i:Int) true=some (0,11):=by
   simp only [sawmillref50_Discount.j1]
   rw [if_pos trivial]
  rw [List.drop_eq_getElem_cons h2,discGo]
  rw [sawmillref50_Discount.l0,List.length_map,if_pos q0,if_pos q1,rdR_get l i h2]
  show (if l[i].f0 < 0 then _ else _)=_
  by_cases g1:l[i].f0 < 0
  ·have hle:l[i].f0≤b:=by
    clear hj
    rcases hb with ⟨-,h⟩|⟨-,h,-⟩
    ·omega
    ·omega
   rw [if_pos g1,hj2,if_pos hle]
   rfl
  rw [if_neg g1]
  have hj':=hj.resolve_right g1
  rcases hb with ⟨rfl,rfl⟩|⟨hp,hb0,hx,hb1⟩
  ·rw [if_neg (by decide),hj',if_neg (show ¬ l[0].f0≤-1 by omega)]
  ·have e3:wrap64 ((i:Int) - 1)=((i - 1:Nat):Int):=by
    rw [show ((i - 1:Nat):Int)=(i:Int) - 1 by omega]
    exact wrap_small _ (by omega) (by omega)
   rw [if_pos (by omega),e3,if_pos (by omega),if_pos (by omega),rdR_get l (i - 1) hx]
   show sawmillref50_Discount.j1 (k+1) (l.map cvT) total (i:Int) (decide (l[i].f0≤l[i - 1].f0))=_
   rw [← hb1]
   by_cases g2:l[i].f0≤b
   ·rw [show decide (l[i].f0≤b)=true from decide_eq_true g2,hj2,if_pos g2]
    rfl
   ·rw [show decide (l[i].f0≤b)=false from decide_eq_false g2,hj',if_neg g2]
theorem rdisc_f (l:List TI) (total:Int) (k:Nat) (hk:40 < k):sawmillref50_Discount.f k (l.map cvT) total=some (discB l total):=by
 unfold sawmillref50_Discount.f
 rw [List.length_map]
 by_cases g:8 < l.length
 ·rw [if_pos (by omega)]
  unfold discB
  rw [if_pos g]
 ·rw [if_neg (by omega)]
  have h:=rdisc_l0 total l (by omega) l.length k 0 (-1) 0 (by omega) (by omega) (fun t ht=>by simp at ht) (Or.inl ⟨rfl,rfl⟩)
  rw [show ((0:Nat):Int)=0 from rfl] at h
  rw [h,List.drop_zero]
  have hd:discB l total=discGo total (-1) 0 l:=by unfold discB;rw [if_neg g]
  rw [← hd]
  unfold rfin
  by_cases z:(discB l total).2=0
  ·rw [if_pos z]
   have:=(disc_is l total z).2.2.2.1
   rw [← this,← z]
  ·rw [if_neg z,← disc_err l total z]
end Go.Proofs.YtojkjhaobjidlaaDoor.P
namespace Go.Proofs.YtojkjhaobjidlaaDoor.P
open Go.RowKit Go.Proofs.YtojkjhaobjidlaaDoorW.PrintWords Go.Proofs.YtojkjhaobjidlaaDoorW.PrintLast Go.Proofs.YtojkjhaobjidlaaDoorW.PrintMore
attribute [local go_sem] max2_int min2_int max_two min_two max_three min_three max_four min_four
attribute [local go_sem] cell_twice
set_option linter.unusedVariables false
set_option linter.unusedSimpArgs false
def sawmilllaw50_BillDiscounts.f (k:Nat) (l0:List (S56)) (a1:Int):Option (Bool):=if (l0.length:Int) > 30 then ((sawmilllaw50_awake.f k).bind fun t101=>(some t101)) else ((bill_Discount.f k l0 a1).bind fun bt102=>((sawmilllaw50_tiers.f k l0).bind fun t104=>((sawmillref50_Discount.f k t104 a1).bind fun bt107=>(if bt102.1=bt107.1 then (if bt102.2=bt107.2 then ((sawmilllaw50_awake.f k).bind fun t109=>(some t109)) else (some false)) else (some false)))))
theorem sawmilllaw50_BillDiscounts.mono:∀ a0 a1 k,LeO (sawmilllaw50_BillDiscounts.f k a0 a1) (sawmilllaw50_BillDiscounts.f (k+1) a0 a1):=by
 intro a0 a1 k
 unfold sawmilllaw50_BillDiscounts.f
 repeat' first
   | (with_reducible exact bill_Discount.mono _ _ _)
   | (with_reducible exact sawmilllaw50_awake.mono _)
   | (with_reducible exact sawmilllaw50_tiers.mono _ _)
   | (with_reducible exact sawmillref50_Discount.mono _ _ _)
   | (with_reducible exact LeO.refl _)
   | (with_reducible exact LeO.none _)
   | (with_reducible refine LeO.ite ?_ ?_)
   | (with_reducible refine LeO.bind ?_ (fun _=>?_))
   | exact bill_Discount.mono _ _ _
   | exact sawmilllaw50_awake.mono _
   | exact sawmilllaw50_tiers.mono _ _
   | exact sawmillref50_Discount.mono _ _ _
   | exact LeO.none _
   | refine LeO.ite ?_ ?_
   | refine LeO.bind ?_ (fun _=>?_)
set_option maxHeartbeats 8000000 in
set_option maxRecDepth 100000 in
theorem sawmilllaw50_BillDiscounts.calls (k:Nat) (A0:Option Addr) (c0:Nat) (l0:List (S56)) (a1:Int) (r:Bool) (w:World) (hr0:Kd.C k56 w A0 l0.length l0) (hc0:l0.length≤c0) (h:sawmilllaw50_BillDiscounts.f k l0 a1=some r) (HG_:Aside0 (Glob w)) :
  Calls Tryd.prog 5 #[.slice A0 l0.length c0,.int .i64 a1] w fun e w'=>e=.returned (.bool r)∧Below w.heap.size w w':=by
 have HR0:=Aside0.mk hr0
 have HC0:=Aside0.mk hc0
 clear hr0 hc0
 have HB:=Aside0.mk (Below.refl w.heap.size w)
 have H:(if (l0.length:Int) > 30 then ((sawmilllaw50_awake.f k).bind fun t101=>(some t101)) else ((bill_Discount.f k l0 a1).bind fun bt102=>((sawmilllaw50_tiers.f k l0).bind fun t104=>((sawmillref50_Discount.f k t104 a1).bind fun bt107=>(if bt102.1=bt107.1 then (if bt102.2=bt107.2 then ((sawmilllaw50_awake.f k).bind fun t109=>(some t109)) else (some false)) else (some false))))))=some r:=h
 clear h
 by_cases c3:(l0.length:Int) > 30
 ·rw [if_pos c3] at H
  have c3b0:decide (30 < (l0.length:Int))=true:=decide_eq_true c3
  have c3b1:decide (30 < l0.length)=true:=decide_eq_true (by omega)
  clear c3
  replace H:=Option.bind_eq_some_iff.mp H
  obtain ⟨t101,A40,H⟩:=H
  replace H:(some t101)=some r:=H
  have A4:=Aside0.mk A40
  clear A40
  obtain rfl:=Option.some.inj H
  go_enter Tryd.func5,Tryd.ntmps5
  go_wp2_with (first|((with_reducible refine gate_callee (f:=11) rfl ?_);refine goesL_ (some 12) rfl rfl Tryd.func11 (by kernel_rfl) rfl #[] rfl (by (try simp only [List.map_toArray,List.map_cons,List.map_nil]);first|done|rfl|(simp only [List.length_drop,List.length_take];rfl)) ?_;(with_reducible refine (sawmilllaw50_awake.calls k  t101 _ A4.out (glob_at HG_ (by repeat (first|(with_reducible first|exact HB.out|apply below_alloc|apply pw_below_drewN|apply below_drew1|refine below_set ?_ (Aside0.out (by assumption)))|exact HB.out)))).mono ?_);rintro e w5 ⟨rfl,hb⟩;refine ⟨_,rfl,?_⟩;have n0_:=Aside0.mk (below_step (by repeat (first|(with_reducible first|exact HB.out|apply below_alloc|apply pw_below_drewN|apply below_drew1)|exact HB.out)) hb);clear HB;have HB:=n0_;clear n0_;(try clear hb);(try clear hb2);(try clear hk);(try clear hi)))
  go_ret
  exact ⟨by first|rfl|(simp [errW_none,errW_some]<;>rfl)|(simp [*,errW_none,errW_some]<;>rfl),by repeat (first|(with_reducible first|exact HB.out|apply below_alloc|apply pw_below_drewN|apply below_drew1)|exact HB.out)⟩
 ·rw [if_neg c3] at H
  have c3b0:decide (30 < (l0.length:Int))=false:=decide_eq_false c3
  have c3b1:decide (30 < l0.length)=false:=decide_eq_false (by omega)
  clear c3
  replace H:=Option.bind_eq_some_iff.mp H
  obtain ⟨⟨t102,t103⟩,A60,H⟩:=H
  replace H:((sawmilllaw50_tiers.f k l0).bind fun t104=>((sawmillref50_Discount.f k t104 a1).bind fun bt107=>(if t102=bt107.1 then (if t103=bt107.2 then ((sawmilllaw50_awake.f k).bind fun t109=>(some t109)) else (some false)) else (some false))))=some r:=H
  have A6:=Aside0.mk A60
  clear A60
  replace H:=Option.bind_eq_some_iff.mp H
  obtain ⟨t104,A70,H⟩:=H
  replace H:((sawmillref50_Discount.f k t104 a1).bind fun bt107=>(if t102=bt107.1 then (if t103=bt107.2 then ((sawmilllaw50_awake.f k).bind fun t109=>(some t109)) else (some false)) else (some false)))=some r:=H
  have A7:=Aside0.mk A70
  clear A70
  replace H:=Option.bind_eq_some_iff.mp H
  obtain ⟨⟨t107,t108⟩,A80,H⟩:=H
  replace H:(if t102=t107 then (if t103=t108 then ((sawmilllaw50_awake.f k).bind fun t109=>(some t109)) else (some false)) else (some false))=some r:=H
  have A8:=Aside0.mk A80
  clear A80
  by_cases c9:t102=t107
  ·rw [if_pos c9] at H
   have c9b0:(t102 == t107)=true:=beq_iff_eq.mpr c9
   have c9b1:(t102 != t107)=false:=bne_eq_false_iff_eq.mpr c9
   clear c9
   by_cases c10:t103=t108
   ·rw [if_pos c10] at H
    have c10b0:(t103 == t108)=true:=beq_iff_eq.mpr c10
    have c10b1:(t103 != t108)=false:=bne_eq_false_iff_eq.mpr c10
    clear c10
    replace H:=Option.bind_eq_some_iff.mp H
    obtain ⟨t109,A110,H⟩:=H
    replace H:(some t109)=some r:=H
    have A11:=Aside0.mk A110
    clear A110
    obtain rfl:=Option.some.inj H
    go_enter Tryd.func5,Tryd.ntmps5
    go_wp2_with (first|((with_reducible refine gate_callee (f:=16) rfl ?_);refine goesL_ (some 16) rfl rfl Tryd.func16 (by kernel_rfl) rfl #[.slice A0 l0.length c0,.int .i64 a1] rfl (by (try simp only [List.map_toArray,List.map_cons,List.map_nil]);first|done|rfl|(simp only [List.length_drop,List.length_take];rfl)) ?_;(with_reducible refine (bill_Discount.calls k _ _ l0 a1 t102 t103 _ ?side1 ?side2 A6.out).mono ?_);(case side1=>repeat (first|exact HR0.out|(with_reducible refine Kd.C_alloc ?_ _)|(with_reducible refine Kd.C_drewN ?_ _)|(with_reducible refine Kd.C_drew ?_)));(case side2=>exact HC0.out);rintro e w12 ⟨rfl,hb⟩;refine ⟨_,rfl,?_⟩;have n0_:=Aside0.mk (below_step (by repeat (first|(with_reducible first|exact HB.out|apply below_alloc|apply pw_below_drewN|apply below_drew1)|exact HB.out)) hb);clear HB;have HB:=n0_;clear n0_;(try clear hb);(try clear hb2);(try clear hk);(try clear hi))|((with_reducible refine gate_callee (f:=18) rfl ?_);refine goesL_ (some 21) rfl rfl Tryd.func18 (by kernel_rfl) rfl #[.slice A0 l0.length c0] rfl (by (try simp only [List.map_toArray,List.map_cons,List.map_nil]);first|done|rfl|(simp only [List.length_drop,List.length_take];rfl)) ?_;(with_reducible refine (sawmilllaw50_tiers.calls k _ _ l0 t104 _ ?side1 ?side2 A7.out).mono ?_);(case side1=>repeat (first|exact (Kd.C_below HR0.out HB.out)|(with_reducible refine Kd.C_alloc ?_ _)|(with_reducible refine Kd.C_drewN ?_ _)|(with_reducible refine Kd.C_drew ?_)));(case side2=>exact HC0.out);rintro e w13 ⟨v105,rfl,ho0,hb⟩;refine ⟨_,rfl,?_⟩;have n0_:=Aside0.mk (Kd.R_lower ho0 (below_size (by repeat (first|(with_reducible first|exact HB.out|apply below_alloc|apply pw_below_drewN|apply below_drew1)|exact HB.out))));have n1_:=Aside0.mk (below_step (by repeat (first|(with_reducible first|exact HB.out|apply below_alloc|apply pw_below_drewN|apply below_drew1)|exact HB.out)) hb);clear HB;have HO106:=n0_;have HB:=n1_;clear n0_ n1_;(try clear hb);(try clear hb2);(try clear hk);(try clear hi);(try clear ho0);obtain ⟨Ao14,co14,eo14⟩:=Kd.R_slice HO106.out;subst eo14)|((with_reducible refine gate_callee (f:=17) rfl ?_);refine goesL_ (some 23) rfl rfl Tryd.func17 (by kernel_rfl) rfl #[.slice Ao14 t104.length co14,.int .i64 a1] rfl (by (try simp only [List.map_toArray,List.map_cons,List.map_nil]);first|done|rfl|(simp only [List.length_drop,List.length_take];rfl)) ?_;(with_reducible refine (sawmillref50_Discount.calls k _ _ t104 a1 t107 t108 _ ?side1 ?side2 A8.out).mono ?_);(case side1=>repeat (first|exact (Kd.R_reads' HO106.out).2.2|(with_reducible refine Kd.C_alloc ?_ _)|(with_reducible refine Kd.C_drewN ?_ _)|(with_reducible refine Kd.C_drew ?_)));(case side2=>exact (Kd.R_reads' HO106.out).2.1);rintro e w' ⟨rfl,⟨nd,rfl⟩⟩;refine ⟨_,rfl,?_⟩)|(go_at_call 11;(with_reducible refine (sawmilllaw50_awake.calls k  t109 _ A11.out (glob_at HG_ (by repeat (first|(with_reducible first|exact HB.out|apply below_alloc|apply pw_below_drewN|apply below_drew1|refine below_set ?_ (Aside0.out (by assumption)))|exact HB.out)))).mono ?_);rintro e w15 ⟨rfl,hb⟩;have n0_:=Aside0.mk (Kd.R_below (by (with_reducible repeat (first|apply Kd.R_alloc|apply Kd.R_drewN|apply Kd.R_drew));exact HO106.out) hb);have n1_:=Aside0.mk (below_step (by repeat (first|(with_reducible first|exact HB.out|apply below_alloc|apply pw_below_drewN|apply below_drew1)|exact HB.out)) hb);clear HO106;clear HB;have HO106:=n0_;have HB:=n1_;clear n0_ n1_;(try clear hb);(try clear hb2);(try clear hk);(try clear hi)))
    go_ret
    exact ⟨by first|rfl|(simp [errW_none,errW_some]<;>rfl)|(simp [*,errW_none,errW_some]<;>rfl),by repeat (first|(with_reducible first|exact HB.out|apply below_alloc|apply pw_below_drewN|apply below_drew1)|exact HB.out)⟩
   ·rw [if_neg c10] at H
    have c10b0:(t103 == t108)=false:=beq_eq_false_iff_ne.mpr c10
    have c10b1:(t103 != t108)=true:=bne_iff_ne.mpr c10
    obtain rfl:=Option.some.inj H
    go_enter Tryd.func5,Tryd.ntmps5
    go_wp2_with (first|((with_reducible refine gate_callee (f:=16) rfl ?_);refine goesL_ (some 16) rfl rfl Tryd.func16 (by kernel_rfl) rfl #[.slice A0 l0.length c0,.int .i64 a1] rfl (by (try simp only [List.map_toArray,List.map_cons,List.map_nil]);first|done|rfl|(simp only [List.length_drop,List.length_take];rfl)) ?_;(with_reducible refine (bill_Discount.calls k _ _ l0 a1 t102 t103 _ ?side1 ?side2 A6.out).mono ?_);(case side1=>repeat (first|exact HR0.out|(with_reducible refine Kd.C_alloc ?_ _)|(with_reducible refine Kd.C_drewN ?_ _)|(with_reducible refine Kd.C_drew ?_)));(case side2=>exact HC0.out);rintro e w16 ⟨rfl,hb⟩;refine ⟨_,rfl,?_⟩;have n0_:=Aside0.mk (below_step (by repeat (first|(with_reducible first|exact HB.out|apply below_alloc|apply pw_below_drewN|apply below_drew1)|exact HB.out)) hb);clear HB;have HB:=n0_;clear n0_;(try clear hb);(try clear hb2);(try clear hk);(try clear hi))|((with_reducible refine gate_callee (f:=18) rfl ?_);refine goesL_ (some 21) rfl rfl Tryd.func18 (by kernel_rfl) rfl #[.slice A0 l0.length c0] rfl (by (try simp only [List.map_toArray,List.map_cons,List.map_nil]);first|done|rfl|(simp only [List.length_drop,List.length_take];rfl)) ?_;(with_reducible refine (sawmilllaw50_tiers.calls k _ _ l0 t104 _ ?side1 ?side2 A7.out).mono ?_);(case side1=>repeat (first|exact (Kd.C_below HR0.out HB.out)|(with_reducible refine Kd.C_alloc ?_ _)|(with_reducible refine Kd.C_drewN ?_ _)|(with_reducible refine Kd.C_drew ?_)));(case side2=>exact HC0.out);rintro e w17 ⟨v105,rfl,ho0,hb⟩;refine ⟨_,rfl,?_⟩;have n0_:=Aside0.mk (Kd.R_lower ho0 (below_size (by repeat (first|(with_reducible first|exact HB.out|apply below_alloc|apply pw_below_drewN|apply below_drew1)|exact HB.out))));have n1_:=Aside0.mk (below_step (by repeat (first|(with_reducible first|exact HB.out|apply below_alloc|apply pw_below_drewN|apply below_drew1)|exact HB.out)) hb);clear HB;have HO106:=n0_;have HB:=n1_;clear n0_ n1_;(try clear hb);(try clear hb2);(try clear hk);(try clear hi);(try clear ho0);obtain ⟨Ao18,co18,eo18⟩:=Kd.R_slice HO106.out;subst eo18)|((with_reducible refine gate_callee (f:=17) rfl ?_);refine goesL_ (some 23) rfl rfl Tryd.func17 (by kernel_rfl) rfl #[.slice Ao18 t104.length co18,.int .i64 a1] rfl (by (try simp only [List.map_toArray,List.map_cons,List.map_nil]);first|done|rfl|(simp only [List.length_drop,List.length_take];rfl)) ?_;(with_reducible refine (sawmillref50_Discount.calls k _ _ t104 a1 t107 t108 _ ?side1 ?side2 A8.out).mono ?_);(case side1=>repeat (first|exact (Kd.R_reads' HO106.out).2.2|(with_reducible refine Kd.C_alloc ?_ _)|(with_reducible refine Kd.C_drewN ?_ _)|(with_reducible refine Kd.C_drew ?_)));(case side2=>exact (Kd.R_reads' HO106.out).2.1);rintro e w' ⟨rfl,⟨nd,rfl⟩⟩;refine ⟨_,rfl,?_⟩))
    go_ret
    exact ⟨by first|rfl|(simp [errW_none,errW_some]<;>rfl)|(simp [*,errW_none,errW_some]<;>rfl),by repeat (first|(with_reducible first|exact HB.out|apply below_alloc|apply pw_below_drewN|apply below_drew1)|exact HB.out)⟩
  ·rw [if_neg c9] at H
   have c9b0:(t102 == t107)=false:=beq_eq_false_iff_ne.mpr c9
   have c9b1:(t102 != t107)=true:=bne_iff_ne.mpr c9
   obtain rfl:=Option.some.inj H
   go_enter Tryd.func5,Tryd.ntmps5
   go_wp2_with (first|((with_reducible refine gate_callee (f:=16) rfl ?_);refine goesL_ (some 16) rfl rfl Tryd.func16 (by kernel_rfl) rfl #[.slice A0 l0.length c0,.int .i64 a1] rfl (by (try simp only [List.map_toArray,List.map_cons,List.map_nil]);first|done|rfl|(simp only [List.length_drop,List.length_take];rfl)) ?_;(with_reducible refine (bill_Discount.calls k _ _ l0 a1 t102 t103 _ ?side1 ?side2 A6.out).mono ?_);(case side1=>repeat (first|exact HR0.out|(with_reducible refine Kd.C_alloc ?_ _)|(with_reducible refine Kd.C_drewN ?_ _)|(with_reducible refine Kd.C_drew ?_)));(case side2=>exact HC0.out);rintro e w19 ⟨rfl,hb⟩;refine ⟨_,rfl,?_⟩;have n0_:=Aside0.mk (below_step (by repeat (first|(with_reducible first|exact HB.out|apply below_alloc|apply pw_below_drewN|apply below_drew1)|exact HB.out)) hb);clear HB;have HB:=n0_;clear n0_;(try clear hb);(try clear hb2);(try clear hk);(try clear hi))|((with_reducible refine gate_callee (f:=18) rfl ?_);refine goesL_ (some 21) rfl rfl Tryd.func18 (by kernel_rfl) rfl #[.slice A0 l0.length c0] rfl (by (try simp only [List.map_toArray,List.map_cons,List.map_nil]);first|done|rfl|(simp only [List.length_drop,List.length_take];rfl)) ?_;(with_reducible refine (sawmilllaw50_tiers.calls k _ _ l0 t104 _ ?side1 ?side2 A7.out).mono ?_);(case side1=>repeat (first|exact (Kd.C_below HR0.out HB.out)|(with_reducible refine Kd.C_alloc ?_ _)|(with_reducible refine Kd.C_drewN ?_ _)|(with_reducible refine Kd.C_drew ?_)));(case side2=>exact HC0.out);rintro e w20 ⟨v105,rfl,ho0,hb⟩;refine ⟨_,rfl,?_⟩;have n0_:=Aside0.mk (Kd.R_lower ho0 (below_size (by repeat (first|(with_reducible first|exact HB.out|apply below_alloc|apply pw_below_drewN|apply below_drew1)|exact HB.out))));have n1_:=Aside0.mk (below_step (by repeat (first|(with_reducible first|exact HB.out|apply below_alloc|apply pw_below_drewN|apply below_drew1)|exact HB.out)) hb);clear HB;have HO106:=n0_;have HB:=n1_;clear n0_ n1_;(try clear hb);(try clear hb2);(try clear hk);(try clear hi);(try clear ho0);obtain ⟨Ao21,co21,eo21⟩:=Kd.R_slice HO106.out;subst eo21)|((with_reducible refine gate_callee (f:=17) rfl ?_);refine goesL_ (some 23) rfl rfl Tryd.func17 (by kernel_rfl) rfl #[.slice Ao21 t104.length co21,.int .i64 a1] rfl (by (try simp only [List.map_toArray,List.map_cons,List.map_nil]);first|done|rfl|(simp only [List.length_drop,List.length_take];rfl)) ?_;(with_reducible refine (sawmillref50_Discount.calls k _ _ t104 a1 t107 t108 _ ?side1 ?side2 A8.out).mono ?_);(case side1=>repeat (first|exact (Kd.R_reads' HO106.out).2.2|(with_reducible refine Kd.C_alloc ?_ _)|(with_reducible refine Kd.C_drewN ?_ _)|(with_reducible refine Kd.C_drew ?_)));(case side2=>exact (Kd.R_reads' HO106.out).2.1);rintro e w' ⟨rfl,⟨nd,rfl⟩⟩;refine ⟨_,rfl,?_⟩))
   go_ret
   exact ⟨by first|rfl|(simp [errW_none,errW_some]<;>rfl)|(simp [*,errW_none,errW_some]<;>rfl),by repeat (first|(with_reducible first|exact HB.out|apply below_alloc|apply pw_below_drewN|apply below_drew1)|exact HB.out)⟩
end Go.Proofs.YtojkjhaobjidlaaDoor.P
namespace Go.Proofs.YtojkjhaobjidlaaDoor.P
open Go.RowKit Go.Proofs.YtojkjhaobjidlaaDoorW.PrintWords Go.Proofs.YtojkjhaobjidlaaDoorW.PrintMore
set_option linter.unusedVariables false
set_option linter.unusedSimpArgs false
theorem discounts_true (l:List TI) (total:Int):sawmilllaw50_BillDiscounts.f 6000 l total=some true:=by
 unfold sawmilllaw50_BillDiscounts.f
 rw [awake_at 6000 (by decide)]
 by_cases g:(l.length:Int) > 30
 ·rw [if_pos g]
  rfl
 ·rw [if_neg g,disc_f l total 6000 (by decide),tiers_f l (by omega) 6000 (by omega)]
  simp only [Option.bind_some]
  rw [rdisc_f l total 6000 (by decide)]
  simp only [Option.bind_some,if_true]
end Go.Proofs.YtojkjhaobjidlaaDoor.P
namespace Go.Proofs.YtojkjhaobjidlaaDoor.billDiscounts
open Go.ChangeShapes Go.WideShapes Go.ChangeAt Go.WideMaps Go.WideElems Go.RowKit Go.Proofs.YtojkjhaobjidlaaDoor.P Go.Proofs.YtojkjhaobjidlaaDoorW.PrintWords
set_option linter.unusedVariables false
set_option maxRecDepth 100000 in
theorem lifted (os:Os) (started:os.Started) (H:Type) (enc:TypeId × Value→H) :
  ReturnsInHanded {} Tryd.checked os 5 .any (fun w args=>(Rows.billDiscountsSpec.pre enc Tryd.prog Tryd.f5 [] false w args∧laidMetH Tryd.prog laid3 w)∧sizedMet enc Tryd.prog Tryd.f5 (OpenSpec.ofChange Rows.billDiscountsSpec) false w args)
   (Rows.billDiscountsSpec.post enc Tryd.prog Tryd.f5 false true false false):=by
 refine returnsInHanded_of_change_and (C:=Tryd.checked) (X:=fun w _=>laidMetH Tryd.prog laid3 w) (fun _ _ _ hh h=>h.of_heap hh) own started (by kernel_rfl) Tryd.func5
  (ChangeSpec.witness_shaped (enc:=enc) (C:=Tryd.checked) (os:=os) (X:=fun w _=>laidMetH Tryd.prog laid3 w) false (World.doorLaid Tryd.prog 38 os) #[.slice none 0 0,.int .i64 0] 8 rfl (World.shaped_of_RefB (by kernel_rfl) (by kernel_rfl)) (by kernel_rfl) (by kernel_rfl) (by kernel_rfl) (door_met os _)) ?_
 intro W base args ds gs before hval0 hW _ _ hL _
 have hval:∀ (j:Nat) t v,Tryd.f5.params[j]?=some t→args[j]?=some v→Value.okWide Tryd.prog W .any base t v:=hval0
 have hW':=hW
 obtain ⟨p,q,hA0,hV,rfl,hfz,hnd⟩:=hW
 have hA:DataW.TrodAll enc Tryd.prog W 0 (fun _=>true) true Tryd.f5.params.toList args.toList ds p:=hA0
 rw [Tryd.params5] at hA hval
 obtain ⟨v0,vs0,d0,ds0,p0,q0,hargs,rfl,rfl,h0,r0⟩:=trodAll_cons hA
 obtain ⟨v1,vs1,d1,ds1,p1,q1,rfl,rfl,rfl,h1,r1⟩:=trodAll_cons r0
 obtain ⟨rfl,rfl,rfl⟩:=trodAll_nil r1
 obtain rfl:args=#[v0,v1]:=by cases args;simp_all
 obtain ⟨rfl,rfl⟩:=trodVars_none hV
 have k0:=h0
 have lt0:∀ x ∈ p0,x.block < W.heap.size:=by obtain ⟨m,hm⟩:=k0;exact DataW.trod_lt m _ _ _ hm
 obtain ⟨fu0,hf0⟩:=h0
 obtain ⟨b0,n0,c0,rfl⟩:=okWide_slice Tryd.underlying24 (hval 0 24 v0 rfl rfl)
 obtain ⟨a0,A0,d0',e0,l0,g0⟩:=opens_tiers H enc W _ _ _ hf0
 obtain ⟨rfl,rfl,rfl⟩:b0=A0∧n0=a0.length∧c0=d0':=by simpa [Value.cells] using e0
 have k1:=h1
 have lt1:∀ x ∈ p1,x.block < W.heap.size:=by obtain ⟨m,hm⟩:=k1;exact DataW.trod_lt m _ _ _ hm
 obtain ⟨fu1,hf1⟩:=h1
 obtain ⟨s1,rfl⟩:=okWide_int uInt (hval 1 3 v1 rfl rfl)
 refine (sawmilllaw50_BillDiscounts.calls 6000 _ _ a0 s1 true W g0 l0 (discounts_true a0 s1) ⟨glob_of hL⟩).mono fun e W' ⟨he,bel⟩=>?_
 subst he
 exact ⟨_,rfl,_,_,_,[],_,[],hW',trodAll_mk1 (shut_bool Tryd.underlying4 _),(trodAll_cons_mk (Below.trod laidOut (by kernel_rfl) (of_decide_eq_true (by kernel_rfl)) k0 bel lt0) (trodAll_cons_mk (Below.trod laidOut (by kernel_rfl) (of_decide_eq_true (by kernel_rfl)) k1 bel lt1) trodAll_mk0)),rfl,bel.frame _,fun h=>by cases h⟩
theorem holds:Rows.BillDiscountsSaid :=
 OpenClaim.holds_of_wide 5 Tryd.f5 rfl rfl rfl rfl rfl rfl rfl ⟨rfl,rfl,rfl,rfl,rfl⟩ rfl rfl rfl rfl rfl (by kernel_rfl) Tryd.func5 (by kernel_rfl)
  (of_decide_eq_true (by kernel_rfl)) (by unfold Func.isWrapper;first|(rw [if_pos (by decide +kernel)];kernel_rfl)|(rw [if_neg (by decide +kernel)];exact ⟨rfl,rfl⟩))
  (fun os started H enc _=>lifted os started H enc)
theorem card_holds:Rows.BillDiscountsCardSaid :=
 Claim7.holds_tied_plain_at .later [] [.data, .data, .data] true (true, "19f5dea25a4b6f3af804689818080770bcddf1653a3dc0e8785111f2bf0fa93c") false
  holds (fun _ h=>by cases h) (by kernel_rfl) (fun _ h=>by cases h) billDiscounts_row_tie rfl ⟨rfl,rfl⟩ (by kernel_rfl) rfl
  (fun f fn hf hfn=>by
   obtain rfl : f = 5 := Option.some.inj ((show Tryd.prog.funcNamed "sawmill/sawmilllaw50.BillDiscounts" = some 5 by kernel_rfl).symm.trans hf) |>.symm
   obtain rfl:fn=Tryd.f5:=(Option.some.inj (Tryd.func5.symm.trans hfn)).symm
   exact ⟨by kernel_rfl,fun j t ht=>by
    rw [Tryd.params5] at ht
    have hm:t ∈ [24,3]:=by simpa using Array.mem_of_getElem? ht
    have hall:([24,3].all fun u=>!Tryd.prog.wantsStandIn u)=true:=by kernel_rfl
    exact (show Tryd.prog.wantsStandIn t=false by simpa using List.all_eq_true.1 hall t hm)⟩)
  (by kernel_rfl)
end Go.Proofs.YtojkjhaobjidlaaDoor.billDiscounts
namespace Go.Proofs.YtojkjhaobjidlaaDoor
theorem billDiscounts_card:Rows.BillDiscountsCardSaid:=billDiscounts.card_holds
end Go.Proofs.YtojkjhaobjidlaaDoor
