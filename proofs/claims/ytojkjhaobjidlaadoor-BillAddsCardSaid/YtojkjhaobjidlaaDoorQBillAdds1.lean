/-
  The statement BillAdds of this chapter holds for every input, as its tied card says; no conditions.
-/
import Derived.Laws.Strings
import Derived.Test.YtojkjhaobjidlaaDoorMb2
import Derived.Test.YtojkjhaobjidlaaDoorMb3
import Derived.Test.YtojkjhaobjidlaaDoorTie
import Derived.Test.YtojkjhaobjidlaaDoorCards
import Derived.WalkKit
import Derived.ProofKit
import Derived.OpenShut
import Derived.ShutString
import Derived.ChangeOld
import Derived.Below
import Derived.Carry
import Derived.SizedLaws
import Derived.Stop.Joined
import Derived.SevenTiedAt
import Derived.LaidMore
namespace Go.Proofs.YtojkjhaobjidlaaDoor.P
open Go.RowKit Go.Proofs.YtojkjhaobjidlaaDoorW.PrintWords Go.Proofs.YtojkjhaobjidlaaDoorW.PrintLast
set_option linter.unusedVariables false
set_option linter.unusedSimpArgs false
def nmc (c:Int):Bool:=decide (48≤c∧c≤57) || decide (c=95) || decide (97≤c∧c≤122)
def allFrom (p:Int→Bool) (s:ByteArray):Nat→Nat→Bool
 | 0,_=>true
 | d+1,i=>p (bt s i) && allFrom p s d (i+1)
def isNm (s:ByteArray):Bool:=decide (1≤s.size) && decide (s.size≤16) && decide (97≤bt s 0) && decide (bt s 0≤122) && allFrom nmc s s.size 0
theorem wrap_nat (i:Nat) (n:Nat) (h:i≤n) (hn:n≤140737488351232):wrap64 ((i:Int)+1)=((i+1:Nat):Int):=by
 unfold wrap64
 omega
theorem ident_l0 (s:ByteArray) (hs:s.size≤140737488351232):∀ (d k i:Nat),i+d=s.size→d < k→ident_IsName.l0 k s (s.size:Int) (i:Int)=some (allFrom nmc s d i):=by
 intro d
 induction d with
 | zero =>
  intro k i hi hk
  obtain ⟨k,rfl⟩:∃ m,k=m+1:=⟨k - 1,by omega⟩
  simp only [ident_IsName.l0]
  rw [if_neg (by omega)]
  rfl
 | succ d ih =>
  intro k i hi hk
  obtain ⟨k,rfl⟩:∃ m,k=m+1:=⟨k - 1,by omega⟩
  simp only [ident_IsName.l0]
  rw [if_pos (by omega),if_pos (by omega),if_pos (by omega),wrap_nat i s.size (by omega) hs,ih k (i+1) (by omega) (by omega)]
  simp only [allFrom]
  generalize bt s (i:Int)=c
  unfold ident_digit.f nmc
  by_cases h1:48≤c
  ·rw [if_pos h1,Option.bind_some]
   by_cases h2:c≤57
   ·simp [h1,h2]
   ·by_cases h3:c=95
    ·simp [h1,h2,h3]
    ·by_cases h4:c < 97
     ·simp [h1,h2,h3,h4];omega
     ·by_cases h5:c > 122
      ·simp [h1,h2,h3,h4,h5];omega
      ·simp [h1,h2,h3,h4,h5];omega
  ·rw [if_neg h1,Option.bind_some]
   have h3:¬ c=95:=by omega
   have h4:c < 97:=by omega
   simp [h1,h3,h4]
   omega
theorem size_nil (s:ByteArray):s.toList=[] ↔ s.size=0:=by
 rw [ByteArray.toList_eq,List.eq_nil_iff_length_eq_zero,Array.length_toList]
 rfl
theorem ident_name (s:ByteArray) (hs:s.size≤140737488351232) (k:Nat) (hk:s.size+1 < k):ident_IsName.f k s=some (isNm s):=by
 obtain ⟨k,rfl⟩:∃ m,k=m+1:=⟨k - 1,by omega⟩
 unfold ident_IsName.f isNm
 have hj:∀ b,ident_IsName.j0 (k+1) s b=if b=true then some false else some (allFrom nmc s s.size 0):=by
  intro b
  simp only [ident_IsName.j0]
  rw [show (0:Int)=((0:Nat):Int) from rfl,ident_l0 s hs s.size k 0 (by omega) (by omega)]
 simp only [hj,size_nil]
 by_cases h0:s.size=0
 ·rw [if_pos h0];simp [h0]
 ·rw [if_neg h0]
  by_cases h1:(s.size:Int) > 16
  ·rw [if_pos h1]
   have:¬ s.size≤16:=by omega
   simp [this]
  ·rw [if_neg h1,if_pos (by omega)]
   have e1:1≤s.size:=by omega
   have e2:s.size≤16:=by omega
   obtain ⟨m,hm⟩:∃ m,s.size=m+1:=⟨s.size - 1,by omega⟩
   rw [hm]
   simp only [allFrom]
   generalize allFrom nmc s m (0+1)=rest
   rw [show ((0:Nat):Int)=(0:Int) from rfl]
   generalize bt s 0=c
   have e3:1≤m+1:=by omega
   have e4:m+1≤16:=by omega
   unfold ident_digit.f nmc
   by_cases g1:48≤c<;>by_cases g2:c≤57<;>by_cases g3:c=95<;>by_cases g4:97≤c<;>by_cases g5:c≤122<;>first|(exfalso;omega)|simp [e3,e4,g1,g2,g3,g4,g5]
theorem ident_at (s:ByteArray) (k:Nat):ident_IsName.f (20+k) s=some (isNm s):=by
 by_cases h:s.size≤16
 ·exact ident_name s (by omega) (20+k) (by omega)
 ·obtain ⟨k,hk⟩:∃ m,20+k=m+1:=⟨19+k,by omega⟩
  rw [hk]
  unfold ident_IsName.f isNm
  simp only [size_nil]
  rw [if_neg (by omega),if_pos (by omega)]
  simp [ident_IsName.j0,h]
theorem ident_nm (s:ByteArray):ident_IsName.f 20 s=some (isNm s):=by
 by_cases h:s.size≤16
 ·exact ident_name s (by omega) 20 (by omega)
 ·unfold ident_IsName.f isNm
  simp only [size_nil]
  rw [if_neg (by omega),if_pos (by omega)]
  simp [ident_IsName.j0,h]
end Go.Proofs.YtojkjhaobjidlaaDoor.P
namespace Go.Proofs.YtojkjhaobjidlaaDoor.P
open Go.RowKit Go.Proofs.YtojkjhaobjidlaaDoorW.PrintWords Go.Proofs.YtojkjhaobjidlaaDoorW.PrintMore
set_option linter.unusedVariables false
set_option linter.unusedSimpArgs false
abbrev PR:=S53
theorem rdP_get {l:List PR} (i:Nat) (h:i < l.length):rd_T53 l (i:Int)=l[i]:=by
 unfold rd_T53
 rw [List.getD_eq_getElem?_getD,List.getElem?_eq_getElem (by simpa using h)]
 simp
theorem rdP_drop {l:List PR} (i:Nat) (h:i < l.length):l.drop i=rd_T53 l (i:Int) :: l.drop (i+1):=by
 rw [List.drop_eq_getElem_cons h,rdP_get i h]
theorem rd_get_ {l:List Int} (i:Nat) (h:i < l.length):rd l (i:Int)=l[i]:=by
 unfold rd
 simp [h]
theorem rd_drop_ {l:List Int} (i:Nat) (h:i < l.length):l.drop i=rd l (i:Int) :: l.drop (i+1):=by
 rw [List.drop_eq_getElem_cons h,rd_get_ i h]
def fnd (n:ByteArray):List PR→Nat→Int × Bool
 | [],_=>(0,false)
 | p :: l,i=>if p.f0.toList=n.toList then ((i:Int),true) else fnd n l (i+1)
theorem find_l0 (n:ByteArray) (l:List PR) (hl:l.length≤1000000):∀ (d k i:Nat),i+d=l.length→d < k→product_Find.l0 k n l (l.length:Int) (i:Int)=some (fnd n (l.drop i) i):=by
 intro d
 induction d with
 | zero =>
  intro k i hi hk
  obtain ⟨k,rfl⟩:∃ m,k=m+1:=⟨k - 1,by omega⟩
  simp only [product_Find.l0]
  rw [if_neg (by omega),List.drop_of_length_le (by omega)]
  rfl
 | succ d ih =>
  intro k i hi hk
  obtain ⟨k,rfl⟩:∃ m,k=m+1:=⟨k - 1,by omega⟩
  have h2:i < l.length:=by omega
  simp only [product_Find.l0]
  rw [if_pos (by omega),if_pos (by omega),if_pos (by omega),wrap_nat i 1000000 (by omega) (by omega),ih k (i+1) (by omega) (by omega),rdP_drop i h2]
  rw [fnd]
  by_cases h:(rd_T53 l (i:Int)).f0.toList=n.toList
  ·rw [if_pos h,if_pos h]
  ·rw [if_neg h,if_neg h]
theorem find_f (n:ByteArray) (l:List PR) (hl:l.length≤1000000) (k:Nat) (hk:l.length < k):product_Find.f k l n=some (fnd n l 0):=by
 unfold product_Find.f
 exact find_l0 n l hl l.length k 0 (by omega) hk
def greenB (t w a:Int):Int × Int:=if t < 1 ∨ w < 1 ∨ 600 < t ∨ 600 < w ∨ a < 0 ∨ 200 < a then (0,0) else ((t * (1000+a)+999) / 1000,(w * (1000+a)+999) / 1000)
theorem floor_f (t a:Int) (h1:1≤t) (h2:t≤600) (h3:0≤a) (h4:a≤200):units_Floor.f (wrap64 ((wrap64 ((wrap64 (t * (wrap64 (1000+a))))+1000)) - 1)) 1000=some ((t * (1000+a)+999) / 1000,true):=by
 have e1:wrap64 (1000+a)=1000+a:=by unfold wrap64;omega
 have hm0:0≤t * (1000+a):=Int.mul_nonneg (by omega) (by omega)
 have hm1:t * (1000+a)≤600 * 1200:=Int.mul_le_mul h2 (by omega) (by omega) (by omega)
 rw [e1]
 generalize t * (1000+a)=m at hm0 hm1 ⊢
 have e2:wrap64 m=m:=by unfold wrap64;omega
 have e3:wrap64 (m+1000)=m+1000:=by unfold wrap64;omega
 have e4:wrap64 (m+1000 - 1)=m+999:=by unfold wrap64;omega
 rw [e2,e3,e4]
 unfold units_Floor.f
 rw [if_pos (by omega),if_pos (by omega),if_pos (by omega)]
theorem green_f (n:ByteArray) (t w a x:Int) (L P:List Int) (k:Nat) (hk:0 < k):product_Green.f k n t w a x L P=some (greenB t w a):=by
 obtain ⟨k,rfl⟩:∃ m,k=m+1:=⟨k - 1,by omega⟩
 unfold product_Green.f greenB mn mx
 simp only [product_Green.j0,if_true,decide_eq_true_eq,gt_iff_lt]
 by_cases h1:t < 1 ∨ w < 1
 ·rw [if_pos (by split<;>omega),if_pos (by omega)]
 ·rw [if_neg (by split<;>omega)]
  by_cases h2:600 < t ∨ 600 < w
  ·rw [if_pos (by split<;>omega),if_pos (by omega)]
  ·rw [if_neg (by split<;>omega)]
   by_cases h3:a < 0
   ·rw [if_pos h3,if_pos (by omega)]
   ·rw [if_neg h3]
    by_cases h4:200 < a
    ·rw [if_pos h4,if_pos (by omega)]
    ·rw [if_neg h4,if_neg (by omega),floor_f t a (by omega) (by omega) (by omega) (by omega),floor_f w a (by omega) (by omega) (by omega) (by omega)]
     rfl
def sizedB (t w a x:Int):Bool:=!(decide (t < 5) || (decide (300 < t) || (decide (w < t) || (decide (600 < w) || (decide (a < 0) || (decide (200 < a) || (decide (x < 0) || (decide (1000 < x) || decide (600 < (greenB t w a).2)))))))))
theorem sized_f (n:ByteArray) (t w a x:Int) (L P:List Int) (k:Nat) (hk:1 < k):product_sized.f k n t w a x L P=some (sizedB t w a x):=by
 obtain ⟨k,rfl⟩:∃ m,k=m+1:=⟨k - 1,by omega⟩
 unfold product_sized.f sizedB
 simp only [product_sized.j0,green_f n t w a x L P k (by omega),Option.bind_some]
 by_cases h1:t < 5
 ·simp [h1]
 by_cases h2:300 < t
 ·simp [h1,h2]
 by_cases h3:w < t
 ·simp [h1,h2,h3]
 by_cases h4:600 < w
 ·simp [h1,h2,h3,h4]
 by_cases h5:a < 0
 ·simp [h1,h2,h3,h4,h5]
 by_cases h6:200 < a
 ·simp [h1,h2,h3,h4,h5,h6]
 by_cases h7:x < 0
 ·simp [h1,h2,h3,h4,h5,h6,h7]
 by_cases h8:1000 < x
 ·simp [h1,h2,h3,h4,h5,h6,h7,h8]
 simp [h1,h2,h3,h4,h5,h6,h7,h8]
 by_cases h9:(greenB t w a).2≤600
 ·simp [h9]<;>omega
 ·simp [h9]<;>omega
def leQ (n:Int):Option Int→Bool
 | none=>false
 | some p=>decide (n≤p)
def lensGo:Option Int→List Int→Int
 | _,[]=>0
 | q,n :: l=>if n < 100 ∨ 20000 < n then 9 else if leQ n q=true then 11 else lensGo (some n) l
def priceOk (n:Int):Bool:=!(decide (n < 0) || decide (1000000 < n))
def pricesE (P:List Int):Int:=if P.all priceOk=true then 0 else 9
def lensE (L P:List Int):Int:=if L.length=0 then 3 else if 8 < L.length then 4 else if L.length=P.length then (if lensGo none L=0 then pricesE P else lensGo none L) else 19
theorem prices_l1 (P:List Int) (hP:P.length≤1000):∀ (d k i:Nat),i+d=P.length→d < k→product_checkLengths.l1 k P (P.length:Int) (i:Int)=some (pricesE (P.drop i)):=by
 intro d
 induction d with
 | zero =>
  intro k i hi hk
  obtain ⟨k,rfl⟩:∃ m,k=m+1:=⟨k - 1,by omega⟩
  simp only [product_checkLengths.l1]
  rw [if_neg (by omega),List.drop_of_length_le (by omega)]
  rfl
 | succ d ih =>
  intro k i hi hk
  obtain ⟨k,rfl⟩:∃ m,k=m+1:=⟨k - 1,by omega⟩
  have h2:i < P.length:=by omega
  simp only [product_checkLengths.l1]
  rw [if_pos (by omega),if_pos (by omega),if_pos (by omega),wrap_nat i 1000000 (by omega) (by omega),ih k (i+1) (by omega) (by omega),rd_drop_ i h2]
  unfold pricesE
  rw [List.all_cons]
  generalize rd P (i:Int)=c
  generalize (P.drop (i+1)).all priceOk=b
  unfold priceOk
  by_cases g1:c < 0
  ·simp [g1]
  ·by_cases g2:c > 1000000
   ·simp [g1,g2]
   ·simp [g1,g2]
def prevOf (L:List Int) (i:Nat):Option Int:=if i=0 then none else some (rd L ((i:Int) - 1))
theorem lens_l0 (n:ByteArray) (t w a x:Int) (L P:List Int) (hL:L.length≤1000) (hP:P.length≤1000):∀ (d k i:Nat),i+d=L.length→2 * d+P.length+1 < k→product_checkLengths.l0 k L (L.length:Int) (i:Int) n t w a x L P=some (if lensGo (prevOf L i) (L.drop i)=0 then pricesE P else lensGo (prevOf L i) (L.drop i)):=by
 intro d
 induction d with
 | zero =>
  intro k i hi hk
  obtain ⟨k,rfl⟩:∃ m,k=m+1:=⟨k - 1,by omega⟩
  simp only [product_checkLengths.l0]
  rw [if_neg (by omega),List.drop_of_length_le (by omega)]
  have:=prices_l1 P hP P.length k 0 (by omega) (by omega)
  rw [show ((0:Nat):Int)=0 from rfl] at this
  rw [this]
  simp [lensGo]
 | succ d ih =>
  intro k i hi hk
  obtain ⟨k,rfl⟩:∃ m,k=m+2:=⟨k - 2,by omega⟩
  have h2:i < L.length:=by omega
  have e:wrap64 ((i:Int)+1)=((i+1:Nat):Int):=wrap_nat i 1000000 (by omega) (by omega)
  have hi2:=ih k (i+1) (by omega) (by omega)
  have hp:prevOf L (i+1)=some (rd L (i:Int)):=by
   unfold prevOf
   rw [if_neg (by omega),show ((i+1:Nat):Int) - 1=(i:Int) by omega]
  rw [hp] at hi2
  simp only [product_checkLengths.l0,product_checkLengths.j1]
  rw [if_pos (by omega),if_pos (by omega),if_pos (by omega),e,hi2,rd_drop_ i h2]
  rw [lensGo]
  obtain ⟨q,hq⟩:∃ q,q=rd L ((i:Int) - 1):=⟨_,rfl⟩
  have hpv:prevOf L i=if i=0 then none else some q:=by rw [hq];rfl
  rw [hpv]
  generalize hc:rd L (i:Int)=c
  by_cases g1:c < 100
  ·simp [g1]
  by_cases g2:20000 < c
  ·simp [g1,g2]
  simp only [g1,g2,or_self,if_false,decide_false,Bool.false_eq_true,if_neg,gt_iff_lt]
  by_cases hz:i=0
  ·subst hz
   simp [leQ]
  ·have hw:wrap64 ((i:Int) - 1)=(i:Int) - 1:=by unfold wrap64;omega
   rw [if_pos (by omega),hw,if_pos (by omega),if_pos (by omega),if_neg hz,← hq]
   by_cases g3:c≤q
   ·simp [leQ,g3]
   ·simp [leQ,g3]
theorem lens_f (n:ByteArray) (t w a x:Int) (L P:List Int) (k:Nat) (hk:26 < k):product_checkLengths.f k n t w a x L P=some (lensE L P):=by
 unfold product_checkLengths.f lensE
 by_cases h1:L.length=0
 ·rw [if_pos (by omega),if_pos h1]
 rw [if_neg (by omega),if_neg h1]
 by_cases h2:8 < L.length
 ·rw [if_pos (by omega),if_pos h2]
 rw [if_neg (by omega),if_neg h2]
 by_cases h3:L.length=P.length
 ·rw [if_pos (by omega),if_pos h3]
  have:=lens_l0 n t w a x L P (by omega) (by omega) L.length k 0 (by omega) (by omega)
  rw [show ((0:Nat):Int)=0 from rfl] at this
  rw [this]
  rfl
 ·rw [if_neg (by omega),if_neg h3]
def prodE (before:List PR) (p:PR):Int:=if isNm p.f0=true then (if (fnd p.f0 before 0).2=true then 7 else if sizedB p.f1 p.f2 p.f3 p.f4=true then lensE p.f5 p.f6 else 9) else 6
def chkGo (l:List PR):Nat→Nat→Int
 | 0,_=>0
 | d+1,i=>if prodE (l.take i) (rd_T53 l (i:Int))=0 then chkGo l d (i+1) else prodE (l.take i) (rd_T53 l (i:Int))
def chkB (l:List PR):Int:=if 16 < l.length then 4 else chkGo l l.length 0
theorem chk_l0 (l:List PR) (hl:l.length≤16):∀ (d k i:Nat),i+d=l.length→d+40 < k→product_Check.l0 k l l (l.length:Int) (i:Int)=some (chkGo l d i):=by
 intro d
 induction d with
 | zero =>
  intro k i hi hk
  obtain ⟨k,rfl⟩:∃ m,k=m+1:=⟨k - 1,by omega⟩
  simp only [product_Check.l0]
  rw [if_neg (by omega)]
  rfl
 | succ d ih =>
  intro k i hi hk
  obtain ⟨k,rfl⟩:∃ m,k=m+1:=⟨k - 1,by omega⟩
  obtain ⟨q,rfl⟩:∃ q,k=20+q:=⟨k - 20,by omega⟩
  have h2:i < l.length:=by omega
  have e:wrap64 ((i:Int)+1)=((i+1:Nat):Int):=wrap_nat i 1000000 (by omega) (by omega)
  simp only [product_Check.l0]
  rw [if_pos (by omega),if_pos (by omega),if_pos (by omega),e,ih (20+q) (i+1) (by omega) (by omega),ident_at,Option.bind_some]
  rw [show ((i:Int)).toNat=i from rfl,find_f _ (l.take i) (by rw [List.length_take];omega) (20+q) (by rw [List.length_take];omega),sized_f _ _ _ _ _ _ _ (20+q) (by omega),lens_f _ _ _ _ _ _ _ (20+q) (by omega)]
  have hle:(i:Int)≤(l.length:Int):=by omega
  simp only [Option.bind_some,if_pos hle]
  rw [chkGo]
  unfold prodE
  generalize rd_T53 l (i:Int)=p
  cases isNm p.f0
  ·simp
  ·simp only [if_true]
   generalize (fnd p.f0 (l.take i) 0).2=b
   cases b
   ·simp only [Bool.false_eq_true,if_false]
    generalize sizedB p.f1 p.f2 p.f3 p.f4=b2
    cases b2
    ·simp
    ·simp only [if_true]
     by_cases h:lensE p.f5 p.f6=0
     ·rw [if_pos h,if_pos h]
     ·rw [if_neg h,if_neg h]
   ·simp
theorem chk_f (l:List PR) (k:Nat) (hk:60 < k):product_Check.f k l=some (chkB l):=by
 unfold product_Check.f chkB
 by_cases h:16 < l.length
 ·rw [if_pos (by omega),if_pos h]
 ·rw [if_neg (by omega),if_neg h]
  exact chk_l0 l (by omega) l.length k 0 (by omega) (by omega)
structure ProdOk (p:PR):Prop where
 nm:isNm p.f0=true
 sz:sizedB p.f1 p.f2 p.f3 p.f4=true
 ln:lensE p.f5 p.f6=0
theorem chkGo_ok (l:List PR):∀ (d i:Nat),i+d=l.length→chkGo l d i=0→∀ j,i≤j→(h:j < l.length)→ProdOk l[j]:=by
 intro d
 induction d with
 | zero=>intro i hi h0 j hij hj;omega
 | succ d ih =>
  intro i hi h0 j hij hj
  rw [chkGo] at h0
  by_cases hp:prodE (l.take i) (rd_T53 l (i:Int))=0
  ·rw [if_pos hp] at h0
   by_cases he:i=j
   ·subst he
    rw [rdP_get i hj] at hp
    unfold prodE at hp
    by_cases g1:isNm l[i].f0=true
    ·rw [if_pos g1] at hp
     by_cases g2:(fnd l[i].f0 (l.take i) 0).2=true
     ·rw [if_pos g2] at hp;omega
     ·rw [if_neg g2] at hp
      by_cases g3:sizedB l[i].f1 l[i].f2 l[i].f3 l[i].f4=true
      ·rw [if_pos g3] at hp
       exact ⟨g1,g3,hp⟩
      ·rw [if_neg g3] at hp;omega
    ·rw [if_neg g1] at hp;omega
   ·exact ih (i+1) (by omega) h0 j (by omega) hj
  ·rw [if_neg hp] at h0;exact absurd h0 hp
theorem chk_ok (l:List PR) (h:chkB l=0):l.length≤16∧∀ p ∈ l,ProdOk p:=by
 unfold chkB at h
 by_cases g:16 < l.length
 ·rw [if_pos g] at h;omega
 ·rw [if_neg g] at h
  refine ⟨by omega,fun p hp=>?_⟩
  obtain ⟨j,hj,rfl⟩:=List.getElem_of_mem hp
  exact chkGo_ok l l.length 0 (by omega) h j (by omega) hj
theorem lensGo_ok:∀ (L:List Int) (q:Option Int),lensGo q L=0→∀ n ∈ L,100≤n∧n≤20000:=by
 intro L
 induction L with
 | nil=>intro q h n hn;cases hn
 | cons x L ih =>
  intro q h n hn
  rw [lensGo] at h
  by_cases g:x < 100 ∨ 20000 < x
  ·rw [if_pos g] at h;omega
  ·rw [if_neg g] at h
   have hx:100≤x∧x≤20000:=by omega
   clear g
   rcases List.mem_cons.mp hn with rfl|hn
   ·exact hx
   ·split at h
    ·omega
    ·exact ih _ h n hn
theorem lensE_ok (L P:List Int) (h:lensE L P=0):0 < L.length∧L.length≤8∧L.length=P.length∧(∀ n ∈ L,100≤n∧n≤20000)∧P.all priceOk=true:=by
 unfold lensE at h
 by_cases h1:L.length=0
 ·rw [if_pos h1] at h;omega
 rw [if_neg h1] at h
 by_cases h2:8 < L.length
 ·rw [if_pos h2] at h;omega
 rw [if_neg h2] at h
 by_cases h3:L.length=P.length
 ·rw [if_pos h3] at h
  by_cases h4:lensGo none L=0
  ·rw [if_pos h4] at h
   unfold pricesE at h
   by_cases h5:P.all priceOk=true
   ·exact ⟨by omega,by omega,h3,lensGo_ok L none h4,h5⟩
   ·rw [if_neg h5] at h;omega
  ·rw [if_neg h4] at h;exact absurd h h4
 ·rw [if_neg h3] at h;omega
end Go.Proofs.YtojkjhaobjidlaaDoor.P
namespace Go.Proofs.YtojkjhaobjidlaaDoor.P
open Go.RowKit Go.Proofs.YtojkjhaobjidlaaDoorW.PrintWords Go.Proofs.YtojkjhaobjidlaaDoorW.PrintMore
set_option linter.unusedVariables false
set_option linter.unusedSimpArgs false
abbrev IT:=S35
abbrev TI:=S56
def prcGo (P:List Int) (n:Int):List Int→Nat→Int × Bool
 | [],_=>(0,false)
 | x :: l,i=>if x=n then (if P.length≤i then (0,false) else (rd P (i:Int),true)) else prcGo P n l (i+1)
theorem price_l0 (nm:ByteArray) (t w a x n:Int) (L P:List Int) (hL:L.length≤1000):∀ (d k i:Nat),i+d=L.length→d < k→product_Price.l0 k n L (L.length:Int) (i:Int) nm t w a x L P=some (prcGo P n (L.drop i) i):=by
 intro d
 induction d with
 | zero =>
  intro k i hi hk
  obtain ⟨k,rfl⟩:∃ m,k=m+1:=⟨k - 1,by omega⟩
  simp only [product_Price.l0]
  rw [if_neg (by omega),List.drop_of_length_le (by omega)]
  rfl
 | succ d ih =>
  intro k i hi hk
  obtain ⟨k,rfl⟩:∃ m,k=m+1:=⟨k - 1,by omega⟩
  have h2:i < L.length:=by omega
  simp only [product_Price.l0]
  rw [if_pos (by omega),if_pos (by omega),if_pos (by omega),wrap_nat i 1000000 (by omega) (by omega),ih k (i+1) (by omega) (by omega),rd_drop_ i h2,prcGo]
  by_cases h:rd L (i:Int)=n
  ·rw [if_pos h,if_pos h]
   by_cases g:P.length≤i
   ·rw [if_pos (by omega),if_pos g]
   ·rw [if_neg (by omega),if_neg g,if_pos (by omega)]
  ·rw [if_neg h,if_neg h]
theorem price_f (nm:ByteArray) (t w a x n:Int) (L P:List Int) (hL:L.length≤1000) (k:Nat) (hk:L.length < k):product_Price.f k nm t w a x L P n=some (prcGo P n L 0):=by
 unfold product_Price.f
 exact price_l0 nm t w a x n L P hL L.length k 0 (by omega) hk
theorem prcGo_mem (P:List Int) (n:Int):∀ (L:List Int) (i:Nat),(prcGo P n L i).2=true→n ∈ L:=by
 intro L
 induction L with
 | nil=>intro i h;simp [prcGo] at h
 | cons x L ih =>
  intro i h
  rw [prcGo] at h
  by_cases g:x=n
  ·subst g;exact List.mem_cons_self
  ·rw [if_neg g] at h
   exact List.mem_cons_of_mem _ (ih _ h)
theorem sized_nums {t w a x:Int} (h:sizedB t w a x=true):5≤t∧t≤300∧t≤w∧w≤600∧0≤a∧a≤200:=by
 unfold sizedB at h
 simp only [Bool.not_eq_true',Bool.or_eq_false_iff,decide_eq_false_iff_not] at h
 omega
theorem vol_le {t w n c:Int} (h1:5≤t) (h2:t≤300) (h3:t≤w) (h4:w≤600) (h5:100≤n) (h6:n≤20000) (h7:0≤c) (h8:c≤200):0≤t * w∧t * w≤180000∧0≤t * w * n∧t * w * n≤3600000000∧0≤t * w * n * c∧t * w * n * c≤720000000000:=by
 have a0:0≤t * w:=Int.mul_nonneg (by omega) (by omega)
 have a1:t * w≤300 * 600:=Int.mul_le_mul h2 h4 (by omega) (by omega)
 have b0:0≤t * w * n:=Int.mul_nonneg a0 (by omega)
 have b1:t * w * n≤180000 * 20000:=Int.mul_le_mul (by omega) h6 (by omega) (by omega)
 have c0:0≤t * w * n * c:=Int.mul_nonneg b0 h7
 have c1:t * w * n * c≤3600000000 * 200:=Int.mul_le_mul (by omega) h8 h7 (by omega)
 omega
def amountB (c:List PR) (x:IT):Int × Int :=
 if chkB c=0 then (if x.f0 < 0 ∨ (c.length:Int)≤x.f0 then (0,8) else
  if (prcGo (rd_T53 c x.f0).f6 x.f1 (rd_T53 c x.f0).f5 0).2=true then (if x.f2 < 0 ∨ 200 < x.f2 ∨ x.f3 < 0 ∨ 1000000000 < x.f3 then (0,9) else
   ((x.f3 * ((rd_T53 c x.f0).f1 * (rd_T53 c x.f0).f2 * x.f1 * x.f2)+500000000) / 1000000000,0)) else (0,20)) else (0,chkB c)
theorem rdP_mem {c:List PR} {i:Int} (h0:0≤i) (h1:i < (c.length:Int)):rd_T53 c i ∈ c:=by
 obtain ⟨n,rfl⟩:=Int.eq_ofNat_of_zero_le h0
 rw [rdP_get n (by omega)]
 exact List.getElem_mem _
theorem amount_f (c:List PR) (x:IT) (k:Nat) (hk:70 < k):bill_Amount.f k c x.f0 x.f1 x.f2 x.f3=some (amountB c x):=by
 obtain ⟨k,rfl⟩:∃ m,k=m+2:=⟨k - 2,by omega⟩
 unfold bill_Amount.f amountB
 rw [chk_f c _ (by omega),Option.bind_some]
 by_cases h0:chkB c=0
 case neg=>rw [if_neg h0,if_neg h0]
 rw [if_pos h0,if_pos h0]
 simp only [bill_Amount.j0,if_true,decide_eq_true_eq,ge_iff_le]
 by_cases h1:x.f0 < 0
 ·rw [if_pos h1,if_pos (by omega)]
 rw [if_neg h1]
 by_cases h2:(c.length:Int)≤x.f0
 ·rw [if_pos h2,if_pos (by omega)]
 rw [if_neg h2,if_neg (show ¬ (x.f0 < 0 ∨ (c.length:Int)≤x.f0) by omega),if_pos (by omega),if_pos (by omega)]
 have hp:=(chk_ok c h0).2 _ (rdP_mem (c:=c) (i:=x.f0) (by omega) (by omega))
 generalize rd_T53 c x.f0=p at hp ⊢
 obtain ⟨l1,l2,l3,l4,l5⟩:=lensE_ok p.f5 p.f6 hp.ln
 rw [price_f _ _ _ _ _ _ _ _ (by omega) _ (by omega),Option.bind_some]
 by_cases h3:(prcGo p.f6 x.f1 p.f5 0).2=true
 case neg=>rw [if_neg h3,if_neg h3]
 rw [if_pos h3,if_pos h3]
 have hx:=l4 _ (prcGo_mem _ _ _ _ h3)
 simp only [bill_Amount.j1,if_true,decide_eq_true_eq,gt_iff_lt]
 by_cases h4:x.f2 < 0
 ·rw [if_pos h4,if_pos (by omega)]
 rw [if_neg h4]
 by_cases h5:200 < x.f2
 ·rw [if_pos h5,if_pos (by omega)]
 rw [if_neg h5]
 by_cases h6:x.f3 < 0
 ·rw [if_pos h6,if_pos (by omega)]
 rw [if_neg h6]
 by_cases h7:1000000000 < x.f3
 ·rw [if_pos h7,if_pos (by omega)]
 rw [if_neg h7,if_neg (by omega)]
 obtain ⟨s1,s2,s3,s4,s5,s6⟩:=sized_nums hp.sz
 obtain ⟨v1,v2,v3,v4,v5,v6⟩:=vol_le s1 s2 s3 s4 hx.1 hx.2 (show 0≤x.f2 by omega) (show x.f2≤200 by omega)
 unfold product_Volume.f mn mx
 rw [if_neg (by split<;>split<;>omega),if_neg (by split<;>omega),if_neg (by omega),Option.bind_some]
 have e1:wrap64 (p.f1 * p.f2)=p.f1 * p.f2:=by generalize p.f1 * p.f2=m at v1 v2 ⊢;unfold wrap64;omega
 have e2:wrap64 (p.f1 * p.f2 * x.f1)=p.f1 * p.f2 * x.f1:=by generalize p.f1 * p.f2 * x.f1=m at v3 v4 ⊢;unfold wrap64;omega
 rw [e1,e2]
 generalize p.f1 * p.f2 * x.f1 * x.f2=m at v5 v6 ⊢
 have e3:wrap64 m=m:=by unfold wrap64;omega
 have e4:IntKind.u64.wrap m=m:=by rw [IntKind.wrap_u64];omega
 have e5:IntKind.u64.wrap x.f3=x.f3:=by rw [IntKind.wrap_u64];omega
 rw [e3,e4,e5]
 unfold bill_nearest.f
 rw [if_pos (by omega),if_pos (by omega),if_pos (by omega),if_pos (by omega),if_pos rfl]
 rfl
theorem amount_ok (c:List PR) (x:IT) (h:(amountB c x).2=0):chkB c=0∧0≤x.f0∧x.f0 < (c.length:Int)∧100≤x.f1∧x.f1≤20000∧0≤x.f2∧x.f2≤200∧0≤x.f3∧x.f3≤1000000000∧x.f1 ∈ (rd_T53 c x.f0).f5∧ProdOk (rd_T53 c x.f0) ∧
  (amountB c x).1=(x.f3 * ((rd_T53 c x.f0).f1 * (rd_T53 c x.f0).f2 * x.f1 * x.f2)+500000000) / 1000000000∧0≤(amountB c x).1∧(amountB c x).1≤720000000001:=by
 unfold amountB at h ⊢
 by_cases h0:chkB c=0
 case neg=>rw [if_neg h0] at h;exact absurd h h0
 rw [if_pos h0] at h ⊢
 by_cases h1:x.f0 < 0 ∨ (c.length:Int)≤x.f0
 ·rw [if_pos h1] at h;exact absurd h (by decide)
 rw [if_neg h1] at h ⊢
 have hp:=(chk_ok c h0).2 _ (rdP_mem (c:=c) (i:=x.f0) (by omega) (by omega))
 obtain ⟨l1,l2,l3,l4,l5⟩:=lensE_ok _ _ hp.ln
 by_cases h3:(prcGo (rd_T53 c x.f0).f6 x.f1 (rd_T53 c x.f0).f5 0).2=true
 case neg=>rw [if_neg h3] at h;exact absurd h (by decide)
 rw [if_pos h3] at h ⊢
 have hm:=prcGo_mem _ _ _ _ h3
 have hx:=l4 _ hm
 by_cases h4:x.f2 < 0 ∨ 200 < x.f2 ∨ x.f3 < 0 ∨ 1000000000 < x.f3
 ·rw [if_pos h4] at h;exact absurd h (by decide)
 rw [if_neg h4]
 obtain ⟨s1,s2,s3,s4,s5,s6⟩:=sized_nums hp.sz
 obtain ⟨v1,v2,v3,v4,v5,v6⟩:=vol_le s1 s2 s3 s4 hx.1 hx.2 (show 0≤x.f2 by omega) (show x.f2≤200 by omega)
 refine ⟨h0,by omega,by omega,hx.1,hx.2,by omega,by omega,by omega,by omega,hm,hp,rfl,?_⟩
 generalize (rd_T53 c x.f0).f1 * (rd_T53 c x.f0).f2 * x.f1 * x.f2=m at v5 v6 ⊢
 have a0:0≤x.f3 * m:=Int.mul_nonneg (by omega) (by omega)
 have a1:x.f3 * m≤1000000000 * 720000000000:=Int.mul_le_mul (by omega) v6 v5 (by omega)
 generalize x.f3 * m=q at a0 a1 ⊢
 show 0≤(q+500000000) / 1000000000∧(q+500000000) / 1000000000≤720000000001
 omega
theorem amount_err (c:List PR) (x:IT) (h:(amountB c x).2 ≠ 0):(amountB c x).1=0:=by
 unfold amountB at h ⊢
 split
 ·rename_i h0
  rw [if_pos h0] at h
  split
  ·rfl
  ·rename_i h1
   rw [if_neg h1] at h
   split
   ·rename_i h2
    rw [if_pos h2] at h
    split
    ·rfl
    ·rename_i h3
     rw [if_neg h3] at h
     exact absurd rfl h
   ·rfl
 ·rfl
def discGo (total:Int):Int→Int→List TI→Int × Int
 | _,off,[]=>if total < 0 then (0,9) else if 1000000000000000 < total then (0,9) else (total * off / 1000,0)
 | b,off,t :: l=>if t.f0≤b then (0,11) else if 1000000000000000 < t.f0 ∨ t.f1 < 0 ∨ 1000 < t.f1 then (0,9) else discGo total t.f0 (if t.f0≤total then t.f1 else off) l
def discB (l:List TI) (total:Int):Int × Int:=if 8 < l.length then (0,4) else discGo total (-1) 0 l
theorem rdT_drop {l:List TI} (i:Nat) (h:i < l.length):l.drop i=rd_T56 l (i:Int) :: l.drop (i+1):=by
 rw [List.drop_eq_getElem_cons h]
 unfold rd_T56
 rw [List.getD_eq_getElem?_getD,List.getElem?_eq_getElem (by simpa using h)]
 simp
theorem rdI_get {l:List IT} (i:Nat) (h:i < l.length):rd_T35 l (i:Int)=l[i]:=by
 unfold rd_T35
 rw [List.getD_eq_getElem?_getD,List.getElem?_eq_getElem (by simpa using h)]
 simp
theorem rdI_drop {l:List IT} (i:Nat) (h:i < l.length):l.drop i=rd_T35 l (i:Int) :: l.drop (i+1):=by
 rw [List.drop_eq_getElem_cons h,rdI_get i h]
theorem disc_l0 (total:Int) (l:List TI) (hl:l.length≤1000):∀ (d k i:Nat) (b off:Int),i+d=l.length→2 * d < k→0≤off→off≤1000→bill_Discount.l0 k total b off l (l.length:Int) (i:Int)=some (discGo total b off (l.drop i)):=by
 intro d
 induction d with
 | zero =>
  intro k i b off hi hk h0 h1
  obtain ⟨k,rfl⟩:∃ m,k=m+1:=⟨k - 1,by omega⟩
  simp only [bill_Discount.l0]
  rw [if_neg (by omega),List.drop_of_length_le (by omega),discGo]
  by_cases g1:total < 0
  ·rw [if_pos g1,if_pos g1]
  rw [if_neg g1,if_neg g1]
  by_cases g2:1000000000000000 < total
  ·rw [if_pos g2,if_pos g2]
  rw [if_neg g2,if_neg g2]
  have a0:0≤total * off:=Int.mul_nonneg (by omega) h0
  have a1:total * off≤1000000000000000 * 1000:=Int.mul_le_mul (by omega) h1 h0 (by omega)
  generalize total * off=m at a0 a1 ⊢
  have e1:wrap64 m=m:=by unfold wrap64;omega
  rw [e1,Int.tdiv_eq_ediv_of_nonneg a0]
  have e2:wrap64 (m / 1000)=m / 1000:=by unfold wrap64;omega
  rw [e2]
 | succ d ih =>
  intro k i b off hi hk h0 h1
  obtain ⟨k,rfl⟩:∃ m,k=m+2:=⟨k - 2,by omega⟩
  have h2:i < l.length:=by omega
  have e:wrap64 ((i:Int)+1)=((i+1:Nat):Int):=wrap_nat i 1000000 (by omega) (by omega)
  simp only [bill_Discount.l0,bill_Discount.j1,if_true,decide_eq_true_eq,gt_iff_lt]
  rw [if_pos (by omega),if_pos (by omega),if_pos (by omega),e,rdT_drop i h2,discGo]
  generalize rd_T56 l (i:Int)=t
  by_cases g1:t.f0≤b
  ·rw [if_pos g1,if_pos g1]
  rw [if_neg g1,if_neg g1]
  by_cases g2:1000000000000000 < t.f0
  ·rw [if_pos g2,if_pos (by omega)]
  rw [if_neg g2]
  by_cases g3:t.f1 < 0
  ·rw [if_pos g3,if_pos (by omega)]
  rw [if_neg g3]
  by_cases g4:1000 < t.f1
  ·rw [if_pos g4,if_pos (by omega)]
  rw [if_neg g4,if_neg (show ¬ (1000000000000000 < t.f0 ∨ t.f1 < 0 ∨ 1000 < t.f1) by omega)]
  by_cases g5:t.f0≤total
  ·rw [if_pos g5,if_pos g5,ih k (i+1) _ _ (by omega) (by omega) (by omega) (by omega)]
  ·rw [if_neg g5,if_neg g5,ih k (i+1) _ _ (by omega) (by omega) (by omega) (by omega)]
theorem disc_f (l:List TI) (total:Int) (k:Nat) (hk:20 < k):bill_Discount.f k l total=some (discB l total):=by
 unfold bill_Discount.f discB
 by_cases h:8 < l.length
 ·rw [if_pos (by omega),if_pos h]
 ·rw [if_neg (by omega),if_neg h]
  exact disc_l0 total l (by omega) l.length k 0 (-1) 0 (by omega) (by omega) (by omega) (by omega)
theorem discGo_ok (total:Int):∀ (l:List TI) (b off:Int),0≤off→off≤1000→(discGo total b off l).2=0→0≤total∧total≤1000000000000000∧∃ o,0≤o∧o≤1000∧(discGo total b off l).1=total * o / 1000:=by
 intro l
 induction l with
 | nil =>
  intro b off h0 h1 h
  rw [discGo] at h ⊢
  by_cases g1:total < 0
  ·rw [if_pos g1] at h;exact absurd h (by decide)
  rw [if_neg g1] at h ⊢
  by_cases g2:1000000000000000 < total
  ·rw [if_pos g2] at h;exact absurd h (by decide)
  rw [if_neg g2]
  exact ⟨by omega,by omega,off,h0,h1,rfl⟩
 | cons t l ih =>
  intro b off h0 h1 h
  rw [discGo] at h ⊢
  by_cases g1:t.f0≤b
  ·rw [if_pos g1] at h;exact absurd h (by decide)
  rw [if_neg g1] at h ⊢
  by_cases g2:1000000000000000 < t.f0 ∨ t.f1 < 0 ∨ 1000 < t.f1
  ·rw [if_pos g2] at h;exact absurd h (by decide)
  rw [if_neg g2] at h ⊢
  exact ih _ _ (by split<;>omega) (by split<;>omega) h
theorem disc_ok (l:List TI) (total:Int) (h:(discB l total).2=0):l.length≤8∧0≤total∧total≤1000000000000000∧0≤(discB l total).1∧(discB l total).1≤total:=by
 unfold discB at h ⊢
 by_cases g:8 < l.length
 ·rw [if_pos g] at h;exact absurd h (by decide)
 rw [if_neg g] at h ⊢
 obtain ⟨h1,h2,o,h3,h4,h5⟩:=discGo_ok total l (-1) 0 (by omega) (by omega) h
 rw [h5]
 have a0:0≤total * o:=Int.mul_nonneg h1 h3
 have a1:total * o≤total * 1000:=Int.mul_le_mul_of_nonneg_left h4 h1
 generalize total * o=m at a0 a1 ⊢
 omega
def invGo (c:List PR) (t:List TI):List Int→Int→List IT→List Int × Int × Int × Int
 | acc,n,[]=>if (discB t n).2=0 then (acc,(discB t n).1,n - (discB t n).1,0) else ([],0,0,(discB t n).2)
 | acc,n,x :: l=>if (amountB c x).2=0 then invGo c t (acc++[(amountB c x).1]) (n+(amountB c x).1) l else ([],0,0,(amountB c x).2)
def invB (c:List PR) (l:List IT) (t:List TI):List Int × Int × Int × Int:=if 32 < l.length then ([],0,0,4) else invGo c t [] 0 l
theorem inv_l0 (c:List PR) (t:List TI) (l:List IT) (hl:l.length≤1000):∀ (d k i:Nat) (acc:List Int) (n:Int),i+d=l.length→d+80 < k→acc.length=i→0≤n→n≤800000000000 * (i:Int)→bill_invoice.l0 k c t acc n l (l.length:Int) (i:Int)=some (invGo c t acc n (l.drop i)):=by
 intro d
 induction d with
 | zero =>
  intro k i acc n hi hk ha h0 h1
  obtain ⟨k,rfl⟩:∃ m,k=m+1:=⟨k - 1,by omega⟩
  simp only [bill_invoice.l0]
  rw [if_neg (by omega),List.drop_of_length_le (by omega),disc_f t n k (by omega),Option.bind_some,invGo]
  by_cases h:(discB t n).2=0
  ·rw [if_pos h,if_pos h]
   obtain ⟨-,-,-,h2,h3⟩:=disc_ok t n h
   have e:wrap64 (n - (discB t n).1)=n - (discB t n).1:=by
    generalize (discB t n).1=m at h2 h3 ⊢
    unfold wrap64
    omega
   rw [e]
  ·rw [if_neg h,if_neg h]
 | succ d ih =>
  intro k i acc n hi hk ha h0 h1
  obtain ⟨k,rfl⟩:∃ m,k=m+1:=⟨k - 1,by omega⟩
  have h2:i < l.length:=by omega
  have e:wrap64 ((i:Int)+1)=((i+1:Nat):Int):=wrap_nat i 1000000 (by omega) (by omega)
  simp only [bill_invoice.l0]
  rw [if_pos (by omega),if_pos (by omega),if_pos (by omega),e,amount_f c _ k (by omega),Option.bind_some,rdI_drop i h2,invGo]
  generalize rd_T35 l (i:Int)=x
  by_cases h:(amountB c x).2=0
  ·have hb:=(amount_ok c x h).2.2.2.2.2.2.2.2.2.2.2.2
   have e2:wrap64 (n+(amountB c x).1)=n+(amountB c x).1:=by
    generalize (amountB c x).1=m at hb ⊢
    unfold wrap64
    omega
   rw [if_pos h,if_pos h,if_pos (by omega),e2,ih k (i+1) _ _ (by omega) (by omega) (by rw [List.length_append,ha];rfl) (by omega) (by omega)]
  ·rw [if_neg h,if_neg h]
theorem inv_f (c:List PR) (l:List IT) (t:List TI) (k:Nat) (hk:120 < k):bill_invoice.f k c l t=some (invB c l t):=by
 unfold bill_invoice.f invB
 by_cases h:32 < l.length
 ·rw [if_pos (by omega),if_pos h]
 ·rw [if_neg (by omega),if_neg h]
  exact inv_l0 c t l (by omega) l.length k 0 [] 0 (by omega) (by omega) rfl (by omega) (by omega)
theorem total_f (c:List PR) (l:List IT) (t:List TI) (k:Nat) (hk:120 < k):bill_Total.f k c l t=some ((invB c l t).2.2.1,(invB c l t).2.2.2):=by
 unfold bill_Total.f
 rw [inv_f c l t k hk]
 rfl
def sumB (c:List PR) (l:List IT):Int:=(l.map fun x=>(amountB c x).1).sum
theorem invGo_ok (c:List PR) (t:List TI):∀ (l:List IT) (acc:List Int) (n:Int),(invGo c t acc n l).2.2.2=0→(∀ x ∈ l,(amountB c x).2=0)∧(discB t (n+sumB c l)).2=0∧invGo c t acc n l=(acc++l.map (fun x=>(amountB c x).1),(discB t (n+sumB c l)).1,n+sumB c l - (discB t (n+sumB c l)).1,0):=by
 intro l
 induction l with
 | nil =>
  intro acc n h
  rw [invGo] at h ⊢
  have e:n+sumB c []=n:=by simp [sumB]
  rw [e]
  by_cases g:(discB t n).2=0
  ·rw [if_pos g]
   exact ⟨fun x hx=>(by cases hx),g,by simp⟩
  ·rw [if_neg g] at h;exact absurd h g
 | cons x l ih =>
  intro acc n h
  rw [invGo] at h ⊢
  by_cases g:(amountB c x).2=0
  ·rw [if_pos g] at h ⊢
   obtain ⟨h1,h2,h3⟩:=ih _ _ h
   have e:n+(amountB c x).1+sumB c l=n+sumB c (x :: l):=by
    simp only [sumB,List.map_cons,List.sum_cons]
    omega
   rw [e] at h2 h3
   refine ⟨fun y hy=>?_,h2,?_⟩
   ·rcases List.mem_cons.mp hy with rfl|hy
    ·exact g
    ·exact h1 y hy
   ·rw [h3];simp
  ·rw [if_neg g] at h;exact absurd h g
theorem inv_ok (c:List PR) (l:List IT) (t:List TI) (h:(invB c l t).2.2.2=0):l.length≤32∧(∀ x ∈ l,(amountB c x).2=0)∧(discB t (sumB c l)).2=0∧invB c l t=(l.map (fun x=>(amountB c x).1),(discB t (sumB c l)).1,sumB c l - (discB t (sumB c l)).1,0):=by
 unfold invB at h ⊢
 by_cases g:32 < l.length
 ·rw [if_pos g] at h;exact absurd h (by decide)
 rw [if_neg g] at h ⊢
 have:=invGo_ok c t l [] 0 h
 simp only [Int.zero_add,List.nil_append] at this
 exact ⟨by omega,this⟩
theorem invGo_err (c:List PR) (t:List TI):∀ (l:List IT) (acc:List Int) (n:Int),(invGo c t acc n l).2.2.2 ≠ 0→(invGo c t acc n l).2.2.1=0:=by
 intro l
 induction l with
 | nil =>
  intro acc n h
  rw [invGo] at h ⊢
  by_cases g:(discB t n).2=0
  ·rw [if_pos g] at h;exact absurd rfl h
  ·rw [if_neg g]
 | cons x l ih =>
  intro acc n h
  rw [invGo] at h ⊢
  by_cases g:(amountB c x).2=0
  ·rw [if_pos g] at h ⊢;exact ih _ _ h
  ·rw [if_neg g]
end Go.Proofs.YtojkjhaobjidlaaDoor.P
namespace Go.Proofs.YtojkjhaobjidlaaDoor.P
open Go.RowKit Go.Proofs.YtojkjhaobjidlaaDoorW.PrintWords Go.Proofs.YtojkjhaobjidlaaDoorW.PrintLast Go.Proofs.YtojkjhaobjidlaaDoorW.PrintMore
attribute [local go_sem] max2_int min2_int max_two min_two max_three min_three max_four min_four
attribute [local go_sem] cell_twice
set_option linter.unusedVariables false
set_option linter.unusedSimpArgs false
mutual
def sawmilllaw50_small.j0:Nat→Bool→List (S53)→List (S35)→List (S56)→Option (Bool)
 | 0,_,_,_,_=>none
 | k+1,x19,x102000,x102001,x102002=>if x19=true then (some false) else (sawmilllaw50_small.l0 k 0 x102000 x102001 x102002)
def sawmilllaw50_small.l0:Nat→Int→List (S53)→List (S35)→List (S56)→Option (Bool)
 | 0,_,_,_,_=>none
 | k+1,x3,x102000,x102001,x102002=>if x3 < (x102000.length:Int) then (if 0≤x3 then (if (((rd_T53 x102000 x3).f0).size:Int) > 100 then (some false) else (if (((rd_T53 x102000 x3).f5).length:Int) > 12 then (some false) else (if (((rd_T53 x102000 x3).f6).length:Int) > 12 then (some false) else (sawmilllaw50_small.l0 k (wrap64 (x3+1)) x102000 x102001 x102002)))) else (none)) else (some true)
end
def sawmilllaw50_small.f (k:Nat) (l0_0:List (S53)) (l0_1:List (S35)) (l0_2:List (S56)):Option (Bool):=if (l0_0.length:Int) > 20 then (sawmilllaw50_small.j0 k true l0_0 l0_1 l0_2) else (if (l0_1.length:Int) > 100 then (sawmilllaw50_small.j0 k true l0_0 l0_1 l0_2) else (sawmilllaw50_small.j0 k (decide ((l0_2.length:Int) > 30)) l0_0 l0_1 l0_2))
theorem sawmilllaw50_small.mono_l:∀ k,(∀ y0 y1 y2 y3,LeO (sawmilllaw50_small.j0 k y0 y1 y2 y3) (sawmilllaw50_small.j0 (k+1) y0 y1 y2 y3))∧(∀ y0 y1 y2 y3,LeO (sawmilllaw50_small.l0 k y0 y1 y2 y3) (sawmilllaw50_small.l0 (k+1) y0 y1 y2 y3))
 | 0=>⟨fun _ _ _ _ r h=>by simp [sawmilllaw50_small.j0] at h,fun _ _ _ _ r h=>by simp [sawmilllaw50_small.l0] at h⟩
 | k+1=>by
  obtain ⟨ih0,ih1⟩:=sawmilllaw50_small.mono_l k
  refine ⟨?_,?_⟩
  ·intro y0 y1 y2 y3
   unfold sawmilllaw50_small.j0
   repeat' first
   | (with_reducible exact ih0 _ _ _ _)
   | (with_reducible exact ih1 _ _ _ _)
   | (with_reducible exact LeO.refl _)
   | (with_reducible exact LeO.none _)
   | (with_reducible refine LeO.ite ?_ ?_)
   | (with_reducible refine LeO.bind ?_ (fun _=>?_))
   | exact ih0 _ _ _ _
   | exact ih1 _ _ _ _
   | exact LeO.none _
   | refine LeO.ite ?_ ?_
   | refine LeO.bind ?_ (fun _=>?_)
  ·intro y0 y1 y2 y3
   unfold sawmilllaw50_small.l0
   repeat' first
   | (with_reducible exact ih0 _ _ _ _)
   | (with_reducible exact ih1 _ _ _ _)
   | (with_reducible exact LeO.refl _)
   | (with_reducible exact LeO.none _)
   | (with_reducible refine LeO.ite ?_ ?_)
   | (with_reducible refine LeO.bind ?_ (fun _=>?_))
   | exact ih0 _ _ _ _
   | exact ih1 _ _ _ _
   | exact LeO.none _
   | refine LeO.ite ?_ ?_
   | refine LeO.bind ?_ (fun _=>?_)
theorem sawmilllaw50_small.mono:∀ a0 a1 a2 k,LeO (sawmilllaw50_small.f k a0 a1 a2) (sawmilllaw50_small.f (k+1) a0 a1 a2):=by
 intro a0 a1 a2 k
 obtain ⟨ih0,ih1⟩:=sawmilllaw50_small.mono_l k
 unfold sawmilllaw50_small.f
 repeat' first
   | (with_reducible exact ih0 _ _ _ _)
   | (with_reducible exact ih1 _ _ _ _)
   | (with_reducible exact LeO.refl _)
   | (with_reducible exact LeO.none _)
   | (with_reducible refine LeO.ite ?_ ?_)
   | (with_reducible refine LeO.bind ?_ (fun _=>?_))
   | exact ih0 _ _ _ _
   | exact ih1 _ _ _ _
   | exact LeO.none _
   | refine LeO.ite ?_ ?_
   | refine LeO.bind ?_ (fun _=>?_)
set_option maxHeartbeats 8000000 in
set_option maxRecDepth 100000 in
theorem sawmilllaw50_small.calls (k:Nat) (A0_0:Option Addr) (c0_0:Nat) (l0_0:List (S53)) (A0_1:Option Addr) (c0_1:Nat) (l0_1:List (S35)) (A0_2:Option Addr) (c0_2:Nat) (l0_2:List (S56)) (r:Bool) (w:World) (hr0_0:Kd.C k53 w A0_0 l0_0.length l0_0) (hc0_0:l0_0.length≤c0_0) (hr0_1:Kd.C k35 w A0_1 l0_1.length l0_1) (hc0_1:l0_1.length≤c0_1) (hr0_2:Kd.C k56 w A0_2 l0_2.length l0_2) (hc0_2:l0_2.length≤c0_2) (h:sawmilllaw50_small.f k l0_0 l0_1 l0_2=some r) :
  Calls Tryd.prog 10 #[.agg #[.slice A0_0 l0_0.length c0_0,.slice A0_1 l0_1.length c0_1,.slice A0_2 l0_2.length c0_2]] w fun e w'=>e=.returned (.bool r)∧Below w.heap.size w w':=by
 have hu26:=Tryd.underlying26
 have HR0_0:=Aside0.mk hr0_0
 have HC0_0:=Aside0.mk hc0_0
 clear hr0_0 hc0_0
 have HR0_1:=Aside0.mk hr0_1
 have HC0_1:=Aside0.mk hc0_1
 clear hr0_1 hc0_1
 have HR0_2:=Aside0.mk hr0_2
 have HC0_2:=Aside0.mk hc0_2
 clear hr0_2 hc0_2
 have HB:=Aside0.mk (Below.refl w.heap.size w)
 have H:(if (l0_0.length:Int) > 20 then (sawmilllaw50_small.j0 k true l0_0 l0_1 l0_2) else (if (l0_1.length:Int) > 100 then (sawmilllaw50_small.j0 k true l0_0 l0_1 l0_2) else (sawmilllaw50_small.j0 k (decide ((l0_2.length:Int) > 30)) l0_0 l0_1 l0_2)))=some r:=h
 clear h
 have HC2:=Aside0.mk H
 clear H
 go_enter Tryd.func10,Tryd.ntmps10
 go_upto_region 1 with (first|((with_reducible refine gate_dst (N:=1) rfl ?_);(try (refine gate_guard (by rfl) ?_;dsimp only));refine box_event ?hg (N:=1) ?hd (cs:=#[.slice A0_0 l0_0.length c0_0,.slice A0_1 l0_1.length c0_1,.slice A0_2 l0_2.length c0_2]) (t:=26) ?hr ?_;(case hd=>rfl);(case hg=>rfl);(case hr=>first|(go_simp;done)|(go_simp;rfl));intro gb101 hg w3 hbox hb;have n0_:=Aside0.mk (below_step (by repeat (first|(with_reducible first|exact HB.out|apply below_alloc|apply pw_below_drewN|apply below_drew1)|exact HB.out)) hb);have n1_:=Aside0.mk (hbox);have n2_:=Aside0.mk ((by rw [hg];exact (below_size (by repeat (first|(with_reducible first|exact HB.out|apply below_alloc|apply pw_below_drewN|apply below_drew1)|exact HB.out))):w.heap.size≤gb101));have n3_:=Aside0.mk ((by rw [hg];exact (below_size (by repeat (first|(with_reducible first|exact HB.out|apply below_alloc|apply pw_below_drewN|apply below_drew1)|exact HB.out))):w.heap.size≤gb101));clear HB;have HB:=n0_;have BK101:=n1_;have GW101:=n2_;have GE101:=n3_;clear n0_ n1_ n2_ n3_;clear hb hbox hg))
 (try simp only [Act.put,List.setIfInBounds_toArray,List.set_cons_zero,List.set_cons_succ])
 go_cut [19] (fun v19 wc=>∃ (kq:Nat) (x19_1:Bool),v19=.bool x19_1∧Aside0 (sawmilllaw50_small.j0 kq x19_1 l0_0 l0_1 l0_2=some r)∧Aside0 (kq≤k)∧Aside0 (wc.heap[gb101]?=some (.cells #[(.slice A0_0 l0_0.length c0_0),(.slice A0_1 l0_1.length c0_1),(.slice A0_2 l0_2.length c0_2)] 26 (0,0)))∧Aside0 (Below w.heap.size w wc))
 case first =>
  have H:=HC2.out
  clear HC2
  by_cases c4:(l0_0.length:Int) > 20
  ·rw [if_pos c4] at H
   have c4b0:decide (20 < (l0_0.length:Int))=true:=decide_eq_true c4
   have c4b1:decide (20 < l0_0.length)=true:=decide_eq_true (by omega)
   clear c4
   (first|rw [c4b0]|(simp only [i64_w,i32_w];rw [c4b0])|skip)
   have H':=Aside0.mk H
   clear H
   have hcz5_0:w3.cell? ⟨gb101,0,none⟩=some (.slice A0_0 l0_0.length c0_0):=(blk_cell BK101.out 0).trans rfl
   have hcz5_1:w3.cell? ⟨gb101,1,none⟩=some (.slice A0_1 l0_1.length c0_1):=(blk_cell BK101.out 1).trans rfl
   have hcz5_2:w3.cell? ⟨gb101,2,none⟩=some (.slice A0_2 l0_2.length c0_2):=(blk_cell BK101.out 2).trans rfl
   have hfz5_0:=blk_frozen BK101.out 0
   have hfz5_1:=blk_frozen BK101.out 1
   have hfz5_2:=blk_frozen BK101.out 2
   go_wp2
   go_meet
   case rel=>exact ⟨_,(true),(by first|rfl|(simp;done)|(simp [*];done)),H',⟨by first|omega|exact Nat.le_refl _⟩,⟨by (with_reducible repeat (first|refine blk_drewN ?_ _|refine blk_drew ?_|refine blk_alloc ?_ _));exact BK101.out⟩,⟨by repeat (first|(with_reducible first|exact HB.out|apply below_alloc|apply pw_below_drewN|apply below_drew1|refine below_set ?_ GE101.out)|exact HB.out)⟩⟩
  ·rw [if_neg c4] at H
   have c4b0:decide (20 < (l0_0.length:Int))=false:=decide_eq_false c4
   have c4b1:decide (20 < l0_0.length)=false:=decide_eq_false (by omega)
   clear c4
   (first|rw [c4b0]|(simp only [i64_w,i32_w];rw [c4b0])|skip)
   by_cases c6:(l0_1.length:Int) > 100
   ·rw [if_pos c6] at H
    have c6b0:decide (100 < (l0_1.length:Int))=true:=decide_eq_true c6
    have c6b1:decide (100 < l0_1.length)=true:=decide_eq_true (by omega)
    clear c6
    have H':=Aside0.mk H
    clear H
    have hcz7_0:w3.cell? ⟨gb101,0,none⟩=some (.slice A0_0 l0_0.length c0_0):=(blk_cell BK101.out 0).trans rfl
    have hcz7_1:w3.cell? ⟨gb101,1,none⟩=some (.slice A0_1 l0_1.length c0_1):=(blk_cell BK101.out 1).trans rfl
    have hcz7_2:w3.cell? ⟨gb101,2,none⟩=some (.slice A0_2 l0_2.length c0_2):=(blk_cell BK101.out 2).trans rfl
    have hfz7_0:=blk_frozen BK101.out 0
    have hfz7_1:=blk_frozen BK101.out 1
    have hfz7_2:=blk_frozen BK101.out 2
    go_wp2
    go_meet
    case rel=>exact ⟨_,(true),(by first|rfl|(simp;done)|(simp [*];done)),H',⟨by first|omega|exact Nat.le_refl _⟩,⟨by (with_reducible repeat (first|refine blk_drewN ?_ _|refine blk_drew ?_|refine blk_alloc ?_ _));exact BK101.out⟩,⟨by repeat (first|(with_reducible first|exact HB.out|apply below_alloc|apply pw_below_drewN|apply below_drew1|refine below_set ?_ GE101.out)|exact HB.out)⟩⟩
   ·rw [if_neg c6] at H
    have c6b0:decide (100 < (l0_1.length:Int))=false:=decide_eq_false c6
    have c6b1:decide (100 < l0_1.length)=false:=decide_eq_false (by omega)
    clear c6
    have H':=Aside0.mk H
    clear H
    have hcz8_0:w3.cell? ⟨gb101,0,none⟩=some (.slice A0_0 l0_0.length c0_0):=(blk_cell BK101.out 0).trans rfl
    have hcz8_1:w3.cell? ⟨gb101,1,none⟩=some (.slice A0_1 l0_1.length c0_1):=(blk_cell BK101.out 1).trans rfl
    have hcz8_2:w3.cell? ⟨gb101,2,none⟩=some (.slice A0_2 l0_2.length c0_2):=(blk_cell BK101.out 2).trans rfl
    have hfz8_0:=blk_frozen BK101.out 0
    have hfz8_1:=blk_frozen BK101.out 1
    have hfz8_2:=blk_frozen BK101.out 2
    go_wp2
    go_meet
    case rel=>exact ⟨_,(decide ((l0_2.length:Int) > 30)),(by first|rfl|(simp;done)|(simp [*];done)),H',⟨by first|omega|exact Nat.le_refl _⟩,⟨by (with_reducible repeat (first|refine blk_drewN ?_ _|refine blk_drew ?_|refine blk_alloc ?_ _));exact BK101.out⟩,⟨by repeat (first|(with_reducible first|exact HB.out|apply below_alloc|apply pw_below_drewN|apply below_drew1|refine below_set ?_ GE101.out)|exact HB.out)⟩⟩
 case rest =>
  clear HC2
  try clear c1
  try clear p2
  try clear c4
  try clear c4b0
  try clear c4b1
  try clear c6
  try clear c6b0
  try clear c6b1
  try clear hcz5_0
  try clear hcz5_1
  try clear hcz5_2
  try clear hcz7_0
  try clear hcz7_1
  try clear hcz7_2
  try clear hcz8_0
  try clear hcz8_1
  try clear hcz8_2
  try clear hfz5_0
  try clear hfz5_1
  try clear hfz5_2
  try clear hfz7_0
  try clear hfz7_1
  try clear hfz7_2
  try clear hfz8_0
  try clear hfz8_1
  try clear hfz8_2
  obtain ⟨kq,x19_1,rfl,HA,HJ1,BK101,HB⟩:=hcut
  cases kq with
  | zero=>exact absurd HA.out (by simp [sawmilllaw50_small.j0])
  | succ kj1 =>
   have H:=HA.out
   clear HA
   simp only [sawmilllaw50_small.j0] at H
   by_cases c9:x19_1=true
   ·subst c9
    have H1:(some false)=some r:=by rw [if_pos rfl] at H;exact H
    clear H
    have H:=H1
    clear H1
    obtain rfl:=Option.some.inj H
    go_wp2
    go_ret
    exact ⟨by first|rfl|(simp [errW_none,errW_some]<;>rfl)|(simp [*,errW_none,errW_some]<;>rfl),by repeat (first|(with_reducible first|exact HB.out|apply below_alloc|apply pw_below_drewN|apply below_drew1|refine below_set ?_ GE101.out)|exact HB.out)⟩
   ·replace c9:=Bool.eq_false_iff.mpr c9
    subst c9
    have H1:(sawmilllaw50_small.l0 kj1 0 l0_0 l0_1 l0_2)=some r:=by rw [if_neg (show ¬ (false=true) by decide)] at H;exact H
    clear H
    have H:=H1
    clear H1
    have H':=Aside0.mk H
    clear H
    go_wp2
    go_loopg [3] kj1 (fun kq v3 w'=>∃ (x3_2:Int),v3=.int .i64 x3_2∧Aside0 (sawmilllaw50_small.l0 kq x3_2 l0_0 l0_1 l0_2=some r)∧Aside0 (kq≤kj1)∧Aside0 (w'.heap[gb101]?=some (.cells #[(.slice A0_0 l0_0.length c0_0),(.slice A0_1 l0_1.length c0_1),(.slice A0_2 l0_2.length c0_2)] 26 (0,0)))∧Aside0 (Below w.heap.size w w'))
    case atStart=>exact ⟨(0),(by first|rfl|(simp;done)|(simp [*];done)),H',⟨Nat.le_refl _⟩,⟨by (with_reducible repeat (first|refine blk_drewN ?_ _|refine blk_drew ?_|refine blk_alloc ?_ _));exact BK101.out⟩,⟨by repeat (first|(with_reducible first|exact HB.out|apply below_alloc|apply pw_below_drewN|apply below_drew1|refine below_set ?_ GE101.out)|exact HB.out)⟩⟩
    case round =>
     clear H'
     try clear c1
     try clear p2
     try clear c4
     try clear c4b0
     try clear c4b1
     try clear c6
     try clear c6b0
     try clear c6b1
     try clear c9
     try clear hcz5_0
     try clear hcz5_1
     try clear hcz5_2
     try clear hcz7_0
     try clear hcz7_1
     try clear hcz7_2
     try clear hcz8_0
     try clear hcz8_1
     try clear hcz8_2
     try clear hfz5_0
     try clear hfz5_1
     try clear hfz5_2
     try clear hfz7_0
     try clear hfz7_1
     try clear hfz7_2
     try clear hfz8_0
     try clear hfz8_1
     try clear hfz8_2
     try clear p2
     obtain ⟨x3_2,rfl,HA,HK2,BK101,HB⟩:=hrel
     cases gk with
     | zero=>exact absurd HA.out (by simp [sawmilllaw50_small.l0])
     | succ k2 =>
      have H:=HA.out
      clear HA
      simp only [sawmilllaw50_small.l0] at H
      by_cases c10:x3_2 < (l0_0.length:Int)
      ·rw [if_pos c10] at H
       have c10b0:decide (x3_2 < (l0_0.length:Int))=true:=decide_eq_true c10
       clear c10
       by_cases c11:0≤x3_2
       ·rw [if_pos c11] at H
        have c11b0:decide (0≤x3_2)=true:=decide_eq_true c11
        clear c11
        by_cases c12:(((rd_T53 l0_0 x3_2).f0).size:Int) > 100
        ·rw [if_pos c12] at H
         have c12b0:decide (100 < (((rd_T53 l0_0 x3_2).f0).size:Int))=true:=decide_eq_true c12
         have c12b1:decide (100 < ((rd_T53 l0_0 x3_2).f0).size)=true:=decide_eq_true (by omega)
         clear c12
         obtain rfl:=Option.some.inj H
         have hcz13_0:wr.cell? ⟨gb101,0,none⟩=some (.slice A0_0 l0_0.length c0_0):=(blk_cell BK101.out 0).trans rfl
         have hcz13_1:wr.cell? ⟨gb101,1,none⟩=some (.slice A0_1 l0_1.length c0_1):=(blk_cell BK101.out 1).trans rfl
         have hcz13_2:wr.cell? ⟨gb101,2,none⟩=some (.slice A0_2 l0_2.length c0_2):=(blk_cell BK101.out 2).trans rfl
         have hfz13_0:=blk_frozen BK101.out 0
         have hfz13_1:=blk_frozen BK101.out 1
         have hfz13_2:=blk_frozen BK101.out 2
         have p102:0≤(x3_2:Int):=of_decide_eq_true (by first|(with_reducible assumption)|assumption)
         have q102:x3_2 < (l0_0.length:Int):=of_decide_eq_true (by first|(with_reducible assumption)|assumption)
         obtain ⟨ad102,A102_5,c102_5,A102_6,c102_6,e102,hx102_0,hx102_1,hx102_2,hx102_3,hx102_4,hx102_5,hx102_6,hl102_5,hi102_5,hl102_6,hi102_6⟩:=at_T53 HR0_0.out x3_2 p102 q102
         cases e102
         replace hx102_0:=(HB.out.cell (World.block_lt_of_cell? w _ hx102_0)).trans hx102_0
         replace hx102_1:=(HB.out.cell (World.block_lt_of_cell? w _ hx102_1)).trans hx102_1
         replace hx102_2:=(HB.out.cell (World.block_lt_of_cell? w _ hx102_2)).trans hx102_2
         replace hx102_3:=(HB.out.cell (World.block_lt_of_cell? w _ hx102_3)).trans hx102_3
         replace hx102_4:=(HB.out.cell (World.block_lt_of_cell? w _ hx102_4)).trans hx102_4
         replace hx102_5:=(HB.out.cell (World.block_lt_of_cell? w _ hx102_5)).trans hx102_5
         replace hx102_6:=(HB.out.cell (World.block_lt_of_cell? w _ hx102_6)).trans hx102_6
         have HR102_5:=Aside0.mk hi102_5
         have HC102_5:=Aside0.mk hl102_5
         clear hi102_5 hl102_5
         have HR102_6:=Aside0.mk hi102_6
         have HC102_6:=Aside0.mk hl102_6
         clear hi102_6 hl102_6
         replace p102:=eq_true p102
         replace q102:=eq_true q102
         go_wp2
         go_ret
         exact ⟨by first|rfl|(simp [errW_none,errW_some]<;>rfl)|(simp [*,errW_none,errW_some]<;>rfl),by repeat (first|(with_reducible first|exact HB.out|apply below_alloc|apply pw_below_drewN|apply below_drew1|refine below_set ?_ GE101.out)|exact HB.out)⟩
        ·rw [if_neg c12] at H
         have c12b0:decide (100 < (((rd_T53 l0_0 x3_2).f0).size:Int))=false:=decide_eq_false c12
         have c12b1:decide (100 < ((rd_T53 l0_0 x3_2).f0).size)=false:=decide_eq_false (by omega)
         clear c12
         by_cases c14:(((rd_T53 l0_0 x3_2).f5).length:Int) > 12
         ·rw [if_pos c14] at H
          have c14b0:decide (12 < (((rd_T53 l0_0 x3_2).f5).length:Int))=true:=decide_eq_true c14
          have c14b1:decide (12 < ((rd_T53 l0_0 x3_2).f5).length)=true:=decide_eq_true (by omega)
          clear c14
          obtain rfl:=Option.some.inj H
          have hcz15_0:wr.cell? ⟨gb101,0,none⟩=some (.slice A0_0 l0_0.length c0_0):=(blk_cell BK101.out 0).trans rfl
          have hcz15_1:wr.cell? ⟨gb101,1,none⟩=some (.slice A0_1 l0_1.length c0_1):=(blk_cell BK101.out 1).trans rfl
          have hcz15_2:wr.cell? ⟨gb101,2,none⟩=some (.slice A0_2 l0_2.length c0_2):=(blk_cell BK101.out 2).trans rfl
          have hfz15_0:=blk_frozen BK101.out 0
          have hfz15_1:=blk_frozen BK101.out 1
          have hfz15_2:=blk_frozen BK101.out 2
          have p102:0≤(x3_2:Int):=of_decide_eq_true (by first|(with_reducible assumption)|assumption)
          have q102:x3_2 < (l0_0.length:Int):=of_decide_eq_true (by first|(with_reducible assumption)|assumption)
          obtain ⟨ad102,A102_5,c102_5,A102_6,c102_6,e102,hx102_0,hx102_1,hx102_2,hx102_3,hx102_4,hx102_5,hx102_6,hl102_5,hi102_5,hl102_6,hi102_6⟩:=at_T53 HR0_0.out x3_2 p102 q102
          cases e102
          replace hx102_0:=(HB.out.cell (World.block_lt_of_cell? w _ hx102_0)).trans hx102_0
          replace hx102_1:=(HB.out.cell (World.block_lt_of_cell? w _ hx102_1)).trans hx102_1
          replace hx102_2:=(HB.out.cell (World.block_lt_of_cell? w _ hx102_2)).trans hx102_2
          replace hx102_3:=(HB.out.cell (World.block_lt_of_cell? w _ hx102_3)).trans hx102_3
          replace hx102_4:=(HB.out.cell (World.block_lt_of_cell? w _ hx102_4)).trans hx102_4
          replace hx102_5:=(HB.out.cell (World.block_lt_of_cell? w _ hx102_5)).trans hx102_5
          replace hx102_6:=(HB.out.cell (World.block_lt_of_cell? w _ hx102_6)).trans hx102_6
          have HR102_5:=Aside0.mk hi102_5
          have HC102_5:=Aside0.mk hl102_5
          clear hi102_5 hl102_5
          have HR102_6:=Aside0.mk hi102_6
          have HC102_6:=Aside0.mk hl102_6
          clear hi102_6 hl102_6
          replace p102:=eq_true p102
          replace q102:=eq_true q102
          have p103:0≤(x3_2:Int):=of_decide_eq_true (by first|(with_reducible assumption)|assumption)
          have q103:x3_2 < (l0_0.length:Int):=of_decide_eq_true (by first|(with_reducible assumption)|assumption)
          obtain ⟨ad103,A103_5,c103_5,A103_6,c103_6,e103,hx103_0,hx103_1,hx103_2,hx103_3,hx103_4,hx103_5,hx103_6,hl103_5,hi103_5,hl103_6,hi103_6⟩:=at_T53 HR0_0.out x3_2 p103 q103
          obtain rfl:ad102=ad103:=(by injection e103)
          replace hx103_0:=(HB.out.cell (World.block_lt_of_cell? w _ hx103_0)).trans hx103_0
          replace hx103_1:=(HB.out.cell (World.block_lt_of_cell? w _ hx103_1)).trans hx103_1
          replace hx103_2:=(HB.out.cell (World.block_lt_of_cell? w _ hx103_2)).trans hx103_2
          replace hx103_3:=(HB.out.cell (World.block_lt_of_cell? w _ hx103_3)).trans hx103_3
          replace hx103_4:=(HB.out.cell (World.block_lt_of_cell? w _ hx103_4)).trans hx103_4
          replace hx103_5:=(HB.out.cell (World.block_lt_of_cell? w _ hx103_5)).trans hx103_5
          replace hx103_6:=(HB.out.cell (World.block_lt_of_cell? w _ hx103_6)).trans hx103_6
          have HR103_5:=Aside0.mk hi103_5
          have HC103_5:=Aside0.mk hl103_5
          clear hi103_5 hl103_5
          have HR103_6:=Aside0.mk hi103_6
          have HC103_6:=Aside0.mk hl103_6
          clear hi103_6 hl103_6
          replace p103:=eq_true p103
          replace q103:=eq_true q103
          have ea_:=Option.some.inj (hx102_5.symm.trans hx103_5)
          injection ea_ with ea_ en_ ec_
          subst ea_
          subst ec_
          clear en_
          have ea_:=Option.some.inj (hx102_6.symm.trans hx103_6)
          injection ea_ with ea_ en_ ec_
          subst ea_
          subst ec_
          clear en_
          go_wp2
          go_ret
          exact ⟨by first|rfl|(simp [errW_none,errW_some]<;>rfl)|(simp [*,errW_none,errW_some]<;>rfl),by repeat (first|(with_reducible first|exact HB.out|apply below_alloc|apply pw_below_drewN|apply below_drew1|refine below_set ?_ GE101.out)|exact HB.out)⟩
         ·rw [if_neg c14] at H
          have c14b0:decide (12 < (((rd_T53 l0_0 x3_2).f5).length:Int))=false:=decide_eq_false c14
          have c14b1:decide (12 < ((rd_T53 l0_0 x3_2).f5).length)=false:=decide_eq_false (by omega)
          clear c14
          by_cases c16:(((rd_T53 l0_0 x3_2).f6).length:Int) > 12
          ·rw [if_pos c16] at H
           have c16b0:decide (12 < (((rd_T53 l0_0 x3_2).f6).length:Int))=true:=decide_eq_true c16
           have c16b1:decide (12 < ((rd_T53 l0_0 x3_2).f6).length)=true:=decide_eq_true (by omega)
           clear c16
           obtain rfl:=Option.some.inj H
           have hcz17_0:wr.cell? ⟨gb101,0,none⟩=some (.slice A0_0 l0_0.length c0_0):=(blk_cell BK101.out 0).trans rfl
           have hcz17_1:wr.cell? ⟨gb101,1,none⟩=some (.slice A0_1 l0_1.length c0_1):=(blk_cell BK101.out 1).trans rfl
           have hcz17_2:wr.cell? ⟨gb101,2,none⟩=some (.slice A0_2 l0_2.length c0_2):=(blk_cell BK101.out 2).trans rfl
           have hfz17_0:=blk_frozen BK101.out 0
           have hfz17_1:=blk_frozen BK101.out 1
           have hfz17_2:=blk_frozen BK101.out 2
           have p102:0≤(x3_2:Int):=of_decide_eq_true (by first|(with_reducible assumption)|assumption)
           have q102:x3_2 < (l0_0.length:Int):=of_decide_eq_true (by first|(with_reducible assumption)|assumption)
           obtain ⟨ad102,A102_5,c102_5,A102_6,c102_6,e102,hx102_0,hx102_1,hx102_2,hx102_3,hx102_4,hx102_5,hx102_6,hl102_5,hi102_5,hl102_6,hi102_6⟩:=at_T53 HR0_0.out x3_2 p102 q102
           cases e102
           replace hx102_0:=(HB.out.cell (World.block_lt_of_cell? w _ hx102_0)).trans hx102_0
           replace hx102_1:=(HB.out.cell (World.block_lt_of_cell? w _ hx102_1)).trans hx102_1
           replace hx102_2:=(HB.out.cell (World.block_lt_of_cell? w _ hx102_2)).trans hx102_2
           replace hx102_3:=(HB.out.cell (World.block_lt_of_cell? w _ hx102_3)).trans hx102_3
           replace hx102_4:=(HB.out.cell (World.block_lt_of_cell? w _ hx102_4)).trans hx102_4
           replace hx102_5:=(HB.out.cell (World.block_lt_of_cell? w _ hx102_5)).trans hx102_5
           replace hx102_6:=(HB.out.cell (World.block_lt_of_cell? w _ hx102_6)).trans hx102_6
           have HR102_5:=Aside0.mk hi102_5
           have HC102_5:=Aside0.mk hl102_5
           clear hi102_5 hl102_5
           have HR102_6:=Aside0.mk hi102_6
           have HC102_6:=Aside0.mk hl102_6
           clear hi102_6 hl102_6
           replace p102:=eq_true p102
           replace q102:=eq_true q102
           have p103:0≤(x3_2:Int):=of_decide_eq_true (by first|(with_reducible assumption)|assumption)
           have q103:x3_2 < (l0_0.length:Int):=of_decide_eq_true (by first|(with_reducible assumption)|assumption)
           obtain ⟨ad103,A103_5,c103_5,A103_6,c103_6,e103,hx103_0,hx103_1,hx103_2,hx103_3,hx103_4,hx103_5,hx103_6,hl103_5,hi103_5,hl103_6,hi103_6⟩:=at_T53 HR0_0.out x3_2 p103 q103
           obtain rfl:ad102=ad103:=(by injection e103)
           replace hx103_0:=(HB.out.cell (World.block_lt_of_cell? w _ hx103_0)).trans hx103_0
           replace hx103_1:=(HB.out.cell (World.block_lt_of_cell? w _ hx103_1)).trans hx103_1
           replace hx103_2:=(HB.out.cell (World.block_lt_of_cell? w _ hx103_2)).trans hx103_2
           replace hx103_3:=(HB.out.cell (World.block_lt_of_cell? w _ hx103_3)).trans hx103_3
           replace hx103_4:=(HB.out.cell (World.block_lt_of_cell? w _ hx103_4)).trans hx103_4
           replace hx103_5:=(HB.out.cell (World.block_lt_of_cell? w _ hx103_5)).trans hx103_5
           replace hx103_6:=(HB.out.cell (World.block_lt_of_cell? w _ hx103_6)).trans hx103_6
           have HR103_5:=Aside0.mk hi103_5
           have HC103_5:=Aside0.mk hl103_5
           clear hi103_5 hl103_5
           have HR103_6:=Aside0.mk hi103_6
           have HC103_6:=Aside0.mk hl103_6
           clear hi103_6 hl103_6
           replace p103:=eq_true p103
           replace q103:=eq_true q103
           have ea_:=Option.some.inj (hx102_5.symm.trans hx103_5)
           injection ea_ with ea_ en_ ec_
           subst ea_
           subst ec_
           clear en_
           have ea_:=Option.some.inj (hx102_6.symm.trans hx103_6)
           injection ea_ with ea_ en_ ec_
           subst ea_
           subst ec_
           clear en_
           have p104:0≤(x3_2:Int):=of_decide_eq_true (by first|(with_reducible assumption)|assumption)
           have q104:x3_2 < (l0_0.length:Int):=of_decide_eq_true (by first|(with_reducible assumption)|assumption)
           obtain ⟨ad104,A104_5,c104_5,A104_6,c104_6,e104,hx104_0,hx104_1,hx104_2,hx104_3,hx104_4,hx104_5,hx104_6,hl104_5,hi104_5,hl104_6,hi104_6⟩:=at_T53 HR0_0.out x3_2 p104 q104
           obtain rfl:ad102=ad104:=(by injection e104)
           replace hx104_0:=(HB.out.cell (World.block_lt_of_cell? w _ hx104_0)).trans hx104_0
           replace hx104_1:=(HB.out.cell (World.block_lt_of_cell? w _ hx104_1)).trans hx104_1
           replace hx104_2:=(HB.out.cell (World.block_lt_of_cell? w _ hx104_2)).trans hx104_2
           replace hx104_3:=(HB.out.cell (World.block_lt_of_cell? w _ hx104_3)).trans hx104_3
           replace hx104_4:=(HB.out.cell (World.block_lt_of_cell? w _ hx104_4)).trans hx104_4
           replace hx104_5:=(HB.out.cell (World.block_lt_of_cell? w _ hx104_5)).trans hx104_5
           replace hx104_6:=(HB.out.cell (World.block_lt_of_cell? w _ hx104_6)).trans hx104_6
           have HR104_5:=Aside0.mk hi104_5
           have HC104_5:=Aside0.mk hl104_5
           clear hi104_5 hl104_5
           have HR104_6:=Aside0.mk hi104_6
           have HC104_6:=Aside0.mk hl104_6
           clear hi104_6 hl104_6
           replace p104:=eq_true p104
           replace q104:=eq_true q104
           have ea_:=Option.some.inj (hx102_5.symm.trans hx104_5)
           injection ea_ with ea_ en_ ec_
           subst ea_
           subst ec_
           clear en_
           have ea_:=Option.some.inj (hx102_6.symm.trans hx104_6)
           injection ea_ with ea_ en_ ec_
           subst ea_
           subst ec_
           clear en_
           go_wp2
           go_ret
           exact ⟨by first|rfl|(simp [errW_none,errW_some]<;>rfl)|(simp [*,errW_none,errW_some]<;>rfl),by repeat (first|(with_reducible first|exact HB.out|apply below_alloc|apply pw_below_drewN|apply below_drew1|refine below_set ?_ GE101.out)|exact HB.out)⟩
          ·rw [if_neg c16] at H
           have c16b0:decide (12 < (((rd_T53 l0_0 x3_2).f6).length:Int))=false:=decide_eq_false c16
           have c16b1:decide (12 < ((rd_T53 l0_0 x3_2).f6).length)=false:=decide_eq_false (by omega)
           clear c16
           have H':=Aside0.mk H
           clear H
           have hcz18_0:wr.cell? ⟨gb101,0,none⟩=some (.slice A0_0 l0_0.length c0_0):=(blk_cell BK101.out 0).trans rfl
           have hcz18_1:wr.cell? ⟨gb101,1,none⟩=some (.slice A0_1 l0_1.length c0_1):=(blk_cell BK101.out 1).trans rfl
           have hcz18_2:wr.cell? ⟨gb101,2,none⟩=some (.slice A0_2 l0_2.length c0_2):=(blk_cell BK101.out 2).trans rfl
           have hfz18_0:=blk_frozen BK101.out 0
           have hfz18_1:=blk_frozen BK101.out 1
           have hfz18_2:=blk_frozen BK101.out 2
           have p102:0≤(x3_2:Int):=of_decide_eq_true (by first|(with_reducible assumption)|assumption)
           have q102:x3_2 < (l0_0.length:Int):=of_decide_eq_true (by first|(with_reducible assumption)|assumption)
           obtain ⟨ad102,A102_5,c102_5,A102_6,c102_6,e102,hx102_0,hx102_1,hx102_2,hx102_3,hx102_4,hx102_5,hx102_6,hl102_5,hi102_5,hl102_6,hi102_6⟩:=at_T53 HR0_0.out x3_2 p102 q102
           cases e102
           replace hx102_0:=(HB.out.cell (World.block_lt_of_cell? w _ hx102_0)).trans hx102_0
           replace hx102_1:=(HB.out.cell (World.block_lt_of_cell? w _ hx102_1)).trans hx102_1
           replace hx102_2:=(HB.out.cell (World.block_lt_of_cell? w _ hx102_2)).trans hx102_2
           replace hx102_3:=(HB.out.cell (World.block_lt_of_cell? w _ hx102_3)).trans hx102_3
           replace hx102_4:=(HB.out.cell (World.block_lt_of_cell? w _ hx102_4)).trans hx102_4
           replace hx102_5:=(HB.out.cell (World.block_lt_of_cell? w _ hx102_5)).trans hx102_5
           replace hx102_6:=(HB.out.cell (World.block_lt_of_cell? w _ hx102_6)).trans hx102_6
           have HR102_5:=Aside0.mk hi102_5
           have HC102_5:=Aside0.mk hl102_5
           clear hi102_5 hl102_5
           have HR102_6:=Aside0.mk hi102_6
           have HC102_6:=Aside0.mk hl102_6
           clear hi102_6 hl102_6
           replace p102:=eq_true p102
           replace q102:=eq_true q102
           have p103:0≤(x3_2:Int):=of_decide_eq_true (by first|(with_reducible assumption)|assumption)
           have q103:x3_2 < (l0_0.length:Int):=of_decide_eq_true (by first|(with_reducible assumption)|assumption)
           obtain ⟨ad103,A103_5,c103_5,A103_6,c103_6,e103,hx103_0,hx103_1,hx103_2,hx103_3,hx103_4,hx103_5,hx103_6,hl103_5,hi103_5,hl103_6,hi103_6⟩:=at_T53 HR0_0.out x3_2 p103 q103
           obtain rfl:ad102=ad103:=(by injection e103)
           replace hx103_0:=(HB.out.cell (World.block_lt_of_cell? w _ hx103_0)).trans hx103_0
           replace hx103_1:=(HB.out.cell (World.block_lt_of_cell? w _ hx103_1)).trans hx103_1
           replace hx103_2:=(HB.out.cell (World.block_lt_of_cell? w _ hx103_2)).trans hx103_2
           replace hx103_3:=(HB.out.cell (World.block_lt_of_cell? w _ hx103_3)).trans hx103_3
           replace hx103_4:=(HB.out.cell (World.block_lt_of_cell? w _ hx103_4)).trans hx103_4
           replace hx103_5:=(HB.out.cell (World.block_lt_of_cell? w _ hx103_5)).trans hx103_5
           replace hx103_6:=(HB.out.cell (World.block_lt_of_cell? w _ hx103_6)).trans hx103_6
           have HR103_5:=Aside0.mk hi103_5
           have HC103_5:=Aside0.mk hl103_5
           clear hi103_5 hl103_5
           have HR103_6:=Aside0.mk hi103_6
           have HC103_6:=Aside0.mk hl103_6
           clear hi103_6 hl103_6
           replace p103:=eq_true p103
           replace q103:=eq_true q103
           have ea_:=Option.some.inj (hx102_5.symm.trans hx103_5)
           injection ea_ with ea_ en_ ec_
           subst ea_
           subst ec_
           clear en_
           have ea_:=Option.some.inj (hx102_6.symm.trans hx103_6)
           injection ea_ with ea_ en_ ec_
           subst ea_
           subst ec_
           clear en_
           have p104:0≤(x3_2:Int):=of_decide_eq_true (by first|(with_reducible assumption)|assumption)
           have q104:x3_2 < (l0_0.length:Int):=of_decide_eq_true (by first|(with_reducible assumption)|assumption)
           obtain ⟨ad104,A104_5,c104_5,A104_6,c104_6,e104,hx104_0,hx104_1,hx104_2,hx104_3,hx104_4,hx104_5,hx104_6,hl104_5,hi104_5,hl104_6,hi104_6⟩:=at_T53 HR0_0.out x3_2 p104 q104
           obtain rfl:ad102=ad104:=(by injection e104)
           replace hx104_0:=(HB.out.cell (World.block_lt_of_cell? w _ hx104_0)).trans hx104_0
           replace hx104_1:=(HB.out.cell (World.block_lt_of_cell? w _ hx104_1)).trans hx104_1
           replace hx104_2:=(HB.out.cell (World.block_lt_of_cell? w _ hx104_2)).trans hx104_2
           replace hx104_3:=(HB.out.cell (World.block_lt_of_cell? w _ hx104_3)).trans hx104_3
           replace hx104_4:=(HB.out.cell (World.block_lt_of_cell? w _ hx104_4)).trans hx104_4
           replace hx104_5:=(HB.out.cell (World.block_lt_of_cell? w _ hx104_5)).trans hx104_5
           replace hx104_6:=(HB.out.cell (World.block_lt_of_cell? w _ hx104_6)).trans hx104_6
           have HR104_5:=Aside0.mk hi104_5
           have HC104_5:=Aside0.mk hl104_5
           clear hi104_5 hl104_5
           have HR104_6:=Aside0.mk hi104_6
           have HC104_6:=Aside0.mk hl104_6
           clear hi104_6 hl104_6
           replace p104:=eq_true p104
           replace q104:=eq_true q104
           have ea_:=Option.some.inj (hx102_5.symm.trans hx104_5)
           injection ea_ with ea_ en_ ec_
           subst ea_
           subst ec_
           clear en_
           have ea_:=Option.some.inj (hx102_6.symm.trans hx104_6)
           injection ea_ with ea_ en_ ec_
           subst ea_
           subst ec_
           clear en_
           go_wp2
           go_roundg k2
           case measure=>have:=HJ1.out;have:=HK2.out;omega
           case rel=>exact ⟨(wrap64 (x3_2+1)),(by first|rfl|(simp;done)|(simp [*];done)),H',⟨by have:=HJ1.out;have:=HK2.out;omega⟩,⟨by (with_reducible repeat (first|refine blk_drewN ?_ _|refine blk_drew ?_|refine blk_alloc ?_ _));exact BK101.out⟩,⟨by repeat (first|(with_reducible first|exact HB.out|apply below_alloc|apply pw_below_drewN|apply below_drew1|refine below_set ?_ GE101.out)|exact HB.out)⟩⟩
       ·rw [if_neg c11] at H
        exact absurd H (by simp)
      ·rw [if_neg c10] at H
       have c10b0:decide (x3_2 < (l0_0.length:Int))=false:=decide_eq_false c10
       clear c10
       obtain rfl:=Option.some.inj H
       have hcz19_0:wr.cell? ⟨gb101,0,none⟩=some (.slice A0_0 l0_0.length c0_0):=(blk_cell BK101.out 0).trans rfl
       have hcz19_1:wr.cell? ⟨gb101,1,none⟩=some (.slice A0_1 l0_1.length c0_1):=(blk_cell BK101.out 1).trans rfl
       have hcz19_2:wr.cell? ⟨gb101,2,none⟩=some (.slice A0_2 l0_2.length c0_2):=(blk_cell BK101.out 2).trans rfl
       have hfz19_0:=blk_frozen BK101.out 0
       have hfz19_1:=blk_frozen BK101.out 1
       have hfz19_2:=blk_frozen BK101.out 2
       go_wp2
       go_ret
       exact ⟨by first|rfl|(simp [errW_none,errW_some]<;>rfl)|(simp [*,errW_none,errW_some]<;>rfl),by repeat (first|(with_reducible first|exact HB.out|apply below_alloc|apply pw_below_drewN|apply below_drew1|refine below_set ?_ GE101.out)|exact HB.out)⟩
end Go.Proofs.YtojkjhaobjidlaaDoor.P
namespace Go.Proofs.YtojkjhaobjidlaaDoor.P
open Go.RowKit Go.Proofs.YtojkjhaobjidlaaDoorW.PrintWords Go.Proofs.YtojkjhaobjidlaaDoorW.PrintMore
set_option linter.unusedVariables false
set_option linter.unusedSimpArgs false
def smallP (p:PR):Bool:=!(decide (100 < p.f0.size) || (decide (12 < p.f5.length) || decide (12 < p.f6.length)))
def smallB (c:List PR) (l:List IT) (t:List TI):Bool:=!(decide (20 < c.length) || (decide (100 < l.length) || decide (30 < t.length))) && c.all smallP
theorem small_l0 (c:List PR) (l:List IT) (t:List TI) (hc:c.length≤1000):∀ (d k i:Nat),i+d=c.length→d < k→sawmilllaw50_small.l0 k (i:Int) c l t=some ((c.drop i).all smallP):=by
 intro d
 induction d with
 | zero =>
  intro k i hi hk
  obtain ⟨k,rfl⟩:∃ m,k=m+1:=⟨k - 1,by omega⟩
  simp only [sawmilllaw50_small.l0]
  rw [if_neg (by omega),List.drop_of_length_le (by omega)]
  rfl
 | succ d ih =>
  intro k i hi hk
  obtain ⟨k,rfl⟩:∃ m,k=m+1:=⟨k - 1,by omega⟩
  have h2:i < c.length:=by omega
  simp only [sawmilllaw50_small.l0]
  rw [if_pos (by omega),if_pos (by omega),wrap_nat i 1000000 (by omega) (by omega),ih k (i+1) (by omega) (by omega),rdP_drop i h2,List.all_cons]
  generalize rd_T53 c (i:Int)=p
  generalize (c.drop (i+1)).all smallP=b
  unfold smallP
  by_cases g1:100 < p.f0.size
  ·rw [if_pos (by omega)];simp [g1]
  ·rw [if_neg (by omega)]
   by_cases g2:12 < p.f5.length
   ·rw [if_pos (by omega)];simp [g1,g2]
   ·rw [if_neg (by omega)]
    by_cases g3:12 < p.f6.length
    ·rw [if_pos (by omega)];simp [g1,g2,g3]
    ·rw [if_neg (by omega)];simp [g1,g2,g3]
theorem small_f (c:List PR) (l:List IT) (t:List TI) (k:Nat) (hk:30 < k):sawmilllaw50_small.f k c l t=some (smallB c l t):=by
 obtain ⟨k,rfl⟩:∃ m,k=m+1:=⟨k - 1,by omega⟩
 unfold sawmilllaw50_small.f smallB
 simp only [sawmilllaw50_small.j0,if_true,decide_eq_true_eq,gt_iff_lt]
 by_cases g1:20 < c.length
 ·rw [if_pos (by omega)];simp [g1]
 ·rw [if_neg (by omega)]
  by_cases g2:100 < l.length
  ·rw [if_pos (by omega)];simp [g1,g2]
  ·rw [if_neg (by omega)]
   by_cases g3:30 < t.length
   ·rw [if_pos (by omega)];simp [g1,g2,g3]
   ·rw [if_neg (by omega)]
    have:=small_l0 c l t (by omega) c.length k 0 (by omega) (by omega)
    rw [show ((0:Nat):Int)=0 from rfl] at this
    rw [this]
    simp [g1,g2,g3]
end Go.Proofs.YtojkjhaobjidlaaDoor.P
namespace Go.Proofs.YtojkjhaobjidlaaDoor.P
open Go.RowKit Go.Proofs.YtojkjhaobjidlaaDoorW.PrintWords Go.Proofs.YtojkjhaobjidlaaDoorW.PrintLast Go.Proofs.YtojkjhaobjidlaaDoorW.PrintMore
attribute [local go_sem] max2_int min2_int max_two min_two max_three min_three max_four min_four
attribute [local go_sem] cell_twice
set_option linter.unusedVariables false
set_option linter.unusedSimpArgs false
mutual
def sawmilllaw50_BillAdds.j0:Nat→List (S35)→Bool→List (S53)→List (S35)→List (S56)→Option (Bool)
 | 0,_,_,_,_,_=>none
 | k+1,x1,x20,x102000,x102001,x102002=>if x20=true then ((sawmilllaw50_awake.f k).bind fun t103=>(some t103)) else ((bill_Total.f k x102000 x102001 ([]:List (S56))).bind fun bt104=>((bill_Total.f k x102000 x1 ([]:List (S56))).bind fun bt106=>(if bt104.2=0 then (sawmilllaw50_BillAdds.j1 k x1 bt104.1 bt106.1 (bt106.2 != 0) x102000 x102001 x102002) else (sawmilllaw50_BillAdds.j1 k x1 bt104.1 bt106.1 true x102000 x102001 x102002))))
def sawmilllaw50_BillAdds.j1:Nat→List (S35)→Int→Int→Bool→List (S53)→List (S35)→List (S56)→Option (Bool)
 | 0,_,_,_,_,_,_,_=>none
 | k+1,x1,x5,x7,x42,x102000,x102001,x102002=>if x42=true then ((sawmilllaw50_awake.f k).bind fun t108=>(some t108)) else ((some (([]:List (S35)):List (S35))).bind fun y109=>(if y109.length+x102001.length < 4398046511104 then ((some (y109++x102001:List (S35))).bind fun y112=>(if y112.length+x1.length < 4398046511104 then ((bill_Total.f k x102000 (y112++x1) ([]:List (S56))).bind fun bt118=>(if (wrap64 ((x102001.length:Int)+(x1.length:Int)))≤32 then (if bt118.2=0 then (sawmilllaw50_BillAdds.j2 k x5 (bt118.1 != (wrap64 (x5+x7))) x102000 x102001 x102002) else (sawmilllaw50_BillAdds.j2 k x5 true x102000 x102001 x102002)) else (sawmilllaw50_BillAdds.j2 k x5 false x102000 x102001 x102002))) else (none))) else (none)))
def sawmilllaw50_BillAdds.j2:Nat→Int→Bool→List (S53)→List (S35)→List (S56)→Option (Bool)
 | 0,_,_,_,_,_=>none
 | k+1,x5,x73,x102000,x102001,x102002=>if x73=true then (some false) else ((bill_Total.f k x102000 x102001 x102002).bind fun bt120=>(if bt120.2=0 then (if bt120.1 ≥ 0 then (if bt120.1≤x5 then ((sawmilllaw50_awake.f k).bind fun t122=>(some t122)) else (some false)) else (some false)) else ((sawmilllaw50_awake.f k).bind fun t123=>(some t123))))
end
def sawmilllaw50_BillAdds.f (k:Nat) (l0_0:List (S53)) (l0_1:List (S35)) (l0_2:List (S56)) (l1:List (S35)):Option (Bool):=(sawmilllaw50_small.f k l0_0 l0_1 l0_2).bind fun t102=>(if t102=true then (sawmilllaw50_BillAdds.j0 k l1 (decide ((l1.length:Int) > 100)) l0_0 l0_1 l0_2) else (sawmilllaw50_BillAdds.j0 k l1 true l0_0 l0_1 l0_2))
theorem sawmilllaw50_BillAdds.mono_l:∀ k,(∀ y0 y1 y2 y3 y4,LeO (sawmilllaw50_BillAdds.j0 k y0 y1 y2 y3 y4) (sawmilllaw50_BillAdds.j0 (k+1) y0 y1 y2 y3 y4))∧(∀ y0 y1 y2 y3 y4 y5 y6,LeO (sawmilllaw50_BillAdds.j1 k y0 y1 y2 y3 y4 y5 y6) (sawmilllaw50_BillAdds.j1 (k+1) y0 y1 y2 y3 y4 y5 y6))∧(∀ y0 y1 y2 y3 y4,LeO (sawmilllaw50_BillAdds.j2 k y0 y1 y2 y3 y4) (sawmilllaw50_BillAdds.j2 (k+1) y0 y1 y2 y3 y4))
 | 0=>⟨fun _ _ _ _ _ r h=>by simp [sawmilllaw50_BillAdds.j0] at h,fun _ _ _ _ _ _ _ r h=>by simp [sawmilllaw50_BillAdds.j1] at h,fun _ _ _ _ _ r h=>by simp [sawmilllaw50_BillAdds.j2] at h⟩
 | k+1=>by
  obtain ⟨ih0,ih1,ih2⟩:=sawmilllaw50_BillAdds.mono_l k
  refine ⟨?_,?_,?_⟩
  ·intro y0 y1 y2 y3 y4
   unfold sawmilllaw50_BillAdds.j0
   repeat' first
   | (with_reducible exact ih0 _ _ _ _ _)
   | (with_reducible exact ih1 _ _ _ _ _ _ _)
   | (with_reducible exact ih2 _ _ _ _ _)
   | (with_reducible exact bill_Total.mono _ _ _ _)
   | (with_reducible exact sawmilllaw50_awake.mono _)
   | (with_reducible exact sawmilllaw50_small.mono _ _ _ _)
   | (with_reducible exact LeO.refl _)
   | (with_reducible exact LeO.none _)
   | (with_reducible refine LeO.ite ?_ ?_)
   | (with_reducible refine LeO.bind ?_ (fun _=>?_))
   | exact ih0 _ _ _ _ _
   | exact ih1 _ _ _ _ _ _ _
   | exact ih2 _ _ _ _ _
   | exact bill_Total.mono _ _ _ _
   | exact sawmilllaw50_awake.mono _
   | exact sawmilllaw50_small.mono _ _ _ _
   | exact LeO.none _
   | refine LeO.ite ?_ ?_
   | refine LeO.bind ?_ (fun _=>?_)
  ·intro y0 y1 y2 y3 y4 y5 y6
   unfold sawmilllaw50_BillAdds.j1
   repeat' first
   | (with_reducible exact ih0 _ _ _ _ _)
   | (with_reducible exact ih1 _ _ _ _ _ _ _)
   | (with_reducible exact ih2 _ _ _ _ _)
   | (with_reducible exact bill_Total.mono _ _ _ _)
   | (with_reducible exact sawmilllaw50_awake.mono _)
   | (with_reducible exact sawmilllaw50_small.mono _ _ _ _)
   | (with_reducible exact LeO.refl _)
   | (with_reducible exact LeO.none _)
   | (with_reducible refine LeO.ite ?_ ?_)
   | (with_reducible refine LeO.bind ?_ (fun _=>?_))
   | exact ih0 _ _ _ _ _
   | exact ih1 _ _ _ _ _ _ _
   | exact ih2 _ _ _ _ _
   | exact bill_Total.mono _ _ _ _
   | exact sawmilllaw50_awake.mono _
   | exact sawmilllaw50_small.mono _ _ _ _
   | exact LeO.none _
   | refine LeO.ite ?_ ?_
   | refine LeO.bind ?_ (fun _=>?_)
  ·intro y0 y1 y2 y3 y4
   unfold sawmilllaw50_BillAdds.j2
   repeat' first
   | (with_reducible exact ih0 _ _ _ _ _)
   | (with_reducible exact ih1 _ _ _ _ _ _ _)
   | (with_reducible exact ih2 _ _ _ _ _)
   | (with_reducible exact bill_Total.mono _ _ _ _)
   | (with_reducible exact sawmilllaw50_awake.mono _)
   | (with_reducible exact sawmilllaw50_small.mono _ _ _ _)
   | (with_reducible exact LeO.refl _)
   | (with_reducible exact LeO.none _)
   | (with_reducible refine LeO.ite ?_ ?_)
   | (with_reducible refine LeO.bind ?_ (fun _=>?_))
   | exact ih0 _ _ _ _ _
   | exact ih1 _ _ _ _ _ _ _
   | exact ih2 _ _ _ _ _
   | exact bill_Total.mono _ _ _ _
   | exact sawmilllaw50_awake.mono _
   | exact sawmilllaw50_small.mono _ _ _ _
   | exact LeO.none _
   | refine LeO.ite ?_ ?_
   | refine LeO.bind ?_ (fun _=>?_)
theorem sawmilllaw50_BillAdds.mono:∀ a0 a1 a2 a3 k,LeO (sawmilllaw50_BillAdds.f k a0 a1 a2 a3) (sawmilllaw50_BillAdds.f (k+1) a0 a1 a2 a3):=by
 intro a0 a1 a2 a3 k
 obtain ⟨ih0,ih1,ih2⟩:=sawmilllaw50_BillAdds.mono_l k
 unfold sawmilllaw50_BillAdds.f
 repeat' first
   | (with_reducible exact ih0 _ _ _ _ _)
   | (with_reducible exact ih1 _ _ _ _ _ _ _)
   | (with_reducible exact ih2 _ _ _ _ _)
   | (with_reducible exact bill_Total.mono _ _ _ _)
   | (with_reducible exact sawmilllaw50_awake.mono _)
   | (with_reducible exact sawmilllaw50_small.mono _ _ _ _)
   | (with_reducible exact LeO.refl _)
   | (with_reducible exact LeO.none _)
   | (with_reducible refine LeO.ite ?_ ?_)
   | (with_reducible refine LeO.bind ?_ (fun _=>?_))
   | exact ih0 _ _ _ _ _
   | exact ih1 _ _ _ _ _ _ _
   | exact ih2 _ _ _ _ _
   | exact bill_Total.mono _ _ _ _
   | exact sawmilllaw50_awake.mono _
   | exact sawmilllaw50_small.mono _ _ _ _
   | exact LeO.none _
   | refine LeO.ite ?_ ?_
   | refine LeO.bind ?_ (fun _=>?_)
def sawmilllaw50_BillAdds.T7:Bool × List (List Nat × List Nat):=(true,[([],[]),([0],[0]),([],[]),([],[]),([3],[3]),([2,4],[2,4]),([],[]),([5,6,5],[5,6]),([1,7,7],[1,7]),([8],[8]),([9],[9]),([9],[9]),([10,8,0,1,2,3,4,5,6,7,8,9,10],[10]),([11,12,0,1,2,3,4,5,6,7,8,9,10,11,12],[11])])
def sawmilllaw50_BillAdds.B7:List Nat:=[0,1,0,0,8,28,0,124,255,511,1023,1023,2047,8191]
theorem sawmilllaw50_BillAdds.tab7:rtab .any (opsOf Tryd.f9 7)=sawmilllaw50_BillAdds.T7:=by kernel_rfl
theorem sawmilllaw50_BillAdds.bits7:waitsOk sawmilllaw50_BillAdds.T7.2 sawmilllaw50_BillAdds.B7=true:=by kernel_rfl
set_option maxHeartbeats 8000000 in
set_option maxRecDepth 100000 in
theorem sawmilllaw50_BillAdds.calls (k:Nat) (A0_0:Option Addr) (c0_0:Nat) (l0_0:List (S53)) (A0_1:Option Addr) (c0_1:Nat) (l0_1:List (S35)) (A0_2:Option Addr) (c0_2:Nat) (l0_2:List (S56)) (A1:Option Addr) (c1:Nat) (l1:List (S35)) (r:Bool) (w:World) (hr0_0:Kd.C k53 w A0_0 l0_0.length l0_0) (hc0_0:l0_0.length≤c0_0) (hr0_1:Kd.C k35 w A0_1 l0_1.length l0_1) (hc0_1:l0_1.length≤c0_1) (hr0_2:Kd.C k56 w A0_2 l0_2.length l0_2) (hc0_2:l0_2.length≤c0_2) (hr1:Kd.C k35 w A1 l1.length l1) (hc1:l1.length≤c1) (h:sawmilllaw50_BillAdds.f k l0_0 l0_1 l0_2 l1=some r) (HG_:Aside0 (Glob w)) :
  Calls Tryd.prog 9 #[.agg #[.slice A0_0 l0_0.length c0_0,.slice A0_1 l0_1.length c0_1,.slice A0_2 l0_2.length c0_2],.slice A1 l1.length c1] w fun e w'=>e=.returned (.bool r)∧Below w.heap.size w w':=by
 have hu26:=Tryd.underlying26
 have HR0_0:=Aside0.mk hr0_0
 have HC0_0:=Aside0.mk hc0_0
 clear hr0_0 hc0_0
 have HR0_1:=Aside0.mk hr0_1
 have HC0_1:=Aside0.mk hc0_1
 clear hr0_1 hc0_1
 have HR0_2:=Aside0.mk hr0_2
 have HC0_2:=Aside0.mk hc0_2
 clear hr0_2 hc0_2
 have HR1:=Aside0.mk hr1
 have HC1:=Aside0.mk hc1
 clear hr1 hc1
 have HB:=Aside0.mk (Below.refl w.heap.size w)
 have H:((sawmilllaw50_small.f k l0_0 l0_1 l0_2).bind fun t102=>(if t102=true then (sawmilllaw50_BillAdds.j0 k l1 (decide ((l1.length:Int) > 100)) l0_0 l0_1 l0_2) else (sawmilllaw50_BillAdds.j0 k l1 true l0_0 l0_1 l0_2)))=some r:=h
 clear h
 have HC3:=Aside0.mk H
 clear H
 go_enter Tryd.func9,Tryd.ntmps9
 go_upto_region 1 with (first|((with_reducible refine gate_dst (N:=2) rfl ?_);(try (refine gate_guard (by rfl) ?_;dsimp only));refine box_event ?hg (N:=2) ?hd (cs:=#[.slice A0_0 l0_0.length c0_0,.slice A0_1 l0_1.length c0_1,.slice A0_2 l0_2.length c0_2]) (t:=26) ?hr ?_;(case hd=>rfl);(case hg=>rfl);(case hr=>first|(go_simp;done)|(go_simp;rfl));intro gb101 hg w4 hbox hb;have n0_:=Aside0.mk (below_step (by repeat (first|(with_reducible first|exact HB.out|apply below_alloc|apply pw_below_drewN|apply below_drew1)|exact HB.out)) hb);have n1_:=Aside0.mk (hbox);have n2_:=Aside0.mk ((by rw [hg];exact (below_size (by repeat (first|(with_reducible first|exact HB.out|apply below_alloc|apply pw_below_drewN|apply below_drew1)|exact HB.out))):w.heap.size≤gb101));have n3_:=Aside0.mk ((by rw [hg];exact (below_size (by repeat (first|(with_reducible first|exact HB.out|apply below_alloc|apply pw_below_drewN|apply below_drew1)|exact HB.out))):w.heap.size≤gb101));clear HB;have HB:=n0_;have BK101:=n1_;have GW101:=n2_;have GE101:=n3_;clear n0_ n1_ n2_ n3_;clear hb hbox hg))
 (try simp only [Act.put,List.setIfInBounds_toArray,List.set_cons_zero,List.set_cons_succ])
 go_cut [20] (fun v20 wc=>∃ (kq:Nat) (x20_2:Bool),v20=.bool x20_2∧Aside0 (sawmilllaw50_BillAdds.j0 kq l1 x20_2 l0_0 l0_1 l0_2=some r)∧Aside0 (kq≤k)∧Aside0 (wc.heap[gb101]?=some (.cells #[(.slice A0_0 l0_0.length c0_0),(.slice A0_1 l0_1.length c0_1),(.slice A0_2 l0_2.length c0_2)] 26 (0,0)))∧Aside0 (Below w.heap.size w wc))
 case first =>
  have H:=HC3.out
  clear HC3
  replace H:=Option.bind_eq_some_iff.mp H
  obtain ⟨t102,A50,H⟩:=H
  replace H:(if t102=true then (sawmilllaw50_BillAdds.j0 k l1 (decide ((l1.length:Int) > 100)) l0_0 l0_1 l0_2) else (sawmilllaw50_BillAdds.j0 k l1 true l0_0 l0_1 l0_2))=some r:=H
  have A5:=Aside0.mk A50
  clear A50
  by_cases c6:t102=true
  ·subst c6
   have H1:(sawmilllaw50_BillAdds.j0 k l1 (decide ((l1.length:Int) > 100)) l0_0 l0_1 l0_2)=some r:=by rw [if_pos rfl] at H;exact H
   clear H
   have H:=H1
   clear H1
   have H':=Aside0.mk H
   clear H
   have hcz7_0:w4.cell? ⟨gb101,0,none⟩=some (.slice A0_0 l0_0.length c0_0):=(blk_cell BK101.out 0).trans rfl
   have hcz7_1:w4.cell? ⟨gb101,1,none⟩=some (.slice A0_1 l0_1.length c0_1):=(blk_cell BK101.out 1).trans rfl
   have hcz7_2:w4.cell? ⟨gb101,2,none⟩=some (.slice A0_2 l0_2.length c0_2):=(blk_cell BK101.out 2).trans rfl
   have hfz7_0:=blk_frozen BK101.out 0
   have hfz7_1:=blk_frozen BK101.out 1
   have hfz7_2:=blk_frozen BK101.out 2
   go_wp2_with (first|((with_reducible refine gate_callee (f:=10) rfl ?_);refine goesL_ (some 14) rfl rfl Tryd.func10 (by kernel_rfl) rfl #[.agg #[.slice A0_0 l0_0.length c0_0,.slice A0_1 l0_1.length c0_1,.slice A0_2 l0_2.length c0_2]] rfl (by (try simp only [List.map_toArray,List.map_cons,List.map_nil]);first|done|rfl|(simp only [List.length_drop,List.length_take];rfl)) ?_;(with_reducible refine (sawmilllaw50_small.calls k _ _ l0_0 _ _ l0_1 _ _ l0_2 true _ ?side1 ?side2 ?side3 ?side4 ?side5 ?side6 A5.out).mono ?_);(case side1=>repeat (first|exact (Kd.C_below HR0_0.out HB.out)|(with_reducible refine Kd.C_alloc ?_ _)|(with_reducible refine Kd.C_drewN ?_ _)|(with_reducible refine Kd.C_drew ?_)));(case side2=>exact HC0_0.out);(case side3=>repeat (first|exact (Kd.C_below HR0_1.out HB.out)|(with_reducible refine Kd.C_alloc ?_ _)|(with_reducible refine Kd.C_drewN ?_ _)|(with_reducible refine Kd.C_drew ?_)));(case side4=>exact HC0_1.out);(case side5=>repeat (first|exact (Kd.C_below HR0_2.out HB.out)|(with_reducible refine Kd.C_alloc ?_ _)|(with_reducible refine Kd.C_drewN ?_ _)|(with_reducible refine Kd.C_drew ?_)));(case side6=>exact HC0_2.out);rintro e w8 ⟨rfl,hb⟩;refine ⟨_,rfl,?_⟩;have n0_:=Aside0.mk (blk_below (g:=gb101) (o:=.cells #[.slice A0_0 l0_0.length c0_0,.slice A0_1 l0_1.length c0_1,.slice A0_2 l0_2.length c0_2] 26 (0,0)) (by (with_reducible repeat (first|refine blk_drewN ?_ _|refine blk_drew ?_|refine blk_alloc ?_ _));exact BK101.out) hb);have n1_:=Aside0.mk (below_step (by repeat (first|(with_reducible first|exact HB.out|apply below_alloc|apply pw_below_drewN|apply below_drew1|refine below_set ?_ GE101.out)|exact HB.out)) hb);clear BK101;clear HB;have BK101:=n0_;have HB:=n1_;clear n0_ n1_;(try clear hb);(try clear hb2);(try clear hk);(try clear hi)))
   go_meet
   case rel=>exact ⟨_,(decide ((l1.length:Int) > 100)),(by first|rfl|(simp;done)|(simp [*];done)),H',⟨by first|omega|exact Nat.le_refl _⟩,⟨by (with_reducible repeat (first|refine blk_drewN ?_ _|refine blk_drew ?_|refine blk_alloc ?_ _));exact BK101.out⟩,⟨by repeat (first|(with_reducible first|exact HB.out|apply below_alloc|apply pw_below_drewN|apply below_drew1|refine below_set ?_ GE101.out)|exact HB.out)⟩⟩
  ·replace c6:=Bool.eq_false_iff.mpr c6
   subst c6
   have H1:(sawmilllaw50_BillAdds.j0 k l1 true l0_0 l0_1 l0_2)=some r:=by rw [if_neg (show ¬ (false=true) by decide)] at H;exact H
   clear H
   have H:=H1
   clear H1
   have H':=Aside0.mk H
   clear H
   have hcz9_0:w4.cell? ⟨gb101,0,none⟩=some (.slice A0_0 l0_0.length c0_0):=(blk_cell BK101.out 0).trans rfl
   have hcz9_1:w4.cell? ⟨gb101,1,none⟩=some (.slice A0_1 l0_1.length c0_1):=(blk_cell BK101.out 1).trans rfl
   have hcz9_2:w4.cell? ⟨gb101,2,none⟩=some (.slice A0_2 l0_2.length c0_2):=(blk_cell BK101.out 2).trans rfl
   have hfz9_0:=blk_frozen BK101.out 0
   have hfz9_1:=blk_frozen BK101.out 1
   have hfz9_2:=blk_frozen BK101.out 2
   go_wp2_with (first|((with_reducible refine gate_callee (f:=10) rfl ?_);refine goesL_ (some 14) rfl rfl Tryd.func10 (by kernel_rfl) rfl #[.agg #[.slice A0_0 l0_0.length c0_0,.slice A0_1 l0_1.length c0_1,.slice A0_2 l0_2.length c0_2]] rfl (by (try simp only [List.map_toArray,List.map_cons,List.map_nil]);first|done|rfl|(simp only [List.length_drop,List.length_take];rfl)) ?_;(with_reducible refine (sawmilllaw50_small.calls k _ _ l0_0 _ _ l0_1 _ _ l0_2 false _ ?side1 ?side2 ?side3 ?side4 ?side5 ?side6 A5.out).mono ?_);(case side1=>repeat (first|exact (Kd.C_below HR0_0.out HB.out)|(with_reducible refine Kd.C_alloc ?_ _)|(with_reducible refine Kd.C_drewN ?_ _)|(with_reducible refine Kd.C_drew ?_)));(case side2=>exact HC0_0.out);(case side3=>repeat (first|exact (Kd.C_below HR0_1.out HB.out)|(with_reducible refine Kd.C_alloc ?_ _)|(with_reducible refine Kd.C_drewN ?_ _)|(with_reducible refine Kd.C_drew ?_)));(case side4=>exact HC0_1.out);(case side5=>repeat (first|exact (Kd.C_below HR0_2.out HB.out)|(with_reducible refine Kd.C_alloc ?_ _)|(with_reducible refine Kd.C_drewN ?_ _)|(with_reducible refine Kd.C_drew ?_)));(case side6=>exact HC0_2.out);rintro e w10 ⟨rfl,hb⟩;refine ⟨_,rfl,?_⟩;have n0_:=Aside0.mk (blk_below (g:=gb101) (o:=.cells #[.slice A0_0 l0_0.length c0_0,.slice A0_1 l0_1.length c0_1,.slice A0_2 l0_2.length c0_2] 26 (0,0)) (by (with_reducible repeat (first|refine blk_drewN ?_ _|refine blk_drew ?_|refine blk_alloc ?_ _));exact BK101.out) hb);have n1_:=Aside0.mk (below_step (by repeat (first|(with_reducible first|exact HB.out|apply below_alloc|apply pw_below_drewN|apply below_drew1|refine below_set ?_ GE101.out)|exact HB.out)) hb);clear BK101;clear HB;have BK101:=n0_;have HB:=n1_;clear n0_ n1_;(try clear hb);(try clear hb2);(try clear hk);(try clear hi)))
   go_meet
   case rel=>exact ⟨_,(true),(by first|rfl|(simp;done)|(simp [*];done)),H',⟨by first|omega|exact Nat.le_refl _⟩,⟨by (with_reducible repeat (first|refine blk_drewN ?_ _|refine blk_drew ?_|refine blk_alloc ?_ _));exact BK101.out⟩,⟨by repeat (first|(with_reducible first|exact HB.out|apply below_alloc|apply pw_below_drewN|apply below_drew1|refine below_set ?_ GE101.out)|exact HB.out)⟩⟩
 case rest =>
  clear HC3
  try clear c1
  try clear p2
  try clear c6
  try clear c9
  try clear c10
  try clear hcz7_0
  try clear hcz7_1
  try clear hcz7_2
  try clear hcz9_0
  try clear hcz9_1
  try clear hcz9_2
  try clear hfz7_0
  try clear hfz7_1
  try clear hfz7_2
  try clear hfz9_0
  try clear hfz9_1
  try clear hfz9_2
  obtain ⟨kq,x20_2,rfl,HA,HJ2,BK101,HB⟩:=hcut
  cases kq with
  | zero=>exact absurd HA.out (by simp [sawmilllaw50_BillAdds.j0])
  | succ kj2 =>
   have H:=HA.out
   clear HA
   simp only [sawmilllaw50_BillAdds.j0] at H
   by_cases c11:x20_2=true
   ·subst c11
    have H1:((sawmilllaw50_awake.f kj2).bind fun t103=>(some t103))=some r:=by rw [if_pos rfl] at H;exact H
    clear H
    have H:=H1
    clear H1
    replace H:=Option.bind_eq_some_iff.mp H
    obtain ⟨t103,A120,H⟩:=H
    replace H:(some t103)=some r:=H
    have A12:=Aside0.mk A120
    clear A120
    obtain rfl:=Option.some.inj H
    go_wp2_with (first|((with_reducible refine gate_callee (f:=11) rfl ?_);refine goesL_ (some 21) rfl rfl Tryd.func11 (by kernel_rfl) rfl #[] rfl (by (try simp only [List.map_toArray,List.map_cons,List.map_nil]);first|done|rfl|(simp only [List.length_drop,List.length_take];rfl)) ?_;(with_reducible refine (sawmilllaw50_awake.calls kj2  t103 _ A12.out (glob_at HG_ (by repeat (first|(with_reducible first|exact HB.out|apply below_alloc|apply pw_below_drewN|apply below_drew1|refine below_set ?_ (Aside0.out (by assumption)))|exact HB.out)))).mono ?_);rintro e w13 ⟨rfl,hb⟩;refine ⟨_,rfl,?_⟩;have n0_:=Aside0.mk (blk_below (g:=gb101) (o:=.cells #[.slice A0_0 l0_0.length c0_0,.slice A0_1 l0_1.length c0_1,.slice A0_2 l0_2.length c0_2] 26 (0,0)) (by (with_reducible repeat (first|refine blk_drewN ?_ _|refine blk_drew ?_|refine blk_alloc ?_ _));exact BK101.out) hb);have n1_:=Aside0.mk (below_step (by repeat (first|(with_reducible first|exact HB.out|apply below_alloc|apply pw_below_drewN|apply below_drew1|refine below_set ?_ GE101.out)|exact HB.out)) hb);clear BK101;clear HB;have BK101:=n0_;have HB:=n1_;clear n0_ n1_;(try clear hb);(try clear hb2);(try clear hk);(try clear hi)))
    go_ret
    exact ⟨by first|rfl|(simp [errW_none,errW_some]<;>rfl)|(simp [*,errW_none,errW_some]<;>rfl),by repeat (first|(with_reducible first|exact HB.out|apply below_alloc|apply pw_below_drewN|apply below_drew1|refine below_set ?_ GE101.out)|exact HB.out)⟩
   ·replace c11:=Bool.eq_false_iff.mpr c11
    subst c11
    have H1:((bill_Total.f kj2 l0_0 l0_1 ([]:List (S56))).bind fun bt104=>((bill_Total.f kj2 l0_0 l1 ([]:List (S56))).bind fun bt106=>(if bt104.2=0 then (sawmilllaw50_BillAdds.j1 kj2 l1 bt104.1 bt106.1 (bt106.2 != 0) l0_0 l0_1 l0_2) else (sawmilllaw50_BillAdds.j1 kj2 l1 bt104.1 bt106.1 true l0_0 l0_1 l0_2))))=some r:=by rw [if_neg (show ¬ (false=true) by decide)] at H;exact H
    clear H
    have H:=H1
    clear H1
    replace H:=Option.bind_eq_some_iff.mp H
    obtain ⟨⟨t104,t105⟩,A140,H⟩:=H
    replace H:((bill_Total.f kj2 l0_0 l1 ([]:List (S56))).bind fun bt106=>(if t105=0 then (sawmilllaw50_BillAdds.j1 kj2 l1 t104 bt106.1 (bt106.2 != 0) l0_0 l0_1 l0_2) else (sawmilllaw50_BillAdds.j1 kj2 l1 t104 bt106.1 true l0_0 l0_1 l0_2)))=some r:=H
    have A14:=Aside0.mk A140
    clear A140
    replace H:=Option.bind_eq_some_iff.mp H
    obtain ⟨⟨t106,t107⟩,A150,H⟩:=H
    replace H:(if t105=0 then (sawmilllaw50_BillAdds.j1 kj2 l1 t104 t106 (t107 != 0) l0_0 l0_1 l0_2) else (sawmilllaw50_BillAdds.j1 kj2 l1 t104 t106 true l0_0 l0_1 l0_2))=some r:=H
    have A15:=Aside0.mk A150
    clear A150
    have HC16:=Aside0.mk H
    clear H
    have hcz17_0:wc.cell? ⟨gb101,0,none⟩=some (.slice A0_0 l0_0.length c0_0):=(blk_cell BK101.out 0).trans rfl
    have hcz17_1:wc.cell? ⟨gb101,1,none⟩=some (.slice A0_1 l0_1.length c0_1):=(blk_cell BK101.out 1).trans rfl
    have hcz17_2:wc.cell? ⟨gb101,2,none⟩=some (.slice A0_2 l0_2.length c0_2):=(blk_cell BK101.out 2).trans rfl
    have hfz17_0:=blk_frozen BK101.out 0
    have hfz17_1:=blk_frozen BK101.out 1
    have hfz17_2:=blk_frozen BK101.out 2
    go_upto_region 5 with (first|((with_reducible refine gate_callee (f:=12) rfl ?_);refine goesL_ (some 27) rfl rfl Tryd.func12 (by kernel_rfl) rfl #[.slice A0_0 l0_0.length c0_0,.slice A0_1 l0_1.length c0_1,.slice none 0 0] rfl (by (try simp only [List.map_toArray,List.map_cons,List.map_nil]);first|done|rfl|(simp only [List.length_drop,List.length_take];rfl)) ?_;(refine (bill_Total.calls kj2 _ _ l0_0 _ _ l0_1 _ _ ([]:List (S56)) t104 t105 _ ?side1 ?side2 ?side3 ?side4 ?side5 ?side6 A14.out).mono ?_);(case side1=>repeat (first|exact (Kd.C_below HR0_0.out HB.out)|(with_reducible refine Kd.C_alloc ?_ _)|(with_reducible refine Kd.C_drewN ?_ _)|(with_reducible refine Kd.C_drew ?_)));(case side2=>exact HC0_0.out);(case side3=>repeat (first|exact (Kd.C_below HR0_1.out HB.out)|(with_reducible refine Kd.C_alloc ?_ _)|(with_reducible refine Kd.C_drewN ?_ _)|(with_reducible refine Kd.C_drew ?_)));(case side4=>exact HC0_1.out);(case side5=>exact Kd.C_nil _ _);(case side6=>exact Nat.le_refl _);rintro e w18 ⟨rfl,hb⟩;refine ⟨_,rfl,?_⟩;have n0_:=Aside0.mk (blk_below (g:=gb101) (o:=.cells #[.slice A0_0 l0_0.length c0_0,.slice A0_1 l0_1.length c0_1,.slice A0_2 l0_2.length c0_2] 26 (0,0)) (by (with_reducible repeat (first|refine blk_drewN ?_ _|refine blk_drew ?_|refine blk_alloc ?_ _));exact BK101.out) hb);have n1_:=Aside0.mk (below_step (by repeat (first|(with_reducible first|exact HB.out|apply below_alloc|apply pw_below_drewN|apply below_drew1|refine below_set ?_ GE101.out)|exact HB.out)) hb);clear BK101;clear HB;have BK101:=n0_;have HB:=n1_;clear n0_ n1_;(try clear hb);(try clear hb2);(try clear hk);(try clear hi);have hcz19_0:w18.cell? ⟨gb101,0,none⟩=some (.slice A0_0 l0_0.length c0_0):=(blk_cell BK101.out 0).trans rfl;have hcz19_1:w18.cell? ⟨gb101,1,none⟩=some (.slice A0_1 l0_1.length c0_1):=(blk_cell BK101.out 1).trans rfl;have hcz19_2:w18.cell? ⟨gb101,2,none⟩=some (.slice A0_2 l0_2.length c0_2):=(blk_cell BK101.out 2).trans rfl;have hfz19_0:=blk_frozen BK101.out 0;have hfz19_1:=blk_frozen BK101.out 1;have hfz19_2:=blk_frozen BK101.out 2)|((with_reducible refine gate_callee (f:=12) rfl ?_);refine goesL_ (some 34) rfl rfl Tryd.func12 (by kernel_rfl) rfl #[.slice A0_0 l0_0.length c0_0,.slice A1 l1.length c1,.slice none 0 0] rfl (by (try simp only [List.map_toArray,List.map_cons,List.map_nil]);first|done|rfl|(simp only [List.length_drop,List.length_take];rfl)) ?_;(refine (bill_Total.calls kj2 _ _ l0_0 _ _ l1 _ _ ([]:List (S56)) t106 t107 _ ?side1 ?side2 ?side3 ?side4 ?side5 ?side6 A15.out).mono ?_);(case side1=>repeat (first|exact (Kd.C_below HR0_0.out HB.out)|(with_reducible refine Kd.C_alloc ?_ _)|(with_reducible refine Kd.C_drewN ?_ _)|(with_reducible refine Kd.C_drew ?_)));(case side2=>exact HC0_0.out);(case side3=>repeat (first|exact (Kd.C_below HR1.out HB.out)|(with_reducible refine Kd.C_alloc ?_ _)|(with_reducible refine Kd.C_drewN ?_ _)|(with_reducible refine Kd.C_drew ?_)));(case side4=>exact HC1.out);(case side5=>exact Kd.C_nil _ _);(case side6=>exact Nat.le_refl _);rintro e w20 ⟨rfl,hb⟩;refine ⟨_,rfl,?_⟩;have n0_:=Aside0.mk (blk_below (g:=gb101) (o:=.cells #[.slice A0_0 l0_0.length c0_0,.slice A0_1 l0_1.length c0_1,.slice A0_2 l0_2.length c0_2] 26 (0,0)) (by (with_reducible repeat (first|refine blk_drewN ?_ _|refine blk_drew ?_|refine blk_alloc ?_ _));exact BK101.out) hb);have n1_:=Aside0.mk (below_step (by repeat (first|(with_reducible first|exact HB.out|apply below_alloc|apply pw_below_drewN|apply below_drew1|refine below_set ?_ GE101.out)|exact HB.out)) hb);clear BK101;clear HB;have BK101:=n0_;have HB:=n1_;clear n0_ n1_;(try clear hb);(try clear hb2);(try clear hk);(try clear hi)))
    (try simp only [Act.put,List.setIfInBounds_toArray,List.set_cons_zero,List.set_cons_succ])
    go_cut [42] (fun v42 wc=>∃ (kq:Nat) (x42_15:Bool),v42=.bool x42_15∧Aside0 (sawmilllaw50_BillAdds.j1 kq l1 t104 t106 x42_15 l0_0 l0_1 l0_2=some r)∧Aside0 (kq≤kj2)∧Aside0 (wc.heap[gb101]?=some (.cells #[(.slice A0_0 l0_0.length c0_0),(.slice A0_1 l0_1.length c0_1),(.slice A0_2 l0_2.length c0_2)] 26 (0,0)))∧Aside0 (Below w.heap.size w wc))
    case first =>
     have H:=HC16.out
     clear HC16
     by_cases c21:t105=0
     ·rw [if_pos c21] at H
      have c21b0:(t105 == 0)=true:=beq_iff_eq.mpr c21
      have c21b1:(t105 != 0)=false:=bne_eq_false_iff_eq.mpr c21
      clear c21
      (first|rw [c21b0]|(simp only [i64_w,i32_w];rw [c21b0])|skip)
      have H':=Aside0.mk H
      clear H
      go_wp2
      go_meet
      case rel=>exact ⟨_,((t107 != 0)),(by first|rfl|(simp;done)|(simp [*];done)),H',⟨by have:=HJ2.out;first|omega|exact Nat.le_refl _⟩,⟨by (with_reducible repeat (first|refine blk_drewN ?_ _|refine blk_drew ?_|refine blk_alloc ?_ _));exact BK101.out⟩,⟨by repeat (first|(with_reducible first|exact HB.out|apply below_alloc|apply pw_below_drewN|apply below_drew1|refine below_set ?_ GE101.out)|exact HB.out)⟩⟩
     ·rw [if_neg c21] at H
      have c21b0:(t105 == 0)=false:=beq_eq_false_iff_ne.mpr c21
      have c21b1:(t105 != 0)=true:=bne_iff_ne.mpr c21
      (first|rw [c21b0]|(simp only [i64_w,i32_w];rw [c21b0])|skip)
      have H':=Aside0.mk H
      clear H
      go_wp2
      go_meet
      case rel=>exact ⟨_,(true),(by first|rfl|(simp;done)|(simp [*];done)),H',⟨by have:=HJ2.out;first|omega|exact Nat.le_refl _⟩,⟨by (with_reducible repeat (first|refine blk_drewN ?_ _|refine blk_drew ?_|refine blk_alloc ?_ _));exact BK101.out⟩,⟨by repeat (first|(with_reducible first|exact HB.out|apply below_alloc|apply pw_below_drewN|apply below_drew1|refine below_set ?_ GE101.out)|exact HB.out)⟩⟩
    case rest =>
     clear HC16
     try clear c1
     try clear c2
     try clear p2
     try clear c6
     try clear c9
     try clear c10
     try clear c11
     try clear c12
     try clear c21
     try clear c21b0
     try clear c21b1
     try clear hcz17_0
     try clear hcz17_1
     try clear hcz17_2
     try clear hcz19_0
     try clear hcz19_1
     try clear hcz19_2
     try clear hcz7_0
     try clear hcz7_1
     try clear hcz7_2
     try clear hcz9_0
     try clear hcz9_1
     try clear hcz9_2
     try clear hfz17_0
     try clear hfz17_1
     try clear hfz17_2
     try clear hfz19_0
     try clear hfz19_1
     try clear hfz19_2
     try clear hfz7_0
     try clear hfz7_1
     try clear hfz7_2
     try clear hfz9_0
     try clear hfz9_1
     try clear hfz9_2
     try clear p2
     obtain ⟨kq,x42_15,rfl,HA,HJ15,BK101,HB⟩:=hcut
     cases kq with
     | zero=>exact absurd HA.out (by simp [sawmilllaw50_BillAdds.j1])
     | succ kj15 =>
      have H:=HA.out
      clear HA
      simp only [sawmilllaw50_BillAdds.j1] at H
      by_cases c22:x42_15=true
      ·subst c22
       have H1:((sawmilllaw50_awake.f kj15).bind fun t108=>(some t108))=some r:=by rw [if_pos rfl] at H;exact H
       clear H
       have H:=H1
       clear H1
       replace H:=Option.bind_eq_some_iff.mp H
       obtain ⟨t108,A230,H⟩:=H
       replace H:(some t108)=some r:=H
       have A23:=Aside0.mk A230
       clear A230
       obtain rfl:=Option.some.inj H
       go_wp2_with (first|((with_reducible refine gate_callee (f:=11) rfl ?_);refine goesL_ (some 43) rfl rfl Tryd.func11 (by kernel_rfl) rfl #[] rfl (by (try simp only [List.map_toArray,List.map_cons,List.map_nil]);first|done|rfl|(simp only [List.length_drop,List.length_take];rfl)) ?_;(with_reducible refine (sawmilllaw50_awake.calls kj15  t108 _ A23.out (glob_at HG_ (by repeat (first|(with_reducible first|exact HB.out|apply below_alloc|apply pw_below_drewN|apply below_drew1|refine below_set ?_ (Aside0.out (by assumption)))|exact HB.out)))).mono ?_);rintro e w24 ⟨rfl,hb⟩;refine ⟨_,rfl,?_⟩;have n0_:=Aside0.mk (blk_below (g:=gb101) (o:=.cells #[.slice A0_0 l0_0.length c0_0,.slice A0_1 l0_1.length c0_1,.slice A0_2 l0_2.length c0_2] 26 (0,0)) (by (with_reducible repeat (first|refine blk_drewN ?_ _|refine blk_drew ?_|refine blk_alloc ?_ _));exact BK101.out) hb);have n1_:=Aside0.mk (below_step (by repeat (first|(with_reducible first|exact HB.out|apply below_alloc|apply pw_below_drewN|apply below_drew1|refine below_set ?_ GE101.out)|exact HB.out)) hb);clear BK101;clear HB;have BK101:=n0_;have HB:=n1_;clear n0_ n1_;(try clear hb);(try clear hb2);(try clear hk);(try clear hi)))
       go_ret
       exact ⟨by first|rfl|(simp [errW_none,errW_some]<;>rfl)|(simp [*,errW_none,errW_some]<;>rfl),by repeat (first|(with_reducible first|exact HB.out|apply below_alloc|apply pw_below_drewN|apply below_drew1|refine below_set ?_ GE101.out)|exact HB.out)⟩
      ·replace c22:=Bool.eq_false_iff.mpr c22
       subst c22
       have H1:((some (([]:List (S35)):List (S35))).bind fun y109=>(if y109.length+l0_1.length < 4398046511104 then ((some (y109++l0_1:List (S35))).bind fun y112=>(if y112.length+l1.length < 4398046511104 then ((bill_Total.f kj15 l0_0 (y112++l1) ([]:List (S56))).bind fun bt118=>(if (wrap64 ((l0_1.length:Int)+(l1.length:Int)))≤32 then (if bt118.2=0 then (sawmilllaw50_BillAdds.j2 kj15 t104 (bt118.1 != (wrap64 (t104+t106))) l0_0 l0_1 l0_2) else (sawmilllaw50_BillAdds.j2 kj15 t104 true l0_0 l0_1 l0_2)) else (sawmilllaw50_BillAdds.j2 kj15 t104 false l0_0 l0_1 l0_2))) else (none))) else (none)))=some r:=by rw [if_neg (show ¬ (false=true) by decide)] at H;exact H
       clear H
       have H:=H1
       clear H1
       obtain ⟨y109,hy109⟩:∃ y_:List (S35),y_=(([]:List (S35))):=⟨_,rfl⟩
       replace H:(if y109.length+l0_1.length < 4398046511104 then ((some (y109++l0_1:List (S35))).bind fun y112=>(if y112.length+l1.length < 4398046511104 then ((bill_Total.f kj15 l0_0 (y112++l1) ([]:List (S56))).bind fun bt118=>(if (wrap64 ((l0_1.length:Int)+(l1.length:Int)))≤32 then (if bt118.2=0 then (sawmilllaw50_BillAdds.j2 kj15 t104 (bt118.1 != (wrap64 (t104+t106))) l0_0 l0_1 l0_2) else (sawmilllaw50_BillAdds.j2 kj15 t104 true l0_0 l0_1 l0_2)) else (sawmilllaw50_BillAdds.j2 kj15 t104 false l0_0 l0_1 l0_2))) else (none))) else (none))=some r:=by first|(rw [hy109];with_reducible exact H)|(have H2_:=(Option.bind_some _ _).symm.trans H;rw [hy109];with_reducible exact H2_)|(have H2_:=(Option.bind_some _ _).symm.trans H;with_reducible exact H2_)|with_reducible exact H|(rw [hy109];exact H)|exact H
       have Ny109:=Aside0.mk hy109
       clear hy109
       by_cases c25:y109.length+l0_1.length < 4398046511104
       ·rw [if_pos c25] at H
        have LMc25:=Aside0.mk c25
        clear c25
        obtain ⟨y112,hy112⟩:∃ y_:List (S35),y_=(y109++l0_1):=⟨_,rfl⟩
        replace H:(if y112.length+l1.length < 4398046511104 then ((bill_Total.f kj15 l0_0 (y112++l1) ([]:List (S56))).bind fun bt118=>(if (wrap64 ((l0_1.length:Int)+(l1.length:Int)))≤32 then (if bt118.2=0 then (sawmilllaw50_BillAdds.j2 kj15 t104 (bt118.1 != (wrap64 (t104+t106))) l0_0 l0_1 l0_2) else (sawmilllaw50_BillAdds.j2 kj15 t104 true l0_0 l0_1 l0_2)) else (sawmilllaw50_BillAdds.j2 kj15 t104 false l0_0 l0_1 l0_2))) else (none))=some r:=by first|(rw [hy112];with_reducible exact H)|(have H2_:=(Option.bind_some _ _).symm.trans H;rw [hy112];with_reducible exact H2_)|(have H2_:=(Option.bind_some _ _).symm.trans H;with_reducible exact H2_)|with_reducible exact H|(rw [hy112];exact H)|exact H
        have Ny112:=Aside0.mk hy112
        clear hy112
        by_cases c26:y112.length+l1.length < 4398046511104
        ·rw [if_pos c26] at H
         have LMc26:=Aside0.mk c26
         clear c26
         obtain ⟨y115,hy115⟩:∃ y_:List (S35),y_=(y112++l1):=⟨_,rfl⟩
         replace H:((bill_Total.f kj15 l0_0 y115 ([]:List (S56))).bind fun bt118=>(if (wrap64 ((l0_1.length:Int)+(l1.length:Int)))≤32 then (if bt118.2=0 then (sawmilllaw50_BillAdds.j2 kj15 t104 (bt118.1 != (wrap64 (t104+t106))) l0_0 l0_1 l0_2) else (sawmilllaw50_BillAdds.j2 kj15 t104 true l0_0 l0_1 l0_2)) else (sawmilllaw50_BillAdds.j2 kj15 t104 false l0_0 l0_1 l0_2)))=some r:=by first|(rw [hy115];with_reducible exact H)|(have H2_:=(Option.bind_some _ _).symm.trans H;rw [hy115];with_reducible exact H2_)|(have H2_:=(Option.bind_some _ _).symm.trans H;with_reducible exact H2_)|with_reducible exact H|(rw [hy115];exact H)|exact H
         have Ny115:=Aside0.mk hy115
         clear hy115
         replace H:=Option.bind_eq_some_iff.mp H
         obtain ⟨⟨t118,t119⟩,A270,H⟩:=H
         replace H:(if (wrap64 ((l0_1.length:Int)+(l1.length:Int)))≤32 then (if t119=0 then (sawmilllaw50_BillAdds.j2 kj15 t104 (t118 != (wrap64 (t104+t106))) l0_0 l0_1 l0_2) else (sawmilllaw50_BillAdds.j2 kj15 t104 true l0_0 l0_1 l0_2)) else (sawmilllaw50_BillAdds.j2 kj15 t104 false l0_0 l0_1 l0_2))=some r:=H
         have A27:=Aside0.mk A270
         clear A270
         have HC28:=Aside0.mk H
         clear H
         try go_wp2
         have n0_:=Aside0.mk (blk_drew BK101.out)
         have n1_:=Aside0.mk (below_drew1 HB.out)
         clear BK101
         clear HB
         have BK101:=n0_
         have HB:=n1_
         clear n0_ n1_
         refine start_ (n:=14) (S:=fun w'=>w'.cell? ⟨gb101,0,none⟩=some (.slice A0_0 l0_0.length c0_0)∧w'.cell? ⟨gb101,1,none⟩=some (.slice A0_1 l0_1.length c0_1)∧w'.cell? ⟨gb101,2,none⟩=some (.slice A0_2 l0_2.length c0_2)) (ds:=[]) (bitsA 14 0) (by kernel_rfl) rfl rfl ⟨(blk_cell BK101.out 0).trans rfl,(blk_cell BK101.out 1).trans rfl,(blk_cell BK101.out 2).trans rfl⟩ (fun hHeld=>?_);refine with_tabW sawmilllaw50_BillAdds.tab7 sawmilllaw50_BillAdds.bits7 (fun HT_ HW_=>?_)
         generalize wc.drew=w29 at BK101 HB hHeld ⊢
         refine pure_ (i:=0) (N:=some 45) (v:=?_) (a':=?_) (bitsA 14 1) rfl rfl (any_of HT_.out (by kernel_rfl)) (fun _ _ _ h=>h) (Or.inl ⟨by rfl,?_⟩) ?_ ?_
         rotate_left;(intro w';go_simp;with_reducible rfl);rotate_left;(simp only [Act.put,List.setIfInBounds_toArray,List.set_cons_zero,List.set_cons_succ,i64_w,i32_w];rfl)
         refine pure_ (i:=3) (N:=some 48) (v:=?_) (a':=?_) (bitsA 14 9) rfl rfl (any_of HT_.out (by kernel_rfl)) (fun _ _ _ h=>h) (Or.inl ⟨by rfl,?_⟩) ?_ ?_
         rotate_left;(intro w';go_simp;with_reducible rfl);rotate_left;(simp only [Act.put,List.setIfInBounds_toArray,List.set_cons_zero,List.set_cons_succ,i64_w,i32_w];rfl)
         refine pure_ (i:=6) (N:=some 51) (v:=?_) (a':=?_) (bitsA 14 73) rfl rfl (any_of HT_.out (by kernel_rfl)) (fun _ _ _ h=>h) (Or.inl ⟨by rfl,?_⟩) ?_ ?_
         rotate_left;(intro w';go_simp;with_reducible rfl);rotate_left;(simp only [Act.put,List.setIfInBounds_toArray,List.set_cons_zero,List.set_cons_succ,i64_w,i32_w];rfl)
         refine take_ (i:=1) (N:=some 46) (v:=?_) (a':=?_) (bitsA 14 75) rfl rfl (take_ofW HT_.out HW_.out (by kernel_rfl)) (fun _ _ _ h=>h) (Or.inl ⟨by rfl,?_⟩) hHeld ?_ ?_
         rotate_left;(rintro w' ⟨s0,s1,s2⟩;go_simp;with_reducible rfl);rotate_left;(simp only [Act.put,List.setIfInBounds_toArray,List.set_cons_zero,List.set_cons_succ,i64_w,i32_w];rfl)
         refine take_ (i:=4) (N:=some 49) (v:=?_) (a':=?_) (bitsA 14 91) rfl rfl (take_ofW HT_.out HW_.out (by kernel_rfl)) (fun _ _ _ h=>h) (Or.inl ⟨by rfl,?_⟩) hHeld ?_ ?_
         rotate_left;(rintro w' ⟨s0,s1,s2⟩;go_simp;with_reducible rfl);rotate_left;(simp only [Act.put,List.setIfInBounds_toArray,List.set_cons_zero,List.set_cons_succ,i64_w,i32_w];rfl)
         refine one_ (i:=2) (N:=some 47) (bitsA 14 95) rfl rfl (one_of HT_.out (by kernel_rfl)) (by decide) (fun K hK=>?_)
         refine Kd.R_lit_step k35 _ 35 ?hg (N:=47) ?hd (xs:=([]:List (S35))) (inner:=[]) (ok:=fun _=>True) (okp:=fun _=>True) ?hr ?hp (fun _ hk=>hk) trivial (Below.refl _ _) (Nat.le_refl _) (by simp) ?_;(case hd=>rfl);(case hg=>rfl);(case hr=>first|(go_simp;done)|(go_simp;rfl));(case hp=>exact (Reps.none _ _))
         intro v110 w30 ho31 hb hg_ hnew_
         clear hg_ hnew_
         (first|rw [← Ny109.out] at ho31|(simp only [Int.reduceToNat] at ho31;rw [← Ny109.out] at ho31))
         have n0_:=Aside0.mk (Kd.R_lower ho31 (below_size (by repeat (first|(with_reducible first|exact HB.out|apply below_alloc|apply pw_below_drewN|apply below_drew1|refine below_set ?_ GE101.out)|exact HB.out))))
         have n1_:=Aside0.mk (blk_below (g:=gb101) (o:=.cells #[.slice A0_0 l0_0.length c0_0,.slice A0_1 l0_1.length c0_1,.slice A0_2 l0_2.length c0_2] 26 (0,0)) (by (with_reducible repeat (first|refine blk_drewN ?_ _|refine blk_drew ?_|refine blk_alloc ?_ _));exact BK101.out) hb)
         have n2_:=Aside0.mk (below_step (by repeat (first|(with_reducible first|exact HB.out|apply below_alloc|apply pw_below_drewN|apply below_drew1|refine below_set ?_ GE101.out)|exact HB.out)) hb)
         clear BK101
         clear HB
         have HO111:=n0_
         have BK101:=n1_
         have HB:=n2_
         clear n0_ n1_ n2_
         clear hb ho31
         refine hK.out _ _ ⟨(blk_cell BK101.out 0).trans rfl,(blk_cell BK101.out 1).trans rfl,(blk_cell BK101.out 2).trans rfl⟩ (fun hHeld=>?_)
         clear hK K
         refine norm_ (a':=?_) ?_ ?_
         rotate_left
         ·show Act.put _ (some 47) _=_
          simp only [Act.put,List.setIfInBounds_toArray,List.set_cons_zero,List.set_cons_succ,i64_w,i32_w]
          rfl
         refine one_ (i:=5) (N:=some 50) (bitsA 14 127) rfl rfl (one_of HT_.out (by kernel_rfl)) (by decide) (fun K hK=>?_)
         refine Kd.R_append_rows_step k35 (w0:=w) w.heap.size (by rfl) (.tmp 47) (.tmp 49) 23 35 (.agg #[(.int .i64 0),(.int .i64 0),(.int .i64 0),(.int .i64 0)]) 32 rfl Tryd.underlying23 info35 rfl (by decide) (by omega) v110 y109 l0_1 _ _ _ (fun _=>True) (fun _=>False) rfl rfl ?aO ?aR (fun _ _ h=>h) (fun _ h=>h.elim) ?aF ?aB ?aS ?aL ?_
         (case aR=>repeat (first|exact (Kd.C_below HR0_1.out HB.out)|(with_reducible refine Kd.C_alloc ?_ _)|(with_reducible refine Kd.C_drewN ?_ _)|(with_reducible refine Kd.C_drew ?_)))
         (case aB=>exact (by repeat (first|(with_reducible first|exact HB.out|apply below_alloc|apply pw_below_drewN|apply below_drew1|refine below_set ?_ GE101.out)|exact HB.out)))
         (case aF=>exact (fun _ _=>trivial))
         (case aO=>exact (by (with_reducible repeat (first|apply Kd.R_alloc|apply Kd.R_drewN|apply Kd.R_drew));exact HO111.out))
         (case aS=>exact (below_size (by repeat (first|(with_reducible first|exact HB.out|apply below_alloc|apply pw_below_drewN|apply below_drew1|refine below_set ?_ GE101.out)|exact HB.out))))
         (case aL=>have:=LMc25.out;omega)
         intro v113 w32 ho hb hg hat
         rw [← Ny112.out] at ho
         have n0_:=Aside0.mk (blk_grown (g:=gb101) (o:=.cells #[.slice A0_0 l0_0.length c0_0,.slice A0_1 l0_1.length c0_1,.slice A0_2 l0_2.length c0_2] 26 (0,0)) (by (with_reducible repeat (first|refine blk_drewN ?_ _|refine blk_drew ?_|refine blk_alloc ?_ _));exact BK101.out) hg (Kd.R_ne HO111.out BK101.out (by decide)))
         have n1_:=Aside0.mk (hb)
         have n2_:=Aside0.mk (ho)
         clear BK101
         clear HB
         clear HO111
         have BK101:=n0_
         have HB:=n1_
         have HO114:=n2_
         clear n0_ n1_ n2_
         clear ho hb hg hat
         refine hK.out _ _ ⟨(blk_cell BK101.out 0).trans rfl,(blk_cell BK101.out 1).trans rfl,(blk_cell BK101.out 2).trans rfl⟩ (fun hHeld=>?_)
         clear hK K
         refine norm_ (a':=?_) ?_ ?_
         rotate_left
         ·show Act.put _ (some 50) _=_
          simp only [Act.put,List.setIfInBounds_toArray,List.set_cons_zero,List.set_cons_succ,i64_w,i32_w]
          rfl
         refine one_ (i:=7) (N:=some 52) (bitsA 14 255) rfl rfl (one_of HT_.out (by kernel_rfl)) (by decide) (fun K hK=>?_)
         refine Kd.R_append_rows_step k35 (w0:=w) w.heap.size (by rfl) (.tmp 50) (.tmp 51) 23 35 (.agg #[(.int .i64 0),(.int .i64 0),(.int .i64 0),(.int .i64 0)]) 32 rfl Tryd.underlying23 info35 rfl (by decide) (by omega) v113 y112 l1 _ _ _ (fun _=>True) (fun _=>False) rfl rfl ?aO ?aR (fun _ _ h=>h) (fun _ h=>h.elim) ?aF ?aB ?aS ?aL ?_
         (case aR=>repeat (first|exact (Kd.C_below HR1.out HB.out)|(with_reducible refine Kd.C_alloc ?_ _)|(with_reducible refine Kd.C_drewN ?_ _)|(with_reducible refine Kd.C_drew ?_)))
         (case aB=>exact (by repeat (first|(with_reducible first|exact HB.out|apply below_alloc|apply pw_below_drewN|apply below_drew1|refine below_set ?_ GE101.out)|exact HB.out)))
         (case aF=>exact (fun _ _=>trivial))
         (case aO=>exact (by (with_reducible repeat (first|apply Kd.R_alloc|apply Kd.R_drewN|apply Kd.R_drew));exact HO114.out))
         (case aS=>exact (below_size (by repeat (first|(with_reducible first|exact HB.out|apply below_alloc|apply pw_below_drewN|apply below_drew1|refine below_set ?_ GE101.out)|exact HB.out))))
         (case aL=>have:=LMc26.out;omega)
         intro v116 w33 ho hb hg hat
         rw [← Ny115.out] at ho
         have n0_:=Aside0.mk (blk_grown (g:=gb101) (o:=.cells #[.slice A0_0 l0_0.length c0_0,.slice A0_1 l0_1.length c0_1,.slice A0_2 l0_2.length c0_2] 26 (0,0)) (by (with_reducible repeat (first|refine blk_drewN ?_ _|refine blk_drew ?_|refine blk_alloc ?_ _));exact BK101.out) hg (Kd.R_ne HO114.out BK101.out (by decide)))
         have n1_:=Aside0.mk (hb)
         have n2_:=Aside0.mk (ho)
         clear BK101
         clear HB
         clear HO114
         have BK101:=n0_
         have HB:=n1_
         have HO117:=n2_
         clear n0_ n1_ n2_
         clear ho hb hg hat
         obtain ⟨Ao34,co34,eo34⟩:=Kd.R_slice HO117.out
         (first|subst eo34|(injection eo34 with f1_ f2_ f3_;have f4_:=f1_.symm;have f5_:=f3_.symm;clear f1_ f2_ f3_;subst f4_;subst f5_))
         refine hK.out _ _ ⟨(blk_cell BK101.out 0).trans rfl,(blk_cell BK101.out 1).trans rfl,(blk_cell BK101.out 2).trans rfl⟩ (fun hHeld=>?_)
         clear hK K
         refine norm_ (a':=?_) ?_ ?_
         rotate_left
         ·show Act.put _ (some 52) _=_
          simp only [Act.put,List.setIfInBounds_toArray,List.set_cons_zero,List.set_cons_succ,i64_w,i32_w]
          rfl
         refine one_ (i:=8) (N:=some 53) (bitsA 14 511) rfl rfl (one_of HT_.out (by kernel_rfl)) (by decide) (fun K hK=>?_)
         refine goes_ Tryd.func12 (by kernel_rfl) rfl #[.slice A0_0 l0_0.length c0_0,.slice Ao34 y115.length co34,.slice none 0 0] (by rfl) rfl rfl (by (try simp only [List.map_toArray,List.map_cons,List.map_nil]);first|done|rfl|(simp only [List.length_drop,List.length_take];rfl)) ?_
         refine (bill_Total.calls kj15 _ _ l0_0 _ _ y115 _ _ ([]:List (S56)) t118 t119 _ ?side1 ?side2 ?side3 ?side4 ?side5 ?side6 A27.out).mono ?_
         (case side1=>repeat (first|exact (Kd.C_below HR0_0.out HB.out)|(with_reducible refine Kd.C_alloc ?_ _)|(with_reducible refine Kd.C_drewN ?_ _)|(with_reducible refine Kd.C_drew ?_)))
         (case side2=>exact HC0_0.out)
         (case side3=>repeat (first|exact (Kd.R_reads' HO117.out).2.2|(with_reducible refine Kd.C_alloc ?_ _)|(with_reducible refine Kd.C_drewN ?_ _)|(with_reducible refine Kd.C_drew ?_)))
         (case side4=>exact (Kd.R_reads' HO117.out).2.1)
         (case side5=>exact Kd.C_nil _ _)
         (case side6=>exact Nat.le_refl _)
         rintro e w35 ⟨rfl,hb⟩
         refine ⟨_,rfl,?_⟩
         have n0_:=Aside0.mk (Kd.R_below (by (with_reducible repeat (first|apply Kd.R_alloc|apply Kd.R_drewN|apply Kd.R_drew));exact HO117.out) hb)
         have n1_:=Aside0.mk (blk_below (g:=gb101) (o:=.cells #[.slice A0_0 l0_0.length c0_0,.slice A0_1 l0_1.length c0_1,.slice A0_2 l0_2.length c0_2] 26 (0,0)) (by (with_reducible repeat (first|refine blk_drewN ?_ _|refine blk_drew ?_|refine blk_alloc ?_ _));exact BK101.out) hb)
         have n2_:=Aside0.mk (below_step (by repeat (first|(with_reducible first|exact HB.out|apply below_alloc|apply pw_below_drewN|apply below_drew1|refine below_set ?_ GE101.out)|exact HB.out)) hb)
         clear HO117
         clear BK101
         clear HB
         have HO117:=n0_
         have BK101:=n1_
         have HB:=n2_
         clear n0_ n1_ n2_
         (try clear hb)
         (try clear hb2)
         (try clear hk)
         (try clear hi)
         refine hK.out _ _ ⟨(blk_cell BK101.out 0).trans rfl,(blk_cell BK101.out 1).trans rfl,(blk_cell BK101.out 2).trans rfl⟩ (fun hHeld=>?_)
         clear hK K
         refine norm_ (a':=?_) ?_ ?_
         rotate_left
         ·show Act.put _ (some 53) _=_
          simp only [Act.put,List.setIfInBounds_toArray,List.set_cons_zero,List.set_cons_succ,i64_w,i32_w]
          rfl
         refine pure_ (i:=9) (N:=some 44) (v:=?_) (a':=?_) (bitsA 14 1023) rfl rfl (any_of HT_.out (by kernel_rfl)) (fun _ _ _ h=>h) (Or.inl ⟨by rfl,?_⟩) ?_ ?_
         rotate_left;(intro w';go_simp;with_reducible rfl);rotate_left;(simp only [Act.put,List.setIfInBounds_toArray,List.set_cons_zero,List.set_cons_succ,i64_w,i32_w];rfl)
         refine pure_ (i:=10) (N:=some 54) (v:=?_) (a':=?_) (bitsA 14 2047) rfl rfl (any_of HT_.out (by kernel_rfl)) (fun _ _ _ h=>h) (Or.inl ⟨by rfl,?_⟩) ?_ ?_
         rotate_left;(intro w';go_simp;with_reducible rfl);rotate_left;(simp only [Act.put,List.setIfInBounds_toArray,List.set_cons_zero,List.set_cons_succ,i64_w,i32_w];rfl)
         refine pure_ (i:=11) (N:=some 55) (v:=?_) (a':=?_) (bitsA 14 4095) rfl rfl (any_of HT_.out (by kernel_rfl)) (fun _ _ _ h=>h) (Or.inl ⟨by rfl,?_⟩) ?_ ?_
         rotate_left;(intro w';go_simp;with_reducible rfl);rotate_left;(simp only [Act.put,List.setIfInBounds_toArray,List.set_cons_zero,List.set_cons_succ,i64_w,i32_w];rfl)
         refine pure_ (i:=12) (N:=some 9) (v:=?_) (a':=?_) (bitsA 14 8191) rfl rfl (any_of HT_.out (by kernel_rfl)) (fun _ _ _ h=>h) (Or.inl ⟨by rfl,?_⟩) ?_ ?_
         rotate_left;(intro w';go_simp;with_reducible rfl);rotate_left;(simp only [Act.put,List.setIfInBounds_toArray,List.set_cons_zero,List.set_cons_succ,i64_w,i32_w];rfl)
         refine pure_ (i:=13) (N:=some 10) (v:=?_) (a':=?_) (bitsA 14 16383) rfl rfl (any_of HT_.out (by kernel_rfl)) (fun _ _ _ h=>h) (Or.inl ⟨by rfl,?_⟩) ?_ ?_
         rotate_left;(intro w';go_simp;with_reducible rfl);rotate_left;(simp only [Act.put,List.setIfInBounds_toArray,List.set_cons_zero,List.set_cons_succ,i64_w,i32_w];rfl)
         refine done_ (done_of HT_.out (by kernel_rfl)) ?_
         go_upto_region 8 with (fail)
         go_cut [73] (fun v73 wc=>∃ (kq:Nat) (x73_27:Bool),v73=.bool x73_27∧Aside0 (sawmilllaw50_BillAdds.j2 kq t104 x73_27 l0_0 l0_1 l0_2=some r)∧Aside0 (kq≤kj15)∧Aside0 (wc.heap[gb101]?=some (.cells #[(.slice A0_0 l0_0.length c0_0),(.slice A0_1 l0_1.length c0_1),(.slice A0_2 l0_2.length c0_2)] 26 (0,0)))∧Aside0 (Below w.heap.size w wc))
         case first =>
          have H:=HC28.out
          clear HC28
          by_cases c36:(wrap64 ((l0_1.length:Int)+(l1.length:Int)))≤32
          ·rw [if_pos c36] at H
           have c36b0:decide ((wrap64 ((l0_1.length:Int)+(l1.length:Int)))≤32)=true:=decide_eq_true c36
           clear c36
           (first|rw [c36b0]|(simp only [i64_w,i32_w];rw [c36b0])|skip)
           by_cases c37:t119=0
           ·rw [if_pos c37] at H
            have c37b0:(t119 == 0)=true:=beq_iff_eq.mpr c37
            have c37b1:(t119 != 0)=false:=bne_eq_false_iff_eq.mpr c37
            clear c37
            have H':=Aside0.mk H
            clear H
            have hcz38_0:w35.cell? ⟨gb101,0,none⟩=some (.slice A0_0 l0_0.length c0_0):=(blk_cell BK101.out 0).trans rfl
            have hcz38_1:w35.cell? ⟨gb101,1,none⟩=some (.slice A0_1 l0_1.length c0_1):=(blk_cell BK101.out 1).trans rfl
            have hcz38_2:w35.cell? ⟨gb101,2,none⟩=some (.slice A0_2 l0_2.length c0_2):=(blk_cell BK101.out 2).trans rfl
            have hfz38_0:=blk_frozen BK101.out 0
            have hfz38_1:=blk_frozen BK101.out 1
            have hfz38_2:=blk_frozen BK101.out 2
            go_wp2
            go_meet
            case rel=>exact ⟨_,((t118 != (wrap64 (t104+t106)))),(by first|rfl|(simp;done)|(simp [*];done)),H',⟨by have:=HJ2.out;have:=HJ15.out;first|omega|exact Nat.le_refl _⟩,⟨by (with_reducible repeat (first|refine blk_drewN ?_ _|refine blk_drew ?_|refine blk_alloc ?_ _));exact BK101.out⟩,⟨by repeat (first|(with_reducible first|exact HB.out|apply below_alloc|apply pw_below_drewN|apply below_drew1|refine below_set ?_ GE101.out)|exact HB.out)⟩⟩
           ·rw [if_neg c37] at H
            have c37b0:(t119 == 0)=false:=beq_eq_false_iff_ne.mpr c37
            have c37b1:(t119 != 0)=true:=bne_iff_ne.mpr c37
            have H':=Aside0.mk H
            clear H
            have hcz39_0:w35.cell? ⟨gb101,0,none⟩=some (.slice A0_0 l0_0.length c0_0):=(blk_cell BK101.out 0).trans rfl
            have hcz39_1:w35.cell? ⟨gb101,1,none⟩=some (.slice A0_1 l0_1.length c0_1):=(blk_cell BK101.out 1).trans rfl
            have hcz39_2:w35.cell? ⟨gb101,2,none⟩=some (.slice A0_2 l0_2.length c0_2):=(blk_cell BK101.out 2).trans rfl
            have hfz39_0:=blk_frozen BK101.out 0
            have hfz39_1:=blk_frozen BK101.out 1
            have hfz39_2:=blk_frozen BK101.out 2
            go_wp2
            go_meet
            case rel=>exact ⟨_,(true),(by first|rfl|(simp;done)|(simp [*];done)),H',⟨by have:=HJ2.out;have:=HJ15.out;first|omega|exact Nat.le_refl _⟩,⟨by (with_reducible repeat (first|refine blk_drewN ?_ _|refine blk_drew ?_|refine blk_alloc ?_ _));exact BK101.out⟩,⟨by repeat (first|(with_reducible first|exact HB.out|apply below_alloc|apply pw_below_drewN|apply below_drew1|refine below_set ?_ GE101.out)|exact HB.out)⟩⟩
          ·rw [if_neg c36] at H
           have c36b0:decide ((wrap64 ((l0_1.length:Int)+(l1.length:Int)))≤32)=false:=decide_eq_false c36
           clear c36
           (first|rw [c36b0]|(simp only [i64_w,i32_w];rw [c36b0])|skip)
           have H':=Aside0.mk H
           clear H
           have hcz40_0:w35.cell? ⟨gb101,0,none⟩=some (.slice A0_0 l0_0.length c0_0):=(blk_cell BK101.out 0).trans rfl
           have hcz40_1:w35.cell? ⟨gb101,1,none⟩=some (.slice A0_1 l0_1.length c0_1):=(blk_cell BK101.out 1).trans rfl
           have hcz40_2:w35.cell? ⟨gb101,2,none⟩=some (.slice A0_2 l0_2.length c0_2):=(blk_cell BK101.out 2).trans rfl
           have hfz40_0:=blk_frozen BK101.out 0
           have hfz40_1:=blk_frozen BK101.out 1
           have hfz40_2:=blk_frozen BK101.out 2
           go_wp2
           go_meet
           case rel=>exact ⟨_,(false),(by first|rfl|(simp;done)|(simp [*];done)),H',⟨by have:=HJ2.out;have:=HJ15.out;first|omega|exact Nat.le_refl _⟩,⟨by (with_reducible repeat (first|refine blk_drewN ?_ _|refine blk_drew ?_|refine blk_alloc ?_ _));exact BK101.out⟩,⟨by repeat (first|(with_reducible first|exact HB.out|apply below_alloc|apply pw_below_drewN|apply below_drew1|refine below_set ?_ GE101.out)|exact HB.out)⟩⟩
         case rest =>
          clear HC28
          try clear c1
          try clear c2
          try clear p2
          try clear c3
          try clear c6
          try clear p6
          try clear c9
          try clear c10
          try clear c11
          try clear c12
          try clear c21
          try clear c21b0
          try clear c21b1
          try clear c22
          try clear c25
          try clear c26
          try clear c36
          try clear c36b0
          try clear c37
          try clear c37b0
          try clear c37b1
          try clear hcz17_0
          try clear hcz17_1
          try clear hcz17_2
          try clear hcz19_0
          try clear hcz19_1
          try clear hcz19_2
          try clear hcz38_0
          try clear hcz38_1
          try clear hcz38_2
          try clear hcz39_0
          try clear hcz39_1
          try clear hcz39_2
          try clear hcz40_0
          try clear hcz40_1
          try clear hcz40_2
          try clear hcz7_0
          try clear hcz7_1
          try clear hcz7_2
          try clear hcz9_0
          try clear hcz9_1
          try clear hcz9_2
          try clear hfz17_0
          try clear hfz17_1
          try clear hfz17_2
          try clear hfz19_0
          try clear hfz19_1
          try clear hfz19_2
          try clear hfz38_0
          try clear hfz38_1
          try clear hfz38_2
          try clear hfz39_0
          try clear hfz39_1
          try clear hfz39_2
          try clear hfz40_0
          try clear hfz40_1
          try clear hfz40_2
          try clear hfz7_0
          try clear hfz7_1
          try clear hfz7_2
          try clear hfz9_0
          try clear hfz9_1
          try clear hfz9_2
          try clear p2
          obtain ⟨kq,x73_27,rfl,HA,HJ27,BK101,HB⟩:=hcut
          cases kq with
          | zero=>exact absurd HA.out (by simp [sawmilllaw50_BillAdds.j2])
          | succ kj27 =>
           have H:=HA.out
           clear HA
           simp only [sawmilllaw50_BillAdds.j2] at H
           by_cases c41:x73_27=true
           ·subst c41
            have H1:(some false)=some r:=by rw [if_pos rfl] at H;exact H
            clear H
            have H:=H1
            clear H1
            obtain rfl:=Option.some.inj H
            go_wp2
            go_ret
            exact ⟨by first|rfl|(simp [errW_none,errW_some]<;>rfl)|(simp [*,errW_none,errW_some]<;>rfl),by repeat (first|(with_reducible first|exact HB.out|apply below_alloc|apply pw_below_drewN|apply below_drew1|refine below_set ?_ GE101.out)|exact HB.out)⟩
           ·replace c41:=Bool.eq_false_iff.mpr c41
            subst c41
            have H1:((bill_Total.f kj27 l0_0 l0_1 l0_2).bind fun bt120=>(if bt120.2=0 then (if bt120.1 ≥ 0 then (if bt120.1≤t104 then ((sawmilllaw50_awake.f kj27).bind fun t122=>(some t122)) else (some false)) else (some false)) else ((sawmilllaw50_awake.f kj27).bind fun t123=>(some t123))))=some r:=by rw [if_neg (show ¬ (false=true) by decide)] at H;exact H
            clear H
            have H:=H1
            clear H1
            replace H:=Option.bind_eq_some_iff.mp H
            obtain ⟨⟨t120,t121⟩,A420,H⟩:=H
            replace H:(if t121=0 then (if t120 ≥ 0 then (if t120≤t104 then ((sawmilllaw50_awake.f kj27).bind fun t122=>(some t122)) else (some false)) else (some false)) else ((sawmilllaw50_awake.f kj27).bind fun t123=>(some t123)))=some r:=H
            have A42:=Aside0.mk A420
            clear A420
            by_cases c43:t121=0
            ·rw [if_pos c43] at H
             have c43b0:(t121 == 0)=true:=beq_iff_eq.mpr c43
             have c43b1:(t121 != 0)=false:=bne_eq_false_iff_eq.mpr c43
             clear c43
             by_cases c44:t120 ≥ 0
             ·rw [if_pos c44] at H
              have c44b0:decide (0≤t120)=true:=decide_eq_true c44
              clear c44
              by_cases c45:t120≤t104
              ·rw [if_pos c45] at H
               have c45b0:decide (t120≤t104)=true:=decide_eq_true c45
               clear c45
               replace H:=Option.bind_eq_some_iff.mp H
               obtain ⟨t122,A460,H⟩:=H
               replace H:(some t122)=some r:=H
               have A46:=Aside0.mk A460
               clear A460
               obtain rfl:=Option.some.inj H
               have hcz47_0:wc.cell? ⟨gb101,0,none⟩=some (.slice A0_0 l0_0.length c0_0):=(blk_cell BK101.out 0).trans rfl
               have hcz47_1:wc.cell? ⟨gb101,1,none⟩=some (.slice A0_1 l0_1.length c0_1):=(blk_cell BK101.out 1).trans rfl
               have hcz47_2:wc.cell? ⟨gb101,2,none⟩=some (.slice A0_2 l0_2.length c0_2):=(blk_cell BK101.out 2).trans rfl
               have hfz47_0:=blk_frozen BK101.out 0
               have hfz47_1:=blk_frozen BK101.out 1
               have hfz47_2:=blk_frozen BK101.out 2
               go_wp2_with (first|((with_reducible refine gate_callee (f:=12) rfl ?_);refine goesL_ (some 81) rfl rfl Tryd.func12 (by kernel_rfl) rfl #[.slice A0_0 l0_0.length c0_0,.slice A0_1 l0_1.length c0_1,.slice A0_2 l0_2.length c0_2] rfl (by (try simp only [List.map_toArray,List.map_cons,List.map_nil]);first|done|rfl|(simp only [List.length_drop,List.length_take];rfl)) ?_;(with_reducible refine (bill_Total.calls kj27 _ _ l0_0 _ _ l0_1 _ _ l0_2 t120 t121 _ ?side1 ?side2 ?side3 ?side4 ?side5 ?side6 A42.out).mono ?_);(case side1=>repeat (first|exact (Kd.C_below HR0_0.out HB.out)|(with_reducible refine Kd.C_alloc ?_ _)|(with_reducible refine Kd.C_drewN ?_ _)|(with_reducible refine Kd.C_drew ?_)));(case side2=>exact HC0_0.out);(case side3=>repeat (first|exact (Kd.C_below HR0_1.out HB.out)|(with_reducible refine Kd.C_alloc ?_ _)|(with_reducible refine Kd.C_drewN ?_ _)|(with_reducible refine Kd.C_drew ?_)));(case side4=>exact HC0_1.out);(case side5=>repeat (first|exact (Kd.C_below HR0_2.out HB.out)|(with_reducible refine Kd.C_alloc ?_ _)|(with_reducible refine Kd.C_drewN ?_ _)|(with_reducible refine Kd.C_drew ?_)));(case side6=>exact HC0_2.out);rintro e w48 ⟨rfl,hb⟩;refine ⟨_,rfl,?_⟩;have n0_:=Aside0.mk (blk_below (g:=gb101) (o:=.cells #[.slice A0_0 l0_0.length c0_0,.slice A0_1 l0_1.length c0_1,.slice A0_2 l0_2.length c0_2] 26 (0,0)) (by (with_reducible repeat (first|refine blk_drewN ?_ _|refine blk_drew ?_|refine blk_alloc ?_ _));exact BK101.out) hb);have n1_:=Aside0.mk (below_step (by repeat (first|(with_reducible first|exact HB.out|apply below_alloc|apply pw_below_drewN|apply below_drew1|refine below_set ?_ GE101.out)|exact HB.out)) hb);clear BK101;clear HB;have BK101:=n0_;have HB:=n1_;clear n0_ n1_;(try clear hb);(try clear hb2);(try clear hk);(try clear hi))|(go_at_call 11;(with_reducible refine (sawmilllaw50_awake.calls kj27  t122 _ A46.out (glob_at HG_ (by repeat (first|(with_reducible first|exact HB.out|apply below_alloc|apply pw_below_drewN|apply below_drew1|refine below_set ?_ (Aside0.out (by assumption)))|exact HB.out)))).mono ?_);rintro e w49 ⟨rfl,hb⟩;have n0_:=Aside0.mk (blk_below (g:=gb101) (o:=.cells #[.slice A0_0 l0_0.length c0_0,.slice A0_1 l0_1.length c0_1,.slice A0_2 l0_2.length c0_2] 26 (0,0)) (by (with_reducible repeat (first|refine blk_drewN ?_ _|refine blk_drew ?_|refine blk_alloc ?_ _));exact BK101.out) hb);have n1_:=Aside0.mk (below_step (by repeat (first|(with_reducible first|exact HB.out|apply below_alloc|apply pw_below_drewN|apply below_drew1|refine below_set ?_ GE101.out)|exact HB.out)) hb);clear BK101;clear HB;have BK101:=n0_;have HB:=n1_;clear n0_ n1_;(try clear hb);(try clear hb2);(try clear hk);(try clear hi)))
               go_ret
               exact ⟨by first|rfl|(simp [errW_none,errW_some]<;>rfl)|(simp [*,errW_none,errW_some]<;>rfl),by repeat (first|(with_reducible first|exact HB.out|apply below_alloc|apply pw_below_drewN|apply below_drew1|refine below_set ?_ GE101.out)|exact HB.out)⟩
              ·rw [if_neg c45] at H
               have c45b0:decide (t120≤t104)=false:=decide_eq_false c45
               clear c45
               obtain rfl:=Option.some.inj H
               have hcz50_0:wc.cell? ⟨gb101,0,none⟩=some (.slice A0_0 l0_0.length c0_0):=(blk_cell BK101.out 0).trans rfl
               have hcz50_1:wc.cell? ⟨gb101,1,none⟩=some (.slice A0_1 l0_1.length c0_1):=(blk_cell BK101.out 1).trans rfl
               have hcz50_2:wc.cell? ⟨gb101,2,none⟩=some (.slice A0_2 l0_2.length c0_2):=(blk_cell BK101.out 2).trans rfl
               have hfz50_0:=blk_frozen BK101.out 0
               have hfz50_1:=blk_frozen BK101.out 1
               have hfz50_2:=blk_frozen BK101.out 2
               go_wp2_with (first|((with_reducible refine gate_callee (f:=12) rfl ?_);refine goesL_ (some 81) rfl rfl Tryd.func12 (by kernel_rfl) rfl #[.slice A0_0 l0_0.length c0_0,.slice A0_1 l0_1.length c0_1,.slice A0_2 l0_2.length c0_2] rfl (by (try simp only [List.map_toArray,List.map_cons,List.map_nil]);first|done|rfl|(simp only [List.length_drop,List.length_take];rfl)) ?_;(with_reducible refine (bill_Total.calls kj27 _ _ l0_0 _ _ l0_1 _ _ l0_2 t120 t121 _ ?side1 ?side2 ?side3 ?side4 ?side5 ?side6 A42.out).mono ?_);(case side1=>repeat (first|exact (Kd.C_below HR0_0.out HB.out)|(with_reducible refine Kd.C_alloc ?_ _)|(with_reducible refine Kd.C_drewN ?_ _)|(with_reducible refine Kd.C_drew ?_)));(case side2=>exact HC0_0.out);(case side3=>repeat (first|exact (Kd.C_below HR0_1.out HB.out)|(with_reducible refine Kd.C_alloc ?_ _)|(with_reducible refine Kd.C_drewN ?_ _)|(with_reducible refine Kd.C_drew ?_)));(case side4=>exact HC0_1.out);(case side5=>repeat (first|exact (Kd.C_below HR0_2.out HB.out)|(with_reducible refine Kd.C_alloc ?_ _)|(with_reducible refine Kd.C_drewN ?_ _)|(with_reducible refine Kd.C_drew ?_)));(case side6=>exact HC0_2.out);rintro e w51 ⟨rfl,hb⟩;refine ⟨_,rfl,?_⟩;have n0_:=Aside0.mk (blk_below (g:=gb101) (o:=.cells #[.slice A0_0 l0_0.length c0_0,.slice A0_1 l0_1.length c0_1,.slice A0_2 l0_2.length c0_2] 26 (0,0)) (by (with_reducible repeat (first|refine blk_drewN ?_ _|refine blk_drew ?_|refine blk_alloc ?_ _));exact BK101.out) hb);have n1_:=Aside0.mk (below_step (by repeat (first|(with_reducible first|exact HB.out|apply below_alloc|apply pw_below_drewN|apply below_drew1|refine below_set ?_ GE101.out)|exact HB.out)) hb);clear BK101;clear HB;have BK101:=n0_;have HB:=n1_;clear n0_ n1_;(try clear hb);(try clear hb2);(try clear hk);(try clear hi)))
               go_ret
               exact ⟨by first|rfl|(simp [errW_none,errW_some]<;>rfl)|(simp [*,errW_none,errW_some]<;>rfl),by repeat (first|(with_reducible first|exact HB.out|apply below_alloc|apply pw_below_drewN|apply below_drew1|refine below_set ?_ GE101.out)|exact HB.out)⟩
             ·rw [if_neg c44] at H
              have c44b0:decide (0≤t120)=false:=decide_eq_false c44
              clear c44
              obtain rfl:=Option.some.inj H
              have hcz52_0:wc.cell? ⟨gb101,0,none⟩=some (.slice A0_0 l0_0.length c0_0):=(blk_cell BK101.out 0).trans rfl
              have hcz52_1:wc.cell? ⟨gb101,1,none⟩=some (.slice A0_1 l0_1.length c0_1):=(blk_cell BK101.out 1).trans rfl
              have hcz52_2:wc.cell? ⟨gb101,2,none⟩=some (.slice A0_2 l0_2.length c0_2):=(blk_cell BK101.out 2).trans rfl
              have hfz52_0:=blk_frozen BK101.out 0
              have hfz52_1:=blk_frozen BK101.out 1
              have hfz52_2:=blk_frozen BK101.out 2
              go_wp2_with (first|((with_reducible refine gate_callee (f:=12) rfl ?_);refine goesL_ (some 81) rfl rfl Tryd.func12 (by kernel_rfl) rfl #[.slice A0_0 l0_0.length c0_0,.slice A0_1 l0_1.length c0_1,.slice A0_2 l0_2.length c0_2] rfl (by (try simp only [List.map_toArray,List.map_cons,List.map_nil]);first|done|rfl|(simp only [List.length_drop,List.length_take];rfl)) ?_;(with_reducible refine (bill_Total.calls kj27 _ _ l0_0 _ _ l0_1 _ _ l0_2 t120 t121 _ ?side1 ?side2 ?side3 ?side4 ?side5 ?side6 A42.out).mono ?_);(case side1=>repeat (first|exact (Kd.C_below HR0_0.out HB.out)|(with_reducible refine Kd.C_alloc ?_ _)|(with_reducible refine Kd.C_drewN ?_ _)|(with_reducible refine Kd.C_drew ?_)));(case side2=>exact HC0_0.out);(case side3=>repeat (first|exact (Kd.C_below HR0_1.out HB.out)|(with_reducible refine Kd.C_alloc ?_ _)|(with_reducible refine Kd.C_drewN ?_ _)|(with_reducible refine Kd.C_drew ?_)));(case side4=>exact HC0_1.out);(case side5=>repeat (first|exact (Kd.C_below HR0_2.out HB.out)|(with_reducible refine Kd.C_alloc ?_ _)|(with_reducible refine Kd.C_drewN ?_ _)|(with_reducible refine Kd.C_drew ?_)));(case side6=>exact HC0_2.out);rintro e w53 ⟨rfl,hb⟩;refine ⟨_,rfl,?_⟩;have n0_:=Aside0.mk (blk_below (g:=gb101) (o:=.cells #[.slice A0_0 l0_0.length c0_0,.slice A0_1 l0_1.length c0_1,.slice A0_2 l0_2.length c0_2] 26 (0,0)) (by (with_reducible repeat (first|refine blk_drewN ?_ _|refine blk_drew ?_|refine blk_alloc ?_ _));exact BK101.out) hb);have n1_:=Aside0.mk (below_step (by repeat (first|(with_reducible first|exact HB.out|apply below_alloc|apply pw_below_drewN|apply below_drew1|refine below_set ?_ GE101.out)|exact HB.out)) hb);clear BK101;clear HB;have BK101:=n0_;have HB:=n1_;clear n0_ n1_;(try clear hb);(try clear hb2);(try clear hk);(try clear hi)))
              go_ret
              exact ⟨by first|rfl|(simp [errW_none,errW_some]<;>rfl)|(simp [*,errW_none,errW_some]<;>rfl),by repeat (first|(with_reducible first|exact HB.out|apply below_alloc|apply pw_below_drewN|apply below_drew1|refine below_set ?_ GE101.out)|exact HB.out)⟩
            ·rw [if_neg c43] at H
             have c43b0:(t121 == 0)=false:=beq_eq_false_iff_ne.mpr c43
             have c43b1:(t121 != 0)=true:=bne_iff_ne.mpr c43
             replace H:=Option.bind_eq_some_iff.mp H
             obtain ⟨t123,A540,H⟩:=H
             replace H:(some t123)=some r:=H
             have A54:=Aside0.mk A540
             clear A540
             obtain rfl:=Option.some.inj H
             have hcz55_0:wc.cell? ⟨gb101,0,none⟩=some (.slice A0_0 l0_0.length c0_0):=(blk_cell BK101.out 0).trans rfl
             have hcz55_1:wc.cell? ⟨gb101,1,none⟩=some (.slice A0_1 l0_1.length c0_1):=(blk_cell BK101.out 1).trans rfl
             have hcz55_2:wc.cell? ⟨gb101,2,none⟩=some (.slice A0_2 l0_2.length c0_2):=(blk_cell BK101.out 2).trans rfl
             have hfz55_0:=blk_frozen BK101.out 0
             have hfz55_1:=blk_frozen BK101.out 1
             have hfz55_2:=blk_frozen BK101.out 2
             go_wp2_with (first|((with_reducible refine gate_callee (f:=12) rfl ?_);refine goesL_ (some 81) rfl rfl Tryd.func12 (by kernel_rfl) rfl #[.slice A0_0 l0_0.length c0_0,.slice A0_1 l0_1.length c0_1,.slice A0_2 l0_2.length c0_2] rfl (by (try simp only [List.map_toArray,List.map_cons,List.map_nil]);first|done|rfl|(simp only [List.length_drop,List.length_take];rfl)) ?_;(with_reducible refine (bill_Total.calls kj27 _ _ l0_0 _ _ l0_1 _ _ l0_2 t120 t121 _ ?side1 ?side2 ?side3 ?side4 ?side5 ?side6 A42.out).mono ?_);(case side1=>repeat (first|exact (Kd.C_below HR0_0.out HB.out)|(with_reducible refine Kd.C_alloc ?_ _)|(with_reducible refine Kd.C_drewN ?_ _)|(with_reducible refine Kd.C_drew ?_)));(case side2=>exact HC0_0.out);(case side3=>repeat (first|exact (Kd.C_below HR0_1.out HB.out)|(with_reducible refine Kd.C_alloc ?_ _)|(with_reducible refine Kd.C_drewN ?_ _)|(with_reducible refine Kd.C_drew ?_)));(case side4=>exact HC0_1.out);(case side5=>repeat (first|exact (Kd.C_below HR0_2.out HB.out)|(with_reducible refine Kd.C_alloc ?_ _)|(with_reducible refine Kd.C_drewN ?_ _)|(with_reducible refine Kd.C_drew ?_)));(case side6=>exact HC0_2.out);rintro e w56 ⟨rfl,hb⟩;refine ⟨_,rfl,?_⟩;have n0_:=Aside0.mk (blk_below (g:=gb101) (o:=.cells #[.slice A0_0 l0_0.length c0_0,.slice A0_1 l0_1.length c0_1,.slice A0_2 l0_2.length c0_2] 26 (0,0)) (by (with_reducible repeat (first|refine blk_drewN ?_ _|refine blk_drew ?_|refine blk_alloc ?_ _));exact BK101.out) hb);have n1_:=Aside0.mk (below_step (by repeat (first|(with_reducible first|exact HB.out|apply below_alloc|apply pw_below_drewN|apply below_drew1|refine below_set ?_ GE101.out)|exact HB.out)) hb);clear BK101;clear HB;have BK101:=n0_;have HB:=n1_;clear n0_ n1_;(try clear hb);(try clear hb2);(try clear hk);(try clear hi))|(go_at_call 11;(with_reducible refine (sawmilllaw50_awake.calls kj27  t123 _ A54.out (glob_at HG_ (by repeat (first|(with_reducible first|exact HB.out|apply below_alloc|apply pw_below_drewN|apply below_drew1|refine below_set ?_ (Aside0.out (by assumption)))|exact HB.out)))).mono ?_);rintro e w57 ⟨rfl,hb⟩;have n0_:=Aside0.mk (blk_below (g:=gb101) (o:=.cells #[.slice A0_0 l0_0.length c0_0,.slice A0_1 l0_1.length c0_1,.slice A0_2 l0_2.length c0_2] 26 (0,0)) (by (with_reducible repeat (first|refine blk_drewN ?_ _|refine blk_drew ?_|refine blk_alloc ?_ _));exact BK101.out) hb);have n1_:=Aside0.mk (below_step (by repeat (first|(with_reducible first|exact HB.out|apply below_alloc|apply pw_below_drewN|apply below_drew1|refine below_set ?_ GE101.out)|exact HB.out)) hb);clear BK101;clear HB;have BK101:=n0_;have HB:=n1_;clear n0_ n1_;(try clear hb);(try clear hb2);(try clear hk);(try clear hi)))
             go_ret
             exact ⟨by first|rfl|(simp [errW_none,errW_some]<;>rfl)|(simp [*,errW_none,errW_some]<;>rfl),by repeat (first|(with_reducible first|exact HB.out|apply below_alloc|apply pw_below_drewN|apply below_drew1|refine below_set ?_ GE101.out)|exact HB.out)⟩
        ·rw [if_neg c26] at H
         exact absurd H (by simp)
       ·rw [if_neg c25] at H
        exact absurd H (by simp)
end Go.Proofs.YtojkjhaobjidlaaDoor.P
namespace Go.Proofs.YtojkjhaobjidlaaDoor.P
open Go.RowKit Go.Proofs.YtojkjhaobjidlaaDoorW.PrintWords Go.Proofs.YtojkjhaobjidlaaDoorW.PrintMore
set_option linter.unusedVariables false
set_option linter.unusedSimpArgs false
theorem sum_bound (c:List PR):∀ l:List IT,(∀ x ∈ l,(amountB c x).2=0)→0≤sumB c l∧sumB c l≤800000000000 * (l.length:Int):=by
 intro l
 induction l with
 | nil=>intro h;simp [sumB]
 | cons x l ih =>
  intro h
  obtain ⟨-,-,-,-,-,-,-,-,-,-,-,-,a1,a2⟩:=amount_ok c x (h x List.mem_cons_self)
  obtain ⟨b1,b2⟩:=ih (fun y hy=>h y (List.mem_cons_of_mem _ hy))
  have e:sumB c (x :: l)=(amountB c x).1+sumB c l:=by simp only [sumB,List.map_cons,List.sum_cons]
  rw [e,List.length_cons]
  omega
theorem sum_append (c:List PR) (l o:List IT):sumB c (l++o)=sumB c l+sumB c o:=by
 simp only [sumB,List.map_append,List.sum_append]
theorem invGo_of (c:List PR) (t:List TI):∀ (l:List IT) (acc:List Int) (n:Int),(∀ x ∈ l,(amountB c x).2=0)→(discB t (n+sumB c l)).2=0→(invGo c t acc n l).2=((discB t (n+sumB c l)).1,n+sumB c l - (discB t (n+sumB c l)).1,0):=by
 intro l
 induction l with
 | nil =>
  intro acc n h h2
  have e:n+sumB c []=n:=by simp [sumB]
  rw [e] at h2 ⊢
  rw [invGo,if_pos h2]
 | cons x l ih =>
  intro acc n h h2
  have e:n+sumB c (x :: l)=n+(amountB c x).1+sumB c l:=by
   simp only [sumB,List.map_cons,List.sum_cons]
   omega
  rw [e] at h2 ⊢
  rw [invGo,if_pos (h x List.mem_cons_self)]
  exact ih _ _ (fun y hy=>h y (List.mem_cons_of_mem _ hy)) h2
theorem disc_none (n:Int) (h0:0≤n) (h1:n≤1000000000000000):discB [] n=(0,0):=by
 unfold discB
 rw [if_neg (by simp),discGo,if_neg (by omega),if_neg (by omega)]
 simp
theorem inv_none (c:List PR) (l:List IT) (hl:l.length≤32) (h:∀ x ∈ l,(amountB c x).2=0):(invB c l []).2=(0,sumB c l,0):=by
 obtain ⟨b1,b2⟩:=sum_bound c l h
 unfold invB
 rw [if_neg (by omega)]
 have hd:=disc_none (0+sumB c l) (by omega) (by omega)
 rw [invGo_of c [] l [] 0 h (by rw [hd]),hd]
 simp
theorem sum_wrap (c:List PR) (l o:List IT) (h1:l.length≤32) (h2:o.length≤32) (h3:∀ x ∈ l,(amountB c x).2=0) (h4:∀ x ∈ o,(amountB c x).2=0):wrap64 (sumB c l+sumB c o)=sumB c l+sumB c o:=by
 have bl:=sum_bound c l h3
 have bo:=sum_bound c o h4
 clear h3 h4
 generalize sumB c l=a at bl ⊢
 generalize sumB c o=b at bo ⊢
 unfold wrap64
 omega
theorem adds_j2 (c:List PR) (l:List IT) (t:List TI) (k:Nat) (hk:800≤k):sawmilllaw50_BillAdds.j2 k (sumB c l) false c l t=some true:=by
 obtain ⟨k,rfl⟩:∃ m,k=m+1:=⟨k - 1,by omega⟩
 have f1:200≤k:=by omega
 have f2:120 < k:=by omega
 simp only [sawmilllaw50_BillAdds.j2]
 rw [if_neg (by simp),total_f c l t k f2]
 simp only [Option.bind_some]
 by_cases g:(invB c l t).2.2.2=0
 ·rw [if_pos g]
  obtain ⟨-,-,t3,t4⟩:=inv_ok c l t g
  obtain ⟨-,-,-,d1,d2⟩:=disc_ok t _ t3
  have et:(invB c l t).2.2.1=sumB c l - (discB t (sumB c l)).1:=by rw [t4]
  rw [et]
  clear et t3 t4 g
  generalize (discB t (sumB c l)).1=d at d1 d2 ⊢
  generalize sumB c l=s at d1 d2 ⊢
  rw [if_pos (by omega),if_pos (by omega),awake_at k f1]
  rfl
 ·rw [if_neg g,awake_at k f1]
  rfl
theorem adds_true (c:List PR) (l:List IT) (t:List TI) (o:List IT):sawmilllaw50_BillAdds.f 6000 c l t o=some true:=by
 unfold sawmilllaw50_BillAdds.f
 rw [small_f c l t 6000 (by omega),Option.bind_some]
 have aw:∀ k,300≤k→(sawmilllaw50_awake.f k).bind (fun t=>some t)=some true:=fun k hk=>by rw [awake_at k (by omega)];rfl
 have hj:∀ (k:Nat) (b:Bool),1000≤k→(b=false→o.length≤100∧l.length≤100)→sawmilllaw50_BillAdds.j0 k o b c l t=some true:=by
  intro k b hk hb
  obtain ⟨k,rfl⟩:∃ m,k=m+1:=⟨k - 1,by omega⟩
  simp only [sawmilllaw50_BillAdds.j0]
  cases b
  case true=>rw [if_pos rfl];exact aw _ (by omega)
  obtain ⟨ho,hl⟩:=hb rfl
  have f2:120 < k:=by omega
  have f3:900≤k:=by omega
  rw [if_neg (by simp),total_f c l [] k f2,total_f c o [] k f2]
  simp only [Option.bind_some]
  have hj1:∀ (k:Nat) (x5 x7:Int) (b:Bool),900≤k→(b=false→(invB c l []).2.2.2=0∧(invB c o []).2.2.2=0∧x5=(invB c l []).2.2.1∧x7=(invB c o []).2.2.1)→sawmilllaw50_BillAdds.j1 k o x5 x7 b c l t=some true:=by
   intro k x5 x7 b hk hb
   obtain ⟨k,rfl⟩:∃ m,k=m+1:=⟨k - 1,by omega⟩
   have f1:300≤k:=by omega
   have f2:120 < k:=by omega
   have f3:800≤k:=by omega
   have f4:l.length < 4398046511104:=by omega
   have f5:l.length+o.length < 4398046511104:=by omega
   have hw:wrap64 ((l.length:Int)+(o.length:Int))=(l.length:Int)+(o.length:Int):=by
    unfold wrap64
    omega
   have f6:(l.length:Int)+(o.length:Int)≤32→(l++o).length≤32:=fun h=>by rw [List.length_append];omega
   simp only [sawmilllaw50_BillAdds.j1]
   cases b
   case true=>rw [if_pos rfl];exact aw _ f1
   obtain ⟨e1,e2,rfl,rfl⟩:=hb rfl
   obtain ⟨l1,l2,l3,l4⟩:=inv_ok c l [] e1
   obtain ⟨o1,o2,o3,o4⟩:=inv_ok c o [] e2
   have il1:(invB c l []).2.2.1=sumB c l:=by rw [inv_none c l l1 l2]
   have io1:(invB c o []).2.2.1=sumB c o:=by rw [inv_none c o o1 o2]
   have ht:=total_f c (l++o) [] k f2
   have hib:(l.length:Int)+(o.length:Int)≤32→(invB c (l++o) []).2.2.1=sumB c l+sumB c o∧(invB c (l++o) []).2.2.2=0:=fun g=>by
    have ib:=inv_none c (l++o) (f6 g) (fun x hx=>by
     rcases List.mem_append.mp hx with hx|hx
     ·exact l2 x hx
     ·exact o2 x hx)
    exact ⟨by rw [ib,← sum_append],by rw [ib]⟩
   have hsw:=sum_wrap c l o l1 o1 l2 o2
   have hj2:sawmilllaw50_BillAdds.j2 k (sumB c l) false c l t=some true:=adds_j2 c l t k f3
   rw [if_neg (by simp),il1,io1]
   clear il1 io1 l2 l3 l4 o2 o3 o4 e1 e2
   generalize (invB c (l++o) []).2.2.1=u at ht hib
   generalize (invB c (l++o) []).2.2.2=v at ht hib
   generalize sumB c l=sl at hib hsw hj2 ⊢
   generalize sumB c o=so at hib hsw ⊢
   simp only [Option.bind_some,List.nil_append,List.length_nil,Nat.zero_add]
   rw [if_pos f4,if_pos f5,ht,hw,Option.bind_some]
   by_cases g:(l.length:Int)+(o.length:Int)≤32
   ·rw [if_pos g]
    obtain ⟨rfl,rfl⟩:=hib g
    rw [if_pos rfl,hsw]
    have hb:(sl+so != sl+so)=false:=by simp
    rw [hb]
    exact hj2
   ·rw [if_neg g]
    exact hj2
  by_cases g:(invB c l []).2.2.2=0
  ·rw [if_pos g]
   refine hj1 _ _ _ _ f3 (fun hb=>⟨g,?_,rfl,rfl⟩)
   simpa using hb
  ·rw [if_neg g]
   exact hj1 _ _ _ _ f3 (fun hb=>by cases hb)
 cases hs:smallB c l t
 ·rw [if_neg (by simp)]
  exact hj _ true (by omega) (fun h=>by cases h)
 ·rw [if_pos rfl]
  refine hj _ _ (by omega) (fun hb=>?_)
  unfold smallB at hs
  simp at hs hb
  omega
end Go.Proofs.YtojkjhaobjidlaaDoor.P
namespace Go.Proofs.YtojkjhaobjidlaaDoor.billAdds
open Go.ChangeShapes Go.WideShapes Go.ChangeAt Go.WideMaps Go.WideElems Go.RowKit Go.Proofs.YtojkjhaobjidlaaDoor.P Go.Proofs.YtojkjhaobjidlaaDoorW.PrintWords
set_option linter.unusedVariables false
set_option maxRecDepth 100000 in
theorem lifted (os:Os) (started:os.Started) (H:Type) (enc:TypeId × Value→H) :
  ReturnsInHanded {} Tryd.checked os 9 .any (fun w args=>(Rows.billAddsSpec.pre enc Tryd.prog Tryd.f9 [] false w args∧laidMetH Tryd.prog laid3 w)∧sizedMet enc Tryd.prog Tryd.f9 (OpenSpec.ofChange Rows.billAddsSpec) false w args)
   (Rows.billAddsSpec.post enc Tryd.prog Tryd.f9 false true false false):=by
 refine returnsInHanded_of_change_and (C:=Tryd.checked) (X:=fun w _=>laidMetH Tryd.prog laid3 w) (fun _ _ _ hh h=>h.of_heap hh) own started (by kernel_rfl) Tryd.func9
  (ChangeSpec.witness_shaped (enc:=enc) (C:=Tryd.checked) (os:=os) (X:=fun w _=>laidMetH Tryd.prog laid3 w) false (World.doorLaid Tryd.prog 38 os) #[.agg #[.slice none 0 0,.slice none 0 0,.slice none 0 0],.slice none 0 0] 8 rfl (World.shaped_of_RefB (by kernel_rfl) (by kernel_rfl)) (by kernel_rfl) (by kernel_rfl) (by kernel_rfl) (door_met os _)) ?_
 intro W base args ds gs before hval0 hW _ _ hL _
 have hval:∀ (j:Nat) t v,Tryd.f9.params[j]?=some t→args[j]?=some v→Value.okWide Tryd.prog W .any base t v:=hval0
 have hW':=hW
 obtain ⟨p,q,hA0,hV,rfl,hfz,hnd⟩:=hW
 have hA:DataW.TrodAll enc Tryd.prog W 0 (fun _=>true) true Tryd.f9.params.toList args.toList ds p:=hA0
 rw [Tryd.params9] at hA hval
 obtain ⟨v0,vs0,d0,ds0,p0,q0,hargs,rfl,rfl,h0,r0⟩:=trodAll_cons hA
 obtain ⟨v1,vs1,d1,ds1,p1,q1,rfl,rfl,rfl,h1,r1⟩:=trodAll_cons r0
 obtain ⟨rfl,rfl,rfl⟩:=trodAll_nil r1
 obtain rfl:args=#[v0,v1]:=by cases args;simp_all
 obtain ⟨rfl,rfl⟩:=trodVars_none hV
 have k0:=h0
 have lt0:∀ x ∈ p0,x.block < W.heap.size:=by obtain ⟨m,hm⟩:=k0;exact DataW.trod_lt m _ _ _ hm
 obtain ⟨fu0,hf0⟩:=h0
 obtain ⟨cs0,rfl,_⟩:=okWide_struct Tryd.underlying26 (hval 0 26 v0 rfl rfl)
 obtain ⟨a0_0,A0_0,c0_0,l0_0,g0_0,a0_1,A0_1,c0_1,l0_1,g0_1,a0_2,A0_2,c0_2,l0_2,g0_2,e0⟩:=opens_inv H enc W _ _ _ hf0
 obtain rfl:cs0=#[.slice A0_0 a0_0.length c0_0,.slice A0_1 a0_1.length c0_1,.slice A0_2 a0_2.length c0_2]:=Array.toList_inj.mp e0
 have k1:=h1
 have lt1:∀ x ∈ p1,x.block < W.heap.size:=by obtain ⟨m,hm⟩:=k1;exact DataW.trod_lt m _ _ _ hm
 obtain ⟨fu1,hf1⟩:=h1
 obtain ⟨b1,n1,c1,rfl⟩:=okWide_slice Tryd.underlying23 (hval 1 23 v1 rfl rfl)
 obtain ⟨a1,A1,d1',e1,l1,g1⟩:=opens_items H enc W _ _ _ hf1
 obtain ⟨rfl,rfl,rfl⟩:b1=A1∧n1=a1.length∧c1=d1':=by simpa [Value.cells] using e1
 refine (sawmilllaw50_BillAdds.calls 6000 _ _ a0_0 _ _ a0_1 _ _ a0_2 _ _ a1 true W g0_0 l0_0 g0_1 l0_1 g0_2 l0_2 g1 l1 (adds_true a0_0 a0_1 a0_2 a1) ⟨glob_of hL⟩).mono fun e W' ⟨he,bel⟩=>?_
 subst he
 exact ⟨_,rfl,_,_,_,[],_,[],hW',trodAll_mk1 (shut_bool Tryd.underlying4 _),(trodAll_cons_mk (Below.trod laidOut (by kernel_rfl) (of_decide_eq_true (by kernel_rfl)) k0 bel lt0) (trodAll_cons_mk (Below.trod laidOut (by kernel_rfl) (of_decide_eq_true (by kernel_rfl)) k1 bel lt1) trodAll_mk0)),rfl,bel.frame _,fun h=>by cases h⟩
theorem holds:Rows.BillAddsSaid :=
 OpenClaim.holds_of_wide 9 Tryd.f9 rfl rfl rfl rfl rfl rfl rfl ⟨rfl,rfl,rfl,rfl,rfl⟩ rfl rfl rfl rfl rfl (by kernel_rfl) Tryd.func9 (by kernel_rfl)
  (of_decide_eq_true (by kernel_rfl)) (by unfold Func.isWrapper;first|(rw [if_pos (by decide +kernel)];kernel_rfl)|(rw [if_neg (by decide +kernel)];exact ⟨rfl,rfl⟩))
  (fun os started H enc _=>lifted os started H enc)
theorem card_holds:Rows.BillAddsCardSaid :=
 Claim7.holds_tied_plain_at .later [] [.data, .data, .data] true (true, "19f5dea25a4b6f3af804689818080770bcddf1653a3dc0e8785111f2bf0fa93c") false
  holds (fun _ h=>by cases h) (by kernel_rfl) (fun _ h=>by cases h) billAdds_row_tie rfl ⟨rfl,rfl⟩ (by kernel_rfl) rfl
  (fun f fn hf hfn=>by
   obtain rfl : f = 9 := Option.some.inj ((show Tryd.prog.funcNamed "sawmill/sawmilllaw50.BillAdds" = some 9 by kernel_rfl).symm.trans hf) |>.symm
   obtain rfl:fn=Tryd.f9:=(Option.some.inj (Tryd.func9.symm.trans hfn)).symm
   exact ⟨by kernel_rfl,fun j t ht=>by
    rw [Tryd.params9] at ht
    have hm:t ∈ [26,23]:=by simpa using Array.mem_of_getElem? ht
    have hall:([26,23].all fun u=>!Tryd.prog.wantsStandIn u)=true:=by kernel_rfl
    exact (show Tryd.prog.wantsStandIn t=false by simpa using List.all_eq_true.1 hall t hm)⟩)
  (by kernel_rfl)
end Go.Proofs.YtojkjhaobjidlaaDoor.billAdds
namespace Go.Proofs.YtojkjhaobjidlaaDoor
theorem billAdds_card:Rows.BillAddsCardSaid:=billAdds.card_holds
end Go.Proofs.YtojkjhaobjidlaaDoor
