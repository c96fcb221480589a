/-
  Walks and plain laws on the way to the statement ScheduleParses; no conditions.
-/
import Derived.Test.YtehdmplngmbnnaaDoorMb3
import Derived.Lib.ItoaMem
import Derived.Lib.ItoaLen
import Derived.Test.YtehdmplngmbnnaaDoorMb2
namespace Go.Proofs.YtehdmplngmbnnaaDoor.P
open Go.RowKit Go.Proofs.YtehdmplngmbnnaaDoorW.PrintWords
set_option linter.unusedVariables false
set_option linter.unusedSimpArgs false
def bl (s:ByteArray):List UInt8:=s.data.toList
def mkB (l:List UInt8):ByteArray:=⟨l.toArray⟩
theorem bl_mkB (l:List UInt8):bl (mkB l)=l:=by simp [bl,mkB]
theorem mkB_bl (s:ByteArray):mkB (bl s)=s:=by
 apply ByteArray.ext
 simp [bl,mkB]
theorem qcM (s:ByteArray):(bl s).length=s.size:=rfl
theorem mkB_size (l:List UInt8):(mkB l).size=l.length:=rfl
theorem bl_inj {s t:ByteArray} (h:bl s=bl t):s=t:=by rw [← mkB_bl s,h,mkB_bl]
theorem bl_extract (s:ByteArray) (i j:Nat):bl (s.extract i j)=((bl s).drop i).take (j - i):=by
 simp [bl,ByteArray.data_extract,Array.toList_extract]
theorem bl_suffix (s:ByteArray) (i:Nat):bl (s.extract i s.size)=(bl s).drop i:=by
 rw [bl_extract]
 apply List.take_of_length_le
 rw [List.length_drop,qcM]
 omega
theorem bl_prefix (s:ByteArray) (j:Nat):bl (s.extract 0 j)=(bl s).take j:=by
 rw [bl_extract]
 simp
theorem prefix_mk (s:ByteArray) (j:Nat):s.extract 0 j=mkB ((bl s).take j):=by rw [← bl_prefix,mkB_bl]
theorem u8_eq (c d:UInt8):((c.toNat:Int)=(d.toNat:Int)) ↔ c=d:=⟨fun h=>UInt8.toNat.inj (by omega),fun h=>by rw [h]⟩
theorem bt_cons (s:ByteArray) (c:UInt8) (cs:List UInt8) (i:Nat) (h:(bl s).drop i=c :: cs):i < s.size∧bt s i=(c.toNat:Int)∧(bl s).drop (i+1)=cs:=by
 have hi:i < s.size:=by
  have:=congrArg List.length h
  rw [List.length_drop,qcM] at this
  simp at this
  omega
 have hd:(bl s).drop i=(bl s)[i]'hi :: (bl s).drop (i+1):=List.drop_eq_getElem_cons hi
 rw [h] at hd
 injection hd with h1 h2
 refine ⟨hi,?_,h2.symm⟩
 have e:=qcI s (i:Int) (by simpa using hi)
 rw [← e,h1]
 rfl
theorem drop_cons (s:ByteArray) (i:Nat) (hi:i < s.size):∃ c cs,(bl s).drop i=c :: cs:=⟨_,_,List.drop_eq_getElem_cons (show i < (bl s).length from hi)⟩
theorem qcH (j:Nat) (h:j≤1000000000):wrap64 (j:Int)=(j:Int):=by
 unfold wrap64
 omega
def skR:Bool→List UInt8→Nat
 | _,[]=>0
 | r,c :: cs=>if c=10 then 1+skR false cs else if r=true ∨ c=32 then 1+skR r cs else if c=35 then 1+skR true cs else 0
theorem skR_le (l:List UInt8):∀ r,skR r l≤l.length:=by
 induction l with
 | nil=>intro r;cases r<;>exact Nat.le_refl _
 | cons c cs ih =>
  intro r
  have h1:=ih false
  have h2:=ih r
  have h3:=ih true
  simp only [skR,List.length_cons]
  split
  ·omega
  ·split
   ·omega
   ·split<;>omega
theorem skR_true (l:List UInt8):skR true l=(l.takeWhile notLf).length+skR false (l.drop (l.takeWhile notLf).length):=by
 induction l with
 | nil=>rfl
 | cons c cs ih =>
  by_cases h:c=10
  ·subst h
   simp [skR,List.takeWhile_cons,notLf]
  ·have hn:notLf c=true:=by simp [notLf,h]
   simp only [skR,List.takeWhile_cons,hn,if_neg h,if_true,List.length_cons,true_or,List.drop_succ_cons]
   rw [ih]
   omega
theorem skip_prog (s:ByteArray) (hs:s.size≤1000000):∀ (n i K:Nat),i+n=s.size→2 * n+2≤K→lexer_skip.l0 K s i=some ((i+skR false ((bl s).drop i):Nat):Int):=by
 intro n
 induction n using Nat.strongRecOn with
 | ind n ih =>
  intro i K hi hK
  obtain ⟨K,rfl⟩:∃ q,K=q+1:=⟨K - 1,by omega⟩
  simp only [lexer_skip.l0]
  by_cases h:n=0
  ·rw [if_neg (by omega),List.drop_eq_nil_of_le (by rw [qcM];omega)]
   rfl
  ·obtain ⟨c,cs,hc⟩:=drop_cons s i (by omega)
   obtain ⟨h1,h2,h3⟩:=bt_cons s c cs i hc
   obtain ⟨K,rfl⟩:∃ q,K=q+1:=⟨K - 1,by omega⟩
   rw [if_pos (by omega),if_pos (by omega),h2,hc]
   have e:wrap64 ((i:Int)+1)=((i+1:Nat):Int):=qcH (i+1) (by omega)
   have e32:((c.toNat:Int)=32) ↔ c=32:=u8_eq c 32
   have e10:((c.toNat:Int)=10) ↔ c=10:=u8_eq c 10
   have e35:((c.toNat:Int)=35) ↔ c=35:=u8_eq c 35
   simp only [lexer_skip.j1,skR]
   by_cases g1:c=32
   ·rw [if_pos (e32.mpr g1),if_pos (by rw [e32.mpr g1];rfl),e,ih (n - 1) (by omega) (i+1) K (by omega) (by omega),h3,g1]
    simp [Nat.add_assoc]
   ·rw [if_neg (fun h=>g1 (e32.mp h))]
    by_cases g2:c=10
    ·rw [if_pos (by rw [e10.mpr g2];rfl),e,ih (n - 1) (by omega) (i+1) K (by omega) (by omega),h3,g2]
     simp [Nat.add_assoc]
    ·have hf:((c.toNat:Int) == 10)=false:=by simpa using fun h=>g2 (e10.mp h)
     rw [hf,if_neg Bool.false_ne_true,if_neg g2,if_neg (show ¬ (false=true ∨ c=32) by simp [g1])]
     by_cases g3:c=35
     ·rw [if_pos (e35.mpr g3),if_pos g3,if_pos (by omega),if_pos (by omega)]
      have hl:lexer_length.f (s.extract (i:Int).toNat s.size) 62=some ((1+(cs.takeWhile notLf).length:Nat):Int):=by
       rw [show ((i:Int)).toNat=i by omega]
       unfold lexer_length.f
       rw [if_pos (by rw [ByteArray.size_extract];omega),if_pos rfl]
       unfold lenP
       rw [show (s.extract i s.size).data.toList=c :: cs from (bl_suffix s i).trans hc,g3,List.takeWhile_cons]
       simp [notLf,Nat.add_comm]
      have hw:(cs.takeWhile notLf).length≤cs.length:=List.Sublist.length_le (List.takeWhile_sublist _)
      have hcs:cs.length+1=n:=by
       have:=congrArg List.length hc
       rw [List.length_drop,qcM] at this
       simp at this
       omega
      rw [hl,Option.bind_some,show wrap64 ((i:Int)+((1+(cs.takeWhile notLf).length:Nat):Int))=((i+(1+(cs.takeWhile notLf).length):Nat):Int) by rw [← qcH _ (show i+(1+(cs.takeWhile notLf).length)≤1000000000 by omega)];congr 1,ih (n - (1+(cs.takeWhile notLf).length)) (by omega) _ K (by omega) (by omega),skR_true]
      have hd:(bl s).drop (i+(1+(cs.takeWhile notLf).length))=cs.drop (cs.takeWhile notLf).length:=by
       rw [← h3,List.drop_drop]
       congr 1
       omega
      rw [hd]
      congr 2
      omega
     ·rw [if_neg (fun h=>g3 (e35.mp h)),if_neg g3]
      rfl
def numAcc:Int→List UInt8→Option Int
 | n,[]=>some n
 | n,c :: cs=>if 10 * n+((c.toNat:Int) - 48) > 1099511627776 then none else numAcc (10 * n+((c.toNat:Int) - 48)) cs
def numRes:Option Int→Int × Int
 | some n=>(n,0)
 | none=>(0,9)
def numL (l:List UInt8):Int × Int:=if l.length > 1∧l.head?=some 48 then (0,5) else numRes (numAcc 0 l)
theorem dig_range {c:UInt8} (h:qcL c=true):48≤c.toNat∧c.toNat≤57:=by
 unfold qcL at h
 simp only [Bool.and_eq_true,decide_eq_true_eq,UInt8.le_iff_toNat_le] at h
 exact h
theorem numAcc_range:∀ (l:List UInt8) (n v:Int),(∀ c ∈ l,qcL c=true)→0≤n→n≤1099511627776→numAcc n l=some v→0≤v∧v≤1099511627776:=by
 intro l
 induction l with
 | nil =>
  intro n v _ h1 h2 h
  simp only [numAcc,Option.some.injEq] at h
  omega
 | cons c cs ih =>
  intro n v hd h1 h2 h
  have:=dig_range (hd c (List.mem_cons_self ..))
  simp only [numAcc] at h
  by_cases g:10 * n+((c.toNat:Int) - 48) > 1099511627776
  ·rw [if_pos g] at h;cases h
  ·rw [if_neg g] at h
   exact ih _ v (fun d hdm=>hd d (List.mem_cons_of_mem _ hdm)) (by omega) (by omega) h
def numOut (s:ByteArray) (r:Int × Int):Int × ByteArray × Int × Int × Int:=if r.2=0 then (2,s,r.1,0,0) else (0,⟨#[]⟩,0,0,r.2)
theorem num_l0 (s:ByteArray) (hs:s.size≤1000000) (hd:∀ c ∈ bl s,qcL c=true):∀ (m i:Nat) (n:Int) (K:Nat),i+m=s.size→0≤n→n≤1099511627776→m+1≤K→lexer_number.l0 K s n (s.size:Int) i=some (numOut s (numRes (numAcc n ((bl s).drop i)))):=by
 intro m
 induction m with
 | zero =>
  intro i n K hi h1 h2 hK
  obtain ⟨K,rfl⟩:∃ q,K=q+1:=⟨K - 1,by omega⟩
  rw [lexer_number.l0,if_neg (by omega),List.drop_eq_nil_of_le (by rw [qcM];omega)]
  rfl
 | succ m ih =>
  intro i n K hi h1 h2 hK
  obtain ⟨K,rfl⟩:∃ q,K=q+1:=⟨K - 1,by omega⟩
  obtain ⟨c,cs,hc⟩:=drop_cons s i (by omega)
  obtain ⟨g1,g2,g3⟩:=bt_cons s c cs i hc
  have hdc:=dig_range (hd c (List.mem_of_mem_drop (i:=i) (by rw [hc];exact List.mem_cons_self ..)))
  have e1:wrap64 (10 * n)=10 * n:=by
   unfold wrap64
   omega
  have e2:((c.toNat:Int) - 48) % 256=(c.toNat:Int) - 48:=by omega
  have e3:wrap64 (10 * n+((c.toNat:Int) - 48))=10 * n+((c.toNat:Int) - 48):=by
   unfold wrap64
   omega
  have e4:wrap64 ((i:Int)+1)=((i+1:Nat):Int):=qcH (i+1) (by omega)
  obtain ⟨v,hv⟩:∃ v,v=10 * n+((c.toNat:Int) - 48):=⟨_,rfl⟩
  rw [← hv] at e3
  rw [lexer_number.l0,if_pos (by omega),if_pos (by omega),if_pos (by omega),g2,hc,e1,e2,← hv,e3,e4]
  by_cases g:v > 1099511627776
  ·have ha:numAcc n (c :: cs)=none:=by
    rw [numAcc,← hv]
    exact if_pos g
   rw [ha]
   exact if_pos g
  ·have ha:numAcc n (c :: cs)=numAcc v cs:=by
    rw [numAcc,← hv]
    exact if_neg g
   rw [ha,if_neg g,ih (i+1) v K (by omega) (by omega) (by omega) (by omega),g3]
theorem number_prog (s:ByteArray) (hs:s.size≤1000000) (hd:∀ c ∈ bl s,qcL c=true) (K:Nat) (hK:s.size+2≤K):lexer_number.f K s=some (numOut s (numL (bl s))):=by
 obtain ⟨K,rfl⟩:∃ q,K=q+1:=⟨K - 1,by omega⟩
 have h0:=num_l0 s hs hd s.size 0 0 K (by omega) (by omega) (by omega) (by omega)
 rw [List.drop_zero] at h0
 unfold lexer_number.f numL
 simp only [lexer_number.j0]
 by_cases g:(s.size:Int) > 1
 ·obtain ⟨c,cs,hc⟩:=drop_cons s 0 (by omega)
  obtain ⟨g1,g2,g3⟩:=bt_cons s c cs 0 hc
  rw [List.drop_zero] at hc
  have hl:(bl s).length > 1:=by rw [qcM];omega
  rw [if_pos g,if_pos (by omega),show bt s 0=(c.toNat:Int) from g2,hc]
  by_cases e:c=48
  ·subst e
   rw [if_pos (by rfl),if_pos ⟨by rw [← hc];exact hl,rfl⟩]
   rfl
  ·have hf:((c.toNat:Int) == 48)=false:=by simpa using fun h=>e ((u8_eq c 48).mp h)
   rw [hf,if_neg Bool.false_ne_true,if_neg (by rintro ⟨-,h⟩;exact e (Option.some.inj h)),← hc]
   exact h0
 ·rw [if_neg g,if_neg Bool.false_ne_true,if_neg (by rintro ⟨h,-⟩;rw [qcM] at h;omega)]
  exact h0
def isMk (l:List UInt8):Bool:=(l == [60,61]) || ((l == [62,61]) || ((l == [33,61]) || ((l == [46,46]) || ((l == [60]) || ((l == [61]) || ((l == [62]) || ((l == [40]) || ((l == [41]) || ((l == [123]) || ((l == [125]) || ((l == [44]) || ((l == [59]) || ((l == [58]) || ((l == [43]) || ((l == [45]) || ((l == [42]) || ((l == [47]) || ((l == [64]) || (false)))))))))))))))))))
theorem ite_or {α:Type} [DecidableEq α] {l a:α} {X:Option Bool} {q:Bool} [BEq α] [LawfulBEq α] (h:X=some q):(if l=a then some true else X)=some ((l == a) || q):=by
 by_cases g:l=a
 ·rw [if_pos g,beq_iff_eq.mpr g]
  rfl
 ·rw [if_neg g,h,beq_eq_false_iff_ne.mpr g]
  rfl
theorem mark_prog (s:ByteArray):lexer_IsMark.f s=some (isMk (bl s)):=by
 unfold lexer_IsMark.f isMk
 rw [ByteArray.toList_eq]
 show _=some ((bl s == _) || _)
 unfold bl
 repeat refine ite_or ?_
 rfl
def qbT (l:List UInt8):Int × List UInt8 × Int × Int :=
 match l with
 | []=>(0,[],0,5)
 | c :: cs =>
  if qcL c=true then (if (numL ((c :: cs).takeWhile qcL)).2=0 then (2,(c :: cs).takeWhile qcL,(numL ((c :: cs).takeWhile qcL)).1,0) else (0,[],0,(numL ((c :: cs).takeWhile qcL)).2))
  else if isWrd c=true then (if ((c :: cs).takeWhile isWrd).length > 16 then (0,[],0,6) else (1,(c :: cs).takeWhile isWrd,0,0))
  else if isMk ((c :: cs).take 2)=true then (3,(c :: cs).take 2,0,0) else if isMk ((c :: cs).take 1)=true then (3,(c :: cs).take 1,0,0) else (0,[],0,5)
def firstOut (r:Int × List UInt8 × Int × Int):Int × ByteArray × Int × Int × Int:=(r.1,mkB r.2.1,r.2.2.1,0,r.2.2.2)
theorem take_tw (p:UInt8→Bool) (l:List UInt8):l.take (l.takeWhile p).length=l.takeWhile p:=by
 induction l with
 | nil=>rfl
 | cons c cs ih =>
  by_cases h:p c=true
  ·simp [List.takeWhile_cons,h,ih]
  ·simp [List.takeWhile_cons,h]
theorem tw_mem (p:UInt8→Bool) (l:List UInt8):∀ c ∈ l.takeWhile p,p c=true:=by
 intro c hc
 exact List.all_takeWhile (p:=p) (l:=l) |> fun h=>by simpa using List.all_eq_true.mp h c hc
theorem first_prog (s:ByteArray) (h0:0 < s.size) (hs:s.size≤1000000) (K:Nat) (hK:s.size+10≤K):lexer_first.f K s=some (firstOut (qbT (bl s))):=by
 obtain ⟨K,rfl⟩:∃ q,K=q+3:=⟨K - 3,by omega⟩
 obtain ⟨c,cs,hc⟩:=drop_cons s 0 h0
 obtain ⟨g1,g2,g3⟩:=bt_cons s c cs 0 hc
 rw [List.drop_zero] at hc
 have g2':bt s 0=(c.toNat:Int):=g2
 unfold lexer_first.f
 rw [if_pos (by omega),g2',dig_f,wrd_f,hc]
 simp only [Option.bind_some,qbT]
 by_cases b1:qcL c=true
 ·have hlen:lexer_length.f s 63=some ((((c :: cs).takeWhile qcL).length:Nat):Int):=by
   unfold lexer_length.f lenP
   rw [if_pos (by omega),if_neg (by decide),if_pos rfl,← hc]
   rfl
  have hle:((c :: cs).takeWhile qcL).length≤s.size:=by
   rw [← qcM,hc]
   exact List.Sublist.length_le (List.takeWhile_sublist _)
  have hx:s.extract 0 ((((c :: cs).takeWhile qcL).length:Nat):Int).toNat=mkB ((c :: cs).takeWhile qcL):=by
   rw [prefix_mk,hc,Int.toNat_natCast,take_tw]
  rw [if_pos b1,if_pos b1,hlen,Option.bind_some,if_pos (by omega),if_pos (by omega),hx,number_prog (mkB _) (by rw [mkB_size];omega) (by rw [bl_mkB];exact tw_mem _ _) _ (by rw [mkB_size];omega),Option.bind_some,bl_mkB]
  unfold numOut
  split<;>rfl
 ·rw [if_neg b1,if_neg b1]
  by_cases b2:isWrd c=true
  ·have hlen:lexer_length.f s 65=some ((((c :: cs).takeWhile isWrd).length:Nat):Int):=by
    unfold lexer_length.f lenP
    rw [if_pos (by omega),if_neg (by decide),if_neg (by decide),if_pos rfl,← hc]
    rfl
   have hle:((c :: cs).takeWhile isWrd).length≤s.size:=by
    rw [← qcM,hc]
    exact List.Sublist.length_le (List.takeWhile_sublist _)
   rw [if_pos b2,if_pos b2,hlen,Option.bind_some]
   by_cases b3:((c :: cs).takeWhile isWrd).length > 16
   ·rw [if_pos (by omega),if_pos b3]
    rfl
   ·rw [if_neg (by omega),if_neg b3,if_pos (by omega),if_pos (by omega),prefix_mk,hc,Int.toNat_natCast,take_tw]
    rfl
  ·rw [if_neg b2,if_neg b2]
   have step:∀ (n:Nat) (K:Nat),0 < n→n≤s.size→lexer_first.l0 (K+1) s n=if isMk ((c :: cs).take n)=true then some (firstOut (3,(c :: cs).take n,0,0)) else lexer_first.l0 K s ((n:Int) - 1):=by
    intro n K hn hn2
    rw [lexer_first.l0,if_pos (by omega),if_pos (by omega),if_pos (by omega),mark_prog,Option.bind_some,Int.toNat_natCast,bl_prefix,hc,prefix_mk,hc,show wrap64 ((n:Int) - 1)=(n:Int) - 1 by unfold wrap64;omega]
    rfl
   have last:∀ K,lexer_first.l0 (K+1) s 0=some (firstOut (0,[],0,5)):=by
    intro K
    rw [lexer_first.l0,if_neg (by omega)]
    rfl
   by_cases b4:s.size=1
   ·have hcs:cs=[]:=by
     have:=congrArg List.length hc
     rw [qcM,b4] at this
     simpa using this.symm
    rw [show mn 2 (s.size:Int)=((1:Nat):Int) by unfold mn;rw [b4];rfl,step 1 _ (by omega) (by omega),hcs,show (((1:Nat):Int) - 1)=0 from rfl,last]
    simp only [List.take_succ_cons,List.take_nil,List.take_zero]
    by_cases b5:isMk [c]=true
    ·rw [if_pos b5,if_pos b5]
    ·rw [if_neg b5,if_neg b5,if_neg b5]
   ·rw [show mn 2 (s.size:Int)=((2:Nat):Int) by unfold mn;rw [if_neg (by omega)];rfl,step 2 _ (by omega) (by omega),show (((2:Nat):Int) - 1)=((1:Nat):Int) from rfl,step 1 _ (by omega) (by omega),show (((1:Nat):Int) - 1)=0 from rfl,last]
    by_cases b5:isMk ((c :: cs).take 2)=true
    ·rw [if_pos b5,if_pos b5]
    ·rw [if_neg b5,if_neg b5]
     by_cases b6:isMk ((c :: cs).take 1)=true
     ·rw [if_pos b6,if_pos b6]
     ·rw [if_neg b6,if_neg b6]
theorem first_ok (c:UInt8) (cs:List UInt8) (h:(qbT (c :: cs)).2.2.2=0):1≤(qbT (c :: cs)).2.1.length∧(qbT (c :: cs)).2.1.length≤(c :: cs).length:=by
 have htw:∀ p:UInt8→Bool,p c=true→1≤((c :: cs).takeWhile p).length∧((c :: cs).takeWhile p).length≤(c :: cs).length:=by
  intro p hp
  refine ⟨?_,List.Sublist.length_le (List.takeWhile_sublist _)⟩
  rw [List.takeWhile_cons,hp]
  simp
 simp only [qbT] at h ⊢
 by_cases b1:qcL c=true
 ·rw [if_pos b1] at h ⊢
  split at h
  ·rename_i g
   rw [if_pos g]
   exact htw qcL b1
  ·rename_i g
   exact absurd h g
 ·rw [if_neg b1] at h ⊢
  by_cases b2:isWrd c=true
  ·rw [if_pos b2] at h ⊢
   split at h
   ·cases h
   ·rename_i g
    rw [if_neg g]
    exact htw isWrd b2
  ·rw [if_neg b2] at h ⊢
   split at h
   ·rename_i g
    rw [if_pos g]
    simp only [List.length_take,List.length_cons]
    omega
   ·rename_i g
    rw [if_neg g]
    split at h
    ·rename_i g
     rw [if_pos g]
     simp only [List.length_take,List.length_cons]
     omega
    ·cases h
def scanL:Nat→List UInt8→Nat→List S68 × Int × Int
 | 0,_,_=>([],0,0)
 | _+1,[],a=>([⟨0,⟨#[]⟩,0,(a:Int)⟩],0,0)
 | n+1,c :: cs,a =>
  if (qbT (c :: cs)).2.2.2=0 then
   (if (scanL n ((c :: cs).drop ((qbT (c :: cs)).2.1.length+skR false ((c :: cs).drop (qbT (c :: cs)).2.1.length))) (a+((qbT (c :: cs)).2.1.length+skR false ((c :: cs).drop (qbT (c :: cs)).2.1.length)))).2.1=0 then
    (⟨(qbT (c :: cs)).1,mkB (qbT (c :: cs)).2.1,(qbT (c :: cs)).2.2.1,(a:Int)⟩ :: (scanL n ((c :: cs).drop ((qbT (c :: cs)).2.1.length+skR false ((c :: cs).drop (qbT (c :: cs)).2.1.length))) (a+((qbT (c :: cs)).2.1.length+skR false ((c :: cs).drop (qbT (c :: cs)).2.1.length)))).1,0,0)
   else ([],(scanL n ((c :: cs).drop ((qbT (c :: cs)).2.1.length+skR false ((c :: cs).drop (qbT (c :: cs)).2.1.length))) (a+((qbT (c :: cs)).2.1.length+skR false ((c :: cs).drop (qbT (c :: cs)).2.1.length)))).2))
  else ([],(qbT (c :: cs)).2.2.2,(a:Int))
def accOut (acc:List S68) (r:List S68 × Int × Int):List S68 × Int × Int:=if r.2.1=0 then (acc++r.1,0,0) else ([],r.2)
theorem skip_all (s:ByteArray) (hs:s.size≤1000000) (K:Nat) (hK:2 * s.size+2≤K):lexer_skip.f K s=some ((skR false (bl s):Nat):Int):=by
 have h:=skip_prog s hs s.size 0 K (Nat.zero_add _) hK
 rw [List.drop_zero,Nat.zero_add] at h
 exact h
theorem scan_l0 (s:ByteArray) (hs:s.size≤8000):∀ (n i:Nat) (acc:List S68) (K:Nat),i≤s.size→s.size - i < n→acc.length≤i→(s.size - i)+2 * s.size+20≤K→lexer_Scan.l0 K s acc i=some (accOut acc (scanL n ((bl s).drop i) i)):=by
 intro n
 induction n with
 | zero=>intro i acc K _ h;exact absurd h (Nat.not_lt_zero _)
 | succ n ih =>
  intro i acc K hi hn ha hK
  obtain ⟨K,rfl⟩:∃ q,K=q+1:=⟨K - 1,by omega⟩
  rw [lexer_Scan.l0]
  by_cases h:i=s.size
  ·rw [if_neg (by omega),if_pos (by omega),List.drop_eq_nil_of_le (by rw [qcM];omega),h]
   rfl
  ·obtain ⟨c,cs,hc⟩:=drop_cons s i (by omega)
   have hcl:(c :: cs).length=s.size - i:=by rw [← hc,List.length_drop,qcM]
   have hf:lexer_first.f K (s.extract i s.size)=some ((qbT (c :: cs)).1,mkB (qbT (c :: cs)).2.1,(qbT (c :: cs)).2.2.1,0,(qbT (c :: cs)).2.2.2):=by
    rw [first_prog _ (by rw [ByteArray.size_extract];omega) (by rw [ByteArray.size_extract];omega) K (by rw [ByteArray.size_extract];omega),bl_suffix,hc]
    rfl
   rw [if_pos (by omega),if_pos (by omega),if_pos (by omega),Int.toNat_natCast,hf,Option.bind_some,hc]
   simp only [scanL]
   by_cases g:(qbT (c :: cs)).2.2.2=0
   ·obtain ⟨q1,q2⟩:=first_ok c cs g
    obtain ⟨d,hd⟩:∃ d,d=(qbT (c :: cs)).2.1.length:=⟨_,rfl⟩
    have hsk:=skR_le ((c :: cs).drop d) false
    rw [List.length_drop] at hsk
    have hk:lexer_skip.f K (s.extract (((i+d:Nat):Int)).toNat s.size)=some ((skR false ((c :: cs).drop d):Nat):Int):=by
     rw [Int.toNat_natCast,skip_all (s.extract (i+d) s.size) (by rw [ByteArray.size_extract];omega) K (by rw [ByteArray.size_extract];omega),bl_suffix,← List.drop_drop,hc]
    have ha1:acc.length < 3518437208883:=by omega
    have ha2:(0:Int)≤((i+d:Nat):Int):=by omega
    have ha3:((i+d:Nat):Int)≤(s.size:Int):=by omega
    have e1:wrap64 ((i:Int)+((mkB (qbT (c :: cs)).2.1).size:Int))=((i+d:Nat):Int):=by
     rw [mkB_size,← hd,← Int.natCast_add]
     exact qcH (i+d) (by omega)
    rw [if_pos g,if_pos g,if_pos ha1,e1,if_pos ha2,if_pos ha3,hk,Option.bind_some,← hd]
    clear e1 hk ha1 ha2 ha3
    have f1:i+(d+skR false ((c :: cs).drop d))≤s.size:=by omega
    have f2:s.size - (i+(d+skR false ((c :: cs).drop d))) < n:=by omega
    have f3:(acc++[(⟨(qbT (c :: cs)).1,mkB (qbT (c :: cs)).2.1,(qbT (c :: cs)).2.2.1,(i:Int)⟩:S68)]).length≤i+(d+skR false ((c :: cs).drop d)):=by
     rw [List.length_append,List.length_singleton]
     omega
    have f4:s.size - (i+(d+skR false ((c :: cs).drop d)))+2 * s.size+20≤K:=by omega
    have e2:wrap64 (((i+d:Nat):Int)+((skR false ((c :: cs).drop d):Nat):Int))=((i+(d+skR false ((c :: cs).drop d)):Nat):Int):=by
     rw [← qcH (i+(d+skR false ((c :: cs).drop d))) (by omega)]
     congr 1
     omega
    rw [e2,ih (i+(d+skR false ((c :: cs).drop d))) _ K f1 f2 f3 f4]
    have e3:(bl s).drop (i+(d+skR false ((c :: cs).drop d)))=(c :: cs).drop (d+skR false ((c :: cs).drop d)):=by rw [← List.drop_drop,hc]
    rw [e3]
    unfold accOut
    by_cases g2:(scanL n ((c :: cs).drop (d+skR false ((c :: cs).drop d))) (i+(d+skR false ((c :: cs).drop d)))).2.1=0
    ·rw [if_pos g2,if_pos g2,if_pos rfl,List.append_assoc]
     rfl
    ·rw [if_neg g2,if_neg g2,if_neg g2]
   ·rw [if_neg g,if_neg g]
    unfold accOut
    rw [if_neg g]
def scanB (s:ByteArray):List S68 × Int × Int:=if s.size > 8000 then ([],4,0) else scanL (s.size+1) ((bl s).drop (skR false (bl s))) (skR false (bl s))
theorem scanL_err (n:Nat):∀ (l:List UInt8) (a:Nat),(scanL n l a).2.1=0→(scanL n l a).2.2=0:=by
 induction n with
 | zero=>intro l a _;rfl
 | succ n ih =>
  intro l a h
  cases l with
  | nil=>rfl
  | cons c cs =>
   simp only [scanL] at h ⊢
   by_cases g:(qbT (c :: cs)).2.2.2=0
   ·rw [if_pos g] at h ⊢
    split at h
    ·rename_i g2
     rw [if_pos g2]
    ·rename_i g2
     exact absurd h g2
   ·rw [if_neg g] at h
    exact absurd h g
theorem scanL_nil (n:Nat):∀ (l:List UInt8) (a:Nat),(scanL n l a).2.1 ≠ 0→(scanL n l a).1=[]:=by
 induction n with
 | zero=>intro l a h;rfl
 | succ n ih =>
  intro l a h
  cases l with
  | nil=>exact absurd rfl h
  | cons c cs =>
   simp only [scanL] at h ⊢
   by_cases g:(qbT (c :: cs)).2.2.2=0
   ·rw [if_pos g] at h ⊢
    split at h
    ·exact absurd rfl h
    ·rename_i g2
     rw [if_neg g2]
   ·rw [if_neg g]
theorem accOut_nil (n:Nat) (l:List UInt8) (a:Nat):accOut [] (scanL n l a)=scanL n l a:=by
 unfold accOut
 by_cases g:(scanL n l a).2.1=0
 ·rw [if_pos g,List.nil_append]
  have:=scanL_err n l a g
  refine Prod.ext rfl (Prod.ext g.symm this.symm)
 ·rw [if_neg g]
  exact Prod.ext (scanL_nil n l a g).symm rfl
theorem scan_prog (s:ByteArray) (K:Nat) (hK:3 * s.size+20≤K):lexer_Scan.f K s=some (scanB s):=by
 unfold lexer_Scan.f scanB
 by_cases g:s.size > 8000
 ·rw [if_pos g,if_pos (by omega)]
 ·have hsk:=skR_le (bl s) false
  rw [qcM] at hsk
  rw [if_neg g,if_neg (by omega)]
  rw [skip_all s (by omega) K (by omega),Option.bind_some,scan_l0 s (by omega) (s.size+1) _ [] K hsk (by omega) (Nat.zero_le _) (by omega),accOut_nil]
end Go.Proofs.YtehdmplngmbnnaaDoor.P
namespace Go.Proofs.YtehdmplngmbnnaaDoor.P
open Go.RowKit Go.Proofs.YtehdmplngmbnnaaDoorW.PrintWords
set_option linter.unusedVariables false
set_option linter.unusedSimpArgs false
theorem dd_step {n:Nat} (g:¬ n < 10):Lib.decDigits n=Lib.decDigits (n / 10)++[UInt8.ofNat (48+n % 10)]:=by rw [Lib.decDigits,dif_neg g]
theorem ofNat_toNat (m:Nat) (h:m < 10):(UInt8.ofNat (48+m)).toNat=48+m:=by
 rw [UInt8.toNat_ofNat']
 exact Nat.mod_eq_of_lt (by omega)
theorem isDig_of (c:UInt8) (h1:48≤c.toNat) (h2:c.toNat≤57):qcL c=true:=by
 unfold qcL
 simp only [Bool.and_eq_true,decide_eq_true_eq,UInt8.le_iff_toNat_le]
 exact ⟨h1,h2⟩
theorem dd_all (n:Nat):∀ c ∈ Lib.decDigits n,qcL c=true:=by
 induction n using Nat.strongRecOn with
 | ind n ih =>
  intro c hc
  by_cases g:n < 10
  ·rw [Lib.decDigits_one g,List.mem_singleton] at hc
   have:=ofNat_toNat n g
   rw [← hc] at this
   exact isDig_of c (by omega) (by omega)
  ·rw [dd_step g,List.mem_append,List.mem_singleton] at hc
   rcases hc with hc|hc
   ·exact ih (n / 10) (by omega) c hc
   ·have:=ofNat_toNat (n % 10) (by omega)
    rw [← hc] at this
    exact isDig_of c (by omega) (by omega)
theorem dd_ne (n:Nat):Lib.decDigits n ≠ []:=by
 by_cases g:n < 10
 ·rw [Lib.decDigits_one g];simp
 ·rw [dd_step g];simp
theorem numAcc_snoc (l:List UInt8):∀ (v:Int) (c:UInt8),numAcc v (l++[c])=(numAcc v l).bind fun w=>if 10 * w+((c.toNat:Int) - 48) > 1099511627776 then none else some (10 * w+((c.toNat:Int) - 48)):=by
 induction l with
 | nil=>intro v c;rfl
 | cons x xs ih =>
  intro v c
  simp only [List.cons_append,numAcc]
  by_cases g:10 * v+((x.toNat:Int) - 48) > 1099511627776
  ·rw [if_pos g,if_pos g]
   rfl
  ·rw [if_neg g,if_neg g,ih]
theorem dd_acc (n:Nat):n≤1099511627776→numAcc 0 (Lib.decDigits n)=some (n:Int):=by
 induction n using Nat.strongRecOn with
 | ind n ih =>
  intro hn
  by_cases g:n < 10
  ·have h:=ofNat_toNat n g
   rw [Lib.decDigits_one g]
   simp only [numAcc]
   rw [h,if_neg (by omega)]
   congr 1
   omega
  ·have h:=ofNat_toNat (n % 10) (by omega)
   rw [dd_step g,numAcc_snoc,ih (n / 10) (by omega) (by omega),Option.bind_some,h,if_neg (by omega)]
   congr 1
   omega
theorem head_app {α:Type} (l m:List α) (h:l ≠ []):(l++m).head?=l.head?:=by
 cases l with
 | nil=>exact absurd rfl h
 | cons x xs=>rfl
theorem dd_head (n:Nat):(Lib.decDigits n).head?=some 48→n=0:=by
 induction n using Nat.strongRecOn with
 | ind n ih =>
  intro h
  by_cases g:n < 10
  ·have h2:=ofNat_toNat n g
   rw [Lib.decDigits_one g] at h
   have h3:=Option.some.inj h
   rw [h3] at h2
   have:(48:UInt8).toNat=48:=rfl
   omega
  ·rw [dd_step g,head_app _ _ (dd_ne _)] at h
   have:=ih (n / 10) (by omega) h
   omega
theorem dd_num (n:Nat) (hn:n≤1099511627776):numL (Lib.decDigits n)=((n:Int),0):=by
 unfold numL
 rw [if_neg,dd_acc n hn]
 ·rfl
 ·rintro ⟨h1,h2⟩
  have:=dd_head n h2
  subst this
  rw [Lib.decDigits_one (by omega)] at h1
  simp at h1
theorem dd_back:∀ (m:Nat) (ds:List UInt8) (v:Int),ds.length=m→ds ≠ []→(∀ c ∈ ds,qcL c=true)→numAcc 0 ds=some v→¬ (ds.length > 1∧ds.head?=some 48)→0≤v∧ds=Lib.decDigits v.toNat:=by
 intro m
 induction m with
 | zero =>
  intro ds v hl hne
  exact absurd (List.eq_nil_of_length_eq_zero hl) hne
 | succ m ih =>
  intro ds v hl hne hd hv hh
  rcases List.eq_nil_or_concat ds with h|⟨l,c,h⟩
  ·exact absurd h hne
  ·rw [List.concat_eq_append] at h
   subst h
   have hc:=dig_range (hd c (by simp))
   rw [numAcc_snoc] at hv
   obtain ⟨w,hw,hv⟩:=Option.bind_eq_some_iff.mp hv
   by_cases g:10 * w+((c.toNat:Int) - 48) > 1099511627776
   ·rw [if_pos g] at hv;cases hv
   ·rw [if_neg g] at hv
    have hv:=Option.some.inj hv
    by_cases hln:l=[]
    ·subst hln
     have hw0:w=0:=by simpa [numAcc] using hw.symm
     refine ⟨by omega,?_⟩
     rw [Lib.decDigits_one (by omega)]
     simp only [List.nil_append]
     congr 1
     apply UInt8.toNat.inj
     rw [ofNat_toNat _ (by omega)]
     omega
    ·have hhead:(l++[c]).head?=l.head?:=head_app _ _ hln
     have hlen:(l++[c]).length > 1:=by
      rw [List.length_append,List.length_singleton]
      have:=List.length_pos_iff.mpr hln
      omega
     have hno:¬ l.head?=some 48:=fun h=>hh ⟨hlen,by rw [hhead];exact h⟩
     obtain ⟨i1,i2⟩:=ih l w (by rw [List.length_append,List.length_singleton] at hl;omega) hln (fun d hd'=>hd d (List.mem_append_left _ hd')) hw (fun h=>hno h.2)
     have hw1:w ≠ 0:=by
      intro h0
      rw [h0] at i2
      apply hno
      rw [i2,Lib.decDigits_one (by decide)]
      rfl
     have hv2:v.toNat / 10=w.toNat:=by omega
     have hv3:v.toNat % 10=c.toNat - 48:=by omega
     refine ⟨by omega,?_⟩
     rw [dd_step (by omega),hv2,hv3,← i2]
     congr 2
     apply UInt8.toNat.inj
     rw [ofNat_toNat _ (by omega)]
     omega
def fmt (n:Int):ByteArray:=mkB (Lib.itoa n)
def tk3 (x:S68):Int × ByteArray × Int:=(x.f0,x.f1,x.f2)
def endT:Int × ByteArray × Int:=(0,⟨#[]⟩,0)
structure Wf (x:S68):Prop where
 kinds:x.f0=1 ∨ x.f0=2 ∨ x.f0=3
 num:x.f0=2→x.f1=fmt x.f2
 zero:x.f0 ≠ 2→x.f2=0
 rng:0≤x.f2∧x.f2≤1099511627776
theorem first_wf (c:UInt8) (cs:List UInt8) (a:Int) (h:(qbT (c :: cs)).2.2.2=0):Wf ⟨(qbT (c :: cs)).1,mkB (qbT (c :: cs)).2.1,(qbT (c :: cs)).2.2.1,a⟩:=by
 simp only [qbT] at h ⊢
 by_cases b1:qcL c=true
 ·rw [if_pos b1] at h ⊢
  by_cases g:(numL ((c :: cs).takeWhile qcL)).2=0
  ·rw [if_pos g]
   have hall:=tw_mem qcL (c :: cs)
   have hne:(c :: cs).takeWhile qcL ≠ []:=by
    rw [List.takeWhile_cons,b1]
    simp
   generalize (c :: cs).takeWhile qcL=ds at *
   unfold numL at g ⊢
   by_cases g2:ds.length > 1∧ds.head?=some 48
   ·rw [if_pos g2] at g
    cases g
   ·rw [if_neg g2] at g ⊢
    cases hv:numAcc 0 ds with
    | none=>rw [hv] at g;cases g
    | some v =>
     obtain ⟨d1,d2⟩:=dd_back ds.length ds v rfl hne hall hv g2
     have hr:=numAcc_range ds 0 v hall (by decide) (by decide) hv
     refine ⟨Or.inr (Or.inl rfl),fun _=>?_,fun h=>absurd rfl h,hr⟩
     show mkB ds=fmt v
     unfold fmt
     rw [show v=((v.toNat:Nat):Int) by omega,Lib.itoa_nonneg,← d2]
  ·rw [if_neg g] at h
   exact absurd h g
 ·rw [if_neg b1] at h ⊢
  by_cases b2:isWrd c=true
  ·rw [if_pos b2] at h ⊢
   split at h
   ·cases h
   ·rename_i g
    rw [if_neg g]
    exact ⟨Or.inl rfl,(fun h=>by simp at h),(fun _=>rfl),(by show (0:Int)≤0∧(0:Int)≤1099511627776;decide)⟩
  ·rw [if_neg b2] at h ⊢
   split at h
   ·rename_i g
    rw [if_pos g]
    exact ⟨Or.inr (Or.inr rfl),(fun h=>by simp at h),(fun _=>rfl),(by show (0:Int)≤0∧(0:Int)≤1099511627776;decide)⟩
   ·rename_i g
    rw [if_neg g]
    split at h
    ·rename_i g
     rw [if_pos g]
     exact ⟨Or.inr (Or.inr rfl),(fun h=>by simp at h),(fun _=>rfl),(by show (0:Int)≤0∧(0:Int)≤1099511627776;decide)⟩
    ·cases h
theorem scanL_wf (n:Nat):∀ (l:List UInt8) (a:Nat),l.length < n→(scanL n l a).2.1=0→∃ ts e,(scanL n l a).1=ts++[(⟨0,⟨#[]⟩,0,e⟩:S68)]∧ts.length≤l.length∧(∀ x ∈ ts,Wf x∧x.f1.size≤l.length∧0≤x.f3∧x.f3≤((a+l.length:Nat):Int))∧0≤e∧e≤((a+l.length:Nat):Int):=by
 induction n with
 | zero=>intro l a h;exact absurd h (Nat.not_lt_zero _)
 | succ n ih =>
  intro l a hl h
  cases l with
  | nil =>
   refine ⟨[],a,rfl,Nat.le_refl _,(fun x hx=>absurd hx (by simp)),(by omega),?_⟩
   simp
  | cons c cs =>
   simp only [scanL] at h ⊢
   by_cases g:(qbT (c :: cs)).2.2.2=0
   ·obtain ⟨q1,q2⟩:=first_ok c cs g
    have hw:=first_wf c cs (a:Int) g
    rw [if_pos g] at h ⊢
    generalize hd:(qbT (c :: cs)).2.1.length+skR false ((c :: cs).drop (qbT (c :: cs)).2.1.length)=d at *
    by_cases g2:(scanL n ((c :: cs).drop d) (a+d)).2.1=0
    ·have hdl:d≤(c :: cs).length:=by
      have:=skR_le ((c :: cs).drop (qbT (c :: cs)).2.1.length) false
      rw [List.length_drop] at this
      omega
     have hln:((c :: cs).drop d).length=(c :: cs).length - d:=List.length_drop
     obtain ⟨ts,e,i1,i2,i3,i4,i5⟩:=ih ((c :: cs).drop d) (a+d) (by omega) g2
     have hbound:a+d+((c :: cs).drop d).length=a+(c :: cs).length:=by omega
     rw [hbound] at i3 i5
     rw [if_pos g2,i1]
     refine ⟨_ :: ts,e,rfl,?_,?_,i4,i5⟩
     ·rw [List.length_cons]
      omega
     ·intro x hx
      rcases List.mem_cons.mp hx with hx|hx
      ·rw [hx]
       refine ⟨hw,q2,?_,?_⟩
       ·show (0:Int)≤(a:Int)
        omega
       ·show (a:Int)≤_
        omega
      ·obtain ⟨j1,j2,j3⟩:=i3 x hx
       exact ⟨j1,by omega,j3⟩
    ·rw [if_neg g2] at h
     exact absurd h g2
   ·rw [if_neg g] at h
    exact absurd h g
theorem scanL_at (n:Nat):∀ (l:List UInt8) (a:Nat),l.length < n→0≤(scanL n l a).2.2∧(scanL n l a).2.2≤((a+l.length:Nat):Int):=by
 induction n with
 | zero=>intro l a h;exact absurd h (Nat.not_lt_zero _)
 | succ n ih =>
  intro l a hl
  cases l with
  | nil =>
   simp only [scanL]
   omega
  | cons c cs =>
   simp only [scanL]
   by_cases g:(qbT (c :: cs)).2.2.2=0
   ·obtain ⟨q1,q2⟩:=first_ok c cs g
    rw [if_pos g]
    generalize hd:(qbT (c :: cs)).2.1.length+skR false ((c :: cs).drop (qbT (c :: cs)).2.1.length)=d at *
    have hdl:d≤(c :: cs).length:=by
     have:=skR_le ((c :: cs).drop (qbT (c :: cs)).2.1.length) false
     rw [List.length_drop] at this
     omega
    have hln:((c :: cs).drop d).length=(c :: cs).length - d:=List.length_drop
    have:=ih ((c :: cs).drop d) (a+d) (by omega)
    split
    ·simp only
     omega
    ·simp only
     omega
   ·rw [if_neg g]
    simp only
    omega
def Lexes (l:List UInt8) (ts:List (Int × ByteArray × Int)):Prop:=∀ n a,l.length < n→(scanL n (l.drop (skR false l)) a).2.1=0∧(scanL n (l.drop (skR false l)) a).1.map tk3=ts++[endT]
theorem Lexes.nil:Lexes [] []:=by
 intro n a h
 obtain ⟨n,rfl⟩:∃ q,n=q+1:=⟨n - 1,by omega⟩
 exact ⟨rfl,rfl⟩
theorem Lexes.tok {l:List UInt8} {ts:List (Int × ByteArray × Int)} (k:Int) (tx:List UInt8) (v:Int) (hne:tx ≠ []) (hs:skR false (tx++l)=0) (hf:qbT (tx++l)=(k,tx,v,0)) (h:Lexes l ts):Lexes (tx++l) ((k,mkB tx,v) :: ts):=by
 intro n a hn
 rw [hs,List.drop_zero]
 obtain ⟨n,rfl⟩:∃ q,n=q+1:=⟨n - 1,by omega⟩
 have hp:=List.length_pos_iff.mpr hne
 have hl:l.length < n:=by
  rw [List.length_append] at hn
  omega
 obtain ⟨h1,h2⟩:=h n (a+(tx.length+skR false l)) hl
 obtain ⟨c,cs,hcs⟩:∃ c cs,tx++l=c :: cs:=by
  cases tx with
  | nil=>exact absurd rfl hne
  | cons c cs=>exact ⟨c,cs++l,rfl⟩
 have hd:(tx++l).drop tx.length=l:=List.drop_left
 rw [hcs] at hf hd ⊢
 simp only [scanL,hf,hd]
 have hd2:(c :: cs).drop (tx.length+skR false l)=l.drop (skR false l):=by rw [← List.drop_drop,hd]
 rw [hd2,if_pos trivial,if_pos h1]
 refine ⟨rfl,?_⟩
 simp only [List.map_cons,h2]
 rfl
theorem skR_no (c:UInt8) (cs:List UInt8) (h1:c ≠ 10) (h2:c ≠ 32) (h3:c ≠ 35):skR false (c :: cs)=0:=by
 simp only [skR]
 rw [if_neg h1,if_neg (by simp [h2]),if_neg h3]
theorem tw_app (p:UInt8→Bool) (tx l:List UInt8) (h:∀ c ∈ tx,p c=true) (hl:∀ c cs,l=c :: cs→p c=false):(tx++l).takeWhile p=tx:=by
 induction tx with
 | nil =>
  cases l with
  | nil=>rfl
  | cons c cs =>
   have:=hl c cs rfl
   simp [List.takeWhile_cons,this]
 | cons c cs ih =>
  have:=h c (List.mem_cons_self ..)
  rw [List.cons_append,List.takeWhile_cons,this,if_pos rfl,ih (fun d hd=>h d (List.mem_cons_of_mem _ hd))]
theorem wrd_no {c:UInt8} (h:isWrd c=true):c ≠ 10∧c ≠ 32∧c ≠ 35:=by
 refine ⟨?_,?_,?_⟩<;>rintro rfl<;>revert h<;>decide
theorem dig_wrd {c:UInt8} (h:qcL c=true):isWrd c=true:=by
 unfold isWrd
 rw [h]
 rfl
theorem Lexes.word {l:List UInt8} {ts:List (Int × ByteArray × Int)} (c:UInt8) (cs:List UInt8) (hc:qcL c=false) (hw:∀ d ∈ c :: cs,isWrd d=true) (hlen:(c :: cs).length≤16) (hl:∀ d ds,l=d :: ds→isWrd d=false) (h:Lexes l ts):Lexes ((c :: cs)++l) ((1,mkB (c :: cs),0) :: ts):=by
 obtain ⟨n1,n2,n3⟩:=wrd_no (hw c (List.mem_cons_self ..))
 refine Lexes.tok 1 (c :: cs) 0 (by simp) (skR_no _ _ n1 n2 n3) ?_ h
 have ht:=tw_app isWrd (c :: cs) l hw hl
 rw [List.cons_append] at ht ⊢
 simp only [qbT]
 rw [if_neg (by simp [hc]),if_pos (hw c (List.mem_cons_self ..)),ht,if_neg (by omega)]
theorem Lexes.num {l:List UInt8} {ts:List (Int × ByteArray × Int)} (n:Int) (h0:0≤n) (h1:n≤1099511627776) (hl:∀ d ds,l=d :: ds→qcL d=false) (h:Lexes l ts):Lexes (bl (fmt n)++l) ((2,fmt n,n) :: ts):=by
 obtain ⟨m,rfl⟩:∃ m:Nat,n=m:=⟨n.toNat,by omega⟩
 have hb:bl (fmt (m:Int))=Lib.decDigits m:=by
  unfold fmt
  rw [bl_mkB,Lib.itoa_nonneg]
 have hf:fmt (m:Int)=mkB (Lib.decDigits m):=by
  unfold fmt
  rw [Lib.itoa_nonneg]
 rw [hb,hf]
 obtain ⟨c,cs,hcs⟩:∃ c cs,Lib.decDigits m=c :: cs:=by
  cases hd:Lib.decDigits m with
  | nil=>exact absurd hd (dd_ne m)
  | cons c cs=>exact ⟨c,cs,rfl⟩
 have hall:=dd_all m
 have hnum:=dd_num m (by omega)
 rw [hcs] at hall hnum ⊢
 have hdc:=hall c (List.mem_cons_self ..)
 obtain ⟨n1,n2,n3⟩:=wrd_no (dig_wrd hdc)
 refine Lexes.tok 2 (c :: cs) m (by simp) (skR_no _ _ n1 n2 n3) ?_ h
 have ht:=tw_app qcL (c :: cs) l hall hl
 rw [List.cons_append] at ht ⊢
 simp only [qbT]
 rw [if_pos hdc,ht,hnum,if_pos rfl]
theorem Lexes.mark {l:List UInt8} {ts:List (Int × ByteArray × Int)} (c:UInt8) (h1:isWrd c=false) (h2:c ≠ 10∧c ≠ 32∧c ≠ 35) (hm:isMk [c]=true) (hno:∀ d,isMk [c,d]=false) (h:Lexes l ts):Lexes (c :: l) ((3,mkB [c],0) :: ts):=by
 refine Lexes.tok 3 [c] 0 (by simp) (skR_no _ _ h2.1 h2.2.1 h2.2.2) ?_ h
 have hd:qcL c=false:=by
  by_cases g:qcL c=true
  ·rw [dig_wrd g] at h1;cases h1
  ·simpa using g
 rw [List.singleton_append]
 simp only [qbT]
 rw [if_neg (by simp [hd]),if_neg (by simp [h1])]
 cases l with
 | nil =>
  rw [show ([c]:List UInt8).take 2=[c] from rfl,if_pos hm]
 | cons d ds =>
  rw [show (c :: d :: ds).take 2=[c,d] from rfl,hno d,if_neg Bool.false_ne_true,show (c :: d :: ds).take 1=[c] from rfl,if_pos hm]
end Go.Proofs.YtehdmplngmbnnaaDoor.P
namespace Go.Proofs.YtehdmplngmbnnaaDoor.P
open Go.RowKit Go.Proofs.YtehdmplngmbnnaaDoorW.PrintWords
set_option linter.unusedVariables false
set_option linter.unusedSimpArgs false
def found (o:Option S24):ByteArray × Int × List S52 × Bool:=match o with
 | none=>(⟨#[]⟩,0,[],false)
 | some s=>(s.f0,s.f1,s.f2,true)
theorem find_prog (n:ByteArray) (l:List S24) (hl:l.length≤1000000) (hs:∀ s ∈ l,s.f2.length≤1000000):schedule_Find.f l n=some (found (l.find? (hasNm n))):=by
 unfold schedule_Find.f
 rw [if_pos hl]
 cases h:l.find? (hasNm n) with
 | none=>rfl
 | some s =>
  simp only [if_pos (hs s (List.mem_of_find?_eq_some h))]
  rfl
end Go.Proofs.YtehdmplngmbnnaaDoor.P
namespace Go.Proofs.YtehdmplngmbnnaaDoor.P
open Go.RowKit Go.Proofs.YtehdmplngmbnnaaDoorW.PrintWords
set_option linter.unusedVariables false
set_option linter.unusedSimpArgs false
theorem rd_mem {l:List S24} (i:Int) (h0:0≤i) (h1:i < (l.length:Int)):qaP l i ∈ l:=by
 have hk:i.toNat < l.length:=by omega
 unfold qaP
 rw [List.getD_eq_getElem?_getD,List.getElem?_eq_getElem hk]
 simp
theorem last_some (l:List S24) (hl:0 < l.length) (hl2:l.length≤1000) (hs:∀ s ∈ l,s.f0.size≤100000∧s.f2.length≤1000000):∃ e,schedule_last.f l=some e:=by
 have e:wrap64 ((l.length:Int) - 1)=(l.length:Int) - 1:=by
  unfold wrap64
  omega
 unfold schedule_last.f
 rw [e]
 have q0:0≤(l.length:Int) - 1:=by omega
 have q1:(l.length:Int) - 1 < (l.length:Int):=by omega
 have q3:(l.length:Int) - 1≤(l.length:Int):=by omega
 by_cases g1:(l.length:Int) - 1 ≥ 8
 ·simp only [if_pos g1]
  exact ⟨_,rfl⟩
 ·simp only [if_neg g1,if_pos q0,if_pos q1,if_pos q3]
  obtain ⟨c,hc⟩:∃ c,schedule_Check.f (qaP l ((l.length:Int) - 1)).f0 (qaP l ((l.length:Int) - 1)).f1 (qaP l ((l.length:Int) - 1)).f2=some c:=⟨_,rfl⟩
  rw [hc,Option.bind_some]
  by_cases g2:c=0
  ·rw [if_pos g2,find_prog _ _ (by rw [List.length_take];omega) (fun s hx=>by have:=(hs s (List.mem_of_mem_take hx)).2;omega)]
   simp only [Option.bind_some]
   split<;>exact ⟨_,rfl⟩
  ·rw [if_neg g2]
   exact ⟨_,rfl⟩
end Go.Proofs.YtehdmplngmbnnaaDoor.P
namespace Go.Proofs.YtehdmplngmbnnaaDoor.P
open Go.RowKit Go.Proofs.YtehdmplngmbnnaaDoorW.PrintWords
set_option linter.unusedVariables false
set_option linter.unusedSimpArgs false
theorem stOk_eq (s:S52):stOk s=(decide (0≤s.f0) && decide (s.f0≤20000) && (decide (0≤s.f1) && decide (s.f1≤10000)) && !(decide (s.f0=0) && decide (s.f1=0)) && (decide (200≤s.f2) && decide (s.f2≤1200)) && (decide (0≤s.f3) && decide (s.f3≤400))):=by
 rw [Bool.eq_iff_iff]
 unfold stOk stChk
 simp only [Bool.and_eq_true,Bool.not_eq_true',Bool.or_eq_false_iff,decide_eq_false_iff_not,beq_eq_false_iff_ne,ne_eq,decide_eq_true_eq,Bool.and_eq_false_iff]
 constructor
 ·rintro ⟨⟨⟨⟨⟨a1,a2⟩,a3,a4⟩,a5,a6⟩,a7,a8⟩,hz⟩
  have hw:wrap64 (s.f0+s.f1)=s.f0+s.f1:=by
   unfold wrap64
   omega
  rw [hw] at hz
  omega
 ·rintro ⟨⟨⟨⟨⟨a1,a2⟩,a3,a4⟩,hz⟩,a5,a6⟩,a7,a8⟩
  have hw:wrap64 (s.f0+s.f1)=s.f0+s.f1:=by
   unfold wrap64
   omega
  rw [hw]
  omega
end Go.Proofs.YtehdmplngmbnnaaDoor.P
namespace Go.Proofs.YtehdmplngmbnnaaDoor.P
open Go.RowKit Go.Proofs.YtehdmplngmbnnaaDoorW.PrintWords
set_option linter.unusedVariables false
set_option linter.unusedSimpArgs false
def fm (n:Int):ByteArray:=⟨(Lib.itoa n).toArray⟩
theorem check_ok (n:ByteArray) (r:Int) (l:List S52) (h:schedule_Check.f n r l=some 0):isNm n=true∧1≤r∧r≤1200∧1≤l.length∧l.length≤12∧l.all stOk=true:=by
 unfold schedule_Check.f at h
 have h:=Option.some.inj h
 by_cases g1:isNm n=true
 ·rw [if_pos g1] at h
  by_cases g2:r < 1 ∨ 1200 < r
  ·rw [if_pos g2] at h;cases h
  ·rw [if_neg g2] at h
   by_cases g3:l.length < 1
   ·rw [if_pos g3] at h;cases h
   ·rw [if_neg g3] at h
    by_cases g4:12 < l.length
    ·rw [if_pos g4] at h;cases h
    ·rw [if_neg g4] at h
     by_cases g5:l.all stOk=true
     ·exact ⟨g1,by omega,by omega,by omega,by omega,g5⟩
     ·rw [if_neg g5] at h;cases h
 ·rw [if_neg g1] at h;cases h
def Good (s:S24):Prop:=schedule_Check.f s.f0 s.f1 s.f2=some 0
theorem last_zero (l:List S24) (hl:0 < l.length) (hl2:l.length≤1000) (h:schedule_last.f l=some 0):l.length≤8∧Good (qaP l ((l.length:Int) - 1)):=by
 have e:wrap64 ((l.length:Int) - 1)=(l.length:Int) - 1:=by
  unfold wrap64
  omega
 unfold schedule_last.f at h
 rw [e] at h
 have q0:0≤(l.length:Int) - 1:=by omega
 have q1:(l.length:Int) - 1 < (l.length:Int):=by omega
 have q3:(l.length:Int) - 1≤(l.length:Int):=by omega
 by_cases g1:(l.length:Int) - 1 ≥ 8
 ·simp only [if_pos g1,if_pos q0,if_pos q1] at h
  cases h
 ·refine ⟨by omega,?_⟩
  simp only [if_neg g1,if_pos q0,if_pos q1,if_pos q3] at h
  obtain ⟨c,hc,h⟩:=Option.bind_eq_some_iff.mp h
  unfold Good
  rw [hc]
  by_cases g2:c=0
  ·rw [g2]
  ·rw [if_neg g2] at h
   exact h
theorem rd_take (l:List S24) (k:Nat) (h:k < l.length):qaP (l.take (k+1)) k=qaP l k:=by
 unfold qaP
 rw [List.getD_eq_getElem?_getD,List.getD_eq_getElem?_getD,List.getElem?_take]
 simp
end Go.Proofs.YtehdmplngmbnnaaDoor.P
namespace Go.Proofs.YtehdmplngmbnnaaDoor.P
open Go.RowKit Go.Proofs.YtehdmplngmbnnaaDoorW.PrintWords
set_option linter.unusedVariables false
set_option linter.unusedSimpArgs false
abbrev Lx:=S68
def gL (L:List Lx) (a:Nat):Lx:=qaZ L (a:Int)
theorem gL_eq (L:List Lx) (a:Nat) (h:a < L.length):gL L a=L[a]:=by
 unfold gL qaZ
 rw [Int.toNat_natCast,List.getD_eq_getElem?_getD,List.getElem?_eq_getElem h]
 rfl
theorem gL_drop (L:List Lx) (a:Nat):qaZ (L.drop a) 0=gL L a:=by
 unfold gL qaZ
 rw [Int.toNat_natCast,List.getD_eq_getElem?_getD,List.getD_eq_getElem?_getD,List.getElem?_drop]
 rfl
def aIs (L:List Lx) (a:Nat) (b:Bool) (k:Int) (tx:ByteArray):Bool:=if b=true then false else if (gL L a).f0=k then (if tx.toList=([]:List UInt8) then true else (gL L a).f1.toList == tx.toList) else false
def qbH (L:List Lx) (a:Nat) (b:Bool) (k:Int) (tx:ByteArray):Nat × Bool:=if aIs L a b k tx=true then (a+1,false) else (a,true)
def aLex (L:List Lx) (a:Nat) (b:Bool) (k:Int) (tx:ByteArray):Lx:=if aIs L a b k tx=true then gL L a else ⟨0,⟨#[]⟩,0,0⟩
def aNum (L:List Lx) (a:Nat) (b:Bool):Nat × Bool × Int:=((qbH L a b 2 ⟨#[]⟩).1,(qbH L a b 2 ⟨#[]⟩).2,(aLex L a b 2 ⟨#[]⟩).f2)
def aPart (L:List Lx) (a:Nat) (b:Bool) (w:ByteArray):Nat × Bool × Int:=if aIs L a b 1 w=true then (if (gL L (a+1)).f0=2∧(gL L (a+1)).f2=0 then (a+1,true,0) else aNum L (a+1) false) else (a,b,0)
def wBelow:ByteArray:=⟨#[98,101,108,111,119]⟩
def wFor:ByteArray:=⟨#[102,111,114]⟩
def wAt:ByteArray:=⟨#[97,116]⟩
def wDash:ByteArray:=⟨#[45]⟩
def wSemi:ByteArray:=⟨#[59]⟩
def qbS:ByteArray:=⟨#[115,99,104,101,100,117,108,101]⟩
def wRamp:ByteArray:=⟨#[114,97,109,112]⟩
def wColon:ByteArray:=⟨#[58]⟩
structure StRes where
 a:Nat
 b:Bool
 x:S52
def qcA (L:List Lx) (a:Nat) (b:Bool):StRes :=
 let p1:=aPart L a b wBelow
 let p2:=aPart L p1.1 p1.2.1 wFor
 let t1:=qbH L p2.1 (if p1.2.2=0∧p2.2.2=0 then true else p2.2.1) 1 wAt
 let t2:=aNum L t1.1 t1.2
 let t3:=qbH L t2.1 t2.2.1 3 wDash
 let t4:=aNum L t3.1 t3.2
 let t5:=qbH L t4.1 t4.2.1 3 wSemi
 ⟨t5.1,t5.2,⟨p1.2.2,p2.2.2,t2.2.2,t4.2.2⟩⟩
structure Sound (L:List Lx):Prop where
 pos:0 < L.length
 fin:(gL L (L.length - 1)).f0=0
 num:∀ x ∈ L,0≤x.f2∧x.f2≤1099511627776
 len:L.length≤10000
theorem Sound.at_num {L:List Lx} (h:Sound L) (a:Nat) (ha:a < L.length):0≤(gL L a).f2∧(gL L a).f2≤1099511627776:=by
 rw [gL_eq L a ha]
 exact h.num _ (List.getElem_mem ha)
theorem aIs_kind {L:List Lx} {a:Nat} {b:Bool} {k:Int} {tx:ByteArray} (h:aIs L a b k tx=true):b=false∧(gL L a).f0=k:=by
 unfold aIs at h
 cases b
 ·rw [if_neg Bool.false_ne_true] at h
  by_cases g:(gL L a).f0=k
  ·exact ⟨rfl,g⟩
  ·rw [if_neg g] at h;cases h
 ·rw [if_pos rfl] at h;cases h
theorem Sound.next {L:List Lx} (h:Sound L) (a:Nat) (ha:a < L.length) (b:Bool) (k:Int) (hk:k ≠ 0) (tx:ByteArray) (hi:aIs L a b k tx=true):a+1 < L.length:=by
 obtain ⟨-,h2⟩:=aIs_kind hi
 by_cases g:a=L.length - 1
 ·rw [g,h.fin] at h2
  exact absurd h2.symm hk
 ·omega
theorem Sound.take {L:List Lx} (h:Sound L) (a:Nat) (ha:a < L.length) (b:Bool) (k:Int) (hk:k ≠ 0) (tx:ByteArray):(qbH L a b k tx).1 < L.length∧a≤(qbH L a b k tx).1:=by
 unfold qbH
 by_cases g:aIs L a b k tx=true
 ·rw [if_pos g]
  exact ⟨h.next a ha b k hk tx g,Nat.le_succ _⟩
 ·rw [if_neg g]
  exact ⟨ha,Nat.le_refl _⟩
theorem Sound.aNum {L:List Lx} (h:Sound L) (a:Nat) (ha:a < L.length) (b:Bool):(aNum L a b).1 < L.length∧a≤(aNum L a b).1∧0≤(aNum L a b).2.2∧(aNum L a b).2.2≤1099511627776:=by
 obtain ⟨h1,h2⟩:=h.take a ha b 2 (by decide) ⟨#[]⟩
 refine ⟨h1,h2,?_⟩
 show 0≤(aLex L a b 2 ⟨#[]⟩).f2∧(aLex L a b 2 ⟨#[]⟩).f2≤1099511627776
 unfold aLex
 split
 ·exact h.at_num a ha
 ·show (0:Int)≤0∧(0:Int)≤1099511627776
  omega
theorem Sound.part {L:List Lx} (h:Sound L) (a:Nat) (ha:a < L.length) (b:Bool) (w:ByteArray):(aPart L a b w).1 < L.length∧a≤(aPart L a b w).1∧0≤(aPart L a b w).2.2∧(aPart L a b w).2.2≤1099511627776:=by
 unfold aPart
 by_cases g:aIs L a b 1 w=true
 ·have hn:=h.next a ha b 1 (by decide) w g
  rw [if_pos g]
  split
  ·show a+1 < L.length∧a≤a+1∧(0:Int)≤0∧(0:Int)≤1099511627776
   omega
  ·obtain ⟨h1,h2,h3,h4⟩:=h.aNum (a+1) hn false
   exact ⟨h1,by omega,h3,h4⟩
 ·rw [if_neg g]
  show a < L.length∧a≤a∧(0:Int)≤0∧(0:Int)≤1099511627776
  omega
theorem is_prog (L:List Lx) (a:Nat) (ha:a < L.length) (b:Bool) (k:Int) (tx:ByteArray):schedule_reader_is.f (L.drop a) b k tx=some (aIs L a b k tx,L.drop a,b):=by
 unfold schedule_reader_is.f aIs
 rw [gL_drop]
 cases b
 ·rw [if_neg Bool.false_ne_true,if_neg Bool.false_ne_true,if_pos (by rw [List.length_drop];omega)]
  by_cases g:(gL L a).f0=k
  ·rw [if_pos g,if_pos g]
   by_cases g2:tx.toList=([]:List UInt8)
   ·rw [if_pos g2,if_pos g2]
   ·rw [if_neg g2,if_neg g2]
  ·rw [if_neg g,if_neg g]
 ·rw [if_pos rfl,if_pos rfl]
theorem take_prog (L:List Lx) (a:Nat) (ha:a < L.length) (b:Bool) (k:Int) (tx:ByteArray):schedule_reader_take.f (L.drop a) b k tx=some ((aLex L a b k tx).f0,(aLex L a b k tx).f1,(aLex L a b k tx).f2,(aLex L a b k tx).f3,L.drop (qbH L a b k tx).1,(qbH L a b k tx).2):=by
 unfold schedule_reader_take.f aLex qbH
 rw [is_prog L a ha,Option.bind_some]
 by_cases g:aIs L a b k tx=true
 ·have hb:=(aIs_kind g).1
  rw [if_pos g,if_pos g,if_pos g,if_pos (by rw [List.length_drop];omega)]
  simp only [gL_drop,List.drop_drop,hb]
 ·rw [if_neg g,if_neg g,if_neg g]
theorem empty_text:(⟨#[]⟩:ByteArray).toList=([]:List UInt8):=by
 rw [ByteArray.toList_eq]
theorem part_prog' (L:List Lx) (hL:Sound L) (a:Nat) (ha:a < L.length) (b:Bool) (w:ByteArray):schedule_reader_part.f (L.drop a) b w=some ((aPart L a b w).2.2,L.drop (aPart L a b w).1,(aPart L a b w).2.1):=by
 unfold schedule_reader_part.f aPart
 rw [is_prog L a ha,Option.bind_some]
 by_cases g:aIs L a b 1 w=true
 ·have hn:=hL.next a ha b 1 (by decide) w g
  have ht:qbH L a b 1 w=(a+1,false):=by
   unfold qbH
   rw [if_pos g]
  rw [if_pos g,if_pos g,take_prog L a ha,Option.bind_some]
  simp only [ht]
  rw [is_prog L (a+1) hn,Option.bind_some]
  by_cases g2:(gL L (a+1)).f0=2
  ·have hi:aIs L (a+1) false 2 ⟨#[]⟩=true:=by
    unfold aIs
    rw [if_neg Bool.false_ne_true,if_pos g2,if_pos empty_text]
   rw [hi,if_pos rfl,if_pos (by rw [List.length_drop];omega),gL_drop]
   by_cases g3:(gL L (a+1)).f2=0
   ·have hf:aIs L (a+1) true 2 ⟨#[]⟩=false:=rfl
    rw [if_pos g3,if_pos ⟨g2,g3⟩,take_prog L (a+1) hn,Option.bind_some]
    simp only [qbH,aLex,hf,if_neg Bool.false_ne_true]
   ·rw [if_neg g3,if_neg (fun h=>g3 h.2),take_prog L (a+1) hn,Option.bind_some]
    rfl
  ·have hi:aIs L (a+1) false 2 ⟨#[]⟩=false:=by
    unfold aIs
    rw [if_neg Bool.false_ne_true,if_neg g2]
   rw [hi,if_neg Bool.false_ne_true,if_neg (fun h=>g2 h.1),take_prog L (a+1) hn,Option.bind_some]
   rfl
 ·rw [if_neg g,if_neg g]
theorem stage_prog' (L:List Lx) (hL:Sound L) (a:Nat) (ha:a < L.length) (b:Bool):schedule_reader_stage.f (L.drop a) b=some ((qcA L a b).x.f0,(qcA L a b).x.f1,(qcA L a b).x.f2,(qcA L a b).x.f3,L.drop (qcA L a b).a,(qcA L a b).b)∧(qcA L a b).a < L.length∧a≤(qcA L a b).a:=by
 obtain ⟨x1,y1,z1,z1'⟩:=hL.part a ha b wBelow
 obtain ⟨x2,y2,z2,z2'⟩:=hL.part (aPart L a b wBelow).1 x1 (aPart L a b wBelow).2.1 wFor
 generalize e1:aPart L a b wBelow=p1 at *
 generalize e2:aPart L p1.1 p1.2.1 wFor=p2 at *
 have hb:(if wrap64 (p1.2.2+p2.2.2)=0 then true else p2.2.1)=(if p1.2.2=0∧p2.2.2=0 then true else p2.2.1):=by
  have hw:wrap64 (p1.2.2+p2.2.2)=p1.2.2+p2.2.2:=by
   unfold wrap64
   omega
  rw [hw]
  by_cases g:p1.2.2=0∧p2.2.2=0
  ·rw [if_pos g,if_pos (by omega)]
  ·rw [if_neg g,if_neg (by omega)]
 obtain ⟨b2,hb2⟩:∃ b2,b2=(if p1.2.2=0∧p2.2.2=0 then true else p2.2.1):=⟨_,rfl⟩
 obtain ⟨x3,y3⟩:=hL.take p2.1 x2 b2 1 (by decide) wAt
 generalize e3:qbH L p2.1 b2 1 wAt=t1 at *
 obtain ⟨x4,y4,-,-⟩:=hL.aNum t1.1 x3 t1.2
 generalize e4:aNum L t1.1 t1.2=t2 at *
 obtain ⟨x5,y5⟩:=hL.take t2.1 x4 t2.2.1 3 (by decide) wDash
 generalize e5:qbH L t2.1 t2.2.1 3 wDash=t3 at *
 obtain ⟨x6,y6,-,-⟩:=hL.aNum t3.1 x5 t3.2
 generalize e6:aNum L t3.1 t3.2=t4 at *
 obtain ⟨x7,y7⟩:=hL.take t4.1 x6 t4.2.1 3 (by decide) wSemi
 generalize e7:qbH L t4.1 t4.2.1 3 wSemi=t5 at *
 have hs:qcA L a b=⟨t5.1,t5.2,⟨p1.2.2,p2.2.2,t2.2.2,t4.2.2⟩⟩:=by
  unfold qcA
  simp only [e1,e2,← hb2,e3,e4,e5,e6,e7]
 rw [hs]
 refine ⟨?_,x7,by simp only;omega⟩
 unfold schedule_reader_stage.f
 rw [show (⟨#[98,101,108,111,119]⟩:ByteArray)=wBelow from rfl,part_prog' L hL a ha b wBelow,Option.bind_some,e1]
 simp only []
 rw [show (⟨#[102,111,114]⟩:ByteArray)=wFor from rfl,part_prog' L hL p1.1 x1 p1.2.1 wFor,Option.bind_some,e2]
 simp only []
 rw [hb,← hb2,show (⟨#[97,116]⟩:ByteArray)=wAt from rfl,take_prog L p2.1 x2,Option.bind_some,e3]
 simp only []
 rw [take_prog L t1.1 x3,Option.bind_some]
 have n2:(qbH L t1.1 t1.2 2 ⟨#[]⟩).1=t2.1∧(qbH L t1.1 t1.2 2 ⟨#[]⟩).2=t2.2.1∧(aLex L t1.1 t1.2 2 ⟨#[]⟩).f2=t2.2.2:=by
  rw [← e4]
  exact ⟨rfl,rfl,rfl⟩
 simp only [n2.1,n2.2.1,n2.2.2]
 rw [show (⟨#[45]⟩:ByteArray)=wDash from rfl,take_prog L t2.1 x4,Option.bind_some,e5]
 simp only []
 rw [take_prog L t3.1 x5,Option.bind_some]
 have n4:(qbH L t3.1 t3.2 2 ⟨#[]⟩).1=t4.1∧(qbH L t3.1 t3.2 2 ⟨#[]⟩).2=t4.2.1∧(aLex L t3.1 t3.2 2 ⟨#[]⟩).f2=t4.2.2:=by
  rw [← e6]
  exact ⟨rfl,rfl,rfl⟩
 simp only [n4.1,n4.2.1,n4.2.2]
 rw [show (⟨#[59]⟩:ByteArray)=wSemi from rfl,take_prog L t4.1 x6,Option.bind_some,e7]
theorem aStage_more (L:List Lx) (hL:Sound L) (a:Nat) (ha:a < L.length) (b:Bool) (h:(qcA L a b).b=false):a < (qcA L a b).a:=by
 obtain ⟨x1,y1,z1,z1'⟩:=hL.part a ha b wBelow
 obtain ⟨x2,y2,z2,z2'⟩:=hL.part (aPart L a b wBelow).1 x1 (aPart L a b wBelow).2.1 wFor
 unfold qcA at h ⊢
 simp only at h ⊢
 generalize e1:aPart L a b wBelow=p1 at *
 generalize e2:aPart L p1.1 p1.2.1 wFor=p2 at *
 generalize (if p1.2.2=0∧p2.2.2=0 then true else p2.2.1)=b2 at *
 obtain ⟨x3,y3⟩:=hL.take p2.1 x2 b2 1 (by decide) wAt
 generalize e3:qbH L p2.1 b2 1 wAt=t1 at *
 obtain ⟨x4,y4,-,-⟩:=hL.aNum t1.1 x3 t1.2
 generalize e4:aNum L t1.1 t1.2=t2 at *
 obtain ⟨x5,y5⟩:=hL.take t2.1 x4 t2.2.1 3 (by decide) wDash
 generalize e5:qbH L t2.1 t2.2.1 3 wDash=t3 at *
 obtain ⟨x6,y6,-,-⟩:=hL.aNum t3.1 x5 t3.2
 generalize e6:aNum L t3.1 t3.2=t4 at *
 unfold qbH at h ⊢
 by_cases g:aIs L t4.1 t4.2.1 3 wSemi=true
 ·rw [if_pos g]
  simp only
  omega
 ·rw [if_neg g] at h
  cases h
def qcE (L:List Lx):Nat→Nat→Bool→List S52→Nat × Bool × List S52
 | 0,a,b,st=>(a,b,st)
 | n+1,a,b,st=>if b=true then (a,b,st) else if aIs L a b 1 qbS=true then (a,b,st) else if aIs L a b 0 ⟨#[]⟩=true then (a,b,st) else qcE L n (qcA L a b).a (qcA L a b).b (st++[(qcA L a b).x])
theorem aStages_bad (L:List Lx) (n a:Nat) (st:List S52):qcE L n a true st=(a,true,st):=by
 cases n
 ·rfl
 ·simp only [qcE]
  rw [if_pos trivial]
theorem aStages_len (L:List Lx):∀ n a b st,(qcE L n a b st).2.2.length≤st.length+n:=by
 intro n
 induction n with
 | zero=>intro a b st;exact Nat.le_refl _
 | succ n ih =>
  intro a b st
  simp only [qcE]
  split
  ·simp only;omega
  ·split
   ·simp only;omega
   ·split
    ·simp only;omega
    ·have:=ih (qcA L a b).a (qcA L a b).b (st++[(qcA L a b).x])
     rw [List.length_append,List.length_singleton] at this
     omega
theorem stages_loop (L:List Lx) (hL:Sound L) (x9:List S24) (x10:Int) (nm:ByteArray) (r:Int):∀ (n a:Nat) (b:Bool) (st:List S52) (K:Nat),a < L.length→(b=true ∨ L.length - a < n)→(L.length - a)+2≤K→st.length+n≤1000000 →
  ∃ K',K≤K'+((qcE L n a b st).1 - a)+2∧schedule_Parse_tail.l1 K x9 x10 (L.drop a) b nm r st=schedule_Parse_tail.j2 K' x9 x10 (L.drop (qcE L n a b st).1) (qcE L n a b st).2.1 nm r (qcE L n a b st).2.2∧(qcE L n a b st).1 < L.length∧a≤(qcE L n a b st).1:=by
 intro n
 induction n with
 | zero =>
  intro a b st K ha hb hK hst
  have hbt:b=true:=by
   rcases hb with h|h
   ·exact h
   ·omega
  subst hbt
  obtain ⟨K,rfl⟩:∃ q,K=q+1:=⟨K - 1,by omega⟩
  refine ⟨K,by omega,?_,ha,Nat.le_refl _⟩
  rw [schedule_Parse_tail.l1,if_pos rfl]
  rfl
 | succ n ih =>
  intro a b st K ha hb hK hst
  obtain ⟨K,rfl⟩:∃ q,K=q+1:=⟨K - 1,by omega⟩
  cases b
  ·rw [schedule_Parse_tail.l1,if_neg Bool.false_ne_true,show (⟨#[115,99,104,101,100,117,108,101]⟩:ByteArray)=qbS from rfl,is_prog L a ha,Option.bind_some]
   simp only [qcE]
   rw [if_neg Bool.false_ne_true]
   by_cases g1:aIs L a false 1 qbS=true
   ·rw [if_pos g1,if_pos g1]
    exact ⟨K,by omega,rfl,ha,Nat.le_refl _⟩
   ·rw [if_neg g1,if_neg g1,is_prog L a ha,Option.bind_some]
    simp only []
    by_cases g2:aIs L a false 0 ⟨#[]⟩=true
    ·rw [if_pos g2,if_pos g2]
     exact ⟨K,by omega,rfl,ha,Nat.le_refl _⟩
    ·obtain ⟨hs,hs2,hs3⟩:=stage_prog' L hL a ha false
     have hlt:L.length - a < n+1:=by
      rcases hb with h|h
      ·cases h
      ·exact h
     rw [if_neg g2,if_neg g2,hs,Option.bind_some,if_pos (by omega)]
     simp only []
     have hb2:(qcA L a false).b=true ∨ L.length - (qcA L a false).a < n:=by
      by_cases hbb:(qcA L a false).b=true
      ·exact Or.inl hbb
      ·have:=aStage_more L hL a ha false (by simpa using hbb)
       exact Or.inr (by omega)
     have hK2:L.length - (qcA L a false).a+2≤K ∨ (qcA L a false).b=true:=by
      by_cases hbb:(qcA L a false).b=true
      ·exact Or.inr hbb
      ·have:=aStage_more L hL a ha false (by simpa using hbb)
       exact Or.inl (by omega)
     rcases hK2 with hK2|hbt
     ·obtain ⟨K',k1,k2,k3,k4⟩:=ih (qcA L a false).a (qcA L a false).b (st++[(qcA L a false).x]) K hs2 hb2 hK2 (by rw [List.length_append,List.length_singleton];omega)
      by_cases hbb:(qcA L a false).b=true
      ·rw [hbb,aStages_bad] at k1 k2 k3 k4 ⊢
       obtain ⟨K,rfl⟩:∃ q,K=q+1:=⟨K - 1,by omega⟩
       refine ⟨K,by simp only;omega,?_,hs2,hs3⟩
       rw [schedule_Parse_tail.l1,if_pos rfl]
      ·have:=aStage_more L hL a ha false (by simpa using hbb)
       exact ⟨K',by omega,k2,k3,by omega⟩
     ·rw [hbt,aStages_bad]
      obtain ⟨K,rfl⟩:∃ q,K=q+1:=⟨K - 1,by omega⟩
      refine ⟨K,by simp only;omega,?_,hs2,hs3⟩
      rw [schedule_Parse_tail.l1,if_pos rfl]
  ·rw [aStages_bad]
   refine ⟨K,by simp only;omega,?_,ha,Nat.le_refl _⟩
   rw [schedule_Parse_tail.l1,if_pos rfl]
structure HdRes where
 a:Nat
 b:Bool
 nm:ByteArray
 r:Int
def aHead (L:List Lx) (a:Nat):HdRes :=
 let t0:=qbH L a false 1 qbS
 let t1:=qbH L t0.1 t0.2 1 ⟨#[]⟩
 let t2:=qbH L t1.1 t1.2 1 wRamp
 let t3:=aNum L t2.1 t2.2
 let t4:=qbH L t3.1 t3.2.1 3 wColon
 ⟨t4.1,t4.2,(aLex L t0.1 t0.2 1 ⟨#[]⟩).f1,t3.2.2⟩
structure ScRes where
 a:Nat
 b:Bool
 x:S24
def qcB (L:List Lx) (a:Nat):ScRes :=
 ⟨(qcE L (L.length+1) (aHead L a).a (aHead L a).b []).1,(qcE L (L.length+1) (aHead L a).a (aHead L a).b []).2.1,⟨(aHead L a).nm,(aHead L a).r,(qcE L (L.length+1) (aHead L a).a (aHead L a).b []).2.2⟩⟩
theorem head_lt (L:List Lx) (hL:Sound L) (a:Nat) (ha:a < L.length):(aHead L a).a < L.length∧a≤(aHead L a).a∧((aHead L a).b=false→a < (aHead L a).a):=by
 obtain ⟨x0,y0⟩:=hL.take a ha false 1 (by decide) qbS
 unfold aHead
 simp only
 generalize e0:qbH L a false 1 qbS=t0 at *
 obtain ⟨x1,y1⟩:=hL.take t0.1 x0 t0.2 1 (by decide) ⟨#[]⟩
 generalize e1:qbH L t0.1 t0.2 1 ⟨#[]⟩=t1 at *
 obtain ⟨x2,y2⟩:=hL.take t1.1 x1 t1.2 1 (by decide) wRamp
 generalize e2:qbH L t1.1 t1.2 1 wRamp=t2 at *
 obtain ⟨x3,y3,-,-⟩:=hL.aNum t2.1 x2 t2.2
 generalize e3:aNum L t2.1 t2.2=t3 at *
 obtain ⟨x4,y4⟩:=hL.take t3.1 x3 t3.2.1 3 (by decide) wColon
 refine ⟨x4,by omega,?_⟩
 intro h
 unfold qbH at h ⊢
 by_cases g:aIs L t3.1 t3.2.1 3 wColon=true
 ·rw [if_pos g]
  simp only
  omega
 ·rw [if_neg g] at h
  cases h
def aList (L:List Lx):Nat→Nat→List S24→List S24 × Int × Int
 | 0,_,_=>([],0,0)
 | n+1,a,out =>
  if aIs L a false 0 ⟨#[]⟩=true then (out,0,0)
  else if (qcB L a).b=true then ([],5,(gL L (qcB L a).a).f3)
  else if schedule_last.f (out++[(qcB L a).x])=some 0 then aList L n (qcB L a).a (out++[(qcB L a).x])
  else ([],(schedule_last.f (out++[(qcB L a).x])).getD 0,(gL L a).f3)
theorem stages_lt (L:List Lx) (hL:Sound L):∀ (n a:Nat) (b:Bool) (st:List S52),a < L.length→(qcE L n a b st).1 < L.length∧a≤(qcE L n a b st).1∧((qcE L n a b st).2.1=false→b=false):=by
 intro n
 induction n with
 | zero=>intro a b st ha;exact ⟨ha,Nat.le_refl _,fun h=>h⟩
 | succ n ih =>
  intro a b st ha
  simp only [qcE]
  split
  ·exact ⟨ha,Nat.le_refl _,fun h=>h⟩
  ·rename_i hb
   split
   ·exact ⟨ha,Nat.le_refl _,fun h=>h⟩
   ·split
    ·exact ⟨ha,Nat.le_refl _,fun h=>h⟩
    ·obtain ⟨-,hs2,hs3⟩:=stage_prog' L hL a ha b
     obtain ⟨h1,h2,h3⟩:=ih (qcA L a b).a (qcA L a b).b (st++[(qcA L a b).x]) hs2
     exact ⟨h1,by omega,fun _=>by simpa using hb⟩
theorem sched_lt (L:List Lx) (hL:Sound L) (a:Nat) (ha:a < L.length):(qcB L a).a < L.length∧a≤(qcB L a).a∧((qcB L a).b=false→a < (qcB L a).a):=by
 obtain ⟨h1,h2,h3⟩:=head_lt L hL a ha
 obtain ⟨g1,g2,g3⟩:=stages_lt L hL (L.length+1) (aHead L a).a (aHead L a).b [] h1
 refine ⟨g1,?_,?_⟩
 ·show a≤(qcE L (L.length+1) (aHead L a).a (aHead L a).b []).1
  omega
 ·intro h
  have:=h3 (g3 h)
  show a < (qcE L (L.length+1) (aHead L a).a (aHead L a).b []).1
  omega
def Bnd2 (l:List S24):Prop:=∀ s ∈ l,s.f0.size≤100000∧s.f2.length≤1000000
structure SoundT (L:List Lx):Prop extends Sound L where
 txt:∀ x ∈ L,x.f1.size≤10000
theorem head_nm (L:List Lx) (hL:SoundT L) (a:Nat) (ha:a < L.length):(aHead L a).nm.size≤100000:=by
 show (aLex L (qbH L a false 1 qbS).1 (qbH L a false 1 qbS).2 1 ⟨#[]⟩).f1.size≤100000
 obtain ⟨x0,y0⟩:=hL.take a ha false 1 (by decide) qbS
 unfold aLex
 split
 ·rw [gL_eq L _ x0]
  have:=hL.txt _ (List.getElem_mem x0)
  omega
 ·exact Nat.zero_le _
theorem sched_bnd (L:List Lx) (hL:SoundT L) (a:Nat) (ha:a < L.length):(qcB L a).x.f0.size≤100000∧(qcB L a).x.f2.length≤1000000:=by
 refine ⟨head_nm L hL a ha,?_⟩
 have h:=aStages_len L (L.length+1) (aHead L a).a (aHead L a).b []
 have:=hL.len
 show (qcE L (L.length+1) (aHead L a).a (aHead L a).b []).2.2.length≤1000000
 simp only [List.length_nil] at h
 omega
theorem tail_loop (L:List Lx) (hL:SoundT L):∀ (n a:Nat) (out:List S24) (K:Nat),a < L.length→L.length - a < n→5 * (L.length - a)+10≤K→Bnd2 out→out.length≤8 →
  ∃ l b,schedule_Parse_tail.l0 K out (L.drop a) false=some ((aList L n a out).1,(aList L n a out).2.1,(aList L n a out).2.2,l,b):=by
 intro n
 induction n with
 | zero=>intro a out K _ h;exact absurd h (Nat.not_lt_zero _)
 | succ n ih =>
  intro a out K ha hn hK hB ho
  obtain ⟨K,rfl⟩:∃ q,K=q+1:=⟨K - 1,by omega⟩
  rw [schedule_Parse_tail.l0,is_prog L a ha,Option.bind_some]
  simp only [aList]
  by_cases g0:aIs L a false 0 ⟨#[]⟩=true
  ·rw [if_pos g0,if_pos g0]
   exact ⟨_,_,rfl⟩
  ·have hdl:0 < ((L.drop a).length:Int):=by
    rw [List.length_drop]
    omega
   obtain ⟨h1,h2,h3⟩:=head_lt L hL.toSound a ha
   obtain ⟨x0,y0⟩:=hL.take a ha false 1 (by decide) qbS
   have hH:(schedule_reader_take.f (L.drop a) false 1 qbS).bind (fun bt105=>(schedule_reader_take.f bt105.2.2.2.2.1 bt105.2.2.2.2.2 1 (⟨#[]⟩:ByteArray)).bind (fun bt111=>(schedule_reader_take.f bt111.2.2.2.2.1 bt111.2.2.2.2.2 1 wRamp).bind (fun bt118=>(schedule_reader_take.f bt118.2.2.2.2.1 bt118.2.2.2.2.2 2 (⟨#[]⟩:ByteArray)).bind (fun bt124=>(schedule_reader_take.f bt124.2.2.2.2.1 bt124.2.2.2.2.2 3 wColon).bind (fun bt130=>schedule_Parse_tail.l1 K out ((qaZ (L.drop a) 0).f3) bt130.2.2.2.2.1 bt130.2.2.2.2.2 bt111.2.1 bt124.2.2.1 ([]:List S52))))))=schedule_Parse_tail.l1 K out (gL L a).f3 (L.drop (aHead L a).a) (aHead L a).b (aHead L a).nm (aHead L a).r []:=by
    rw [take_prog L a ha,Option.bind_some]
    unfold aHead
    simp only [gL_drop]
    generalize e0:qbH L a false 1 qbS=t0 at *
    obtain ⟨x1,y1⟩:=hL.take t0.1 x0 t0.2 1 (by decide) ⟨#[]⟩
    rw [take_prog L t0.1 x0,Option.bind_some]
    simp only
    generalize e1:qbH L t0.1 t0.2 1 ⟨#[]⟩=t1 at *
    obtain ⟨x2,y2⟩:=hL.take t1.1 x1 t1.2 1 (by decide) wRamp
    rw [take_prog L t1.1 x1,Option.bind_some]
    simp only
    generalize e2:qbH L t1.1 t1.2 1 wRamp=t2 at *
    obtain ⟨x3,y3,-,-⟩:=hL.aNum t2.1 x2 t2.2
    rw [take_prog L t2.1 x2,Option.bind_some]
    simp only
    have n2:(qbH L t2.1 t2.2 2 ⟨#[]⟩).1=(aNum L t2.1 t2.2).1∧(qbH L t2.1 t2.2 2 ⟨#[]⟩).2=(aNum L t2.1 t2.2).2.1∧(aLex L t2.1 t2.2 2 ⟨#[]⟩).f2=(aNum L t2.1 t2.2).2.2:=⟨rfl,rfl,rfl⟩
    simp only [n2.1,n2.2.1,n2.2.2]
    generalize e3:aNum L t2.1 t2.2=t3 at *
    rw [take_prog L t3.1 x3,Option.bind_some]
   rw [if_neg g0,if_neg g0,if_pos hdl,show (⟨#[115,99,104,101,100,117,108,101]⟩:ByteArray)=qbS from rfl,show (⟨#[114,97,109,112]⟩:ByteArray)=wRamp from rfl,show (⟨#[58]⟩:ByteArray)=wColon from rfl,hH]
   have hlen:=hL.len
   obtain ⟨K',k1,k2,k3,k4⟩:=stages_loop L hL.toSound out (gL L a).f3 (aHead L a).nm (aHead L a).r (L.length+1) (aHead L a).a (aHead L a).b [] K h1 (Or.inr (by omega)) (by omega) (by simp only [List.length_nil];omega)
   obtain ⟨s1,s2,s3⟩:=sched_lt L hL.toSound a ha
   have e1:(qcE L (L.length+1) (aHead L a).a (aHead L a).b []).1=(qcB L a).a:=rfl
   have e2:(qcE L (L.length+1) (aHead L a).a (aHead L a).b []).2.1=(qcB L a).b:=rfl
   have e3:(qcE L (L.length+1) (aHead L a).a (aHead L a).b []).2.2=(qcB L a).x.f2:=rfl
   rw [k2,e1,e2,e3]
   rw [e1] at k1 k3 k4
   obtain ⟨K',rfl⟩:∃ q,K'=q+1:=⟨K' - 1,by omega⟩
   rw [schedule_Parse_tail.j2]
   by_cases gb:(qcB L a).b=true
   ·rw [if_pos gb,if_pos gb,if_pos (by rw [List.length_drop];omega),gL_drop]
    exact ⟨_,_,rfl⟩
   ·rw [if_neg gb,if_neg gb,if_pos (by omega),Option.bind_some]
    have hB2:Bnd2 (out++[(qcB L a).x]):=by
     intro s hs
     rcases List.mem_append.mp hs with h|h
     ·exact hB s h
     ·rw [List.mem_singleton.mp h]
      exact sched_bnd L hL a ha
    obtain ⟨e,he⟩:=last_some (out++[(qcB L a).x]) (by simp) (by rw [List.length_append,List.length_singleton];omega) hB2
    have he':schedule_last.f (out++[(⟨(aHead L a).nm,(aHead L a).r,(qcB L a).x.f2⟩:S24)])=some e:=he
    rw [he',he,Option.bind_some]
    by_cases ge:e=0
    ·subst ge
     have hgb:(qcB L a).b=false:=by simpa using gb
     have:=s3 hgb
     obtain ⟨l8,-⟩:=last_zero _ (by simp) (by rw [List.length_append,List.length_singleton];omega) he
     rw [if_pos rfl,if_pos rfl]
     have hbf:=hgb
     rw [hbf]
     exact ih (qcB L a).a _ K' s1 (by omega) (by omega) hB2 l8
    ·rw [if_neg ge,if_neg (by simpa using ge)]
     exact ⟨_,_,rfl⟩
end Go.Proofs.YtehdmplngmbnnaaDoor.P
namespace Go.Proofs.YtehdmplngmbnnaaDoor.P
open Go.RowKit Go.Proofs.YtehdmplngmbnnaaDoorW.PrintWords
set_option linter.unusedVariables false
set_option linter.unusedSimpArgs false
abbrev Tok:=Int × ByteArray × Int
def optToks (w:ByteArray) (n:Int):List Tok:=if 0 < n then [(1,w,0),(2,fm n,n)] else []
def endToks (x:S52):List Tok:=[(1,wAt,0),(2,fm x.f2,x.f2),(3,wDash,0),(2,fm x.f3,x.f3),(3,wSemi,0)]
def stToks (x:S52):List Tok:=optToks wBelow x.f0++(optToks wFor x.f1++endToks x)
def stsToks:List S52→List Tok
 | []=>[]
 | x :: xs=>stToks x++stsToks xs
def headToks (s:S24):List Tok:=[(1,qbS,0),(1,s.f0,0),(1,wRamp,0),(2,fm s.f1,s.f1),(3,wColon,0)]
def scToks (s:S24):List Tok:=headToks s++stsToks s.f2
def allToks:List S24→List Tok
 | []=>[]
 | s :: ss=>scToks s++allToks ss
end Go.Proofs.YtehdmplngmbnnaaDoor.P
namespace Go.Proofs.YtehdmplngmbnnaaDoor.P
open Go.RowKit Go.Proofs.YtehdmplngmbnnaaDoorW.PrintWords
set_option linter.unusedVariables false
set_option linter.unusedSimpArgs false
def tkd (L:List Lx) (a:Nat):List Tok:=(L.map tk3).drop a
theorem tkd_at (L:List Lx) (a:Nat) (ha:a < L.length):tkd L a=tk3 (gL L a) :: tkd L (a+1):=by
 unfold tkd
 rw [List.drop_eq_getElem_cons (show a < (L.map tk3).length by simpa using ha),List.getElem_map,gL_eq L a ha]
theorem text_ne (tx:ByteArray) (h:bl tx ≠ []):¬ tx.toList=([]:List UInt8):=by
 rw [ByteArray.toList_eq]
 exact h
theorem text_eq (s t:ByteArray):(s.toList == t.toList)=decide (s=t):=by
 rw [ByteArray.toList_eq,ByteArray.toList_eq]
 by_cases g:s=t
 ·rw [g]
  simp
 ·rw [decide_eq_false g]
  refine beq_eq_false_iff_ne.mpr fun h=>g ?_
  exact bl_inj h
end Go.Proofs.YtehdmplngmbnnaaDoor.P
namespace Go.Proofs.YtehdmplngmbnnaaDoor.P
open Go.RowKit Go.Proofs.YtehdmplngmbnnaaDoorW.PrintWords
set_option linter.unusedVariables false
set_option linter.unusedSimpArgs false
theorem scanB_wf (s:ByteArray) (h:(scanB s).2.1=0):s.size≤8000∧∃ ts e,(scanB s).1=ts++[(⟨0,⟨#[]⟩,0,e⟩:Lx)]∧ts.length≤s.size∧(∀ x ∈ ts,Wf x∧x.f1.size≤s.size∧0≤x.f3∧x.f3≤(s.size:Int))∧0≤e∧e≤(s.size:Int):=by
 unfold scanB at h ⊢
 by_cases g:s.size > 8000
 ·rw [if_pos g] at h;cases h
 ·rw [if_neg g] at h ⊢
  have hk:=skR_le (bl s) false
  rw [qcM] at hk
  have hl:((bl s).drop (skR false (bl s))).length=s.size - skR false (bl s):=by rw [List.length_drop,qcM]
  obtain ⟨ts,e,h1,h2,h3,h4,h5⟩:=scanL_wf (s.size+1) _ (skR false (bl s)) (by rw [hl];omega) h
  rw [hl] at h2 h3 h5
  have hz:skR false (bl s)+(s.size - skR false (bl s))=s.size:=by omega
  rw [hz] at h3 h5
  exact ⟨by omega,ts,e,h1,by omega,(fun x hx=>by obtain ⟨j1,j2,j3⟩:=h3 x hx;exact ⟨j1,by omega,j3⟩),h4,h5⟩
theorem scanB_at (s:ByteArray):0≤(scanB s).2.2∧(scanB s).2.2≤(s.size:Int):=by
 unfold scanB
 by_cases g:s.size > 8000
 ·rw [if_pos g]
  exact ⟨Int.le_refl 0,by simp only;omega⟩
 ·rw [if_neg g]
  have hk:=skR_le (bl s) false
  rw [qcM] at hk
  have hl:((bl s).drop (skR false (bl s))).length=s.size - skR false (bl s):=by rw [List.length_drop,qcM]
  have:=scanL_at (s.size+1) ((bl s).drop (skR false (bl s))) (skR false (bl s)) (by rw [hl];omega)
  rw [hl] at this
  have hz:skR false (bl s)+(s.size - skR false (bl s))=s.size:=by omega
  rw [hz] at this
  exact this
theorem scanB_sound (s:ByteArray) (h:(scanB s).2.1=0):SoundT (scanB s).1∧(scanB s).1.length≤s.size+1:=by
 obtain ⟨h8,ts,e,h1,h2,h3,h4,h5⟩:=scanB_wf s h
 rw [h1]
 have hl:(ts++[(⟨0,⟨#[]⟩,0,e⟩:Lx)]).length=ts.length+1:=by simp
 refine ⟨⟨⟨by omega,?_,?_,by omega⟩,?_⟩,by omega⟩
 ·rw [hl,gL_eq _ _ (by omega)]
  simp
 ·intro x hx
  rcases List.mem_append.mp hx with hx|hx
  ·exact (h3 x hx).1.rng
  ·rw [List.mem_singleton.mp hx]
   exact ⟨Int.le_refl 0,by show (0:Int)≤1099511627776;omega⟩
 ·intro x hx
  rcases List.mem_append.mp hx with hx|hx
  ·have:=(h3 x hx).2.1
   omega
  ·rw [List.mem_singleton.mp hx]
   exact Nat.zero_le _
def parseB (s:ByteArray):List S24 × Int × Int:=if (scanB s).2.1=0 then aList (scanB s).1 ((scanB s).1.length+1) 0 [] else ([],(scanB s).2.1,(scanB s).2.2)
theorem parse_f (s:ByteArray):schedule_Parse.f s=some (parseB s):=by
 unfold schedule_Parse.f parseB
 rw [scan_prog s (pFuel s) (by unfold pFuel;omega),Option.bind_some]
 by_cases g:(scanB s).2.1=0
 ·obtain ⟨h1,h2⟩:=scanB_sound s g
  have hp:=h1.pos
  rw [if_pos g,if_pos g]
  unfold schedule_Parse_tail.f
  obtain ⟨l,b,ht⟩:=tail_loop (scanB s).1 h1 ((scanB s).1.length+1) 0 [] (pFuel s) hp (by omega) (by unfold pFuel;omega) (fun x hx=>absurd hx (by simp)) (Nat.zero_le _)
  rw [List.drop_zero] at ht
  rw [ht,Option.bind_some]
 ·rw [if_neg g,if_neg g]
theorem rd_all {P:S24→Prop} (l:List S24) (h:∀ j,j < l.length→P (qaP l j)):∀ s ∈ l,P s:=by
 intro s hs
 obtain ⟨j,hj,rfl⟩:=List.getElem_of_mem hs
 have:=h j hj
 unfold qaP at this
 rw [Int.toNat_natCast,List.getD_eq_getElem?_getD,List.getElem?_eq_getElem hj] at this
 exact this
end Go.Proofs.YtehdmplngmbnnaaDoor.P
namespace Go.Proofs.YtehdmplngmbnnaaDoor.P
open Go.RowKit Go.Proofs.YtehdmplngmbnnaaDoorW.PrintWords
set_option linter.unusedVariables false
set_option linter.unusedSimpArgs false
structure WfL (L:List Lx):Prop extends SoundT L where
 wf:∀ a,a < L.length→(gL L a).f0 ≠ 0→Wf (gL L a)
 zero:∀ a,a < L.length→(gL L a).f0=0→a+1=L.length∧tk3 (gL L a)=endT
theorem s_taken {L:List Lx} {a:Nat} {b:Bool} {k:Int} {u:ByteArray} (h:(qbH L a b k u).2=false):aIs L a b k u=true∧b=false∧(qbH L a b k u).1=a+1:=by
 unfold qbH at h ⊢
 by_cases g:aIs L a b k u=true
 ·rw [if_pos g]
  exact ⟨g,(aIs_kind g).1,rfl⟩
 ·rw [if_neg g] at h
  cases h
theorem s_text {L:List Lx} {a:Nat} {b:Bool} {k:Int} {u:ByteArray} (hu:bl u ≠ []) (h:aIs L a b k u=true):(gL L a).f1=u:=by
 unfold aIs at h
 cases b
 ·rw [if_neg Bool.false_ne_true] at h
  by_cases g:(gL L a).f0=k
  ·rw [if_pos g,if_neg (text_ne u hu),text_eq] at h
   simpa using h
  ·rw [if_neg g] at h;cases h
 ·rw [if_pos rfl] at h;cases h
theorem s_word {L:List Lx} (hL:WfL L) {a:Nat} (ha:a < L.length) {b:Bool} {k:Int} {u:ByteArray} (hk:k ≠ 0) (hk2:k ≠ 2) (hu:bl u ≠ []) (h:aIs L a b k u=true):tkd L a=(k,u,0) :: tkd L (a+1):=by
 have h1:=(aIs_kind h).2
 have h2:=s_text hu h
 have h3:=(hL.wf a ha (by rw [h1];exact hk)).zero (by rw [h1];exact hk2)
 rw [tkd_at L a ha]
 unfold tk3
 rw [h1,h2,h3]
theorem s_name {L:List Lx} (hL:WfL L) {a:Nat} (ha:a < L.length) {b:Bool} {u:ByteArray} (h:aIs L a b 1 u=true):tkd L a=(1,(gL L a).f1,0) :: tkd L (a+1):=by
 have h1:=(aIs_kind h).2
 have h3:=(hL.wf a ha (by rw [h1];decide)).zero (by rw [h1];decide)
 rw [tkd_at L a ha]
 unfold tk3
 rw [h1,h3]
theorem s_num {L:List Lx} (hL:WfL L) {a:Nat} (ha:a < L.length) {b:Bool} {u:ByteArray} (h:aIs L a b 2 u=true):tkd L a=(2,fm (gL L a).f2,(gL L a).f2) :: tkd L (a+1):=by
 have h1:=(aIs_kind h).2
 have h3:=(hL.wf a ha (by rw [h1];decide)).num h1
 rw [tkd_at L a ha]
 unfold tk3
 rw [h1,h3]
 rfl
theorem s_aNum {L:List Lx} (hL:WfL L) {a:Nat} (ha:a < L.length) {b:Bool} (h:(aNum L a b).2.1=false):b=false∧(aNum L a b).1=a+1∧(aNum L a b).2.2=(gL L a).f2∧tkd L a=(2,fm (aNum L a b).2.2,(aNum L a b).2.2) :: tkd L (aNum L a b).1:=by
 obtain ⟨h1,h2,h3⟩:=s_taken (show (qbH L a b 2 ⟨#[]⟩).2=false from h)
 have h4:(aNum L a b).2.2=(gL L a).f2:=by
  show (aLex L a b 2 ⟨#[]⟩).f2=_
  unfold aLex
  rw [if_pos h1]
 have h5:(aNum L a b).1=a+1:=h3
 rw [h4,h5]
 exact ⟨h2,rfl,rfl,s_num hL ha h1⟩
theorem s_part {L:List Lx} (hL:WfL L) {a:Nat} (ha:a < L.length) {b:Bool} {w:ByteArray} (hw:bl w ≠ []) (h:(aPart L a b w).2.1=false):b=false∧tkd L a=optToks w (aPart L a b w).2.2++tkd L (aPart L a b w).1:=by
 unfold aPart at h ⊢
 by_cases g:aIs L a b 1 w=true
 ·have hn:=hL.next a ha b 1 (by decide) w g
  rw [if_pos g] at h ⊢
  have hb:=(aIs_kind g).1
  by_cases g2:(gL L (a+1)).f0=2∧(gL L (a+1)).f2=0
  ·rw [if_pos g2] at h;cases h
  ·rw [if_neg g2] at h ⊢
   obtain ⟨h1,h2,h3,h4⟩:=s_aNum hL hn h
   obtain ⟨q1,q2,q3,q4⟩:=hL.aNum (a+1) hn false
   have hk:(gL L (a+1)).f0=2:=(aIs_kind (s_taken (show (qbH L (a+1) false 2 ⟨#[]⟩).2=false from h)).1).2
   have hp:0 < (aNum L (a+1) false).2.2:=by
    rw [h3] at q3 ⊢
    have:(gL L (a+1)).f2 ≠ 0:=fun h=>g2 ⟨hk,h⟩
    omega
   refine ⟨hb,?_⟩
   rw [s_word hL ha (by decide) (by decide) hw g,h4]
   unfold optToks
   rw [if_pos hp]
   rfl
 ·rw [if_neg g] at h ⊢
  refine ⟨h,?_⟩
  unfold optToks
  rw [if_neg (by show ¬ (0:Int) < 0;decide)]
  rfl
theorem s_stage {L:List Lx} (hL:WfL L) {a:Nat} (ha:a < L.length) {b:Bool} (h:(qcA L a b).b=false):b=false∧tkd L a=stToks (qcA L a b).x++tkd L (qcA L a b).a:=by
 obtain ⟨x1,-,-,-⟩:=hL.part a ha b wBelow
 obtain ⟨x2,-,-,-⟩:=hL.part (aPart L a b wBelow).1 x1 (aPart L a b wBelow).2.1 wFor
 have z1:=s_part hL ha (b:=b) (w:=wBelow) (by decide)
 have z2:=s_part hL x1 (b:=(aPart L a b wBelow).2.1) (w:=wFor) (by decide)
 unfold qcA at h ⊢
 simp only at h ⊢
 generalize e1:aPart L a b wBelow=p1 at *
 generalize e2:aPart L p1.1 p1.2.1 wFor=p2 at *
 obtain ⟨b2,hb2⟩:∃ b2,b2=(if p1.2.2=0∧p2.2.2=0 then true else p2.2.1):=⟨_,rfl⟩
 rw [← hb2] at h ⊢
 obtain ⟨x3,-⟩:=hL.take p2.1 x2 b2 1 (by decide) wAt
 have z3:=s_taken (L:=L) (a:=p2.1) (b:=b2) (k:=1) (u:=wAt)
 generalize e3:qbH L p2.1 b2 1 wAt=t1 at *
 obtain ⟨x4,-,-,-⟩:=hL.aNum t1.1 x3 t1.2
 have z4:=s_aNum hL x3 (b:=t1.2)
 generalize e4:aNum L t1.1 t1.2=t2 at *
 obtain ⟨x5,-⟩:=hL.take t2.1 x4 t2.2.1 3 (by decide) wDash
 have z5:=s_taken (L:=L) (a:=t2.1) (b:=t2.2.1) (k:=3) (u:=wDash)
 generalize e5:qbH L t2.1 t2.2.1 3 wDash=t3 at *
 obtain ⟨x6,-,-,-⟩:=hL.aNum t3.1 x5 t3.2
 have z6:=s_aNum hL x5 (b:=t3.2)
 generalize e6:aNum L t3.1 t3.2=t4 at *
 have z7:=s_taken (L:=L) (a:=t4.1) (b:=t4.2.1) (k:=3) (u:=wSemi)
 generalize e7:qbH L t4.1 t4.2.1 3 wSemi=t5 at *
 obtain ⟨i7,b7,n7⟩:=z7 h
 obtain ⟨b6,n6,-,k6⟩:=z6 b7
 obtain ⟨i5,b5,n5⟩:=z5 b6
 obtain ⟨b4,n4,-,k4⟩:=z4 b5
 obtain ⟨i3,b3,n3⟩:=z3 b4
 have b2f:p2.2.1=false:=by
  rw [b3] at hb2
  by_cases g:p1.2.2=0∧p2.2.2=0
  ·rw [if_pos g] at hb2;cases hb2
  ·rw [if_neg g] at hb2
   exact hb2.symm
 obtain ⟨b1f,k2⟩:=z2 b2f
 obtain ⟨b0f,k1⟩:=z1 b1f
 have k3:=s_word hL x2 (by decide) (by decide) (by decide) i3
 have k5:=s_word hL x4 (by decide) (by decide) (by decide) i5
 have k7:=s_word hL x6 (by decide) (by decide) (by decide) i7
 refine ⟨b0f,?_⟩
 unfold stToks endToks
 rw [k1,k2,k3,← n3,k4,k5,← n5,k6,k7,← n7]
 simp
theorem s_stages {L:List Lx} (hL:WfL L):∀ (n a:Nat) (b:Bool) (st:List S52),a < L.length→(qcE L n a b st).2.1=false→∃ xs,(qcE L n a b st).2.2=st++xs∧tkd L a=stsToks xs++tkd L (qcE L n a b st).1∧b=false:=by
 intro n
 induction n with
 | zero=>intro a b st ha h;exact ⟨[],(List.append_nil _).symm,rfl,h⟩
 | succ n ih =>
  intro a b st ha h
  simp only [qcE] at h ⊢
  by_cases g1:b=true
  ·rw [if_pos g1] at h
   rw [g1] at h
   cases h
  ·rw [if_neg g1] at h ⊢
   by_cases g2:aIs L a b 1 qbS=true
   ·rw [if_pos g2] at h ⊢
    exact ⟨[],(List.append_nil _).symm,rfl,h⟩
   ·rw [if_neg g2] at h ⊢
    by_cases g3:aIs L a b 0 ⟨#[]⟩=true
    ·rw [if_pos g3] at h ⊢
     exact ⟨[],(List.append_nil _).symm,rfl,h⟩
    ·rw [if_neg g3] at h ⊢
     obtain ⟨-,hs2,-⟩:=stage_prog' L hL.toSound a ha b
     obtain ⟨xs,i1,i2,i3⟩:=ih (qcA L a b).a (qcA L a b).b (st++[(qcA L a b).x]) hs2 h
     obtain ⟨j1,j2⟩:=s_stage hL ha i3
     refine ⟨(qcA L a b).x :: xs,?_,?_,j1⟩
     ·rw [i1,List.append_assoc]
      rfl
     ·rw [j2,i2]
      simp only [stsToks,List.append_assoc]
theorem s_head {L:List Lx} (hL:WfL L) {a:Nat} (ha:a < L.length) (h:(aHead L a).b=false):tkd L a=[(1,qbS,0),(1,(aHead L a).nm,0),(1,wRamp,0),(2,fm (aHead L a).r,(aHead L a).r),(3,wColon,0)]++tkd L (aHead L a).a:=by
 obtain ⟨x0,-⟩:=hL.take a ha false 1 (by decide) qbS
 unfold aHead at h ⊢
 simp only at h ⊢
 have z0:=s_taken (L:=L) (a:=a) (b:=false) (k:=1) (u:=qbS)
 generalize e0:qbH L a false 1 qbS=t0 at *
 obtain ⟨x1,-⟩:=hL.take t0.1 x0 t0.2 1 (by decide) ⟨#[]⟩
 have z1:=s_taken (L:=L) (a:=t0.1) (b:=t0.2) (k:=1) (u:=⟨#[]⟩)
 generalize e1:qbH L t0.1 t0.2 1 ⟨#[]⟩=t1 at *
 obtain ⟨x2,-⟩:=hL.take t1.1 x1 t1.2 1 (by decide) wRamp
 have z2:=s_taken (L:=L) (a:=t1.1) (b:=t1.2) (k:=1) (u:=wRamp)
 generalize e2:qbH L t1.1 t1.2 1 wRamp=t2 at *
 obtain ⟨x3,-,-,-⟩:=hL.aNum t2.1 x2 t2.2
 have z3:=s_aNum hL x2 (b:=t2.2)
 generalize e3:aNum L t2.1 t2.2=t3 at *
 have z4:=s_taken (L:=L) (a:=t3.1) (b:=t3.2.1) (k:=3) (u:=wColon)
 generalize e4:qbH L t3.1 t3.2.1 3 wColon=t4 at *
 obtain ⟨i4,b4,n4⟩:=z4 h
 obtain ⟨b3,n3,-,k3⟩:=z3 b4
 obtain ⟨i2,b2,n2⟩:=z2 b3
 obtain ⟨i1,b1,n1⟩:=z1 b2
 obtain ⟨i0,-,n0⟩:=z0 b1
 have k0:=s_word hL ha (by decide) (by decide) (by decide) i0
 have k1:=s_name hL x0 i1
 have k2:=s_word hL x1 (by decide) (by decide) (by decide) i2
 have k4:=s_word hL x3 (by decide) (by decide) (by decide) i4
 have hl:(aLex L t0.1 t0.2 1 ⟨#[]⟩).f1=(gL L t0.1).f1:=by
  unfold aLex
  rw [if_pos i1]
 rw [hl,k0,← n0,k1,← n1,k2,← n2,k3,k4,← n4]
 rfl
theorem s_sched {L:List Lx} (hL:WfL L) {a:Nat} (ha:a < L.length) (h:(qcB L a).b=false):tkd L a=scToks (qcB L a).x++tkd L (qcB L a).a:=by
 obtain ⟨h1,-,-⟩:=head_lt L hL.toSound a ha
 obtain ⟨xs,i1,i2,i3⟩:=s_stages hL (L.length+1) (aHead L a).a (aHead L a).b [] h1 h
 have hh:=s_head hL ha i3
 have e:(qcB L a).x=⟨(aHead L a).nm,(aHead L a).r,xs⟩:=by
  unfold qcB
  rw [i1]
  rfl
 rw [e,hh,i2]
 unfold scToks headToks
 simp only [List.append_assoc]
 rfl
theorem s_list {L:List Lx} (hL:WfL L):∀ (n a:Nat) (out:List S24),a < L.length→L.length - a < n→Bnd2 out→out.length≤8→(∀ j,j < out.length→schedule_last.f (out.take (j+1))=some 0)→(aList L n a out).2.1=0 →
  ∃ new,(aList L n a out).1=out++new∧tkd L a=allToks new++[endT]∧(aList L n a out).2.2=0∧(∀ j,j < (out++new).length→schedule_last.f ((out++new).take (j+1))=some 0)∧Bnd2 (out++new)∧(out++new).length≤8:=by
 intro n
 induction n with
 | zero=>intro a out _ h;exact absurd h (Nat.not_lt_zero _)
 | succ n ih =>
  intro a out ha hn hB ho hc h
  simp only [aList] at h ⊢
  by_cases g0:aIs L a false 0 ⟨#[]⟩=true
  ·rw [if_pos g0]
   refine ⟨[],(List.append_nil _).symm,?_,rfl,?_,?_,?_⟩
   ·obtain ⟨z1,z2⟩:=hL.zero a ha (aIs_kind g0).2
    rw [tkd_at L a ha,z2]
    unfold tkd
    rw [List.drop_eq_nil_of_le (by rw [List.length_map];omega)]
    rfl
   ·rw [List.append_nil]
    exact hc
   ·rw [List.append_nil]
    exact hB
   ·rw [List.append_nil]
    exact ho
  ·rw [if_neg g0] at h ⊢
   by_cases gb:(qcB L a).b=true
   ·rw [if_pos gb] at h
    cases h
   ·rw [if_neg gb] at h ⊢
    have hgb:(qcB L a).b=false:=by simpa using gb
    obtain ⟨s1,s2,s3⟩:=sched_lt L hL.toSound a ha
    have:=s3 hgb
    have hB2:Bnd2 (out++[(qcB L a).x]):=by
     intro s hs
     rcases List.mem_append.mp hs with h|h
     ·exact hB s h
     ·rw [List.mem_singleton.mp h]
      exact sched_bnd L hL.toSoundT a ha
    obtain ⟨e,he⟩:=last_some (out++[(qcB L a).x]) (by simp) (by rw [List.length_append,List.length_singleton];omega) hB2
    by_cases ge:e=0
    ·subst ge
     obtain ⟨l8,-⟩:=last_zero _ (by simp) (by rw [List.length_append,List.length_singleton];omega) he
     rw [if_pos he] at h ⊢
     obtain ⟨new,n1,n2,n3,n4,n5,n6⟩:=ih (qcB L a).a (out++[(qcB L a).x]) s1 (by omega) hB2 l8 (by
      intro j hj
      by_cases hjo:j < out.length
      ·rw [List.take_append_of_le_length (by omega)]
       exact hc j hjo
      ·rw [List.length_append,List.length_singleton] at hj
       rw [List.take_of_length_le (by rw [List.length_append,List.length_singleton];omega)]
       exact he) h
     have ea:out++(qcB L a).x :: new=out++[(qcB L a).x]++new:=by simp
     refine ⟨(qcB L a).x :: new,?_,?_,n3,?_,?_,?_⟩
     ·rw [n1,ea]
     ·rw [s_sched hL ha hgb,n2]
      simp only [allToks,List.append_assoc]
     ·rw [ea]
      exact n4
     ·rw [ea]
      exact n5
     ·rw [ea]
      exact n6
    ·rw [if_neg (by rw [he];simpa using ge),he] at h
     exact absurd h ge
end Go.Proofs.YtehdmplngmbnnaaDoor.P
namespace Go.Proofs.YtehdmplngmbnnaaDoor.P
open Go.RowKit Go.Proofs.YtehdmplngmbnnaaDoorW.PrintWords
set_option linter.unusedVariables false
set_option linter.unusedSimpArgs false
theorem scanB_wfL (s:ByteArray) (h:(scanB s).2.1=0):WfL (scanB s).1∧∀ a,a < (scanB s).1.length→0≤(gL (scanB s).1 a).f3∧(gL (scanB s).1 a).f3≤(s.size:Int):=by
 obtain ⟨h8,ts,e,h1,h2,h3,h4,h5⟩:=scanB_wf s h
 have hS:=(scanB_sound s h).1
 have hl:(scanB s).1.length=ts.length+1:=by rw [h1];simp
 have hg:∀ a,a < ts.length→∃ x ∈ ts,gL (scanB s).1 a=x:=by
  intro a ha
  refine ⟨ts[a],List.getElem_mem ha,?_⟩
  rw [gL_eq _ _ (by omega)]
  simp only [h1]
  exact List.getElem_append_left ha
 have hlast:gL (scanB s).1 ts.length=⟨0,⟨#[]⟩,0,e⟩:=by
  rw [gL_eq _ _ (by omega)]
  simp [h1]
 refine ⟨⟨hS,?_,?_⟩,?_⟩
 ·intro a ha hk
  by_cases g:a < ts.length
  ·obtain ⟨x,hx,he⟩:=hg a g
   rw [he]
   exact (h3 x hx).1
  ·obtain rfl:a=ts.length:=by omega
   rw [hlast] at hk
   exact absurd rfl hk
 ·intro a ha hk
  by_cases g:a < ts.length
  ·obtain ⟨x,hx,he⟩:=hg a g
   rw [he] at hk
   have:=(h3 x hx).1.kinds
   omega
  ·obtain rfl:a=ts.length:=by omega
   rw [hlast]
   exact ⟨by omega,rfl⟩
 ·intro a ha
  by_cases g:a < ts.length
  ·obtain ⟨x,hx,he⟩:=hg a g
   rw [he]
   exact (h3 x hx).2.2
  ·obtain rfl:a=ts.length:=by omega
   rw [hlast]
   exact ⟨h4,h5⟩
theorem list_err {L:List Lx} (hL:Sound L):∀ (n a:Nat) (out:List S24),a < L.length→(aList L n a out).2.1 ≠ 0→(aList L n a out).1=[]∧∃ b,b < L.length∧(aList L n a out).2.2=(gL L b).f3:=by
 intro n
 induction n with
 | zero=>intro a out _ h;exact absurd rfl h
 | succ n ih =>
  intro a out ha h
  simp only [aList] at h ⊢
  by_cases g0:aIs L a false 0 ⟨#[]⟩=true
  ·rw [if_pos g0] at h
   exact absurd rfl h
  ·rw [if_neg g0] at h ⊢
   obtain ⟨s1,-,-⟩:=sched_lt L hL a ha
   by_cases gb:(qcB L a).b=true
   ·rw [if_pos gb]
    exact ⟨rfl,_,s1,rfl⟩
   ·rw [if_neg gb] at h ⊢
    by_cases gl:schedule_last.f (out++[(qcB L a).x])=some 0
    ·rw [if_pos gl] at h ⊢
     exact ih _ _ s1 h
    ·rw [if_neg gl]
     exact ⟨rfl,_,ha,rfl⟩
theorem parse_err (s:ByteArray) (h:(parseB s).2.1 ≠ 0):(parseB s).1=[]∧0≤(parseB s).2.2∧(parseB s).2.2≤(s.size:Int):=by
 unfold parseB at h ⊢
 by_cases gs:(scanB s).2.1=0
 ·rw [if_pos gs] at h ⊢
  obtain ⟨hW,hF⟩:=scanB_wfL s gs
  obtain ⟨e1,b,e2,e3⟩:=list_err hW.toSound ((scanB s).1.length+1) 0 [] hW.pos h
  rw [e3]
  exact ⟨e1,hF b e2⟩
 ·rw [if_neg gs]
  exact ⟨rfl,scanB_at s⟩
theorem parse_ok (s:ByteArray) (h:(parseB s).2.1=0):∃ new,(scanB s).2.1=0∧parseB s=(new,0,0)∧tkd (scanB s).1 0=allToks new++[endT]∧(∀ j,j < new.length→schedule_last.f (new.take (j+1))=some 0)∧Bnd2 new∧new.length≤8∧∀ x ∈ new,Good x:=by
 have gs:(scanB s).2.1=0:=by
  by_cases gs:(scanB s).2.1=0
  ·exact gs
  ·unfold parseB at h
   rw [if_neg gs] at h
   exact h
 obtain ⟨hW,-⟩:=scanB_wfL s gs
 have hp:parseB s=aList (scanB s).1 ((scanB s).1.length+1) 0 []:=by
  unfold parseB
  rw [if_pos gs]
 rw [hp] at h ⊢
 obtain ⟨new,n1,n2,n3,n4,n5,n6⟩:=s_list hW ((scanB s).1.length+1) 0 [] hW.pos (by omega) (fun x hx=>absurd hx (by simp)) (Nat.zero_le _) (fun j hj=>absurd hj (Nat.not_lt_zero _)) h
 rw [List.nil_append] at n1 n4 n5 n6
 refine ⟨new,gs,Prod.ext n1 (Prod.ext h n3),n2,n4,n5,n6,?_⟩
 exact rd_all new (fun j hj=>by
  have h1:=n4 j hj
  obtain ⟨-,h2⟩:=last_zero (new.take (j+1)) (by rw [List.length_take];omega) (by rw [List.length_take];omega) h1
  have hln:(new.take (j+1)).length=j+1:=by rw [List.length_take];omega
  rw [hln,show (((j+1:Nat):Int) - 1)=(j:Int) by omega,rd_take new j hj] at h2
  exact h2)
end Go.Proofs.YtehdmplngmbnnaaDoor.P
namespace Go.Proofs.YtehdmplngmbnnaaDoor.P
open Go.RowKit Go.Proofs.YtehdmplngmbnnaaDoorW.PrintWords Go.Proofs.YtehdmplngmbnnaaDoorW.PrintLast Go.Proofs.YtehdmplngmbnnaaDoorW.PrintMore
attribute [local go_sem] qbV qbW qcC qcD qbQ qbR qbX qbY
attribute [local go_sem] qbL
set_option linter.unusedVariables false
set_option linter.unusedSimpArgs false
def sawmillref06_Digit.f (a0:Int):Option (Bool):=if a0 ≥ 48 then (some (decide (a0≤57))) else (some false)
set_option maxHeartbeats 8000000 in
set_option maxRecDepth 100000 in
theorem sawmillref06_Digit.calls (a0:Int) (r:Bool) (w:World) (h:sawmillref06_Digit.f a0=some r) :
  Calls Tryd.prog 53 #[.int .u8 a0] w fun e w'=>e=.returned (.bool r)∧Drawn0 w w':=by
 have H:(if a0 ≥ 48 then (some (decide (a0≤57))) else (some false))=some r:=h
 clear h
 by_cases c2:a0 ≥ 48
 ·rw [if_pos c2] at H
  have c2b0:decide (48≤a0)=true:=decide_eq_true c2
  clear c2
  obtain rfl:=Option.some.inj H
  go_enter Tryd.func53,Tryd.ntmps53
  go_wp2
  go_ret
  exact ⟨by first|rfl|(simp;done)|(simp [*];done),by repeat (first|exact Drawn0.refl _|apply Drawn0.step)⟩
 ·rw [if_neg c2] at H
  have c2b0:decide (48≤a0)=false:=decide_eq_false c2
  clear c2
  obtain rfl:=Option.some.inj H
  go_enter Tryd.func53,Tryd.ntmps53
  go_wp2
  go_ret
  exact ⟨by first|rfl|(simp;done)|(simp [*];done),by repeat (first|exact Drawn0.refl _|apply Drawn0.step)⟩
end Go.Proofs.YtehdmplngmbnnaaDoor.P
namespace Go.Proofs.YtehdmplngmbnnaaDoor.P
open Go.RowKit Go.Proofs.YtehdmplngmbnnaaDoorW.PrintWords Go.Proofs.YtehdmplngmbnnaaDoorW.PrintLast Go.Proofs.YtehdmplngmbnnaaDoorW.PrintMore
attribute [local go_sem] qbV qbW qcC qcD qbQ qbR qbX qbY
attribute [local go_sem] qbL
set_option linter.unusedVariables false
set_option linter.unusedSimpArgs false
def sawmillref06_Letter.f (a0:Int):Option (Bool):=if a0 ≥ 97 then (if a0≤122 then (some true) else (if a0 ≥ 65 then (if a0≤90 then (some true) else (if a0=95 then (some true) else ((sawmillref06_Digit.f a0).bind fun t101=>(some t101)))) else (if a0=95 then (some true) else ((sawmillref06_Digit.f a0).bind fun t102=>(some t102))))) else (if a0 ≥ 65 then (if a0≤90 then (some true) else (if a0=95 then (some true) else ((sawmillref06_Digit.f a0).bind fun t103=>(some t103)))) else (if a0=95 then (some true) else ((sawmillref06_Digit.f a0).bind fun t104=>(some t104))))
set_option maxHeartbeats 8000000 in
set_option maxRecDepth 100000 in
theorem sawmillref06_Letter.calls (a0:Int) (r:Bool) (w:World) (h:sawmillref06_Letter.f a0=some r) :
  Calls Tryd.prog 55 #[.int .u8 a0] w fun e w'=>e=.returned (.bool r)∧Drawn0 w w':=by
 have H:(if a0 ≥ 97 then (if a0≤122 then (some true) else (if a0 ≥ 65 then (if a0≤90 then (some true) else (if a0=95 then (some true) else ((sawmillref06_Digit.f a0).bind fun t101=>(some t101)))) else (if a0=95 then (some true) else ((sawmillref06_Digit.f a0).bind fun t102=>(some t102))))) else (if a0 ≥ 65 then (if a0≤90 then (some true) else (if a0=95 then (some true) else ((sawmillref06_Digit.f a0).bind fun t103=>(some t103)))) else (if a0=95 then (some true) else ((sawmillref06_Digit.f a0).bind fun t104=>(some t104)))))=some r:=h
 clear h
 by_cases c2:a0 ≥ 97
 ·rw [if_pos c2] at H
  have c2b0:decide (97≤a0)=true:=decide_eq_true c2
  clear c2
  by_cases c3:a0≤122
  ·rw [if_pos c3] at H
   have c3b0:decide (a0≤122)=true:=decide_eq_true c3
   clear c3
   obtain rfl:=Option.some.inj H
   go_enter Tryd.func55,Tryd.ntmps55
   go_wp2
   go_ret
   exact ⟨by first|rfl|(simp;done)|(simp [*];done),by repeat (first|exact Drawn0.refl _|apply Drawn0.step)⟩
  ·rw [if_neg c3] at H
   have c3b0:decide (a0≤122)=false:=decide_eq_false c3
   clear c3
   by_cases c4:a0 ≥ 65
   ·rw [if_pos c4] at H
    have c4b0:decide (65≤a0)=true:=decide_eq_true c4
    clear c4
    by_cases c5:a0≤90
    ·rw [if_pos c5] at H
     have c5b0:decide (a0≤90)=true:=decide_eq_true c5
     clear c5
     obtain rfl:=Option.some.inj H
     go_enter Tryd.func55,Tryd.ntmps55
     go_wp2
     go_ret
     exact ⟨by first|rfl|(simp;done)|(simp [*];done),by repeat (first|exact Drawn0.refl _|apply Drawn0.step)⟩
    ·rw [if_neg c5] at H
     have c5b0:decide (a0≤90)=false:=decide_eq_false c5
     clear c5
     by_cases c6:a0=95
     ·rw [if_pos c6] at H
      have c6b0:(a0 == 95)=true:=beq_iff_eq.mpr c6
      have c6b1:(a0 != 95)=false:=bne_eq_false_iff_eq.mpr c6
      clear c6
      obtain rfl:=Option.some.inj H
      go_enter Tryd.func55,Tryd.ntmps55
      go_wp2
      go_ret
      exact ⟨by first|rfl|(simp;done)|(simp [*];done),by repeat (first|exact Drawn0.refl _|apply Drawn0.step)⟩
     ·rw [if_neg c6] at H
      have c6b0:(a0 == 95)=false:=beq_eq_false_iff_ne.mpr c6
      have c6b1:(a0 != 95)=true:=bne_iff_ne.mpr c6
      replace H:=Option.bind_eq_some_iff.mp H
      obtain ⟨t101,A70,H⟩:=H
      replace H:(some t101)=some r:=H
      have A7:=Aside0.mk A70
      clear A70
      obtain rfl:=Option.some.inj H
      go_enter Tryd.func55,Tryd.ntmps55
      go_wp2_with (first|(go_at_call 53;(with_reducible refine (sawmillref06_Digit.calls a0 t101 _ A7.out).mono ?_);rintro e w' ⟨rfl,⟨nd,rfl⟩⟩))
      go_ret
      exact ⟨by first|rfl|(simp;done)|(simp [*];done),by repeat (first|exact Drawn0.refl _|apply Drawn0.step)⟩
   ·rw [if_neg c4] at H
    have c4b0:decide (65≤a0)=false:=decide_eq_false c4
    clear c4
    by_cases c8:a0=95
    ·rw [if_pos c8] at H
     have c8b0:(a0 == 95)=true:=beq_iff_eq.mpr c8
     have c8b1:(a0 != 95)=false:=bne_eq_false_iff_eq.mpr c8
     clear c8
     obtain rfl:=Option.some.inj H
     go_enter Tryd.func55,Tryd.ntmps55
     go_wp2
     go_ret
     exact ⟨by first|rfl|(simp;done)|(simp [*];done),by repeat (first|exact Drawn0.refl _|apply Drawn0.step)⟩
    ·rw [if_neg c8] at H
     have c8b0:(a0 == 95)=false:=beq_eq_false_iff_ne.mpr c8
     have c8b1:(a0 != 95)=true:=bne_iff_ne.mpr c8
     replace H:=Option.bind_eq_some_iff.mp H
     obtain ⟨t102,A90,H⟩:=H
     replace H:(some t102)=some r:=H
     have A9:=Aside0.mk A90
     clear A90
     obtain rfl:=Option.some.inj H
     go_enter Tryd.func55,Tryd.ntmps55
     go_wp2_with (first|(go_at_call 53;(with_reducible refine (sawmillref06_Digit.calls a0 t102 _ A9.out).mono ?_);rintro e w' ⟨rfl,⟨nd,rfl⟩⟩))
     go_ret
     exact ⟨by first|rfl|(simp;done)|(simp [*];done),by repeat (first|exact Drawn0.refl _|apply Drawn0.step)⟩
 ·rw [if_neg c2] at H
  have c2b0:decide (97≤a0)=false:=decide_eq_false c2
  clear c2
  by_cases c10:a0 ≥ 65
  ·rw [if_pos c10] at H
   have c10b0:decide (65≤a0)=true:=decide_eq_true c10
   clear c10
   by_cases c11:a0≤90
   ·rw [if_pos c11] at H
    have c11b0:decide (a0≤90)=true:=decide_eq_true c11
    clear c11
    obtain rfl:=Option.some.inj H
    go_enter Tryd.func55,Tryd.ntmps55
    go_wp2
    go_ret
    exact ⟨by first|rfl|(simp;done)|(simp [*];done),by repeat (first|exact Drawn0.refl _|apply Drawn0.step)⟩
   ·rw [if_neg c11] at H
    have c11b0:decide (a0≤90)=false:=decide_eq_false c11
    clear c11
    by_cases c12:a0=95
    ·rw [if_pos c12] at H
     have c12b0:(a0 == 95)=true:=beq_iff_eq.mpr c12
     have c12b1:(a0 != 95)=false:=bne_eq_false_iff_eq.mpr c12
     clear c12
     obtain rfl:=Option.some.inj H
     go_enter Tryd.func55,Tryd.ntmps55
     go_wp2
     go_ret
     exact ⟨by first|rfl|(simp;done)|(simp [*];done),by repeat (first|exact Drawn0.refl _|apply Drawn0.step)⟩
    ·rw [if_neg c12] at H
     have c12b0:(a0 == 95)=false:=beq_eq_false_iff_ne.mpr c12
     have c12b1:(a0 != 95)=true:=bne_iff_ne.mpr c12
     replace H:=Option.bind_eq_some_iff.mp H
     obtain ⟨t103,A130,H⟩:=H
     replace H:(some t103)=some r:=H
     have A13:=Aside0.mk A130
     clear A130
     obtain rfl:=Option.some.inj H
     go_enter Tryd.func55,Tryd.ntmps55
     go_wp2_with (first|(go_at_call 53;(with_reducible refine (sawmillref06_Digit.calls a0 t103 _ A13.out).mono ?_);rintro e w' ⟨rfl,⟨nd,rfl⟩⟩))
     go_ret
     exact ⟨by first|rfl|(simp;done)|(simp [*];done),by repeat (first|exact Drawn0.refl _|apply Drawn0.step)⟩
  ·rw [if_neg c10] at H
   have c10b0:decide (65≤a0)=false:=decide_eq_false c10
   clear c10
   by_cases c14:a0=95
   ·rw [if_pos c14] at H
    have c14b0:(a0 == 95)=true:=beq_iff_eq.mpr c14
    have c14b1:(a0 != 95)=false:=bne_eq_false_iff_eq.mpr c14
    clear c14
    obtain rfl:=Option.some.inj H
    go_enter Tryd.func55,Tryd.ntmps55
    go_wp2
    go_ret
    exact ⟨by first|rfl|(simp;done)|(simp [*];done),by repeat (first|exact Drawn0.refl _|apply Drawn0.step)⟩
   ·rw [if_neg c14] at H
    have c14b0:(a0 == 95)=false:=beq_eq_false_iff_ne.mpr c14
    have c14b1:(a0 != 95)=true:=bne_iff_ne.mpr c14
    replace H:=Option.bind_eq_some_iff.mp H
    obtain ⟨t104,A150,H⟩:=H
    replace H:(some t104)=some r:=H
    have A15:=Aside0.mk A150
    clear A150
    obtain rfl:=Option.some.inj H
    go_enter Tryd.func55,Tryd.ntmps55
    go_wp2_with (first|(go_at_call 53;(with_reducible refine (sawmillref06_Digit.calls a0 t104 _ A15.out).mono ?_);rintro e w' ⟨rfl,⟨nd,rfl⟩⟩))
    go_ret
    exact ⟨by first|rfl|(simp;done)|(simp [*];done),by repeat (first|exact Drawn0.refl _|apply Drawn0.step)⟩
end Go.Proofs.YtehdmplngmbnnaaDoor.P
namespace Go.Proofs.YtehdmplngmbnnaaDoor.P
open Go.RowKit Go.Proofs.YtehdmplngmbnnaaDoorW.PrintWords Go.Proofs.YtehdmplngmbnnaaDoorW.PrintLast Go.Proofs.YtehdmplngmbnnaaDoorW.PrintMore
attribute [local go_sem] qbV qbW qcC qcD qbQ qbR qbX qbY
attribute [local go_sem] qbL
set_option linter.unusedVariables false
set_option linter.unusedSimpArgs false
def sawmillref06_Marks.f :Option (List ByteArray):=some (([(⟨#[60,61]⟩:ByteArray),(⟨#[62,61]⟩:ByteArray),(⟨#[33,61]⟩:ByteArray),(⟨#[46,46]⟩:ByteArray),(⟨#[60]⟩:ByteArray),(⟨#[61]⟩:ByteArray),(⟨#[62]⟩:ByteArray),(⟨#[40]⟩:ByteArray),(⟨#[41]⟩:ByteArray),(⟨#[123]⟩:ByteArray),(⟨#[125]⟩:ByteArray),(⟨#[44]⟩:ByteArray),(⟨#[59]⟩:ByteArray),(⟨#[58]⟩:ByteArray),(⟨#[43]⟩:ByteArray),(⟨#[45]⟩:ByteArray),(⟨#[42]⟩:ByteArray),(⟨#[47]⟩:ByteArray),(⟨#[64]⟩:ByteArray)]:List ByteArray))
set_option maxHeartbeats 8000000 in
set_option maxRecDepth 100000 in
theorem sawmillref06_Marks.calls  (r:List ByteArray) (w:World) (h:sawmillref06_Marks.f =some r) :
  Calls Tryd.prog 68 #[] w fun e w'=>∃ v0_:Value,e=.returned (v0_)∧Kd.R Kd.string 9 w' w.heap.size (fun _=>True) v0_ r∧Below w.heap.size w w':=by
 have HB:=Aside0.mk (Below.refl w.heap.size w)
 have H:(some (([(⟨#[60,61]⟩:ByteArray),(⟨#[62,61]⟩:ByteArray),(⟨#[33,61]⟩:ByteArray),(⟨#[46,46]⟩:ByteArray),(⟨#[60]⟩:ByteArray),(⟨#[61]⟩:ByteArray),(⟨#[62]⟩:ByteArray),(⟨#[40]⟩:ByteArray),(⟨#[41]⟩:ByteArray),(⟨#[123]⟩:ByteArray),(⟨#[125]⟩:ByteArray),(⟨#[44]⟩:ByteArray),(⟨#[59]⟩:ByteArray),(⟨#[58]⟩:ByteArray),(⟨#[43]⟩:ByteArray),(⟨#[45]⟩:ByteArray),(⟨#[42]⟩:ByteArray),(⟨#[47]⟩:ByteArray),(⟨#[64]⟩:ByteArray)]:List ByteArray)))=some r:=h
 clear h
 obtain ⟨y101,hy101⟩:∃ y_:List ByteArray,y_=(([(⟨#[60,61]⟩:ByteArray),(⟨#[62,61]⟩:ByteArray),(⟨#[33,61]⟩:ByteArray),(⟨#[46,46]⟩:ByteArray),(⟨#[60]⟩:ByteArray),(⟨#[61]⟩:ByteArray),(⟨#[62]⟩:ByteArray),(⟨#[40]⟩:ByteArray),(⟨#[41]⟩:ByteArray),(⟨#[123]⟩:ByteArray),(⟨#[125]⟩:ByteArray),(⟨#[44]⟩:ByteArray),(⟨#[59]⟩:ByteArray),(⟨#[58]⟩:ByteArray),(⟨#[43]⟩:ByteArray),(⟨#[45]⟩:ByteArray),(⟨#[42]⟩:ByteArray),(⟨#[47]⟩:ByteArray),(⟨#[64]⟩:ByteArray)]:List ByteArray)):=⟨_,rfl⟩
 replace H:(some y101)=some r:=by first|(rw [hy101];with_reducible exact H)|(have H2_:=(Option.bind_some _ _).symm.trans H;rw [hy101];with_reducible exact H2_)|(have H2_:=(Option.bind_some _ _).symm.trans H;with_reducible exact H2_)|with_reducible exact H|(rw [hy101];exact H)|exact H
 have Ny101:=Aside0.mk hy101
 clear hy101
 obtain rfl:=Option.some.inj H
 go_enter Tryd.func68,Tryd.ntmps68
 go_wp2_with (first|((with_reducible refine qbE (N:=1) rfl ?_);refine Kd.R_lit Kd.string _ 9 ?hg (N:=1) ?hd (xs:=([(⟨#[60,61]⟩:ByteArray),(⟨#[62,61]⟩:ByteArray),(⟨#[33,61]⟩:ByteArray),(⟨#[46,46]⟩:ByteArray),(⟨#[60]⟩:ByteArray),(⟨#[61]⟩:ByteArray),(⟨#[62]⟩:ByteArray),(⟨#[40]⟩:ByteArray),(⟨#[41]⟩:ByteArray),(⟨#[123]⟩:ByteArray),(⟨#[125]⟩:ByteArray),(⟨#[44]⟩:ByteArray),(⟨#[59]⟩:ByteArray),(⟨#[58]⟩:ByteArray),(⟨#[43]⟩:ByteArray),(⟨#[45]⟩:ByteArray),(⟨#[42]⟩:ByteArray),(⟨#[47]⟩:ByteArray),(⟨#[64]⟩:ByteArray)]:List ByteArray)) (inner:=[.string (⟨#[60,61]⟩:ByteArray),.string (⟨#[62,61]⟩:ByteArray),.string (⟨#[33,61]⟩:ByteArray),.string (⟨#[46,46]⟩:ByteArray),.string (⟨#[60]⟩:ByteArray),.string (⟨#[61]⟩:ByteArray),.string (⟨#[62]⟩:ByteArray),.string (⟨#[40]⟩:ByteArray),.string (⟨#[41]⟩:ByteArray),.string (⟨#[123]⟩:ByteArray),.string (⟨#[125]⟩:ByteArray),.string (⟨#[44]⟩:ByteArray),.string (⟨#[59]⟩:ByteArray),.string (⟨#[58]⟩:ByteArray),.string (⟨#[43]⟩:ByteArray),.string (⟨#[45]⟩:ByteArray),.string (⟨#[42]⟩:ByteArray),.string (⟨#[47]⟩:ByteArray),.string (⟨#[64]⟩:ByteArray)]) (ok:=fun _=>True) (okp:=fun _=>True) ?hr ?hp (fun _ hk=>hk) trivial (Below.refl _ _) (Nat.le_refl _) (by simp) ?_;(case hd=>rfl);(case hg=>rfl);(case hr=>first|(go_simp;done)|(go_simp;rfl));(case hp=>exact (Reps.one (show Kd.M Kd.string _ _ _ (⟨#[60,61]⟩:ByteArray) [.string (⟨#[60,61]⟩:ByteArray)] from rfl) (Reps.one (show Kd.M Kd.string _ _ _ (⟨#[62,61]⟩:ByteArray) [.string (⟨#[62,61]⟩:ByteArray)] from rfl) (Reps.one (show Kd.M Kd.string _ _ _ (⟨#[33,61]⟩:ByteArray) [.string (⟨#[33,61]⟩:ByteArray)] from rfl) (Reps.one (show Kd.M Kd.string _ _ _ (⟨#[46,46]⟩:ByteArray) [.string (⟨#[46,46]⟩:ByteArray)] from rfl) (Reps.one (show Kd.M Kd.string _ _ _ (⟨#[60]⟩:ByteArray) [.string (⟨#[60]⟩:ByteArray)] from rfl) (Reps.one (show Kd.M Kd.string _ _ _ (⟨#[61]⟩:ByteArray) [.string (⟨#[61]⟩:ByteArray)] from rfl) (Reps.one (show Kd.M Kd.string _ _ _ (⟨#[62]⟩:ByteArray) [.string (⟨#[62]⟩:ByteArray)] from rfl) (Reps.one (show Kd.M Kd.string _ _ _ (⟨#[40]⟩:ByteArray) [.string (⟨#[40]⟩:ByteArray)] from rfl) (Reps.one (show Kd.M Kd.string _ _ _ (⟨#[41]⟩:ByteArray) [.string (⟨#[41]⟩:ByteArray)] from rfl) (Reps.one (show Kd.M Kd.string _ _ _ (⟨#[123]⟩:ByteArray) [.string (⟨#[123]⟩:ByteArray)] from rfl) (Reps.one (show Kd.M Kd.string _ _ _ (⟨#[125]⟩:ByteArray) [.string (⟨#[125]⟩:ByteArray)] from rfl) (Reps.one (show Kd.M Kd.string _ _ _ (⟨#[44]⟩:ByteArray) [.string (⟨#[44]⟩:ByteArray)] from rfl) (Reps.one (show Kd.M Kd.string _ _ _ (⟨#[59]⟩:ByteArray) [.string (⟨#[59]⟩:ByteArray)] from rfl) (Reps.one (show Kd.M Kd.string _ _ _ (⟨#[58]⟩:ByteArray) [.string (⟨#[58]⟩:ByteArray)] from rfl) (Reps.one (show Kd.M Kd.string _ _ _ (⟨#[43]⟩:ByteArray) [.string (⟨#[43]⟩:ByteArray)] from rfl) (Reps.one (show Kd.M Kd.string _ _ _ (⟨#[45]⟩:ByteArray) [.string (⟨#[45]⟩:ByteArray)] from rfl) (Reps.one (show Kd.M Kd.string _ _ _ (⟨#[42]⟩:ByteArray) [.string (⟨#[42]⟩:ByteArray)] from rfl) (Reps.one (show Kd.M Kd.string _ _ _ (⟨#[47]⟩:ByteArray) [.string (⟨#[47]⟩:ByteArray)] from rfl) (Reps.one (show Kd.M Kd.string _ _ _ (⟨#[64]⟩:ByteArray) [.string (⟨#[64]⟩:ByteArray)] from rfl) (Reps.none _ _)))))))))))))))))))));intro v102 w1 ho2 hb hg_ hnew_;clear hg_ hnew_;(first|rw [← Ny101.out] at ho2|(simp only [Int.reduceToNat] at ho2;rw [← Ny101.out] at ho2));have n0_:=Aside0.mk (Kd.R_lower ho2 (qaK (by repeat (first|(with_reducible first|exact HB.out|apply qaB|apply qaA|apply qaC)|exact HB.out))));have n1_:=Aside0.mk (qaN (by repeat (first|(with_reducible first|exact HB.out|apply qaB|apply qaA|apply qaC)|exact HB.out)) hb);clear HB;have HO103:=n0_;have HB:=n1_;clear n0_ n1_;clear hb ho2))
 go_ret
 exact ⟨_,by first|rfl|(simp [qaL,qaM]<;>rfl)|(simp [*,qaL,qaM]<;>rfl),by (with_reducible repeat (first|apply Kd.R_alloc|apply Kd.R_drewN|apply Kd.R_drew));exact HO103.out,by repeat (first|(with_reducible first|exact HB.out|apply qaB|apply qaA|apply qaC)|exact HB.out)⟩
end Go.Proofs.YtehdmplngmbnnaaDoor.P
namespace Go.Proofs.YtehdmplngmbnnaaDoor.P
open Go.RowKit Go.Proofs.YtehdmplngmbnnaaDoorW.PrintWords Go.Proofs.YtehdmplngmbnnaaDoorW.PrintLast Go.Proofs.YtehdmplngmbnnaaDoorW.PrintMore
attribute [local go_sem] qbV qbW qcC qcD qbQ qbR qbX qbY
attribute [local go_sem] qbL
set_option linter.unusedVariables false
set_option linter.unusedSimpArgs false
def sawmillref06_mark.l0:Nat→ByteArray→List ByteArray→Int→Option (ByteArray)
 | 0,_,_,_=>none
 | k+1,x0,x3,x4=>if x4 < (x3.length:Int) then (if 0≤x4 then (if (x0.size:Int) ≥ ((rdOf ByteArray.empty x3 x4).size:Int) then (if 0≤((rdOf ByteArray.empty x3 x4).size:Int) then (if ((rdOf ByteArray.empty x3 x4).size:Int)≤(x0.size:Int) then (if (x0.extract 0 (rdOf ByteArray.empty x3 x4).size).toList=(rdOf ByteArray.empty x3 x4).toList then (some (rdOf ByteArray.empty x3 x4)) else (sawmillref06_mark.l0 k x0 x3 (wrap64 (x4+1)))) else (none)) else (none)) else (sawmillref06_mark.l0 k x0 x3 (wrap64 (x4+1)))) else (none)) else (some (⟨#[]⟩:ByteArray))
def sawmillref06_mark.f (k:Nat) (a0:ByteArray):Option (ByteArray):=(sawmillref06_Marks.f).bind fun t101=>(sawmillref06_mark.l0 k a0 t101 0)
set_option maxHeartbeats 8000000 in
set_option maxRecDepth 100000 in
theorem sawmillref06_mark.calls (k:Nat) (a0:ByteArray) (r:ByteArray) (w:World) (h:sawmillref06_mark.f k a0=some r) :
  Calls Tryd.prog 56 #[.string a0] w fun e w'=>e=.returned (.string r)∧Below w.heap.size w w':=by
 have HB:=Aside0.mk (Below.refl w.heap.size w)
 have H:((sawmillref06_Marks.f).bind fun t101=>(sawmillref06_mark.l0 k a0 t101 0))=some r:=h
 clear h
 replace H:=Option.bind_eq_some_iff.mp H
 obtain ⟨t101,A20,H⟩:=H
 replace H:(sawmillref06_mark.l0 k a0 t101 0)=some r:=H
 have A2:=Aside0.mk A20
 clear A20
 have H':=Aside0.mk H
 clear H
 go_enter Tryd.func56,Tryd.ntmps56
 go_wp2_with (first|(go_at_call 68;(with_reducible refine (sawmillref06_Marks.calls  t101 _ A2.out).mono ?_);rintro e w3 ⟨v102,rfl,ho0,hb⟩;have n0_:=Aside0.mk (Kd.R_lower ho0 (qaK (by repeat (first|(with_reducible first|exact HB.out|apply qaB|apply qaA|apply qaC)|exact HB.out))));have n1_:=Aside0.mk (qaN (by repeat (first|(with_reducible first|exact HB.out|apply qaB|apply qaA|apply qaC)|exact HB.out)) hb);clear HB;have HO103:=n0_;have HB:=n1_;clear n0_ n1_;(try clear hb);(try clear hb2);(try clear hk);(try clear hi);(try clear ho0)))
 repeat (go_quiet (first|(go_at_call 68;(with_reducible refine (sawmillref06_Marks.calls  t101 _ A2.out).mono ?_);rintro e w3 ⟨v102,rfl,ho0,hb⟩;have n0_:=Aside0.mk (Kd.R_lower ho0 (qaK (by repeat (first|(with_reducible first|exact HB.out|apply qaB|apply qaA|apply qaC)|exact HB.out))));have n1_:=Aside0.mk (qaN (by repeat (first|(with_reducible first|exact HB.out|apply qaB|apply qaA|apply qaC)|exact HB.out)) hb);clear HB;have HO103:=n0_;have HB:=n1_;clear n0_ n1_;(try clear hb);(try clear hb2);(try clear hk);(try clear hi);(try clear ho0)));try go_wp2_with (first|(go_at_call 68;(with_reducible refine (sawmillref06_Marks.calls  t101 _ A2.out).mono ?_);rintro e w3 ⟨v102,rfl,ho0,hb⟩;have n0_:=Aside0.mk (Kd.R_lower ho0 (qaK (by repeat (first|(with_reducible first|exact HB.out|apply qaB|apply qaA|apply qaC)|exact HB.out))));have n1_:=Aside0.mk (qaN (by repeat (first|(with_reducible first|exact HB.out|apply qaB|apply qaA|apply qaC)|exact HB.out)) hb);clear HB;have HO103:=n0_;have HB:=n1_;clear n0_ n1_;(try clear hb);(try clear hb2);(try clear hk);(try clear hi);(try clear ho0))))
 go_loopg [4] k (fun kq v4 w'=>∃ (x4_1:Int),v4=.int .i64 x4_1∧Aside0 (sawmillref06_mark.l0 kq a0 t101 x4_1=some r)∧Aside0 (kq≤k)∧Aside0 (Kd.R Kd.string 9 w' w.heap.size (fun _=>True) v102 t101)∧Aside0 (Below w.heap.size w w'))
 case atStart=>exact ⟨(0),(by first|rfl|(simp;done)|(simp [*];done)),H',⟨Nat.le_refl _⟩,⟨by (with_reducible repeat (first|apply Kd.R_alloc|apply Kd.R_drewN|apply Kd.R_drew));exact HO103.out⟩,⟨by repeat (first|(with_reducible first|exact HB.out|apply qaB|apply qaA|apply qaC)|exact HB.out)⟩⟩
 case round =>
  clear H'
  try clear p2
  obtain ⟨x4_1,rfl,HA,HK1,HO_3,HB⟩:=hrel
  cases gk with
  | zero=>exact absurd HA.out (by simp [sawmillref06_mark.l0])
  | succ k1 =>
   have H:=HA.out
   clear HA
   simp only [sawmillref06_mark.l0] at H
   by_cases c4:x4_1 < (t101.length:Int)
   ·rw [if_pos c4] at H
    have c4b0:decide (x4_1 < (t101.length:Int))=true:=decide_eq_true c4
    clear c4
    by_cases c5:0≤x4_1
    ·rw [if_pos c5] at H
     have c5b0:decide (0≤x4_1)=true:=decide_eq_true c5
     clear c5
     by_cases c6:(a0.size:Int) ≥ ((rdOf ByteArray.empty t101 x4_1).size:Int)
     ·rw [if_pos c6] at H
      have c6b0:decide (((rdOf ByteArray.empty t101 x4_1).size:Int)≤(a0.size:Int))=true:=decide_eq_true c6
      have c6b1:decide ((rdOf ByteArray.empty t101 x4_1).size≤a0.size)=true:=decide_eq_true (Int.ofNat_le.mp c6)
      clear c6
      by_cases c7:0≤((rdOf ByteArray.empty t101 x4_1).size:Int)
      ·rw [if_pos c7] at H
       have c7b0:=eq_true c7
       have c7b1:decide (0≤((rdOf ByteArray.empty t101 x4_1).size:Int))=true:=decide_eq_true c7
       clear c7
       by_cases c8:((rdOf ByteArray.empty t101 x4_1).size:Int)≤(a0.size:Int)
       ·rw [if_pos c8] at H
        have c8b0:=eq_true c8
        have c8b1:decide (((rdOf ByteArray.empty t101 x4_1).size:Int)≤(a0.size:Int))=true:=decide_eq_true c8
        clear c8
        by_cases c9:(a0.extract 0 (rdOf ByteArray.empty t101 x4_1).size).toList=(rdOf ByteArray.empty t101 x4_1).toList
        ·rw [if_pos c9] at H
         have c9b0:((a0.extract 0 (rdOf ByteArray.empty t101 x4_1).size).toList == (rdOf ByteArray.empty t101 x4_1).toList)=true:=beq_iff_eq.mpr c9
         have c9b1:((a0.extract 0 (rdOf ByteArray.empty t101 x4_1).size).toList != (rdOf ByteArray.empty t101 x4_1).toList)=false:=bne_eq_false_iff_eq.mpr c9
         clear c9
         obtain rfl:=Option.some.inj H
         obtain ⟨Ao10,co10,eo10⟩:=Kd.R_slice HO_3.out
         subst eo10
         have p104:0≤(x4_1:Int):=of_decide_eq_true (by first|(with_reducible assumption)|assumption)
         have q104:x4_1 < (t101.length:Int):=of_decide_eq_true (by first|(with_reducible assumption)|assumption)
         obtain ⟨ad104,e104,hx104_0⟩:=Kd.at_string (Kd.R_reads' HO_3.out).2.2 x4_1 p104 q104
         cases e104
         replace p104:=eq_true p104
         replace q104:=eq_true q104
         have p105:0≤(x4_1:Int):=of_decide_eq_true (by first|(with_reducible assumption)|assumption)
         have q105:x4_1 < (t101.length:Int):=of_decide_eq_true (by first|(with_reducible assumption)|assumption)
         obtain ⟨ad105,e105,hx105_0⟩:=Kd.at_string (Kd.R_reads' HO_3.out).2.2 x4_1 p105 q105
         obtain rfl:ad104=ad105:=(by injection e105)
         replace p105:=eq_true p105
         replace q105:=eq_true q105
         have p106:0≤(x4_1:Int):=of_decide_eq_true (by first|(with_reducible assumption)|assumption)
         have q106:x4_1 < (t101.length:Int):=of_decide_eq_true (by first|(with_reducible assumption)|assumption)
         obtain ⟨ad106,e106,hx106_0⟩:=Kd.at_string (Kd.R_reads' HO_3.out).2.2 x4_1 p106 q106
         obtain rfl:ad104=ad106:=(by injection e106)
         replace p106:=eq_true p106
         replace q106:=eq_true q106
         have p107:0≤(x4_1:Int):=of_decide_eq_true (by first|(with_reducible assumption)|assumption)
         have q107:x4_1 < (t101.length:Int):=of_decide_eq_true (by first|(with_reducible assumption)|assumption)
         obtain ⟨ad107,e107,hx107_0⟩:=Kd.at_string (Kd.R_reads' HO_3.out).2.2 x4_1 p107 q107
         obtain rfl:ad104=ad107:=(by injection e107)
         replace p107:=eq_true p107
         replace q107:=eq_true q107
         go_wp2
         repeat (go_quiet (fail);try go_wp2)
         go_ret
         exact ⟨by first|rfl|(simp [qaL,qaM]<;>rfl)|(simp [*,qaL,qaM]<;>rfl),by repeat (first|(with_reducible first|exact HB.out|apply qaB|apply qaA|apply qaC)|exact HB.out)⟩
        ·rw [if_neg c9] at H
         have c9b0:((a0.extract 0 (rdOf ByteArray.empty t101 x4_1).size).toList == (rdOf ByteArray.empty t101 x4_1).toList)=false:=beq_eq_false_iff_ne.mpr c9
         have c9b1:((a0.extract 0 (rdOf ByteArray.empty t101 x4_1).size).toList != (rdOf ByteArray.empty t101 x4_1).toList)=true:=bne_iff_ne.mpr c9
         have H':=Aside0.mk H
         clear H
         obtain ⟨Ao11,co11,eo11⟩:=Kd.R_slice HO_3.out
         subst eo11
         have p104:0≤(x4_1:Int):=of_decide_eq_true (by first|(with_reducible assumption)|assumption)
         have q104:x4_1 < (t101.length:Int):=of_decide_eq_true (by first|(with_reducible assumption)|assumption)
         obtain ⟨ad104,e104,hx104_0⟩:=Kd.at_string (Kd.R_reads' HO_3.out).2.2 x4_1 p104 q104
         cases e104
         replace p104:=eq_true p104
         replace q104:=eq_true q104
         have p105:0≤(x4_1:Int):=of_decide_eq_true (by first|(with_reducible assumption)|assumption)
         have q105:x4_1 < (t101.length:Int):=of_decide_eq_true (by first|(with_reducible assumption)|assumption)
         obtain ⟨ad105,e105,hx105_0⟩:=Kd.at_string (Kd.R_reads' HO_3.out).2.2 x4_1 p105 q105
         obtain rfl:ad104=ad105:=(by injection e105)
         replace p105:=eq_true p105
         replace q105:=eq_true q105
         have p106:0≤(x4_1:Int):=of_decide_eq_true (by first|(with_reducible assumption)|assumption)
         have q106:x4_1 < (t101.length:Int):=of_decide_eq_true (by first|(with_reducible assumption)|assumption)
         obtain ⟨ad106,e106,hx106_0⟩:=Kd.at_string (Kd.R_reads' HO_3.out).2.2 x4_1 p106 q106
         obtain rfl:ad104=ad106:=(by injection e106)
         replace p106:=eq_true p106
         replace q106:=eq_true q106
         go_wp2
         repeat (go_quiet (fail);try go_wp2)
         go_roundg k1
         case measure=>have:=HK1.out;omega
         case rel=>exact ⟨(wrap64 (x4_1+1)),(by first|rfl|(simp;done)|(simp [*];done)),H',⟨by have:=HK1.out;omega⟩,⟨by (with_reducible repeat (first|apply Kd.R_alloc|apply Kd.R_drewN|apply Kd.R_drew));exact HO_3.out⟩,⟨by repeat (first|(with_reducible first|exact HB.out|apply qaB|apply qaA|apply qaC)|exact HB.out)⟩⟩
       ·rw [if_neg c8] at H
        exact absurd H (by simp)
      ·rw [if_neg c7] at H
       exact absurd H (by simp)
     ·rw [if_neg c6] at H
      have c6b0:decide (((rdOf ByteArray.empty t101 x4_1).size:Int)≤(a0.size:Int))=false:=decide_eq_false c6
      have c6b1:decide ((rdOf ByteArray.empty t101 x4_1).size≤a0.size)=false:=decide_eq_false (fun h=>c6 (Int.ofNat_le.mpr h))
      clear c6
      have H':=Aside0.mk H
      clear H
      obtain ⟨Ao12,co12,eo12⟩:=Kd.R_slice HO_3.out
      subst eo12
      have p104:0≤(x4_1:Int):=of_decide_eq_true (by first|(with_reducible assumption)|assumption)
      have q104:x4_1 < (t101.length:Int):=of_decide_eq_true (by first|(with_reducible assumption)|assumption)
      obtain ⟨ad104,e104,hx104_0⟩:=Kd.at_string (Kd.R_reads' HO_3.out).2.2 x4_1 p104 q104
      cases e104
      replace p104:=eq_true p104
      replace q104:=eq_true q104
      go_wp2
      repeat (go_quiet (fail);try go_wp2)
      go_roundg k1
      case measure=>have:=HK1.out;omega
      case rel=>exact ⟨(wrap64 (x4_1+1)),(by first|rfl|(simp;done)|(simp [*];done)),H',⟨by have:=HK1.out;omega⟩,⟨by (with_reducible repeat (first|apply Kd.R_alloc|apply Kd.R_drewN|apply Kd.R_drew));exact HO_3.out⟩,⟨by repeat (first|(with_reducible first|exact HB.out|apply qaB|apply qaA|apply qaC)|exact HB.out)⟩⟩
    ·rw [if_neg c5] at H
     exact absurd H (by simp)
   ·rw [if_neg c4] at H
    have c4b0:decide (x4_1 < (t101.length:Int))=false:=decide_eq_false c4
    clear c4
    obtain rfl:=Option.some.inj H
    obtain ⟨Ao13,co13,eo13⟩:=Kd.R_slice HO_3.out
    subst eo13
    go_wp2
    repeat (go_quiet (fail);try go_wp2)
    go_ret
    exact ⟨by first|rfl|(simp [qaL,qaM]<;>rfl)|(simp [*,qaL,qaM]<;>rfl),by repeat (first|(with_reducible first|exact HB.out|apply qaB|apply qaA|apply qaC)|exact HB.out)⟩
end Go.Proofs.YtehdmplngmbnnaaDoor.P
namespace Go.Proofs.YtehdmplngmbnnaaDoor.P
open Go.RowKit Go.Proofs.YtehdmplngmbnnaaDoorW.PrintWords Go.Proofs.YtehdmplngmbnnaaDoorW.PrintLast Go.Proofs.YtehdmplngmbnnaaDoorW.PrintMore
attribute [local go_sem] qbV qbW qcC qcD qbQ qbR qbX qbY
attribute [local go_sem] qbL
set_option linter.unusedVariables false
set_option linter.unusedSimpArgs false
mutual
def sawmillref06_number.j0:Nat→ByteArray→Bool→Option (Int × Int)
 | 0,_,_=>none
 | k+1,x0,x13=>if x13=true then (some (0,5)) else (sawmillref06_number.l0 k x0 0 0)
def sawmillref06_number.l0:Nat→ByteArray→Int→Int→Option (Int × Int)
 | 0,_,_,_=>none
 | k+1,x0,x4,x5=>if x5 < (x0.size:Int) then (if 0≤x5 then (if (wrap64 ((wrap64 (x4 * 10))+(((bt x0 x5) - 48) % 256))) > 1099511627776 then (some (0,9)) else (sawmillref06_number.l0 k x0 (wrap64 ((wrap64 (x4 * 10))+(((bt x0 x5) - 48) % 256))) (wrap64 (x5+1)))) else (none)) else (some (x4,0))
end
def sawmillref06_number.f (k:Nat) (a0:ByteArray):Option (Int × Int):=if (a0.size:Int) > 1 then (if 0 < (a0.size:Int) then (sawmillref06_number.j0 k a0 ((bt a0 0) == 48)) else (none)) else (sawmillref06_number.j0 k a0 false)
set_option maxHeartbeats 8000000 in
set_option maxRecDepth 100000 in
theorem sawmillref06_number.calls (k:Nat) (a0:ByteArray) (r1:Int) (r2:Int) (w:World) (h:sawmillref06_number.f k a0=some (r1,r2)) :
  Calls Tryd.prog 54 #[.string a0] w fun e w'=>e=.returned (.tuple #[.int .i64 r1,.int .i64 r2])∧Drawn0 w w':=by
 have H:(if (a0.size:Int) > 1 then (if 0 < (a0.size:Int) then (sawmillref06_number.j0 k a0 ((bt a0 0) == 48)) else (none)) else (sawmillref06_number.j0 k a0 false))=some (r1,r2):=h
 clear h
 have HC2:=Aside0.mk H
 clear H
 go_enter Tryd.func54,Tryd.ntmps54
 go_upto_region 1 with (fail)
 go_cut [13] (fun v13 wc=>∃ (kq:Nat) (x13_1:Bool),v13=.bool x13_1∧Aside0 (sawmillref06_number.j0 kq a0 x13_1=some (r1,r2))∧Aside0 (kq≤k)∧Drawn0 w wc)
 case first =>
  have H:=HC2.out
  clear HC2
  by_cases c3:(a0.size:Int) > 1
  ·rw [if_pos c3] at H
   have c3b0:decide (1 < (a0.size:Int))=true:=decide_eq_true c3
   have c3b1:decide (1 < a0.size)=true:=decide_eq_true (by omega)
   clear c3
   (first|rw [c3b0]|(simp only [qaX,qaY];rw [c3b0])|skip)
   by_cases c4:0 < (a0.size:Int)
   ·rw [if_pos c4] at H
    have c4b0:decide (0 < (a0.size:Int))=true:=decide_eq_true c4
    have c4b1:decide (0 < a0.size)=true:=decide_eq_true (by omega)
    clear c4
    have H':=Aside0.mk H
    clear H
    have p5:0≤(0:Int):=(by omega)
    have q5:0 < a0.size:=(by have:(0:Int) < (a0.size:Int):=of_decide_eq_true (by first|(with_reducible assumption)|assumption);omega)
    have hx5:∀ h:0 < a0.size,((a0[0]'h).toNat:Int)=bt a0 0:=qcI a0 0
    clear p5
    have qi5:(0 < (a0.size:Int))=True:=eq_true (of_decide_eq_true (by first|(with_reducible assumption)|assumption))
    replace q5:=eq_true q5
    go_wp2
    go_meet
    case rel=>exact ⟨_,(((bt a0 0) == 48)),(by first|rfl|(simp;done)|(simp [*];done)),H',⟨by first|omega|exact Nat.le_refl _⟩,by repeat (first|exact Drawn0.refl _|apply Drawn0.step)⟩
   ·rw [if_neg c4] at H
    exact absurd H (by simp)
  ·rw [if_neg c3] at H
   have c3b0:decide (1 < (a0.size:Int))=false:=decide_eq_false c3
   have c3b1:decide (1 < a0.size)=false:=decide_eq_false (by omega)
   clear c3
   (first|rw [c3b0]|(simp only [qaX,qaY];rw [c3b0])|skip)
   have H':=Aside0.mk H
   clear H
   go_wp2
   go_meet
   case rel=>exact ⟨_,(false),(by first|rfl|(simp;done)|(simp [*];done)),H',⟨by first|omega|exact Nat.le_refl _⟩,by repeat (first|exact Drawn0.refl _|apply Drawn0.step)⟩
 case rest =>
  clear HC2
  try clear p2
  try clear c3
  try clear c3b0
  try clear c3b1
  try clear c4
  try clear c4b0
  try clear c4b1
  try clear c5
  try clear p5
  try clear q5
  try clear hx5
  try clear qi5
  try clear p5
  try clear q5
  obtain ⟨kq,x13_1,rfl,HA,HJ1,⟨mc1,rfl⟩⟩:=hcut
  cases kq with
  | zero=>exact absurd HA.out (by simp [sawmillref06_number.j0])
  | succ kj1 =>
   have H:=HA.out
   clear HA
   simp only [sawmillref06_number.j0] at H
   by_cases c6:x13_1=true
   ·subst c6
    have H1:(some (0,5))=some (r1,r2):=by rw [if_pos rfl] at H;exact H
    clear H
    have H:=H1
    clear H1
    simp only [Option.some.injEq,Prod.mk.injEq] at H
    obtain ⟨rfl,rfl⟩:=H
    go_wp2
    go_ret2
    exact ⟨by first|rfl|(simp;done)|(simp [*];done),by repeat (first|exact Drawn0.refl _|apply Drawn0.step)⟩
   ·replace c6:=Bool.eq_false_iff.mpr c6
    subst c6
    have H1:(sawmillref06_number.l0 kj1 a0 0 0)=some (r1,r2):=by rw [if_neg (show ¬ (false=true) by decide)] at H;exact H
    clear H
    have H:=H1
    clear H1
    have H':=Aside0.mk H
    clear H
    go_wp2
    go_loopg [4,5] kj1 (fun kq v4 v5 w'=>∃ (x4_2:Int) (x5_2:Int),v4=.int .i64 x4_2∧v5=.int .i64 x5_2∧Aside0 (sawmillref06_number.l0 kq a0 x4_2 x5_2=some (r1,r2))∧Aside0 (kq≤kj1)∧Drawn0 w w')
    case atStart=>exact ⟨(0),(0),(by first|rfl|(simp;done)|(simp [*];done)),(by first|rfl|(simp;done)|(simp [*];done)),H',⟨Nat.le_refl _⟩,by repeat (first|exact Drawn0.refl _|apply Drawn0.step)⟩
    case round =>
     clear H'
     try clear c1
     try clear p2
     try clear c3
     try clear c3b0
     try clear c3b1
     try clear c4
     try clear c4b0
     try clear c4b1
     try clear c5
     try clear p5
     try clear q5
     try clear hx5
     try clear qi5
     try clear c6
     try clear p2
     try clear p5
     try clear q5
     obtain ⟨x4_2,x5_2,rfl,rfl,HA,HK2,⟨m2,rfl⟩⟩:=hrel
     cases gk with
     | zero=>exact absurd HA.out (by simp [sawmillref06_number.l0])
     | succ k2 =>
      have H:=HA.out
      clear HA
      simp only [sawmillref06_number.l0] at H
      by_cases c7:x5_2 < (a0.size:Int)
      ·rw [if_pos c7] at H
       have c7b0:decide (x5_2 < (a0.size:Int))=true:=decide_eq_true c7
       clear c7
       by_cases c8:0≤x5_2
       ·rw [if_pos c8] at H
        have c8b0:decide (0≤x5_2)=true:=decide_eq_true c8
        clear c8
        by_cases c10:(wrap64 ((wrap64 (x4_2 * 10))+(((bt a0 x5_2) - 48) % 256))) > 1099511627776
        ·rw [if_pos c10] at H
         have c10b0:decide (1099511627776 < (wrap64 ((wrap64 (x4_2 * 10))+(((bt a0 x5_2) - 48) % 256))))=true:=decide_eq_true c10
         clear c10
         simp only [Option.some.injEq,Prod.mk.injEq] at H
         obtain ⟨rfl,rfl⟩:=H
         have p9:0≤(x5_2:Int):=of_decide_eq_true (by first|(with_reducible assumption)|assumption)
         have q9:x5_2 < (a0.size:Int):=of_decide_eq_true (by first|(with_reducible assumption)|assumption)
         have hx9:=qcI a0 x5_2
         replace p9:=eq_true p9
         replace q9:=eq_true q9
         go_wp2
         go_ret2
         exact ⟨by first|rfl|(simp;done)|(simp [*];done),by repeat (first|exact Drawn0.refl _|apply Drawn0.step)⟩
        ·rw [if_neg c10] at H
         have c10b0:decide (1099511627776 < (wrap64 ((wrap64 (x4_2 * 10))+(((bt a0 x5_2) - 48) % 256))))=false:=decide_eq_false c10
         clear c10
         have H':=Aside0.mk H
         clear H
         have p9:0≤(x5_2:Int):=of_decide_eq_true (by first|(with_reducible assumption)|assumption)
         have q9:x5_2 < (a0.size:Int):=of_decide_eq_true (by first|(with_reducible assumption)|assumption)
         have hx9:=qcI a0 x5_2
         replace p9:=eq_true p9
         replace q9:=eq_true q9
         go_wp2
         go_roundg k2
         case measure=>have:=HJ1.out;have:=HK2.out;omega
         case rel=>exact ⟨(wrap64 ((wrap64 (x4_2 * 10))+(((bt a0 x5_2) - 48) % 256))),(wrap64 (x5_2+1)),(by first|rfl|(simp;done)|(simp [*];done)),(by first|rfl|(simp;done)|(simp [*];done)),H',⟨by have:=HJ1.out;have:=HK2.out;omega⟩,by repeat (first|exact Drawn0.refl _|apply Drawn0.step)⟩
       ·rw [if_neg c8] at H
        exact absurd H (by simp)
      ·rw [if_neg c7] at H
       have c7b0:decide (x5_2 < (a0.size:Int))=false:=decide_eq_false c7
       clear c7
       simp only [Option.some.injEq,Prod.mk.injEq] at H
       obtain ⟨rfl,rfl⟩:=H
       go_wp2
       go_ret2
       exact ⟨by first|rfl|(simp;done)|(simp [*];done),by repeat (first|exact Drawn0.refl _|apply Drawn0.step)⟩
end Go.Proofs.YtehdmplngmbnnaaDoor.P
namespace Go.Proofs.YtehdmplngmbnnaaDoor.P
open Go.RowKit Go.Proofs.YtehdmplngmbnnaaDoorW.PrintWords Go.Proofs.YtehdmplngmbnnaaDoorW.PrintLast Go.Proofs.YtehdmplngmbnnaaDoorW.PrintMore
attribute [local go_sem] qbV qbW qcC qcD qbQ qbR qbX qbY
attribute [local go_sem] qbL
set_option linter.unusedVariables false
set_option linter.unusedSimpArgs false
mutual
def sawmillref06_skip.l0:Nat→ByteArray→Int→Bool→Option (Int)
 | 0,_,_,_=>none
 | k+1,x0,x1,x5=>if x1 < (x0.size:Int) then (if 0≤x1 then (if (bt x0 x1)=10 then (sawmillref06_skip.l0 k x0 (wrap64 (x1+1)) false) else (if x5=true then (sawmillref06_skip.j1 k x0 x1 x5 true) else (sawmillref06_skip.j1 k x0 x1 x5 ((bt x0 x1) == 32)))) else (none)) else (some x1)
def sawmillref06_skip.j1:Nat→ByteArray→Int→Bool→Bool→Option (Int)
 | 0,_,_,_,_=>none
 | k+1,x0,x1,x5,x16=>if x16=true then (sawmillref06_skip.l0 k x0 (wrap64 (x1+1)) x5) else (if 0≤x1 then (if x1 < (x0.size:Int) then (if (bt x0 x1)=35 then (sawmillref06_skip.l0 k x0 (wrap64 (x1+1)) true) else (some x1)) else (none)) else (none))
end
def sawmillref06_skip.f (k:Nat) (a0:ByteArray) (a1:Int):Option (Int):=sawmillref06_skip.l0 k a0 a1 false
set_option maxHeartbeats 8000000 in
set_option maxRecDepth 100000 in
theorem sawmillref06_skip.calls (k:Nat) (a0:ByteArray) (a1:Int) (r:Int) (w:World) (h:sawmillref06_skip.f k a0 a1=some r) :
  Calls Tryd.prog 52 #[.string a0,.int .i64 a1] w fun e w'=>e=.returned (.int .i64 r)∧Drawn0 w w':=by
 have H:(sawmillref06_skip.l0 k a0 a1 false)=some r:=h
 clear h
 have H':=Aside0.mk H
 clear H
 go_enter Tryd.func52,Tryd.ntmps52
 go_wp2
 go_loopg [1,5] k (fun kq v1 v5 w'=>∃ (x1_1:Int) (x5_1:Bool),v1=.int .i64 x1_1∧v5=.bool x5_1∧Aside0 (sawmillref06_skip.l0 kq a0 x1_1 x5_1=some r)∧Aside0 (kq≤k)∧Drawn0 w w')
 case atStart=>exact ⟨(a1),(false),(by first|rfl|(simp;done)|(simp [*];done)),(by first|rfl|(simp;done)|(simp [*];done)),H',⟨Nat.le_refl _⟩,by repeat (first|exact Drawn0.refl _|apply Drawn0.step)⟩
 case round =>
  clear H'
  try clear p2
  obtain ⟨x1_1,x5_1,rfl,rfl,HA,HK1,⟨m1,rfl⟩⟩:=hrel
  cases gk with
  | zero=>exact absurd HA.out (by simp [sawmillref06_skip.l0])
  | succ k1 =>
   have H:=HA.out
   clear HA
   simp only [sawmillref06_skip.l0] at H
   by_cases c3:x1_1 < (a0.size:Int)
   ·rw [if_pos c3] at H
    have c3b0:decide (x1_1 < (a0.size:Int))=true:=decide_eq_true c3
    clear c3
    by_cases c4:0≤x1_1
    ·rw [if_pos c4] at H
     have c4b0:decide (0≤x1_1)=true:=decide_eq_true c4
     clear c4
     by_cases c6:(bt a0 x1_1)=10
     ·rw [if_pos c6] at H
      have c6b0:((bt a0 x1_1) == 10)=true:=beq_iff_eq.mpr c6
      have c6b1:((bt a0 x1_1) != 10)=false:=bne_eq_false_iff_eq.mpr c6
      clear c6
      have H':=Aside0.mk H
      clear H
      have p5:0≤(x1_1:Int):=of_decide_eq_true (by first|(with_reducible assumption)|assumption)
      have q5:x1_1 < (a0.size:Int):=of_decide_eq_true (by first|(with_reducible assumption)|assumption)
      have hx5:=qcI a0 x1_1
      replace p5:=eq_true p5
      replace q5:=eq_true q5
      go_wp2
      go_roundg k1
      case measure=>have:=HK1.out;omega
      case rel=>exact ⟨(wrap64 (x1_1+1)),(false),(by first|rfl|(simp;done)|(simp [*];done)),(by first|rfl|(simp;done)|(simp [*];done)),H',⟨by have:=HK1.out;omega⟩,by repeat (first|exact Drawn0.refl _|apply Drawn0.step)⟩
     ·rw [if_neg c6] at H
      have c6b0:((bt a0 x1_1) == 10)=false:=beq_eq_false_iff_ne.mpr c6
      have c6b1:((bt a0 x1_1) != 10)=true:=bne_iff_ne.mpr c6
      have HC7:=Aside0.mk H
      clear H
      have p5:0≤(x1_1:Int):=of_decide_eq_true (by first|(with_reducible assumption)|assumption)
      have q5:x1_1 < (a0.size:Int):=of_decide_eq_true (by first|(with_reducible assumption)|assumption)
      have hx5:=qcI a0 x1_1
      replace p5:=eq_true p5
      replace q5:=eq_true q5
      go_upto_region 6 with (fail)
      go_cut [16] (fun v16 wc=>∃ (kq:Nat) (x16_6:Bool),v16=.bool x16_6∧Aside0 (sawmillref06_skip.j1 kq a0 x1_1 x5_1 x16_6=some r)∧Aside0 (kq≤k1)∧Drawn0 w wc)
      case first =>
       have H:=HC7.out
       clear HC7
       by_cases c8:x5_1=true
       ·subst c8
        have H1:(sawmillref06_skip.j1 k1 a0 x1_1 true true)=some r:=by rw [if_pos rfl] at H;exact H
        clear H
        have H:=H1
        clear H1
        have H':=Aside0.mk H
        clear H
        go_wp2
        go_meet
        case rel=>exact ⟨_,(true),(by first|rfl|(simp;done)|(simp [*];done)),H',⟨by have:=HK1.out;first|omega|exact Nat.le_refl _⟩,by repeat (first|exact Drawn0.refl _|apply Drawn0.step)⟩
       ·replace c8:=Bool.eq_false_iff.mpr c8
        subst c8
        have H1:(sawmillref06_skip.j1 k1 a0 x1_1 false ((bt a0 x1_1) == 32))=some r:=by rw [if_neg (show ¬ (false=true) by decide)] at H;exact H
        clear H
        have H:=H1
        clear H1
        have H':=Aside0.mk H
        clear H
        have p9:0≤(x1_1:Int):=of_decide_eq_true (by first|(with_reducible assumption)|assumption)
        have q9:x1_1 < (a0.size:Int):=of_decide_eq_true (by first|(with_reducible assumption)|assumption)
        have hx9:=qcI a0 x1_1
        replace p9:=eq_true p9
        replace q9:=eq_true q9
        go_wp2
        go_meet
        case rel=>exact ⟨_,(((bt a0 x1_1) == 32)),(by first|rfl|(simp;done)|(simp [*];done)),H',⟨by have:=HK1.out;first|omega|exact Nat.le_refl _⟩,by repeat (first|exact Drawn0.refl _|apply Drawn0.step)⟩
      case rest =>
       clear HC7
       try clear p2
       try clear c3
       try clear c3b0
       try clear c4
       try clear c4b0
       try clear c5
       try clear p5
       try clear q5
       try clear hx5
       try clear c6
       try clear c6b0
       try clear c6b1
       try clear p6
       try clear c8
       try clear p9
       try clear q9
       try clear hx9
       try clear p2
       try clear p5
       try clear p9
       try clear q5
       try clear q9
       obtain ⟨kq,x16_6,rfl,HA,HJ6,⟨mc6,rfl⟩⟩:=hcut
       cases kq with
       | zero=>exact absurd HA.out (by simp [sawmillref06_skip.j1])
       | succ kj6 =>
        have H:=HA.out
        clear HA
        simp only [sawmillref06_skip.j1] at H
        by_cases c10:x16_6=true
        ·subst c10
         have H1:(sawmillref06_skip.l0 kj6 a0 (wrap64 (x1_1+1)) x5_1)=some r:=by rw [if_pos rfl] at H;exact H
         clear H
         have H:=H1
         clear H1
         have H':=Aside0.mk H
         clear H
         go_wp2
         go_roundg kj6
         case measure=>have:=HK1.out;have:=HJ6.out;omega
         case rel=>exact ⟨(wrap64 (x1_1+1)),(x5_1),(by first|rfl|(simp;done)|(simp [*];done)),(by first|rfl|(simp;done)|(simp [*];done)),H',⟨by have:=HK1.out;have:=HJ6.out;omega⟩,by repeat (first|exact Drawn0.refl _|apply Drawn0.step)⟩
        ·replace c10:=Bool.eq_false_iff.mpr c10
         subst c10
         have H1:(if 0≤x1_1 then (if x1_1 < (a0.size:Int) then (if (bt a0 x1_1)=35 then (sawmillref06_skip.l0 kj6 a0 (wrap64 (x1_1+1)) true) else (some x1_1)) else (none)) else (none))=some r:=by rw [if_neg (show ¬ (false=true) by decide)] at H;exact H
         clear H
         have H:=H1
         clear H1
         by_cases c11:0≤x1_1
         ·rw [if_pos c11] at H
          have c11b0:decide (0≤x1_1)=true:=decide_eq_true c11
          clear c11
          by_cases c12:x1_1 < (a0.size:Int)
          ·rw [if_pos c12] at H
           have c12b0:decide (x1_1 < (a0.size:Int))=true:=decide_eq_true c12
           clear c12
           by_cases c14:(bt a0 x1_1)=35
           ·rw [if_pos c14] at H
            have c14b0:((bt a0 x1_1) == 35)=true:=beq_iff_eq.mpr c14
            have c14b1:((bt a0 x1_1) != 35)=false:=bne_eq_false_iff_eq.mpr c14
            clear c14
            have H':=Aside0.mk H
            clear H
            have p13:0≤(x1_1:Int):=of_decide_eq_true (by first|(with_reducible assumption)|assumption)
            have q13:x1_1 < (a0.size:Int):=of_decide_eq_true (by first|(with_reducible assumption)|assumption)
            have hx13:=qcI a0 x1_1
            replace p13:=eq_true p13
            replace q13:=eq_true q13
            go_wp2
            go_roundg kj6
            case measure=>have:=HK1.out;have:=HJ6.out;omega
            case rel=>exact ⟨(wrap64 (x1_1+1)),(true),(by first|rfl|(simp;done)|(simp [*];done)),(by first|rfl|(simp;done)|(simp [*];done)),H',⟨by have:=HK1.out;have:=HJ6.out;omega⟩,by repeat (first|exact Drawn0.refl _|apply Drawn0.step)⟩
           ·rw [if_neg c14] at H
            have c14b0:((bt a0 x1_1) == 35)=false:=beq_eq_false_iff_ne.mpr c14
            have c14b1:((bt a0 x1_1) != 35)=true:=bne_iff_ne.mpr c14
            obtain rfl:=Option.some.inj H
            have p13:0≤(x1_1:Int):=of_decide_eq_true (by first|(with_reducible assumption)|assumption)
            have q13:x1_1 < (a0.size:Int):=of_decide_eq_true (by first|(with_reducible assumption)|assumption)
            have hx13:=qcI a0 x1_1
            replace p13:=eq_true p13
            replace q13:=eq_true q13
            go_wp2
            go_ret
            exact ⟨by first|rfl|(simp;done)|(simp [*];done),by repeat (first|exact Drawn0.refl _|apply Drawn0.step)⟩
          ·rw [if_neg c12] at H
           exact absurd H (by simp)
         ·rw [if_neg c11] at H
          exact absurd H (by simp)
    ·rw [if_neg c4] at H
     exact absurd H (by simp)
   ·rw [if_neg c3] at H
    have c3b0:decide (x1_1 < (a0.size:Int))=false:=decide_eq_false c3
    clear c3
    obtain rfl:=Option.some.inj H
    go_wp2
    go_ret
    exact ⟨by first|rfl|(simp;done)|(simp [*];done),by repeat (first|exact Drawn0.refl _|apply Drawn0.step)⟩
end Go.Proofs.YtehdmplngmbnnaaDoor.P
namespace Go.Proofs.YtehdmplngmbnnaaDoor.P
open Go.RowKit Go.Proofs.YtehdmplngmbnnaaDoorW.PrintWords Go.Proofs.YtehdmplngmbnnaaDoorW.PrintLast Go.Proofs.YtehdmplngmbnnaaDoorW.PrintMore
attribute [local go_sem] qbV qbW qcC qcD qbQ qbR qbX qbY
attribute [local go_sem] qbL
set_option linter.unusedVariables false
set_option linter.unusedSimpArgs false
mutual
def sawmillref06_Scan.l0:Nat→ByteArray→List (S68)→Int→Option ((List (S68)) × Int × Int)
 | 0,_,_,_=>none
 | k+1,x0,x5,x6=>if x6 < (x0.size:Int) then (if 0≤x6 then ((sawmillref06_Digit.f (bt x0 x6)).bind fun t106=>(if t106=true then (sawmillref06_Scan.l1 k x0 x5 x6 x6 0 (⟨#[]⟩:ByteArray) 0 x6) else ((sawmillref06_Letter.f (bt x0 x6)).bind fun t114=>(if t114=true then (sawmillref06_Scan.l2 k x0 x5 x6 x6 0 (⟨#[]⟩:ByteArray) 0 x6) else (if x6≤(x0.size:Int) then ((sawmillref06_mark.f k (x0.extract (x6:Int).toNat x0.size)).bind fun t124=>(if t124.toList=([]:List UInt8) then (some (([]:List (S68)),5,x6)) else (if x6≤(wrap64 (x6+(t124.size:Int))) then (if (wrap64 (x6+(t124.size:Int)))≤(x0.size:Int) then (if x5.length < 3518437208883 then ((sawmillref06_skip.f k x0 (wrap64 (x6+(t124.size:Int)))).bind fun t128=>(sawmillref06_Scan.l0 k x0 (x5++[(⟨3,x0.extract (x6:Int).toNat ((wrap64 (x6+(t124.size:Int))):Int).toNat,0,x6⟩:S68)]) t128)) else (none)) else (none)) else (none)))) else (none)))))) else (none)) else (if x5.length < 3518437208883 then (some ((x5++[(⟨0,(⟨#[]⟩:ByteArray),0,(x0.size:Int)⟩:S68)]),0,0)) else (none))
def sawmillref06_Scan.j2:Nat→ByteArray→List (S68)→Int→Int→Int→ByteArray→Int→Int→Option ((List (S68)) × Int × Int)
 | 0,_,_,_,_,_,_,_,_=>none
 | k+1,x0,x5,x6,x8,x106000,x106001,x106002,x106003=>if 0≤x6 then (if x6≤x8 then (if x8≤(x0.size:Int) then ((sawmillref06_number.f k (x0.extract (x6:Int).toNat (x8:Int).toNat)).bind fun bt108=>(if bt108.2=0 then (if x5.length < 3518437208883 then ((sawmillref06_skip.f k x0 x8).bind fun t113=>(sawmillref06_Scan.l0 k x0 (x5++[(⟨2,x0.extract (x6:Int).toNat (x8:Int).toNat,bt108.1,x106003⟩:S68)]) t113)) else (none)) else (some (([]:List (S68)),bt108.2,x6)))) else (none)) else (none)) else (none)
def sawmillref06_Scan.l1:Nat→ByteArray→List (S68)→Int→Int→Int→ByteArray→Int→Int→Option ((List (S68)) × Int × Int)
 | 0,_,_,_,_,_,_,_,_=>none
 | k+1,x0,x5,x6,x8,x106000,x106001,x106002,x106003=>if x8 < (x0.size:Int) then (if 0≤x8 then ((sawmillref06_Digit.f (bt x0 x8)).bind fun t107=>(if t107=true then (sawmillref06_Scan.l1 k x0 x5 x6 (wrap64 (x8+1)) x106000 x106001 x106002 x106003) else (sawmillref06_Scan.j2 k x0 x5 x6 x8 x106000 x106001 x106002 x106003))) else (none)) else (sawmillref06_Scan.j2 k x0 x5 x6 x8 x106000 x106001 x106002 x106003)
def sawmillref06_Scan.l2:Nat→ByteArray→List (S68)→Int→Int→Int→ByteArray→Int→Int→Option ((List (S68)) × Int × Int)
 | 0,_,_,_,_,_,_,_,_=>none
 | k+1,x0,x5,x6,x8,x106000,x106001,x106002,x106003=>if x8 < (x0.size:Int) then (if 0≤x8 then ((sawmillref06_Letter.f (bt x0 x8)).bind fun t115=>(if t115=true then (sawmillref06_Scan.l2 k x0 x5 x6 (wrap64 (x8+1)) x106000 x106001 x106002 x106003) else (if (wrap64 (x8 - x6)) > 16 then (some (([]:List (S68)),6,x6)) else (if 0≤x6 then (if x6≤x8 then (if x8≤(x0.size:Int) then (if x5.length < 3518437208883 then ((sawmillref06_skip.f k x0 x8).bind fun t119=>(sawmillref06_Scan.l0 k x0 (x5++[(⟨1,x0.extract (x6:Int).toNat (x8:Int).toNat,x106002,x106003⟩:S68)]) t119)) else (none)) else (none)) else (none)) else (none))))) else (none)) else (if (wrap64 (x8 - x6)) > 16 then (some (([]:List (S68)),6,x6)) else (if 0≤x6 then (if x6≤x8 then (if x8≤(x0.size:Int) then (if x5.length < 3518437208883 then ((sawmillref06_skip.f k x0 x8).bind fun t123=>(sawmillref06_Scan.l0 k x0 (x5++[(⟨1,x0.extract (x6:Int).toNat (x8:Int).toNat,x106002,x106003⟩:S68)]) t123)) else (none)) else (none)) else (none)) else (none)))
end
def sawmillref06_Scan.f (k:Nat) (a0:ByteArray):Option ((List (S68)) × Int × Int):=if (a0.size:Int) > 8000 then (some (([]:List (S68)),4,0)) else ((sawmillref06_skip.f k a0 0).bind fun t101=>(sawmillref06_Scan.l0 k a0 ([]:List (S68)) t101))
set_option maxHeartbeats 8000000 in
set_option maxRecDepth 100000 in
theorem sawmillref06_Scan.calls (k:Nat) (a0:ByteArray) (r1:List (S68)) (r2:Int) (r3:Int) (w:World) (h:sawmillref06_Scan.f k a0=some (r1,r2,r3)) :
  Calls Tryd.prog 41 #[.string a0] w fun e w'=>∃ v0_:Value,e=.returned (.tuple #[v0_,.int .i64 r2,.int .i64 r3])∧Kd.R k68 68 w' w.heap.size (fun _=>True) v0_ r1∧Below w.heap.size w w':=by
 have hu68:=Tryd.underlying68
 have HB:=Aside0.mk (Below.refl w.heap.size w)
 have H:(if (a0.size:Int) > 8000 then (some (([]:List (S68)),4,0)) else ((sawmillref06_skip.f k a0 0).bind fun t101=>(sawmillref06_Scan.l0 k a0 ([]:List (S68)) t101)))=some (r1,r2,r3):=h
 clear h
 by_cases c2:(a0.size:Int) > 8000
 ·rw [if_pos c2] at H
  have c2b0:decide (8000 < (a0.size:Int))=true:=decide_eq_true c2
  have c2b1:decide (8000 < a0.size)=true:=decide_eq_true (by omega)
  clear c2
  simp only [Option.some.injEq,Prod.mk.injEq] at H
  obtain ⟨rfl,rfl,rfl⟩:=H
  go_enter Tryd.func41,Tryd.ntmps41
  go_wp2
  go_ret3
  exact ⟨_,by first|rfl|(simp [qaL,qaM]<;>rfl)|(simp [*,qaL,qaM]<;>rfl),by first|exact Kd.R_nil _ _ _ _ _|exact Kd.N_nil _ _ _ _ _|exact Kd.V_nil _ _ _ _ _|exact Kd.Q_nil _ _ _ _ _|exact Kd.S_nil _ _ _ _ _,by repeat (first|(with_reducible first|exact HB.out|apply qaB|apply qaA|apply qaC)|exact HB.out)⟩
 ·rw [if_neg c2] at H
  have c2b0:decide (8000 < (a0.size:Int))=false:=decide_eq_false c2
  have c2b1:decide (8000 < a0.size)=false:=decide_eq_false (by omega)
  clear c2
  replace H:=Option.bind_eq_some_iff.mp H
  obtain ⟨t101,A30,H⟩:=H
  replace H:(sawmillref06_Scan.l0 k a0 ([]:List (S68)) t101)=some (r1,r2,r3):=H
  have A3:=Aside0.mk A30
  clear A30
  have H':=Aside0.mk H
  clear H
  go_enter Tryd.func41,Tryd.ntmps41
  go_wp2_with (first|((with_reducible refine qaO (f:=52) rfl ?_);refine qbG (some 16) rfl rfl Tryd.func52 (by kernel_rfl) rfl #[.string a0,.int .i64 0] rfl (by (try simp only [List.map_toArray,List.map_cons,List.map_nil]);first|done|rfl|(simp only [List.length_drop,List.length_take];rfl)) ?_;(with_reducible refine (sawmillref06_skip.calls k a0 0 t101 _ A3.out).mono ?_);rintro e w' ⟨rfl,⟨nd,rfl⟩⟩;refine ⟨_,rfl,?_⟩))
  go_loopg [5,6] k (fun kq v5 v6 w'=>∃ (x5_1:List (S68)) (x6_1:Int),v6=.int .i64 x6_1∧Aside0 (sawmillref06_Scan.l0 kq a0 x5_1 x6_1=some (r1,r2,r3))∧Aside0 (kq≤k)∧Aside0 (Kd.R k68 68 w' w.heap.size (fun _=>True) v5 x5_1)∧Aside0 (Below w.heap.size w w'))
  case atStart=>exact ⟨(([]:List (S68))),(t101),(by first|rfl|(simp;done)|(simp [*];done)),H',⟨Nat.le_refl _⟩,⟨by first|exact Kd.R_nil _ _ _ _ _|exact Kd.N_nil _ _ _ _ _|exact Kd.V_nil _ _ _ _ _|exact Kd.Q_nil _ _ _ _ _|exact Kd.S_nil _ _ _ _ _⟩,⟨by repeat (first|(with_reducible first|exact HB.out|apply qaB|apply qaA|apply qaC)|exact HB.out)⟩⟩
  case round =>
   clear H'
   try clear c2
   try clear c2b0
   try clear c2b1
   try clear p2
   obtain ⟨x5_1,x6_1,rfl,HA,HK1,HO_5,HB⟩:=hrel
   cases gk with
   | zero=>exact absurd HA.out (by simp [sawmillref06_Scan.l0])
   | succ k1 =>
    have H:=HA.out
    clear HA
    simp only [sawmillref06_Scan.l0] at H
    by_cases c4:x6_1 < (a0.size:Int)
    ·rw [if_pos c4] at H
     have c4b0:decide (x6_1 < (a0.size:Int))=true:=decide_eq_true c4
     clear c4
     by_cases c5:0≤x6_1
     ·rw [if_pos c5] at H
      have c5b0:decide (0≤x6_1)=true:=decide_eq_true c5
      clear c5
      replace H:=Option.bind_eq_some_iff.mp H
      obtain ⟨t106,A70,H⟩:=H
      replace H:(if t106=true then (sawmillref06_Scan.l1 k1 a0 x5_1 x6_1 x6_1 0 (⟨#[]⟩:ByteArray) 0 x6_1) else ((sawmillref06_Letter.f (bt a0 x6_1)).bind fun t114=>(if t114=true then (sawmillref06_Scan.l2 k1 a0 x5_1 x6_1 x6_1 0 (⟨#[]⟩:ByteArray) 0 x6_1) else (if x6_1≤(a0.size:Int) then ((sawmillref06_mark.f k1 (a0.extract (x6_1:Int).toNat a0.size)).bind fun t124=>(if t124.toList=([]:List UInt8) then (some (([]:List (S68)),5,x6_1)) else (if x6_1≤(wrap64 (x6_1+(t124.size:Int))) then (if (wrap64 (x6_1+(t124.size:Int)))≤(a0.size:Int) then (if x5_1.length < 3518437208883 then ((sawmillref06_skip.f k1 a0 (wrap64 (x6_1+(t124.size:Int)))).bind fun t128=>(sawmillref06_Scan.l0 k1 a0 (x5_1++[(⟨3,a0.extract (x6_1:Int).toNat ((wrap64 (x6_1+(t124.size:Int))):Int).toNat,0,x6_1⟩:S68)]) t128)) else (none)) else (none)) else (none)))) else (none)))))=some (r1,r2,r3):=H
      have A7:=Aside0.mk A70
      clear A70
      by_cases c8:t106=true
      ·subst c8
       have H1:(sawmillref06_Scan.l1 k1 a0 x5_1 x6_1 x6_1 0 (⟨#[]⟩:ByteArray) 0 x6_1)=some (r1,r2,r3):=by rw [if_pos rfl] at H;exact H
       clear H
       have H:=H1
       clear H1
       have HC9:=Aside0.mk H
       clear H
       go_upto_block 3 with (first|((with_reducible refine qbE (N:=7) rfl ?_);refine qbC ?hg (N:=7) ?hd (cs:=#[.int .i64 0,.string (⟨#[]⟩:ByteArray),.int .i64 0,.int .i64 0]) (t:=68) ?hr ?_;(case hd=>rfl);(case hg=>rfl);(case hr=>first|(go_simp;done)|(go_simp;rfl));intro gb105 hg w10 hbox hb;have n0_:=Aside0.mk (Kd.R_below (Kd.R_elderB (by (with_reducible repeat (first|apply Kd.R_alloc|apply Kd.R_drewN|apply Kd.R_drew));exact HO_5.out) gb105 (Nat.le_of_eq hg.symm)) hb);have n1_:=Aside0.mk (qaN (by repeat (first|(with_reducible first|exact HB.out|apply qaB|apply qaA|apply qaC)|exact HB.out)) hb);have n2_:=Aside0.mk (hbox);have n3_:=Aside0.mk ((by rw [hg];exact (qaK (by repeat (first|(with_reducible first|exact HB.out|apply qaB|apply qaA|apply qaC)|exact HB.out))):w.heap.size≤gb105));have n4_:=Aside0.mk ((by rw [hg];exact (qaK (by repeat (first|(with_reducible first|exact HB.out|apply qaB|apply qaA|apply qaC)|exact HB.out))):w.heap.size≤gb105));clear HO_5;clear HB;have HO_5:=n0_;have HB:=n1_;have BK105:=n2_;have GW105:=n3_;have GE105:=n4_;clear n0_ n1_ n2_ n3_ n4_;clear hb hbox hg;have hcz11_0:w10.cell? ⟨gb105,0,none⟩=some (.int .i64 0):=(qaE BK105.out 0).trans rfl;have hcz11_1:w10.cell? ⟨gb105,1,none⟩=some (.string (⟨#[]⟩:ByteArray)):=(qaE BK105.out 1).trans rfl;have hcz11_2:w10.cell? ⟨gb105,2,none⟩=some (.int .i64 0):=(qaE BK105.out 2).trans rfl;have hcz11_3:w10.cell? ⟨gb105,3,none⟩=some (.int .i64 0):=(qaE BK105.out 3).trans rfl;have hfz11_0:=qaD BK105.out 0;have hfz11_1:=qaD BK105.out 1;have hfz11_2:=qaD BK105.out 2;have hfz11_3:=qaD BK105.out 3;have p6:0≤(x6_1:Int):=of_decide_eq_true (by first|(with_reducible assumption)|assumption);have q6:x6_1 < (a0.size:Int):=of_decide_eq_true (by first|(with_reducible assumption)|assumption);have hx6:=qcI a0 x6_1;replace p6:=eq_true p6;replace q6:=eq_true q6)|((with_reducible refine qaO (f:=53) rfl ?_);refine qbG (some 40) rfl rfl Tryd.func53 (by kernel_rfl) rfl #[.int .u8 (bt a0 x6_1)] rfl (by (try simp only [List.map_toArray,List.map_cons,List.map_nil]);first|done|rfl|(simp only [List.length_drop,List.length_take];rfl)) ?_;(with_reducible refine (sawmillref06_Digit.calls (bt a0 x6_1) true _ A7.out).mono ?_);rintro e w' ⟨rfl,⟨nd,rfl⟩⟩;refine ⟨_,rfl,?_⟩))
       (try simp only [Act.put,List.setIfInBounds_toArray,List.set_cons_zero,List.set_cons_succ])
       go_cut [8] (fun v8 wc=>∃ (kq:Nat) (x8_8:Int),v8=.int .i64 x8_8∧Aside0 (sawmillref06_Scan.j2 kq a0 x5_1 x6_1 x8_8 0 (⟨#[]⟩:ByteArray) 0 x6_1=some (r1,r2,r3))∧Aside0 (kq≤k1)∧Aside0 (Kd.R k68 68 wc w.heap.size (fun k_=>k_ ≠ gb105) u5 x5_1)∧Aside0 (wc.heap[gb105]?=some (.cells #[.int .i64 0,.string (⟨#[]⟩:ByteArray),.int .i64 0,.int .i64 x6_1] 68 (0,0)))∧Aside0 (Below w.heap.size w wc))
       case first =>
        have H:=HC9.out
        clear HC9
        have H':=Aside0.mk H
        clear H
        go_wp2
        go_loopg [8] k1 (fun kq v8 w'=>∃ (x8_2:Int),v8=.int .i64 x8_2∧Aside0 (sawmillref06_Scan.l1 kq a0 x5_1 x6_1 x8_2 0 (⟨#[]⟩:ByteArray) 0 x6_1=some (r1,r2,r3))∧Aside0 (kq≤k1)∧Aside0 (Kd.R k68 68 w' w.heap.size (fun k_=>k_ ≠ gb105) u5 x5_1)∧Aside0 (w'.heap[gb105]?=some (.cells #[.int .i64 0,.string (⟨#[]⟩:ByteArray),.int .i64 0,.int .i64 x6_1] 68 (0,0)))∧Aside0 (Below w.heap.size w w'))
        case atStart=>exact ⟨(x6_1),(by first|rfl|(simp;done)|(simp [*];done)),H',⟨Nat.le_refl _⟩,⟨by (with_reducible repeat (first|apply Kd.R_alloc|apply Kd.R_drewN|apply Kd.R_drew));exact Kd.R_mono (Kd.R_far (p:=⟨gb105,3,none⟩) (Kd.R_far (p:=⟨gb105,2,none⟩) (Kd.R_far (p:=⟨gb105,1,none⟩) (Kd.R_far (p:=⟨gb105,0,none⟩) (Kd.R_mono HO_5.out (fun k_ hk=>(⟨hk,hk.2⟩:_∧k_ ≠ gb105))) (fun _ hk=>hk.2) (.int .i64 0)) (fun _ hk=>hk.2) (.string (⟨#[]⟩:ByteArray))) (fun _ hk=>hk.2) (.int .i64 0)) (fun _ hk=>hk.2) (.int .i64 x6_1)) (fun _ hk=>hk.1.2)⟩,⟨by (with_reducible repeat (first|refine qaH ?_ _|refine qaI ?_|refine qaG ?_ _));refine qaR (cs:=#[.int .i64 0,.string (⟨#[]⟩:ByteArray),.int .i64 0,.int .i64 0]) ?_ 3 _ rfl;(with_reducible repeat (first|refine qaH ?_ _|refine qaI ?_|refine qaG ?_ _));refine qaR (cs:=#[.int .i64 0,.string (⟨#[]⟩:ByteArray),.int .i64 0,.int .i64 0]) ?_ 2 _ rfl;(with_reducible repeat (first|refine qaH ?_ _|refine qaI ?_|refine qaG ?_ _));refine qaR (cs:=#[.int .i64 0,.string (⟨#[]⟩:ByteArray),.int .i64 0,.int .i64 0]) ?_ 1 _ rfl;(with_reducible repeat (first|refine qaH ?_ _|refine qaI ?_|refine qaG ?_ _));refine qaR (cs:=#[.int .i64 0,.string (⟨#[]⟩:ByteArray),.int .i64 0,.int .i64 0]) ?_ 0 _ rfl;(with_reducible repeat (first|refine qaH ?_ _|refine qaI ?_|refine qaG ?_ _));exact BK105.out⟩,⟨by repeat (first|(with_reducible first|exact HB.out|apply qaB|apply qaA|apply qaC|refine qaF ?_ GE105.out)|exact HB.out)⟩⟩
        case round =>
         clear H'
         try clear c2
         try clear c2b0
         try clear c2b1
         try clear p2
         try clear c4
         try clear c4b0
         try clear c5
         try clear c5b0
         try clear p6
         try clear q6
         try clear hx6
         try clear c8
         try clear hcz11_0
         try clear hcz11_1
         try clear hcz11_2
         try clear hcz11_3
         try clear hfz11_0
         try clear hfz11_1
         try clear hfz11_2
         try clear hfz11_3
         try clear p2
         try clear p6
         try clear q6
         obtain ⟨x8_2,rfl,HA,HK2,HO_5,BK105,HB⟩:=hrel
         cases gk with
         | zero=>exact absurd HA.out (by simp [sawmillref06_Scan.l1])
         | succ k2 =>
          have H:=HA.out
          clear HA
          simp only [sawmillref06_Scan.l1] at H
          by_cases c12:x8_2 < (a0.size:Int)
          ·rw [if_pos c12] at H
           have c12b0:decide (x8_2 < (a0.size:Int))=true:=decide_eq_true c12
           clear c12
           (first|rw [c12b0]|(simp only [qaX,qaY];rw [c12b0])|skip)
           by_cases c13:0≤x8_2
           ·rw [if_pos c13] at H
            have c13b0:decide (0≤x8_2)=true:=decide_eq_true c13
            clear c13
            replace H:=Option.bind_eq_some_iff.mp H
            obtain ⟨t107,A150,H⟩:=H
            replace H:(if t107=true then (sawmillref06_Scan.l1 k2 a0 x5_1 x6_1 (wrap64 (x8_2+1)) 0 (⟨#[]⟩:ByteArray) 0 x6_1) else (sawmillref06_Scan.j2 k2 a0 x5_1 x6_1 x8_2 0 (⟨#[]⟩:ByteArray) 0 x6_1))=some (r1,r2,r3):=H
            have A15:=Aside0.mk A150
            clear A150
            by_cases c16:t107=true
            ·subst c16
             have H1:(sawmillref06_Scan.l1 k2 a0 x5_1 x6_1 (wrap64 (x8_2+1)) 0 (⟨#[]⟩:ByteArray) 0 x6_1)=some (r1,r2,r3):=by rw [if_pos rfl] at H;exact H
             clear H
             have H:=H1
             clear H1
             have H':=Aside0.mk H
             clear H
             have p14:0≤(x8_2:Int):=of_decide_eq_true (by first|(with_reducible assumption)|assumption)
             have q14:x8_2 < (a0.size:Int):=of_decide_eq_true (by first|(with_reducible assumption)|assumption)
             have hx14:=qcI a0 x8_2
             replace p14:=eq_true p14
             replace q14:=eq_true q14
             go_wp2_with (first|(go_at_call 53;(with_reducible refine (sawmillref06_Digit.calls (bt a0 x8_2) true _ A15.out).mono ?_);rintro e w' ⟨rfl,⟨nd,rfl⟩⟩))
             go_roundg k2
             case measure=>have:=HK1.out;have:=HK2.out;omega
             case rel=>exact ⟨(wrap64 (x8_2+1)),(by first|rfl|(simp;done)|(simp [*];done)),H',⟨by have:=HK1.out;have:=HK2.out;omega⟩,⟨by (with_reducible repeat (first|apply Kd.R_alloc|apply Kd.R_drewN|apply Kd.R_drew));exact HO_5.out⟩,⟨by (with_reducible repeat (first|refine qaH ?_ _|refine qaI ?_|refine qaG ?_ _));exact BK105.out⟩,⟨by repeat (first|(with_reducible first|exact HB.out|apply qaB|apply qaA|apply qaC|refine qaF ?_ GE105.out)|exact HB.out)⟩⟩
            ·replace c16:=Bool.eq_false_iff.mpr c16
             subst c16
             have H1:(sawmillref06_Scan.j2 k2 a0 x5_1 x6_1 x8_2 0 (⟨#[]⟩:ByteArray) 0 x6_1)=some (r1,r2,r3):=by rw [if_neg (show ¬ (false=true) by decide)] at H;exact H
             clear H
             have H:=H1
             clear H1
             have H':=Aside0.mk H
             clear H
             have p14:0≤(x8_2:Int):=of_decide_eq_true (by first|(with_reducible assumption)|assumption)
             have q14:x8_2 < (a0.size:Int):=of_decide_eq_true (by first|(with_reducible assumption)|assumption)
             have hx14:=qcI a0 x8_2
             replace p14:=eq_true p14
             replace q14:=eq_true q14
             go_wp2_with (first|(go_at_call 53;(with_reducible refine (sawmillref06_Digit.calls (bt a0 x8_2) false _ A15.out).mono ?_);rintro e w' ⟨rfl,⟨nd,rfl⟩⟩))
             go_meet
             case rel=>exact ⟨_,(x8_2),(by first|rfl|(simp;done)|(simp [*];done)),H',⟨by have:=HK1.out;have:=HK2.out;first|omega|exact Nat.le_refl _⟩,⟨by (with_reducible repeat (first|apply Kd.R_alloc|apply Kd.R_drewN|apply Kd.R_drew));exact HO_5.out⟩,⟨by (with_reducible repeat (first|refine qaH ?_ _|refine qaI ?_|refine qaG ?_ _));exact BK105.out⟩,⟨by repeat (first|(with_reducible first|exact HB.out|apply qaB|apply qaA|apply qaC|refine qaF ?_ GE105.out)|exact HB.out)⟩⟩
           ·rw [if_neg c13] at H
            exact absurd H (by simp)
          ·rw [if_neg c12] at H
           have c12b0:decide (x8_2 < (a0.size:Int))=false:=decide_eq_false c12
           clear c12
           (first|rw [c12b0]|(simp only [qaX,qaY];rw [c12b0])|skip)
           have H':=Aside0.mk H
           clear H
           go_wp2
           go_meet
           case rel=>exact ⟨_,(x8_2),(by first|rfl|(simp;done)|(simp [*];done)),H',⟨by have:=HK1.out;have:=HK2.out;first|omega|exact Nat.le_refl _⟩,⟨by (with_reducible repeat (first|apply Kd.R_alloc|apply Kd.R_drewN|apply Kd.R_drew));exact HO_5.out⟩,⟨by (with_reducible repeat (first|refine qaH ?_ _|refine qaI ?_|refine qaG ?_ _));exact BK105.out⟩,⟨by repeat (first|(with_reducible first|exact HB.out|apply qaB|apply qaA|apply qaC|refine qaF ?_ GE105.out)|exact HB.out)⟩⟩
       case rest =>
        clear HC9
        try clear c1
        try clear p1
        try clear q1
        try clear hx1
        try clear c2
        try clear c2b0
        try clear c2b1
        try clear p2
        try clear c4
        try clear c4b0
        try clear c5
        try clear c5b0
        try clear p6
        try clear q6
        try clear hx6
        try clear c8
        try clear c12
        try clear c12b0
        try clear c13
        try clear c13b0
        try clear p14
        try clear q14
        try clear hx14
        try clear c16
        try clear hcz11_0
        try clear hcz11_1
        try clear hcz11_2
        try clear hcz11_3
        try clear hfz11_0
        try clear hfz11_1
        try clear hfz11_2
        try clear hfz11_3
        try clear p14
        try clear p2
        try clear p6
        try clear q14
        try clear q6
        obtain ⟨kq,x8_8,rfl,HA,HJ8,HO_5,BK105,HB⟩:=hcut
        cases kq with
        | zero=>exact absurd HA.out (by simp [sawmillref06_Scan.j2])
        | succ kj8 =>
         have H:=HA.out
         clear HA
         simp only [sawmillref06_Scan.j2] at H
         by_cases c17:0≤x6_1
         ·rw [if_pos c17] at H
          have c17b0:=eq_true c17
          have c17b1:decide (0≤x6_1)=true:=decide_eq_true c17
          clear c17
          by_cases c18:x6_1≤x8_8
          ·rw [if_pos c18] at H
           have c18b0:=eq_true c18
           have c18b1:decide (x6_1≤x8_8)=true:=decide_eq_true c18
           clear c18
           by_cases c19:x8_8≤(a0.size:Int)
           ·rw [if_pos c19] at H
            have c19b0:=eq_true c19
            have c19b1:decide (x8_8≤(a0.size:Int))=true:=decide_eq_true c19
            clear c19
            replace H:=Option.bind_eq_some_iff.mp H
            obtain ⟨⟨t108,t109⟩,A200,H⟩:=H
            replace H:(if t109=0 then (if x5_1.length < 3518437208883 then ((sawmillref06_skip.f kj8 a0 x8_8).bind fun t113=>(sawmillref06_Scan.l0 kj8 a0 (x5_1++[(⟨2,a0.extract (x6_1:Int).toNat (x8_8:Int).toNat,t108,x6_1⟩:S68)]) t113)) else (none)) else (some (([]:List (S68)),t109,x6_1)))=some (r1,r2,r3):=H
            have A20:=Aside0.mk A200
            clear A200
            by_cases c21:t109=0
            ·rw [if_pos c21] at H
             have c21b0:(t109 == 0)=true:=beq_iff_eq.mpr c21
             have c21b1:(t109 != 0)=false:=bne_eq_false_iff_eq.mpr c21
             clear c21
             have c22b0:=eq_true (of_decide_eq_true (by first|(with_reducible assumption)|assumption):0≤x6_1)
             have c23b0:=eq_true (of_decide_eq_true (by first|(with_reducible assumption)|assumption):x6_1≤x8_8)
             have c24b0:=eq_true (of_decide_eq_true (by first|(with_reducible assumption)|assumption):x8_8≤(a0.size:Int))
             by_cases c25:x5_1.length < 3518437208883
             ·rw [if_pos c25] at H
              have LMc25:=Aside0.mk c25
              clear c25
              obtain ⟨y110,hy110⟩:∃ y_:List (S68),y_=(x5_1++[(⟨2,a0.extract (x6_1:Int).toNat (x8_8:Int).toNat,t108,x6_1⟩:S68)]):=⟨_,rfl⟩
              replace H:((sawmillref06_skip.f kj8 a0 x8_8).bind fun t113=>(sawmillref06_Scan.l0 kj8 a0 y110 t113))=some (r1,r2,r3):=by first|(rw [hy110];with_reducible exact H)|(have H2_:=(Option.bind_some _ _).symm.trans H;rw [hy110];with_reducible exact H2_)|(have H2_:=(Option.bind_some _ _).symm.trans H;with_reducible exact H2_)|with_reducible exact H|(rw [hy110];exact H)|exact H
              have Ny110:=Aside0.mk hy110
              clear hy110
              replace H:=Option.bind_eq_some_iff.mp H
              obtain ⟨t113,A260,H⟩:=H
              replace H:(sawmillref06_Scan.l0 kj8 a0 y110 t113)=some (r1,r2,r3):=H
              have A26:=Aside0.mk A260
              clear A260
              have H':=Aside0.mk H
              clear H
              go_wp2_with (first|((with_reducible refine qaO (f:=54) rfl ?_);refine qbG (some 58) rfl rfl Tryd.func54 (by kernel_rfl) rfl #[.string (a0.extract (x6_1:Int).toNat (x8_8:Int).toNat)] rfl (by (try simp only [List.map_toArray,List.map_cons,List.map_nil]);first|done|rfl|(simp only [List.length_drop,List.length_take];rfl)) ?_;(with_reducible refine (sawmillref06_number.calls kj8 (a0.extract (x6_1:Int).toNat (x8_8:Int).toNat) t108 t109 _ A20.out).mono ?_);rintro e w' ⟨rfl,⟨nd,rfl⟩⟩;refine ⟨_,rfl,?_⟩;(try (rw [drewN_self wc];generalize hq_:World.drewN wc _=wc;have n0_:Aside0 (Kd.R k68 68 wc w.heap.size (fun k_=>k_ ≠ gb105) u5 x5_1):=⟨by rw [← hq_];exact (by (with_reducible repeat (first|apply Kd.R_alloc|apply Kd.R_drewN|apply Kd.R_drew));exact HO_5.out)⟩;have n1_:Aside0 (wc.heap[gb105]?=some (.cells #[.int .i64 0,.string (⟨#[]⟩:ByteArray),.int .i64 0,.int .i64 x6_1] 68 (0,0))):=⟨by rw [← hq_];exact (by (with_reducible repeat (first|refine qaH ?_ _|refine qaI ?_|refine qaG ?_ _));exact BK105.out)⟩;have n2_:Aside0 (Below w.heap.size w wc):=⟨by rw [← hq_];exact (by repeat (first|(with_reducible first|exact HB.out|apply qaB|apply qaA|apply qaC|refine qaF ?_ GE105.out)|exact HB.out))⟩;clear HO_5 BK105 HB hq_;have HO_5:=n0_;have BK105:=n1_;have HB:=n2_;clear n0_ n1_ n2_));have hcz27_0:wc.cell? ⟨gb105,0,none⟩=some (.int .i64 0):=(qaE BK105.out 0).trans rfl;have hcz27_1:wc.cell? ⟨gb105,1,none⟩=some (.string (⟨#[]⟩:ByteArray)):=(qaE BK105.out 1).trans rfl;have hcz27_2:wc.cell? ⟨gb105,2,none⟩=some (.int .i64 0):=(qaE BK105.out 2).trans rfl;have hcz27_3:wc.cell? ⟨gb105,3,none⟩=some (.int .i64 x6_1):=(qaE BK105.out 3).trans rfl;have hfz27_0:=qaD BK105.out 0;have hfz27_1:=qaD BK105.out 1;have hfz27_2:=qaD BK105.out 2;have hfz27_3:=qaD BK105.out 3)|((with_reducible refine qcG (b:=.append) (xs:=#[.tmp 96,.tmp 98]) rfl ?_);at_builtin;refine Kd.R_append k68 (w0:=w) w.heap.size rfl (.tmp 96) (.tmp 98) 54 68 (.agg #[(.int .i64 0),(.string ⟨#[]⟩),(.int .i64 0),(.int .i64 0)]) 40 rfl Tryd.underlying54 info68 rfl (by decide) (by omega) u5 x5_1 (⟨2,a0.extract (x6_1:Int).toNat (x8_8:Int).toNat,t108,x6_1⟩:S68) [.int .i64 2,.string (a0.extract (x6_1:Int).toNat (x8_8:Int).toNat),.int .i64 t108,.int .i64 x6_1] (fun k_=>k_ ≠ gb105) (fun _=>False) rfl (by first|(go_simp;done)|(go_simp;rfl)) ?aP (fun _ hk=>hk.elim) ?aF ?aO ?aB ?aS ?aL ?_;(case aP=>exact k68_mkM _ _ _ (⟨2,a0.extract (x6_1:Int).toNat (x8_8:Int).toNat,t108,x6_1⟩:S68));(case aB=>exact (by repeat (first|(with_reducible first|exact HB.out|apply qaB|apply qaA|apply qaC|refine qaF ?_ GE105.out)|exact HB.out)));(case aF=>exact (fun k_ hk=>Kd.freshB (g:=gb105) (o:=.cells #[.int .i64 2,.string (a0.extract (x6_1:Int).toNat (x8_8:Int).toNat),.int .i64 t108,.int .i64 x6_1] 68 (0,0)) (by (with_reducible repeat (first|refine qaH ?_ _|refine qaI ?_|refine qaG ?_ _));refine qaR (cs:=#[.int .i64 2,.string (⟨#[]⟩:ByteArray),.int .i64 t108,.int .i64 x6_1]) ?_ 1 _ rfl;(with_reducible repeat (first|refine qaH ?_ _|refine qaI ?_|refine qaG ?_ _));refine qaR (cs:=#[.int .i64 2,.string (⟨#[]⟩:ByteArray),.int .i64 0,.int .i64 x6_1]) ?_ 2 _ rfl;(with_reducible repeat (first|refine qaH ?_ _|refine qaI ?_|refine qaG ?_ _));refine qaR (cs:=#[.int .i64 0,.string (⟨#[]⟩:ByteArray),.int .i64 0,.int .i64 x6_1]) ?_ 0 _ rfl;(with_reducible repeat (first|refine qaH ?_ _|refine qaI ?_|refine qaG ?_ _));exact BK105.out) k_ hk));(case aO=>exact (by (with_reducible repeat (first|apply Kd.R_alloc|apply Kd.R_drewN|apply Kd.R_drew));exact Kd.R_mono (Kd.R_far (p:=⟨gb105,1,none⟩) (Kd.R_far (p:=⟨gb105,2,none⟩) (Kd.R_far (p:=⟨gb105,0,none⟩) (Kd.R_mono HO_5.out (fun k_ hk=>(⟨hk,hk⟩:_∧k_ ≠ gb105))) (fun _ hk=>hk.2) (.int .i64 2)) (fun _ hk=>hk.2) (.int .i64 t108)) (fun _ hk=>hk.2) (.string (a0.extract (x6_1:Int).toNat (x8_8:Int).toNat))) (fun _ hk=>hk.1)));(case aS=>exact (qaK (by repeat (first|(with_reducible first|exact HB.out|apply qaB|apply qaA|apply qaC|refine qaF ?_ GE105.out)|exact HB.out))));(case aL=>have:=LMc25.out;omega);intro v111 w28 ho hb hg hat;rw [← Ny110.out] at ho;have n0_:=Aside0.mk (blk_grown (g:=gb105) (o:=.cells #[.int .i64 2,.string (a0.extract (x6_1:Int).toNat (x8_8:Int).toNat),.int .i64 t108,.int .i64 x6_1] 68 (0,0)) (by (with_reducible repeat (first|refine qaH ?_ _|refine qaI ?_|refine qaG ?_ _));refine qaR (cs:=#[.int .i64 2,.string (⟨#[]⟩:ByteArray),.int .i64 t108,.int .i64 x6_1]) ?_ 1 _ rfl;(with_reducible repeat (first|refine qaH ?_ _|refine qaI ?_|refine qaG ?_ _));refine qaR (cs:=#[.int .i64 2,.string (⟨#[]⟩:ByteArray),.int .i64 0,.int .i64 x6_1]) ?_ 2 _ rfl;(with_reducible repeat (first|refine qaH ?_ _|refine qaI ?_|refine qaG ?_ _));refine qaR (cs:=#[.int .i64 0,.string (⟨#[]⟩:ByteArray),.int .i64 0,.int .i64 x6_1]) ?_ 0 _ rfl;(with_reducible repeat (first|refine qaH ?_ _|refine qaI ?_|refine qaG ?_ _));exact BK105.out) hg (Kd.R_away HO_5.out (fun _ hk=>hk)));have n1_:=Aside0.mk (hb);have n2_:=Aside0.mk (ho);clear BK105;clear HB;clear HO_5;have BK105:=n0_;have HB:=n1_;have HO112:=n2_;clear n0_ n1_ n2_;clear ho hb hg hat)|((with_reducible refine qaO (f:=52) rfl ?_);refine qbG (some 102) rfl rfl Tryd.func52 (by kernel_rfl) rfl #[.string a0,.int .i64 x8_8] rfl (by (try simp only [List.map_toArray,List.map_cons,List.map_nil]);first|done|rfl|(simp only [List.length_drop,List.length_take];rfl)) ?_;(with_reducible refine (sawmillref06_skip.calls kj8 a0 x8_8 t113 _ A26.out).mono ?_);rintro e w' ⟨rfl,⟨nd,rfl⟩⟩;refine ⟨_,rfl,?_⟩))
              go_roundg kj8
              case measure=>have:=HK1.out;have:=HJ8.out;omega
              case rel=>exact ⟨(y110),(t113),(by first|rfl|(simp;done)|(simp [*];done)),H',⟨by have:=HK1.out;have:=HJ8.out;omega⟩,⟨by (with_reducible repeat (first|apply Kd.R_alloc|apply Kd.R_drewN|apply Kd.R_drew));exact Kd.R_mono HO112.out (fun _ hk=>trivial)⟩,⟨by repeat (first|(with_reducible first|exact HB.out|apply qaB|apply qaA|apply qaC|refine qaF ?_ GE105.out)|exact HB.out)⟩⟩
             ·rw [if_neg c25] at H
              exact absurd H (by simp)
            ·rw [if_neg c21] at H
             have c21b0:(t109 == 0)=false:=beq_eq_false_iff_ne.mpr c21
             have c21b1:(t109 != 0)=true:=bne_iff_ne.mpr c21
             simp only [Option.some.injEq,Prod.mk.injEq] at H
             obtain ⟨rfl,rfl,rfl⟩:=H
             go_wp2_with (first|((with_reducible refine qaO (f:=54) rfl ?_);refine qbG (some 58) rfl rfl Tryd.func54 (by kernel_rfl) rfl #[.string (a0.extract (x6_1:Int).toNat (x8_8:Int).toNat)] rfl (by (try simp only [List.map_toArray,List.map_cons,List.map_nil]);first|done|rfl|(simp only [List.length_drop,List.length_take];rfl)) ?_;(with_reducible refine (sawmillref06_number.calls kj8 (a0.extract (x6_1:Int).toNat (x8_8:Int).toNat) t108 t109 _ A20.out).mono ?_);rintro e w' ⟨rfl,⟨nd,rfl⟩⟩;refine ⟨_,rfl,?_⟩))
             go_ret3
             exact ⟨_,by first|rfl|(simp [qaL,qaM]<;>rfl)|(simp [*,qaL,qaM]<;>rfl),by first|exact Kd.R_nil _ _ _ _ _|exact Kd.N_nil _ _ _ _ _|exact Kd.V_nil _ _ _ _ _|exact Kd.Q_nil _ _ _ _ _|exact Kd.S_nil _ _ _ _ _,by repeat (first|(with_reducible first|exact HB.out|apply qaB|apply qaA|apply qaC|refine qaF ?_ GE105.out)|exact HB.out)⟩
           ·rw [if_neg c19] at H
            exact absurd H (by simp)
          ·rw [if_neg c18] at H
           exact absurd H (by simp)
         ·rw [if_neg c17] at H
          exact absurd H (by simp)
      ·replace c8:=Bool.eq_false_iff.mpr c8
       subst c8
       have H1:((sawmillref06_Letter.f (bt a0 x6_1)).bind fun t114=>(if t114=true then (sawmillref06_Scan.l2 k1 a0 x5_1 x6_1 x6_1 0 (⟨#[]⟩:ByteArray) 0 x6_1) else (if x6_1≤(a0.size:Int) then ((sawmillref06_mark.f k1 (a0.extract (x6_1:Int).toNat a0.size)).bind fun t124=>(if t124.toList=([]:List UInt8) then (some (([]:List (S68)),5,x6_1)) else (if x6_1≤(wrap64 (x6_1+(t124.size:Int))) then (if (wrap64 (x6_1+(t124.size:Int)))≤(a0.size:Int) then (if x5_1.length < 3518437208883 then ((sawmillref06_skip.f k1 a0 (wrap64 (x6_1+(t124.size:Int)))).bind fun t128=>(sawmillref06_Scan.l0 k1 a0 (x5_1++[(⟨3,a0.extract (x6_1:Int).toNat ((wrap64 (x6_1+(t124.size:Int))):Int).toNat,0,x6_1⟩:S68)]) t128)) else (none)) else (none)) else (none)))) else (none))))=some (r1,r2,r3):=by rw [if_neg (show ¬ (false=true) by decide)] at H;exact H
       clear H
       have H:=H1
       clear H1
       replace H:=Option.bind_eq_some_iff.mp H
       obtain ⟨t114,A300,H⟩:=H
       replace H:(if t114=true then (sawmillref06_Scan.l2 k1 a0 x5_1 x6_1 x6_1 0 (⟨#[]⟩:ByteArray) 0 x6_1) else (if x6_1≤(a0.size:Int) then ((sawmillref06_mark.f k1 (a0.extract (x6_1:Int).toNat a0.size)).bind fun t124=>(if t124.toList=([]:List UInt8) then (some (([]:List (S68)),5,x6_1)) else (if x6_1≤(wrap64 (x6_1+(t124.size:Int))) then (if (wrap64 (x6_1+(t124.size:Int)))≤(a0.size:Int) then (if x5_1.length < 3518437208883 then ((sawmillref06_skip.f k1 a0 (wrap64 (x6_1+(t124.size:Int)))).bind fun t128=>(sawmillref06_Scan.l0 k1 a0 (x5_1++[(⟨3,a0.extract (x6_1:Int).toNat ((wrap64 (x6_1+(t124.size:Int))):Int).toNat,0,x6_1⟩:S68)]) t128)) else (none)) else (none)) else (none)))) else (none)))=some (r1,r2,r3):=H
       have A30:=Aside0.mk A300
       clear A300
       by_cases c31:t114=true
       ·subst c31
        have H1:(sawmillref06_Scan.l2 k1 a0 x5_1 x6_1 x6_1 0 (⟨#[]⟩:ByteArray) 0 x6_1)=some (r1,r2,r3):=by rw [if_pos rfl] at H;exact H
        clear H
        have H:=H1
        clear H1
        have H':=Aside0.mk H
        clear H
        go_wp2_with (first|((with_reducible refine qbE (N:=7) rfl ?_);refine qbC ?hg (N:=7) ?hd (cs:=#[.int .i64 0,.string (⟨#[]⟩:ByteArray),.int .i64 0,.int .i64 0]) (t:=68) ?hr ?_;(case hd=>rfl);(case hg=>rfl);(case hr=>first|(go_simp;done)|(go_simp;rfl));intro gb105 hg w32 hbox hb;have n0_:=Aside0.mk (Kd.R_below (Kd.R_elderB (by (with_reducible repeat (first|apply Kd.R_alloc|apply Kd.R_drewN|apply Kd.R_drew));exact HO_5.out) gb105 (Nat.le_of_eq hg.symm)) hb);have n1_:=Aside0.mk (qaN (by repeat (first|(with_reducible first|exact HB.out|apply qaB|apply qaA|apply qaC)|exact HB.out)) hb);have n2_:=Aside0.mk (hbox);have n3_:=Aside0.mk ((by rw [hg];exact (qaK (by repeat (first|(with_reducible first|exact HB.out|apply qaB|apply qaA|apply qaC)|exact HB.out))):w.heap.size≤gb105));have n4_:=Aside0.mk ((by rw [hg];exact (qaK (by repeat (first|(with_reducible first|exact HB.out|apply qaB|apply qaA|apply qaC)|exact HB.out))):w.heap.size≤gb105));clear HO_5;clear HB;have HO_5:=n0_;have HB:=n1_;have BK105:=n2_;have GW105:=n3_;have GE105:=n4_;clear n0_ n1_ n2_ n3_ n4_;clear hb hbox hg;have hcz33_0:w32.cell? ⟨gb105,0,none⟩=some (.int .i64 0):=(qaE BK105.out 0).trans rfl;have hcz33_1:w32.cell? ⟨gb105,1,none⟩=some (.string (⟨#[]⟩:ByteArray)):=(qaE BK105.out 1).trans rfl;have hcz33_2:w32.cell? ⟨gb105,2,none⟩=some (.int .i64 0):=(qaE BK105.out 2).trans rfl;have hcz33_3:w32.cell? ⟨gb105,3,none⟩=some (.int .i64 0):=(qaE BK105.out 3).trans rfl;have hfz33_0:=qaD BK105.out 0;have hfz33_1:=qaD BK105.out 1;have hfz33_2:=qaD BK105.out 2;have hfz33_3:=qaD BK105.out 3;have p6:0≤(x6_1:Int):=of_decide_eq_true (by first|(with_reducible assumption)|assumption);have q6:x6_1 < (a0.size:Int):=of_decide_eq_true (by first|(with_reducible assumption)|assumption);have hx6:=qcI a0 x6_1;replace p6:=eq_true p6;replace q6:=eq_true q6)|((with_reducible refine qaO (f:=53) rfl ?_);refine qbG (some 40) rfl rfl Tryd.func53 (by kernel_rfl) rfl #[.int .u8 (bt a0 x6_1)] rfl (by (try simp only [List.map_toArray,List.map_cons,List.map_nil]);first|done|rfl|(simp only [List.length_drop,List.length_take];rfl)) ?_;(with_reducible refine (sawmillref06_Digit.calls (bt a0 x6_1) false _ A7.out).mono ?_);rintro e w' ⟨rfl,⟨nd,rfl⟩⟩;refine ⟨_,rfl,?_⟩;have p29:0≤(x6_1:Int):=of_decide_eq_true (by first|(with_reducible assumption)|assumption);have q29:x6_1 < (a0.size:Int):=of_decide_eq_true (by first|(with_reducible assumption)|assumption);have hx29:=qcI a0 x6_1;replace p29:=eq_true p29;replace q29:=eq_true q29)|((with_reducible refine qaO (f:=55) rfl ?_);refine qbG (some 72) rfl rfl Tryd.func55 (by kernel_rfl) rfl #[.int .u8 (bt a0 x6_1)] rfl (by (try simp only [List.map_toArray,List.map_cons,List.map_nil]);first|done|rfl|(simp only [List.length_drop,List.length_take];rfl)) ?_;(with_reducible refine (sawmillref06_Letter.calls (bt a0 x6_1) true _ A30.out).mono ?_);rintro e w' ⟨rfl,⟨nd,rfl⟩⟩;refine ⟨_,rfl,?_⟩))
        go_loopg [8] k1 (fun kq v8 w'=>∃ (x8_2:Int),v8=.int .i64 x8_2∧Aside0 (sawmillref06_Scan.l2 kq a0 x5_1 x6_1 x8_2 0 (⟨#[]⟩:ByteArray) 0 x6_1=some (r1,r2,r3))∧Aside0 (kq≤k1)∧Aside0 (Kd.R k68 68 w' w.heap.size (fun k_=>k_ ≠ gb105) u5 x5_1)∧Aside0 (w'.heap[gb105]?=some (.cells #[.int .i64 0,.string (⟨#[]⟩:ByteArray),.int .i64 0,.int .i64 x6_1] 68 (0,0)))∧Aside0 (Below w.heap.size w w'))
        case atStart=>exact ⟨(x6_1),(by first|rfl|(simp;done)|(simp [*];done)),H',⟨Nat.le_refl _⟩,⟨by (with_reducible repeat (first|apply Kd.R_alloc|apply Kd.R_drewN|apply Kd.R_drew));exact Kd.R_mono (Kd.R_far (p:=⟨gb105,3,none⟩) (Kd.R_far (p:=⟨gb105,2,none⟩) (Kd.R_far (p:=⟨gb105,1,none⟩) (Kd.R_far (p:=⟨gb105,0,none⟩) (Kd.R_mono HO_5.out (fun k_ hk=>(⟨hk,hk.2⟩:_∧k_ ≠ gb105))) (fun _ hk=>hk.2) (.int .i64 0)) (fun _ hk=>hk.2) (.string (⟨#[]⟩:ByteArray))) (fun _ hk=>hk.2) (.int .i64 0)) (fun _ hk=>hk.2) (.int .i64 x6_1)) (fun _ hk=>hk.1.2)⟩,⟨by (with_reducible repeat (first|refine qaH ?_ _|refine qaI ?_|refine qaG ?_ _));refine qaR (cs:=#[.int .i64 0,.string (⟨#[]⟩:ByteArray),.int .i64 0,.int .i64 0]) ?_ 3 _ rfl;(with_reducible repeat (first|refine qaH ?_ _|refine qaI ?_|refine qaG ?_ _));refine qaR (cs:=#[.int .i64 0,.string (⟨#[]⟩:ByteArray),.int .i64 0,.int .i64 0]) ?_ 2 _ rfl;(with_reducible repeat (first|refine qaH ?_ _|refine qaI ?_|refine qaG ?_ _));refine qaR (cs:=#[.int .i64 0,.string (⟨#[]⟩:ByteArray),.int .i64 0,.int .i64 0]) ?_ 1 _ rfl;(with_reducible repeat (first|refine qaH ?_ _|refine qaI ?_|refine qaG ?_ _));refine qaR (cs:=#[.int .i64 0,.string (⟨#[]⟩:ByteArray),.int .i64 0,.int .i64 0]) ?_ 0 _ rfl;(with_reducible repeat (first|refine qaH ?_ _|refine qaI ?_|refine qaG ?_ _));exact BK105.out⟩,⟨by repeat (first|(with_reducible first|exact HB.out|apply qaB|apply qaA|apply qaC|refine qaF ?_ GE105.out)|exact HB.out)⟩⟩
        case round =>
         clear H'
         try clear c1
         try clear p1
         try clear q1
         try clear hx1
         try clear c2
         try clear c2b0
         try clear c2b1
         try clear p2
         try clear q2
         try clear hx2
         try clear c3
         try clear c4
         try clear c4b0
         try clear c5
         try clear c5b0
         try clear p6
         try clear q6
         try clear hx6
         try clear c8
         try clear c12
         try clear c12b0
         try clear c13
         try clear c13b0
         try clear p14
         try clear q14
         try clear hx14
         try clear c16
         try clear c17
         try clear c17b0
         try clear c17b1
         try clear c18
         try clear c18b0
         try clear c18b1
         try clear c19
         try clear c19b0
         try clear c19b1
         try clear c21
         try clear c21b0
         try clear c21b1
         try clear c22
         try clear c22b0
         try clear c23
         try clear c23b0
         try clear c24
         try clear c24b0
         try clear c25
         try clear p29
         try clear q29
         try clear hx29
         try clear c31
         try clear hcz11_0
         try clear hcz11_1
         try clear hcz11_2
         try clear hcz11_3
         try clear hcz27_0
         try clear hcz27_1
         try clear hcz27_2
         try clear hcz27_3
         try clear hcz33_0
         try clear hcz33_1
         try clear hcz33_2
         try clear hcz33_3
         try clear hfz11_0
         try clear hfz11_1
         try clear hfz11_2
         try clear hfz11_3
         try clear hfz27_0
         try clear hfz27_1
         try clear hfz27_2
         try clear hfz27_3
         try clear hfz33_0
         try clear hfz33_1
         try clear hfz33_2
         try clear hfz33_3
         try clear p1
         try clear p14
         try clear p2
         try clear p29
         try clear p6
         try clear q1
         try clear q14
         try clear q29
         try clear q6
         obtain ⟨x8_2,rfl,HA,HK2,HO_5,BK105,HB⟩:=hrel
         cases gk with
         | zero=>exact absurd HA.out (by simp [sawmillref06_Scan.l2])
         | succ k2 =>
          have H:=HA.out
          clear HA
          simp only [sawmillref06_Scan.l2] at H
          by_cases c34:x8_2 < (a0.size:Int)
          ·rw [if_pos c34] at H
           have c34b0:decide (x8_2 < (a0.size:Int))=true:=decide_eq_true c34
           clear c34
           by_cases c35:0≤x8_2
           ·rw [if_pos c35] at H
            have c35b0:decide (0≤x8_2)=true:=decide_eq_true c35
            clear c35
            replace H:=Option.bind_eq_some_iff.mp H
            obtain ⟨t115,A370,H⟩:=H
            replace H:(if t115=true then (sawmillref06_Scan.l2 k2 a0 x5_1 x6_1 (wrap64 (x8_2+1)) 0 (⟨#[]⟩:ByteArray) 0 x6_1) else (if (wrap64 (x8_2 - x6_1)) > 16 then (some (([]:List (S68)),6,x6_1)) else (if 0≤x6_1 then (if x6_1≤x8_2 then (if x8_2≤(a0.size:Int) then (if x5_1.length < 3518437208883 then ((sawmillref06_skip.f k2 a0 x8_2).bind fun t119=>(sawmillref06_Scan.l0 k2 a0 (x5_1++[(⟨1,a0.extract (x6_1:Int).toNat (x8_2:Int).toNat,0,x6_1⟩:S68)]) t119)) else (none)) else (none)) else (none)) else (none))))=some (r1,r2,r3):=H
            have A37:=Aside0.mk A370
            clear A370
            by_cases c38:t115=true
            ·subst c38
             have H1:(sawmillref06_Scan.l2 k2 a0 x5_1 x6_1 (wrap64 (x8_2+1)) 0 (⟨#[]⟩:ByteArray) 0 x6_1)=some (r1,r2,r3):=by rw [if_pos rfl] at H;exact H
             clear H
             have H:=H1
             clear H1
             have H':=Aside0.mk H
             clear H
             have p36:0≤(x8_2:Int):=of_decide_eq_true (by first|(with_reducible assumption)|assumption)
             have q36:x8_2 < (a0.size:Int):=of_decide_eq_true (by first|(with_reducible assumption)|assumption)
             have hx36:=qcI a0 x8_2
             replace p36:=eq_true p36
             replace q36:=eq_true q36
             go_wp2_with (first|(go_at_call 55;(with_reducible refine (sawmillref06_Letter.calls (bt a0 x8_2) true _ A37.out).mono ?_);rintro e w' ⟨rfl,⟨nd,rfl⟩⟩))
             go_roundg k2
             case measure=>have:=HK1.out;have:=HK2.out;omega
             case rel=>exact ⟨(wrap64 (x8_2+1)),(by first|rfl|(simp;done)|(simp [*];done)),H',⟨by have:=HK1.out;have:=HK2.out;omega⟩,⟨by (with_reducible repeat (first|apply Kd.R_alloc|apply Kd.R_drewN|apply Kd.R_drew));exact HO_5.out⟩,⟨by (with_reducible repeat (first|refine qaH ?_ _|refine qaI ?_|refine qaG ?_ _));exact BK105.out⟩,⟨by repeat (first|(with_reducible first|exact HB.out|apply qaB|apply qaA|apply qaC|refine qaF ?_ GE105.out)|exact HB.out)⟩⟩
            ·replace c38:=Bool.eq_false_iff.mpr c38
             subst c38
             have H1:(if (wrap64 (x8_2 - x6_1)) > 16 then (some (([]:List (S68)),6,x6_1)) else (if 0≤x6_1 then (if x6_1≤x8_2 then (if x8_2≤(a0.size:Int) then (if x5_1.length < 3518437208883 then ((sawmillref06_skip.f k2 a0 x8_2).bind fun t119=>(sawmillref06_Scan.l0 k2 a0 (x5_1++[(⟨1,a0.extract (x6_1:Int).toNat (x8_2:Int).toNat,0,x6_1⟩:S68)]) t119)) else (none)) else (none)) else (none)) else (none)))=some (r1,r2,r3):=by rw [if_neg (show ¬ (false=true) by decide)] at H;exact H
             clear H
             have H:=H1
             clear H1
             by_cases c39:(wrap64 (x8_2 - x6_1)) > 16
             ·rw [if_pos c39] at H
              have c39b0:decide (16 < (wrap64 (x8_2 - x6_1)))=true:=decide_eq_true c39
              clear c39
              simp only [Option.some.injEq,Prod.mk.injEq] at H
              obtain ⟨rfl,rfl,rfl⟩:=H
              have p36:0≤(x8_2:Int):=of_decide_eq_true (by first|(with_reducible assumption)|assumption)
              have q36:x8_2 < (a0.size:Int):=of_decide_eq_true (by first|(with_reducible assumption)|assumption)
              have hx36:=qcI a0 x8_2
              replace p36:=eq_true p36
              replace q36:=eq_true q36
              go_wp2_with (first|(go_at_call 55;(with_reducible refine (sawmillref06_Letter.calls (bt a0 x8_2) false _ A37.out).mono ?_);rintro e w' ⟨rfl,⟨nd,rfl⟩⟩))
              go_ret3
              exact ⟨_,by first|rfl|(simp [qaL,qaM]<;>rfl)|(simp [*,qaL,qaM]<;>rfl),by first|exact Kd.R_nil _ _ _ _ _|exact Kd.N_nil _ _ _ _ _|exact Kd.V_nil _ _ _ _ _|exact Kd.Q_nil _ _ _ _ _|exact Kd.S_nil _ _ _ _ _,by repeat (first|(with_reducible first|exact HB.out|apply qaB|apply qaA|apply qaC|refine qaF ?_ GE105.out)|exact HB.out)⟩
             ·rw [if_neg c39] at H
              have c39b0:decide (16 < (wrap64 (x8_2 - x6_1)))=false:=decide_eq_false c39
              clear c39
              by_cases c40:0≤x6_1
              ·rw [if_pos c40] at H
               have c40b0:=eq_true c40
               have c40b1:decide (0≤x6_1)=true:=decide_eq_true c40
               clear c40
               by_cases c41:x6_1≤x8_2
               ·rw [if_pos c41] at H
                have c41b0:=eq_true c41
                have c41b1:decide (x6_1≤x8_2)=true:=decide_eq_true c41
                clear c41
                by_cases c42:x8_2≤(a0.size:Int)
                ·rw [if_pos c42] at H
                 have c42b0:=eq_true c42
                 have c42b1:decide (x8_2≤(a0.size:Int))=true:=decide_eq_true c42
                 clear c42
                 by_cases c43:x5_1.length < 3518437208883
                 ·rw [if_pos c43] at H
                  have LMc43:=Aside0.mk c43
                  clear c43
                  obtain ⟨y116,hy116⟩:∃ y_:List (S68),y_=(x5_1++[(⟨1,a0.extract (x6_1:Int).toNat (x8_2:Int).toNat,0,x6_1⟩:S68)]):=⟨_,rfl⟩
                  replace H:((sawmillref06_skip.f k2 a0 x8_2).bind fun t119=>(sawmillref06_Scan.l0 k2 a0 y116 t119))=some (r1,r2,r3):=by first|(rw [hy116];with_reducible exact H)|(have H2_:=(Option.bind_some _ _).symm.trans H;rw [hy116];with_reducible exact H2_)|(have H2_:=(Option.bind_some _ _).symm.trans H;with_reducible exact H2_)|with_reducible exact H|(rw [hy116];exact H)|exact H
                  have Ny116:=Aside0.mk hy116
                  clear hy116
                  replace H:=Option.bind_eq_some_iff.mp H
                  obtain ⟨t119,A440,H⟩:=H
                  replace H:(sawmillref06_Scan.l0 k2 a0 y116 t119)=some (r1,r2,r3):=H
                  have A44:=Aside0.mk A440
                  clear A440
                  have H':=Aside0.mk H
                  clear H
                  have p36:0≤(x8_2:Int):=of_decide_eq_true (by first|(with_reducible assumption)|assumption)
                  have q36:x8_2 < (a0.size:Int):=of_decide_eq_true (by first|(with_reducible assumption)|assumption)
                  have hx36:=qcI a0 x8_2
                  replace p36:=eq_true p36
                  replace q36:=eq_true q36
                  go_wp2_with (first|(go_at_call 55;(with_reducible refine (sawmillref06_Letter.calls (bt a0 x8_2) false _ A37.out).mono ?_);rintro e w' ⟨rfl,⟨nd,rfl⟩⟩;(try (rw [drewN_self wr];generalize hq_:World.drewN wr _=wr;have n0_:Aside0 (Kd.R k68 68 wr w.heap.size (fun k_=>k_ ≠ gb105) u5 x5_1):=⟨by rw [← hq_];exact (by (with_reducible repeat (first|apply Kd.R_alloc|apply Kd.R_drewN|apply Kd.R_drew));exact HO_5.out)⟩;have n1_:Aside0 (wr.heap[gb105]?=some (.cells #[.int .i64 0,.string (⟨#[]⟩:ByteArray),.int .i64 0,.int .i64 x6_1] 68 (0,0))):=⟨by rw [← hq_];exact (by (with_reducible repeat (first|refine qaH ?_ _|refine qaI ?_|refine qaG ?_ _));exact BK105.out)⟩;have n2_:Aside0 (Below w.heap.size w wr):=⟨by rw [← hq_];exact (by repeat (first|(with_reducible first|exact HB.out|apply qaB|apply qaA|apply qaC|refine qaF ?_ GE105.out)|exact HB.out))⟩;clear HO_5 BK105 HB hq_;have HO_5:=n0_;have BK105:=n1_;have HB:=n2_;clear n0_ n1_ n2_));have hcz45_0:wr.cell? ⟨gb105,0,none⟩=some (.int .i64 0):=(qaE BK105.out 0).trans rfl;have hcz45_1:wr.cell? ⟨gb105,1,none⟩=some (.string (⟨#[]⟩:ByteArray)):=(qaE BK105.out 1).trans rfl;have hcz45_2:wr.cell? ⟨gb105,2,none⟩=some (.int .i64 0):=(qaE BK105.out 2).trans rfl;have hcz45_3:wr.cell? ⟨gb105,3,none⟩=some (.int .i64 x6_1):=(qaE BK105.out 3).trans rfl;have hfz45_0:=qaD BK105.out 0;have hfz45_1:=qaD BK105.out 1;have hfz45_2:=qaD BK105.out 2;have hfz45_3:=qaD BK105.out 3)|((with_reducible refine qcG (b:=.append) (xs:=#[.tmp 96,.tmp 98]) rfl ?_);at_builtin;refine Kd.R_append k68 (w0:=w) w.heap.size rfl (.tmp 96) (.tmp 98) 54 68 (.agg #[(.int .i64 0),(.string ⟨#[]⟩),(.int .i64 0),(.int .i64 0)]) 40 rfl Tryd.underlying54 info68 rfl (by decide) (by omega) u5 x5_1 (⟨1,a0.extract (x6_1:Int).toNat (x8_2:Int).toNat,0,x6_1⟩:S68) [.int .i64 1,.string (a0.extract (x6_1:Int).toNat (x8_2:Int).toNat),.int .i64 0,.int .i64 x6_1] (fun k_=>k_ ≠ gb105) (fun _=>False) rfl (by first|(go_simp;done)|(go_simp;rfl)) ?aP (fun _ hk=>hk.elim) ?aF ?aO ?aB ?aS ?aL ?_;(case aP=>exact k68_mkM _ _ _ (⟨1,a0.extract (x6_1:Int).toNat (x8_2:Int).toNat,0,x6_1⟩:S68));(case aB=>exact (by repeat (first|(with_reducible first|exact HB.out|apply qaB|apply qaA|apply qaC|refine qaF ?_ GE105.out)|exact HB.out)));(case aF=>exact (fun k_ hk=>Kd.freshB (g:=gb105) (o:=.cells #[.int .i64 1,.string (a0.extract (x6_1:Int).toNat (x8_2:Int).toNat),.int .i64 0,.int .i64 x6_1] 68 (0,0)) (by (with_reducible repeat (first|refine qaH ?_ _|refine qaI ?_|refine qaG ?_ _));refine qaR (cs:=#[.int .i64 1,.string (⟨#[]⟩:ByteArray),.int .i64 0,.int .i64 x6_1]) ?_ 1 _ rfl;(with_reducible repeat (first|refine qaH ?_ _|refine qaI ?_|refine qaG ?_ _));refine qaR (cs:=#[.int .i64 0,.string (⟨#[]⟩:ByteArray),.int .i64 0,.int .i64 x6_1]) ?_ 0 _ rfl;(with_reducible repeat (first|refine qaH ?_ _|refine qaI ?_|refine qaG ?_ _));exact BK105.out) k_ hk));(case aO=>exact (by (with_reducible repeat (first|apply Kd.R_alloc|apply Kd.R_drewN|apply Kd.R_drew));exact Kd.R_mono (Kd.R_far (p:=⟨gb105,1,none⟩) (Kd.R_far (p:=⟨gb105,0,none⟩) (Kd.R_mono HO_5.out (fun k_ hk=>(⟨hk,hk⟩:_∧k_ ≠ gb105))) (fun _ hk=>hk.2) (.int .i64 1)) (fun _ hk=>hk.2) (.string (a0.extract (x6_1:Int).toNat (x8_2:Int).toNat))) (fun _ hk=>hk.1)));(case aS=>exact (qaK (by repeat (first|(with_reducible first|exact HB.out|apply qaB|apply qaA|apply qaC|refine qaF ?_ GE105.out)|exact HB.out))));(case aL=>have:=LMc43.out;omega);intro v117 w46 ho hb hg hat;rw [← Ny116.out] at ho;have n0_:=Aside0.mk (blk_grown (g:=gb105) (o:=.cells #[.int .i64 1,.string (a0.extract (x6_1:Int).toNat (x8_2:Int).toNat),.int .i64 0,.int .i64 x6_1] 68 (0,0)) (by (with_reducible repeat (first|refine qaH ?_ _|refine qaI ?_|refine qaG ?_ _));refine qaR (cs:=#[.int .i64 1,.string (⟨#[]⟩:ByteArray),.int .i64 0,.int .i64 x6_1]) ?_ 1 _ rfl;(with_reducible repeat (first|refine qaH ?_ _|refine qaI ?_|refine qaG ?_ _));refine qaR (cs:=#[.int .i64 0,.string (⟨#[]⟩:ByteArray),.int .i64 0,.int .i64 x6_1]) ?_ 0 _ rfl;(with_reducible repeat (first|refine qaH ?_ _|refine qaI ?_|refine qaG ?_ _));exact BK105.out) hg (Kd.R_away HO_5.out (fun _ hk=>hk)));have n1_:=Aside0.mk (hb);have n2_:=Aside0.mk (ho);clear BK105;clear HB;clear HO_5;have BK105:=n0_;have HB:=n1_;have HO118:=n2_;clear n0_ n1_ n2_;clear ho hb hg hat)|((with_reducible refine qaO (f:=52) rfl ?_);refine qbG (some 102) rfl rfl Tryd.func52 (by kernel_rfl) rfl #[.string a0,.int .i64 x8_2] rfl (by (try simp only [List.map_toArray,List.map_cons,List.map_nil]);first|done|rfl|(simp only [List.length_drop,List.length_take];rfl)) ?_;(with_reducible refine (sawmillref06_skip.calls k2 a0 x8_2 t119 _ A44.out).mono ?_);rintro e w' ⟨rfl,⟨nd,rfl⟩⟩;refine ⟨_,rfl,?_⟩))
                  go_roundg k2
                  case measure=>have:=HK1.out;have:=HK2.out;omega
                  case rel=>exact ⟨(y116),(t119),(by first|rfl|(simp;done)|(simp [*];done)),H',⟨by have:=HK1.out;have:=HK2.out;omega⟩,⟨by (with_reducible repeat (first|apply Kd.R_alloc|apply Kd.R_drewN|apply Kd.R_drew));exact Kd.R_mono HO118.out (fun _ hk=>trivial)⟩,⟨by repeat (first|(with_reducible first|exact HB.out|apply qaB|apply qaA|apply qaC|refine qaF ?_ GE105.out)|exact HB.out)⟩⟩
                 ·rw [if_neg c43] at H
                  exact absurd H (by simp)
                ·rw [if_neg c42] at H
                 exact absurd H (by simp)
               ·rw [if_neg c41] at H
                exact absurd H (by simp)
              ·rw [if_neg c40] at H
               exact absurd H (by simp)
           ·rw [if_neg c35] at H
            exact absurd H (by simp)
          ·rw [if_neg c34] at H
           have c34b0:decide (x8_2 < (a0.size:Int))=false:=decide_eq_false c34
           clear c34
           by_cases c47:(wrap64 (x8_2 - x6_1)) > 16
           ·rw [if_pos c47] at H
            have c47b0:decide (16 < (wrap64 (x8_2 - x6_1)))=true:=decide_eq_true c47
            clear c47
            simp only [Option.some.injEq,Prod.mk.injEq] at H
            obtain ⟨rfl,rfl,rfl⟩:=H
            go_wp2
            go_ret3
            exact ⟨_,by first|rfl|(simp [qaL,qaM]<;>rfl)|(simp [*,qaL,qaM]<;>rfl),by first|exact Kd.R_nil _ _ _ _ _|exact Kd.N_nil _ _ _ _ _|exact Kd.V_nil _ _ _ _ _|exact Kd.Q_nil _ _ _ _ _|exact Kd.S_nil _ _ _ _ _,by repeat (first|(with_reducible first|exact HB.out|apply qaB|apply qaA|apply qaC|refine qaF ?_ GE105.out)|exact HB.out)⟩
           ·rw [if_neg c47] at H
            have c47b0:decide (16 < (wrap64 (x8_2 - x6_1)))=false:=decide_eq_false c47
            clear c47
            by_cases c48:0≤x6_1
            ·rw [if_pos c48] at H
             have c48b0:=eq_true c48
             have c48b1:decide (0≤x6_1)=true:=decide_eq_true c48
             clear c48
             by_cases c49:x6_1≤x8_2
             ·rw [if_pos c49] at H
              have c49b0:=eq_true c49
              have c49b1:decide (x6_1≤x8_2)=true:=decide_eq_true c49
              clear c49
              by_cases c50:x8_2≤(a0.size:Int)
              ·rw [if_pos c50] at H
               have c50b0:=eq_true c50
               have c50b1:decide (x8_2≤(a0.size:Int))=true:=decide_eq_true c50
               clear c50
               by_cases c51:x5_1.length < 3518437208883
               ·rw [if_pos c51] at H
                have LMc51:=Aside0.mk c51
                clear c51
                obtain ⟨y120,hy120⟩:∃ y_:List (S68),y_=(x5_1++[(⟨1,a0.extract (x6_1:Int).toNat (x8_2:Int).toNat,0,x6_1⟩:S68)]):=⟨_,rfl⟩
                replace H:((sawmillref06_skip.f k2 a0 x8_2).bind fun t123=>(sawmillref06_Scan.l0 k2 a0 y120 t123))=some (r1,r2,r3):=by first|(rw [hy120];with_reducible exact H)|(have H2_:=(Option.bind_some _ _).symm.trans H;rw [hy120];with_reducible exact H2_)|(have H2_:=(Option.bind_some _ _).symm.trans H;with_reducible exact H2_)|with_reducible exact H|(rw [hy120];exact H)|exact H
                have Ny120:=Aside0.mk hy120
                clear hy120
                replace H:=Option.bind_eq_some_iff.mp H
                obtain ⟨t123,A520,H⟩:=H
                replace H:(sawmillref06_Scan.l0 k2 a0 y120 t123)=some (r1,r2,r3):=H
                have A52:=Aside0.mk A520
                clear A520
                have H':=Aside0.mk H
                clear H
                have hcz53_0:wr.cell? ⟨gb105,0,none⟩=some (.int .i64 0):=(qaE BK105.out 0).trans rfl
                have hcz53_1:wr.cell? ⟨gb105,1,none⟩=some (.string (⟨#[]⟩:ByteArray)):=(qaE BK105.out 1).trans rfl
                have hcz53_2:wr.cell? ⟨gb105,2,none⟩=some (.int .i64 0):=(qaE BK105.out 2).trans rfl
                have hcz53_3:wr.cell? ⟨gb105,3,none⟩=some (.int .i64 x6_1):=(qaE BK105.out 3).trans rfl
                have hfz53_0:=qaD BK105.out 0
                have hfz53_1:=qaD BK105.out 1
                have hfz53_2:=qaD BK105.out 2
                have hfz53_3:=qaD BK105.out 3
                go_wp2_with (first|((with_reducible refine qcG (b:=.append) (xs:=#[.tmp 96,.tmp 98]) rfl ?_);at_builtin;refine Kd.R_append k68 (w0:=w) w.heap.size rfl (.tmp 96) (.tmp 98) 54 68 (.agg #[(.int .i64 0),(.string ⟨#[]⟩),(.int .i64 0),(.int .i64 0)]) 40 rfl Tryd.underlying54 info68 rfl (by decide) (by omega) u5 x5_1 (⟨1,a0.extract (x6_1:Int).toNat (x8_2:Int).toNat,0,x6_1⟩:S68) [.int .i64 1,.string (a0.extract (x6_1:Int).toNat (x8_2:Int).toNat),.int .i64 0,.int .i64 x6_1] (fun k_=>k_ ≠ gb105) (fun _=>False) rfl (by first|(go_simp;done)|(go_simp;rfl)) ?aP (fun _ hk=>hk.elim) ?aF ?aO ?aB ?aS ?aL ?_;(case aP=>exact k68_mkM _ _ _ (⟨1,a0.extract (x6_1:Int).toNat (x8_2:Int).toNat,0,x6_1⟩:S68));(case aB=>exact (by repeat (first|(with_reducible first|exact HB.out|apply qaB|apply qaA|apply qaC|refine qaF ?_ GE105.out)|exact HB.out)));(case aF=>exact (fun k_ hk=>Kd.freshB (g:=gb105) (o:=.cells #[.int .i64 1,.string (a0.extract (x6_1:Int).toNat (x8_2:Int).toNat),.int .i64 0,.int .i64 x6_1] 68 (0,0)) (by (with_reducible repeat (first|refine qaH ?_ _|refine qaI ?_|refine qaG ?_ _));refine qaR (cs:=#[.int .i64 1,.string (⟨#[]⟩:ByteArray),.int .i64 0,.int .i64 x6_1]) ?_ 1 _ rfl;(with_reducible repeat (first|refine qaH ?_ _|refine qaI ?_|refine qaG ?_ _));refine qaR (cs:=#[.int .i64 0,.string (⟨#[]⟩:ByteArray),.int .i64 0,.int .i64 x6_1]) ?_ 0 _ rfl;(with_reducible repeat (first|refine qaH ?_ _|refine qaI ?_|refine qaG ?_ _));exact BK105.out) k_ hk));(case aO=>exact (by (with_reducible repeat (first|apply Kd.R_alloc|apply Kd.R_drewN|apply Kd.R_drew));exact Kd.R_mono (Kd.R_far (p:=⟨gb105,1,none⟩) (Kd.R_far (p:=⟨gb105,0,none⟩) (Kd.R_mono HO_5.out (fun k_ hk=>(⟨hk,hk⟩:_∧k_ ≠ gb105))) (fun _ hk=>hk.2) (.int .i64 1)) (fun _ hk=>hk.2) (.string (a0.extract (x6_1:Int).toNat (x8_2:Int).toNat))) (fun _ hk=>hk.1)));(case aS=>exact (qaK (by repeat (first|(with_reducible first|exact HB.out|apply qaB|apply qaA|apply qaC|refine qaF ?_ GE105.out)|exact HB.out))));(case aL=>have:=LMc51.out;omega);intro v121 w54 ho hb hg hat;rw [← Ny120.out] at ho;have n0_:=Aside0.mk (blk_grown (g:=gb105) (o:=.cells #[.int .i64 1,.string (a0.extract (x6_1:Int).toNat (x8_2:Int).toNat),.int .i64 0,.int .i64 x6_1] 68 (0,0)) (by (with_reducible repeat (first|refine qaH ?_ _|refine qaI ?_|refine qaG ?_ _));refine qaR (cs:=#[.int .i64 1,.string (⟨#[]⟩:ByteArray),.int .i64 0,.int .i64 x6_1]) ?_ 1 _ rfl;(with_reducible repeat (first|refine qaH ?_ _|refine qaI ?_|refine qaG ?_ _));refine qaR (cs:=#[.int .i64 0,.string (⟨#[]⟩:ByteArray),.int .i64 0,.int .i64 x6_1]) ?_ 0 _ rfl;(with_reducible repeat (first|refine qaH ?_ _|refine qaI ?_|refine qaG ?_ _));exact BK105.out) hg (Kd.R_away HO_5.out (fun _ hk=>hk)));have n1_:=Aside0.mk (hb);have n2_:=Aside0.mk (ho);clear BK105;clear HB;clear HO_5;have BK105:=n0_;have HB:=n1_;have HO122:=n2_;clear n0_ n1_ n2_;clear ho hb hg hat)|((with_reducible refine qaO (f:=52) rfl ?_);refine qbG (some 102) rfl rfl Tryd.func52 (by kernel_rfl) rfl #[.string a0,.int .i64 x8_2] rfl (by (try simp only [List.map_toArray,List.map_cons,List.map_nil]);first|done|rfl|(simp only [List.length_drop,List.length_take];rfl)) ?_;(with_reducible refine (sawmillref06_skip.calls k2 a0 x8_2 t123 _ A52.out).mono ?_);rintro e w' ⟨rfl,⟨nd,rfl⟩⟩;refine ⟨_,rfl,?_⟩))
                go_roundg k2
                case measure=>have:=HK1.out;have:=HK2.out;omega
                case rel=>exact ⟨(y120),(t123),(by first|rfl|(simp;done)|(simp [*];done)),H',⟨by have:=HK1.out;have:=HK2.out;omega⟩,⟨by (with_reducible repeat (first|apply Kd.R_alloc|apply Kd.R_drewN|apply Kd.R_drew));exact Kd.R_mono HO122.out (fun _ hk=>trivial)⟩,⟨by repeat (first|(with_reducible first|exact HB.out|apply qaB|apply qaA|apply qaC|refine qaF ?_ GE105.out)|exact HB.out)⟩⟩
               ·rw [if_neg c51] at H
                exact absurd H (by simp)
              ·rw [if_neg c50] at H
               exact absurd H (by simp)
             ·rw [if_neg c49] at H
              exact absurd H (by simp)
            ·rw [if_neg c48] at H
             exact absurd H (by simp)
       ·replace c31:=Bool.eq_false_iff.mpr c31
        subst c31
        have H1:(if x6_1≤(a0.size:Int) then ((sawmillref06_mark.f k1 (a0.extract (x6_1:Int).toNat a0.size)).bind fun t124=>(if t124.toList=([]:List UInt8) then (some (([]:List (S68)),5,x6_1)) else (if x6_1≤(wrap64 (x6_1+(t124.size:Int))) then (if (wrap64 (x6_1+(t124.size:Int)))≤(a0.size:Int) then (if x5_1.length < 3518437208883 then ((sawmillref06_skip.f k1 a0 (wrap64 (x6_1+(t124.size:Int)))).bind fun t128=>(sawmillref06_Scan.l0 k1 a0 (x5_1++[(⟨3,a0.extract (x6_1:Int).toNat ((wrap64 (x6_1+(t124.size:Int))):Int).toNat,0,x6_1⟩:S68)]) t128)) else (none)) else (none)) else (none)))) else (none))=some (r1,r2,r3):=by rw [if_neg (show ¬ (false=true) by decide)] at H;exact H
        clear H
        have H:=H1
        clear H1
        have c55b0:=eq_true (of_decide_eq_true (by first|(with_reducible assumption)|assumption):0≤x6_1)
        by_cases c56:x6_1≤(a0.size:Int)
        ·rw [if_pos c56] at H
         have c56b0:=eq_true c56
         have c56b1:decide (x6_1≤(a0.size:Int))=true:=decide_eq_true c56
         clear c56
         replace H:=Option.bind_eq_some_iff.mp H
         obtain ⟨t124,A570,H⟩:=H
         replace H:(if t124.toList=([]:List UInt8) then (some (([]:List (S68)),5,x6_1)) else (if x6_1≤(wrap64 (x6_1+(t124.size:Int))) then (if (wrap64 (x6_1+(t124.size:Int)))≤(a0.size:Int) then (if x5_1.length < 3518437208883 then ((sawmillref06_skip.f k1 a0 (wrap64 (x6_1+(t124.size:Int)))).bind fun t128=>(sawmillref06_Scan.l0 k1 a0 (x5_1++[(⟨3,a0.extract (x6_1:Int).toNat ((wrap64 (x6_1+(t124.size:Int))):Int).toNat,0,x6_1⟩:S68)]) t128)) else (none)) else (none)) else (none)))=some (r1,r2,r3):=H
         have A57:=Aside0.mk A570
         clear A570
         by_cases c58:t124.toList=([]:List UInt8)
         ·rw [if_pos c58] at H
          have c58b0:(t124.toList == ([]:List UInt8))=true:=beq_iff_eq.mpr c58
          have c58b1:(t124.toList != ([]:List UInt8))=false:=bne_eq_false_iff_eq.mpr c58
          clear c58
          simp only [Option.some.injEq,Prod.mk.injEq] at H
          obtain ⟨rfl,rfl,rfl⟩:=H
          go_wp2_with (first|((with_reducible refine qbE (N:=7) rfl ?_);refine qbC ?hg (N:=7) ?hd (cs:=#[.int .i64 0,.string (⟨#[]⟩:ByteArray),.int .i64 0,.int .i64 0]) (t:=68) ?hr ?_;(case hd=>rfl);(case hg=>rfl);(case hr=>first|(go_simp;done)|(go_simp;rfl));intro gb105 hg w59 hbox hb;have n0_:=Aside0.mk (Kd.R_below (Kd.R_elderB (by (with_reducible repeat (first|apply Kd.R_alloc|apply Kd.R_drewN|apply Kd.R_drew));exact HO_5.out) gb105 (Nat.le_of_eq hg.symm)) hb);have n1_:=Aside0.mk (qaN (by repeat (first|(with_reducible first|exact HB.out|apply qaB|apply qaA|apply qaC)|exact HB.out)) hb);have n2_:=Aside0.mk (hbox);have n3_:=Aside0.mk ((by rw [hg];exact (qaK (by repeat (first|(with_reducible first|exact HB.out|apply qaB|apply qaA|apply qaC)|exact HB.out))):w.heap.size≤gb105));have n4_:=Aside0.mk ((by rw [hg];exact (qaK (by repeat (first|(with_reducible first|exact HB.out|apply qaB|apply qaA|apply qaC)|exact HB.out))):w.heap.size≤gb105));clear HO_5;clear HB;have HO_5:=n0_;have HB:=n1_;have BK105:=n2_;have GW105:=n3_;have GE105:=n4_;clear n0_ n1_ n2_ n3_ n4_;clear hb hbox hg;have hcz60_0:w59.cell? ⟨gb105,0,none⟩=some (.int .i64 0):=(qaE BK105.out 0).trans rfl;have hcz60_1:w59.cell? ⟨gb105,1,none⟩=some (.string (⟨#[]⟩:ByteArray)):=(qaE BK105.out 1).trans rfl;have hcz60_2:w59.cell? ⟨gb105,2,none⟩=some (.int .i64 0):=(qaE BK105.out 2).trans rfl;have hcz60_3:w59.cell? ⟨gb105,3,none⟩=some (.int .i64 0):=(qaE BK105.out 3).trans rfl;have hfz60_0:=qaD BK105.out 0;have hfz60_1:=qaD BK105.out 1;have hfz60_2:=qaD BK105.out 2;have hfz60_3:=qaD BK105.out 3;have p6:0≤(x6_1:Int):=of_decide_eq_true (by first|(with_reducible assumption)|assumption);have q6:x6_1 < (a0.size:Int):=of_decide_eq_true (by first|(with_reducible assumption)|assumption);have hx6:=qcI a0 x6_1;replace p6:=eq_true p6;replace q6:=eq_true q6)|((with_reducible refine qaO (f:=53) rfl ?_);refine qbG (some 40) rfl rfl Tryd.func53 (by kernel_rfl) rfl #[.int .u8 (bt a0 x6_1)] rfl (by (try simp only [List.map_toArray,List.map_cons,List.map_nil]);first|done|rfl|(simp only [List.length_drop,List.length_take];rfl)) ?_;(with_reducible refine (sawmillref06_Digit.calls (bt a0 x6_1) false _ A7.out).mono ?_);rintro e w' ⟨rfl,⟨nd,rfl⟩⟩;refine ⟨_,rfl,?_⟩;have p29:0≤(x6_1:Int):=of_decide_eq_true (by first|(with_reducible assumption)|assumption);have q29:x6_1 < (a0.size:Int):=of_decide_eq_true (by first|(with_reducible assumption)|assumption);have hx29:=qcI a0 x6_1;replace p29:=eq_true p29;replace q29:=eq_true q29)|((with_reducible refine qaO (f:=55) rfl ?_);refine qbG (some 72) rfl rfl Tryd.func55 (by kernel_rfl) rfl #[.int .u8 (bt a0 x6_1)] rfl (by (try simp only [List.map_toArray,List.map_cons,List.map_nil]);first|done|rfl|(simp only [List.length_drop,List.length_take];rfl)) ?_;(with_reducible refine (sawmillref06_Letter.calls (bt a0 x6_1) false _ A30.out).mono ?_);rintro e w' ⟨rfl,⟨nd,rfl⟩⟩;refine ⟨_,rfl,?_⟩)|((with_reducible refine qaO (f:=56) rfl ?_);refine qbG (some 27) rfl rfl Tryd.func56 (by kernel_rfl) rfl #[.string (a0.extract (x6_1:Int).toNat a0.size)] rfl (by (try simp only [List.map_toArray,List.map_cons,List.map_nil]);first|done|rfl|(simp only [List.length_drop,List.length_take];rfl)) ?_;(with_reducible refine (sawmillref06_mark.calls k1 (a0.extract (x6_1:Int).toNat a0.size) t124 _ A57.out).mono ?_);rintro e w61 ⟨rfl,hb⟩;refine ⟨_,rfl,?_⟩;have n0_:=Aside0.mk (Kd.R_below (by (with_reducible repeat (first|apply Kd.R_alloc|apply Kd.R_drewN|apply Kd.R_drew));exact (Kd.R_mono (Kd.R_far (p:=⟨gb105,3,none⟩) (Kd.R_far (p:=⟨gb105,2,none⟩) (Kd.R_far (p:=⟨gb105,1,none⟩) (Kd.R_far (p:=⟨gb105,0,none⟩) (Kd.R_mono HO_5.out (fun k_ hk=>(⟨hk,hk.2⟩:_∧k_ ≠ gb105))) (fun _ hk=>hk.2) (.int .i64 0)) (fun _ hk=>hk.2) (.string (⟨#[]⟩:ByteArray))) (fun _ hk=>hk.2) (.int .i64 0)) (fun _ hk=>hk.2) (.int .i64 x6_1)) (fun _ h_=>h_.1))) hb);have n1_:=Aside0.mk (qaS (g:=gb105) (o:=.cells #[.int .i64 0,.string (⟨#[]⟩:ByteArray),.int .i64 0,.int .i64 x6_1] 68 (0,0)) (by (with_reducible repeat (first|refine qaH ?_ _|refine qaI ?_|refine qaG ?_ _));refine qaR (cs:=#[.int .i64 0,.string (⟨#[]⟩:ByteArray),.int .i64 0,.int .i64 0]) ?_ 3 _ rfl;(with_reducible repeat (first|refine qaH ?_ _|refine qaI ?_|refine qaG ?_ _));refine qaR (cs:=#[.int .i64 0,.string (⟨#[]⟩:ByteArray),.int .i64 0,.int .i64 0]) ?_ 2 _ rfl;(with_reducible repeat (first|refine qaH ?_ _|refine qaI ?_|refine qaG ?_ _));refine qaR (cs:=#[.int .i64 0,.string (⟨#[]⟩:ByteArray),.int .i64 0,.int .i64 0]) ?_ 1 _ rfl;(with_reducible repeat (first|refine qaH ?_ _|refine qaI ?_|refine qaG ?_ _));refine qaR (cs:=#[.int .i64 0,.string (⟨#[]⟩:ByteArray),.int .i64 0,.int .i64 0]) ?_ 0 _ rfl;(with_reducible repeat (first|refine qaH ?_ _|refine qaI ?_|refine qaG ?_ _));exact BK105.out) hb);have n2_:=Aside0.mk (qaN (by repeat (first|(with_reducible first|exact HB.out|apply qaB|apply qaA|apply qaC|refine qaF ?_ GE105.out)|exact HB.out)) hb);clear HO_5;clear BK105;clear HB;have HO_5:=n0_;have BK105:=n1_;have HB:=n2_;clear n0_ n1_ n2_;(try clear hb);(try clear hb2);(try clear hk);(try clear hi)))
          go_ret3
          exact ⟨_,by first|rfl|(simp [qaL,qaM]<;>rfl)|(simp [*,qaL,qaM]<;>rfl),by first|exact Kd.R_nil _ _ _ _ _|exact Kd.N_nil _ _ _ _ _|exact Kd.V_nil _ _ _ _ _|exact Kd.Q_nil _ _ _ _ _|exact Kd.S_nil _ _ _ _ _,by repeat (first|(with_reducible first|exact HB.out|apply qaB|apply qaA|apply qaC|refine qaF ?_ GE105.out)|exact HB.out)⟩
         ·rw [if_neg c58] at H
          have c58b0:(t124.toList == ([]:List UInt8))=false:=beq_eq_false_iff_ne.mpr c58
          have c58b1:(t124.toList != ([]:List UInt8))=true:=bne_iff_ne.mpr c58
          have c62b0:=eq_true (of_decide_eq_true (by first|(with_reducible assumption)|assumption):0≤x6_1)
          by_cases c63:x6_1≤(wrap64 (x6_1+(t124.size:Int)))
          ·rw [if_pos c63] at H
           have c63b0:=eq_true c63
           have c63b1:decide (x6_1≤(wrap64 (x6_1+(t124.size:Int))))=true:=decide_eq_true c63
           by_cases c64:(wrap64 (x6_1+(t124.size:Int)))≤(a0.size:Int)
           ·rw [if_pos c64] at H
            have c64b0:=eq_true c64
            have c64b1:decide ((wrap64 (x6_1+(t124.size:Int)))≤(a0.size:Int))=true:=decide_eq_true c64
            by_cases c65:x5_1.length < 3518437208883
            ·rw [if_pos c65] at H
             have LMc65:=Aside0.mk c65
             clear c65
             obtain ⟨y125,hy125⟩:∃ y_:List (S68),y_=(x5_1++[(⟨3,a0.extract (x6_1:Int).toNat ((wrap64 (x6_1+(t124.size:Int))):Int).toNat,0,x6_1⟩:S68)]):=⟨_,rfl⟩
             replace H:((sawmillref06_skip.f k1 a0 (wrap64 (x6_1+(t124.size:Int)))).bind fun t128=>(sawmillref06_Scan.l0 k1 a0 y125 t128))=some (r1,r2,r3):=by first|(rw [hy125];with_reducible exact H)|(have H2_:=(Option.bind_some _ _).symm.trans H;rw [hy125];with_reducible exact H2_)|(have H2_:=(Option.bind_some _ _).symm.trans H;with_reducible exact H2_)|with_reducible exact H|(rw [hy125];exact H)|exact H
             have Ny125:=Aside0.mk hy125
             clear hy125
             replace H:=Option.bind_eq_some_iff.mp H
             obtain ⟨t128,A660,H⟩:=H
             replace H:(sawmillref06_Scan.l0 k1 a0 y125 t128)=some (r1,r2,r3):=H
             have A66:=Aside0.mk A660
             clear A660
             have H':=Aside0.mk H
             clear H
             go_wp2_with (first|((with_reducible refine qbE (N:=7) rfl ?_);refine qbC ?hg (N:=7) ?hd (cs:=#[.int .i64 0,.string (⟨#[]⟩:ByteArray),.int .i64 0,.int .i64 0]) (t:=68) ?hr ?_;(case hd=>rfl);(case hg=>rfl);(case hr=>first|(go_simp;done)|(go_simp;rfl));intro gb105 hg w67 hbox hb;have n0_:=Aside0.mk (Kd.R_below (Kd.R_elderB (by (with_reducible repeat (first|apply Kd.R_alloc|apply Kd.R_drewN|apply Kd.R_drew));exact HO_5.out) gb105 (Nat.le_of_eq hg.symm)) hb);have n1_:=Aside0.mk (qaN (by repeat (first|(with_reducible first|exact HB.out|apply qaB|apply qaA|apply qaC)|exact HB.out)) hb);have n2_:=Aside0.mk (hbox);have n3_:=Aside0.mk ((by rw [hg];exact (qaK (by repeat (first|(with_reducible first|exact HB.out|apply qaB|apply qaA|apply qaC)|exact HB.out))):w.heap.size≤gb105));have n4_:=Aside0.mk ((by rw [hg];exact (qaK (by repeat (first|(with_reducible first|exact HB.out|apply qaB|apply qaA|apply qaC)|exact HB.out))):w.heap.size≤gb105));clear HO_5;clear HB;have HO_5:=n0_;have HB:=n1_;have BK105:=n2_;have GW105:=n3_;have GE105:=n4_;clear n0_ n1_ n2_ n3_ n4_;clear hb hbox hg;have hcz68_0:w67.cell? ⟨gb105,0,none⟩=some (.int .i64 0):=(qaE BK105.out 0).trans rfl;have hcz68_1:w67.cell? ⟨gb105,1,none⟩=some (.string (⟨#[]⟩:ByteArray)):=(qaE BK105.out 1).trans rfl;have hcz68_2:w67.cell? ⟨gb105,2,none⟩=some (.int .i64 0):=(qaE BK105.out 2).trans rfl;have hcz68_3:w67.cell? ⟨gb105,3,none⟩=some (.int .i64 0):=(qaE BK105.out 3).trans rfl;have hfz68_0:=qaD BK105.out 0;have hfz68_1:=qaD BK105.out 1;have hfz68_2:=qaD BK105.out 2;have hfz68_3:=qaD BK105.out 3;have p6:0≤(x6_1:Int):=of_decide_eq_true (by first|(with_reducible assumption)|assumption);have q6:x6_1 < (a0.size:Int):=of_decide_eq_true (by first|(with_reducible assumption)|assumption);have hx6:=qcI a0 x6_1;replace p6:=eq_true p6;replace q6:=eq_true q6)|((with_reducible refine qaO (f:=53) rfl ?_);refine qbG (some 40) rfl rfl Tryd.func53 (by kernel_rfl) rfl #[.int .u8 (bt a0 x6_1)] rfl (by (try simp only [List.map_toArray,List.map_cons,List.map_nil]);first|done|rfl|(simp only [List.length_drop,List.length_take];rfl)) ?_;(with_reducible refine (sawmillref06_Digit.calls (bt a0 x6_1) false _ A7.out).mono ?_);rintro e w' ⟨rfl,⟨nd,rfl⟩⟩;refine ⟨_,rfl,?_⟩;have p29:0≤(x6_1:Int):=of_decide_eq_true (by first|(with_reducible assumption)|assumption);have q29:x6_1 < (a0.size:Int):=of_decide_eq_true (by first|(with_reducible assumption)|assumption);have hx29:=qcI a0 x6_1;replace p29:=eq_true p29;replace q29:=eq_true q29)|((with_reducible refine qaO (f:=55) rfl ?_);refine qbG (some 72) rfl rfl Tryd.func55 (by kernel_rfl) rfl #[.int .u8 (bt a0 x6_1)] rfl (by (try simp only [List.map_toArray,List.map_cons,List.map_nil]);first|done|rfl|(simp only [List.length_drop,List.length_take];rfl)) ?_;(with_reducible refine (sawmillref06_Letter.calls (bt a0 x6_1) false _ A30.out).mono ?_);rintro e w' ⟨rfl,⟨nd,rfl⟩⟩;refine ⟨_,rfl,?_⟩)|((with_reducible refine qaO (f:=56) rfl ?_);refine qbG (some 27) rfl rfl Tryd.func56 (by kernel_rfl) rfl #[.string (a0.extract (x6_1:Int).toNat a0.size)] rfl (by (try simp only [List.map_toArray,List.map_cons,List.map_nil]);first|done|rfl|(simp only [List.length_drop,List.length_take];rfl)) ?_;(with_reducible refine (sawmillref06_mark.calls k1 (a0.extract (x6_1:Int).toNat a0.size) t124 _ A57.out).mono ?_);rintro e w69 ⟨rfl,hb⟩;refine ⟨_,rfl,?_⟩;have n0_:=Aside0.mk (Kd.R_below (by (with_reducible repeat (first|apply Kd.R_alloc|apply Kd.R_drewN|apply Kd.R_drew));exact (Kd.R_mono (Kd.R_far (p:=⟨gb105,3,none⟩) (Kd.R_far (p:=⟨gb105,2,none⟩) (Kd.R_far (p:=⟨gb105,1,none⟩) (Kd.R_far (p:=⟨gb105,0,none⟩) (Kd.R_mono HO_5.out (fun k_ hk=>(⟨hk,hk.2⟩:_∧k_ ≠ gb105))) (fun _ hk=>hk.2) (.int .i64 0)) (fun _ hk=>hk.2) (.string (⟨#[]⟩:ByteArray))) (fun _ hk=>hk.2) (.int .i64 0)) (fun _ hk=>hk.2) (.int .i64 x6_1)) (fun _ h_=>h_.1))) hb);have n1_:=Aside0.mk (qaS (g:=gb105) (o:=.cells #[.int .i64 0,.string (⟨#[]⟩:ByteArray),.int .i64 0,.int .i64 x6_1] 68 (0,0)) (by (with_reducible repeat (first|refine qaH ?_ _|refine qaI ?_|refine qaG ?_ _));refine qaR (cs:=#[.int .i64 0,.string (⟨#[]⟩:ByteArray),.int .i64 0,.int .i64 0]) ?_ 3 _ rfl;(with_reducible repeat (first|refine qaH ?_ _|refine qaI ?_|refine qaG ?_ _));refine qaR (cs:=#[.int .i64 0,.string (⟨#[]⟩:ByteArray),.int .i64 0,.int .i64 0]) ?_ 2 _ rfl;(with_reducible repeat (first|refine qaH ?_ _|refine qaI ?_|refine qaG ?_ _));refine qaR (cs:=#[.int .i64 0,.string (⟨#[]⟩:ByteArray),.int .i64 0,.int .i64 0]) ?_ 1 _ rfl;(with_reducible repeat (first|refine qaH ?_ _|refine qaI ?_|refine qaG ?_ _));refine qaR (cs:=#[.int .i64 0,.string (⟨#[]⟩:ByteArray),.int .i64 0,.int .i64 0]) ?_ 0 _ rfl;(with_reducible repeat (first|refine qaH ?_ _|refine qaI ?_|refine qaG ?_ _));exact BK105.out) hb);have n2_:=Aside0.mk (qaN (by repeat (first|(with_reducible first|exact HB.out|apply qaB|apply qaA|apply qaC|refine qaF ?_ GE105.out)|exact HB.out)) hb);clear HO_5;clear BK105;clear HB;have HO_5:=n0_;have BK105:=n1_;have HB:=n2_;clear n0_ n1_ n2_;(try clear hb);(try clear hb2);(try clear hk);(try clear hi);have hcz70_0:w69.cell? ⟨gb105,0,none⟩=some (.int .i64 0):=(qaE BK105.out 0).trans rfl;have hcz70_1:w69.cell? ⟨gb105,1,none⟩=some (.string (⟨#[]⟩:ByteArray)):=(qaE BK105.out 1).trans rfl;have hcz70_2:w69.cell? ⟨gb105,2,none⟩=some (.int .i64 0):=(qaE BK105.out 2).trans rfl;have hcz70_3:w69.cell? ⟨gb105,3,none⟩=some (.int .i64 x6_1):=(qaE BK105.out 3).trans rfl;have hfz70_0:=qaD BK105.out 0;have hfz70_1:=qaD BK105.out 1;have hfz70_2:=qaD BK105.out 2;have hfz70_3:=qaD BK105.out 3)|((with_reducible refine qcG (b:=.append) (xs:=#[.tmp 96,.tmp 98]) rfl ?_);at_builtin;refine Kd.R_append k68 (w0:=w) w.heap.size rfl (.tmp 96) (.tmp 98) 54 68 (.agg #[(.int .i64 0),(.string ⟨#[]⟩),(.int .i64 0),(.int .i64 0)]) 40 rfl Tryd.underlying54 info68 rfl (by decide) (by omega) u5 x5_1 (⟨3,a0.extract (x6_1:Int).toNat ((wrap64 (x6_1+(t124.size:Int))):Int).toNat,0,x6_1⟩:S68) [.int .i64 3,.string (a0.extract (x6_1:Int).toNat ((wrap64 (x6_1+(t124.size:Int))):Int).toNat),.int .i64 0,.int .i64 x6_1] (fun k_=>k_ ≠ gb105) (fun _=>False) rfl (by first|(go_simp;done)|(go_simp;rfl)) ?aP (fun _ hk=>hk.elim) ?aF ?aO ?aB ?aS ?aL ?_;(case aP=>exact k68_mkM _ _ _ (⟨3,a0.extract (x6_1:Int).toNat ((wrap64 (x6_1+(t124.size:Int))):Int).toNat,0,x6_1⟩:S68));(case aB=>exact (by repeat (first|(with_reducible first|exact HB.out|apply qaB|apply qaA|apply qaC|refine qaF ?_ GE105.out)|exact HB.out)));(case aF=>exact (fun k_ hk=>Kd.freshB (g:=gb105) (o:=.cells #[.int .i64 3,.string (a0.extract (x6_1:Int).toNat ((wrap64 (x6_1+(t124.size:Int))):Int).toNat),.int .i64 0,.int .i64 x6_1] 68 (0,0)) (by (with_reducible repeat (first|refine qaH ?_ _|refine qaI ?_|refine qaG ?_ _));refine qaR (cs:=#[.int .i64 3,.string (⟨#[]⟩:ByteArray),.int .i64 0,.int .i64 x6_1]) ?_ 1 _ rfl;(with_reducible repeat (first|refine qaH ?_ _|refine qaI ?_|refine qaG ?_ _));refine qaR (cs:=#[.int .i64 0,.string (⟨#[]⟩:ByteArray),.int .i64 0,.int .i64 x6_1]) ?_ 0 _ rfl;(with_reducible repeat (first|refine qaH ?_ _|refine qaI ?_|refine qaG ?_ _));exact BK105.out) k_ hk));(case aO=>exact (by (with_reducible repeat (first|apply Kd.R_alloc|apply Kd.R_drewN|apply Kd.R_drew));exact Kd.R_mono (Kd.R_far (p:=⟨gb105,1,none⟩) (Kd.R_far (p:=⟨gb105,0,none⟩) (Kd.R_mono HO_5.out (fun k_ hk=>(⟨hk,hk.2⟩:_∧k_ ≠ gb105))) (fun _ hk=>hk.2) (.int .i64 3)) (fun _ hk=>hk.2) (.string (a0.extract (x6_1:Int).toNat ((wrap64 (x6_1+(t124.size:Int))):Int).toNat))) (fun _ hk=>hk.1.2)));(case aS=>exact (qaK (by repeat (first|(with_reducible first|exact HB.out|apply qaB|apply qaA|apply qaC|refine qaF ?_ GE105.out)|exact HB.out))));(case aL=>have:=LMc65.out;omega);intro v126 w71 ho hb hg hat;rw [← Ny125.out] at ho;have n0_:=Aside0.mk (blk_grown (g:=gb105) (o:=.cells #[.int .i64 3,.string (a0.extract (x6_1:Int).toNat ((wrap64 (x6_1+(t124.size:Int))):Int).toNat),.int .i64 0,.int .i64 x6_1] 68 (0,0)) (by (with_reducible repeat (first|refine qaH ?_ _|refine qaI ?_|refine qaG ?_ _));refine qaR (cs:=#[.int .i64 3,.string (⟨#[]⟩:ByteArray),.int .i64 0,.int .i64 x6_1]) ?_ 1 _ rfl;(with_reducible repeat (first|refine qaH ?_ _|refine qaI ?_|refine qaG ?_ _));refine qaR (cs:=#[.int .i64 0,.string (⟨#[]⟩:ByteArray),.int .i64 0,.int .i64 x6_1]) ?_ 0 _ rfl;(with_reducible repeat (first|refine qaH ?_ _|refine qaI ?_|refine qaG ?_ _));exact BK105.out) hg (Kd.R_away HO_5.out (fun _ hk=>hk.2)));have n1_:=Aside0.mk (hb);have n2_:=Aside0.mk (ho);clear BK105;clear HB;clear HO_5;have BK105:=n0_;have HB:=n1_;have HO127:=n2_;clear n0_ n1_ n2_;clear ho hb hg hat)|((with_reducible refine qaO (f:=52) rfl ?_);refine qbG (some 102) rfl rfl Tryd.func52 (by kernel_rfl) rfl #[.string a0,.int .i64 (wrap64 (x6_1+(t124.size:Int)))] rfl (by (try simp only [List.map_toArray,List.map_cons,List.map_nil]);first|done|rfl|(simp only [List.length_drop,List.length_take];rfl)) ?_;(with_reducible refine (sawmillref06_skip.calls k1 a0 (wrap64 (x6_1+(t124.size:Int))) t128 _ A66.out).mono ?_);rintro e w' ⟨rfl,⟨nd,rfl⟩⟩;refine ⟨_,rfl,?_⟩))
             go_roundg k1
             case measure=>have:=HK1.out;omega
             case rel=>exact ⟨(y125),(t128),(by first|rfl|(simp;done)|(simp [*];done)),H',⟨by have:=HK1.out;omega⟩,⟨by (with_reducible repeat (first|apply Kd.R_alloc|apply Kd.R_drewN|apply Kd.R_drew));exact Kd.R_mono HO127.out (fun _ hk=>trivial)⟩,⟨by repeat (first|(with_reducible first|exact HB.out|apply qaB|apply qaA|apply qaC|refine qaF ?_ GE105.out)|exact HB.out)⟩⟩
            ·rw [if_neg c65] at H
             exact absurd H (by simp)
           ·rw [if_neg c64] at H
            exact absurd H (by simp)
          ·rw [if_neg c63] at H
           exact absurd H (by simp)
        ·rw [if_neg c56] at H
         exact absurd H (by simp)
     ·rw [if_neg c5] at H
      exact absurd H (by simp)
    ·rw [if_neg c4] at H
     have c4b0:decide (x6_1 < (a0.size:Int))=false:=decide_eq_false c4
     clear c4
     by_cases c72:x5_1.length < 3518437208883
     ·rw [if_pos c72] at H
      have LMc72:=Aside0.mk c72
      clear c72
      obtain ⟨y102,hy102⟩:∃ y_:List (S68),y_=(x5_1++[(⟨0,(⟨#[]⟩:ByteArray),0,(a0.size:Int)⟩:S68)]):=⟨_,rfl⟩
      replace H:(some (y102,0,0))=some (r1,r2,r3):=by first|(rw [hy102];with_reducible exact H)|(have H2_:=(Option.bind_some _ _).symm.trans H;rw [hy102];with_reducible exact H2_)|(have H2_:=(Option.bind_some _ _).symm.trans H;with_reducible exact H2_)|with_reducible exact H|(rw [hy102];exact H)|exact H
      have Ny102:=Aside0.mk hy102
      clear hy102
      simp only [Option.some.injEq,Prod.mk.injEq] at H
      obtain ⟨rfl,rfl,rfl⟩:=H
      go_wp2_with (first|((with_reducible refine qcG (b:=.append) (xs:=#[.tmp 103,.tmp 107]) rfl ?_);at_builtin;refine Kd.R_append k68 (w0:=w) w.heap.size rfl (.tmp 103) (.tmp 107) 54 68 (.agg #[(.int .i64 0),(.string ⟨#[]⟩),(.int .i64 0),(.int .i64 0)]) 40 rfl Tryd.underlying54 info68 rfl (by decide) (by omega) u5 x5_1 (⟨0,(⟨#[]⟩:ByteArray),0,(a0.size:Int)⟩:S68) [.int .i64 0,.string (⟨#[]⟩:ByteArray),.int .i64 0,.int .i64 (a0.size:Int)] (fun _=>True) (fun _=>False) rfl rfl ?aP (fun _ hk=>hk.elim) ?aF ?aO ?aB ?aS ?aL ?_;(case aP=>exact k68_mkM _ _ _ (⟨0,(⟨#[]⟩:ByteArray),0,(a0.size:Int)⟩:S68));(case aB=>exact (by repeat (first|(with_reducible first|exact HB.out|apply qaB|apply qaA|apply qaC)|exact HB.out)));(case aF=>exact (fun _ _=>trivial));(case aO=>exact (by (with_reducible repeat (first|apply Kd.R_alloc|apply Kd.R_drewN|apply Kd.R_drew));exact HO_5.out));(case aS=>exact (qaK (by repeat (first|(with_reducible first|exact HB.out|apply qaB|apply qaA|apply qaC)|exact HB.out))));(case aL=>have:=LMc72.out;omega);intro v103 w73 ho hb hg hat;rw [← Ny102.out] at ho;have n0_:=Aside0.mk (hb);have n1_:=Aside0.mk (ho);clear HB;clear HO_5;have HB:=n0_;have HO104:=n1_;clear n0_ n1_;clear ho hb hg hat))
      go_ret3
      exact ⟨_,by first|rfl|(simp [qaL,qaM]<;>rfl)|(simp [*,qaL,qaM]<;>rfl),by (with_reducible repeat (first|apply Kd.R_alloc|apply Kd.R_drewN|apply Kd.R_drew));exact HO104.out,by repeat (first|(with_reducible first|exact HB.out|apply qaB|apply qaA|apply qaC)|exact HB.out)⟩
     ·rw [if_neg c72] at H
      exact absurd H (by simp)
end Go.Proofs.YtehdmplngmbnnaaDoor.P
namespace Go.Proofs.YtehdmplngmbnnaaDoor.P
open Go.RowKit Go.Proofs.YtehdmplngmbnnaaDoorW.PrintWords
set_option linter.unusedVariables false
set_option linter.unusedSimpArgs false
theorem rskip_l0 (s:ByteArray) (hs:s.size≤1000000):∀ (n i K:Nat) (r:Bool),i+n=s.size→2 * n+2≤K→sawmillref06_skip.l0 K s i r=some ((i+skR r ((bl s).drop i):Nat):Int):=by
 intro n
 induction n with
 | zero =>
  intro i K r hi hK
  obtain ⟨K,rfl⟩:∃ q,K=q+1:=⟨K - 1,by omega⟩
  rw [sawmillref06_skip.l0,if_neg (by omega),List.drop_eq_nil_of_le (by rw [qcM];omega)]
  cases r<;>rfl
 | succ n ih =>
  intro i K r hi hK
  obtain ⟨K,rfl⟩:∃ q,K=q+2:=⟨K - 2,by omega⟩
  obtain ⟨c,cs,hc⟩:=drop_cons s i (by omega)
  obtain ⟨h1,h2,h3⟩:=bt_cons s c cs i hc
  have e32:((c.toNat:Int)=32) ↔ c=32:=u8_eq c 32
  have e10:((c.toNat:Int)=10) ↔ c=10:=u8_eq c 10
  have e35:((c.toNat:Int)=35) ↔ c=35:=u8_eq c 35
  have i1:=fun r=>ih (i+1) K r (by omega) (by omega)
  have i2:=fun r=>ih (i+1) (K+1) r (by omega) (by omega)
  have q1:(i:Int) < (s.size:Int):=by omega
  have q2:(0:Int)≤(i:Int):=by omega
  have e:wrap64 ((i:Int)+1)=((i+1:Nat):Int):=qcH (i+1) (by omega)
  rw [h3] at i1 i2
  have hj:∀ r b,sawmillref06_skip.j1 (K+1) s i r b=if b=true then sawmillref06_skip.l0 K s ((i+1:Nat):Int) r else if (c.toNat:Int)=35 then sawmillref06_skip.l0 K s ((i+1:Nat):Int) true else some (i:Int):=by
   intro r b
   rw [sawmillref06_skip.j1,if_pos q2,if_pos q1,h2,e]
  rw [sawmillref06_skip.l0,if_pos q1,if_pos q2,h2,hc,e,hj,hj]
  by_cases g2:c=10
  ·have hr:skR r (c :: cs)=1+skR false cs:=if_pos g2
   rw [if_pos (e10.mpr g2),i2,hr,Nat.add_assoc]
  ·rw [if_neg (fun h=>g2 (e10.mp h))]
   cases r
   ·rw [if_neg Bool.false_ne_true]
    by_cases g1:c=32
    ·have hr:skR false (c :: cs)=1+skR false cs:=by
      rw [skR,if_neg g2,if_pos (Or.inr g1)]
     rw [if_pos (by rw [e32.mpr g1];rfl),i1,hr,Nat.add_assoc]
    ·have hf:((c.toNat:Int) == 32)=false:=by simpa using fun h=>g1 (e32.mp h)
     rw [hf,if_neg Bool.false_ne_true]
     by_cases g3:c=35
     ·have hr:skR false (c :: cs)=1+skR true cs:=by
       rw [skR,if_neg g2,if_neg (show ¬ (false=true ∨ c=32) by simp [g1]),if_pos g3]
      rw [if_pos (e35.mpr g3),i1,hr,Nat.add_assoc]
     ·have hr:skR false (c :: cs)=0:=by
       rw [skR,if_neg g2,if_neg (show ¬ (false=true ∨ c=32) by simp [g1]),if_neg g3]
      rw [if_neg (fun h=>g3 (e35.mp h)),hr]
      rfl
   ·have hr:skR true (c :: cs)=1+skR true cs:=by
     rw [skR,if_neg g2,if_pos (Or.inl rfl)]
    rw [if_pos rfl,if_pos rfl,i1,hr,Nat.add_assoc]
theorem rskip_prog (s:ByteArray) (hs:s.size≤1000000) (i K:Nat) (hi:i≤s.size) (hK:2 * s.size+2≤K):sawmillref06_skip.f K s i=some ((i+skR false ((bl s).drop i):Nat):Int) :=
 rskip_l0 s hs (s.size - i) i K false (by omega) (by omega)
theorem rdig_f (c:UInt8):sawmillref06_Digit.f (c.toNat:Int)=some (qcL c):=by
 have h:=dig_f c
 rw [wrap32_byte] at h
 exact h
theorem rlet_f (c:UInt8):sawmillref06_Letter.f (c.toNat:Int)=some (isWrd c):=by
 unfold sawmillref06_Letter.f isWrd
 rw [rdig_f]
 have e:∀ n:UInt8,(n≤c) ↔ (n.toNat:Int)≤c.toNat:=fun n=>by rw [UInt8.le_iff_toNat_le];omega
 have e':∀ n:UInt8,(c≤n) ↔ (c.toNat:Int)≤n.toNat:=fun n=>by rw [UInt8.le_iff_toNat_le];omega
 have e3:(c == 95)=decide ((c.toNat:Int)=95):=by
  rw [Bool.eq_iff_iff];simp [← UInt8.toNat_inj];omega
 have a1:=e 97;have a2:=e' 122;have a3:=e 65;have a4:=e' 90
 simp at a1 a2 a3 a4
 rw [e3]
 simp only [a1,a2,a3,a4,Option.bind_some,ge_iff_le]
 by_cases b1:(97:Int)≤c.toNat<;>by_cases b2:(c.toNat:Int)≤122<;>by_cases b3:(65:Int)≤c.toNat<;>by_cases b4:(c.toNat:Int)≤90<;>by_cases b5:(c.toNat:Int)=95<;>simp [b1,b2,b3,b4,b5]
theorem rnum_l0 (s:ByteArray) (hs:s.size≤1000000) (hd:∀ c ∈ bl s,qcL c=true):∀ (m i:Nat) (n:Int) (K:Nat),i+m=s.size→0≤n→n≤1099511627776→m+1≤K→sawmillref06_number.l0 K s n i=some (numRes (numAcc n ((bl s).drop i))):=by
 intro m
 induction m with
 | zero =>
  intro i n K hi h1 h2 hK
  obtain ⟨K,rfl⟩:∃ q,K=q+1:=⟨K - 1,by omega⟩
  rw [sawmillref06_number.l0,if_neg (by omega),List.drop_eq_nil_of_le (by rw [qcM];omega)]
  rfl
 | succ m ih =>
  intro i n K hi h1 h2 hK
  obtain ⟨K,rfl⟩:∃ q,K=q+1:=⟨K - 1,by omega⟩
  obtain ⟨c,cs,hc⟩:=drop_cons s i (by omega)
  obtain ⟨g1,g2,g3⟩:=bt_cons s c cs i hc
  have hdc:=dig_range (hd c (List.mem_of_mem_drop (i:=i) (by rw [hc];exact List.mem_cons_self ..)))
  have e1:wrap64 (n * 10)=10 * n:=by
   unfold wrap64
   omega
  have e2:((c.toNat:Int) - 48) % 256=(c.toNat:Int) - 48:=by omega
  have e3:wrap64 (10 * n+((c.toNat:Int) - 48))=10 * n+((c.toNat:Int) - 48):=by
   unfold wrap64
   omega
  have e4:wrap64 ((i:Int)+1)=((i+1:Nat):Int):=qcH (i+1) (by omega)
  obtain ⟨v,hv⟩:∃ v,v=10 * n+((c.toNat:Int) - 48):=⟨_,rfl⟩
  rw [← hv] at e3
  rw [sawmillref06_number.l0,if_pos (by omega),if_pos (by omega),g2,hc,e1,e2,← hv,e3,e4]
  by_cases g:v > 1099511627776
  ·have ha:numAcc n (c :: cs)=none:=by
    rw [numAcc,← hv]
    exact if_pos g
   rw [ha]
   exact if_pos g
  ·have ha:numAcc n (c :: cs)=numAcc v cs:=by
    rw [numAcc,← hv]
    exact if_neg g
   rw [ha,if_neg g,ih (i+1) v K (by omega) (by omega) (by omega) (by omega),g3]
theorem rnumber_prog (s:ByteArray) (hs:s.size≤1000000) (hd:∀ c ∈ bl s,qcL c=true) (K:Nat) (hK:s.size+2≤K):sawmillref06_number.f K s=some (numL (bl s)):=by
 obtain ⟨K,rfl⟩:∃ q,K=q+1:=⟨K - 1,by omega⟩
 have h0:=rnum_l0 s hs hd s.size 0 0 K (by omega) (by omega) (by omega) (by omega)
 rw [List.drop_zero] at h0
 unfold sawmillref06_number.f numL
 simp only [sawmillref06_number.j0]
 by_cases g:(s.size:Int) > 1
 ·obtain ⟨c,cs,hc⟩:=drop_cons s 0 (by omega)
  obtain ⟨g1,g2,g3⟩:=bt_cons s c cs 0 hc
  rw [List.drop_zero] at hc
  have hl:(bl s).length > 1:=by rw [qcM];omega
  rw [if_pos g,if_pos (by omega),show bt s 0=(c.toNat:Int) from g2,hc]
  by_cases e:c=48
  ·subst e
   rw [if_pos (by rfl),if_pos ⟨by rw [← hc];exact hl,rfl⟩]
  ·have hf:((c.toNat:Int) == 48)=false:=by simpa using fun h=>e ((u8_eq c 48).mp h)
   rw [hf,if_neg Bool.false_ne_true,if_neg (by rintro ⟨-,h⟩;exact e (Option.some.inj h)),← hc]
   exact h0
 ·rw [if_neg g,if_neg Bool.false_ne_true,if_neg (by rintro ⟨h,-⟩;rw [qcM] at h;omega)]
  exact h0
def marks2:List (List UInt8):=[[60,61],[62,61],[33,61],[46,46]]
def marks1:List (List UInt8):=[[60],[61],[62],[40],[41],[123],[125],[44],[59],[58],[43],[45],[42],[47],[64]]
def markL (l:List UInt8):List UInt8:=if isMk (l.take 2)=true then l.take 2 else if isMk (l.take 1)=true then l.take 1 else []
theorem isMk_split (x:List UInt8):isMk x=(marks2.contains x || marks1.contains x):=by
 unfold isMk marks2 marks1
 simp only [List.contains_cons,List.contains_nil,Bool.or_false,Bool.or_assoc]
theorem contains_len (k:Nat) (x:List UInt8):∀ M:List (List UInt8),(∀ m ∈ M,m.length=k)→x.length ≠ k→M.contains x=false:=by
 intro M hM hx
 by_cases h:M.contains x=true
 ·exact absurd (hM x (by simpa using h)) hx
 ·simpa using h
def prefL (l:List UInt8) (m:List UInt8):Bool:=l.take m.length == m
theorem find_pref (l:List UInt8) (k:Nat):∀ M:List (List UInt8),(∀ m ∈ M,m.length=k)→M.find? (prefL l)=if M.contains (l.take k)=true then some (l.take k) else none:=by
 intro M
 induction M with
 | nil=>intro _;rfl
 | cons m M ih =>
  intro hM
  have h1:=hM m (List.mem_cons_self ..)
  have h2:=ih (fun x hx=>hM x (List.mem_cons_of_mem _ hx))
  rw [List.find?_cons,List.contains_cons,h2]
  unfold prefL
  rw [h1]
  by_cases g:l.take k=m
  ·rw [beq_iff_eq.mpr g]
   simp [g]
  ·rw [beq_eq_false_iff_ne.mpr g]
   simp
theorem find_marks (l:List UInt8):((marks2++marks1).find? (prefL l)).getD []=markL l:=by
 have l2:∀ m ∈ marks2,m.length=2:=by decide
 have l1:∀ m ∈ marks1,m.length=1:=by decide
 rw [List.find?_append,find_pref l 2 _ l2,find_pref l 1 _ l1]
 unfold markL
 rw [isMk_split,isMk_split]
 match l with
 | []=>rfl
 | [a] =>
  have h1:=contains_len 2 [a] marks2 l2 (by simp)
  rw [show ([a]:List UInt8).take 2=[a] from rfl,show ([a]:List UInt8).take 1=[a] from rfl]
  have h1':[a] ∉ marks2:=by simpa using h1
  by_cases g:[a] ∈ marks1
  ·simp [h1',g]
  ·simp [h1',g]
 | a :: b :: t =>
  have h1:=contains_len 1 [a,b] marks1 l1 (by simp)
  have h2:=contains_len 2 [a] marks2 l2 (by simp)
  rw [show (a :: b :: t).take 2=[a,b] from rfl,show (a :: b :: t).take 1=[a] from rfl]
  have h1':[a,b] ∉ marks1:=by simpa using h1
  have h2':[a] ∉ marks2:=by simpa using h2
  by_cases g:[a,b] ∈ marks2
  ·simp [h1',g]
  ·by_cases g':[a] ∈ marks1
   ·simp [h1',h2',g,g']
   ·simp [h1',h2',g,g']
theorem rmark_l0 (s:ByteArray) (ms:List ByteArray) (hm:ms.length≤1000):∀ (n i K:Nat),i+n=ms.length→n+1≤K→sawmillref06_mark.l0 K s ms i=some (mkB ((((ms.map bl).drop i).find? (prefL (bl s))).getD [])):=by
 intro n
 induction n with
 | zero =>
  intro i K hi hK
  obtain ⟨K,rfl⟩:∃ q,K=q+1:=⟨K - 1,by omega⟩
  rw [sawmillref06_mark.l0,if_neg (by omega),List.drop_eq_nil_of_le (by rw [List.length_map];omega)]
  rfl
 | succ n ih =>
  intro i K hi hK
  obtain ⟨K,rfl⟩:∃ q,K=q+1:=⟨K - 1,by omega⟩
  have hlt:i < ms.length:=by omega
  have hr:rdOf ByteArray.empty ms (i:Int)=ms[i]:=by
   unfold rdOf
   rw [List.getD_eq_getElem?_getD,Int.toNat_natCast,List.getElem?_eq_getElem hlt]
   rfl
  have hd:(ms.map bl).drop i=bl ms[i] :: (ms.map bl).drop (i+1):=by
   rw [List.drop_eq_getElem_cons (by rw [List.length_map];exact hlt),List.getElem_map]
  have i1:=ih (i+1) K (by omega) (by omega)
  have q1:(i:Int) < (ms.length:Int):=by omega
  have q2:(0:Int)≤(i:Int):=by omega
  have q3:(0:Int)≤((ms[i].size:Nat):Int):=by omega
  have e:wrap64 ((i:Int)+1)=((i+1:Nat):Int):=qcH (i+1) (by omega)
  rw [sawmillref06_mark.l0,if_pos q1,if_pos q2,hr,e,hd,List.find?_cons,i1]
  by_cases g:(s.size:Int) ≥ (ms[i].size:Int)
  ·rw [if_pos g,if_pos q3,if_pos g,ByteArray.toList_eq,ByteArray.toList_eq]
   have hx:(s.extract 0 ms[i].size).data.toList=(bl s).take (bl ms[i]).length:=bl_prefix s _
   rw [hx,show ms[i].data.toList=bl ms[i] from rfl]
   by_cases g2:(bl s).take (bl ms[i]).length=bl ms[i]
   ·have hp:prefL (bl s) (bl ms[i])=true:=by unfold prefL;rw [g2];simp
    rw [if_pos g2,hp]
    simp only [Option.getD_some,mkB_bl]
   ·have hp:prefL (bl s) (bl ms[i])=false:=by unfold prefL;exact beq_eq_false_iff_ne.mpr g2
    rw [if_neg g2,hp]
  ·have hp:prefL (bl s) (bl ms[i])=false:=by
    unfold prefL
    refine beq_eq_false_iff_ne.mpr fun h=>g ?_
    have:=congrArg List.length h
    rw [List.length_take,qcM,qcM] at this
    omega
   rw [if_neg g,hp]
theorem rmark_prog (s:ByteArray) (K:Nat) (hK:30≤K):sawmillref06_mark.f K s=some (mkB (markL (bl s))):=by
 unfold sawmillref06_mark.f sawmillref06_Marks.f
 rw [Option.bind_some]
 have h:=rmark_l0 s [(⟨#[60,61]⟩:ByteArray),(⟨#[62,61]⟩:ByteArray),(⟨#[33,61]⟩:ByteArray),(⟨#[46,46]⟩:ByteArray),(⟨#[60]⟩:ByteArray),(⟨#[61]⟩:ByteArray),(⟨#[62]⟩:ByteArray),(⟨#[40]⟩:ByteArray),(⟨#[41]⟩:ByteArray),(⟨#[123]⟩:ByteArray),(⟨#[125]⟩:ByteArray),(⟨#[44]⟩:ByteArray),(⟨#[59]⟩:ByteArray),(⟨#[58]⟩:ByteArray),(⟨#[43]⟩:ByteArray),(⟨#[45]⟩:ByteArray),(⟨#[42]⟩:ByteArray),(⟨#[47]⟩:ByteArray),(⟨#[64]⟩:ByteArray)] (by decide) 19 0 K rfl (by omega)
 have h2:=find_marks (bl s)
 rw [List.drop_zero] at h
 refine h.trans ?_
 rw [← h2]
 rfl
theorem tw_bound (p:UInt8→Bool) (l:List UInt8) (k:Nat) (hk:k < (l.takeWhile p).length) (c:UInt8) (cs:List UInt8) (h:l.drop k=c :: cs):p c=true:=by
 have h1:(l.takeWhile p)[k]?=some c:=by
  rw [← take_tw,List.getElem?_take,if_pos hk]
  have:=congrArg (fun x=>x[0]?) h
  simpa using this
 exact tw_mem p l c (List.mem_of_getElem? h1)
theorem tw_end (p:UInt8→Bool) (l:List UInt8) (c:UInt8) (cs:List UInt8) (h:l.drop (l.takeWhile p).length=c :: cs):p c=false:=by
 induction l with
 | nil=>simp at h
 | cons x xs ih =>
  by_cases hx:p x=true
  ·simp only [List.takeWhile_cons,hx,if_true,List.length_cons,List.drop_succ_cons] at h
   exact ih h
  ·simp only [List.takeWhile_cons,hx,if_false,List.length_nil,List.drop_zero,Bool.false_eq_true] at h
   injection h with h1 h2
   rw [← h1]
   simpa using hx
theorem tw_extract (s:ByteArray) (p:UInt8→Bool) (i L:Nat) (hL:L=(((bl s).drop i).takeWhile p).length):s.extract ((i:Nat):Int).toNat ((i+L:Nat):Int).toNat=mkB (((bl s).drop i).takeWhile p):=by
 apply bl_inj
 rw [bl_extract,bl_mkB,Int.toNat_natCast,Int.toNat_natCast,show i+L - i=L by omega,hL,take_tw]
theorem l2_end (s:ByteArray) (acc:List S68) (i L K:Nat) (hi:i≤s.size) (hLe:i+L≤s.size) (hL:L=(((bl s).drop i).takeWhile isWrd).length) (hacc:acc.length≤1000000):(if (L:Int) > 16 then (some (([]:List S68),(6:Int),(i:Int))) else (if (0:Int)≤(i:Int) then (if (i:Int)≤((i+L:Nat):Int) then (if ((i+L:Nat):Int)≤(s.size:Int) then (if acc.length < 3518437208883 then ((sawmillref06_skip.f K s ((i+L:Nat):Int)).bind fun t123=>(sawmillref06_Scan.l0 K s (acc++[(⟨1,s.extract ((i:Nat):Int).toNat ((i+L:Nat):Int).toNat,0,(i:Int)⟩:S68)]) t123)) else none) else none) else none) else none))=(if L > 16 then some ([],6,(i:Int)) else (sawmillref06_skip.f K s ((i+L:Nat):Int)).bind fun t=>sawmillref06_Scan.l0 K s (acc++[(⟨1,mkB (((bl s).drop i).takeWhile isWrd),0,(i:Int)⟩:S68)]) t):=by
 by_cases g:L > 16
 ·have g1:(L:Int) > 16:=by omega
  rw [if_pos g1,if_pos g]
 ·have g1:¬ (L:Int) > 16:=by omega
  have q1:(0:Int)≤(i:Int):=by omega
  have q2:(i:Int)≤((i+L:Nat):Int):=by omega
  have q3:((i+L:Nat):Int)≤(s.size:Int):=by omega
  have q4:acc.length < 3518437208883:=by omega
  rw [if_neg g1,if_neg g,if_pos q1,if_pos q2,if_pos q3,if_pos q4,tw_extract s isWrd i L hL]
theorem rl1 (s:ByteArray) (hs:s.size≤1000000) (acc:List S68) (i:Nat) (hi:i≤s.size) (K:Nat) (L:Nat) (hL:L=(((bl s).drop i).takeWhile qcL).length):∀ n e:Nat,e+n=i+L→i≤e→sawmillref06_Scan.l1 (K+1+n) s acc i e 0 ⟨#[]⟩ 0 i=sawmillref06_Scan.j2 K s acc i ((i+L:Nat):Int) 0 ⟨#[]⟩ 0 i:=by
 have hLe:i+L≤s.size:=by
  have:=List.Sublist.length_le (List.takeWhile_sublist (l:=(bl s).drop i) qcL)
  rw [List.length_drop,qcM] at this
  omega
 intro n
 induction n with
 | zero =>
  intro e he hie
  have hee:e=i+L:=by omega
  subst hee
  rw [Nat.add_zero,sawmillref06_Scan.l1]
  by_cases h:i+L < s.size
  ·obtain ⟨c,cs,hc⟩:=drop_cons s (i+L) h
   obtain ⟨h1,h2,h3⟩:=bt_cons s c cs (i+L) hc
   have hp:qcL c=false:=tw_end qcL ((bl s).drop i) c cs (by rw [← hL,List.drop_drop];exact hc)
   have q1:((i+L:Nat):Int) < (s.size:Int):=by omega
   have q2:(0:Int)≤((i+L:Nat):Int):=by omega
   rw [if_pos q1,if_pos q2,h2,rdig_f,hp,Option.bind_some,if_neg Bool.false_ne_true]
  ·have q1:¬ ((i+L:Nat):Int) < (s.size:Int):=by omega
   rw [if_neg q1]
 | succ n ih =>
  intro e he hie
  have he2:e < s.size:=by omega
  obtain ⟨c,cs,hc⟩:=drop_cons s e he2
  obtain ⟨h1,h2,h3⟩:=bt_cons s c cs e hc
  have hp:qcL c=true:=tw_bound qcL ((bl s).drop i) (e - i) (by omega) c cs (by rw [List.drop_drop,show i+(e - i)=e by omega];exact hc)
  have q1:(e:Int) < (s.size:Int):=by omega
  have q2:(0:Int)≤(e:Int):=by omega
  have i1:=ih (e+1) (by omega) (by omega)
  have ew:wrap64 ((e:Int)+1)=((e+1:Nat):Int):=qcH (e+1) (by omega)
  rw [show K+1+(n+1)=(K+1+n)+1 from rfl,sawmillref06_Scan.l1,if_pos q1,if_pos q2,h2,rdig_f,hp,Option.bind_some,if_pos rfl,ew]
  exact i1
theorem rl2 (s:ByteArray) (hs:s.size≤1000000) (acc:List S68) (i:Nat) (hi:i≤s.size) (hacc:acc.length≤1000000) (K:Nat) (L:Nat) (hL:L=(((bl s).drop i).takeWhile isWrd).length):∀ n e:Nat,e+n=i+L→i≤e→sawmillref06_Scan.l2 (K+1+n) s acc i e 0 ⟨#[]⟩ 0 i=(if L > 16 then some ([],6,(i:Int)) else (sawmillref06_skip.f K s ((i+L:Nat):Int)).bind fun t=>sawmillref06_Scan.l0 K s (acc++[(⟨1,mkB (((bl s).drop i).takeWhile isWrd),0,(i:Int)⟩:S68)]) t):=by
 have hLe:i+L≤s.size:=by
  have:=List.Sublist.length_le (List.takeWhile_sublist (l:=(bl s).drop i) isWrd)
  rw [List.length_drop,qcM] at this
  omega
 intro n
 induction n with
 | zero =>
  intro e he hie
  have hee:e=i+L:=by omega
  subst hee
  have hw:wrap64 (((i+L:Nat):Int) - (i:Int))=(L:Int):=by
   rw [show ((i+L:Nat):Int) - (i:Int)=(L:Int) by omega]
   exact qcH L (by omega)
  rw [Nat.add_zero,sawmillref06_Scan.l2]
  by_cases h:i+L < s.size
  ·obtain ⟨c,cs,hc⟩:=drop_cons s (i+L) h
   obtain ⟨h1,h2,h3⟩:=bt_cons s c cs (i+L) hc
   have hp:isWrd c=false:=tw_end isWrd ((bl s).drop i) c cs (by rw [← hL,List.drop_drop];exact hc)
   have q1:((i+L:Nat):Int) < (s.size:Int):=by omega
   have q2:(0:Int)≤((i+L:Nat):Int):=by omega
   rw [if_pos q1,if_pos q2,h2,rlet_f,hp,Option.bind_some,if_neg Bool.false_ne_true,hw]
   exact l2_end s acc i L K hi hLe hL hacc
  ·have q1:¬ ((i+L:Nat):Int) < (s.size:Int):=by omega
   rw [if_neg q1,hw]
   exact l2_end s acc i L K hi hLe hL hacc
 | succ n ih =>
  intro e he hie
  have he2:e < s.size:=by omega
  obtain ⟨c,cs,hc⟩:=drop_cons s e he2
  obtain ⟨h1,h2,h3⟩:=bt_cons s c cs e hc
  have hp:isWrd c=true:=tw_bound isWrd ((bl s).drop i) (e - i) (by omega) c cs (by rw [List.drop_drop,show i+(e - i)=e by omega];exact hc)
  have q1:(e:Int) < (s.size:Int):=by omega
  have q2:(0:Int)≤(e:Int):=by omega
  have i1:=ih (e+1) (by omega) (by omega)
  have ew:wrap64 ((e:Int)+1)=((e+1:Nat):Int):=qcH (e+1) (by omega)
  rw [show K+1+(n+1)=(K+1+n)+1 from rfl,sawmillref06_Scan.l2,if_pos q1,if_pos q2,h2,rlet_f,hp,Option.bind_some,if_pos rfl,ew]
  exact i1
theorem scan_step (s:ByteArray) (hs:s.size≤8000) (n i:Nat) (acc:List S68) (c:UInt8) (cs:List UInt8) (hc:(bl s).drop i=c :: cs) (hn:s.size - i < n+1) (ha:acc.length≤i)
  (ih:∀ (i:Nat) (acc:List S68) (K:Nat),i≤s.size→s.size - i < n→acc.length≤i→4 * (s.size - i)+3 * s.size+40≤K→sawmillref06_Scan.l0 K s acc i=some (accOut acc (scanL n ((bl s).drop i) i)))
  (k:Int) (tx:List UInt8) (nv:Int) (L:Nat) (hL:L=tx.length) (hF:qbT (c :: cs)=(k,tx,nv,0)) (K:Nat) (hK:4 * (s.size - (i+L))+3 * s.size+40≤K) :
  ((sawmillref06_skip.f K s ((i+L:Nat):Int)).bind fun t=>sawmillref06_Scan.l0 K s (acc++[(⟨k,mkB tx,nv,(i:Int)⟩:S68)]) t)=some (accOut acc (scanL (n+1) (c :: cs) i)):=by
 have hcl:(c :: cs).length=s.size - i:=by rw [← hc,List.length_drop,qcM]
 obtain ⟨q1,q2⟩:=first_ok c cs (by rw [hF])
 rw [hF,← hL,hcl] at q2
 rw [hF,← hL] at q1
 have hsk:=skR_le ((c :: cs).drop L) false
 rw [List.length_drop,hcl] at hsk
 have hd:(bl s).drop (i+L)=(c :: cs).drop L:=by rw [← List.drop_drop,hc]
 have hd2:(bl s).drop (i+L+skR false ((c :: cs).drop L))=(c :: cs).drop (L+skR false ((c :: cs).drop L)):=by rw [Nat.add_assoc,← List.drop_drop,hc]
 have f1:i+L+skR false ((c :: cs).drop L)≤s.size:=by omega
 have f2:s.size - (i+L+skR false ((c :: cs).drop L)) < n:=by omega
 have f3:(acc++[(⟨k,mkB tx,nv,(i:Int)⟩:S68)]).length≤i+L+skR false ((c :: cs).drop L):=by
  rw [List.length_append,List.length_singleton]
  omega
 have f4:4 * (s.size - (i+L+skR false ((c :: cs).drop L)))+3 * s.size+40≤K:=by omega
 rw [rskip_prog s (by omega) (i+L) K (by omega) (by omega),hd,Option.bind_some,ih _ _ K f1 f2 f3 f4,hd2]
 simp only [scanL,hF,← hL]
 rw [if_pos trivial,Nat.add_assoc]
 unfold accOut
 by_cases g2:(scanL n ((c :: cs).drop (L+skR false ((c :: cs).drop L))) (i+(L+skR false ((c :: cs).drop L)))).2.1=0
 ·rw [if_pos g2,if_pos g2,if_pos rfl,List.append_assoc]
  rfl
 ·rw [if_neg g2,if_neg g2,if_neg g2]
theorem rscan_l0 (s:ByteArray) (hs:s.size≤8000):∀ (n i:Nat) (acc:List S68) (K:Nat),i≤s.size→s.size - i < n→acc.length≤i→4 * (s.size - i)+3 * s.size+40≤K→sawmillref06_Scan.l0 K s acc i=some (accOut acc (scanL n ((bl s).drop i) i)):=by
 intro n
 induction n with
 | zero=>intro i acc K _ h;exact absurd h (Nat.not_lt_zero _)
 | succ n ih =>
  intro i acc K hi hn ha hK
  by_cases h:i=s.size
  ·obtain ⟨K,rfl⟩:∃ q,K=q+1:=⟨K - 1,by omega⟩
   have q1:¬ (i:Int) < (s.size:Int):=by omega
   have q2:acc.length < 3518437208883:=by omega
   rw [sawmillref06_Scan.l0,if_neg q1,if_pos q2,List.drop_eq_nil_of_le (by rw [qcM];omega),h]
   rfl
  ·obtain ⟨c,cs,hc⟩:=drop_cons s i (by omega)
   obtain ⟨h1,h2,h3⟩:=bt_cons s c cs i hc
   have hcl:(c :: cs).length=s.size - i:=by rw [← hc,List.length_drop,qcM]
   have q1:(i:Int) < (s.size:Int):=by omega
   have q2:(0:Int)≤(i:Int):=by omega
   have q3:(i:Int)≤(s.size:Int):=by omega
   have q4:acc.length < 3518437208883:=by omega
   have err:∀ e:Int,e ≠ 0→qbT (c :: cs)=(0,[],0,e)→some (([]:List S68),e,(i:Int))=some (accOut acc (scanL (n+1) (c :: cs) i)):=by
    intro e he hF
    simp only [scanL,hF]
    rw [if_neg he]
    unfold accOut
    rw [if_neg he]
   by_cases b1:qcL c=true
   ·obtain ⟨L,hL⟩:∃ L,L=((c :: cs).takeWhile qcL).length:=⟨_,rfl⟩
    have hL1:1≤L:=by
     rw [hL,List.takeWhile_cons,b1]
     simp
    have hLe:L≤s.size - i:=by
     have:=List.Sublist.length_le (List.takeWhile_sublist (l:=c :: cs) qcL)
     omega
    have hL':L=(((bl s).drop i).takeWhile qcL).length:=by rw [hc];exact hL
    obtain ⟨K,rfl⟩:∃ q,K=(q+1+1+L)+1:=⟨K - 3 - L,by omega⟩
    have q5:(i:Int)≤((i+L:Nat):Int):=by omega
    have q6:((i+L:Nat):Int)≤(s.size:Int):=by omega
    have hx:=tw_extract s qcL i L hL'
    rw [hc] at hx
    have hz:(mkB ((c :: cs).takeWhile qcL)).size≤1000000:=by rw [mkB_size,← hL];omega
    have hz2:(mkB ((c :: cs).takeWhile qcL)).size+2≤K:=by rw [mkB_size,← hL];omega
    rw [sawmillref06_Scan.l0,if_pos q1,if_pos q2,h2,rdig_f,b1,Option.bind_some,if_pos rfl,rl1 s (by omega) acc i hi (K+1) L hL' L i rfl (Nat.le_refl _),sawmillref06_Scan.j2,if_pos q2,if_pos q5,if_pos q6,hx,rnumber_prog _ hz (by rw [bl_mkB];exact tw_mem _ _) K hz2,Option.bind_some,bl_mkB,hc]
    by_cases g:(numL ((c :: cs).takeWhile qcL)).2=0
    ·have hF:qbT (c :: cs)=(2,(c :: cs).takeWhile qcL,(numL ((c :: cs).takeWhile qcL)).1,0):=by
      simp only [qbT]
      rw [if_pos b1,if_pos g]
     rw [if_pos g,if_pos q4]
     exact scan_step s hs n i acc c cs hc hn ha ih 2 _ _ L hL hF K (by omega)
    ·have hF:qbT (c :: cs)=(0,[],0,(numL ((c :: cs).takeWhile qcL)).2):=by
      simp only [qbT]
      rw [if_pos b1,if_neg g]
     rw [if_neg g]
     exact err _ g hF
   ·have b1f:qcL c=false:=by simpa using b1
    by_cases b2:isWrd c=true
    ·obtain ⟨L,hL⟩:∃ L,L=((c :: cs).takeWhile isWrd).length:=⟨_,rfl⟩
     have hL1:1≤L:=by
      rw [hL,List.takeWhile_cons,b2]
      simp
     have hLe:L≤s.size - i:=by
      have:=List.Sublist.length_le (List.takeWhile_sublist (l:=c :: cs) isWrd)
      omega
     have hL':L=(((bl s).drop i).takeWhile isWrd).length:=by rw [hc];exact hL
     obtain ⟨K,rfl⟩:∃ q,K=(q+1+L)+1:=⟨K - 2 - L,by omega⟩
     rw [sawmillref06_Scan.l0,if_pos q1,if_pos q2,h2,rdig_f,b1f,Option.bind_some,if_neg Bool.false_ne_true,rlet_f,b2,Option.bind_some,if_pos rfl,rl2 s (by omega) acc i hi (by omega) K L hL' L i rfl (Nat.le_refl _),hc]
     by_cases g:L > 16
     ·have hF:qbT (c :: cs)=(0,[],0,6):=by
       simp only [qbT]
       rw [if_neg b1,if_pos b2,if_pos (by rw [← hL];exact g)]
      rw [if_pos g]
      exact err 6 (by decide) hF
     ·have hF:qbT (c :: cs)=(1,(c :: cs).takeWhile isWrd,0,0):=by
       simp only [qbT]
       rw [if_neg b1,if_pos b2,if_neg (by rw [← hL];exact g)]
      rw [if_neg g]
      exact scan_step s hs n i acc c cs hc hn ha ih 1 _ _ L hL hF K (by omega)
    ·have b2f:isWrd c=false:=by simpa using b2
     obtain ⟨K,rfl⟩:∃ q,K=q+1:=⟨K - 1,by omega⟩
     rw [sawmillref06_Scan.l0,if_pos q1,if_pos q2,h2,rdig_f,b1f,Option.bind_some,if_neg Bool.false_ne_true,rlet_f,b2f,Option.bind_some,if_neg Bool.false_ne_true,if_pos q3,rmark_prog _ K (by omega),Option.bind_some,Int.toNat_natCast,bl_suffix,hc,ByteArray.toList_eq]
     have hmb:(mkB (markL (c :: cs))).data.toList=markL (c :: cs):=bl_mkB _
     rw [hmb]
     have good:∀ L:Nat,L=(markL (c :: cs)).length→L≤s.size - i→markL (c :: cs)=(c :: cs).take L→markL (c :: cs) ≠ []→qbT (c :: cs)=(3,markL (c :: cs),0,0)→(if markL (c :: cs)=[] then some (([]:List S68),(5:Int),(i:Int)) else (if (i:Int)≤(wrap64 ((i:Int)+((mkB (markL (c :: cs))).size:Int))) then (if (wrap64 ((i:Int)+((mkB (markL (c :: cs))).size:Int)))≤(s.size:Int) then (if acc.length < 3518437208883 then ((sawmillref06_skip.f K s (wrap64 ((i:Int)+((mkB (markL (c :: cs))).size:Int)))).bind fun t128=>(sawmillref06_Scan.l0 K s (acc++[(⟨3,s.extract i ((wrap64 ((i:Int)+((mkB (markL (c :: cs))).size:Int))):Int).toNat,0,(i:Int)⟩:S68)]) t128)) else none) else none) else none))=some (accOut acc (scanL (n+1) (c :: cs) i)):=by
      intro L hL hLe hLt hne hF
      have hL1:1≤L:=by
       have:=List.length_pos_iff.mpr hne
       omega
      have q5:(i:Int)≤((i+L:Nat):Int):=by omega
      have q6:((i+L:Nat):Int)≤(s.size:Int):=by omega
      have hk:4 * (s.size - (i+L))+3 * s.size+40≤K:=by omega
      have hw:wrap64 ((i:Int)+((mkB (markL (c :: cs))).size:Int))=((i+L:Nat):Int):=by
       rw [mkB_size,← hL,← Int.natCast_add]
       exact qcH (i+L) (by omega)
      have hx:s.extract i (i+L)=mkB (markL (c :: cs)):=by
       apply bl_inj
       rw [bl_extract,bl_mkB,show i+L - i=L by omega,hc,← hLt]
      rw [if_neg hne,hw,if_pos q5,if_pos q6,if_pos q4,Int.toNat_natCast,hx]
      exact scan_step s hs n i acc c cs hc hn ha ih 3 _ _ L hL hF K hk
     by_cases g1:isMk ((c :: cs).take 2)=true
     ·have hm:markL (c :: cs)=(c :: cs).take 2:=by
       unfold markL
       rw [if_pos g1]
      have hF:qbT (c :: cs)=(3,markL (c :: cs),0,0):=by
       rw [hm]
       simp only [qbT]
       rw [if_neg b1,if_neg b2,if_pos g1]
      refine good (markL (c :: cs)).length rfl ?_ ?_ ?_ hF
      ·rw [hm,List.length_take,hcl]
       omega
      ·rw [hm,List.length_take]
       by_cases h4:2≤(c :: cs).length
       ·rw [Nat.min_eq_left h4]
       ·rw [Nat.min_eq_right (by omega),List.take_of_length_le (Nat.le_refl _),List.take_of_length_le (by omega)]
      ·rw [hm]
       simp
     ·by_cases g2:isMk ((c :: cs).take 1)=true
      ·have hm:markL (c :: cs)=(c :: cs).take 1:=by
        unfold markL
        rw [if_neg g1,if_pos g2]
       have hF:qbT (c :: cs)=(3,markL (c :: cs),0,0):=by
        rw [hm]
        simp only [qbT]
        rw [if_neg b1,if_neg b2,if_neg g1,if_pos g2]
       refine good 1 (by rw [hm];rfl) (by omega) hm (by rw [hm];simp) hF
      ·have hm:markL (c :: cs)=[]:=by
        unfold markL
        rw [if_neg g1,if_neg g2]
       have hF:qbT (c :: cs)=(0,[],0,5):=by
        simp only [qbT]
        rw [if_neg b1,if_neg b2,if_neg g1,if_neg g2]
       rw [if_pos hm]
       exact err 5 (by decide) hF
theorem rscan_prog (s:ByteArray) (K:Nat) (hK:7 * s.size+40≤K):sawmillref06_Scan.f K s=some (scanB s):=by
 unfold sawmillref06_Scan.f scanB
 by_cases g:s.size > 8000
 ·rw [if_pos g,if_pos (by omega)]
 ·have hsk:=skR_le (bl s) false
  rw [qcM] at hsk
  have h:=rskip_prog s (by omega) 0 K (Nat.zero_le _) (by omega)
  rw [List.drop_zero,Nat.zero_add] at h
  rw [if_neg g,if_neg (by omega),show (0:Int)=((0:Nat):Int) from rfl,h,Option.bind_some,rscan_l0 s (by omega) (s.size+1) _ [] K hsk (by omega) (Nat.zero_le _) (by omega),accOut_nil]
end Go.Proofs.YtehdmplngmbnnaaDoor.P
namespace Go.Proofs.YtehdmplngmbnnaaDoor.P
open Go.RowKit Go.Proofs.YtehdmplngmbnnaaDoorW.PrintWords Go.Proofs.YtehdmplngmbnnaaDoorW.PrintLast Go.Proofs.YtehdmplngmbnnaaDoorW.PrintMore
attribute [local go_sem] qbV qbW qcC qcD qbQ qbR qbX qbY
attribute [local go_sem] qbL
set_option linter.unusedVariables false
set_option linter.unusedSimpArgs false
def sawmillref37_Find.l0:Nat→List (S24)→ByteArray→Int→Option (ByteArray × Int × (List (S52)) × Bool)
 | 0,_,_,_=>none
 | k+1,x0,x1,x6=>if x6 < (x0.length:Int) then (if 0≤x6 then (if ((qaP x0 x6).f0).toList=x1.toList then (some ((qaP x0 x6).f0,(qaP x0 x6).f1,(qaP x0 x6).f2,true)) else (sawmillref37_Find.l0 k x0 x1 (wrap64 (x6+1)))) else (none)) else (some ((⟨#[]⟩:ByteArray),0,([]:List (S52)),false))
def sawmillref37_Find.f (k:Nat) (l0:List (S24)) (a1:ByteArray):Option (ByteArray × Int × (List (S52)) × Bool):=sawmillref37_Find.l0 k l0 a1 0
set_option maxHeartbeats 8000000 in
set_option maxRecDepth 100000 in
theorem sawmillref37_Find.calls (k:Nat) (P0_:Nat→Prop) (A0:Option Addr) (c0:Nat) (l0:List (S24)) (a1:ByteArray) (r1:ByteArray) (r2:Int) (r3:List (S52)) (r4:Bool) (w:World) (hs0:Kd.V k24 24 w w.heap.size (fun k_=>P0_ k_) (.slice A0 l0.length c0) l0) (h:sawmillref37_Find.f k l0 a1=some (r1,r2,r3,r4)) :
  Calls Tryd.prog 15 #[.slice A0 l0.length c0,.string a1] w fun e w'=>∃ v2_:Value,e=.returned (.tuple #[.agg #[.string r1,.int .i64 r2,v2_],.bool r4])∧Kd.V k52 52 w' w.heap.size (fun k_=>(P0_ k_ ∨ w.heap.size≤k_)) v2_ r3∧Below w.heap.size w w':=by
 have hu24:=Tryd.underlying24
 have HO0:=Aside0.mk (show Kd.V k24 24 w w.heap.size (fun k_=>(P0_ k_ ∨ w.heap.size≤k_)) (.slice A0 l0.length c0) l0 from Kd.V_mono hs0 (fun k_ hk=>.inl hk))
 have HB:=Aside0.mk (Below.refl w.heap.size w)
 have H:(sawmillref37_Find.l0 k l0 a1 0)=some (r1,r2,r3,r4):=h
 clear h
 have H':=Aside0.mk H
 clear H
 go_enter Tryd.func15,Tryd.ntmps15
 go_wp2_with (first|((with_reducible refine qbE (N:=4) rfl ?_);refine qbC ?hg (N:=4) ?hd (cs:=#[.string (⟨#[]⟩:ByteArray),.int .i64 0,.slice none 0 0]) (t:=24) ?hr ?_;(case hd=>rfl);(case hg=>rfl);(case hr=>first|(go_simp;done)|(go_simp;rfl));intro gb101 hg w3 hbox hb;have n0_:=Aside0.mk (Kd.V_below (Kd.V_elderB (by (with_reducible repeat (first|apply Kd.V_alloc|apply Kd.V_drewN|apply Kd.V_drew));exact HO0.out) gb101 (Nat.le_of_eq hg.symm)) hb);have n1_:=Aside0.mk (qaN (by repeat (first|(with_reducible first|exact HB.out|apply qaB|apply qaA|apply qaC)|exact HB.out)) hb);have n2_:=Aside0.mk (hbox);have n3_:=Aside0.mk ((by rw [hg];exact (qaK (by repeat (first|(with_reducible first|exact HB.out|apply qaB|apply qaA|apply qaC)|exact HB.out))):w.heap.size≤gb101));have n4_:=Aside0.mk ((by rw [hg];exact (qaK (by repeat (first|(with_reducible first|exact HB.out|apply qaB|apply qaA|apply qaC)|exact HB.out))):w.heap.size≤gb101));clear HO0;clear HB;have HO0:=n0_;have HB:=n1_;have BK101:=n2_;have GW101:=n3_;have GE101:=n4_;clear n0_ n1_ n2_ n3_ n4_;clear hb hbox hg))
 go_loopg [6] k (fun kq v6 w'=>∃ (x6_1:Int) (x102000_1:ByteArray) (x102001_1:Int),v6=.int .i64 x6_1∧Aside0 (sawmillref37_Find.l0 kq l0 a1 x6_1=some (r1,r2,r3,r4))∧Aside0 (kq≤k)∧Aside0 (Kd.V k24 24 w' w.heap.size (fun k_=>(P0_ k_ ∨ w.heap.size≤k_)∧k_ ≠ gb101) (.slice A0 l0.length c0) l0)∧Aside0 (w'.heap[gb101]?=some (.cells #[.string x102000_1,.int .i64 x102001_1,(.slice none 0 0)] 24 (0,0)))∧Aside0 (Below w.heap.size w w'))
 case atStart=>exact ⟨(0),((⟨#[]⟩:ByteArray)),(0),(by first|rfl|(simp;done)|(simp [*];done)),H',⟨Nat.le_refl _⟩,⟨by (with_reducible repeat (first|apply Kd.V_alloc|apply Kd.V_drewN|apply Kd.V_drew));exact HO0.out⟩,⟨by (with_reducible repeat (first|refine qaH ?_ _|refine qaI ?_|refine qaG ?_ _));exact BK101.out⟩,⟨by repeat (first|(with_reducible first|exact HB.out|apply qaB|apply qaA|apply qaC|refine qaF ?_ GE101.out)|exact HB.out)⟩⟩
 case round =>
  clear H'
  try clear c1
  try clear p2
  obtain ⟨x6_1,x102000_1,x102001_1,rfl,HA,HK1,HO_0,BK101,HB⟩:=hrel
  cases gk with
  | zero=>exact absurd HA.out (by simp [sawmillref37_Find.l0])
  | succ k1 =>
   have H:=HA.out
   clear HA
   simp only [sawmillref37_Find.l0] at H
   by_cases c4:x6_1 < (l0.length:Int)
   ·rw [if_pos c4] at H
    have c4b0:decide (x6_1 < (l0.length:Int))=true:=decide_eq_true c4
    clear c4
    by_cases c5:0≤x6_1
    ·rw [if_pos c5] at H
     have c5b0:decide (0≤x6_1)=true:=decide_eq_true c5
     clear c5
     by_cases c6:((qaP l0 x6_1).f0).toList=a1.toList
     ·rw [if_pos c6] at H
      have c6b0:(((qaP l0 x6_1).f0).toList == a1.toList)=true:=beq_iff_eq.mpr c6
      have c6b1:(((qaP l0 x6_1).f0).toList != a1.toList)=false:=bne_eq_false_iff_eq.mpr c6
      clear c6
      simp only [Option.some.injEq,Prod.mk.injEq] at H
      obtain ⟨rfl,rfl,rfl,rfl⟩:=H
      have p102:0≤(x6_1:Int):=of_decide_eq_true (by first|(with_reducible assumption)|assumption)
      have q102:x6_1 < (l0.length:Int):=of_decide_eq_true (by first|(with_reducible assumption)|assumption)
      obtain ⟨ad102,A102_2,c102_2,e102,hx102_0,hx102_1,hx102_2,hl102_2,hi102_2⟩:=at_T24 (Kd.V_reads' HO_0.out).2.2 x6_1 p102 q102
      cases e102
      obtain ⟨ce102,hce102,hMe102,hcc102⟩:=Kd.V_get HO_0.out z24 x6_1 p102 (by first|exact q102|exact of_decide_eq_true (by first|(with_reducible assumption)|assumption)|(have e_:=(Kd.V_reads' HO_0.out).1;omega))
      obtain ⟨ua102_2,uc102_2,rfl,ul102_2,ge102_2⟩:=k24_openF hMe102
      have hv102_2:=hcc102 2 _ rfl
      rw [add_field _ _ 2 (by omega)] at hv102_2
      replace hv102_2:=Option.some.inj (hv102_2.symm.trans hx102_2)
      injection hv102_2 with hva_ hvn_ hvc_
      rw [hva_] at ge102_2
      rw [hvc_] at ul102_2
      have HL102_2:=Aside0.mk (show Kd.V k52 52 _ w.heap.size _ _ ((qaP l0 x6_1).f2) from Kd.V_mk ul102_2 ge102_2)
      clear hva_ hvn_ hvc_ ge102_2 ul102_2
      clear hcc102 hce102
      have HR102_2:=Aside0.mk hi102_2
      have HC102_2:=Aside0.mk hl102_2
      clear hi102_2 hl102_2
      replace p102:=eq_true p102
      replace q102:=eq_true q102
      have p103:0≤(x6_1:Int):=of_decide_eq_true (by first|(with_reducible assumption)|assumption)
      have q103:x6_1 < (l0.length:Int):=of_decide_eq_true (by first|(with_reducible assumption)|assumption)
      obtain ⟨ad103,A103_2,c103_2,e103,hx103_0,hx103_1,hx103_2,hl103_2,hi103_2⟩:=at_T24 (Kd.V_reads' HO_0.out).2.2 x6_1 p103 q103
      obtain rfl:ad102=ad103:=(by injection e103)
      obtain ⟨ce103,hce103,hMe103,hcc103⟩:=Kd.V_get HO_0.out z24 x6_1 p103 (by first|exact q103|exact of_decide_eq_true (by first|(with_reducible assumption)|assumption)|(have e_:=(Kd.V_reads' HO_0.out).1;omega))
      obtain ⟨ua103_2,uc103_2,rfl,ul103_2,ge103_2⟩:=k24_openF hMe103
      have hv103_2:=hcc103 2 _ rfl
      rw [add_field _ _ 2 (by omega)] at hv103_2
      replace hv103_2:=Option.some.inj (hv103_2.symm.trans hx103_2)
      injection hv103_2 with hva_ hvn_ hvc_
      rw [hva_] at ge103_2
      rw [hvc_] at ul103_2
      have HL103_2:=Aside0.mk (show Kd.V k52 52 _ w.heap.size _ _ ((qaP l0 x6_1).f2) from Kd.V_mk ul103_2 ge103_2)
      clear hva_ hvn_ hvc_ ge103_2 ul103_2
      clear hcc103 hce103
      have HR103_2:=Aside0.mk hi103_2
      have HC103_2:=Aside0.mk hl103_2
      clear hi103_2 hl103_2
      replace p103:=eq_true p103
      replace q103:=eq_true q103
      have ea_:=Option.some.inj (hx102_2.symm.trans hx103_2)
      injection ea_ with ea_ en_ ec_
      subst ea_
      subst ec_
      clear en_
      have hcz7_0:wr.cell? ⟨gb101,0,none⟩=some (.string x102000_1):=(qaE BK101.out 0).trans rfl
      have hcz7_1:wr.cell? ⟨gb101,1,none⟩=some (.int .i64 x102001_1):=(qaE BK101.out 1).trans rfl
      have hcz7_2:wr.cell? ⟨gb101,2,none⟩=some (.slice none 0 0):=(qaE BK101.out 2).trans rfl
      have hfz7_0:=qaD BK101.out 0
      have hfz7_1:=qaD BK101.out 1
      have hfz7_2:=qaD BK101.out 2
      go_wp2
      refine bodyPost_ret (qcF rfl _ _ gb101 24 #[.string ((qaP l0 x6_1).f0),.int .i64 ((qaP l0 x6_1).f1),.slice A102_2 ((qaP l0 x6_1).f2).length c102_2] (0,0) _ rfl (by (with_reducible repeat (first|refine qaH ?_ _|refine qaI ?_|refine qaG ?_ _));refine qaR (cs:=#[.string ((qaP l0 x6_1).f0),.int .i64 ((qaP l0 x6_1).f1),.slice none 0 0]) ?_ 2 _ rfl;(with_reducible repeat (first|refine qaH ?_ _|refine qaI ?_|refine qaG ?_ _));refine qaR (cs:=#[.string ((qaP l0 x6_1).f0),.int .i64 x102001_1,.slice none 0 0]) ?_ 1 _ rfl;(with_reducible repeat (first|refine qaH ?_ _|refine qaI ?_|refine qaG ?_ _));refine qaR (cs:=#[.string x102000_1,.int .i64 x102001_1,.slice none 0 0]) ?_ 0 _ rfl;(with_reducible repeat (first|refine qaH ?_ _|refine qaI ?_|refine qaG ?_ _));exact BK101.out) Tryd.underlying24 rfl (by kernel_rfl)) rfl ?_
      exact ⟨_,by first|rfl|(simp [qaL,qaM]<;>rfl)|(simp [*,qaL,qaM]<;>rfl),by (with_reducible repeat (first|apply Kd.V_alloc|apply Kd.V_drewN|apply Kd.V_drew));exact Kd.V_mono (Kd.V_far (p:=⟨gb101,2,none⟩) (Kd.V_far (p:=⟨gb101,1,none⟩) (Kd.V_far (p:=⟨gb101,0,none⟩) (Kd.V_mono HL103_2.out (fun k_ hk=>(⟨hk,hk.2⟩:_∧k_ ≠ gb101))) (fun _ hk=>hk.2) (.string ((qaP l0 x6_1).f0))) (fun _ hk=>hk.2) (.int .i64 ((qaP l0 x6_1).f1))) (fun _ hk=>hk.2) (.slice A102_2 ((qaP l0 x6_1).f2).length c102_2)) (fun _ hk=>hk.1.1),by repeat (first|(with_reducible first|exact HB.out|apply qaB|apply qaA|apply qaC|refine qaF ?_ GE101.out)|exact HB.out)⟩
     ·rw [if_neg c6] at H
      have c6b0:(((qaP l0 x6_1).f0).toList == a1.toList)=false:=beq_eq_false_iff_ne.mpr c6
      have c6b1:(((qaP l0 x6_1).f0).toList != a1.toList)=true:=bne_iff_ne.mpr c6
      have H':=Aside0.mk H
      clear H
      have p102:0≤(x6_1:Int):=of_decide_eq_true (by first|(with_reducible assumption)|assumption)
      have q102:x6_1 < (l0.length:Int):=of_decide_eq_true (by first|(with_reducible assumption)|assumption)
      obtain ⟨ad102,A102_2,c102_2,e102,hx102_0,hx102_1,hx102_2,hl102_2,hi102_2⟩:=at_T24 (Kd.V_reads' HO_0.out).2.2 x6_1 p102 q102
      cases e102
      obtain ⟨ce102,hce102,hMe102,hcc102⟩:=Kd.V_get HO_0.out z24 x6_1 p102 (by first|exact q102|exact of_decide_eq_true (by first|(with_reducible assumption)|assumption)|(have e_:=(Kd.V_reads' HO_0.out).1;omega))
      obtain ⟨ua102_2,uc102_2,rfl,ul102_2,ge102_2⟩:=k24_openF hMe102
      have hv102_2:=hcc102 2 _ rfl
      rw [add_field _ _ 2 (by omega)] at hv102_2
      replace hv102_2:=Option.some.inj (hv102_2.symm.trans hx102_2)
      injection hv102_2 with hva_ hvn_ hvc_
      rw [hva_] at ge102_2
      rw [hvc_] at ul102_2
      have HL102_2:=Aside0.mk (show Kd.V k52 52 _ w.heap.size _ _ ((qaP l0 x6_1).f2) from Kd.V_mk ul102_2 ge102_2)
      clear hva_ hvn_ hvc_ ge102_2 ul102_2
      clear hcc102 hce102
      have HR102_2:=Aside0.mk hi102_2
      have HC102_2:=Aside0.mk hl102_2
      clear hi102_2 hl102_2
      replace p102:=eq_true p102
      replace q102:=eq_true q102
      go_wp2
      go_roundg k1
      case measure=>have:=HK1.out;omega
      case rel=>exact ⟨(wrap64 (x6_1+1)),(x102000_1),(x102001_1),(by first|rfl|(simp;done)|(simp [*];done)),H',⟨by have:=HK1.out;omega⟩,⟨by (with_reducible repeat (first|apply Kd.V_alloc|apply Kd.V_drewN|apply Kd.V_drew));exact HO_0.out⟩,⟨by (with_reducible repeat (first|refine qaH ?_ _|refine qaI ?_|refine qaG ?_ _));exact BK101.out⟩,⟨by repeat (first|(with_reducible first|exact HB.out|apply qaB|apply qaA|apply qaC|refine qaF ?_ GE101.out)|exact HB.out)⟩⟩
    ·rw [if_neg c5] at H
     exact absurd H (by simp)
   ·rw [if_neg c4] at H
    have c4b0:decide (x6_1 < (l0.length:Int))=false:=decide_eq_false c4
    clear c4
    simp only [Option.some.injEq,Prod.mk.injEq] at H
    obtain ⟨rfl,rfl,rfl,rfl⟩:=H
    have hcz8_0:wr.cell? ⟨gb101,0,none⟩=some (.string x102000_1):=(qaE BK101.out 0).trans rfl
    have hcz8_1:wr.cell? ⟨gb101,1,none⟩=some (.int .i64 x102001_1):=(qaE BK101.out 1).trans rfl
    have hcz8_2:wr.cell? ⟨gb101,2,none⟩=some (.slice none 0 0):=(qaE BK101.out 2).trans rfl
    have hfz8_0:=qaD BK101.out 0
    have hfz8_1:=qaD BK101.out 1
    have hfz8_2:=qaD BK101.out 2
    go_wp2
    refine bodyPost_ret (qcF rfl _ _ gb101 24 #[.string (⟨#[]⟩:ByteArray),.int .i64 0,.slice none 0 0] (0,0) _ rfl (by (with_reducible repeat (first|refine qaH ?_ _|refine qaI ?_|refine qaG ?_ _));refine qaR (cs:=#[.string (⟨#[]⟩:ByteArray),.int .i64 0,.slice none 0 0]) ?_ 2 _ rfl;(with_reducible repeat (first|refine qaH ?_ _|refine qaI ?_|refine qaG ?_ _));refine qaR (cs:=#[.string (⟨#[]⟩:ByteArray),.int .i64 x102001_1,.slice none 0 0]) ?_ 1 _ rfl;(with_reducible repeat (first|refine qaH ?_ _|refine qaI ?_|refine qaG ?_ _));refine qaR (cs:=#[.string x102000_1,.int .i64 x102001_1,.slice none 0 0]) ?_ 0 _ rfl;(with_reducible repeat (first|refine qaH ?_ _|refine qaI ?_|refine qaG ?_ _));exact BK101.out) Tryd.underlying24 rfl (by kernel_rfl)) rfl ?_
    exact ⟨_,by first|rfl|(simp [qaL,qaM]<;>rfl)|(simp [*,qaL,qaM]<;>rfl),Kd.V_nil _ _ _ _ _,by repeat (first|(with_reducible first|exact HB.out|apply qaB|apply qaA|apply qaC|refine qaF ?_ GE101.out)|exact HB.out)⟩
end Go.Proofs.YtehdmplngmbnnaaDoor.P
namespace Go.Proofs.YtehdmplngmbnnaaDoor.P
open Go.RowKit Go.Proofs.YtehdmplngmbnnaaDoorW.PrintWords
set_option linter.unusedVariables false
set_option linter.unusedSimpArgs false
theorem find_l0 (n:ByteArray) (l:List S24) (hl:l.length≤1000000):∀ (d k i:Nat),i+d=l.length→d < k→sawmillref37_Find.l0 k l n (i:Int)=some (found ((l.drop i).find? (hasNm n))):=by
 intro d
 induction d with
 | zero =>
  intro k i hi hk
  obtain ⟨k,rfl⟩:∃ m,k=m+1:=⟨k - 1,by omega⟩
  simp only [sawmillref37_Find.l0]
  rw [if_neg (by omega),List.drop_of_length_le (by omega)]
  rfl
 | succ d ih =>
  intro k i hi hk
  obtain ⟨k,rfl⟩:∃ m,k=m+1:=⟨k - 1,by omega⟩
  have e:wrap64 ((i:Int)+1)=((i+1:Nat):Int):=wrap_nat i 1000000 (by omega) (by omega)
  have hd:l.drop i=qaP l (i:Int) :: l.drop (i+1):=by
   rw [List.drop_eq_getElem_cons (by omega),rd_get i (by omega)]
  simp only [sawmillref37_Find.l0]
  rw [if_pos (by omega),if_pos (by omega),e,ih k (i+1) (by omega) (by omega),hd]
  generalize qaP l (i:Int)=s
  by_cases g:s.f0.toList=n.toList
  ·rw [if_pos g,List.find?_cons_of_pos (by simpa [hasNm] using g)]
   rfl
  ·rw [if_neg g,List.find?_cons_of_neg (by simpa [hasNm] using g)]
theorem find_ref (n:ByteArray) (l:List S24) (hl:l.length≤1000000) (k:Nat) (hk:l.length < k):sawmillref37_Find.f k l n=some (found (l.find? (hasNm n))):=by
 have:=find_l0 n l hl l.length k 0 (by omega) hk
 unfold sawmillref37_Find.f
 simpa using this
end Go.Proofs.YtehdmplngmbnnaaDoor.P
namespace Go.Proofs.YtehdmplngmbnnaaDoor.P
open Go.RowKit Go.Proofs.YtehdmplngmbnnaaDoorW.PrintWords Go.Proofs.YtehdmplngmbnnaaDoorW.PrintLast Go.Proofs.YtehdmplngmbnnaaDoorW.PrintMore
attribute [local go_sem] qbV qbW qcC qcD qbQ qbR qbX qbY
attribute [local go_sem] qbL
set_option linter.unusedVariables false
set_option linter.unusedSimpArgs false
def sawmillref37_from.f (a0:Int) (a1:Int) (a2:Int):Option (Bool):=if a0 ≥ a1 then (some (decide (a0≤a2))) else (some false)
set_option maxHeartbeats 8000000 in
set_option maxRecDepth 100000 in
theorem sawmillref37_from.calls (a0:Int) (a1:Int) (a2:Int) (r:Bool) (w:World) (h:sawmillref37_from.f a0 a1 a2=some r) :
  Calls Tryd.prog 33 #[.int .i64 a0,.int .i64 a1,.int .i64 a2] w fun e w'=>e=.returned (.bool r)∧Drawn0 w w':=by
 have H:(if a0 ≥ a1 then (some (decide (a0≤a2))) else (some false))=some r:=h
 clear h
 by_cases c4:a0 ≥ a1
 ·rw [if_pos c4] at H
  have c4b0:decide (a1≤a0)=true:=decide_eq_true c4
  clear c4
  obtain rfl:=Option.some.inj H
  go_enter Tryd.func33,Tryd.ntmps33
  go_wp2
  go_ret
  exact ⟨by first|rfl|(simp;done)|(simp [*];done),by repeat (first|exact Drawn0.refl _|apply Drawn0.step)⟩
 ·rw [if_neg c4] at H
  have c4b0:decide (a1≤a0)=false:=decide_eq_false c4
  clear c4
  obtain rfl:=Option.some.inj H
  go_enter Tryd.func33,Tryd.ntmps33
  go_wp2
  go_ret
  exact ⟨by first|rfl|(simp;done)|(simp [*];done),by repeat (first|exact Drawn0.refl _|apply Drawn0.step)⟩
end Go.Proofs.YtehdmplngmbnnaaDoor.P
namespace Go.Proofs.YtehdmplngmbnnaaDoor.P
open Go.RowKit Go.Proofs.YtehdmplngmbnnaaDoorW.PrintWords Go.Proofs.YtehdmplngmbnnaaDoorW.PrintLast Go.Proofs.YtehdmplngmbnnaaDoorW.PrintMore
set_option linter.unusedVariables false
set_option linter.unusedSimpArgs false
def sawmillref37_Check.g (r:Int) (l:List S52):Int:=if r < 1 ∨ 1200 < r then 9 else if l.length < 1 then 3 else if 12 < l.length then 4 else if l.all stOk=true then 0 else 9
def sawmillref37_Check.f (k:Nat) (n:ByteArray) (r:Int) (l:List S52):Option Int :=
 (sawmillref02_IsName.f k n).bind fun b=>some (if b=true then sawmillref37_Check.g r l else 6)
def inR (n lo hi:Int):Bool:=decide (lo≤n) && decide (n≤hi)
theorem from_f (n lo hi:Int):sawmillref37_from.f n lo hi=some (inR n lo hi):=by
 unfold sawmillref37_from.f inR
 by_cases g1:n ≥ lo<;>by_cases g2:n≤hi<;>simp [g1,g2]<;>omega
theorem rfrom (n lo hi:Int) (w:World):Calls Tryd.prog 33 #[.int .i64 n,.int .i64 lo,.int .i64 hi] w fun e w'=>e=.returned (.bool (inR n lo hi))∧Drawn0 w w':=sawmillref37_from.calls n lo hi _ w (from_f n lo hi)
theorem stOk_in (s:S52):stOk s=(inR s.f0 0 20000 && inR s.f1 0 10000 && !((s.f0 == 0) && (s.f1 == 0)) && inR s.f2 200 1200 && inR s.f3 0 400):=by
 rw [stOk_eq]
 rfl
set_option maxHeartbeats 4000000 in
set_option maxRecDepth 100000 in
theorem sawmillref37_Check.calls (k:Nat) (a0_0:ByteArray) (a0_1:Int) (A0_2:Option Addr) (c0_2:Nat) (l0_2:List S52) (r:Int) (w:World) (hr0_2:Kd.C k52 w A0_2 l0_2.length l0_2) (hc0_2:l0_2.length≤c0_2) (h:sawmillref37_Check.f k a0_0 a0_1 l0_2=some r) :
  Calls Tryd.prog 17 #[.agg #[.string a0_0,.int .i64 a0_1,.slice A0_2 l0_2.length c0_2]] w fun e w'=>e=.returned (.int .i64 r)∧Below w.heap.size w w':=by
 have hus:=Tryd.underlying52
 have huh:=Tryd.underlying24
 have HR:=Aside0.mk hr0_2
 obtain ⟨nm,hn,hh⟩:=Option.bind_eq_some_iff.mp h
 have HH:=Aside0.mk (Option.some.inj hh)
 have HN:=Aside0.mk hn
 clear hr0_2 hc0_2 h hn hh
 go_enter Tryd.func17,Tryd.ntmps17
 go_wp2_with fail
 refine (sawmillref02_IsName.calls k a0_0 nm _ HN.out).mono ?_
 rintro e w1 ⟨rfl,⟨nd,rfl⟩⟩
 cases nm
 ·have HM:=Aside0.mk (HH.out.symm.trans (if_neg (by simp)))
  go_wp2_with fail
  go_ret
  exact ⟨by rw [HM.out];rfl,qaA (qaB (Below.refl _ w) _) _⟩
 ·have HM:=Aside0.mk (HH.out.symm.trans (if_pos rfl))
  clear HH
  unfold sawmillref37_Check.g at HM
  go_wp2_with fail
  refine (rfrom a0_1 1 1200 _).mono ?_
  rintro e w1 ⟨rfl,⟨nd2,rfl⟩⟩
  cases hin:inR a0_1 1 1200
  ·have HM2:=Aside0.mk (HM.out.trans (if_pos (by unfold inR at hin;simp at hin;omega)))
   clear HM hin
   go_wp2_with fail
   go_ret
   exact ⟨by rw [HM2.out];rfl,qaA (qaB (Below.refl _ w) _) _⟩
  ·have HM2:=Aside0.mk (HM.out.trans (if_neg (by unfold inR at hin;simp at hin;omega)))
   clear HM hin
   by_cases h3:l0_2.length < 1
   ·have HM3:=Aside0.mk (HM2.out.trans (if_pos h3))
    clear HM2
    have c3:((l0_2.length:Int) == 0)=true:=beq_iff_eq.mpr (by omega)
    go_wp2_with fail
    go_ret
    exact ⟨by rw [HM3.out];rfl,qaA (qaB (Below.refl _ w) _) _⟩
   ·have HM3:=Aside0.mk (HM2.out.trans (if_neg h3))
    clear HM2
    have c3:((l0_2.length:Int) == 0)=false:=beq_eq_false_iff_ne.mpr (by omega)
    by_cases h4:12 < l0_2.length
    ·have HM4:=Aside0.mk (HM3.out.trans (if_pos h4))
     clear HM3
     have c4:decide (12 < (l0_2.length:Int))=true:=decide_eq_true (by omega)
     go_wp2_with fail
     go_ret
     exact ⟨by rw [HM4.out];rfl,qaA (qaB (Below.refl _ w) _) _⟩
    ·have HM4:=Aside0.mk (HM3.out.trans (if_neg h4))
     clear HM3
     have c4:decide (12 < (l0_2.length:Int))=false:=decide_eq_false (by omega)
     have HL:=Aside0.mk (show l0_2.length≤12 by omega)
     clear h3 h4
     go_wp2_with fail
     have H1:((((w.alloc (.cells #[.string a0_0,.int .i64 a0_1,.slice A0_2 l0_2.length c0_2] 24)).drewN nd).drewN nd2)).heap[w.heap.size]?=some (.cells #[.string a0_0,.int .i64 a0_1,.slice A0_2 l0_2.length c0_2] 24 (0,0)):=heap_alloc_new w _
     obtain ⟨b,hb⟩:∃ b,b=w.heap.size:=⟨_,rfl⟩
     rw [← hb] at H1 ⊢
     clear hb c3 c4
     replace H1:=Aside0.mk H1
     go_loopg [3] l0_2.length (fun kq i wr=>∃ k:Nat,i=.int .i64 k∧Aside0 (k+kq=l0_2.length)∧Aside0 ((l0_2.take k).all stOk=true)∧Aside0 (wr.heap[b]?=some (.cells #[.string a0_0,.int .i64 a0_1,.slice A0_2 l0_2.length c0_2] 24 (0,0)))∧Aside0 (Below w.heap.size w wr))
     case atStart=>exact ⟨0,rfl,⟨Nat.zero_add _⟩,⟨by simp⟩,H1,⟨qaA (qaB (Below.refl _ w) _) _⟩⟩
     case round =>
      obtain ⟨k,rfl,HK,HT,HW,HB⟩:=hrel
      clear H1
      have HK2:=Aside0.mk (show k≤l0_2.length by have:=HK.out;omega)
      have hz2:=qaE HW.out 2
      have hy2:=qaD HW.out 2
      simp at hz2
      by_cases hk:k < l0_2.length
      ·have c5:decide ((k:Int) < (l0_2.length:Int))=true:=decide_eq_true (by omega)
       obtain ⟨ad,ea,hx0,hx1,hx2,hx3⟩:=at_T52 HR.out k (by omega) (by omega)
       subst ea
       obtain ⟨x,hx⟩:∃ x,x=qbJ l0_2 k:=⟨_,rfl⟩
       rw [← hx] at hx0 hx1 hx2 hx3
       replace hx0:=qbP HB.out hx0
       replace hx1:=qbP HB.out hx1
       replace hx2:=qbP HB.out hx2
       replace hx3:=qbP HB.out hx3
       simp only [Int.toNat_natCast] at hx0 hx1 hx2 hx3
       have HX:=Aside0.mk hx
       clear hx
       have HNO:Aside0 (stOk x=false→r=9):=⟨fun e=>HM4.out.trans (if_neg (by rw [all_no k hk HX.out e];simp))⟩
       have HW2:∀ m:Nat,Aside0 (Below w.heap.size w ((wr.alloc (.cells #[.int .i64 x.f0,.int .i64 x.f1,.int .i64 x.f2,.int .i64 x.f3] 52)).drewN m)):=fun m=>⟨qaA (qaB HB.out _) m⟩
       go_wp2_with fail
       refine (rfrom x.f0 0 20000 _).mono ?_
       rintro e w1 ⟨rfl,⟨n1,rfl⟩⟩
       cases g0:inR x.f0 0 20000
       ·have HR9:=Aside0.mk (HNO.out (by rw [stOk_in,g0];rfl))
        go_wp2_with fail
        go_ret
        exact ⟨by rw [HR9.out];rfl,(HW2 _).out⟩
       go_wp2_with fail
       refine (rfrom x.f1 0 10000 _).mono ?_
       rintro e w1 ⟨rfl,⟨n2,rfl⟩⟩
       cases g1:inR x.f1 0 10000
       ·have HR9:=Aside0.mk (HNO.out (by rw [stOk_in,g1];simp))
        go_wp2_with fail
        go_ret
        exact ⟨by rw [HR9.out];rfl,(HW2 _).out⟩
       by_cases hz:(x.f0 == 0)=true∧(x.f1 == 0)=true
       ·obtain ⟨y0,y1⟩:=hz
        have HR9:=Aside0.mk (HNO.out (by rw [stOk_in,y0,y1];simp))
        go_wp2_with fail
        go_ret
        exact ⟨by rw [HR9.out];rfl,(HW2 _).out⟩
       have HZ:(x.f0 == 0)=false ∨ (x.f0 == 0)=true∧(x.f1 == 0)=false:=by
        cases y0:(x.f0 == 0)<;>cases y1:(x.f1 == 0)<;>simp_all
       have HN2:=Aside0.mk hz
       clear hz
       rcases HZ with y0|⟨y0,y1⟩
       all_goals
        go_wp2_with fail
        refine (rfrom x.f2 200 1200 _).mono ?_
        rintro e w1 ⟨rfl,⟨n3,rfl⟩⟩
        cases g2:inR x.f2 200 1200
        ·have HR9:=Aside0.mk (HNO.out (by rw [stOk_in,g2];simp))
         go_wp2_with fail
         go_ret
         exact ⟨by rw [HR9.out];rfl,(HW2 _).out⟩
        go_wp2_with fail
        refine (rfrom x.f3 0 400 _).mono ?_
        rintro e w1 ⟨rfl,⟨n4,rfl⟩⟩
        cases g3:inR x.f3 0 400
        ·have HR9:=Aside0.mk (HNO.out (by rw [stOk_in,g3];simp))
         go_wp2_with fail
         go_ret
         exact ⟨by rw [HR9.out];rfl,(HW2 _).out⟩
        have HOK:=Aside0.mk (show stOk x=true by rw [stOk_in,g0,g1,g2,g3];have:=HN2.out;simp_all)
        go_wp2_with fail
        have e:wrap64 ((k:Int)+1)=(k:Int)+1:=by
         have:=HL.out
         unfold wrap64
         omega
        go_roundg (gk - 1)
        case measure=>have:=HK.out;omega
        case rel=>exact ⟨k+1,by simp [e],⟨by have:=HK.out;omega⟩,⟨all_step k hk HT.out (by rw [← HX.out];exact HOK.out)⟩,⟨qaG HW.out _⟩,HW2 _⟩
      ·have HE:=Aside0.mk (show l0_2.all stOk=true by have:=HT.out;rwa [List.take_of_length_le (by omega)] at this)
       have HM5:=Aside0.mk (HM4.out.trans (if_pos HE.out))
       have c5:decide ((k:Int) < (l0_2.length:Int))=false:=decide_eq_false (by omega)
       clear HM4 HE HT
       go_wp2_with fail
       go_ret
       exact ⟨by rw [HM5.out];rfl,HB.out⟩
end Go.Proofs.YtehdmplngmbnnaaDoor.P
namespace Go.Proofs.YtehdmplngmbnnaaDoor.P
open Go.RowKit Go.Proofs.YtehdmplngmbnnaaDoorW.PrintWords
set_option linter.unusedVariables false
set_option linter.unusedSimpArgs false
theorem r02_at (n:ByteArray) (hs:n.size≤140737488351232) (k:Nat):sawmillref02_IsName.f (20+k) n=some (isNm n):=by
 induction k with
 | zero=>exact r02_nm n hs
 | succ k ih=>exact sawmillref02_IsName.mono _ _ _ ih
theorem check_same (n:ByteArray) (r:Int) (l:List S52) (hn:n.size≤140737488351232) (k:Nat):sawmillref37_Check.f (20+k) n r l=schedule_Check.f n r l:=by
 unfold sawmillref37_Check.f schedule_Check.f sawmillref37_Check.g
 rw [r02_at n hn k]
 rfl
end Go.Proofs.YtehdmplngmbnnaaDoor.P
