/-
  The walks of the functions that the statements of this chapter reach, each told as a plain function; no conditions.
-/
import Derived.Test.YtehdmplngmbnnaaDoorMb2
namespace Go.Proofs.YtehdmplngmbnnaaDoor.P
open Go.RowKit Go.Proofs.YtehdmplngmbnnaaDoorW.PrintWords Go.Proofs.YtehdmplngmbnnaaDoorW.PrintLast Go.Proofs.YtehdmplngmbnnaaDoorW.PrintMore
attribute [local go_sem] qbV qbW qcC qcD qbQ qbR qbX qbY
attribute [local go_sem] qbL
set_option linter.unusedVariables false
set_option linter.unusedSimpArgs false
def lexer_first.l0:Nat→ByteArray→Int→Option (Int × ByteArray × Int × Int × Int)
 | 0,_,_=>none
 | k+1,x0,x5=>if x5 > 0 then (if 0≤x5 then (if x5≤(x0.size:Int) then ((lexer_IsMark.f (x0.extract 0 (x5:Int).toNat)).bind fun t111=>(if t111=true then (some (3,x0.extract 0 (x5:Int).toNat,0,0,0)) else (lexer_first.l0 k x0 (wrap64 (x5 - 1))))) else (none)) else (none)) else (some (0,(⟨#[]⟩:ByteArray),0,0,5))
def lexer_first.f (k:Nat) (a0:ByteArray):Option (Int × ByteArray × Int × Int × Int):=if 0 < (a0.size:Int) then ((lexer_isDigit.f (wrap32 (bt a0 0))).bind fun t102=>(if t102=true then ((lexer_length.f a0 63).bind fun t103=>(if 0≤t103 then (if t103≤(a0.size:Int) then ((lexer_number.f k (a0.extract 0 (t103:Int).toNat)).bind fun bt104=>(some (bt104.1,bt104.2.1,bt104.2.2.1,bt104.2.2.2.1,bt104.2.2.2.2))) else (none)) else (none))) else ((lexer_isWord.f (wrap32 (bt a0 0))).bind fun t109=>(if t109=true then ((lexer_length.f a0 65).bind fun t110=>(if t110 > 16 then (some (0,(⟨#[]⟩:ByteArray),0,0,6)) else (if 0≤t110 then (if t110≤(a0.size:Int) then (some (1,a0.extract 0 (t110:Int).toNat,0,0,0)) else (none)) else (none)))) else (lexer_first.l0 k a0 (mn 2 (a0.size:Int))))))) else (none)
set_option maxHeartbeats 8000000 in
set_option maxRecDepth 100000 in
theorem lexer_first.calls (k:Nat) (a0:ByteArray) (r1:Int) (r2:ByteArray) (r3:Int) (r4:Int) (r5:Int) (w:World) (h:lexer_first.f k a0=some (r1,r2,r3,r4,r5)) :
  Calls Tryd.prog 45 #[.string a0] w fun e w'=>e=.returned (.tuple #[.agg #[.int .i64 r1,.string r2,.int .i64 r3,.int .i64 r4],.int .i64 r5])∧Below w.heap.size w w':=by
 have hu68:=Tryd.underlying68
 have HB:=Aside0.mk (Below.refl w.heap.size w)
 have H:(if 0 < (a0.size:Int) then ((lexer_isDigit.f (wrap32 (bt a0 0))).bind fun t102=>(if t102=true then ((lexer_length.f a0 63).bind fun t103=>(if 0≤t103 then (if t103≤(a0.size:Int) then ((lexer_number.f k (a0.extract 0 (t103:Int).toNat)).bind fun bt104=>(some (bt104.1,bt104.2.1,bt104.2.2.1,bt104.2.2.2.1,bt104.2.2.2.2))) else (none)) else (none))) else ((lexer_isWord.f (wrap32 (bt a0 0))).bind fun t109=>(if t109=true then ((lexer_length.f a0 65).bind fun t110=>(if t110 > 16 then (some (0,(⟨#[]⟩:ByteArray),0,0,6)) else (if 0≤t110 then (if t110≤(a0.size:Int) then (some (1,a0.extract 0 (t110:Int).toNat,0,0,0)) else (none)) else (none)))) else (lexer_first.l0 k a0 (mn 2 (a0.size:Int))))))) else (none))=some (r1,r2,r3,r4,r5):=h
 clear h
 by_cases c2:0 < (a0.size:Int)
 ·rw [if_pos c2] at H
  have c2b0:decide (0 < (a0.size:Int))=true:=decide_eq_true c2
  have c2b1:decide (0 < a0.size)=true:=decide_eq_true (by omega)
  clear c2
  replace H:=Option.bind_eq_some_iff.mp H
  obtain ⟨t102,A40,H⟩:=H
  replace H:(if t102=true then ((lexer_length.f a0 63).bind fun t103=>(if 0≤t103 then (if t103≤(a0.size:Int) then ((lexer_number.f k (a0.extract 0 (t103:Int).toNat)).bind fun bt104=>(some (bt104.1,bt104.2.1,bt104.2.2.1,bt104.2.2.2.1,bt104.2.2.2.2))) else (none)) else (none))) else ((lexer_isWord.f (wrap32 (bt a0 0))).bind fun t109=>(if t109=true then ((lexer_length.f a0 65).bind fun t110=>(if t110 > 16 then (some (0,(⟨#[]⟩:ByteArray),0,0,6)) else (if 0≤t110 then (if t110≤(a0.size:Int) then (some (1,a0.extract 0 (t110:Int).toNat,0,0,0)) else (none)) else (none)))) else (lexer_first.l0 k a0 (mn 2 (a0.size:Int))))))=some (r1,r2,r3,r4,r5):=H
  have A4:=Aside0.mk A40
  clear A40
  by_cases c5:t102=true
  ·subst c5
   have H1:((lexer_length.f a0 63).bind fun t103=>(if 0≤t103 then (if t103≤(a0.size:Int) then ((lexer_number.f k (a0.extract 0 (t103:Int).toNat)).bind fun bt104=>(some (bt104.1,bt104.2.1,bt104.2.2.1,bt104.2.2.2.1,bt104.2.2.2.2))) else (none)) else (none)))=some (r1,r2,r3,r4,r5):=by rw [if_pos rfl] at H;exact H
   clear H
   have H:=H1
   clear H1
   replace H:=Option.bind_eq_some_iff.mp H
   obtain ⟨t103,A60,H⟩:=H
   replace H:(if 0≤t103 then (if t103≤(a0.size:Int) then ((lexer_number.f k (a0.extract 0 (t103:Int).toNat)).bind fun bt104=>(some (bt104.1,bt104.2.1,bt104.2.2.1,bt104.2.2.2.1,bt104.2.2.2.2))) else (none)) else (none))=some (r1,r2,r3,r4,r5):=H
   have A6:=Aside0.mk A60
   clear A60
   by_cases c7:0≤t103
   ·rw [if_pos c7] at H
    have c7b0:=eq_true c7
    have c7b1:decide (0≤t103)=true:=decide_eq_true c7
    clear c7
    by_cases c8:t103≤(a0.size:Int)
    ·rw [if_pos c8] at H
     have c8b0:=eq_true c8
     have c8b1:decide (t103≤(a0.size:Int))=true:=decide_eq_true c8
     clear c8
     replace H:=Option.bind_eq_some_iff.mp H
     obtain ⟨⟨t104,t105,t106,t107,t108⟩,A90,H⟩:=H
     replace H:(some (t104,t105,t106,t107,t108))=some (r1,r2,r3,r4,r5):=H
     have A9:=Aside0.mk A90
     clear A90
     simp only [Option.some.injEq,Prod.mk.injEq] at H
     obtain ⟨rfl,rfl,rfl,rfl,rfl⟩:=H
     go_enter Tryd.func45,Tryd.ntmps45
     go_wp2_with (first|((with_reducible refine qbE (N:=2) rfl ?_);refine qbC ?hg (N:=2) ?hd (cs:=#[.int .i64 0,.string (⟨#[]⟩:ByteArray),.int .i64 0,.int .i64 0]) (t:=68) ?hr ?_;(case hd=>rfl);(case hg=>rfl);(case hr=>first|(go_simp;done)|(go_simp;rfl));intro gb101 hg w10 hbox hb;have n0_:=Aside0.mk (qaN (by repeat (first|(with_reducible first|exact HB.out|apply qaB|apply qaA|apply qaC)|exact HB.out)) hb);have n1_:=Aside0.mk (hbox);have n2_:=Aside0.mk ((by rw [hg];exact (qaK (by repeat (first|(with_reducible first|exact HB.out|apply qaB|apply qaA|apply qaC)|exact HB.out))):w.heap.size≤gb101));have n3_:=Aside0.mk ((by rw [hg];exact (qaK (by repeat (first|(with_reducible first|exact HB.out|apply qaB|apply qaA|apply qaC)|exact HB.out))):w.heap.size≤gb101));clear HB;have HB:=n0_;have BK101:=n1_;have GW101:=n2_;have GE101:=n3_;clear n0_ n1_ n2_ n3_;clear hb hbox hg;have p3:0≤(0:Int):=(by omega);have q3:0 < a0.size:=(by have:(0:Int) < (a0.size:Int):=of_decide_eq_true (by first|(with_reducible assumption)|assumption);omega);have hx3:∀ h:0 < a0.size,((a0[0]'h).toNat:Int)=bt a0 0:=qcI a0 0;clear p3;have qi3:(0 < (a0.size:Int))=True:=eq_true (of_decide_eq_true (by first|(with_reducible assumption)|assumption));replace q3:=eq_true q3)|((with_reducible refine qaO (f:=63) rfl ?_);refine qbG (some 9) rfl rfl Tryd.func63 (by kernel_rfl) rfl #[.int .i32 (wrap32 (bt a0 0))] rfl (by (try simp only [List.map_toArray,List.map_cons,List.map_nil]);first|done|rfl|(simp only [List.length_drop,List.length_take];rfl)) ?_;(with_reducible refine (lexer_isDigit.calls (wrap32 (bt a0 0)) true _ A4.out).mono ?_);rintro e w' ⟨rfl,⟨nd,rfl⟩⟩;refine ⟨_,rfl,?_⟩;(try (rw [drewN_self w10];generalize hq_:World.drewN w10 _=w10;have n0_:Aside0 (w10.heap[gb101]?=some (.cells #[.int .i64 0,.string (⟨#[]⟩:ByteArray),.int .i64 0,.int .i64 0] 68 (0,0))):=⟨by rw [← hq_];exact (by (with_reducible repeat (first|refine qaH ?_ _|refine qaI ?_|refine qaG ?_ _));exact BK101.out)⟩;have n1_:Aside0 (Below w.heap.size w w10):=⟨by rw [← hq_];exact (by repeat (first|(with_reducible first|exact HB.out|apply qaB|apply qaA|apply qaC|refine qaF ?_ GE101.out)|exact HB.out))⟩;clear BK101 HB hq_;have BK101:=n0_;have HB:=n1_;clear n0_ n1_)))|((with_reducible refine qaO (f:=61) rfl ?_);refine qbG (some 12) rfl rfl Tryd.func61 (by kernel_rfl) rfl #[.string a0,.func (.func 63) #[] #[]] rfl (by (try simp only [List.map_toArray,List.map_cons,List.map_nil]);first|done|rfl|(simp only [List.length_drop,List.length_take];rfl)) ?_;(with_reducible refine (lexer_length.calls a0 63 t103 _ A6.out).mono ?_);rintro e w' ⟨rfl,⟨nd,rfl⟩⟩;refine ⟨_,rfl,?_⟩;(try (rw [drewN_self w10];generalize hq_:World.drewN w10 _=w10;have n0_:Aside0 (w10.heap[gb101]?=some (.cells #[.int .i64 0,.string (⟨#[]⟩:ByteArray),.int .i64 0,.int .i64 0] 68 (0,0))):=⟨by rw [← hq_];exact (by (with_reducible repeat (first|refine qaH ?_ _|refine qaI ?_|refine qaG ?_ _));exact BK101.out)⟩;have n1_:Aside0 (Below w.heap.size w w10):=⟨by rw [← hq_];exact (by repeat (first|(with_reducible first|exact HB.out|apply qaB|apply qaA|apply qaC|refine qaF ?_ GE101.out)|exact HB.out))⟩;clear BK101 HB hq_;have BK101:=n0_;have HB:=n1_;clear n0_ n1_)))|((with_reducible refine qaO (f:=64) rfl ?_);refine qbG (some 14) rfl rfl Tryd.func64 (by kernel_rfl) rfl #[.string (a0.extract 0 (t103:Int).toNat)] rfl (by (try simp only [List.map_toArray,List.map_cons,List.map_nil]);first|done|rfl|(simp only [List.length_drop,List.length_take];rfl)) ?_;(with_reducible refine (lexer_number.calls k (a0.extract 0 (t103:Int).toNat) t104 t105 t106 t107 t108 _ A9.out).mono ?_);rintro e w11 ⟨rfl,hb⟩;refine ⟨_,rfl,?_⟩;have n0_:=Aside0.mk (qaS (g:=gb101) (o:=.cells #[.int .i64 0,.string (⟨#[]⟩:ByteArray),.int .i64 0,.int .i64 0] 68 (0,0)) (by (with_reducible repeat (first|refine qaH ?_ _|refine qaI ?_|refine qaG ?_ _));exact BK101.out) hb);have n1_:=Aside0.mk (qaN (by repeat (first|(with_reducible first|exact HB.out|apply qaB|apply qaA|apply qaC|refine qaF ?_ GE101.out)|exact HB.out)) hb);clear BK101;clear HB;have BK101:=n0_;have HB:=n1_;clear n0_ n1_;(try clear hb);(try clear hb2);(try clear hk);(try clear hi);have hcz12_0:w11.cell? ⟨gb101,0,none⟩=some (.int .i64 0):=(qaE BK101.out 0).trans rfl;have hcz12_1:w11.cell? ⟨gb101,1,none⟩=some (.string (⟨#[]⟩:ByteArray)):=(qaE BK101.out 1).trans rfl;have hcz12_2:w11.cell? ⟨gb101,2,none⟩=some (.int .i64 0):=(qaE BK101.out 2).trans rfl;have hcz12_3:w11.cell? ⟨gb101,3,none⟩=some (.int .i64 0):=(qaE BK101.out 3).trans rfl;have hfz12_0:=qaD BK101.out 0;have hfz12_1:=qaD BK101.out 1;have hfz12_2:=qaD BK101.out 2;have hfz12_3:=qaD BK101.out 3))
     refine bodyPost_ret (qcF rfl _ _ gb101 68 #[.int .i64 t104,.string t105,.int .i64 t106,.int .i64 t107] (0,0) _ rfl (by (with_reducible repeat (first|refine qaH ?_ _|refine qaI ?_|refine qaG ?_ _));refine qaR (cs:=#[.int .i64 t104,.string t105,.int .i64 t106,.int .i64 0]) ?_ 3 _ rfl;(with_reducible repeat (first|refine qaH ?_ _|refine qaI ?_|refine qaG ?_ _));refine qaR (cs:=#[.int .i64 t104,.string t105,.int .i64 0,.int .i64 0]) ?_ 2 _ rfl;(with_reducible repeat (first|refine qaH ?_ _|refine qaI ?_|refine qaG ?_ _));refine qaR (cs:=#[.int .i64 t104,.string (⟨#[]⟩:ByteArray),.int .i64 0,.int .i64 0]) ?_ 1 _ rfl;(with_reducible repeat (first|refine qaH ?_ _|refine qaI ?_|refine qaG ?_ _));refine qaR (cs:=#[.int .i64 0,.string (⟨#[]⟩:ByteArray),.int .i64 0,.int .i64 0]) ?_ 0 _ rfl;(with_reducible repeat (first|refine qaH ?_ _|refine qaI ?_|refine qaG ?_ _));exact BK101.out) Tryd.underlying68 rfl (by kernel_rfl)) rfl ?_
     exact ⟨by first|rfl|(simp [qaL,qaM]<;>rfl)|(simp [*,qaL,qaM]<;>rfl),by repeat (first|(with_reducible first|exact HB.out|apply qaB|apply qaA|apply qaC|refine qaF ?_ GE101.out)|exact HB.out)⟩
    ·rw [if_neg c8] at H
     exact absurd H (by simp)
   ·rw [if_neg c7] at H
    exact absurd H (by simp)
  ·replace c5:=Bool.eq_false_iff.mpr c5
   subst c5
   have H1:((lexer_isWord.f (wrap32 (bt a0 0))).bind fun t109=>(if t109=true then ((lexer_length.f a0 65).bind fun t110=>(if t110 > 16 then (some (0,(⟨#[]⟩:ByteArray),0,0,6)) else (if 0≤t110 then (if t110≤(a0.size:Int) then (some (1,a0.extract 0 (t110:Int).toNat,0,0,0)) else (none)) else (none)))) else (lexer_first.l0 k a0 (mn 2 (a0.size:Int)))))=some (r1,r2,r3,r4,r5):=by rw [if_neg (show ¬ (false=true) by decide)] at H;exact H
   clear H
   have H:=H1
   clear H1
   replace H:=Option.bind_eq_some_iff.mp H
   obtain ⟨t109,A140,H⟩:=H
   replace H:(if t109=true then ((lexer_length.f a0 65).bind fun t110=>(if t110 > 16 then (some (0,(⟨#[]⟩:ByteArray),0,0,6)) else (if 0≤t110 then (if t110≤(a0.size:Int) then (some (1,a0.extract 0 (t110:Int).toNat,0,0,0)) else (none)) else (none)))) else (lexer_first.l0 k a0 (mn 2 (a0.size:Int))))=some (r1,r2,r3,r4,r5):=H
   have A14:=Aside0.mk A140
   clear A140
   by_cases c15:t109=true
   ·subst c15
    have H1:((lexer_length.f a0 65).bind fun t110=>(if t110 > 16 then (some (0,(⟨#[]⟩:ByteArray),0,0,6)) else (if 0≤t110 then (if t110≤(a0.size:Int) then (some (1,a0.extract 0 (t110:Int).toNat,0,0,0)) else (none)) else (none))))=some (r1,r2,r3,r4,r5):=by rw [if_pos rfl] at H;exact H
    clear H
    have H:=H1
    clear H1
    replace H:=Option.bind_eq_some_iff.mp H
    obtain ⟨t110,A160,H⟩:=H
    replace H:(if t110 > 16 then (some (0,(⟨#[]⟩:ByteArray),0,0,6)) else (if 0≤t110 then (if t110≤(a0.size:Int) then (some (1,a0.extract 0 (t110:Int).toNat,0,0,0)) else (none)) else (none)))=some (r1,r2,r3,r4,r5):=H
    have A16:=Aside0.mk A160
    clear A160
    by_cases c17:t110 > 16
    ·rw [if_pos c17] at H
     have c17b0:decide (16 < t110)=true:=decide_eq_true c17
     clear c17
     simp only [Option.some.injEq,Prod.mk.injEq] at H
     obtain ⟨rfl,rfl,rfl,rfl,rfl⟩:=H
     go_enter Tryd.func45,Tryd.ntmps45
     go_wp2_with (first|((with_reducible refine qbE (N:=2) rfl ?_);refine qbC ?hg (N:=2) ?hd (cs:=#[.int .i64 0,.string (⟨#[]⟩:ByteArray),.int .i64 0,.int .i64 0]) (t:=68) ?hr ?_;(case hd=>rfl);(case hg=>rfl);(case hr=>first|(go_simp;done)|(go_simp;rfl));intro gb101 hg w18 hbox hb;have n0_:=Aside0.mk (qaN (by repeat (first|(with_reducible first|exact HB.out|apply qaB|apply qaA|apply qaC)|exact HB.out)) hb);have n1_:=Aside0.mk (hbox);have n2_:=Aside0.mk ((by rw [hg];exact (qaK (by repeat (first|(with_reducible first|exact HB.out|apply qaB|apply qaA|apply qaC)|exact HB.out))):w.heap.size≤gb101));have n3_:=Aside0.mk ((by rw [hg];exact (qaK (by repeat (first|(with_reducible first|exact HB.out|apply qaB|apply qaA|apply qaC)|exact HB.out))):w.heap.size≤gb101));clear HB;have HB:=n0_;have BK101:=n1_;have GW101:=n2_;have GE101:=n3_;clear n0_ n1_ n2_ n3_;clear hb hbox hg;have p3:0≤(0:Int):=(by omega);have q3:0 < a0.size:=(by have:(0:Int) < (a0.size:Int):=of_decide_eq_true (by first|(with_reducible assumption)|assumption);omega);have hx3:∀ h:0 < a0.size,((a0[0]'h).toNat:Int)=bt a0 0:=qcI a0 0;clear p3;have qi3:(0 < (a0.size:Int))=True:=eq_true (of_decide_eq_true (by first|(with_reducible assumption)|assumption));replace q3:=eq_true q3)|((with_reducible refine qaO (f:=63) rfl ?_);refine qbG (some 9) rfl rfl Tryd.func63 (by kernel_rfl) rfl #[.int .i32 (wrap32 (bt a0 0))] rfl (by (try simp only [List.map_toArray,List.map_cons,List.map_nil]);first|done|rfl|(simp only [List.length_drop,List.length_take];rfl)) ?_;(with_reducible refine (lexer_isDigit.calls (wrap32 (bt a0 0)) false _ A4.out).mono ?_);rintro e w' ⟨rfl,⟨nd,rfl⟩⟩;refine ⟨_,rfl,?_⟩;(try (rw [drewN_self w18];generalize hq_:World.drewN w18 _=w18;have n0_:Aside0 (w18.heap[gb101]?=some (.cells #[.int .i64 0,.string (⟨#[]⟩:ByteArray),.int .i64 0,.int .i64 0] 68 (0,0))):=⟨by rw [← hq_];exact (by (with_reducible repeat (first|refine qaH ?_ _|refine qaI ?_|refine qaG ?_ _));exact BK101.out)⟩;have n1_:Aside0 (Below w.heap.size w w18):=⟨by rw [← hq_];exact (by repeat (first|(with_reducible first|exact HB.out|apply qaB|apply qaA|apply qaC|refine qaF ?_ GE101.out)|exact HB.out))⟩;clear BK101 HB hq_;have BK101:=n0_;have HB:=n1_;clear n0_ n1_));have p13:0≤(0:Int):=(by omega);have q13:0 < a0.size:=(by have:(0:Int) < (a0.size:Int):=of_decide_eq_true (by first|(with_reducible assumption)|assumption);omega);have hx13:∀ h:0 < a0.size,((a0[0]'h).toNat:Int)=bt a0 0:=qcI a0 0;clear p13;have qi13:(0 < (a0.size:Int))=True:=eq_true (of_decide_eq_true (by first|(with_reducible assumption)|assumption));replace q13:=eq_true q13)|((with_reducible refine qaO (f:=65) rfl ?_);refine qbG (some 20) rfl rfl Tryd.func65 (by kernel_rfl) rfl #[.int .i32 (wrap32 (bt a0 0))] rfl (by (try simp only [List.map_toArray,List.map_cons,List.map_nil]);first|done|rfl|(simp only [List.length_drop,List.length_take];rfl)) ?_;(with_reducible refine (lexer_isWord.calls (wrap32 (bt a0 0)) true _ A14.out).mono ?_);rintro e w' ⟨rfl,⟨nd,rfl⟩⟩;refine ⟨_,rfl,?_⟩;(try (rw [drewN_self w18];generalize hq_:World.drewN w18 _=w18;have n0_:Aside0 (w18.heap[gb101]?=some (.cells #[.int .i64 0,.string (⟨#[]⟩:ByteArray),.int .i64 0,.int .i64 0] 68 (0,0))):=⟨by rw [← hq_];exact (by (with_reducible repeat (first|refine qaH ?_ _|refine qaI ?_|refine qaG ?_ _));exact BK101.out)⟩;have n1_:Aside0 (Below w.heap.size w w18):=⟨by rw [← hq_];exact (by repeat (first|(with_reducible first|exact HB.out|apply qaB|apply qaA|apply qaC|refine qaF ?_ GE101.out)|exact HB.out))⟩;clear BK101 HB hq_;have BK101:=n0_;have HB:=n1_;clear n0_ n1_)))|((with_reducible refine qaO (f:=61) rfl ?_);refine qbG (some 22) rfl rfl Tryd.func61 (by kernel_rfl) rfl #[.string a0,.func (.func 65) #[] #[]] rfl (by (try simp only [List.map_toArray,List.map_cons,List.map_nil]);first|done|rfl|(simp only [List.length_drop,List.length_take];rfl)) ?_;(with_reducible refine (lexer_length.calls a0 65 t110 _ A16.out).mono ?_);rintro e w' ⟨rfl,⟨nd,rfl⟩⟩;refine ⟨_,rfl,?_⟩;(try (rw [drewN_self w18];generalize hq_:World.drewN w18 _=w18;have n0_:Aside0 (w18.heap[gb101]?=some (.cells #[.int .i64 0,.string (⟨#[]⟩:ByteArray),.int .i64 0,.int .i64 0] 68 (0,0))):=⟨by rw [← hq_];exact (by (with_reducible repeat (first|refine qaH ?_ _|refine qaI ?_|refine qaG ?_ _));exact BK101.out)⟩;have n1_:Aside0 (Below w.heap.size w w18):=⟨by rw [← hq_];exact (by repeat (first|(with_reducible first|exact HB.out|apply qaB|apply qaA|apply qaC|refine qaF ?_ GE101.out)|exact HB.out))⟩;clear BK101 HB hq_;have BK101:=n0_;have HB:=n1_;clear n0_ n1_));have hcz19_0:w18.cell? ⟨gb101,0,none⟩=some (.int .i64 0):=(qaE BK101.out 0).trans rfl;have hcz19_1:w18.cell? ⟨gb101,1,none⟩=some (.string (⟨#[]⟩:ByteArray)):=(qaE BK101.out 1).trans rfl;have hcz19_2:w18.cell? ⟨gb101,2,none⟩=some (.int .i64 0):=(qaE BK101.out 2).trans rfl;have hcz19_3:w18.cell? ⟨gb101,3,none⟩=some (.int .i64 0):=(qaE BK101.out 3).trans rfl;have hfz19_0:=qaD BK101.out 0;have hfz19_1:=qaD BK101.out 1;have hfz19_2:=qaD BK101.out 2;have hfz19_3:=qaD BK101.out 3))
     refine bodyPost_ret (qcF rfl _ _ gb101 68 #[.int .i64 0,.string (⟨#[]⟩:ByteArray),.int .i64 0,.int .i64 0] (0,0) _ rfl (by (with_reducible repeat (first|refine qaH ?_ _|refine qaI ?_|refine qaG ?_ _));refine qaR (cs:=#[.int .i64 0,.string (⟨#[]⟩:ByteArray),.int .i64 0,.int .i64 0]) ?_ 3 _ rfl;(with_reducible repeat (first|refine qaH ?_ _|refine qaI ?_|refine qaG ?_ _));refine qaR (cs:=#[.int .i64 0,.string (⟨#[]⟩:ByteArray),.int .i64 0,.int .i64 0]) ?_ 2 _ rfl;(with_reducible repeat (first|refine qaH ?_ _|refine qaI ?_|refine qaG ?_ _));refine qaR (cs:=#[.int .i64 0,.string (⟨#[]⟩:ByteArray),.int .i64 0,.int .i64 0]) ?_ 1 _ rfl;(with_reducible repeat (first|refine qaH ?_ _|refine qaI ?_|refine qaG ?_ _));refine qaR (cs:=#[.int .i64 0,.string (⟨#[]⟩:ByteArray),.int .i64 0,.int .i64 0]) ?_ 0 _ rfl;(with_reducible repeat (first|refine qaH ?_ _|refine qaI ?_|refine qaG ?_ _));exact BK101.out) Tryd.underlying68 rfl (by kernel_rfl)) rfl ?_
     exact ⟨by first|rfl|(simp [qaL,qaM]<;>rfl)|(simp [*,qaL,qaM]<;>rfl),by repeat (first|(with_reducible first|exact HB.out|apply qaB|apply qaA|apply qaC|refine qaF ?_ GE101.out)|exact HB.out)⟩
    ·rw [if_neg c17] at H
     have c17b0:decide (16 < t110)=false:=decide_eq_false c17
     clear c17
     by_cases c20:0≤t110
     ·rw [if_pos c20] at H
      have c20b0:=eq_true c20
      have c20b1:decide (0≤t110)=true:=decide_eq_true c20
      clear c20
      by_cases c21:t110≤(a0.size:Int)
      ·rw [if_pos c21] at H
       have c21b0:=eq_true c21
       have c21b1:decide (t110≤(a0.size:Int))=true:=decide_eq_true c21
       clear c21
       simp only [Option.some.injEq,Prod.mk.injEq] at H
       obtain ⟨rfl,rfl,rfl,rfl,rfl⟩:=H
       go_enter Tryd.func45,Tryd.ntmps45
       go_wp2_with (first|((with_reducible refine qbE (N:=2) rfl ?_);refine qbC ?hg (N:=2) ?hd (cs:=#[.int .i64 0,.string (⟨#[]⟩:ByteArray),.int .i64 0,.int .i64 0]) (t:=68) ?hr ?_;(case hd=>rfl);(case hg=>rfl);(case hr=>first|(go_simp;done)|(go_simp;rfl));intro gb101 hg w22 hbox hb;have n0_:=Aside0.mk (qaN (by repeat (first|(with_reducible first|exact HB.out|apply qaB|apply qaA|apply qaC)|exact HB.out)) hb);have n1_:=Aside0.mk (hbox);have n2_:=Aside0.mk ((by rw [hg];exact (qaK (by repeat (first|(with_reducible first|exact HB.out|apply qaB|apply qaA|apply qaC)|exact HB.out))):w.heap.size≤gb101));have n3_:=Aside0.mk ((by rw [hg];exact (qaK (by repeat (first|(with_reducible first|exact HB.out|apply qaB|apply qaA|apply qaC)|exact HB.out))):w.heap.size≤gb101));clear HB;have HB:=n0_;have BK101:=n1_;have GW101:=n2_;have GE101:=n3_;clear n0_ n1_ n2_ n3_;clear hb hbox hg;have p3:0≤(0:Int):=(by omega);have q3:0 < a0.size:=(by have:(0:Int) < (a0.size:Int):=of_decide_eq_true (by first|(with_reducible assumption)|assumption);omega);have hx3:∀ h:0 < a0.size,((a0[0]'h).toNat:Int)=bt a0 0:=qcI a0 0;clear p3;have qi3:(0 < (a0.size:Int))=True:=eq_true (of_decide_eq_true (by first|(with_reducible assumption)|assumption));replace q3:=eq_true q3)|((with_reducible refine qaO (f:=63) rfl ?_);refine qbG (some 9) rfl rfl Tryd.func63 (by kernel_rfl) rfl #[.int .i32 (wrap32 (bt a0 0))] rfl (by (try simp only [List.map_toArray,List.map_cons,List.map_nil]);first|done|rfl|(simp only [List.length_drop,List.length_take];rfl)) ?_;(with_reducible refine (lexer_isDigit.calls (wrap32 (bt a0 0)) false _ A4.out).mono ?_);rintro e w' ⟨rfl,⟨nd,rfl⟩⟩;refine ⟨_,rfl,?_⟩;(try (rw [drewN_self w22];generalize hq_:World.drewN w22 _=w22;have n0_:Aside0 (w22.heap[gb101]?=some (.cells #[.int .i64 0,.string (⟨#[]⟩:ByteArray),.int .i64 0,.int .i64 0] 68 (0,0))):=⟨by rw [← hq_];exact (by (with_reducible repeat (first|refine qaH ?_ _|refine qaI ?_|refine qaG ?_ _));exact BK101.out)⟩;have n1_:Aside0 (Below w.heap.size w w22):=⟨by rw [← hq_];exact (by repeat (first|(with_reducible first|exact HB.out|apply qaB|apply qaA|apply qaC|refine qaF ?_ GE101.out)|exact HB.out))⟩;clear BK101 HB hq_;have BK101:=n0_;have HB:=n1_;clear n0_ n1_));have p13:0≤(0:Int):=(by omega);have q13:0 < a0.size:=(by have:(0:Int) < (a0.size:Int):=of_decide_eq_true (by first|(with_reducible assumption)|assumption);omega);have hx13:∀ h:0 < a0.size,((a0[0]'h).toNat:Int)=bt a0 0:=qcI a0 0;clear p13;have qi13:(0 < (a0.size:Int))=True:=eq_true (of_decide_eq_true (by first|(with_reducible assumption)|assumption));replace q13:=eq_true q13)|((with_reducible refine qaO (f:=65) rfl ?_);refine qbG (some 20) rfl rfl Tryd.func65 (by kernel_rfl) rfl #[.int .i32 (wrap32 (bt a0 0))] rfl (by (try simp only [List.map_toArray,List.map_cons,List.map_nil]);first|done|rfl|(simp only [List.length_drop,List.length_take];rfl)) ?_;(with_reducible refine (lexer_isWord.calls (wrap32 (bt a0 0)) true _ A14.out).mono ?_);rintro e w' ⟨rfl,⟨nd,rfl⟩⟩;refine ⟨_,rfl,?_⟩;(try (rw [drewN_self w22];generalize hq_:World.drewN w22 _=w22;have n0_:Aside0 (w22.heap[gb101]?=some (.cells #[.int .i64 0,.string (⟨#[]⟩:ByteArray),.int .i64 0,.int .i64 0] 68 (0,0))):=⟨by rw [← hq_];exact (by (with_reducible repeat (first|refine qaH ?_ _|refine qaI ?_|refine qaG ?_ _));exact BK101.out)⟩;have n1_:Aside0 (Below w.heap.size w w22):=⟨by rw [← hq_];exact (by repeat (first|(with_reducible first|exact HB.out|apply qaB|apply qaA|apply qaC|refine qaF ?_ GE101.out)|exact HB.out))⟩;clear BK101 HB hq_;have BK101:=n0_;have HB:=n1_;clear n0_ n1_)))|((with_reducible refine qaO (f:=61) rfl ?_);refine qbG (some 22) rfl rfl Tryd.func61 (by kernel_rfl) rfl #[.string a0,.func (.func 65) #[] #[]] rfl (by (try simp only [List.map_toArray,List.map_cons,List.map_nil]);first|done|rfl|(simp only [List.length_drop,List.length_take];rfl)) ?_;(with_reducible refine (lexer_length.calls a0 65 t110 _ A16.out).mono ?_);rintro e w' ⟨rfl,⟨nd,rfl⟩⟩;refine ⟨_,rfl,?_⟩;(try (rw [drewN_self w22];generalize hq_:World.drewN w22 _=w22;have n0_:Aside0 (w22.heap[gb101]?=some (.cells #[.int .i64 0,.string (⟨#[]⟩:ByteArray),.int .i64 0,.int .i64 0] 68 (0,0))):=⟨by rw [← hq_];exact (by (with_reducible repeat (first|refine qaH ?_ _|refine qaI ?_|refine qaG ?_ _));exact BK101.out)⟩;have n1_:Aside0 (Below w.heap.size w w22):=⟨by rw [← hq_];exact (by repeat (first|(with_reducible first|exact HB.out|apply qaB|apply qaA|apply qaC|refine qaF ?_ GE101.out)|exact HB.out))⟩;clear BK101 HB hq_;have BK101:=n0_;have HB:=n1_;clear n0_ n1_));have hcz23_0:w22.cell? ⟨gb101,0,none⟩=some (.int .i64 0):=(qaE BK101.out 0).trans rfl;have hcz23_1:w22.cell? ⟨gb101,1,none⟩=some (.string (⟨#[]⟩:ByteArray)):=(qaE BK101.out 1).trans rfl;have hcz23_2:w22.cell? ⟨gb101,2,none⟩=some (.int .i64 0):=(qaE BK101.out 2).trans rfl;have hcz23_3:w22.cell? ⟨gb101,3,none⟩=some (.int .i64 0):=(qaE BK101.out 3).trans rfl;have hfz23_0:=qaD BK101.out 0;have hfz23_1:=qaD BK101.out 1;have hfz23_2:=qaD BK101.out 2;have hfz23_3:=qaD BK101.out 3))
       refine bodyPost_ret (qcF rfl _ _ gb101 68 #[.int .i64 1,.string (a0.extract 0 (t110:Int).toNat),.int .i64 0,.int .i64 0] (0,0) _ rfl (by (with_reducible repeat (first|refine qaH ?_ _|refine qaI ?_|refine qaG ?_ _));refine qaR (cs:=#[.int .i64 1,.string (a0.extract 0 (t110:Int).toNat),.int .i64 0,.int .i64 0]) ?_ 3 _ rfl;(with_reducible repeat (first|refine qaH ?_ _|refine qaI ?_|refine qaG ?_ _));refine qaR (cs:=#[.int .i64 1,.string (a0.extract 0 (t110:Int).toNat),.int .i64 0,.int .i64 0]) ?_ 2 _ rfl;(with_reducible repeat (first|refine qaH ?_ _|refine qaI ?_|refine qaG ?_ _));refine qaR (cs:=#[.int .i64 1,.string (⟨#[]⟩:ByteArray),.int .i64 0,.int .i64 0]) ?_ 1 _ rfl;(with_reducible repeat (first|refine qaH ?_ _|refine qaI ?_|refine qaG ?_ _));refine qaR (cs:=#[.int .i64 0,.string (⟨#[]⟩:ByteArray),.int .i64 0,.int .i64 0]) ?_ 0 _ rfl;(with_reducible repeat (first|refine qaH ?_ _|refine qaI ?_|refine qaG ?_ _));exact BK101.out) Tryd.underlying68 rfl (by kernel_rfl)) rfl ?_
       exact ⟨by first|rfl|(simp [qaL,qaM]<;>rfl)|(simp [*,qaL,qaM]<;>rfl),by repeat (first|(with_reducible first|exact HB.out|apply qaB|apply qaA|apply qaC|refine qaF ?_ GE101.out)|exact HB.out)⟩
      ·rw [if_neg c21] at H
       exact absurd H (by simp)
     ·rw [if_neg c20] at H
      exact absurd H (by simp)
   ·replace c15:=Bool.eq_false_iff.mpr c15
    subst c15
    have H1:(lexer_first.l0 k a0 (mn 2 (a0.size:Int)))=some (r1,r2,r3,r4,r5):=by rw [if_neg (show ¬ (false=true) by decide)] at H;exact H
    clear H
    have H:=H1
    clear H1
    obtain ⟨ji24,hji24⟩:∃ j_:Int,(mn 2 (a0.size:Int))=j_:=⟨_,rfl⟩
    replace H:(lexer_first.l0 k a0 ji24)=some (r1,r2,r3,r4,r5):=by first|(rw [hji24] at H;exact H)|(simp only [hji24] at H ⊢;exact H)
    (try rw [hji24] at A4)
    (try rw [hji24] at A14)
    (try (have hji24h:ji24≤2:=by (rw [← hji24];unfold mn;(repeat' split)<;>omega)))
    (try (have hji24g:ji24≤64:=by omega))
    (try (have hji24l:0≤ji24:=by (rw [← hji24];unfold mn;(repeat' split)<;>omega)))
    (try (have hji24m:0≤ji24:=by omega))
    have hji24_:(if (a0.size:Int) < 2 then (a0.size:Int) else 2)=ji24:=hji24
    have H':=Aside0.mk H
    clear H
    go_enter Tryd.func45,Tryd.ntmps45
    go_wp2_with (first|((with_reducible refine qbE (N:=2) rfl ?_);refine qbC ?hg (N:=2) ?hd (cs:=#[.int .i64 0,.string (⟨#[]⟩:ByteArray),.int .i64 0,.int .i64 0]) (t:=68) ?hr ?_;(case hd=>rfl);(case hg=>rfl);(case hr=>first|(go_simp;done)|(go_simp;rfl));intro gb101 hg w25 hbox hb;have n0_:=Aside0.mk (qaN (by repeat (first|(with_reducible first|exact HB.out|apply qaB|apply qaA|apply qaC)|exact HB.out)) hb);have n1_:=Aside0.mk (hbox);have n2_:=Aside0.mk ((by rw [hg];exact (qaK (by repeat (first|(with_reducible first|exact HB.out|apply qaB|apply qaA|apply qaC)|exact HB.out))):w.heap.size≤gb101));have n3_:=Aside0.mk ((by rw [hg];exact (qaK (by repeat (first|(with_reducible first|exact HB.out|apply qaB|apply qaA|apply qaC)|exact HB.out))):w.heap.size≤gb101));clear HB;have HB:=n0_;have BK101:=n1_;have GW101:=n2_;have GE101:=n3_;clear n0_ n1_ n2_ n3_;clear hb hbox hg;have p3:0≤(0:Int):=(by omega);have q3:0 < a0.size:=(by have:(0:Int) < (a0.size:Int):=of_decide_eq_true (by first|(with_reducible assumption)|assumption);omega);have hx3:∀ h:0 < a0.size,((a0[0]'h).toNat:Int)=bt a0 0:=qcI a0 0;clear p3;have qi3:(0 < (a0.size:Int))=True:=eq_true (of_decide_eq_true (by first|(with_reducible assumption)|assumption));replace q3:=eq_true q3)|((with_reducible refine qaO (f:=63) rfl ?_);refine qbG (some 9) rfl rfl Tryd.func63 (by kernel_rfl) rfl #[.int .i32 (wrap32 (bt a0 0))] rfl (by (try simp only [List.map_toArray,List.map_cons,List.map_nil]);first|done|rfl|(simp only [List.length_drop,List.length_take];rfl)) ?_;(with_reducible refine (lexer_isDigit.calls (wrap32 (bt a0 0)) false _ A4.out).mono ?_);rintro e w' ⟨rfl,⟨nd,rfl⟩⟩;refine ⟨_,rfl,?_⟩;have p13:0≤(0:Int):=(by omega);have q13:0 < a0.size:=(by have:(0:Int) < (a0.size:Int):=of_decide_eq_true (by first|(with_reducible assumption)|assumption);omega);have hx13:∀ h:0 < a0.size,((a0[0]'h).toNat:Int)=bt a0 0:=qcI a0 0;clear p13;have qi13:(0 < (a0.size:Int))=True:=eq_true (of_decide_eq_true (by first|(with_reducible assumption)|assumption));replace q13:=eq_true q13)|((with_reducible refine qaO (f:=65) rfl ?_);refine qbG (some 20) rfl rfl Tryd.func65 (by kernel_rfl) rfl #[.int .i32 (wrap32 (bt a0 0))] rfl (by (try simp only [List.map_toArray,List.map_cons,List.map_nil]);first|done|rfl|(simp only [List.length_drop,List.length_take];rfl)) ?_;(with_reducible refine (lexer_isWord.calls (wrap32 (bt a0 0)) false _ A14.out).mono ?_);rintro e w' ⟨rfl,⟨nd,rfl⟩⟩;refine ⟨_,rfl,?_⟩))
    go_loopg [5] k (fun kq v5 w'=>∃ (x5_1:Int) (x102000_1:Int) (x102001_1:ByteArray) (x102002_1:Int) (x102003_1:Int),v5=.int .i64 x5_1∧Aside0 (lexer_first.l0 kq a0 x5_1=some (r1,r2,r3,r4,r5))∧Aside0 (kq≤k)∧Aside0 (w'.heap[gb101]?=some (.cells #[.int .i64 x102000_1,.string x102001_1,.int .i64 x102002_1,.int .i64 x102003_1] 68 (0,0)))∧Aside0 (Below w.heap.size w w'))
    case atStart=>exact ⟨(ji24),(0),((⟨#[]⟩:ByteArray)),(0),(0),(by first|rfl|(simp;done)|(simp only [← hji24]<;>(first|rfl|simp))|(simp [*];done)),H',⟨Nat.le_refl _⟩,⟨by (with_reducible repeat (first|refine qaH ?_ _|refine qaI ?_|refine qaG ?_ _));exact BK101.out⟩,⟨by repeat (first|(with_reducible first|exact HB.out|apply qaB|apply qaA|apply qaC|refine qaF ?_ GE101.out)|exact HB.out)⟩⟩
    case round =>
     clear H'
     try clear c1
     try clear p1
     try clear q1
     try clear hx1
     try clear qi1
     try clear c2
     try clear c2b0
     try clear c2b1
     try clear p2
     try clear p3
     try clear q3
     try clear hx3
     try clear qi3
     try clear c4
     try clear c5
     try clear c6
     try clear c7
     try clear c7b0
     try clear c7b1
     try clear c8
     try clear c8b0
     try clear c8b1
     try clear p13
     try clear q13
     try clear hx13
     try clear qi13
     try clear c15
     try clear c17
     try clear c17b0
     try clear c20
     try clear c20b0
     try clear c20b1
     try clear c21
     try clear c21b0
     try clear c21b1
     try clear hcz12_0
     try clear hcz12_1
     try clear hcz12_2
     try clear hcz12_3
     try clear hcz19_0
     try clear hcz19_1
     try clear hcz19_2
     try clear hcz19_3
     try clear hcz23_0
     try clear hcz23_1
     try clear hcz23_2
     try clear hcz23_3
     try clear hfz12_0
     try clear hfz12_1
     try clear hfz12_2
     try clear hfz12_3
     try clear hfz19_0
     try clear hfz19_1
     try clear hfz19_2
     try clear hfz19_3
     try clear hfz23_0
     try clear hfz23_1
     try clear hfz23_2
     try clear hfz23_3
     try clear p13
     try clear p3
     try clear q13
     try clear q3
     obtain ⟨x5_1,x102000_1,x102001_1,x102002_1,x102003_1,rfl,HA,HK1,BK101,HB⟩:=hrel
     cases gk with
     | zero=>exact absurd HA.out (by simp [lexer_first.l0])
     | succ k1 =>
      have H:=HA.out
      clear HA
      simp only [lexer_first.l0] at H
      by_cases c26:x5_1 > 0
      ·rw [if_pos c26] at H
       have c26b0:decide (0 < x5_1)=true:=decide_eq_true c26
       clear c26
       by_cases c27:0≤x5_1
       ·rw [if_pos c27] at H
        have c27b0:=eq_true c27
        have c27b1:decide (0≤x5_1)=true:=decide_eq_true c27
        clear c27
        by_cases c28:x5_1≤(a0.size:Int)
        ·rw [if_pos c28] at H
         have c28b0:=eq_true c28
         have c28b1:decide (x5_1≤(a0.size:Int))=true:=decide_eq_true c28
         clear c28
         replace H:=Option.bind_eq_some_iff.mp H
         obtain ⟨t111,A290,H⟩:=H
         replace H:(if t111=true then (some (3,a0.extract 0 (x5_1:Int).toNat,0,0,0)) else (lexer_first.l0 k1 a0 (wrap64 (x5_1 - 1))))=some (r1,r2,r3,r4,r5):=H
         have A29:=Aside0.mk A290
         clear A290
         by_cases c30:t111=true
         ·subst c30
          have H1:(some (3,a0.extract 0 (x5_1:Int).toNat,0,0,0))=some (r1,r2,r3,r4,r5):=by rw [if_pos rfl] at H;exact H
          clear H
          have H:=H1
          clear H1
          have c31b0:=eq_true (of_decide_eq_true (by first|(with_reducible assumption)|assumption):0≤x5_1)
          have c32b0:=eq_true (of_decide_eq_true (by first|(with_reducible assumption)|assumption):x5_1≤(a0.size:Int))
          simp only [Option.some.injEq,Prod.mk.injEq] at H
          obtain ⟨rfl,rfl,rfl,rfl,rfl⟩:=H
          go_wp2_with (first|((with_reducible refine qaO (f:=66) rfl ?_);refine qbG (some 40) rfl rfl Tryd.func66 (by kernel_rfl) rfl #[.string (a0.extract 0 (x5_1:Int).toNat)] rfl (by (try simp only [List.map_toArray,List.map_cons,List.map_nil]);first|done|rfl|(simp only [List.length_drop,List.length_take];rfl)) ?_;(with_reducible refine (lexer_IsMark.calls (a0.extract 0 (x5_1:Int).toNat) true _ A29.out).mono ?_);rintro e w' ⟨rfl,⟨nd,rfl⟩⟩;refine ⟨_,rfl,?_⟩;(try (rw [drewN_self wr];generalize hq_:World.drewN wr _=wr;have n0_:Aside0 (wr.heap[gb101]?=some (.cells #[.int .i64 x102000_1,.string x102001_1,.int .i64 x102002_1,.int .i64 x102003_1] 68 (0,0))):=⟨by rw [← hq_];exact (by (with_reducible repeat (first|refine qaH ?_ _|refine qaI ?_|refine qaG ?_ _));exact BK101.out)⟩;have n1_:Aside0 (Below w.heap.size w wr):=⟨by rw [← hq_];exact (by repeat (first|(with_reducible first|exact HB.out|apply qaB|apply qaA|apply qaC|refine qaF ?_ GE101.out)|exact HB.out))⟩;clear BK101 HB hq_;have BK101:=n0_;have HB:=n1_;clear n0_ n1_));have hcz33_0:wr.cell? ⟨gb101,0,none⟩=some (.int .i64 x102000_1):=(qaE BK101.out 0).trans rfl;have hcz33_1:wr.cell? ⟨gb101,1,none⟩=some (.string x102001_1):=(qaE BK101.out 1).trans rfl;have hcz33_2:wr.cell? ⟨gb101,2,none⟩=some (.int .i64 x102002_1):=(qaE BK101.out 2).trans rfl;have hcz33_3:wr.cell? ⟨gb101,3,none⟩=some (.int .i64 x102003_1):=(qaE BK101.out 3).trans rfl;have hfz33_0:=qaD BK101.out 0;have hfz33_1:=qaD BK101.out 1;have hfz33_2:=qaD BK101.out 2;have hfz33_3:=qaD BK101.out 3))
          refine bodyPost_ret (qcF rfl _ _ gb101 68 #[.int .i64 3,.string (a0.extract 0 (x5_1:Int).toNat),.int .i64 0,.int .i64 0] (0,0) _ rfl (by (with_reducible repeat (first|refine qaH ?_ _|refine qaI ?_|refine qaG ?_ _));refine qaR (cs:=#[.int .i64 3,.string (a0.extract 0 (x5_1:Int).toNat),.int .i64 0,.int .i64 x102003_1]) ?_ 3 _ rfl;(with_reducible repeat (first|refine qaH ?_ _|refine qaI ?_|refine qaG ?_ _));refine qaR (cs:=#[.int .i64 3,.string (a0.extract 0 (x5_1:Int).toNat),.int .i64 x102002_1,.int .i64 x102003_1]) ?_ 2 _ rfl;(with_reducible repeat (first|refine qaH ?_ _|refine qaI ?_|refine qaG ?_ _));refine qaR (cs:=#[.int .i64 3,.string x102001_1,.int .i64 x102002_1,.int .i64 x102003_1]) ?_ 1 _ rfl;(with_reducible repeat (first|refine qaH ?_ _|refine qaI ?_|refine qaG ?_ _));refine qaR (cs:=#[.int .i64 x102000_1,.string x102001_1,.int .i64 x102002_1,.int .i64 x102003_1]) ?_ 0 _ rfl;(with_reducible repeat (first|refine qaH ?_ _|refine qaI ?_|refine qaG ?_ _));exact BK101.out) Tryd.underlying68 rfl (by kernel_rfl)) rfl ?_
          exact ⟨by first|rfl|(simp [qaL,qaM]<;>rfl)|(simp only [← hji24];first|rfl|(simp [qaL,qaM]<;>rfl))|(simp [*,qaL,qaM]<;>rfl),by repeat (first|(with_reducible first|exact HB.out|apply qaB|apply qaA|apply qaC|refine qaF ?_ GE101.out)|exact HB.out)⟩
         ·replace c30:=Bool.eq_false_iff.mpr c30
          subst c30
          have H1:(lexer_first.l0 k1 a0 (wrap64 (x5_1 - 1)))=some (r1,r2,r3,r4,r5):=by rw [if_neg (show ¬ (false=true) by decide)] at H;exact H
          clear H
          have H:=H1
          clear H1
          have H':=Aside0.mk H
          clear H
          go_wp2_with (first|((with_reducible refine qaO (f:=66) rfl ?_);refine qbG (some 40) rfl rfl Tryd.func66 (by kernel_rfl) rfl #[.string (a0.extract 0 (x5_1:Int).toNat)] rfl (by (try simp only [List.map_toArray,List.map_cons,List.map_nil]);first|done|rfl|(simp only [List.length_drop,List.length_take];rfl)) ?_;(with_reducible refine (lexer_IsMark.calls (a0.extract 0 (x5_1:Int).toNat) false _ A29.out).mono ?_);rintro e w' ⟨rfl,⟨nd,rfl⟩⟩;refine ⟨_,rfl,?_⟩))
          go_roundg k1
          case measure=>have:=HK1.out;omega
          case rel=>exact ⟨(wrap64 (x5_1 - 1)),(x102000_1),(x102001_1),(x102002_1),(x102003_1),(by first|rfl|(simp;done)|(simp [*];done)),H',⟨by have:=HK1.out;omega⟩,⟨by (with_reducible repeat (first|refine qaH ?_ _|refine qaI ?_|refine qaG ?_ _));exact BK101.out⟩,⟨by repeat (first|(with_reducible first|exact HB.out|apply qaB|apply qaA|apply qaC|refine qaF ?_ GE101.out)|exact HB.out)⟩⟩
        ·rw [if_neg c28] at H
         exact absurd H (by simp)
       ·rw [if_neg c27] at H
        exact absurd H (by simp)
      ·rw [if_neg c26] at H
       have c26b0:decide (0 < x5_1)=false:=decide_eq_false c26
       clear c26
       simp only [Option.some.injEq,Prod.mk.injEq] at H
       obtain ⟨rfl,rfl,rfl,rfl,rfl⟩:=H
       have hcz34_0:wr.cell? ⟨gb101,0,none⟩=some (.int .i64 x102000_1):=(qaE BK101.out 0).trans rfl
       have hcz34_1:wr.cell? ⟨gb101,1,none⟩=some (.string x102001_1):=(qaE BK101.out 1).trans rfl
       have hcz34_2:wr.cell? ⟨gb101,2,none⟩=some (.int .i64 x102002_1):=(qaE BK101.out 2).trans rfl
       have hcz34_3:wr.cell? ⟨gb101,3,none⟩=some (.int .i64 x102003_1):=(qaE BK101.out 3).trans rfl
       have hfz34_0:=qaD BK101.out 0
       have hfz34_1:=qaD BK101.out 1
       have hfz34_2:=qaD BK101.out 2
       have hfz34_3:=qaD BK101.out 3
       go_wp2
       refine bodyPost_ret (qcF rfl _ _ gb101 68 #[.int .i64 0,.string (⟨#[]⟩:ByteArray),.int .i64 0,.int .i64 0] (0,0) _ rfl (by (with_reducible repeat (first|refine qaH ?_ _|refine qaI ?_|refine qaG ?_ _));refine qaR (cs:=#[.int .i64 0,.string (⟨#[]⟩:ByteArray),.int .i64 0,.int .i64 x102003_1]) ?_ 3 _ rfl;(with_reducible repeat (first|refine qaH ?_ _|refine qaI ?_|refine qaG ?_ _));refine qaR (cs:=#[.int .i64 0,.string (⟨#[]⟩:ByteArray),.int .i64 x102002_1,.int .i64 x102003_1]) ?_ 2 _ rfl;(with_reducible repeat (first|refine qaH ?_ _|refine qaI ?_|refine qaG ?_ _));refine qaR (cs:=#[.int .i64 0,.string x102001_1,.int .i64 x102002_1,.int .i64 x102003_1]) ?_ 1 _ rfl;(with_reducible repeat (first|refine qaH ?_ _|refine qaI ?_|refine qaG ?_ _));refine qaR (cs:=#[.int .i64 x102000_1,.string x102001_1,.int .i64 x102002_1,.int .i64 x102003_1]) ?_ 0 _ rfl;(with_reducible repeat (first|refine qaH ?_ _|refine qaI ?_|refine qaG ?_ _));exact BK101.out) Tryd.underlying68 rfl (by kernel_rfl)) rfl ?_
       exact ⟨by first|rfl|(simp [qaL,qaM]<;>rfl)|(simp only [← hji24];first|rfl|(simp [qaL,qaM]<;>rfl))|(simp [*,qaL,qaM]<;>rfl),by repeat (first|(with_reducible first|exact HB.out|apply qaB|apply qaA|apply qaC|refine qaF ?_ GE101.out)|exact HB.out)⟩
 ·rw [if_neg c2] at H
  exact absurd H (by simp)
end Go.Proofs.YtehdmplngmbnnaaDoor.P
namespace Go.Proofs.YtehdmplngmbnnaaDoor.P
open Go.RowKit Go.Proofs.YtehdmplngmbnnaaDoorW.PrintWords Go.Proofs.YtehdmplngmbnnaaDoorW.PrintLast Go.Proofs.YtehdmplngmbnnaaDoorW.PrintMore
attribute [local go_sem] qbV qbW qcC qcD qbQ qbR qbX qbY
attribute [local go_sem] qbL
set_option linter.unusedVariables false
set_option linter.unusedSimpArgs false
mutual
def lexer_skip.l0:Nat→ByteArray→Int→Option (Int)
 | 0,_,_=>none
 | k+1,x0,x3=>if x3 < (x0.size:Int) then (if 0≤x3 then (if (bt x0 x3)=32 then (lexer_skip.j1 k x0 x3 (bt x0 x3) ((bt x0 x3) == 32)) else (lexer_skip.j1 k x0 x3 (bt x0 x3) ((bt x0 x3) == 10))) else (none)) else (some x3)
def lexer_skip.j1:Nat→ByteArray→Int→Int→Bool→Option (Int)
 | 0,_,_,_,_=>none
 | k+1,x0,x3,x10,x12=>if x12=true then (lexer_skip.l0 k x0 (wrap64 (x3+1))) else (if x10=35 then (if 0≤x3 then (if x3≤(x0.size:Int) then ((lexer_length.f (x0.extract (x3:Int).toNat x0.size) 62).bind fun t101=>(lexer_skip.l0 k x0 (wrap64 (x3+t101)))) else (none)) else (none)) else (some x3))
end
def lexer_skip.f (k:Nat) (a0:ByteArray):Option (Int):=lexer_skip.l0 k a0 0
set_option maxHeartbeats 8000000 in
set_option maxRecDepth 100000 in
theorem lexer_skip.calls (k:Nat) (a0:ByteArray) (r:Int) (w:World) (h:lexer_skip.f k a0=some r) :
  Calls Tryd.prog 44 #[.string a0] w fun e w'=>e=.returned (.int .i64 r)∧Drawn0 w w':=by
 have H:(lexer_skip.l0 k a0 0)=some r:=h
 clear h
 have H':=Aside0.mk H
 clear H
 go_enter Tryd.func44,Tryd.ntmps44
 go_wp2
 go_loopg [3] k (fun kq v3 w'=>∃ (x3_1:Int),v3=.int .i64 x3_1∧Aside0 (lexer_skip.l0 kq a0 x3_1=some r)∧Aside0 (kq≤k)∧Drawn0 w w')
 case atStart=>exact ⟨(0),(by first|rfl|(simp;done)|(simp [*];done)),H',⟨Nat.le_refl _⟩,by repeat (first|exact Drawn0.refl _|apply Drawn0.step)⟩
 case round =>
  clear H'
  obtain ⟨x3_1,rfl,HA,HK1,⟨m1,rfl⟩⟩:=hrel
  cases gk with
  | zero=>exact absurd HA.out (by simp [lexer_skip.l0])
  | succ k1 =>
   have H:=HA.out
   clear HA
   simp only [lexer_skip.l0] at H
   by_cases c2:x3_1 < (a0.size:Int)
   ·rw [if_pos c2] at H
    have c2b0:decide (x3_1 < (a0.size:Int))=true:=decide_eq_true c2
    clear c2
    by_cases c3:0≤x3_1
    ·rw [if_pos c3] at H
     have c3b0:decide (0≤x3_1)=true:=decide_eq_true c3
     clear c3
     have HC5:=Aside0.mk H
     clear H
     have p4:0≤(x3_1:Int):=of_decide_eq_true (by first|(with_reducible assumption)|assumption)
     have q4:x3_1 < (a0.size:Int):=of_decide_eq_true (by first|(with_reducible assumption)|assumption)
     have hx4:=qcI a0 x3_1
     replace p4:=eq_true p4
     replace q4:=eq_true q4
     go_upto_if 12 with (fail)
     go_cut [12] (fun v12 wc=>∃ (kq:Nat) (x12_4:Bool),v12=.bool x12_4∧Aside0 (lexer_skip.j1 kq a0 x3_1 (bt a0 x3_1) x12_4=some r)∧Aside0 (kq≤k1)∧Drawn0 w wc)
     case first =>
      have H:=HC5.out
      clear HC5
      by_cases c6:(bt a0 x3_1)=32
      ·rw [if_pos c6] at H
       have c6b0:((bt a0 x3_1) == 32)=true:=beq_iff_eq.mpr c6
       have c6b1:((bt a0 x3_1) != 32)=false:=bne_eq_false_iff_eq.mpr c6
       clear c6
       (first|rw [c6b0]|(simp only [qaX,qaY];rw [c6b0])|skip)
       have H':=Aside0.mk H
       clear H
       go_wp2
       go_meet
       case rel=>exact ⟨_,(((bt a0 x3_1) == 32)),(by first|rfl|(simp;done)|(simp [*];done)),H',⟨by have:=HK1.out;first|omega|exact Nat.le_refl _⟩,by repeat (first|exact Drawn0.refl _|apply Drawn0.step)⟩
      ·rw [if_neg c6] at H
       have c6b0:((bt a0 x3_1) == 32)=false:=beq_eq_false_iff_ne.mpr c6
       have c6b1:((bt a0 x3_1) != 32)=true:=bne_iff_ne.mpr c6
       (first|rw [c6b0]|(simp only [qaX,qaY];rw [c6b0])|skip)
       have H':=Aside0.mk H
       clear H
       go_wp2
       go_meet
       case rel=>exact ⟨_,(((bt a0 x3_1) == 10)),(by first|rfl|(simp;done)|(simp [*];done)),H',⟨by have:=HK1.out;first|omega|exact Nat.le_refl _⟩,by repeat (first|exact Drawn0.refl _|apply Drawn0.step)⟩
     case rest =>
      clear HC5
      try clear c2
      try clear c2b0
      try clear p2
      try clear c3
      try clear c3b0
      try clear c4
      try clear p4
      try clear q4
      try clear hx4
      try clear c6
      try clear c6b0
      try clear c6b1
      try clear p4
      try clear q4
      obtain ⟨kq,x12_4,rfl,HA,HJ4,⟨mc4,rfl⟩⟩:=hcut
      cases kq with
      | zero=>exact absurd HA.out (by simp [lexer_skip.j1])
      | succ kj4 =>
       have H:=HA.out
       clear HA
       simp only [lexer_skip.j1] at H
       by_cases c7:x12_4=true
       ·subst c7
        have H1:(lexer_skip.l0 kj4 a0 (wrap64 (x3_1+1)))=some r:=by rw [if_pos rfl] at H;exact H
        clear H
        have H:=H1
        clear H1
        have H':=Aside0.mk H
        clear H
        go_wp2
        go_roundg kj4
        case measure=>have:=HK1.out;have:=HJ4.out;omega
        case rel=>exact ⟨(wrap64 (x3_1+1)),(by first|rfl|(simp;done)|(simp [*];done)),H',⟨by have:=HK1.out;have:=HJ4.out;omega⟩,by repeat (first|exact Drawn0.refl _|apply Drawn0.step)⟩
       ·replace c7:=Bool.eq_false_iff.mpr c7
        subst c7
        have H1:(if (bt a0 x3_1)=35 then (if 0≤x3_1 then (if x3_1≤(a0.size:Int) then ((lexer_length.f (a0.extract (x3_1:Int).toNat a0.size) 62).bind fun t101=>(lexer_skip.l0 kj4 a0 (wrap64 (x3_1+t101)))) else (none)) else (none)) else (some x3_1))=some r:=by rw [if_neg (show ¬ (false=true) by decide)] at H;exact H
        clear H
        have H:=H1
        clear H1
        by_cases c8:(bt a0 x3_1)=35
        ·rw [if_pos c8] at H
         have c8b0:((bt a0 x3_1) == 35)=true:=beq_iff_eq.mpr c8
         have c8b1:((bt a0 x3_1) != 35)=false:=bne_eq_false_iff_eq.mpr c8
         clear c8
         by_cases c9:0≤x3_1
         ·rw [if_pos c9] at H
          have c9b0:=eq_true c9
          have c9b1:decide (0≤x3_1)=true:=decide_eq_true c9
          clear c9
          by_cases c10:x3_1≤(a0.size:Int)
          ·rw [if_pos c10] at H
           have c10b0:=eq_true c10
           have c10b1:decide (x3_1≤(a0.size:Int))=true:=decide_eq_true c10
           clear c10
           replace H:=Option.bind_eq_some_iff.mp H
           obtain ⟨t101,A110,H⟩:=H
           replace H:(lexer_skip.l0 kj4 a0 (wrap64 (x3_1+t101)))=some r:=H
           have A11:=Aside0.mk A110
           clear A110
           have H':=Aside0.mk H
           clear H
           go_wp2_with (first|((with_reducible refine qaO (f:=61) rfl ?_);refine qbG (some 23) rfl rfl Tryd.func61 (by kernel_rfl) rfl #[.string (a0.extract (x3_1:Int).toNat a0.size),.func (.func 62) #[] #[]] rfl (by (try simp only [List.map_toArray,List.map_cons,List.map_nil]);first|done|rfl|(simp only [List.length_drop,List.length_take];rfl)) ?_;(with_reducible refine (lexer_length.calls (a0.extract (x3_1:Int).toNat a0.size) 62 t101 _ A11.out).mono ?_);rintro e w' ⟨rfl,⟨nd,rfl⟩⟩;refine ⟨_,rfl,?_⟩))
           go_roundg kj4
           case measure=>have:=HK1.out;have:=HJ4.out;omega
           case rel=>exact ⟨(wrap64 (x3_1+t101)),(by first|rfl|(simp;done)|(simp [*];done)),H',⟨by have:=HK1.out;have:=HJ4.out;omega⟩,by repeat (first|exact Drawn0.refl _|apply Drawn0.step)⟩
          ·rw [if_neg c10] at H
           exact absurd H (by simp)
         ·rw [if_neg c9] at H
          exact absurd H (by simp)
        ·rw [if_neg c8] at H
         have c8b0:((bt a0 x3_1) == 35)=false:=beq_eq_false_iff_ne.mpr c8
         have c8b1:((bt a0 x3_1) != 35)=true:=bne_iff_ne.mpr c8
         obtain rfl:=Option.some.inj H
         go_wp2
         go_ret
         exact ⟨by first|rfl|(simp;done)|(simp [*];done),by repeat (first|exact Drawn0.refl _|apply Drawn0.step)⟩
    ·rw [if_neg c3] at H
     exact absurd H (by simp)
   ·rw [if_neg c2] at H
    have c2b0:decide (x3_1 < (a0.size:Int))=false:=decide_eq_false c2
    clear c2
    obtain rfl:=Option.some.inj H
    go_wp2
    go_ret
    exact ⟨by first|rfl|(simp;done)|(simp [*];done),by repeat (first|exact Drawn0.refl _|apply Drawn0.step)⟩
end Go.Proofs.YtehdmplngmbnnaaDoor.P
namespace Go.Proofs.YtehdmplngmbnnaaDoor.P
open Go.RowKit Go.Proofs.YtehdmplngmbnnaaDoorW.PrintWords Go.Proofs.YtehdmplngmbnnaaDoorW.PrintLast Go.Proofs.YtehdmplngmbnnaaDoorW.PrintMore
attribute [local go_sem] qbV qbW qcC qcD qbQ qbR qbX qbY
attribute [local go_sem] qbL
set_option linter.unusedVariables false
set_option linter.unusedSimpArgs false
def lexer_Scan.l0:Nat→ByteArray→List (S68)→Int→Option ((List (S68)) × Int × Int)
 | 0,_,_,_=>none
 | k+1,x0,x5,x6=>if x6 < (x0.size:Int) then (if 0≤x6 then (if x6≤(x0.size:Int) then ((lexer_first.f k (x0.extract (x6:Int).toNat x0.size)).bind fun bt105=>(if bt105.2.2.2.2=0 then (if x5.length < 3518437208883 then (if 0≤(wrap64 (x6+(bt105.2.1.size:Int))) then (if (wrap64 (x6+(bt105.2.1.size:Int)))≤(x0.size:Int) then ((lexer_skip.f k (x0.extract ((wrap64 (x6+(bt105.2.1.size:Int))):Int).toNat x0.size)).bind fun t114=>(lexer_Scan.l0 k x0 (x5++[(⟨bt105.1,bt105.2.1,bt105.2.2.1,x6⟩:S68)]) (wrap64 ((wrap64 (x6+(bt105.2.1.size:Int)))+t114)))) else (none)) else (none)) else (none)) else (some (([]:List (S68)),bt105.2.2.2.2,x6)))) else (none)) else (none)) else (if x5.length < 3518437208883 then (some ((x5++[(⟨0,(⟨#[]⟩:ByteArray),0,(x0.size:Int)⟩:S68)]),0,0)) else (none))
def lexer_Scan.f (k:Nat) (a0:ByteArray):Option ((List (S68)) × Int × Int):=if (a0.size:Int) > 8000 then (some (([]:List (S68)),4,0)) else ((lexer_skip.f k a0).bind fun t101=>(lexer_Scan.l0 k a0 ([]:List (S68)) t101))
set_option maxHeartbeats 8000000 in
set_option maxRecDepth 100000 in
theorem lexer_Scan.calls (k:Nat) (a0:ByteArray) (r1:List (S68)) (r2:Int) (r3:Int) (w:World) (h:lexer_Scan.f k a0=some (r1,r2,r3)) :
  Calls Tryd.prog 29 #[.string a0] w fun e w'=>∃ v0_:Value,e=.returned (.tuple #[v0_,.int .i64 r2,.int .i64 r3])∧Kd.R k68 68 w' w.heap.size (fun _=>True) v0_ r1∧Below w.heap.size w w':=by
 have hu68:=Tryd.underlying68
 have HB:=Aside0.mk (Below.refl w.heap.size w)
 have H:(if (a0.size:Int) > 8000 then (some (([]:List (S68)),4,0)) else ((lexer_skip.f k a0).bind fun t101=>(lexer_Scan.l0 k a0 ([]:List (S68)) t101)))=some (r1,r2,r3):=h
 clear h
 by_cases c2:(a0.size:Int) > 8000
 ·rw [if_pos c2] at H
  have c2b0:decide (8000 < (a0.size:Int))=true:=decide_eq_true c2
  have c2b1:decide (8000 < a0.size)=true:=decide_eq_true (by omega)
  clear c2
  simp only [Option.some.injEq,Prod.mk.injEq] at H
  obtain ⟨rfl,rfl,rfl⟩:=H
  go_enter Tryd.func29,Tryd.ntmps29
  go_wp2
  go_ret3
  exact ⟨_,by first|rfl|(simp [qaL,qaM]<;>rfl)|(simp [*,qaL,qaM]<;>rfl),by first|exact Kd.R_nil _ _ _ _ _|exact Kd.N_nil _ _ _ _ _|exact Kd.V_nil _ _ _ _ _|exact Kd.Q_nil _ _ _ _ _|exact Kd.S_nil _ _ _ _ _,by repeat (first|(with_reducible first|exact HB.out|apply qaB|apply qaA|apply qaC)|exact HB.out)⟩
 ·rw [if_neg c2] at H
  have c2b0:decide (8000 < (a0.size:Int))=false:=decide_eq_false c2
  have c2b1:decide (8000 < a0.size)=false:=decide_eq_false (by omega)
  clear c2
  replace H:=Option.bind_eq_some_iff.mp H
  obtain ⟨t101,A30,H⟩:=H
  replace H:(lexer_Scan.l0 k a0 ([]:List (S68)) t101)=some (r1,r2,r3):=H
  have A3:=Aside0.mk A30
  clear A30
  have H':=Aside0.mk H
  clear H
  go_enter Tryd.func29,Tryd.ntmps29
  go_wp2_with (first|((with_reducible refine qaO (f:=44) rfl ?_);refine qbG (some 13) rfl rfl Tryd.func44 (by kernel_rfl) rfl #[.string a0] rfl (by (try simp only [List.map_toArray,List.map_cons,List.map_nil]);first|done|rfl|(simp only [List.length_drop,List.length_take];rfl)) ?_;(with_reducible refine (lexer_skip.calls k a0 t101 _ A3.out).mono ?_);rintro e w' ⟨rfl,⟨nd,rfl⟩⟩;refine ⟨_,rfl,?_⟩))
  go_loopg [5,6] k (fun kq v5 v6 w'=>∃ (x5_1:List (S68)) (x6_1:Int),v6=.int .i64 x6_1∧Aside0 (lexer_Scan.l0 kq a0 x5_1 x6_1=some (r1,r2,r3))∧Aside0 (kq≤k)∧Aside0 (Kd.R k68 68 w' w.heap.size (fun _=>True) v5 x5_1)∧Aside0 (Below w.heap.size w w'))
  case atStart=>exact ⟨(([]:List (S68))),(t101),(by first|rfl|(simp;done)|(simp [*];done)),H',⟨Nat.le_refl _⟩,⟨by first|exact Kd.R_nil _ _ _ _ _|exact Kd.N_nil _ _ _ _ _|exact Kd.V_nil _ _ _ _ _|exact Kd.Q_nil _ _ _ _ _|exact Kd.S_nil _ _ _ _ _⟩,⟨by repeat (first|(with_reducible first|exact HB.out|apply qaB|apply qaA|apply qaC)|exact HB.out)⟩⟩
  case round =>
   clear H'
   try clear c2
   try clear c2b0
   try clear c2b1
   try clear p2
   obtain ⟨x5_1,x6_1,rfl,HA,HK1,HO_5,HB⟩:=hrel
   cases gk with
   | zero=>exact absurd HA.out (by simp [lexer_Scan.l0])
   | succ k1 =>
    have H:=HA.out
    clear HA
    simp only [lexer_Scan.l0] at H
    by_cases c4:x6_1 < (a0.size:Int)
    ·rw [if_pos c4] at H
     have c4b0:decide (x6_1 < (a0.size:Int))=true:=decide_eq_true c4
     clear c4
     by_cases c5:0≤x6_1
     ·rw [if_pos c5] at H
      have c5b0:=eq_true c5
      have c5b1:decide (0≤x6_1)=true:=decide_eq_true c5
      clear c5
      by_cases c6:x6_1≤(a0.size:Int)
      ·rw [if_pos c6] at H
       have c6b0:=eq_true c6
       have c6b1:decide (x6_1≤(a0.size:Int))=true:=decide_eq_true c6
       clear c6
       replace H:=Option.bind_eq_some_iff.mp H
       obtain ⟨⟨t105,t106,t107,t108,t109⟩,A70,H⟩:=H
       replace H:(if t109=0 then (if x5_1.length < 3518437208883 then (if 0≤(wrap64 (x6_1+(t106.size:Int))) then (if (wrap64 (x6_1+(t106.size:Int)))≤(a0.size:Int) then ((lexer_skip.f k1 (a0.extract ((wrap64 (x6_1+(t106.size:Int))):Int).toNat a0.size)).bind fun t114=>(lexer_Scan.l0 k1 a0 (x5_1++[(⟨t105,t106,t107,x6_1⟩:S68)]) (wrap64 ((wrap64 (x6_1+(t106.size:Int)))+t114)))) else (none)) else (none)) else (none)) else (some (([]:List (S68)),t109,x6_1)))=some (r1,r2,r3):=H
       have A7:=Aside0.mk A70
       clear A70
       by_cases c8:t109=0
       ·rw [if_pos c8] at H
        have c8b0:(t109 == 0)=true:=beq_iff_eq.mpr c8
        have c8b1:(t109 != 0)=false:=bne_eq_false_iff_eq.mpr c8
        clear c8
        by_cases c9:x5_1.length < 3518437208883
        ·rw [if_pos c9] at H
         have LMc9:=Aside0.mk c9
         clear c9
         obtain ⟨y111,hy111⟩:∃ y_:List (S68),y_=(x5_1++[(⟨t105,t106,t107,x6_1⟩:S68)]):=⟨_,rfl⟩
         replace H:(if 0≤(wrap64 (x6_1+(t106.size:Int))) then (if (wrap64 (x6_1+(t106.size:Int)))≤(a0.size:Int) then ((lexer_skip.f k1 (a0.extract ((wrap64 (x6_1+(t106.size:Int))):Int).toNat a0.size)).bind fun t114=>(lexer_Scan.l0 k1 a0 y111 (wrap64 ((wrap64 (x6_1+(t106.size:Int)))+t114)))) else (none)) else (none))=some (r1,r2,r3):=by first|(rw [hy111];with_reducible exact H)|(have H2_:=(Option.bind_some _ _).symm.trans H;rw [hy111];with_reducible exact H2_)|(have H2_:=(Option.bind_some _ _).symm.trans H;with_reducible exact H2_)|with_reducible exact H|(rw [hy111];exact H)|exact H
         have Ny111:=Aside0.mk hy111
         clear hy111
         obtain ⟨ji10,hji10⟩:∃ j_:Int,(wrap64 (x6_1+(t106.size:Int)))=j_:=⟨_,rfl⟩
         replace H:(if 0≤(ji10) then (if (ji10)≤(a0.size:Int) then ((lexer_skip.f k1 (a0.extract ((ji10):Int).toNat a0.size)).bind fun t114=>(lexer_Scan.l0 k1 a0 y111 (wrap64 ((ji10)+t114)))) else (none)) else (none))=some (r1,r2,r3):=by first|(rw [hji10] at H;exact H)|(simp only [hji10] at H ⊢;exact H)
         (try rw [hji10] at A7)
         have hji10w:(IntKind.i64.wrap (x6_1+(t106.size:Int)))=ji10:=(qaX _).trans hji10
         by_cases c11:0≤(ji10)
         ·rw [if_pos c11] at H
          have c11b0:=eq_true c11
          have c11b1:decide (0≤(ji10))=true:=decide_eq_true c11
          clear c11
          by_cases c12:(ji10)≤(a0.size:Int)
          ·rw [if_pos c12] at H
           have c12b0:=eq_true c12
           have c12b1:decide ((ji10)≤(a0.size:Int))=true:=decide_eq_true c12
           clear c12
           replace H:=Option.bind_eq_some_iff.mp H
           obtain ⟨t114,A130,H⟩:=H
           replace H:(lexer_Scan.l0 k1 a0 y111 (wrap64 ((ji10)+t114)))=some (r1,r2,r3):=H
           have A13:=Aside0.mk A130
           clear A130
           have H':=Aside0.mk H
           clear H
           go_wp2_with (first|((with_reducible refine qaO (f:=45) rfl ?_);refine qbG (some 22) rfl rfl Tryd.func45 (by kernel_rfl) rfl #[.string (a0.extract (x6_1:Int).toNat a0.size)] rfl (by (try simp only [List.map_toArray,List.map_cons,List.map_nil]);first|done|rfl|(simp only [List.length_drop,List.length_take];rfl)) ?_;(with_reducible refine (lexer_first.calls k1 (a0.extract (x6_1:Int).toNat a0.size) t105 t106 t107 t108 t109 _ A7.out).mono ?_);rintro e w14 ⟨rfl,hb⟩;refine ⟨_,rfl,?_⟩;have n0_:=Aside0.mk (Kd.R_below (by (with_reducible repeat (first|apply Kd.R_alloc|apply Kd.R_drewN|apply Kd.R_drew));exact HO_5.out) hb);have n1_:=Aside0.mk (qaN (by repeat (first|(with_reducible first|exact HB.out|apply qaB|apply qaA|apply qaC)|exact HB.out)) hb);clear HO_5;clear HB;have HO_5:=n0_;have HB:=n1_;clear n0_ n1_;(try clear hb);(try clear hb2);(try clear hk);(try clear hi))|((with_reducible refine qbE (N:=7) rfl ?_);refine qbC ?hg (N:=7) ?hd (cs:=#[.int .i64 0,.string (⟨#[]⟩:ByteArray),.int .i64 0,.int .i64 0]) (t:=68) ?hr ?_;(case hd=>rfl);(case hg=>rfl);(case hr=>first|(go_simp;done)|(go_simp;rfl));intro gb110 hg w15 hbox hb;have n0_:=Aside0.mk (Kd.R_below (Kd.R_elderB (by (with_reducible repeat (first|apply Kd.R_alloc|apply Kd.R_drewN|apply Kd.R_drew));exact HO_5.out) gb110 (Nat.le_of_eq hg.symm)) hb);have n1_:=Aside0.mk (qaN (by repeat (first|(with_reducible first|exact HB.out|apply qaB|apply qaA|apply qaC)|exact HB.out)) hb);have n2_:=Aside0.mk (hbox);have n3_:=Aside0.mk ((by rw [hg];exact (qaK (by repeat (first|(with_reducible first|exact HB.out|apply qaB|apply qaA|apply qaC)|exact HB.out))):w.heap.size≤gb110));have n4_:=Aside0.mk ((by rw [hg];exact (qaK (by repeat (first|(with_reducible first|exact HB.out|apply qaB|apply qaA|apply qaC)|exact HB.out))):w.heap.size≤gb110));clear HO_5;clear HB;have HO_5:=n0_;have HB:=n1_;have BK110:=n2_;have GW110:=n3_;have GE110:=n4_;clear n0_ n1_ n2_ n3_ n4_;clear hb hbox hg;have hcz16_0:w15.cell? ⟨gb110,0,none⟩=some (.int .i64 0):=(qaE BK110.out 0).trans rfl;have hcz16_1:w15.cell? ⟨gb110,1,none⟩=some (.string (⟨#[]⟩:ByteArray)):=(qaE BK110.out 1).trans rfl;have hcz16_2:w15.cell? ⟨gb110,2,none⟩=some (.int .i64 0):=(qaE BK110.out 2).trans rfl;have hcz16_3:w15.cell? ⟨gb110,3,none⟩=some (.int .i64 0):=(qaE BK110.out 3).trans rfl;have hfz16_0:=qaD BK110.out 0;have hfz16_1:=qaD BK110.out 1;have hfz16_2:=qaD BK110.out 2;have hfz16_3:=qaD BK110.out 3)|((with_reducible refine qcG (b:=.append) (xs:=#[.tmp 31,.tmp 33]) rfl ?_);at_builtin;refine Kd.R_append k68 (w0:=w) w.heap.size rfl (.tmp 31) (.tmp 33) 54 68 (.agg #[(.int .i64 0),(.string ⟨#[]⟩),(.int .i64 0),(.int .i64 0)]) 40 rfl Tryd.underlying54 info68 rfl (by decide) (by omega) u5 x5_1 (⟨t105,t106,t107,x6_1⟩:S68) [.int .i64 t105,.string t106,.int .i64 t107,.int .i64 x6_1] (fun k_=>k_ ≠ gb110) (fun _=>False) rfl (by first|(go_simp;done)|(go_simp;rfl)) ?aP (fun _ hk=>hk.elim) ?aF ?aO ?aB ?aS ?aL ?_;(case aP=>exact k68_mkM _ _ _ (⟨t105,t106,t107,x6_1⟩:S68));(case aB=>exact (by repeat (first|(with_reducible first|exact HB.out|apply qaB|apply qaA|apply qaC|refine qaF ?_ GE110.out)|exact HB.out)));(case aF=>exact (fun k_ hk=>Kd.freshB (g:=gb110) (o:=.cells #[.int .i64 t105,.string t106,.int .i64 t107,.int .i64 x6_1] 68 (0,0)) (by (with_reducible repeat (first|refine qaH ?_ _|refine qaI ?_|refine qaG ?_ _));refine qaR (cs:=#[.int .i64 t105,.string t106,.int .i64 t107,.int .i64 t108]) ?_ 3 _ rfl;(with_reducible repeat (first|refine qaH ?_ _|refine qaI ?_|refine qaG ?_ _));refine qaR (cs:=#[.int .i64 t105,.string t106,.int .i64 t107,.int .i64 0]) ?_ 3 _ rfl;(with_reducible repeat (first|refine qaH ?_ _|refine qaI ?_|refine qaG ?_ _));refine qaR (cs:=#[.int .i64 t105,.string t106,.int .i64 0,.int .i64 0]) ?_ 2 _ rfl;(with_reducible repeat (first|refine qaH ?_ _|refine qaI ?_|refine qaG ?_ _));refine qaR (cs:=#[.int .i64 t105,.string (⟨#[]⟩:ByteArray),.int .i64 0,.int .i64 0]) ?_ 1 _ rfl;(with_reducible repeat (first|refine qaH ?_ _|refine qaI ?_|refine qaG ?_ _));refine qaR (cs:=#[.int .i64 0,.string (⟨#[]⟩:ByteArray),.int .i64 0,.int .i64 0]) ?_ 0 _ rfl;(with_reducible repeat (first|refine qaH ?_ _|refine qaI ?_|refine qaG ?_ _));exact BK110.out) k_ hk));(case aO=>exact (by (with_reducible repeat (first|apply Kd.R_alloc|apply Kd.R_drewN|apply Kd.R_drew));exact Kd.R_mono (Kd.R_far (p:=⟨gb110,3,none⟩) (Kd.R_far (p:=⟨gb110,3,none⟩) (Kd.R_far (p:=⟨gb110,2,none⟩) (Kd.R_far (p:=⟨gb110,1,none⟩) (Kd.R_far (p:=⟨gb110,0,none⟩) (Kd.R_mono HO_5.out (fun k_ hk=>(⟨hk,hk.2⟩:_∧k_ ≠ gb110))) (fun _ hk=>hk.2) (.int .i64 t105)) (fun _ hk=>hk.2) (.string t106)) (fun _ hk=>hk.2) (.int .i64 t107)) (fun _ hk=>hk.2) (.int .i64 t108)) (fun _ hk=>hk.2) (.int .i64 x6_1)) (fun _ hk=>hk.1.2)));(case aS=>exact (qaK (by repeat (first|(with_reducible first|exact HB.out|apply qaB|apply qaA|apply qaC|refine qaF ?_ GE110.out)|exact HB.out))));(case aL=>have:=LMc9.out;omega);intro v112 w17 ho hb hg hat;rw [← Ny111.out] at ho;have n0_:=Aside0.mk (blk_grown (g:=gb110) (o:=.cells #[.int .i64 t105,.string t106,.int .i64 t107,.int .i64 x6_1] 68 (0,0)) (by (with_reducible repeat (first|refine qaH ?_ _|refine qaI ?_|refine qaG ?_ _));refine qaR (cs:=#[.int .i64 t105,.string t106,.int .i64 t107,.int .i64 t108]) ?_ 3 _ rfl;(with_reducible repeat (first|refine qaH ?_ _|refine qaI ?_|refine qaG ?_ _));refine qaR (cs:=#[.int .i64 t105,.string t106,.int .i64 t107,.int .i64 0]) ?_ 3 _ rfl;(with_reducible repeat (first|refine qaH ?_ _|refine qaI ?_|refine qaG ?_ _));refine qaR (cs:=#[.int .i64 t105,.string t106,.int .i64 0,.int .i64 0]) ?_ 2 _ rfl;(with_reducible repeat (first|refine qaH ?_ _|refine qaI ?_|refine qaG ?_ _));refine qaR (cs:=#[.int .i64 t105,.string (⟨#[]⟩:ByteArray),.int .i64 0,.int .i64 0]) ?_ 1 _ rfl;(with_reducible repeat (first|refine qaH ?_ _|refine qaI ?_|refine qaG ?_ _));refine qaR (cs:=#[.int .i64 0,.string (⟨#[]⟩:ByteArray),.int .i64 0,.int .i64 0]) ?_ 0 _ rfl;(with_reducible repeat (first|refine qaH ?_ _|refine qaI ?_|refine qaG ?_ _));exact BK110.out) hg (Kd.R_away HO_5.out (fun _ hk=>hk.2)));have n1_:=Aside0.mk (hb);have n2_:=Aside0.mk (ho);clear BK110;clear HB;clear HO_5;have BK110:=n0_;have HB:=n1_;have HO113:=n2_;clear n0_ n1_ n2_;clear ho hb hg hat;have hcz18_0:w17.cell? ⟨gb110,0,none⟩=some (.int .i64 t105):=(qaE BK110.out 0).trans rfl;have hcz18_1:w17.cell? ⟨gb110,1,none⟩=some (.string t106):=(qaE BK110.out 1).trans rfl;have hcz18_2:w17.cell? ⟨gb110,2,none⟩=some (.int .i64 t107):=(qaE BK110.out 2).trans rfl;have hcz18_3:w17.cell? ⟨gb110,3,none⟩=some (.int .i64 x6_1):=(qaE BK110.out 3).trans rfl;have hfz18_0:=qaD BK110.out 0;have hfz18_1:=qaD BK110.out 1;have hfz18_2:=qaD BK110.out 2;have hfz18_3:=qaD BK110.out 3)|((with_reducible refine qaO (f:=44) rfl ?_);refine qbG (some 44) rfl rfl Tryd.func44 (by kernel_rfl) rfl #[.string (a0.extract ((ji10):Int).toNat a0.size)] rfl (by (try simp only [List.map_toArray,List.map_cons,List.map_nil]);first|done|(simp only [hji10];rfl)|rfl|(simp only [List.length_drop,List.length_take];rfl)) ?_;(with_reducible refine (lexer_skip.calls k1 (a0.extract ((ji10):Int).toNat a0.size) t114 _ A13.out).mono ?_);rintro e w' ⟨rfl,⟨nd,rfl⟩⟩;refine ⟨_,rfl,?_⟩))
           go_roundg k1
           case measure=>have:=HK1.out;omega
           case rel=>exact ⟨(y111),(wrap64 ((ji10)+t114)),(by first|rfl|(simp;done)|(simp only [← hji10]<;>(first|rfl|simp))|(simp [*];done)),H',⟨by have:=HK1.out;omega⟩,⟨by (with_reducible repeat (first|apply Kd.R_alloc|apply Kd.R_drewN|apply Kd.R_drew));exact Kd.R_mono HO113.out (fun _ hk=>trivial)⟩,⟨by repeat (first|(with_reducible first|exact HB.out|apply qaB|apply qaA|apply qaC|refine qaF ?_ GE110.out)|exact HB.out)⟩⟩
          ·rw [if_neg c12] at H
           exact absurd H (by simp)
         ·rw [if_neg c11] at H
          exact absurd H (by simp)
        ·rw [if_neg c9] at H
         exact absurd H (by simp)
       ·rw [if_neg c8] at H
        have c8b0:(t109 == 0)=false:=beq_eq_false_iff_ne.mpr c8
        have c8b1:(t109 != 0)=true:=bne_iff_ne.mpr c8
        simp only [Option.some.injEq,Prod.mk.injEq] at H
        obtain ⟨rfl,rfl,rfl⟩:=H
        go_wp2_with (first|((with_reducible refine qaO (f:=45) rfl ?_);refine qbG (some 22) rfl rfl Tryd.func45 (by kernel_rfl) rfl #[.string (a0.extract (x6_1:Int).toNat a0.size)] rfl (by (try simp only [List.map_toArray,List.map_cons,List.map_nil]);first|done|rfl|(simp only [List.length_drop,List.length_take];rfl)) ?_;(with_reducible refine (lexer_first.calls k1 (a0.extract (x6_1:Int).toNat a0.size) t105 t106 t107 t108 t109 _ A7.out).mono ?_);rintro e w19 ⟨rfl,hb⟩;refine ⟨_,rfl,?_⟩;have n0_:=Aside0.mk (Kd.R_below (by (with_reducible repeat (first|apply Kd.R_alloc|apply Kd.R_drewN|apply Kd.R_drew));exact HO_5.out) hb);have n1_:=Aside0.mk (qaN (by repeat (first|(with_reducible first|exact HB.out|apply qaB|apply qaA|apply qaC)|exact HB.out)) hb);clear HO_5;clear HB;have HO_5:=n0_;have HB:=n1_;clear n0_ n1_;(try clear hb);(try clear hb2);(try clear hk);(try clear hi))|((with_reducible refine qbE (N:=7) rfl ?_);refine qbC ?hg (N:=7) ?hd (cs:=#[.int .i64 0,.string (⟨#[]⟩:ByteArray),.int .i64 0,.int .i64 0]) (t:=68) ?hr ?_;(case hd=>rfl);(case hg=>rfl);(case hr=>first|(go_simp;done)|(go_simp;rfl));intro gb110 hg w20 hbox hb;have n0_:=Aside0.mk (Kd.R_below (Kd.R_elderB (by (with_reducible repeat (first|apply Kd.R_alloc|apply Kd.R_drewN|apply Kd.R_drew));exact HO_5.out) gb110 (Nat.le_of_eq hg.symm)) hb);have n1_:=Aside0.mk (qaN (by repeat (first|(with_reducible first|exact HB.out|apply qaB|apply qaA|apply qaC)|exact HB.out)) hb);have n2_:=Aside0.mk (hbox);have n3_:=Aside0.mk ((by rw [hg];exact (qaK (by repeat (first|(with_reducible first|exact HB.out|apply qaB|apply qaA|apply qaC)|exact HB.out))):w.heap.size≤gb110));have n4_:=Aside0.mk ((by rw [hg];exact (qaK (by repeat (first|(with_reducible first|exact HB.out|apply qaB|apply qaA|apply qaC)|exact HB.out))):w.heap.size≤gb110));clear HO_5;clear HB;have HO_5:=n0_;have HB:=n1_;have BK110:=n2_;have GW110:=n3_;have GE110:=n4_;clear n0_ n1_ n2_ n3_ n4_;clear hb hbox hg;have hcz21_0:w20.cell? ⟨gb110,0,none⟩=some (.int .i64 0):=(qaE BK110.out 0).trans rfl;have hcz21_1:w20.cell? ⟨gb110,1,none⟩=some (.string (⟨#[]⟩:ByteArray)):=(qaE BK110.out 1).trans rfl;have hcz21_2:w20.cell? ⟨gb110,2,none⟩=some (.int .i64 0):=(qaE BK110.out 2).trans rfl;have hcz21_3:w20.cell? ⟨gb110,3,none⟩=some (.int .i64 0):=(qaE BK110.out 3).trans rfl;have hfz21_0:=qaD BK110.out 0;have hfz21_1:=qaD BK110.out 1;have hfz21_2:=qaD BK110.out 2;have hfz21_3:=qaD BK110.out 3))
        go_ret3
        exact ⟨_,by first|rfl|(simp [qaL,qaM]<;>rfl)|(simp [*,qaL,qaM]<;>rfl),by first|exact Kd.R_nil _ _ _ _ _|exact Kd.N_nil _ _ _ _ _|exact Kd.V_nil _ _ _ _ _|exact Kd.Q_nil _ _ _ _ _|exact Kd.S_nil _ _ _ _ _,by repeat (first|(with_reducible first|exact HB.out|apply qaB|apply qaA|apply qaC|refine qaF ?_ GE110.out)|exact HB.out)⟩
      ·rw [if_neg c6] at H
       exact absurd H (by simp)
     ·rw [if_neg c5] at H
      exact absurd H (by simp)
    ·rw [if_neg c4] at H
     have c4b0:decide (x6_1 < (a0.size:Int))=false:=decide_eq_false c4
     clear c4
     by_cases c22:x5_1.length < 3518437208883
     ·rw [if_pos c22] at H
      have LMc22:=Aside0.mk c22
      clear c22
      obtain ⟨y102,hy102⟩:∃ y_:List (S68),y_=(x5_1++[(⟨0,(⟨#[]⟩:ByteArray),0,(a0.size:Int)⟩:S68)]):=⟨_,rfl⟩
      replace H:(some (y102,0,0))=some (r1,r2,r3):=by first|(rw [hy102];with_reducible exact H)|(have H2_:=(Option.bind_some _ _).symm.trans H;rw [hy102];with_reducible exact H2_)|(have H2_:=(Option.bind_some _ _).symm.trans H;with_reducible exact H2_)|with_reducible exact H|(rw [hy102];exact H)|exact H
      have Ny102:=Aside0.mk hy102
      clear hy102
      simp only [Option.some.injEq,Prod.mk.injEq] at H
      obtain ⟨rfl,rfl,rfl⟩:=H
      go_wp2_with (first|((with_reducible refine qcG (b:=.append) (xs:=#[.tmp 46,.tmp 50]) rfl ?_);at_builtin;refine Kd.R_append k68 (w0:=w) w.heap.size rfl (.tmp 46) (.tmp 50) 54 68 (.agg #[(.int .i64 0),(.string ⟨#[]⟩),(.int .i64 0),(.int .i64 0)]) 40 rfl Tryd.underlying54 info68 rfl (by decide) (by omega) u5 x5_1 (⟨0,(⟨#[]⟩:ByteArray),0,(a0.size:Int)⟩:S68) [.int .i64 0,.string (⟨#[]⟩:ByteArray),.int .i64 0,.int .i64 (a0.size:Int)] (fun _=>True) (fun _=>False) rfl rfl ?aP (fun _ hk=>hk.elim) ?aF ?aO ?aB ?aS ?aL ?_;(case aP=>exact k68_mkM _ _ _ (⟨0,(⟨#[]⟩:ByteArray),0,(a0.size:Int)⟩:S68));(case aB=>exact (by repeat (first|(with_reducible first|exact HB.out|apply qaB|apply qaA|apply qaC)|exact HB.out)));(case aF=>exact (fun _ _=>trivial));(case aO=>exact (by (with_reducible repeat (first|apply Kd.R_alloc|apply Kd.R_drewN|apply Kd.R_drew));exact HO_5.out));(case aS=>exact (qaK (by repeat (first|(with_reducible first|exact HB.out|apply qaB|apply qaA|apply qaC)|exact HB.out))));(case aL=>have:=LMc22.out;omega);intro v103 w23 ho hb hg hat;rw [← Ny102.out] at ho;have n0_:=Aside0.mk (hb);have n1_:=Aside0.mk (ho);clear HB;clear HO_5;have HB:=n0_;have HO104:=n1_;clear n0_ n1_;clear ho hb hg hat))
      go_ret3
      exact ⟨_,by first|rfl|(simp [qaL,qaM]<;>rfl)|(simp [*,qaL,qaM]<;>rfl),by (with_reducible repeat (first|apply Kd.R_alloc|apply Kd.R_drewN|apply Kd.R_drew));exact HO104.out,by repeat (first|(with_reducible first|exact HB.out|apply qaB|apply qaA|apply qaC)|exact HB.out)⟩
     ·rw [if_neg c22] at H
      exact absurd H (by simp)
end Go.Proofs.YtehdmplngmbnnaaDoor.P
namespace Go.Proofs.YtehdmplngmbnnaaDoor.P
open Go.RowKit Go.Proofs.YtehdmplngmbnnaaDoorW.PrintWords Go.Proofs.YtehdmplngmbnnaaDoorW.PrintLast Go.Proofs.YtehdmplngmbnnaaDoorW.PrintMore
attribute [local go_sem] qbV qbW qcC qcD qbQ qbR qbX qbY
attribute [local go_sem] qbL
set_option linter.unusedVariables false
set_option linter.unusedSimpArgs false
mutual
def schedule_Parse_tail.l0:Nat→List (S24)→List (S68)→Bool→Option ((List (S24)) × Int × Int × (List (S68)) × Bool)
 | 0,_,_,_=>none
 | k+1,x9,x1000,x1001=>(schedule_reader_is.f x1000 x1001 0 (⟨#[]⟩:ByteArray)).bind fun bt101=>(if bt101.1=true then (some (x9,0,0,bt101.2.1,bt101.2.2)) else (if 0 < (bt101.2.1.length:Int) then ((schedule_reader_take.f bt101.2.1 bt101.2.2 1 (⟨#[115,99,104,101,100,117,108,101]⟩:ByteArray)).bind fun bt105=>((schedule_reader_take.f bt105.2.2.2.2.1 bt105.2.2.2.2.2 1 (⟨#[]⟩:ByteArray)).bind fun bt111=>((schedule_reader_take.f bt111.2.2.2.2.1 bt111.2.2.2.2.2 1 (⟨#[114,97,109,112]⟩:ByteArray)).bind fun bt118=>((schedule_reader_take.f bt118.2.2.2.2.1 bt118.2.2.2.2.2 2 (⟨#[]⟩:ByteArray)).bind fun bt124=>((schedule_reader_take.f bt124.2.2.2.2.1 bt124.2.2.2.2.2 3 (⟨#[58]⟩:ByteArray)).bind fun bt130=>(schedule_Parse_tail.l1 k x9 ((qaZ bt101.2.1 0).f3) bt130.2.2.2.2.1 bt130.2.2.2.2.2 bt111.2.1 bt124.2.2.1 ([]:List (S52)))))))) else (none)))
def schedule_Parse_tail.j2:Nat→List (S24)→Int→List (S68)→Bool→ByteArray→Int→List (S52)→Option ((List (S24)) × Int × Int × (List (S68)) × Bool)
 | 0,_,_,_,_,_,_,_=>none
 | k+1,x9,x10,x1000,x1001,x118000,x118001,x118002=>if x1001=true then (if 0 < (x1000.length:Int) then (some (([]:List (S24)),5,(qaZ x1000 0).f3,x1000,x1001)) else (none)) else (if x9.length < 2932031007402 then ((some (x9++[(⟨x118000,x118001,x118002⟩:S24)]:List (S24))).bind fun y152=>((schedule_last.f y152).bind fun t155=>(if t155=0 then (schedule_Parse_tail.l0 k y152 x1000 x1001) else (some (([]:List (S24)),t155,x10,x1000,x1001))))) else (none))
def schedule_Parse_tail.l1:Nat→List (S24)→Int→List (S68)→Bool→ByteArray→Int→List (S52)→Option ((List (S24)) × Int × Int × (List (S68)) × Bool)
 | 0,_,_,_,_,_,_,_=>none
 | k+1,x9,x10,x1000,x1001,x118000,x118001,x118002=>if x1001=true then (schedule_Parse_tail.j2 k x9 x10 x1000 x1001 x118000 x118001 x118002) else ((schedule_reader_is.f x1000 x1001 1 (⟨#[115,99,104,101,100,117,108,101]⟩:ByteArray)).bind fun bt136=>(if bt136.1=true then (schedule_Parse_tail.j2 k x9 x10 bt136.2.1 bt136.2.2 x118000 x118001 x118002) else ((schedule_reader_is.f bt136.2.1 bt136.2.2 0 (⟨#[]⟩:ByteArray)).bind fun bt139=>(if bt139.1=true then (schedule_Parse_tail.j2 k x9 x10 bt139.2.1 bt139.2.2 x118000 x118001 x118002) else ((schedule_reader_stage.f bt139.2.1 bt139.2.2).bind fun bt142=>(if x118002.length < 4398046511104 then (schedule_Parse_tail.l1 k x9 x10 bt142.2.2.2.2.1 bt142.2.2.2.2.2 x118000 x118001 (x118002++[(⟨bt142.1,bt142.2.1,bt142.2.2.1,bt142.2.2.2.1⟩:S52)])) else (none)))))))
end
def schedule_Parse_tail.f (k:Nat) (s0_0:List (S68)) (s0_1:Bool):Option ((List (S24)) × Int × Int × (List (S68)) × Bool):=schedule_Parse_tail.l0 k ([]:List (S24)) s0_0 s0_1
def schedule_Parse_tail.Rest (w:World) (g:Nat) (R:Ending→World→Prop):Prop:=∀ c:Code,restOf 4 Tryd.f25.body=some c→∀ u0_ u1_ u2_ u3_ u4_ u5_ u6_ u7_ u9_ u10_ u11_ u12_ u13_ u14_ u15_ u16_ u17_ u18_ u19_ u20_ u21_ u22_ u23_ u24_ u25_ u26_ u27_ u28_ u29_ u30_ u31_ u32_ u33_ u34_ u35_ u36_ u37_ u38_ u39_ u40_ u41_ u42_ u43_ u44_ u45_ u46_ u47_ u48_ u49_ u50_ u51_ u52_ u53_ u54_ u55_ u56_ u57_ u58_ u59_ u60_ u61_ u62_ u63_ u64_ u65_ u66_ u67_ u68_ u69_ u70_ u71_ u72_ u73_ u74_ u75_:Value,Code.wp Tryd.prog c (bodyPost Tryd.prog Tryd.f25 R) { tmps:=#[u0_,u1_,u2_,u3_,u4_,u5_,u6_,u7_,.pointer (some ⟨g,0,none⟩),u9_,u10_,u11_,u12_,u13_,u14_,u15_,u16_,u17_,u18_,u19_,u20_,u21_,u22_,u23_,u24_,u25_,u26_,u27_,u28_,u29_,u30_,u31_,u32_,u33_,u34_,u35_,u36_,u37_,u38_,u39_,u40_,u41_,u42_,u43_,u44_,u45_,u46_,u47_,u48_,u49_,u50_,u51_,u52_,u53_,u54_,u55_,u56_,u57_,u58_,u59_,u60_,u61_,u62_,u63_,u64_,u65_,u66_,u67_,u68_,u69_,u70_,u71_,u72_,u73_,u74_,u75_],defers:=[] } w
set_option maxHeartbeats 8000000 in
set_option maxRecDepth 100000 in
theorem schedule_Parse_tail.calls (k:Nat) (g:Nat) (s0_0:List (S68)) (s0_1:Bool) (r1:List (S24)) (r2:Int) (r3:Int) (r4:List (S68)) (r5:Bool) (w0 w:World) (hI:qaJ w0 w g s0_0 s0_1) (hB:Below w0.heap.size w0 w) (h:schedule_Parse_tail.f k s0_0 s0_1=some (r1,r2,r3,r4,r5)) (HG_:Aside0 (Glob w0)) :
  schedule_Parse_tail.Rest w g fun e w'=>∃ v0_:Value,e=.returned (.tuple #[v0_,.int .i64 r2,.int .i64 r3])∧Kd.S k24 24 w' w.heap.size (fun _=>True) v0_ r1∧qaJ w0 w' g r4 r5∧Below w0.heap.size w0 w'∧qaQ w w' g none:=by
 have hu24:=Tryd.underlying24
 have hfd68_1:∀ (v0_ v1_ v2_ v3_:Value) (W_:World),(Instr.field 68 (.agg #[v0_,v1_,v2_,v3_]) 1).run Tryd.prog W_=.ok (v1_) W_:=fun _ _ _ _ _=>by kernel_rfl
 have hfd68_2:∀ (v0_ v1_ v2_ v3_:Value) (W_:World),(Instr.field 68 (.agg #[v0_,v1_,v2_,v3_]) 2).run Tryd.prog W_=.ok (v2_) W_:=fun _ _ _ _ _=>by kernel_rfl
 have HI0:=Aside0.mk hI
 have HK:=Aside0.mk (qaQ.refl w g none)
 have HL:=Aside0.mk hB.size
 clear hI
 have HW0:=Aside0.mk hB.size
 have HB:=Aside0.mk hB
 clear hB
 have H:(schedule_Parse_tail.l0 k ([]:List (S24)) s0_0 s0_1)=some (r1,r2,r3,r4,r5):=h
 clear h
 have H':=Aside0.mk H
 clear H
 refine rest_intro (c0:=_) rfl ?_;intro u0_ u1_ u2_ u3_ u4_ u5_ u6_ u7_ u9_ u10_ u11_ u12_ u13_ u14_ u15_ u16_ u17_ u18_ u19_ u20_ u21_ u22_ u23_ u24_ u25_ u26_ u27_ u28_ u29_ u30_ u31_ u32_ u33_ u34_ u35_ u36_ u37_ u38_ u39_ u40_ u41_ u42_ u43_ u44_ u45_ u46_ u47_ u48_ u49_ u50_ u51_ u52_ u53_ u54_ u55_ u56_ u57_ u58_ u59_ u60_ u61_ u62_ u63_ u64_ u65_ u66_ u67_ u68_ u69_ u70_ u71_ u72_ u73_ u74_ u75_
 go_wp2
 try (repeat (go_quiet (fail);try go_wp2))
 go_loopg [9] k (fun kq v9 w'=>∃ (x9_1:List (S24)) (x1000_1:List (S68)) (x1001_1:Bool),Aside0 (schedule_Parse_tail.l0 kq x9_1 x1000_1 x1001_1=some (r1,r2,r3,r4,r5))∧Aside0 (kq≤k)∧Aside0 (Kd.S k24 24 w' w.heap.size (fun _=>True) v9 x9_1)∧Aside0 (qaJ w0 w' g x1000_1 x1001_1)∧Aside0 (qaQ w w' g none)∧Aside0 (Below w0.heap.size w0 w'))
 case atStart=>exact ⟨(([]:List (S24))),(s0_0),(s0_1),H',⟨Nat.le_refl _⟩,⟨by first|exact Kd.S_nil _ _ _ _ _|exact Kd.N_nil _ _ _ _ _|exact Kd.V_nil _ _ _ _ _|exact Kd.Q_nil _ _ _ _ _|exact Kd.R_nil _ _ _ _ _⟩,⟨by repeat (first|(with_reducible first|exact HI0.out|apply qaJ.alloc|apply qaJ.drewN|apply qaJ.drew|apply qaJ.set_1)|exact HI0.out)⟩,⟨by repeat (first|(with_reducible first|exact HK.out|apply qaQ.set_|apply qaV|apply qbA|apply qaU)|exact HK.out)⟩,⟨by repeat (first|(with_reducible first|exact HB.out|apply qaB|apply qaA|apply qaC|refine qaF ?_ (qaJ.ge HI0.out))|exact HB.out)⟩⟩
 case round =>
  clear H'
  try clear c1
  obtain ⟨x9_1,x1000_1,x1001_1,HA,HK1,HO_9,HI0,HK,HB⟩:=hrel
  cases gk with
  | zero=>exact absurd HA.out (by simp [schedule_Parse_tail.l0])
  | succ k1 =>
   have H:=HA.out
   clear HA
   simp only [schedule_Parse_tail.l0] at H
   replace H:=Option.bind_eq_some_iff.mp H
   obtain ⟨⟨t101,t102,t103⟩,A20,H⟩:=H
   replace H:(if t101=true then (some (x9_1,0,0,t102,t103)) else (if 0 < (t102.length:Int) then ((schedule_reader_take.f t102 t103 1 (⟨#[115,99,104,101,100,117,108,101]⟩:ByteArray)).bind fun bt105=>((schedule_reader_take.f bt105.2.2.2.2.1 bt105.2.2.2.2.2 1 (⟨#[]⟩:ByteArray)).bind fun bt111=>((schedule_reader_take.f bt111.2.2.2.2.1 bt111.2.2.2.2.2 1 (⟨#[114,97,109,112]⟩:ByteArray)).bind fun bt118=>((schedule_reader_take.f bt118.2.2.2.2.1 bt118.2.2.2.2.2 2 (⟨#[]⟩:ByteArray)).bind fun bt124=>((schedule_reader_take.f bt124.2.2.2.2.1 bt124.2.2.2.2.2 3 (⟨#[58]⟩:ByteArray)).bind fun bt130=>(schedule_Parse_tail.l1 k1 x9_1 ((qaZ t102 0).f3) bt130.2.2.2.2.1 bt130.2.2.2.2.2 bt111.2.1 bt124.2.2.1 ([]:List (S52)))))))) else (none)))=some (r1,r2,r3,r4,r5):=H
   have A2:=Aside0.mk A20
   clear A20
   by_cases c3:t101=true
   ·subst c3
    have H1:(some (x9_1,0,0,t102,t103))=some (r1,r2,r3,r4,r5):=by rw [if_pos rfl] at H;exact H
    clear H
    have H:=H1
    clear H1
    simp only [Option.some.injEq,Prod.mk.injEq] at H
    obtain ⟨rfl,rfl,rfl,rfl,rfl⟩:=H
    go_wp2_with (first|((with_reducible refine qaO (f:=38) rfl ?_);refine qbG (some 25) rfl rfl Tryd.func38 (by kernel_rfl) rfl #[.pointer (some ⟨g,0,none⟩),.int .i64 0,.string (⟨#[]⟩:ByteArray)] rfl (by (try simp only [List.map_toArray,List.map_cons,List.map_nil]);first|done|rfl|(simp only [List.length_drop,List.length_take];rfl)) ?_;(with_reducible refine (schedule_reader_is.calls g x1000_1 x1001_1 0 (⟨#[]⟩:ByteArray) true t102 t103 w0 _ ?side1 ?side2 A2.out).mono ?_);(case side1=>repeat (first|(with_reducible first|exact HI0.out|apply qaJ.alloc|apply qaJ.drewN|apply qaJ.drew|apply qaJ.set_1)|exact HI0.out));(case side2=>repeat (first|(with_reducible first|exact HB.out|apply qaB|apply qaA|apply qaC|refine qaF ?_ (qaJ.ge HI0.out))|exact HB.out));rintro e w4 ⟨rfl,hi,hb,hk⟩;refine ⟨_,rfl,?_⟩;have n0_:=Aside0.mk (Kd.S_mono (Kd.S_keep (qaJ.apartS (show qaJ w0 _ g x1000_1 x1001_1 from by repeat (first|(with_reducible first|exact HI0.out|apply qaJ.alloc|apply qaJ.drewN|apply qaJ.drew|apply qaJ.set_1)|exact HI0.out)) (by (with_reducible repeat (first|apply Kd.S_alloc|apply Kd.S_drewN|apply Kd.S_drew));exact HO_9.out) (by decide)) hk (fun _ h=>h.2)) (fun _ h=>h.1));have n1_:=Aside0.mk (qaQ.trans (by repeat (first|(with_reducible first|exact HK.out|apply qaQ.set_|apply qaV|apply qbA|apply qaU)|exact HK.out)) hk (.inl rfl));have n2_:=Aside0.mk (hb);have n3_:=Aside0.mk (hi);clear HO_9;clear HK;clear HB;clear HI0;have HO_9:=n0_;have HK:=n1_;have HB:=n2_;have HI0:=n3_;clear n0_ n1_ n2_ n3_;(try clear hb);(try clear hb2);(try clear hk);(try clear hi)))
    try (repeat (go_quiet (fail);try go_wp2_with (first|((with_reducible refine qaO (f:=38) rfl ?_);refine qbG (some 25) rfl rfl Tryd.func38 (by kernel_rfl) rfl #[.pointer (some ⟨g,0,none⟩),.int .i64 0,.string (⟨#[]⟩:ByteArray)] rfl (by (try simp only [List.map_toArray,List.map_cons,List.map_nil]);first|done|rfl|(simp only [List.length_drop,List.length_take];rfl)) ?_;(with_reducible refine (schedule_reader_is.calls g x1000_1 x1001_1 0 (⟨#[]⟩:ByteArray) true t102 t103 w0 _ ?side1 ?side2 A2.out).mono ?_);(case side1=>repeat (first|(with_reducible first|exact HI0.out|apply qaJ.alloc|apply qaJ.drewN|apply qaJ.drew|apply qaJ.set_1)|exact HI0.out));(case side2=>repeat (first|(with_reducible first|exact HB.out|apply qaB|apply qaA|apply qaC|refine qaF ?_ (qaJ.ge HI0.out))|exact HB.out));rintro e w4 ⟨rfl,hi,hb,hk⟩;refine ⟨_,rfl,?_⟩;have n0_:=Aside0.mk (Kd.S_mono (Kd.S_keep (qaJ.apartS (show qaJ w0 _ g x1000_1 x1001_1 from by repeat (first|(with_reducible first|exact HI0.out|apply qaJ.alloc|apply qaJ.drewN|apply qaJ.drew|apply qaJ.set_1)|exact HI0.out)) (by (with_reducible repeat (first|apply Kd.S_alloc|apply Kd.S_drewN|apply Kd.S_drew));exact HO_9.out) (by decide)) hk (fun _ h=>h.2)) (fun _ h=>h.1));have n1_:=Aside0.mk (qaQ.trans (by repeat (first|(with_reducible first|exact HK.out|apply qaQ.set_|apply qaV|apply qbA|apply qaU)|exact HK.out)) hk (.inl rfl));have n2_:=Aside0.mk (hb);have n3_:=Aside0.mk (hi);clear HO_9;clear HK;clear HB;clear HI0;have HO_9:=n0_;have HK:=n1_;have HB:=n2_;have HI0:=n3_;clear n0_ n1_ n2_ n3_;(try clear hb);(try clear hb2);(try clear hk);(try clear hi)))))
    go_ret3
    exact ⟨_,by first|rfl|(simp [qaL,qaM]<;>rfl)|(simp [*,qaL,qaM]<;>rfl),by (with_reducible repeat (first|apply Kd.S_alloc|apply Kd.S_drewN|apply Kd.S_drew));exact HO_9.out,by repeat (first|(with_reducible first|exact HI0.out|apply qaJ.alloc|apply qaJ.drewN|apply qaJ.drew|apply qaJ.set_1)|exact HI0.out),by repeat (first|(with_reducible first|exact HB.out|apply qaB|apply qaA|apply qaC|refine qaF ?_ (qaJ.ge HI0.out))|exact HB.out),by repeat (first|(with_reducible first|exact HK.out|apply qaQ.set_|apply qaV|apply qbA|apply qaU)|exact HK.out)⟩
   ·replace c3:=Bool.eq_false_iff.mpr c3
    subst c3
    have H1:(if 0 < (t102.length:Int) then ((schedule_reader_take.f t102 t103 1 (⟨#[115,99,104,101,100,117,108,101]⟩:ByteArray)).bind fun bt105=>((schedule_reader_take.f bt105.2.2.2.2.1 bt105.2.2.2.2.2 1 (⟨#[]⟩:ByteArray)).bind fun bt111=>((schedule_reader_take.f bt111.2.2.2.2.1 bt111.2.2.2.2.2 1 (⟨#[114,97,109,112]⟩:ByteArray)).bind fun bt118=>((schedule_reader_take.f bt118.2.2.2.2.1 bt118.2.2.2.2.2 2 (⟨#[]⟩:ByteArray)).bind fun bt124=>((schedule_reader_take.f bt124.2.2.2.2.1 bt124.2.2.2.2.2 3 (⟨#[58]⟩:ByteArray)).bind fun bt130=>(schedule_Parse_tail.l1 k1 x9_1 ((qaZ t102 0).f3) bt130.2.2.2.2.1 bt130.2.2.2.2.2 bt111.2.1 bt124.2.2.1 ([]:List (S52)))))))) else (none))=some (r1,r2,r3,r4,r5):=by rw [if_neg (show ¬ (false=true) by decide)] at H;exact H
    clear H
    have H:=H1
    clear H1
    by_cases c5:0 < (t102.length:Int)
    ·rw [if_pos c5] at H
     have c5b0:decide (0 < (t102.length:Int))=true:=decide_eq_true c5
     have c5b1:decide (0 < t102.length)=true:=decide_eq_true (by omega)
     clear c5
     replace H:=Option.bind_eq_some_iff.mp H
     obtain ⟨⟨t105,t106,t107,t108,t109,t110⟩,A60,H⟩:=H
     replace H:((schedule_reader_take.f t109 t110 1 (⟨#[]⟩:ByteArray)).bind fun bt111=>((schedule_reader_take.f bt111.2.2.2.2.1 bt111.2.2.2.2.2 1 (⟨#[114,97,109,112]⟩:ByteArray)).bind fun bt118=>((schedule_reader_take.f bt118.2.2.2.2.1 bt118.2.2.2.2.2 2 (⟨#[]⟩:ByteArray)).bind fun bt124=>((schedule_reader_take.f bt124.2.2.2.2.1 bt124.2.2.2.2.2 3 (⟨#[58]⟩:ByteArray)).bind fun bt130=>(schedule_Parse_tail.l1 k1 x9_1 ((qaZ t102 0).f3) bt130.2.2.2.2.1 bt130.2.2.2.2.2 bt111.2.1 bt124.2.2.1 ([]:List (S52)))))))=some (r1,r2,r3,r4,r5):=H
     have A6:=Aside0.mk A60
     clear A60
     replace H:=Option.bind_eq_some_iff.mp H
     obtain ⟨⟨t111,t112,t113,t114,t115,t116⟩,A70,H⟩:=H
     replace H:((schedule_reader_take.f t115 t116 1 (⟨#[114,97,109,112]⟩:ByteArray)).bind fun bt118=>((schedule_reader_take.f bt118.2.2.2.2.1 bt118.2.2.2.2.2 2 (⟨#[]⟩:ByteArray)).bind fun bt124=>((schedule_reader_take.f bt124.2.2.2.2.1 bt124.2.2.2.2.2 3 (⟨#[58]⟩:ByteArray)).bind fun bt130=>(schedule_Parse_tail.l1 k1 x9_1 ((qaZ t102 0).f3) bt130.2.2.2.2.1 bt130.2.2.2.2.2 t112 bt124.2.2.1 ([]:List (S52))))))=some (r1,r2,r3,r4,r5):=H
     have A7:=Aside0.mk A70
     clear A70
     replace H:=Option.bind_eq_some_iff.mp H
     obtain ⟨⟨t118,t119,t120,t121,t122,t123⟩,A80,H⟩:=H
     replace H:((schedule_reader_take.f t122 t123 2 (⟨#[]⟩:ByteArray)).bind fun bt124=>((schedule_reader_take.f bt124.2.2.2.2.1 bt124.2.2.2.2.2 3 (⟨#[58]⟩:ByteArray)).bind fun bt130=>(schedule_Parse_tail.l1 k1 x9_1 ((qaZ t102 0).f3) bt130.2.2.2.2.1 bt130.2.2.2.2.2 t112 bt124.2.2.1 ([]:List (S52)))))=some (r1,r2,r3,r4,r5):=H
     have A8:=Aside0.mk A80
     clear A80
     replace H:=Option.bind_eq_some_iff.mp H
     obtain ⟨⟨t124,t125,t126,t127,t128,t129⟩,A90,H⟩:=H
     replace H:((schedule_reader_take.f t128 t129 3 (⟨#[58]⟩:ByteArray)).bind fun bt130=>(schedule_Parse_tail.l1 k1 x9_1 ((qaZ t102 0).f3) bt130.2.2.2.2.1 bt130.2.2.2.2.2 t112 t126 ([]:List (S52))))=some (r1,r2,r3,r4,r5):=H
     have A9:=Aside0.mk A90
     clear A90
     replace H:=Option.bind_eq_some_iff.mp H
     obtain ⟨⟨t130,t131,t132,t133,t134,t135⟩,A100,H⟩:=H
     replace H:(schedule_Parse_tail.l1 k1 x9_1 ((qaZ t102 0).f3) t134 t135 t112 t126 ([]:List (S52)))=some (r1,r2,r3,r4,r5):=H
     have A10:=Aside0.mk A100
     clear A100
     have HC11:=Aside0.mk H
     clear H
     go_upto_block 2 with (first|((with_reducible refine qaO (f:=38) rfl ?_);refine qbG (some 25) rfl rfl Tryd.func38 (by kernel_rfl) rfl #[.pointer (some ⟨g,0,none⟩),.int .i64 0,.string (⟨#[]⟩:ByteArray)] rfl (by (try simp only [List.map_toArray,List.map_cons,List.map_nil]);first|done|rfl|(simp only [List.length_drop,List.length_take];rfl)) ?_;(with_reducible refine (schedule_reader_is.calls g x1000_1 x1001_1 0 (⟨#[]⟩:ByteArray) false t102 t103 w0 _ ?side1 ?side2 A2.out).mono ?_);(case side1=>repeat (first|(with_reducible first|exact HI0.out|apply qaJ.alloc|apply qaJ.drewN|apply qaJ.drew|apply qaJ.set_1)|exact HI0.out));(case side2=>repeat (first|(with_reducible first|exact HB.out|apply qaB|apply qaA|apply qaC|refine qaF ?_ (qaJ.ge HI0.out))|exact HB.out));rintro e w12 ⟨rfl,hi,hb,hk⟩;refine ⟨_,rfl,?_⟩;have n0_:=Aside0.mk (Kd.S_mono (Kd.S_keep (qaJ.apartS (show qaJ w0 _ g x1000_1 x1001_1 from by repeat (first|(with_reducible first|exact HI0.out|apply qaJ.alloc|apply qaJ.drewN|apply qaJ.drew|apply qaJ.set_1)|exact HI0.out)) (by (with_reducible repeat (first|apply Kd.S_alloc|apply Kd.S_drewN|apply Kd.S_drew));exact HO_9.out) (by decide)) hk (fun _ h=>h.2)) (fun _ h=>h.1));have n1_:=Aside0.mk (qaQ.trans (by repeat (first|(with_reducible first|exact HK.out|apply qaQ.set_|apply qaV|apply qbA|apply qaU)|exact HK.out)) hk (.inl rfl));have n2_:=Aside0.mk (hb);have n3_:=Aside0.mk (hi);clear HO_9;clear HK;clear HB;clear HI0;have HO_9:=n0_;have HK:=n1_;have HB:=n2_;have HI0:=n3_;clear n0_ n1_ n2_ n3_;(try clear hb);(try clear hb2);(try clear hk);(try clear hi);obtain ⟨ASz13_0,cSz13_0,HGz13,hgz13,⟨HSz13_0,_⟩⟩:=HI0.out;have hcz13_0:=cellS65_0 HGz13;have hcz13_1:=cellS65_1 HGz13;have hfz13_0:=qaD HGz13 0;have hfz13_1:=qaD HGz13 1;clear HGz13 hgz13;have p104:0≤(0:Int):=(by omega);have q104:0 < (t102.length:Int):=of_decide_eq_true (by first|(with_reducible assumption)|assumption);obtain ⟨ad104,e104,hx104_0,hx104_1,hx104_2,hx104_3⟩:=at_T68 HSz13_0 0 p104 q104;cases e104;have qi104:(0 < t102.length)=True:=eq_true (by omega);(try rw [show ((0:Int)).toNat=0 from rfl] at hx104_0);(try rw [show 0 * 4=0 from rfl] at hx104_0);(try rw [Addr.add_zero'] at hx104_0);(try rw [show ((0:Int)).toNat=0 from rfl] at hx104_1);(try rw [show 0 * 4=0 from rfl] at hx104_1);(try rw [Addr.add_zero'] at hx104_1);(try rw [show ((0:Int)).toNat=0 from rfl] at hx104_2);(try rw [show 0 * 4=0 from rfl] at hx104_2);(try rw [Addr.add_zero'] at hx104_2);(try rw [show ((0:Int)).toNat=0 from rfl] at hx104_3);(try rw [show 0 * 4=0 from rfl] at hx104_3);(try rw [Addr.add_zero'] at hx104_3);replace hx104_0:=qbB HB.out hx104_0;replace hx104_1:=qbB HB.out hx104_1;replace hx104_2:=qbB HB.out hx104_2;replace hx104_3:=qbB HB.out hx104_3;replace p104:=eq_true p104;replace q104:=eq_true q104)|((with_reducible refine qaO (f:=39) rfl ?_);refine qbG (some 32) rfl rfl Tryd.func39 (by kernel_rfl) rfl #[.pointer (some ⟨g,0,none⟩),.int .i64 1,.string (⟨#[115,99,104,101,100,117,108,101]⟩:ByteArray)] rfl (by (try simp only [List.map_toArray,List.map_cons,List.map_nil]);first|done|rfl|(simp only [List.length_drop,List.length_take];rfl)) ?_;(with_reducible refine (schedule_reader_take.calls g t102 t103 1 (⟨#[115,99,104,101,100,117,108,101]⟩:ByteArray) t105 t106 t107 t108 t109 t110 w0 _ ?side1 ?side2 A6.out).mono ?_);(case side1=>repeat (first|(with_reducible first|exact HI0.out|apply qaJ.alloc|apply qaJ.drewN|apply qaJ.drew|apply qaJ.set_1)|exact HI0.out));(case side2=>repeat (first|(with_reducible first|exact HB.out|apply qaB|apply qaA|apply qaC|refine qaF ?_ (qaJ.ge HI0.out))|exact HB.out));rintro e w14 ⟨rfl,hi,hb,hk⟩;refine ⟨_,rfl,?_⟩;have n0_:=Aside0.mk (Kd.S_mono (Kd.S_keep (qaJ.apartS (show qaJ w0 _ g t102 t103 from by repeat (first|(with_reducible first|exact HI0.out|apply qaJ.alloc|apply qaJ.drewN|apply qaJ.drew|apply qaJ.set_1)|exact HI0.out)) (by (with_reducible repeat (first|apply Kd.S_alloc|apply Kd.S_drewN|apply Kd.S_drew));exact HO_9.out) (by decide)) hk (fun _ h=>h.2)) (fun _ h=>h.1));have n1_:=Aside0.mk (qaQ.trans (by repeat (first|(with_reducible first|exact HK.out|apply qaQ.set_|apply qaV|apply qbA|apply qaU)|exact HK.out)) hk (.inl rfl));have n2_:=Aside0.mk (hb);have n3_:=Aside0.mk (hi);clear HO_9;clear HK;clear HB;clear HI0;have HO_9:=n0_;have HK:=n1_;have HB:=n2_;have HI0:=n3_;clear n0_ n1_ n2_ n3_;(try clear hb);(try clear hb2);(try clear hk);(try clear hi))|((with_reducible refine qaO (f:=39) rfl ?_);refine qbG (some 33) rfl rfl Tryd.func39 (by kernel_rfl) rfl #[.pointer (some ⟨g,0,none⟩),.int .i64 1,.string (⟨#[]⟩:ByteArray)] rfl (by (try simp only [List.map_toArray,List.map_cons,List.map_nil]);first|done|rfl|(simp only [List.length_drop,List.length_take];rfl)) ?_;(with_reducible refine (schedule_reader_take.calls g t109 t110 1 (⟨#[]⟩:ByteArray) t111 t112 t113 t114 t115 t116 w0 _ ?side1 ?side2 A7.out).mono ?_);(case side1=>repeat (first|(with_reducible first|exact HI0.out|apply qaJ.alloc|apply qaJ.drewN|apply qaJ.drew|apply qaJ.set_1)|exact HI0.out));(case side2=>repeat (first|(with_reducible first|exact HB.out|apply qaB|apply qaA|apply qaC|refine qaF ?_ (qaJ.ge HI0.out))|exact HB.out));rintro e w15 ⟨rfl,hi,hb,hk⟩;refine ⟨_,rfl,?_⟩;have n0_:=Aside0.mk (Kd.S_mono (Kd.S_keep (qaJ.apartS (show qaJ w0 _ g t109 t110 from by repeat (first|(with_reducible first|exact HI0.out|apply qaJ.alloc|apply qaJ.drewN|apply qaJ.drew|apply qaJ.set_1)|exact HI0.out)) (by (with_reducible repeat (first|apply Kd.S_alloc|apply Kd.S_drewN|apply Kd.S_drew));exact HO_9.out) (by decide)) hk (fun _ h=>h.2)) (fun _ h=>h.1));have n1_:=Aside0.mk (qaQ.trans (by repeat (first|(with_reducible first|exact HK.out|apply qaQ.set_|apply qaV|apply qbA|apply qaU)|exact HK.out)) hk (.inl rfl));have n2_:=Aside0.mk (hb);have n3_:=Aside0.mk (hi);clear HO_9;clear HK;clear HB;clear HI0;have HO_9:=n0_;have HK:=n1_;have HB:=n2_;have HI0:=n3_;clear n0_ n1_ n2_ n3_;(try clear hb);(try clear hb2);(try clear hk);(try clear hi))|((with_reducible refine qbE (N:=11) rfl ?_);refine qbC ?hg (N:=11) ?hd (cs:=#[.string (⟨#[]⟩:ByteArray),.int .i64 0,.slice none 0 0]) (t:=24) ?hr ?_;(case hd=>rfl);(case hg=>rfl);(case hr=>first|(go_simp;done)|(go_simp;rfl));intro gb117 hg w16 hbox hb;have n0_:=Aside0.mk (Kd.S_below (Kd.S_elderB (by (with_reducible repeat (first|apply Kd.S_alloc|apply Kd.S_drewN|apply Kd.S_drew));exact HO_9.out) gb117 (Nat.le_of_eq hg.symm)) hb);have n1_:=Aside0.mk (qaJ.below (by repeat (first|(with_reducible first|exact HI0.out|apply qaJ.alloc|apply qaJ.drewN|apply qaJ.drew|apply qaJ.set_1)|exact HI0.out)) hb);have n2_:=Aside0.mk (qaQ.trans (by repeat (first|(with_reducible first|exact HK.out|apply qaQ.set_|apply qaV|apply qbA|apply qaU)|exact HK.out)) (qaQ.of_below hb g none) (.inl rfl));have n3_:=Aside0.mk (qaN (by repeat (first|(with_reducible first|exact HB.out|apply qaB|apply qaA|apply qaC|refine qaF ?_ (qaJ.ge HI0.out))|exact HB.out)) hb);have n4_:=Aside0.mk (hbox);have n5_:=Aside0.mk ((by rw [hg];exact (keep_size (w:=w) (g:=g) (row:=none) (by repeat (first|(with_reducible first|exact HK.out|apply qaQ.set_|apply qaV|apply qbA|apply qaU)|exact HK.out))):w.heap.size≤gb117));have n6_:=Aside0.mk ((Nat.le_trans HW0.out (by rw [hg];exact (keep_size (w:=w) (g:=g) (row:=none) (by repeat (first|(with_reducible first|exact HK.out|apply qaQ.set_|apply qaV|apply qbA|apply qaU)|exact HK.out))):w.heap.size≤gb117):w0.heap.size≤gb117));have n7_:=Aside0.mk ((by rw [hg];exact Nat.ne_of_lt (qaJ.lt (show qaJ w0 _ g t115 t116 from by repeat (first|(with_reducible first|exact HI0.out|apply qaJ.alloc|apply qaJ.drewN|apply qaJ.drew|apply qaJ.set_1)|exact HI0.out))):g ≠ gb117));have n8_:=Aside0.mk ((by rw [hg];exact Nat.ne_of_gt (qaJ.lt (show qaJ w0 _ g t115 t116 from by repeat (first|(with_reducible first|exact HI0.out|apply qaJ.alloc|apply qaJ.drewN|apply qaJ.drew|apply qaJ.set_1)|exact HI0.out))):gb117 ≠ g));clear HO_9;clear HI0;clear HK;clear HB;have HO_9:=n0_;have HI0:=n1_;have HK:=n2_;have HB:=n3_;have BK117:=n4_;have GW117:=n5_;have GE117:=n6_;have NB0_117:=n7_;have NB117_0:=n8_;clear n0_ n1_ n2_ n3_ n4_ n5_ n6_ n7_ n8_;clear hb hbox hg;have hnb17:=NB117_0.out;have hnc17:=NB0_117.out;have hcz18_0:w16.cell? ⟨gb117,0,none⟩=some (.string (⟨#[]⟩:ByteArray)):=(qaE BK117.out 0).trans rfl;have hcz18_1:w16.cell? ⟨gb117,1,none⟩=some (.int .i64 0):=(qaE BK117.out 1).trans rfl;have hcz18_2:w16.cell? ⟨gb117,2,none⟩=some (.slice none 0 0):=(qaE BK117.out 2).trans rfl;have hfz18_0:=qaD BK117.out 0;have hfz18_1:=qaD BK117.out 1;have hfz18_2:=qaD BK117.out 2)|((with_reducible refine qaO (f:=39) rfl ?_);refine qbG (some 36) rfl rfl Tryd.func39 (by kernel_rfl) rfl #[.pointer (some ⟨g,0,none⟩),.int .i64 1,.string (⟨#[114,97,109,112]⟩:ByteArray)] rfl (by (try simp only [List.map_toArray,List.map_cons,List.map_nil]);first|done|rfl|(simp only [List.length_drop,List.length_take];rfl)) ?_;(with_reducible refine (schedule_reader_take.calls g t115 t116 1 (⟨#[114,97,109,112]⟩:ByteArray) t118 t119 t120 t121 t122 t123 w0 _ ?side1 ?side2 A8.out).mono ?_);(case side1=>repeat (first|(with_reducible first|exact HI0.out|apply qaJ.alloc|apply qaJ.drewN|apply qaJ.drew|apply qaJ.set_1|refine qaJ.far ?_ NB0_117.out _)|exact HI0.out));(case side2=>repeat (first|(with_reducible first|exact HB.out|apply qaB|apply qaA|apply qaC|refine qaF ?_ (qaJ.ge HI0.out)|refine qaF ?_ GE117.out)|exact HB.out));rintro e w19 ⟨rfl,hi,hb,hk⟩;refine ⟨_,rfl,?_⟩;have n0_:=Aside0.mk (Kd.S_mono (Kd.S_keep (qaJ.apartS (show qaJ w0 _ g t115 t116 from by repeat (first|(with_reducible first|exact HI0.out|apply qaJ.alloc|apply qaJ.drewN|apply qaJ.drew|apply qaJ.set_1|refine qaJ.far ?_ NB0_117.out _)|exact HI0.out)) (by (with_reducible repeat (first|apply Kd.S_alloc|apply Kd.S_drewN|apply Kd.S_drew));exact (Kd.S_mono (Kd.S_far (p:=⟨gb117,2,none⟩) (Kd.S_far (p:=⟨gb117,1,none⟩) (Kd.S_far (p:=⟨gb117,0,none⟩) (Kd.S_mono HO_9.out (fun k_ hk=>(⟨hk,hk.2⟩:_∧k_ ≠ gb117))) (fun _ hk=>hk.2) (.string t112)) (fun _ hk=>hk.2) (.int .i64 0)) (fun _ hk=>hk.2) (.slice none 0 0)) (fun _ h_=>h_.1))) (by decide)) hk (fun _ h=>h.2)) (fun _ h=>h.1));have n1_:=Aside0.mk (qaQ.blk hk (g':=gb117) (o:=.cells #[.string t112,.int .i64 0,.slice none 0 0] 24 (0,0)) (by (with_reducible repeat (first|refine qaH ?_ _|refine qaI ?_|refine qaG ?_ _));refine qaR (cs:=#[.string t112,.int .i64 0,.slice none 0 0]) ?_ 2 _ rfl;(with_reducible repeat (first|refine qaH ?_ _|refine qaI ?_|refine qaG ?_ _));refine qaR (cs:=#[.string t112,.int .i64 0,.slice none 0 0]) ?_ 1 _ rfl;(with_reducible repeat (first|refine qaH ?_ _|refine qaI ?_|refine qaG ?_ _));refine qaR (cs:=#[.string (⟨#[]⟩:ByteArray),.int .i64 0,.slice none 0 0]) ?_ 0 _ rfl;(with_reducible repeat (first|refine qaH ?_ _|refine qaI ?_|refine qaG ?_ _));exact BK117.out) NB117_0.out (by simp));have n2_:=Aside0.mk (qaQ.trans (by repeat (first|(with_reducible first|exact HK.out|apply qaQ.set_|apply qaV|apply qbA|apply qaU|refine qbK ?_ GW117.out _)|exact HK.out)) hk (.inl rfl));have n3_:=Aside0.mk (hb);have n4_:=Aside0.mk (hi);clear HO_9;clear BK117;clear HK;clear HB;clear HI0;have HO_9:=n0_;have BK117:=n1_;have HK:=n2_;have HB:=n3_;have HI0:=n4_;clear n0_ n1_ n2_ n3_ n4_;(try clear hb);(try clear hb2);(try clear hk);(try clear hi))|((with_reducible refine qaO (f:=39) rfl ?_);refine qbG (some 37) rfl rfl Tryd.func39 (by kernel_rfl) rfl #[.pointer (some ⟨g,0,none⟩),.int .i64 2,.string (⟨#[]⟩:ByteArray)] rfl (by (try simp only [List.map_toArray,List.map_cons,List.map_nil]);first|done|rfl|(simp only [List.length_drop,List.length_take];rfl)) ?_;(with_reducible refine (schedule_reader_take.calls g t122 t123 2 (⟨#[]⟩:ByteArray) t124 t125 t126 t127 t128 t129 w0 _ ?side1 ?side2 A9.out).mono ?_);(case side1=>repeat (first|(with_reducible first|exact HI0.out|apply qaJ.alloc|apply qaJ.drewN|apply qaJ.drew|apply qaJ.set_1|refine qaJ.far ?_ NB0_117.out _)|exact HI0.out));(case side2=>repeat (first|(with_reducible first|exact HB.out|apply qaB|apply qaA|apply qaC|refine qaF ?_ (qaJ.ge HI0.out)|refine qaF ?_ GE117.out)|exact HB.out));rintro e w20 ⟨rfl,hi,hb,hk⟩;refine ⟨_,rfl,?_⟩;have n0_:=Aside0.mk (Kd.S_mono (Kd.S_keep (qaJ.apartS (show qaJ w0 _ g t122 t123 from by repeat (first|(with_reducible first|exact HI0.out|apply qaJ.alloc|apply qaJ.drewN|apply qaJ.drew|apply qaJ.set_1|refine qaJ.far ?_ NB0_117.out _)|exact HI0.out)) (by (with_reducible repeat (first|apply Kd.S_alloc|apply Kd.S_drewN|apply Kd.S_drew));exact HO_9.out) (by decide)) hk (fun _ h=>h.2)) (fun _ h=>h.1));have n1_:=Aside0.mk (qaQ.blk hk (g':=gb117) (o:=.cells #[.string t112,.int .i64 0,.slice none 0 0] 24 (0,0)) (by (with_reducible repeat (first|refine qaH ?_ _|refine qaI ?_|refine qaG ?_ _));exact BK117.out) NB117_0.out (by simp));have n2_:=Aside0.mk (qaQ.trans (by repeat (first|(with_reducible first|exact HK.out|apply qaQ.set_|apply qaV|apply qbA|apply qaU|refine qbK ?_ GW117.out _)|exact HK.out)) hk (.inl rfl));have n3_:=Aside0.mk (hb);have n4_:=Aside0.mk (hi);clear HO_9;clear BK117;clear HK;clear HB;clear HI0;have HO_9:=n0_;have BK117:=n1_;have HK:=n2_;have HB:=n3_;have HI0:=n4_;clear n0_ n1_ n2_ n3_ n4_;(try clear hb);(try clear hb2);(try clear hk);(try clear hi);have hcz21_0:w20.cell? ⟨gb117,0,none⟩=some (.string t112):=(qaE BK117.out 0).trans rfl;have hcz21_1:w20.cell? ⟨gb117,1,none⟩=some (.int .i64 0):=(qaE BK117.out 1).trans rfl;have hcz21_2:w20.cell? ⟨gb117,2,none⟩=some (.slice none 0 0):=(qaE BK117.out 2).trans rfl;have hfz21_0:=qaD BK117.out 0;have hfz21_1:=qaD BK117.out 1;have hfz21_2:=qaD BK117.out 2)|((with_reducible refine qaO (f:=39) rfl ?_);refine qbG (some 40) rfl rfl Tryd.func39 (by kernel_rfl) rfl #[.pointer (some ⟨g,0,none⟩),.int .i64 3,.string (⟨#[58]⟩:ByteArray)] rfl (by (try simp only [List.map_toArray,List.map_cons,List.map_nil]);first|done|rfl|(simp only [List.length_drop,List.length_take];rfl)) ?_;(with_reducible refine (schedule_reader_take.calls g t128 t129 3 (⟨#[58]⟩:ByteArray) t130 t131 t132 t133 t134 t135 w0 _ ?side1 ?side2 A10.out).mono ?_);(case side1=>repeat (first|(with_reducible first|exact HI0.out|apply qaJ.alloc|apply qaJ.drewN|apply qaJ.drew|apply qaJ.set_1|refine qaJ.far ?_ NB0_117.out _)|exact HI0.out));(case side2=>repeat (first|(with_reducible first|exact HB.out|apply qaB|apply qaA|apply qaC|refine qaF ?_ (qaJ.ge HI0.out)|refine qaF ?_ GE117.out)|exact HB.out));rintro e w22 ⟨rfl,hi,hb,hk⟩;refine ⟨_,rfl,?_⟩;have n0_:=Aside0.mk (Kd.S_mono (Kd.S_keep (qaJ.apartS (show qaJ w0 _ g t128 t129 from by repeat (first|(with_reducible first|exact HI0.out|apply qaJ.alloc|apply qaJ.drewN|apply qaJ.drew|apply qaJ.set_1|refine qaJ.far ?_ NB0_117.out _)|exact HI0.out)) (by (with_reducible repeat (first|apply Kd.S_alloc|apply Kd.S_drewN|apply Kd.S_drew));exact (Kd.S_mono (Kd.S_far (p:=⟨gb117,1,none⟩) (Kd.S_mono HO_9.out (fun k_ hk=>(⟨hk,hk.2⟩:_∧k_ ≠ gb117))) (fun _ hk=>hk.2) (.int .i64 t126)) (fun _ h_=>h_.1))) (by decide)) hk (fun _ h=>h.2)) (fun _ h=>h.1));have n1_:=Aside0.mk (qaQ.blk hk (g':=gb117) (o:=.cells #[.string t112,.int .i64 t126,.slice none 0 0] 24 (0,0)) (by (with_reducible repeat (first|refine qaH ?_ _|refine qaI ?_|refine qaG ?_ _));refine qaR (cs:=#[.string t112,.int .i64 0,.slice none 0 0]) ?_ 1 _ rfl;(with_reducible repeat (first|refine qaH ?_ _|refine qaI ?_|refine qaG ?_ _));exact BK117.out) NB117_0.out (by simp));have n2_:=Aside0.mk (qaQ.trans (by repeat (first|(with_reducible first|exact HK.out|apply qaQ.set_|apply qaV|apply qbA|apply qaU|refine qbK ?_ GW117.out _)|exact HK.out)) hk (.inl rfl));have n3_:=Aside0.mk (hb);have n4_:=Aside0.mk (hi);clear HO_9;clear BK117;clear HK;clear HB;clear HI0;have HO_9:=n0_;have BK117:=n1_;have HK:=n2_;have HB:=n3_;have HI0:=n4_;clear n0_ n1_ n2_ n3_ n4_;(try clear hb);(try clear hb2);(try clear hk);(try clear hi)))
     (try simp only [Act.put,List.setIfInBounds_toArray,List.set_cons_zero,List.set_cons_succ])
     go_cut [] (fun wc=>∃ (kq:Nat) (x1000_10:List (S68)) (x1001_10:Bool) (x118002_10:List (S52)) (u118002:Value),Aside0 (schedule_Parse_tail.j2 kq x9_1 ((qaZ t102 0).f3) x1000_10 x1001_10 t112 t126 x118002_10=some (r1,r2,r3,r4,r5))∧Aside0 (kq≤k1)∧Aside0 (Kd.S k24 24 wc w.heap.size (fun k_=>some k_ ≠ (u118002:Value).ownBlock∧k_ ≠ gb117) u9 x9_1)∧Aside0 (Kd.R k52 52 wc w.heap.size (fun _=>True) u118002 x118002_10)∧Aside0 (wc.heap[gb117]?=some (.cells #[.string t112,.int .i64 t126,u118002] 24 (0,0)))∧Aside0 (qaJ w0 wc g x1000_10 x1001_10)∧Aside0 (qaQ w wc g none)∧Aside0 (Below w0.heap.size w0 wc))
     case first =>
      have H:=HC11.out
      clear HC11
      have H':=Aside0.mk H
      clear H
      go_wp2
      try (repeat (go_quiet (fail);try go_wp2))
      go_loopg [] k1 (fun kq w'=>∃ (x1000_2:List (S68)) (x1001_2:Bool) (x118002_2:List (S52)) (u118002:Value),Aside0 (schedule_Parse_tail.l1 kq x9_1 ((qaZ t102 0).f3) x1000_2 x1001_2 t112 t126 x118002_2=some (r1,r2,r3,r4,r5))∧Aside0 (kq≤k1)∧Aside0 (Kd.S k24 24 w' w.heap.size (fun k_=>some k_ ≠ (u118002:Value).ownBlock∧k_ ≠ gb117) u9 x9_1)∧Aside0 (Kd.R k52 52 w' w.heap.size (fun _=>True) u118002 x118002_2)∧Aside0 (w'.heap[gb117]?=some (.cells #[.string t112,.int .i64 t126,u118002] 24 (0,0)))∧Aside0 (qaJ w0 w' g x1000_2 x1001_2)∧Aside0 (qaQ w w' g none)∧Aside0 (Below w0.heap.size w0 w'))
      case atStart=>exact ⟨(t134),(t135),(([]:List (S52))),(.slice none 0 0),H',⟨Nat.le_refl _⟩,⟨by (with_reducible repeat (first|apply Kd.S_alloc|apply Kd.S_drewN|apply Kd.S_drew));exact Kd.S_mono HO_9.out (fun _ hk=>⟨(by simp [Value.ownBlock]),hk.2⟩)⟩,⟨by first|exact Kd.R_nil _ _ _ _ _|exact Kd.N_nil _ _ _ _ _|exact Kd.V_nil _ _ _ _ _|exact Kd.Q_nil _ _ _ _ _|exact Kd.S_nil _ _ _ _ _⟩,⟨by (with_reducible repeat (first|refine qaH ?_ _|refine qaI ?_|refine qaG ?_ _));exact BK117.out⟩,⟨by repeat (first|(with_reducible first|exact HI0.out|apply qaJ.alloc|apply qaJ.drewN|apply qaJ.drew|apply qaJ.set_1|refine qaJ.far ?_ NB0_117.out _)|exact HI0.out)⟩,⟨by repeat (first|(with_reducible first|exact HK.out|apply qaQ.set_|apply qaV|apply qbA|apply qaU|refine qbK ?_ GW117.out _)|exact HK.out)⟩,⟨by repeat (first|(with_reducible first|exact HB.out|apply qaB|apply qaA|apply qaC|refine qaF ?_ (qaJ.ge HI0.out)|refine qaF ?_ GE117.out)|exact HB.out)⟩⟩
      case round =>
       clear H'
       try clear c1
       try clear p1
       try clear q1
       try clear hx1
       try clear qi1
       try clear p2
       try clear c3
       try clear c5
       try clear c5b0
       try clear c5b1
       try clear c10
       try clear p10
       try clear q10
       try clear hx10
       try clear qi10
       try clear c17
       try clear hcz13_0
       try clear hcz13_1
       try clear hcz18_0
       try clear hcz18_1
       try clear hcz18_2
       try clear hcz21_0
       try clear hcz21_1
       try clear hcz21_2
       try clear hfz13_0
       try clear hfz13_1
       try clear hfz18_0
       try clear hfz18_1
       try clear hfz18_2
       try clear hfz21_0
       try clear hfz21_1
       try clear hfz21_2
       try clear hx104_0
       try clear hx104_1
       try clear hx104_2
       try clear hx104_3
       try clear p104
       try clear q104
       obtain ⟨x1000_2,x1001_2,x118002_2,u118002,HA,HK2,HO_9,HO_118002,BK117,HI0,HK,HB⟩:=hrel
       cases gk with
       | zero=>exact absurd HA.out (by simp [schedule_Parse_tail.l1])
       | succ k2 =>
        have H:=HA.out
        clear HA
        simp only [schedule_Parse_tail.l1] at H
        by_cases c23:x1001_2=true
        ·subst c23
         have H1:(schedule_Parse_tail.j2 k2 x9_1 ((qaZ t102 0).f3) x1000_2 true t112 t126 x118002_2)=some (r1,r2,r3,r4,r5):=by rw [if_pos rfl] at H;exact H
         clear H
         have H:=H1
         clear H1
         have H':=Aside0.mk H
         clear H
         obtain ⟨ASz24_0,cSz24_0,HGz24,hgz24,⟨HSz24_0,_⟩⟩:=HI0.out
         have hcz24_0:=cellS65_0 HGz24
         have hcz24_1:=cellS65_1 HGz24
         have hfz24_0:=qaD HGz24 0
         have hfz24_1:=qaD HGz24 1
         clear HGz24 hgz24
         go_wp2
         try (repeat (go_quiet (fail);try go_wp2))
         go_meet
         case rel=>exact ⟨_,(x1000_2),(true),(x118002_2),(u118002),H',⟨by have:=HK1.out;have:=HK2.out;first|omega|exact Nat.le_refl _⟩,⟨by (with_reducible repeat (first|apply Kd.S_alloc|apply Kd.S_drewN|apply Kd.S_drew));exact HO_9.out⟩,⟨by (with_reducible repeat (first|apply Kd.R_alloc|apply Kd.R_drewN|apply Kd.R_drew));exact HO_118002.out⟩,⟨by (with_reducible repeat (first|refine qaH ?_ _|refine qaI ?_|refine qaG ?_ _));exact BK117.out⟩,⟨by repeat (first|(with_reducible first|exact HI0.out|apply qaJ.alloc|apply qaJ.drewN|apply qaJ.drew|apply qaJ.set_1|refine qaJ.far ?_ NB0_117.out _)|exact HI0.out)⟩,⟨by repeat (first|(with_reducible first|exact HK.out|apply qaQ.set_|apply qaV|apply qbA|apply qaU|refine qbK ?_ GW117.out _)|exact HK.out)⟩,⟨by repeat (first|(with_reducible first|exact HB.out|apply qaB|apply qaA|apply qaC|refine qaF ?_ (qaJ.ge HI0.out)|refine qaF ?_ GE117.out)|exact HB.out)⟩⟩
        ·replace c23:=Bool.eq_false_iff.mpr c23
         subst c23
         have H1:((schedule_reader_is.f x1000_2 false 1 (⟨#[115,99,104,101,100,117,108,101]⟩:ByteArray)).bind fun bt136=>(if bt136.1=true then (schedule_Parse_tail.j2 k2 x9_1 ((qaZ t102 0).f3) bt136.2.1 bt136.2.2 t112 t126 x118002_2) else ((schedule_reader_is.f bt136.2.1 bt136.2.2 0 (⟨#[]⟩:ByteArray)).bind fun bt139=>(if bt139.1=true then (schedule_Parse_tail.j2 k2 x9_1 ((qaZ t102 0).f3) bt139.2.1 bt139.2.2 t112 t126 x118002_2) else ((schedule_reader_stage.f bt139.2.1 bt139.2.2).bind fun bt142=>(if x118002_2.length < 4398046511104 then (schedule_Parse_tail.l1 k2 x9_1 ((qaZ t102 0).f3) bt142.2.2.2.2.1 bt142.2.2.2.2.2 t112 t126 (x118002_2++[(⟨bt142.1,bt142.2.1,bt142.2.2.1,bt142.2.2.2.1⟩:S52)])) else (none)))))))=some (r1,r2,r3,r4,r5):=by rw [if_neg (show ¬ (false=true) by decide)] at H;exact H
         clear H
         have H:=H1
         clear H1
         replace H:=Option.bind_eq_some_iff.mp H
         obtain ⟨⟨t136,t137,t138⟩,A250,H⟩:=H
         replace H:(if t136=true then (schedule_Parse_tail.j2 k2 x9_1 ((qaZ t102 0).f3) t137 t138 t112 t126 x118002_2) else ((schedule_reader_is.f t137 t138 0 (⟨#[]⟩:ByteArray)).bind fun bt139=>(if bt139.1=true then (schedule_Parse_tail.j2 k2 x9_1 ((qaZ t102 0).f3) bt139.2.1 bt139.2.2 t112 t126 x118002_2) else ((schedule_reader_stage.f bt139.2.1 bt139.2.2).bind fun bt142=>(if x118002_2.length < 4398046511104 then (schedule_Parse_tail.l1 k2 x9_1 ((qaZ t102 0).f3) bt142.2.2.2.2.1 bt142.2.2.2.2.2 t112 t126 (x118002_2++[(⟨bt142.1,bt142.2.1,bt142.2.2.1,bt142.2.2.2.1⟩:S52)])) else (none))))))=some (r1,r2,r3,r4,r5):=H
         have A25:=Aside0.mk A250
         clear A250
         by_cases c26:t136=true
         ·subst c26
          have H1:(schedule_Parse_tail.j2 k2 x9_1 ((qaZ t102 0).f3) t137 t138 t112 t126 x118002_2)=some (r1,r2,r3,r4,r5):=by rw [if_pos rfl] at H;exact H
          clear H
          have H:=H1
          clear H1
          have H':=Aside0.mk H
          clear H
          obtain ⟨ASz27_0,cSz27_0,HGz27,hgz27,⟨HSz27_0,_⟩⟩:=HI0.out
          have hcz27_0:=cellS65_0 HGz27
          have hcz27_1:=cellS65_1 HGz27
          have hfz27_0:=qaD HGz27 0
          have hfz27_1:=qaD HGz27 1
          clear HGz27 hgz27
          go_wp2_with (first|(go_at_call 38;(with_reducible refine (schedule_reader_is.calls g x1000_2 false 1 (⟨#[115,99,104,101,100,117,108,101]⟩:ByteArray) true t137 t138 w0 _ ?side1 ?side2 A25.out).mono ?_);(case side1=>repeat (first|(with_reducible first|exact HI0.out|apply qaJ.alloc|apply qaJ.drewN|apply qaJ.drew|apply qaJ.set_1|refine qaJ.far ?_ NB0_117.out _)|exact HI0.out));(case side2=>repeat (first|(with_reducible first|exact HB.out|apply qaB|apply qaA|apply qaC|refine qaF ?_ (qaJ.ge HI0.out)|refine qaF ?_ GE117.out)|exact HB.out));rintro e w28 ⟨rfl,hi,hb,hk⟩;have n0_:=Aside0.mk (Kd.S_mono (Kd.S_keep (qaJ.apartS (show qaJ w0 _ g x1000_2 false from by repeat (first|(with_reducible first|exact HI0.out|apply qaJ.alloc|apply qaJ.drewN|apply qaJ.drew|apply qaJ.set_1|refine qaJ.far ?_ NB0_117.out _)|exact HI0.out)) (by (with_reducible repeat (first|apply Kd.S_alloc|apply Kd.S_drewN|apply Kd.S_drew));exact HO_9.out) (by decide)) hk (fun _ h=>h.2)) (fun _ h=>h.1));have n1_:=Aside0.mk (Kd.R_mono (Kd.R_keep (qaJ.apart (show qaJ w0 _ g x1000_2 false from by repeat (first|(with_reducible first|exact HI0.out|apply qaJ.alloc|apply qaJ.drewN|apply qaJ.drew|apply qaJ.set_1|refine qaJ.far ?_ NB0_117.out _)|exact HI0.out)) (by (with_reducible repeat (first|apply Kd.R_alloc|apply Kd.R_drewN|apply Kd.R_drew));exact HO_118002.out) (by decide)) hk (fun _ h=>h.2)) (fun _ h=>h.1));have n2_:=Aside0.mk (qaQ.blk hk (g':=gb117) (o:=.cells #[.string t112,.int .i64 t126,u118002] 24 (0,0)) (by (with_reducible repeat (first|refine qaH ?_ _|refine qaI ?_|refine qaG ?_ _));exact BK117.out) NB117_0.out (by simp));have n3_:=Aside0.mk (qaQ.trans (by repeat (first|(with_reducible first|exact HK.out|apply qaQ.set_|apply qaV|apply qbA|apply qaU|refine qbK ?_ GW117.out _)|exact HK.out)) hk (.inl rfl));have n4_:=Aside0.mk (hb);have n5_:=Aside0.mk (hi);clear HO_9;clear HO_118002;clear BK117;clear HK;clear HB;clear HI0;have HO_9:=n0_;have HO_118002:=n1_;have BK117:=n2_;have HK:=n3_;have HB:=n4_;have HI0:=n5_;clear n0_ n1_ n2_ n3_ n4_ n5_;(try clear hb);(try clear hb2);(try clear hk);(try clear hi)))
          try (repeat (go_quiet (fail);try go_wp2_with (first|(go_at_call 38;(with_reducible refine (schedule_reader_is.calls g x1000_2 false 1 (⟨#[115,99,104,101,100,117,108,101]⟩:ByteArray) true t137 t138 w0 _ ?side1 ?side2 A25.out).mono ?_);(case side1=>repeat (first|(with_reducible first|exact HI0.out|apply qaJ.alloc|apply qaJ.drewN|apply qaJ.drew|apply qaJ.set_1|refine qaJ.far ?_ NB0_117.out _)|exact HI0.out));(case side2=>repeat (first|(with_reducible first|exact HB.out|apply qaB|apply qaA|apply qaC|refine qaF ?_ (qaJ.ge HI0.out)|refine qaF ?_ GE117.out)|exact HB.out));rintro e w28 ⟨rfl,hi,hb,hk⟩;have n0_:=Aside0.mk (Kd.S_mono (Kd.S_keep (qaJ.apartS (show qaJ w0 _ g x1000_2 false from by repeat (first|(with_reducible first|exact HI0.out|apply qaJ.alloc|apply qaJ.drewN|apply qaJ.drew|apply qaJ.set_1|refine qaJ.far ?_ NB0_117.out _)|exact HI0.out)) (by (with_reducible repeat (first|apply Kd.S_alloc|apply Kd.S_drewN|apply Kd.S_drew));exact HO_9.out) (by decide)) hk (fun _ h=>h.2)) (fun _ h=>h.1));have n1_:=Aside0.mk (Kd.R_mono (Kd.R_keep (qaJ.apart (show qaJ w0 _ g x1000_2 false from by repeat (first|(with_reducible first|exact HI0.out|apply qaJ.alloc|apply qaJ.drewN|apply qaJ.drew|apply qaJ.set_1|refine qaJ.far ?_ NB0_117.out _)|exact HI0.out)) (by (with_reducible repeat (first|apply Kd.R_alloc|apply Kd.R_drewN|apply Kd.R_drew));exact HO_118002.out) (by decide)) hk (fun _ h=>h.2)) (fun _ h=>h.1));have n2_:=Aside0.mk (qaQ.blk hk (g':=gb117) (o:=.cells #[.string t112,.int .i64 t126,u118002] 24 (0,0)) (by (with_reducible repeat (first|refine qaH ?_ _|refine qaI ?_|refine qaG ?_ _));exact BK117.out) NB117_0.out (by simp));have n3_:=Aside0.mk (qaQ.trans (by repeat (first|(with_reducible first|exact HK.out|apply qaQ.set_|apply qaV|apply qbA|apply qaU|refine qbK ?_ GW117.out _)|exact HK.out)) hk (.inl rfl));have n4_:=Aside0.mk (hb);have n5_:=Aside0.mk (hi);clear HO_9;clear HO_118002;clear BK117;clear HK;clear HB;clear HI0;have HO_9:=n0_;have HO_118002:=n1_;have BK117:=n2_;have HK:=n3_;have HB:=n4_;have HI0:=n5_;clear n0_ n1_ n2_ n3_ n4_ n5_;(try clear hb);(try clear hb2);(try clear hk);(try clear hi)))))
          go_meet
          case rel=>exact ⟨_,(t137),(t138),(x118002_2),(u118002),H',⟨by have:=HK1.out;have:=HK2.out;first|omega|exact Nat.le_refl _⟩,⟨by (with_reducible repeat (first|apply Kd.S_alloc|apply Kd.S_drewN|apply Kd.S_drew));exact HO_9.out⟩,⟨by (with_reducible repeat (first|apply Kd.R_alloc|apply Kd.R_drewN|apply Kd.R_drew));exact HO_118002.out⟩,⟨by (with_reducible repeat (first|refine qaH ?_ _|refine qaI ?_|refine qaG ?_ _));exact BK117.out⟩,⟨by repeat (first|(with_reducible first|exact HI0.out|apply qaJ.alloc|apply qaJ.drewN|apply qaJ.drew|apply qaJ.set_1|refine qaJ.far ?_ NB0_117.out _)|exact HI0.out)⟩,⟨by repeat (first|(with_reducible first|exact HK.out|apply qaQ.set_|apply qaV|apply qbA|apply qaU|refine qbK ?_ GW117.out _)|exact HK.out)⟩,⟨by repeat (first|(with_reducible first|exact HB.out|apply qaB|apply qaA|apply qaC|refine qaF ?_ (qaJ.ge HI0.out)|refine qaF ?_ GE117.out)|exact HB.out)⟩⟩
         ·replace c26:=Bool.eq_false_iff.mpr c26
          subst c26
          have H1:((schedule_reader_is.f t137 t138 0 (⟨#[]⟩:ByteArray)).bind fun bt139=>(if bt139.1=true then (schedule_Parse_tail.j2 k2 x9_1 ((qaZ t102 0).f3) bt139.2.1 bt139.2.2 t112 t126 x118002_2) else ((schedule_reader_stage.f bt139.2.1 bt139.2.2).bind fun bt142=>(if x118002_2.length < 4398046511104 then (schedule_Parse_tail.l1 k2 x9_1 ((qaZ t102 0).f3) bt142.2.2.2.2.1 bt142.2.2.2.2.2 t112 t126 (x118002_2++[(⟨bt142.1,bt142.2.1,bt142.2.2.1,bt142.2.2.2.1⟩:S52)])) else (none)))))=some (r1,r2,r3,r4,r5):=by rw [if_neg (show ¬ (false=true) by decide)] at H;exact H
          clear H
          have H:=H1
          clear H1
          replace H:=Option.bind_eq_some_iff.mp H
          obtain ⟨⟨t139,t140,t141⟩,A290,H⟩:=H
          replace H:(if t139=true then (schedule_Parse_tail.j2 k2 x9_1 ((qaZ t102 0).f3) t140 t141 t112 t126 x118002_2) else ((schedule_reader_stage.f t140 t141).bind fun bt142=>(if x118002_2.length < 4398046511104 then (schedule_Parse_tail.l1 k2 x9_1 ((qaZ t102 0).f3) bt142.2.2.2.2.1 bt142.2.2.2.2.2 t112 t126 (x118002_2++[(⟨bt142.1,bt142.2.1,bt142.2.2.1,bt142.2.2.2.1⟩:S52)])) else (none))))=some (r1,r2,r3,r4,r5):=H
          have A29:=Aside0.mk A290
          clear A290
          by_cases c30:t139=true
          ·subst c30
           have H1:(schedule_Parse_tail.j2 k2 x9_1 ((qaZ t102 0).f3) t140 t141 t112 t126 x118002_2)=some (r1,r2,r3,r4,r5):=by rw [if_pos rfl] at H;exact H
           clear H
           have H:=H1
           clear H1
           have H':=Aside0.mk H
           clear H
           obtain ⟨ASz31_0,cSz31_0,HGz31,hgz31,⟨HSz31_0,_⟩⟩:=HI0.out
           have hcz31_0:=cellS65_0 HGz31
           have hcz31_1:=cellS65_1 HGz31
           have hfz31_0:=qaD HGz31 0
           have hfz31_1:=qaD HGz31 1
           clear HGz31 hgz31
           go_wp2_with (first|(go_at_call 38;(with_reducible refine (schedule_reader_is.calls g x1000_2 false 1 (⟨#[115,99,104,101,100,117,108,101]⟩:ByteArray) false t137 t138 w0 _ ?side1 ?side2 A25.out).mono ?_);(case side1=>repeat (first|(with_reducible first|exact HI0.out|apply qaJ.alloc|apply qaJ.drewN|apply qaJ.drew|apply qaJ.set_1|refine qaJ.far ?_ NB0_117.out _)|exact HI0.out));(case side2=>repeat (first|(with_reducible first|exact HB.out|apply qaB|apply qaA|apply qaC|refine qaF ?_ (qaJ.ge HI0.out)|refine qaF ?_ GE117.out)|exact HB.out));rintro e w32 ⟨rfl,hi,hb,hk⟩;have n0_:=Aside0.mk (Kd.S_mono (Kd.S_keep (qaJ.apartS (show qaJ w0 _ g x1000_2 false from by repeat (first|(with_reducible first|exact HI0.out|apply qaJ.alloc|apply qaJ.drewN|apply qaJ.drew|apply qaJ.set_1|refine qaJ.far ?_ NB0_117.out _)|exact HI0.out)) (by (with_reducible repeat (first|apply Kd.S_alloc|apply Kd.S_drewN|apply Kd.S_drew));exact HO_9.out) (by decide)) hk (fun _ h=>h.2)) (fun _ h=>h.1));have n1_:=Aside0.mk (Kd.R_mono (Kd.R_keep (qaJ.apart (show qaJ w0 _ g x1000_2 false from by repeat (first|(with_reducible first|exact HI0.out|apply qaJ.alloc|apply qaJ.drewN|apply qaJ.drew|apply qaJ.set_1|refine qaJ.far ?_ NB0_117.out _)|exact HI0.out)) (by (with_reducible repeat (first|apply Kd.R_alloc|apply Kd.R_drewN|apply Kd.R_drew));exact HO_118002.out) (by decide)) hk (fun _ h=>h.2)) (fun _ h=>h.1));have n2_:=Aside0.mk (qaQ.blk hk (g':=gb117) (o:=.cells #[.string t112,.int .i64 t126,u118002] 24 (0,0)) (by (with_reducible repeat (first|refine qaH ?_ _|refine qaI ?_|refine qaG ?_ _));exact BK117.out) NB117_0.out (by simp));have n3_:=Aside0.mk (qaQ.trans (by repeat (first|(with_reducible first|exact HK.out|apply qaQ.set_|apply qaV|apply qbA|apply qaU|refine qbK ?_ GW117.out _)|exact HK.out)) hk (.inl rfl));have n4_:=Aside0.mk (hb);have n5_:=Aside0.mk (hi);clear HO_9;clear HO_118002;clear BK117;clear HK;clear HB;clear HI0;have HO_9:=n0_;have HO_118002:=n1_;have BK117:=n2_;have HK:=n3_;have HB:=n4_;have HI0:=n5_;clear n0_ n1_ n2_ n3_ n4_ n5_;(try clear hb);(try clear hb2);(try clear hk);(try clear hi))|(go_at_call 38;(with_reducible refine (schedule_reader_is.calls g t137 t138 0 (⟨#[]⟩:ByteArray) true t140 t141 w0 _ ?side1 ?side2 A29.out).mono ?_);(case side1=>repeat (first|(with_reducible first|exact HI0.out|apply qaJ.alloc|apply qaJ.drewN|apply qaJ.drew|apply qaJ.set_1|refine qaJ.far ?_ NB0_117.out _)|exact HI0.out));(case side2=>repeat (first|(with_reducible first|exact HB.out|apply qaB|apply qaA|apply qaC|refine qaF ?_ (qaJ.ge HI0.out)|refine qaF ?_ GE117.out)|exact HB.out));rintro e w33 ⟨rfl,hi,hb,hk⟩;have n0_:=Aside0.mk (Kd.S_mono (Kd.S_keep (qaJ.apartS (show qaJ w0 _ g t137 t138 from by repeat (first|(with_reducible first|exact HI0.out|apply qaJ.alloc|apply qaJ.drewN|apply qaJ.drew|apply qaJ.set_1|refine qaJ.far ?_ NB0_117.out _)|exact HI0.out)) (by (with_reducible repeat (first|apply Kd.S_alloc|apply Kd.S_drewN|apply Kd.S_drew));exact HO_9.out) (by decide)) hk (fun _ h=>h.2)) (fun _ h=>h.1));have n1_:=Aside0.mk (Kd.R_mono (Kd.R_keep (qaJ.apart (show qaJ w0 _ g t137 t138 from by repeat (first|(with_reducible first|exact HI0.out|apply qaJ.alloc|apply qaJ.drewN|apply qaJ.drew|apply qaJ.set_1|refine qaJ.far ?_ NB0_117.out _)|exact HI0.out)) (by (with_reducible repeat (first|apply Kd.R_alloc|apply Kd.R_drewN|apply Kd.R_drew));exact HO_118002.out) (by decide)) hk (fun _ h=>h.2)) (fun _ h=>h.1));have n2_:=Aside0.mk (qaQ.blk hk (g':=gb117) (o:=.cells #[.string t112,.int .i64 t126,u118002] 24 (0,0)) (by (with_reducible repeat (first|refine qaH ?_ _|refine qaI ?_|refine qaG ?_ _));exact BK117.out) NB117_0.out (by simp));have n3_:=Aside0.mk (qaQ.trans (by repeat (first|(with_reducible first|exact HK.out|apply qaQ.set_|apply qaV|apply qbA|apply qaU|refine qbK ?_ GW117.out _)|exact HK.out)) hk (.inl rfl));have n4_:=Aside0.mk (hb);have n5_:=Aside0.mk (hi);clear HO_9;clear HO_118002;clear BK117;clear HK;clear HB;clear HI0;have HO_9:=n0_;have HO_118002:=n1_;have BK117:=n2_;have HK:=n3_;have HB:=n4_;have HI0:=n5_;clear n0_ n1_ n2_ n3_ n4_ n5_;(try clear hb);(try clear hb2);(try clear hk);(try clear hi)))
           try (repeat (go_quiet (fail);try go_wp2_with (first|(go_at_call 38;(with_reducible refine (schedule_reader_is.calls g x1000_2 false 1 (⟨#[115,99,104,101,100,117,108,101]⟩:ByteArray) false t137 t138 w0 _ ?side1 ?side2 A25.out).mono ?_);(case side1=>repeat (first|(with_reducible first|exact HI0.out|apply qaJ.alloc|apply qaJ.drewN|apply qaJ.drew|apply qaJ.set_1|refine qaJ.far ?_ NB0_117.out _)|exact HI0.out));(case side2=>repeat (first|(with_reducible first|exact HB.out|apply qaB|apply qaA|apply qaC|refine qaF ?_ (qaJ.ge HI0.out)|refine qaF ?_ GE117.out)|exact HB.out));rintro e w32 ⟨rfl,hi,hb,hk⟩;have n0_:=Aside0.mk (Kd.S_mono (Kd.S_keep (qaJ.apartS (show qaJ w0 _ g x1000_2 false from by repeat (first|(with_reducible first|exact HI0.out|apply qaJ.alloc|apply qaJ.drewN|apply qaJ.drew|apply qaJ.set_1|refine qaJ.far ?_ NB0_117.out _)|exact HI0.out)) (by (with_reducible repeat (first|apply Kd.S_alloc|apply Kd.S_drewN|apply Kd.S_drew));exact HO_9.out) (by decide)) hk (fun _ h=>h.2)) (fun _ h=>h.1));have n1_:=Aside0.mk (Kd.R_mono (Kd.R_keep (qaJ.apart (show qaJ w0 _ g x1000_2 false from by repeat (first|(with_reducible first|exact HI0.out|apply qaJ.alloc|apply qaJ.drewN|apply qaJ.drew|apply qaJ.set_1|refine qaJ.far ?_ NB0_117.out _)|exact HI0.out)) (by (with_reducible repeat (first|apply Kd.R_alloc|apply Kd.R_drewN|apply Kd.R_drew));exact HO_118002.out) (by decide)) hk (fun _ h=>h.2)) (fun _ h=>h.1));have n2_:=Aside0.mk (qaQ.blk hk (g':=gb117) (o:=.cells #[.string t112,.int .i64 t126,u118002] 24 (0,0)) (by (with_reducible repeat (first|refine qaH ?_ _|refine qaI ?_|refine qaG ?_ _));exact BK117.out) NB117_0.out (by simp));have n3_:=Aside0.mk (qaQ.trans (by repeat (first|(with_reducible first|exact HK.out|apply qaQ.set_|apply qaV|apply qbA|apply qaU|refine qbK ?_ GW117.out _)|exact HK.out)) hk (.inl rfl));have n4_:=Aside0.mk (hb);have n5_:=Aside0.mk (hi);clear HO_9;clear HO_118002;clear BK117;clear HK;clear HB;clear HI0;have HO_9:=n0_;have HO_118002:=n1_;have BK117:=n2_;have HK:=n3_;have HB:=n4_;have HI0:=n5_;clear n0_ n1_ n2_ n3_ n4_ n5_;(try clear hb);(try clear hb2);(try clear hk);(try clear hi))|(go_at_call 38;(with_reducible refine (schedule_reader_is.calls g t137 t138 0 (⟨#[]⟩:ByteArray) true t140 t141 w0 _ ?side1 ?side2 A29.out).mono ?_);(case side1=>repeat (first|(with_reducible first|exact HI0.out|apply qaJ.alloc|apply qaJ.drewN|apply qaJ.drew|apply qaJ.set_1|refine qaJ.far ?_ NB0_117.out _)|exact HI0.out));(case side2=>repeat (first|(with_reducible first|exact HB.out|apply qaB|apply qaA|apply qaC|refine qaF ?_ (qaJ.ge HI0.out)|refine qaF ?_ GE117.out)|exact HB.out));rintro e w33 ⟨rfl,hi,hb,hk⟩;have n0_:=Aside0.mk (Kd.S_mono (Kd.S_keep (qaJ.apartS (show qaJ w0 _ g t137 t138 from by repeat (first|(with_reducible first|exact HI0.out|apply qaJ.alloc|apply qaJ.drewN|apply qaJ.drew|apply qaJ.set_1|refine qaJ.far ?_ NB0_117.out _)|exact HI0.out)) (by (with_reducible repeat (first|apply Kd.S_alloc|apply Kd.S_drewN|apply Kd.S_drew));exact HO_9.out) (by decide)) hk (fun _ h=>h.2)) (fun _ h=>h.1));have n1_:=Aside0.mk (Kd.R_mono (Kd.R_keep (qaJ.apart (show qaJ w0 _ g t137 t138 from by repeat (first|(with_reducible first|exact HI0.out|apply qaJ.alloc|apply qaJ.drewN|apply qaJ.drew|apply qaJ.set_1|refine qaJ.far ?_ NB0_117.out _)|exact HI0.out)) (by (with_reducible repeat (first|apply Kd.R_alloc|apply Kd.R_drewN|apply Kd.R_drew));exact HO_118002.out) (by decide)) hk (fun _ h=>h.2)) (fun _ h=>h.1));have n2_:=Aside0.mk (qaQ.blk hk (g':=gb117) (o:=.cells #[.string t112,.int .i64 t126,u118002] 24 (0,0)) (by (with_reducible repeat (first|refine qaH ?_ _|refine qaI ?_|refine qaG ?_ _));exact BK117.out) NB117_0.out (by simp));have n3_:=Aside0.mk (qaQ.trans (by repeat (first|(with_reducible first|exact HK.out|apply qaQ.set_|apply qaV|apply qbA|apply qaU|refine qbK ?_ GW117.out _)|exact HK.out)) hk (.inl rfl));have n4_:=Aside0.mk (hb);have n5_:=Aside0.mk (hi);clear HO_9;clear HO_118002;clear BK117;clear HK;clear HB;clear HI0;have HO_9:=n0_;have HO_118002:=n1_;have BK117:=n2_;have HK:=n3_;have HB:=n4_;have HI0:=n5_;clear n0_ n1_ n2_ n3_ n4_ n5_;(try clear hb);(try clear hb2);(try clear hk);(try clear hi)))))
           go_meet
           case rel=>exact ⟨_,(t140),(t141),(x118002_2),(u118002),H',⟨by have:=HK1.out;have:=HK2.out;first|omega|exact Nat.le_refl _⟩,⟨by (with_reducible repeat (first|apply Kd.S_alloc|apply Kd.S_drewN|apply Kd.S_drew));exact HO_9.out⟩,⟨by (with_reducible repeat (first|apply Kd.R_alloc|apply Kd.R_drewN|apply Kd.R_drew));exact HO_118002.out⟩,⟨by (with_reducible repeat (first|refine qaH ?_ _|refine qaI ?_|refine qaG ?_ _));exact BK117.out⟩,⟨by repeat (first|(with_reducible first|exact HI0.out|apply qaJ.alloc|apply qaJ.drewN|apply qaJ.drew|apply qaJ.set_1|refine qaJ.far ?_ NB0_117.out _)|exact HI0.out)⟩,⟨by repeat (first|(with_reducible first|exact HK.out|apply qaQ.set_|apply qaV|apply qbA|apply qaU|refine qbK ?_ GW117.out _)|exact HK.out)⟩,⟨by repeat (first|(with_reducible first|exact HB.out|apply qaB|apply qaA|apply qaC|refine qaF ?_ (qaJ.ge HI0.out)|refine qaF ?_ GE117.out)|exact HB.out)⟩⟩
          ·replace c30:=Bool.eq_false_iff.mpr c30
           subst c30
           have H1:((schedule_reader_stage.f t140 t141).bind fun bt142=>(if x118002_2.length < 4398046511104 then (schedule_Parse_tail.l1 k2 x9_1 ((qaZ t102 0).f3) bt142.2.2.2.2.1 bt142.2.2.2.2.2 t112 t126 (x118002_2++[(⟨bt142.1,bt142.2.1,bt142.2.2.1,bt142.2.2.2.1⟩:S52)])) else (none)))=some (r1,r2,r3,r4,r5):=by rw [if_neg (show ¬ (false=true) by decide)] at H;exact H
           clear H
           have H:=H1
           clear H1
           replace H:=Option.bind_eq_some_iff.mp H
           obtain ⟨⟨t142,t143,t144,t145,t146,t147⟩,A340,H⟩:=H
           replace H:(if x118002_2.length < 4398046511104 then (schedule_Parse_tail.l1 k2 x9_1 ((qaZ t102 0).f3) t146 t147 t112 t126 (x118002_2++[(⟨t142,t143,t144,t145⟩:S52)])) else (none))=some (r1,r2,r3,r4,r5):=H
           have A34:=Aside0.mk A340
           clear A340
           by_cases c35:x118002_2.length < 4398046511104
           ·rw [if_pos c35] at H
            have LMc35:=Aside0.mk c35
            clear c35
            obtain ⟨y148,hy148⟩:∃ y_:List (S52),y_=(x118002_2++[(⟨t142,t143,t144,t145⟩:S52)]):=⟨_,rfl⟩
            replace H:(schedule_Parse_tail.l1 k2 x9_1 ((qaZ t102 0).f3) t146 t147 t112 t126 y148)=some (r1,r2,r3,r4,r5):=by first|(rw [hy148];with_reducible exact H)|(have H2_:=(Option.bind_some _ _).symm.trans H;rw [hy148];with_reducible exact H2_)|(have H2_:=(Option.bind_some _ _).symm.trans H;with_reducible exact H2_)|with_reducible exact H|(rw [hy148];exact H)|exact H
            have Ny148:=Aside0.mk hy148
            clear hy148
            have H':=Aside0.mk H
            clear H
            obtain ⟨ASz36_0,cSz36_0,HGz36,hgz36,⟨HSz36_0,_⟩⟩:=HI0.out
            have hcz36_0:=cellS65_0 HGz36
            have hcz36_1:=cellS65_1 HGz36
            have hfz36_0:=qaD HGz36 0
            have hfz36_1:=qaD HGz36 1
            clear HGz36 hgz36
            try go_wp2_with (first|(go_at_call 38;(with_reducible refine (schedule_reader_is.calls g x1000_2 false 1 (⟨#[115,99,104,101,100,117,108,101]⟩:ByteArray) false t137 t138 w0 _ ?side1 ?side2 A25.out).mono ?_);(case side1=>repeat (first|(with_reducible first|exact HI0.out|apply qaJ.alloc|apply qaJ.drewN|apply qaJ.drew|apply qaJ.set_1|refine qaJ.far ?_ NB0_117.out _)|exact HI0.out));(case side2=>repeat (first|(with_reducible first|exact HB.out|apply qaB|apply qaA|apply qaC|refine qaF ?_ (qaJ.ge HI0.out)|refine qaF ?_ GE117.out)|exact HB.out));rintro e w37 ⟨rfl,hi,hb,hk⟩;have n0_:=Aside0.mk (Kd.S_mono (Kd.S_keep (qaJ.apartS (show qaJ w0 _ g x1000_2 false from by repeat (first|(with_reducible first|exact HI0.out|apply qaJ.alloc|apply qaJ.drewN|apply qaJ.drew|apply qaJ.set_1|refine qaJ.far ?_ NB0_117.out _)|exact HI0.out)) (by (with_reducible repeat (first|apply Kd.S_alloc|apply Kd.S_drewN|apply Kd.S_drew));exact HO_9.out) (by decide)) hk (fun _ h=>h.2)) (fun _ h=>h.1));have n1_:=Aside0.mk (Kd.R_mono (Kd.R_keep (qaJ.apart (show qaJ w0 _ g x1000_2 false from by repeat (first|(with_reducible first|exact HI0.out|apply qaJ.alloc|apply qaJ.drewN|apply qaJ.drew|apply qaJ.set_1|refine qaJ.far ?_ NB0_117.out _)|exact HI0.out)) (by (with_reducible repeat (first|apply Kd.R_alloc|apply Kd.R_drewN|apply Kd.R_drew));exact HO_118002.out) (by decide)) hk (fun _ h=>h.2)) (fun _ h=>h.1));have n2_:=Aside0.mk (qaQ.blk hk (g':=gb117) (o:=.cells #[.string t112,.int .i64 t126,u118002] 24 (0,0)) (by (with_reducible repeat (first|refine qaH ?_ _|refine qaI ?_|refine qaG ?_ _));exact BK117.out) NB117_0.out (by simp));have n3_:=Aside0.mk (qaQ.trans (by repeat (first|(with_reducible first|exact HK.out|apply qaQ.set_|apply qaV|apply qbA|apply qaU|refine qbK ?_ GW117.out _)|exact HK.out)) hk (.inl rfl));have n4_:=Aside0.mk (hb);have n5_:=Aside0.mk (hi);clear HO_9;clear HO_118002;clear BK117;clear HK;clear HB;clear HI0;have HO_9:=n0_;have HO_118002:=n1_;have BK117:=n2_;have HK:=n3_;have HB:=n4_;have HI0:=n5_;clear n0_ n1_ n2_ n3_ n4_ n5_;(try clear hb);(try clear hb2);(try clear hk);(try clear hi))|(go_at_call 38;(with_reducible refine (schedule_reader_is.calls g t137 t138 0 (⟨#[]⟩:ByteArray) false t140 t141 w0 _ ?side1 ?side2 A29.out).mono ?_);(case side1=>repeat (first|(with_reducible first|exact HI0.out|apply qaJ.alloc|apply qaJ.drewN|apply qaJ.drew|apply qaJ.set_1|refine qaJ.far ?_ NB0_117.out _)|exact HI0.out));(case side2=>repeat (first|(with_reducible first|exact HB.out|apply qaB|apply qaA|apply qaC|refine qaF ?_ (qaJ.ge HI0.out)|refine qaF ?_ GE117.out)|exact HB.out));rintro e w38 ⟨rfl,hi,hb,hk⟩;have n0_:=Aside0.mk (Kd.S_mono (Kd.S_keep (qaJ.apartS (show qaJ w0 _ g t137 t138 from by repeat (first|(with_reducible first|exact HI0.out|apply qaJ.alloc|apply qaJ.drewN|apply qaJ.drew|apply qaJ.set_1|refine qaJ.far ?_ NB0_117.out _)|exact HI0.out)) (by (with_reducible repeat (first|apply Kd.S_alloc|apply Kd.S_drewN|apply Kd.S_drew));exact HO_9.out) (by decide)) hk (fun _ h=>h.2)) (fun _ h=>h.1));have n1_:=Aside0.mk (Kd.R_mono (Kd.R_keep (qaJ.apart (show qaJ w0 _ g t137 t138 from by repeat (first|(with_reducible first|exact HI0.out|apply qaJ.alloc|apply qaJ.drewN|apply qaJ.drew|apply qaJ.set_1|refine qaJ.far ?_ NB0_117.out _)|exact HI0.out)) (by (with_reducible repeat (first|apply Kd.R_alloc|apply Kd.R_drewN|apply Kd.R_drew));exact HO_118002.out) (by decide)) hk (fun _ h=>h.2)) (fun _ h=>h.1));have n2_:=Aside0.mk (qaQ.blk hk (g':=gb117) (o:=.cells #[.string t112,.int .i64 t126,u118002] 24 (0,0)) (by (with_reducible repeat (first|refine qaH ?_ _|refine qaI ?_|refine qaG ?_ _));exact BK117.out) NB117_0.out (by simp));have n3_:=Aside0.mk (qaQ.trans (by repeat (first|(with_reducible first|exact HK.out|apply qaQ.set_|apply qaV|apply qbA|apply qaU|refine qbK ?_ GW117.out _)|exact HK.out)) hk (.inl rfl));have n4_:=Aside0.mk (hb);have n5_:=Aside0.mk (hi);clear HO_9;clear HO_118002;clear BK117;clear HK;clear HB;clear HI0;have HO_9:=n0_;have HO_118002:=n1_;have BK117:=n2_;have HK:=n3_;have HB:=n4_;have HI0:=n5_;clear n0_ n1_ n2_ n3_ n4_ n5_;(try clear hb);(try clear hb2);(try clear hk);(try clear hi)))
            try (repeat (go_quiet (fail);try go_wp2_with (first|(go_at_call 38;(with_reducible refine (schedule_reader_is.calls g x1000_2 false 1 (⟨#[115,99,104,101,100,117,108,101]⟩:ByteArray) false t137 t138 w0 _ ?side1 ?side2 A25.out).mono ?_);(case side1=>repeat (first|(with_reducible first|exact HI0.out|apply qaJ.alloc|apply qaJ.drewN|apply qaJ.drew|apply qaJ.set_1|refine qaJ.far ?_ NB0_117.out _)|exact HI0.out));(case side2=>repeat (first|(with_reducible first|exact HB.out|apply qaB|apply qaA|apply qaC|refine qaF ?_ (qaJ.ge HI0.out)|refine qaF ?_ GE117.out)|exact HB.out));rintro e w37 ⟨rfl,hi,hb,hk⟩;have n0_:=Aside0.mk (Kd.S_mono (Kd.S_keep (qaJ.apartS (show qaJ w0 _ g x1000_2 false from by repeat (first|(with_reducible first|exact HI0.out|apply qaJ.alloc|apply qaJ.drewN|apply qaJ.drew|apply qaJ.set_1|refine qaJ.far ?_ NB0_117.out _)|exact HI0.out)) (by (with_reducible repeat (first|apply Kd.S_alloc|apply Kd.S_drewN|apply Kd.S_drew));exact HO_9.out) (by decide)) hk (fun _ h=>h.2)) (fun _ h=>h.1));have n1_:=Aside0.mk (Kd.R_mono (Kd.R_keep (qaJ.apart (show qaJ w0 _ g x1000_2 false from by repeat (first|(with_reducible first|exact HI0.out|apply qaJ.alloc|apply qaJ.drewN|apply qaJ.drew|apply qaJ.set_1|refine qaJ.far ?_ NB0_117.out _)|exact HI0.out)) (by (with_reducible repeat (first|apply Kd.R_alloc|apply Kd.R_drewN|apply Kd.R_drew));exact HO_118002.out) (by decide)) hk (fun _ h=>h.2)) (fun _ h=>h.1));have n2_:=Aside0.mk (qaQ.blk hk (g':=gb117) (o:=.cells #[.string t112,.int .i64 t126,u118002] 24 (0,0)) (by (with_reducible repeat (first|refine qaH ?_ _|refine qaI ?_|refine qaG ?_ _));exact BK117.out) NB117_0.out (by simp));have n3_:=Aside0.mk (qaQ.trans (by repeat (first|(with_reducible first|exact HK.out|apply qaQ.set_|apply qaV|apply qbA|apply qaU|refine qbK ?_ GW117.out _)|exact HK.out)) hk (.inl rfl));have n4_:=Aside0.mk (hb);have n5_:=Aside0.mk (hi);clear HO_9;clear HO_118002;clear BK117;clear HK;clear HB;clear HI0;have HO_9:=n0_;have HO_118002:=n1_;have BK117:=n2_;have HK:=n3_;have HB:=n4_;have HI0:=n5_;clear n0_ n1_ n2_ n3_ n4_ n5_;(try clear hb);(try clear hb2);(try clear hk);(try clear hi))|(go_at_call 38;(with_reducible refine (schedule_reader_is.calls g t137 t138 0 (⟨#[]⟩:ByteArray) false t140 t141 w0 _ ?side1 ?side2 A29.out).mono ?_);(case side1=>repeat (first|(with_reducible first|exact HI0.out|apply qaJ.alloc|apply qaJ.drewN|apply qaJ.drew|apply qaJ.set_1|refine qaJ.far ?_ NB0_117.out _)|exact HI0.out));(case side2=>repeat (first|(with_reducible first|exact HB.out|apply qaB|apply qaA|apply qaC|refine qaF ?_ (qaJ.ge HI0.out)|refine qaF ?_ GE117.out)|exact HB.out));rintro e w38 ⟨rfl,hi,hb,hk⟩;have n0_:=Aside0.mk (Kd.S_mono (Kd.S_keep (qaJ.apartS (show qaJ w0 _ g t137 t138 from by repeat (first|(with_reducible first|exact HI0.out|apply qaJ.alloc|apply qaJ.drewN|apply qaJ.drew|apply qaJ.set_1|refine qaJ.far ?_ NB0_117.out _)|exact HI0.out)) (by (with_reducible repeat (first|apply Kd.S_alloc|apply Kd.S_drewN|apply Kd.S_drew));exact HO_9.out) (by decide)) hk (fun _ h=>h.2)) (fun _ h=>h.1));have n1_:=Aside0.mk (Kd.R_mono (Kd.R_keep (qaJ.apart (show qaJ w0 _ g t137 t138 from by repeat (first|(with_reducible first|exact HI0.out|apply qaJ.alloc|apply qaJ.drewN|apply qaJ.drew|apply qaJ.set_1|refine qaJ.far ?_ NB0_117.out _)|exact HI0.out)) (by (with_reducible repeat (first|apply Kd.R_alloc|apply Kd.R_drewN|apply Kd.R_drew));exact HO_118002.out) (by decide)) hk (fun _ h=>h.2)) (fun _ h=>h.1));have n2_:=Aside0.mk (qaQ.blk hk (g':=gb117) (o:=.cells #[.string t112,.int .i64 t126,u118002] 24 (0,0)) (by (with_reducible repeat (first|refine qaH ?_ _|refine qaI ?_|refine qaG ?_ _));exact BK117.out) NB117_0.out (by simp));have n3_:=Aside0.mk (qaQ.trans (by repeat (first|(with_reducible first|exact HK.out|apply qaQ.set_|apply qaV|apply qbA|apply qaU|refine qbK ?_ GW117.out _)|exact HK.out)) hk (.inl rfl));have n4_:=Aside0.mk (hb);have n5_:=Aside0.mk (hi);clear HO_9;clear HO_118002;clear BK117;clear HK;clear HB;clear HI0;have HO_9:=n0_;have HO_118002:=n1_;have BK117:=n2_;have HK:=n3_;have HB:=n4_;have HI0:=n5_;clear n0_ n1_ n2_ n3_ n4_ n5_;(try clear hb);(try clear hb2);(try clear hk);(try clear hi)))))
            have n0_:=Aside0.mk (Kd.S_drew HO_9.out)
            have n1_:=Aside0.mk (Kd.R_drew HO_118002.out)
            have n2_:=Aside0.mk (qaI BK117.out)
            have n3_:=Aside0.mk (qaJ.drew HI0.out)
            have n4_:=Aside0.mk (qbA HK.out)
            have n5_:=Aside0.mk (qaC HB.out)
            clear HO_9
            clear HO_118002
            clear BK117
            clear HI0
            clear HK
            clear HB
            have HO_9:=n0_
            have HO_118002:=n1_
            have BK117:=n2_
            have HI0:=n3_
            have HK:=n4_
            have HB:=n5_
            clear n0_ n1_ n2_ n3_ n4_ n5_
            refine start_ (n:=7) (S:=fun w'=>w'.cell? ⟨gb117,0,none⟩=some (.string t112)∧w'.cell? ⟨gb117,1,none⟩=some (.int .i64 t126)∧w'.cell? ⟨gb117,2,none⟩=some (u118002)) (ds:=[6]) (bitsA 7 0) (by kernel_rfl) rfl rfl ⟨(qaE BK117.out 0).trans rfl,(qaE BK117.out 1).trans rfl,(qaE BK117.out 2).trans rfl⟩ (fun hHeld=>?_)
            generalize w38.drew=w39 at HO_9 HO_118002 BK117 HI0 HK HB hHeld ⊢
            refine qbD (i:=0) (N:=some 52) (v:=?_) (a':=?_) #[true,false,false,false,false,false,false] rfl rfl (by kernel_rfl) (fun _ _ _ h=>h) (Or.inl ⟨by rfl,?_⟩) ?_ ?_
            rotate_left;(intro w';go_simp;with_reducible rfl);rotate_left;(simp only [Act.put,List.setIfInBounds_toArray,List.set_cons_zero,List.set_cons_succ,qaX,qaY];rfl)
            refine take_ (i:=1) (N:=some 53) (v:=?_) (a':=?_) (bitsA 7 3) rfl rfl (by kernel_rfl) (fun _ _ _ h=>h) (Or.inl ⟨by rfl,?_⟩) hHeld ?_ ?_
            rotate_left;(rintro w' ⟨s0,s1,s2⟩;go_simp;with_reducible rfl);rotate_left;(simp only [Act.put,List.setIfInBounds_toArray,List.set_cons_zero,List.set_cons_succ,qaX,qaY];rfl)
            refine one_ (i:=2) (N:=some 54) (bitsA 7 7) rfl rfl (by kernel_rfl) (by decide) (fun K hK=>?_)
            refine goes_ Tryd.func40 (by kernel_rfl) rfl #[.pointer (some ⟨g,0,none⟩)] (by rfl) rfl rfl (by (try simp only [List.map_toArray,List.map_cons,List.map_nil]);first|done|rfl|(simp only [List.length_drop,List.length_take];rfl)) ?_
            with_reducible refine (schedule_reader_stage.calls g t140 t141 t142 t143 t144 t145 t146 t147 w0 _ ?side1 ?side2 A34.out HG_).mono ?_
            (case side1=>repeat (first|(with_reducible first|exact HI0.out|apply qaJ.alloc|apply qaJ.drewN|apply qaJ.drew|apply qaJ.set_1|refine qaJ.far ?_ NB0_117.out _)|exact HI0.out))
            (case side2=>repeat (first|(with_reducible first|exact HB.out|apply qaB|apply qaA|apply qaC|refine qaF ?_ (qaJ.ge HI0.out)|refine qaF ?_ GE117.out)|exact HB.out))
            rintro e w40 ⟨rfl,hi,hb,hk⟩
            refine ⟨_,rfl,?_⟩
            have n0_:=Aside0.mk (Kd.S_mono (Kd.S_keep (qaJ.apartS (show qaJ w0 _ g t140 t141 from by repeat (first|(with_reducible first|exact HI0.out|apply qaJ.alloc|apply qaJ.drewN|apply qaJ.drew|apply qaJ.set_1|refine qaJ.far ?_ NB0_117.out _)|exact HI0.out)) (by (with_reducible repeat (first|apply Kd.S_alloc|apply Kd.S_drewN|apply Kd.S_drew));exact HO_9.out) (by decide)) hk (fun _ h=>h.2)) (fun _ h=>h.1))
            have n1_:=Aside0.mk (Kd.R_mono (Kd.R_keep (qaJ.apart (show qaJ w0 _ g t140 t141 from by repeat (first|(with_reducible first|exact HI0.out|apply qaJ.alloc|apply qaJ.drewN|apply qaJ.drew|apply qaJ.set_1|refine qaJ.far ?_ NB0_117.out _)|exact HI0.out)) (by (with_reducible repeat (first|apply Kd.R_alloc|apply Kd.R_drewN|apply Kd.R_drew));exact HO_118002.out) (by decide)) hk (fun _ h=>h.2)) (fun _ h=>h.1))
            have n2_:=Aside0.mk (qaQ.blk hk (g':=gb117) (o:=.cells #[.string t112,.int .i64 t126,u118002] 24 (0,0)) (by (with_reducible repeat (first|refine qaH ?_ _|refine qaI ?_|refine qaG ?_ _));exact BK117.out) NB117_0.out (by simp))
            have n3_:=Aside0.mk (qaQ.trans (by repeat (first|(with_reducible first|exact HK.out|apply qaQ.set_|apply qaV|apply qbA|apply qaU|refine qbK ?_ GW117.out _)|exact HK.out)) hk (.inl rfl))
            have n4_:=Aside0.mk (hb)
            have n5_:=Aside0.mk (hi)
            clear HO_9
            clear HO_118002
            clear BK117
            clear HK
            clear HB
            clear HI0
            have HO_9:=n0_
            have HO_118002:=n1_
            have BK117:=n2_
            have HK:=n3_
            have HB:=n4_
            have HI0:=n5_
            clear n0_ n1_ n2_ n3_ n4_ n5_
            (try clear hb)
            (try clear hb2)
            (try clear hk)
            (try clear hi)
            refine hK.out _ _ ⟨(qaE BK117.out 0).trans rfl,(qaE BK117.out 1).trans rfl,(qaE BK117.out 2).trans rfl⟩ (fun hHeld=>?_)
            clear hK K
            refine norm_ (a':=?_) ?_ ?_
            rotate_left
            ·show Act.put _ (some 54) _=_
             simp only [Act.put,List.setIfInBounds_toArray,List.set_cons_zero,List.set_cons_succ,qaX,qaY]
             rfl
            refine one_ (i:=3) (N:=some 55) (bitsA 7 15) rfl rfl (by kernel_rfl) (by decide) (fun K hK=>?_)
            refine value_ (w1:=?_) (v:=?_) (by rfl) rfl ?_ ?_
            rotate_left 2
            ·go_simp
             constructor
             ·rfl
             ·rfl
            refine hK.out _ _ ⟨(qaE (qaG BK117.out _) 0).trans rfl,(qaE (qaG BK117.out _) 1).trans rfl,(qaE (qaG BK117.out _) 2).trans rfl⟩ (fun hHeld=>?_)
            clear hK K
            refine norm_ (a':=?_) ?_ ?_
            rotate_left
            ·show Act.put _ (some 55) _=_
             simp only [Act.put,List.setIfInBounds_toArray,List.set_cons_zero,List.set_cons_succ,qaX,qaY]
             rfl
            refine one_ (i:=4) (N:=some 56) (bitsA 7 31) rfl rfl (by kernel_rfl) (by decide) (fun K hK=>?_)
            refine Kd.R_append_step k52 w.heap.size (by rfl) (.tmp 53) (.tmp 55) 22 52 (.agg #[(.int .i64 0),(.int .i64 0),(.int .i64 0),(.int .i64 0)]) 32 rfl Tryd.underlying22 info52 rfl (by decide) (by omega) u118002 x118002_2 (⟨t142,t143,t144,t145⟩:S52) [.int .i64 t142,.int .i64 t143,.int .i64 t144,.int .i64 t145] (fun _=>True) (fun _=>False) rfl rfl ?aP (fun _ hk=>hk.elim) ?aF ?aO (Below.refl _ _) ?aS ?aL ?_
            (case aP=>exact k52_mkM _ _ _ (⟨t142,t143,t144,t145⟩:S52))
            (case aF=>exact (fun _ _=>trivial))
            (case aO=>exact (by (with_reducible repeat (first|apply Kd.R_alloc|apply Kd.R_drewN|apply Kd.R_drew));exact HO_118002.out))
            (case aS=>exact (keep_size (w:=w) (g:=g) (row:=none) (by repeat (first|(with_reducible first|exact HK.out|apply qaQ.set_|apply qaV|apply qbA|apply qaU|refine qbK ?_ GW117.out _)|exact HK.out))))
            (case aL=>have:=LMc35.out;omega)
            intro v149 w41 ho hb hg hat
            rw [← Ny148.out] at ho
            have n0_:=Aside0.mk (Kd.S_after (ok:=(fun k_=>k_ ≠ gb117)) (by (with_reducible repeat (first|apply Kd.S_alloc|apply Kd.S_drewN|apply Kd.S_drew));exact Kd.S_mono HO_9.out (fun _ hk=>⟨hk.2,hk.1⟩)) hg hat)
            have n1_:=Aside0.mk (blk_grown (g:=gb117) (o:=.cells #[.string t112,.int .i64 t126,u118002] 24 (0,0)) (by (with_reducible repeat (first|refine qaH ?_ _|refine qaI ?_|refine qaG ?_ _));exact BK117.out) hg (Kd.R_ne HO_118002.out BK117.out (by decide)))
            have n2_:=Aside0.mk (qaJ.grown (by repeat (first|(with_reducible first|exact HI0.out|apply qaJ.alloc|apply qaJ.drewN|apply qaJ.drew|apply qaJ.set_1|refine qaJ.far ?_ NB0_117.out _)|exact HI0.out)) hg (qaJ.own_ne HI0.out HO_118002.out (by decide)))
            have n3_:=Aside0.mk (below_weaken (by repeat (first|(with_reducible first|exact HB.out|apply qaB|apply qaA|apply qaC|refine qaF ?_ (qaJ.ge HI0.out)|refine qaF ?_ GE117.out)|exact HB.out)) HL.out hb)
            have n4_:=Aside0.mk (qaQ.trans (by repeat (first|(with_reducible first|exact HK.out|apply qaQ.set_|apply qaV|apply qbA|apply qaU|refine qbK ?_ GW117.out _)|exact HK.out)) (qaQ.of_grown hg g) (Kd.R_base2 HO_118002.out))
            have n5_:=Aside0.mk (ho)
            clear HO_9
            clear BK117
            clear HI0
            clear HB
            clear HK
            clear HO_118002
            have HO_9:=n0_
            have BK117:=n1_
            have HI0:=n2_
            have HB:=n3_
            have HK:=n4_
            have HO150:=n5_
            clear n0_ n1_ n2_ n3_ n4_ n5_
            clear ho hb hg hat
            obtain ⟨Ao42,co42,eo42⟩:=Kd.R_slice HO150.out
            (first|subst eo42|(injection eo42 with f1_ f2_ f3_;have f4_:=f1_.symm;have f5_:=f3_.symm;clear f1_ f2_ f3_;subst f4_;subst f5_))
            refine hK.out _ _ ⟨(qaE BK117.out 0).trans rfl,(qaE BK117.out 1).trans rfl,(qaE BK117.out 2).trans rfl⟩ (fun hHeld=>?_)
            clear hK K
            refine norm_ (a':=?_) ?_ ?_
            rotate_left
            ·show Act.put _ (some 56) _=_
             simp only [Act.put,List.setIfInBounds_toArray,List.set_cons_zero,List.set_cons_succ,qaX,qaY]
             rfl
            refine qbD (i:=5) (N:=some 57) (v:=?_) (a':=?_) #[true,true,true,true,true,true,false] rfl rfl (by kernel_rfl) (fun _ _ _ h=>h) (Or.inl ⟨by rfl,?_⟩) ?_ ?_
            rotate_left;(intro w';go_simp;with_reducible rfl);rotate_left;(simp only [Act.put,List.setIfInBounds_toArray,List.set_cons_zero,List.set_cons_succ,qaX,qaY];rfl)
            refine last_ (i:=6) (N:=none) #[true,true,true,true,true,true,true] rfl rfl (by kernel_rfl) (by decide) (fun K hK=>?_)
            have hs43:w41.cell? ⟨gb117,2,none⟩=some (u118002):=(qaE BK117.out 2).trans rfl
            have hfs43:=qaD BK117.out 2
            refine skip_ (w1:=?_) (by rfl) rfl ?_ ?_
            rotate_left
            ·go_simp
             rfl
            refine hK.out _ _ ?_
            clear hK K
            refine done_ (by kernel_rfl) ?_
            try go_wp2
            try (repeat (go_quiet (fail);try go_wp2))
            go_roundg k2
            case measure=>have:=HK1.out;have:=HK2.out;omega
            case rel=>exact ⟨(t146),(t147),(y148),(.slice Ao42 y148.length co42),H',⟨by have:=HK1.out;have:=HK2.out;omega⟩,⟨by (with_reducible repeat (first|apply Kd.S_alloc|apply Kd.S_drewN|apply Kd.S_drew));exact Kd.S_mono (Kd.S_far (p:=⟨gb117,2,none⟩) (Kd.S_mono HO_9.out (fun k_ hk=>(⟨hk,hk.1⟩:_∧k_ ≠ gb117))) (fun _ hk=>hk.2) (.slice Ao42 y148.length co42)) (fun _ hk=>⟨hk.1.2,hk.1.1⟩)⟩,⟨by (with_reducible repeat (first|apply Kd.R_alloc|apply Kd.R_drewN|apply Kd.R_drew));exact Kd.R_mono (Kd.R_far (p:=⟨gb117,2,none⟩) (Kd.R_types HO150.out BK117.out (by decide)) (fun _ hk=>hk.2) (.slice Ao42 y148.length co42)) (fun _ hk=>trivial)⟩,⟨by (with_reducible repeat (first|refine qaH ?_ _|refine qaI ?_|refine qaG ?_ _));refine qaR (cs:=#[.string t112,.int .i64 t126,u118002]) ?_ 2 _ rfl;(with_reducible repeat (first|refine qaH ?_ _|refine qaI ?_|refine qaG ?_ _));exact BK117.out⟩,⟨by repeat (first|(with_reducible first|exact HI0.out|apply qaJ.alloc|apply qaJ.drewN|apply qaJ.drew|apply qaJ.set_1|refine qaJ.far ?_ NB0_117.out _)|exact HI0.out)⟩,⟨by repeat (first|(with_reducible first|exact HK.out|apply qaQ.set_|apply qaV|apply qbA|apply qaU|refine qbK ?_ GW117.out _)|exact HK.out)⟩,⟨by repeat (first|(with_reducible first|exact HB.out|apply qaB|apply qaA|apply qaC|refine qaF ?_ (qaJ.ge HI0.out)|refine qaF ?_ GE117.out)|exact HB.out)⟩⟩
           ·rw [if_neg c35] at H
            exact absurd H (by simp)
     case rest =>
      clear HC11
      try clear c1
      try clear p1
      try clear q1
      try clear hx1
      try clear qi1
      try clear c2
      try clear p2
      try clear c3
      try clear c4
      try clear c5
      try clear c5b0
      try clear c5b1
      try clear c10
      try clear p10
      try clear q10
      try clear hx10
      try clear qi10
      try clear c17
      try clear c23
      try clear c26
      try clear c30
      try clear c35
      try clear c38
      try clear c39
      try clear c40
      try clear hcz13_0
      try clear hcz13_1
      try clear hcz18_0
      try clear hcz18_1
      try clear hcz18_2
      try clear hcz21_0
      try clear hcz21_1
      try clear hcz21_2
      try clear hcz24_0
      try clear hcz24_1
      try clear hcz27_0
      try clear hcz27_1
      try clear hcz31_0
      try clear hcz31_1
      try clear hcz36_0
      try clear hcz36_1
      try clear hfz13_0
      try clear hfz13_1
      try clear hfz18_0
      try clear hfz18_1
      try clear hfz18_2
      try clear hfz21_0
      try clear hfz21_1
      try clear hfz21_2
      try clear hfz24_0
      try clear hfz24_1
      try clear hfz27_0
      try clear hfz27_1
      try clear hfz31_0
      try clear hfz31_1
      try clear hfz36_0
      try clear hfz36_1
      try clear hx104_0
      try clear hx104_1
      try clear hx104_2
      try clear hx104_3
      try clear p1
      try clear p10
      try clear p104
      try clear p2
      try clear q1
      try clear q10
      try clear q104
      obtain ⟨kq,x1000_10,x1001_10,x118002_10,u118002,HA,HJ10,HO_9,HO_118002,BK117,HI0,HK,HB⟩:=hcut
      cases kq with
      | zero=>exact absurd HA.out (by simp [schedule_Parse_tail.j2])
      | succ kj10 =>
       have H:=HA.out
       clear HA
       simp only [schedule_Parse_tail.j2] at H
       by_cases c44:x1001_10=true
       ·subst c44
        have H1:(if 0 < (x1000_10.length:Int) then (some (([]:List (S24)),5,(qaZ x1000_10 0).f3,x1000_10,true)) else (none))=some (r1,r2,r3,r4,r5):=by rw [if_pos rfl] at H;exact H
        clear H
        have H:=H1
        clear H1
        by_cases c45:0 < (x1000_10.length:Int)
        ·rw [if_pos c45] at H
         have c45b0:decide (0 < (x1000_10.length:Int))=true:=decide_eq_true c45
         have c45b1:decide (0 < x1000_10.length)=true:=decide_eq_true (by omega)
         clear c45
         simp only [Option.some.injEq,Prod.mk.injEq] at H
         obtain ⟨rfl,rfl,rfl,rfl,rfl⟩:=H
         obtain ⟨ASz46_0,cSz46_0,HGz46,hgz46,⟨HSz46_0,_⟩⟩:=HI0.out
         have hcz46_0:=cellS65_0 HGz46
         have hcz46_1:=cellS65_1 HGz46
         have hfz46_0:=qaD HGz46 0
         have hfz46_1:=qaD HGz46 1
         clear HGz46 hgz46
         have p151:0≤(0:Int):=(by omega)
         have q151:0 < (x1000_10.length:Int):=of_decide_eq_true (by first|(with_reducible assumption)|assumption)
         obtain ⟨ad151,e151,hx151_0,hx151_1,hx151_2,hx151_3⟩:=at_T68 HSz46_0 0 p151 q151
         cases e151
         have qi151:(0 < x1000_10.length)=True:=eq_true (by omega)
         (try rw [show ((0:Int)).toNat=0 from rfl] at hx151_0)
         (try rw [show 0 * 4=0 from rfl] at hx151_0)
         (try rw [Addr.add_zero'] at hx151_0)
         (try rw [show ((0:Int)).toNat=0 from rfl] at hx151_1)
         (try rw [show 0 * 4=0 from rfl] at hx151_1)
         (try rw [Addr.add_zero'] at hx151_1)
         (try rw [show ((0:Int)).toNat=0 from rfl] at hx151_2)
         (try rw [show 0 * 4=0 from rfl] at hx151_2)
         (try rw [Addr.add_zero'] at hx151_2)
         (try rw [show ((0:Int)).toNat=0 from rfl] at hx151_3)
         (try rw [show 0 * 4=0 from rfl] at hx151_3)
         (try rw [Addr.add_zero'] at hx151_3)
         replace hx151_0:=qbB HB.out hx151_0
         replace hx151_1:=qbB HB.out hx151_1
         replace hx151_2:=qbB HB.out hx151_2
         replace hx151_3:=qbB HB.out hx151_3
         replace p151:=eq_true p151
         replace q151:=eq_true q151
         go_wp2
         try (repeat (go_quiet (fail);try go_wp2))
         go_ret3
         exact ⟨_,by first|rfl|(simp [qaL,qaM]<;>rfl)|(simp [*,qaL,qaM]<;>rfl),by first|exact Kd.S_nil _ _ _ _ _|exact Kd.N_nil _ _ _ _ _|exact Kd.V_nil _ _ _ _ _|exact Kd.Q_nil _ _ _ _ _|exact Kd.R_nil _ _ _ _ _,by repeat (first|(with_reducible first|exact HI0.out|apply qaJ.alloc|apply qaJ.drewN|apply qaJ.drew|apply qaJ.set_1|refine qaJ.far ?_ NB0_117.out _)|exact HI0.out),by repeat (first|(with_reducible first|exact HB.out|apply qaB|apply qaA|apply qaC|refine qaF ?_ (qaJ.ge HI0.out)|refine qaF ?_ GE117.out)|exact HB.out),by repeat (first|(with_reducible first|exact HK.out|apply qaQ.set_|apply qaV|apply qbA|apply qaU|refine qbK ?_ GW117.out _)|exact HK.out)⟩
        ·rw [if_neg c45] at H
         exact absurd H (by simp)
       ·replace c44:=Bool.eq_false_iff.mpr c44
        subst c44
        have H1:(if x9_1.length < 2932031007402 then ((some (x9_1++[(⟨t112,t126,x118002_10⟩:S24)]:List (S24))).bind fun y152=>((schedule_last.f y152).bind fun t155=>(if t155=0 then (schedule_Parse_tail.l0 kj10 y152 x1000_10 false) else (some (([]:List (S24)),t155,((qaZ t102 0).f3),x1000_10,false))))) else (none))=some (r1,r2,r3,r4,r5):=by rw [if_neg (show ¬ (false=true) by decide)] at H;exact H
        clear H
        have H:=H1
        clear H1
        by_cases c47:x9_1.length < 2932031007402
        ·rw [if_pos c47] at H
         have LMc47:=Aside0.mk c47
         clear c47
         obtain ⟨y152,hy152⟩:∃ y_:List (S24),y_=(x9_1++[(⟨t112,t126,x118002_10⟩:S24)]):=⟨_,rfl⟩
         replace H:((schedule_last.f y152).bind fun t155=>(if t155=0 then (schedule_Parse_tail.l0 kj10 y152 x1000_10 false) else (some (([]:List (S24)),t155,((qaZ t102 0).f3),x1000_10,false))))=some (r1,r2,r3,r4,r5):=by first|(rw [hy152];with_reducible exact H)|(have H2_:=(Option.bind_some _ _).symm.trans H;rw [hy152];with_reducible exact H2_)|(have H2_:=(Option.bind_some _ _).symm.trans H;with_reducible exact H2_)|with_reducible exact H|(rw [hy152];exact H)|exact H
         have Ny152:=Aside0.mk hy152
         clear hy152
         replace H:=Option.bind_eq_some_iff.mp H
         obtain ⟨t155,A480,H⟩:=H
         replace H:(if t155=0 then (schedule_Parse_tail.l0 kj10 y152 x1000_10 false) else (some (([]:List (S24)),t155,((qaZ t102 0).f3),x1000_10,false)))=some (r1,r2,r3,r4,r5):=H
         have A48:=Aside0.mk A480
         clear A480
         by_cases c49:t155=0
         ·rw [if_pos c49] at H
          have c49b0:(t155 == 0)=true:=beq_iff_eq.mpr c49
          have c49b1:(t155 != 0)=false:=bne_eq_false_iff_eq.mpr c49
          clear c49
          have H':=Aside0.mk H
          clear H
          obtain ⟨ASz50_0,cSz50_0,HGz50,hgz50,⟨HSz50_0,_⟩⟩:=HI0.out
          have hcz50_0:=cellS65_0 HGz50
          have hcz50_1:=cellS65_1 HGz50
          have hfz50_0:=qaD HGz50 0
          have hfz50_1:=qaD HGz50 1
          clear HGz50 hgz50
          have hnb51:=NB117_0.out
          have hnc51:=NB0_117.out
          have hcz52_0:wc.cell? ⟨gb117,0,none⟩=some (.string t112):=(qaE BK117.out 0).trans rfl
          have hcz52_1:wc.cell? ⟨gb117,1,none⟩=some (.int .i64 t126):=(qaE BK117.out 1).trans rfl
          have hcz52_2:wc.cell? ⟨gb117,2,none⟩=some (u118002):=(qaE BK117.out 2).trans rfl
          have hfz52_0:=qaD BK117.out 0
          have hfz52_1:=qaD BK117.out 1
          have hfz52_2:=qaD BK117.out 2
          obtain ⟨Ao54,co54,eo54⟩:=Kd.R_slice HO_118002.out
          subst eo54
          go_wp2_with (first|((with_reducible refine qcG (b:=.append) (xs:=#[.tmp 65,.tmp 67]) rfl ?_);at_builtin;refine Kd.S_append k24 w.heap.size rfl (.tmp 65) (.tmp 67) 25 24 (.agg #[(.string ⟨#[]⟩),(.int .i64 0),(.slice none 0 0)]) 48 rfl Tryd.underlying25 info24 rfl (by decide) (by omega) u9 x9_1 (⟨t112,t126,x118002_10⟩:S24) [.string t112,.int .i64 t126,.slice Ao54 x118002_10.length co54] (fun k_=>k_ ≠ gb117) (fun k_=>some k_=(.slice Ao54 x118002_10.length co54:Value).ownBlock) rfl rfl ?aP (fun k_ hk_=>((Kd.R_mono (ok':=fun k_=>((fun k_=>k_ ≠ gb117)) k_∧some k_ ≠ (u9:Value).ownBlock) (Kd.R_types (Kd.R_apart' (HO_118002.out) (Kd.S_typed HO_9.out) (by decide)) BK117.out (by decide)) (fun k_ hk=>⟨hk.2,hk.1.2⟩))).1 k_ hk_.symm) ?aF ?aO (Below.refl _ _) ?aS ?aL ?_;(case aP=>exact k24_mkM _ _ _ (⟨t112,t126,x118002_10⟩:S24) (Kd.R_mono (Kd.R_tight rfl (Kd.R_mono (ok':=fun k_=>((fun k_=>k_ ≠ gb117)) k_∧some k_ ≠ (u9:Value).ownBlock) (Kd.R_types (Kd.R_apart' (HO_118002.out) (Kd.S_typed HO_9.out) (by decide)) BK117.out (by decide)) (fun k_ hk=>⟨hk.2,hk.1.2⟩))) (fun _ h_=>h_)));(case aF=>exact (fun k_ hk=>Kd.freshB (g:=gb117) (o:=.cells #[.string t112,.int .i64 t126,.slice Ao54 x118002_10.length co54] 24 (0,0)) (by (with_reducible repeat (first|refine qaH ?_ _|refine qaI ?_|refine qaG ?_ _));exact BK117.out) k_ hk));(case aO=>exact (by (with_reducible repeat (first|apply Kd.S_alloc|apply Kd.S_drewN|apply Kd.S_drew));exact Kd.S_mono HO_9.out (fun k_ hk=>⟨hk.2,fun e_=>hk.1 e_⟩)));(case aS=>exact (keep_size (w:=w) (g:=g) (row:=none) (by repeat (first|(with_reducible first|exact HK.out|apply qaQ.set_|apply qaV|apply qbA|apply qaU|refine qbK ?_ GW117.out _)|exact HK.out))));(case aL=>have:=LMc47.out;omega);intro v153 w53 ho hb hg hat;rw [← Ny152.out] at ho;have n0_:=Aside0.mk (blk_grown (g:=gb117) (o:=.cells #[.string t112,.int .i64 t126,.slice Ao54 x118002_10.length co54] 24 (0,0)) (by (with_reducible repeat (first|refine qaH ?_ _|refine qaI ?_|refine qaG ?_ _));exact BK117.out) hg (Kd.S_away HO_9.out (fun _ hk=>hk.2)));have n1_:=Aside0.mk (qaJ.grown (by repeat (first|(with_reducible first|exact HI0.out|apply qaJ.alloc|apply qaJ.drewN|apply qaJ.drew|apply qaJ.set_1|refine qaJ.far ?_ NB0_117.out _)|exact HI0.out)) hg (qaJ.own_neS HI0.out HO_9.out (by decide)));have n2_:=Aside0.mk (below_weaken (by repeat (first|(with_reducible first|exact HB.out|apply qaB|apply qaA|apply qaC|refine qaF ?_ (qaJ.ge HI0.out)|refine qaF ?_ GE117.out)|exact HB.out)) HL.out hb);have n3_:=Aside0.mk (qaQ.trans (by repeat (first|(with_reducible first|exact HK.out|apply qaQ.set_|apply qaV|apply qbA|apply qaU|refine qbK ?_ GW117.out _)|exact HK.out)) (qaQ.of_grown hg g) (Kd.S_base2 HO_9.out));have n4_:=Aside0.mk (ho);clear BK117;clear HI0;clear HB;clear HK;clear HO_9;clear HO_118002;have BK117:=n0_;have HI0:=n1_;have HB:=n2_;have HK:=n3_;have HO154:=n4_;clear n0_ n1_ n2_ n3_ n4_;clear ho hb hg hat;obtain ⟨Ao55,co55,eo55⟩:=Kd.S_slice HO154.out;subst eo55)|((with_reducible refine qaO (f:=34) rfl ?_);refine qbG (some 70) rfl rfl Tryd.func34 (by kernel_rfl) rfl #[.slice Ao55 y152.length co55] rfl (by (try simp only [List.map_toArray,List.map_cons,List.map_nil]);first|done|rfl|(simp only [List.length_drop,List.length_take];rfl)) ?_;(with_reducible refine (schedule_last.calls _ _ y152 t155 _ ?side1 ?side2 A48.out (glob_at HG_ (by repeat (first|(with_reducible first|exact HB.out|apply qaB|apply qaA|apply qaC|refine qaF ?_ (Aside0.out (by assumption)))|exact HB.out)))).mono ?_);(case side1=>repeat (first|exact (Kd.S_reads' HO154.out).2.2|(with_reducible refine Kd.C_alloc ?_ _)|(with_reducible refine Kd.C_drewN ?_ _)|(with_reducible refine Kd.C_drew ?_)));(case side2=>exact (Kd.S_reads' HO154.out).2.1);rintro e w56 ⟨rfl,hb⟩;refine ⟨_,rfl,?_⟩;have n0_:=Aside0.mk (Kd.S_below (by (with_reducible repeat (first|apply Kd.S_alloc|apply Kd.S_drewN|apply Kd.S_drew));exact HO154.out) hb);have n1_:=Aside0.mk (qaS (g:=gb117) (o:=.cells #[.string t112,.int .i64 t126,.slice Ao54 x118002_10.length co54] 24 (0,0)) (by (with_reducible repeat (first|refine qaH ?_ _|refine qaI ?_|refine qaG ?_ _));exact BK117.out) hb);have n2_:=Aside0.mk (qaJ.below (by repeat (first|(with_reducible first|exact HI0.out|apply qaJ.alloc|apply qaJ.drewN|apply qaJ.drew|apply qaJ.set_1|refine qaJ.far ?_ NB0_117.out _)|exact HI0.out)) hb);have n3_:=Aside0.mk (qaQ.trans (by repeat (first|(with_reducible first|exact HK.out|apply qaQ.set_|apply qaV|apply qbA|apply qaU|refine qbK ?_ GW117.out _)|exact HK.out)) (qaQ.of_below hb g none) (.inl rfl));have n4_:=Aside0.mk (qaN (by repeat (first|(with_reducible first|exact HB.out|apply qaB|apply qaA|apply qaC|refine qaF ?_ (qaJ.ge HI0.out)|refine qaF ?_ GE117.out)|exact HB.out)) hb);clear HO154;clear BK117;clear HI0;clear HK;clear HB;have HO154:=n0_;have BK117:=n1_;have HI0:=n2_;have HK:=n3_;have HB:=n4_;clear n0_ n1_ n2_ n3_ n4_;(try clear hb);(try clear hb2);(try clear hk);(try clear hi)))
          try (repeat (go_quiet (fail);try go_wp2_with (first|((with_reducible refine qcG (b:=.append) (xs:=#[.tmp 65,.tmp 67]) rfl ?_);at_builtin;refine Kd.S_append k24 w.heap.size rfl (.tmp 65) (.tmp 67) 25 24 (.agg #[(.string ⟨#[]⟩),(.int .i64 0),(.slice none 0 0)]) 48 rfl Tryd.underlying25 info24 rfl (by decide) (by omega) u9 x9_1 (⟨t112,t126,x118002_10⟩:S24) [.string t112,.int .i64 t126,.slice Ao54 x118002_10.length co54] (fun k_=>k_ ≠ gb117) (fun k_=>some k_=(.slice Ao54 x118002_10.length co54:Value).ownBlock) rfl rfl ?aP (fun k_ hk_=>((Kd.R_mono (ok':=fun k_=>((fun k_=>k_ ≠ gb117)) k_∧some k_ ≠ (u9:Value).ownBlock) (Kd.R_types (Kd.R_apart' (HO_118002.out) (Kd.S_typed HO_9.out) (by decide)) BK117.out (by decide)) (fun k_ hk=>⟨hk.2,hk.1.2⟩))).1 k_ hk_.symm) ?aF ?aO (Below.refl _ _) ?aS ?aL ?_;(case aP=>exact k24_mkM _ _ _ (⟨t112,t126,x118002_10⟩:S24) (Kd.R_mono (Kd.R_tight rfl (Kd.R_mono (ok':=fun k_=>((fun k_=>k_ ≠ gb117)) k_∧some k_ ≠ (u9:Value).ownBlock) (Kd.R_types (Kd.R_apart' (HO_118002.out) (Kd.S_typed HO_9.out) (by decide)) BK117.out (by decide)) (fun k_ hk=>⟨hk.2,hk.1.2⟩))) (fun _ h_=>h_)));(case aF=>exact (fun k_ hk=>Kd.freshB (g:=gb117) (o:=.cells #[.string t112,.int .i64 t126,.slice Ao54 x118002_10.length co54] 24 (0,0)) (by (with_reducible repeat (first|refine qaH ?_ _|refine qaI ?_|refine qaG ?_ _));exact BK117.out) k_ hk));(case aO=>exact (by (with_reducible repeat (first|apply Kd.S_alloc|apply Kd.S_drewN|apply Kd.S_drew));exact Kd.S_mono HO_9.out (fun k_ hk=>⟨hk.2,fun e_=>hk.1 e_⟩)));(case aS=>exact (keep_size (w:=w) (g:=g) (row:=none) (by repeat (first|(with_reducible first|exact HK.out|apply qaQ.set_|apply qaV|apply qbA|apply qaU|refine qbK ?_ GW117.out _)|exact HK.out))));(case aL=>have:=LMc47.out;omega);intro v153 w53 ho hb hg hat;rw [← Ny152.out] at ho;have n0_:=Aside0.mk (blk_grown (g:=gb117) (o:=.cells #[.string t112,.int .i64 t126,.slice Ao54 x118002_10.length co54] 24 (0,0)) (by (with_reducible repeat (first|refine qaH ?_ _|refine qaI ?_|refine qaG ?_ _));exact BK117.out) hg (Kd.S_away HO_9.out (fun _ hk=>hk.2)));have n1_:=Aside0.mk (qaJ.grown (by repeat (first|(with_reducible first|exact HI0.out|apply qaJ.alloc|apply qaJ.drewN|apply qaJ.drew|apply qaJ.set_1|refine qaJ.far ?_ NB0_117.out _)|exact HI0.out)) hg (qaJ.own_neS HI0.out HO_9.out (by decide)));have n2_:=Aside0.mk (below_weaken (by repeat (first|(with_reducible first|exact HB.out|apply qaB|apply qaA|apply qaC|refine qaF ?_ (qaJ.ge HI0.out)|refine qaF ?_ GE117.out)|exact HB.out)) HL.out hb);have n3_:=Aside0.mk (qaQ.trans (by repeat (first|(with_reducible first|exact HK.out|apply qaQ.set_|apply qaV|apply qbA|apply qaU|refine qbK ?_ GW117.out _)|exact HK.out)) (qaQ.of_grown hg g) (Kd.S_base2 HO_9.out));have n4_:=Aside0.mk (ho);clear BK117;clear HI0;clear HB;clear HK;clear HO_9;clear HO_118002;have BK117:=n0_;have HI0:=n1_;have HB:=n2_;have HK:=n3_;have HO154:=n4_;clear n0_ n1_ n2_ n3_ n4_;clear ho hb hg hat;obtain ⟨Ao55,co55,eo55⟩:=Kd.S_slice HO154.out;subst eo55)|((with_reducible refine qaO (f:=34) rfl ?_);refine qbG (some 70) rfl rfl Tryd.func34 (by kernel_rfl) rfl #[.slice Ao55 y152.length co55] rfl (by (try simp only [List.map_toArray,List.map_cons,List.map_nil]);first|done|rfl|(simp only [List.length_drop,List.length_take];rfl)) ?_;(with_reducible refine (schedule_last.calls _ _ y152 t155 _ ?side1 ?side2 A48.out (glob_at HG_ (by repeat (first|(with_reducible first|exact HB.out|apply qaB|apply qaA|apply qaC|refine qaF ?_ (Aside0.out (by assumption)))|exact HB.out)))).mono ?_);(case side1=>repeat (first|exact (Kd.S_reads' HO154.out).2.2|(with_reducible refine Kd.C_alloc ?_ _)|(with_reducible refine Kd.C_drewN ?_ _)|(with_reducible refine Kd.C_drew ?_)));(case side2=>exact (Kd.S_reads' HO154.out).2.1);rintro e w56 ⟨rfl,hb⟩;refine ⟨_,rfl,?_⟩;have n0_:=Aside0.mk (Kd.S_below (by (with_reducible repeat (first|apply Kd.S_alloc|apply Kd.S_drewN|apply Kd.S_drew));exact HO154.out) hb);have n1_:=Aside0.mk (qaS (g:=gb117) (o:=.cells #[.string t112,.int .i64 t126,.slice Ao54 x118002_10.length co54] 24 (0,0)) (by (with_reducible repeat (first|refine qaH ?_ _|refine qaI ?_|refine qaG ?_ _));exact BK117.out) hb);have n2_:=Aside0.mk (qaJ.below (by repeat (first|(with_reducible first|exact HI0.out|apply qaJ.alloc|apply qaJ.drewN|apply qaJ.drew|apply qaJ.set_1|refine qaJ.far ?_ NB0_117.out _)|exact HI0.out)) hb);have n3_:=Aside0.mk (qaQ.trans (by repeat (first|(with_reducible first|exact HK.out|apply qaQ.set_|apply qaV|apply qbA|apply qaU|refine qbK ?_ GW117.out _)|exact HK.out)) (qaQ.of_below hb g none) (.inl rfl));have n4_:=Aside0.mk (qaN (by repeat (first|(with_reducible first|exact HB.out|apply qaB|apply qaA|apply qaC|refine qaF ?_ (qaJ.ge HI0.out)|refine qaF ?_ GE117.out)|exact HB.out)) hb);clear HO154;clear BK117;clear HI0;clear HK;clear HB;have HO154:=n0_;have BK117:=n1_;have HI0:=n2_;have HK:=n3_;have HB:=n4_;clear n0_ n1_ n2_ n3_ n4_;(try clear hb);(try clear hb2);(try clear hk);(try clear hi)))))
          go_roundg kj10
          case measure=>have:=HK1.out;have:=HJ10.out;omega
          case rel=>exact ⟨(y152),(x1000_10),(false),H',⟨by have:=HK1.out;have:=HJ10.out;omega⟩,⟨by (with_reducible repeat (first|apply Kd.S_alloc|apply Kd.S_drewN|apply Kd.S_drew));exact Kd.S_mono HO154.out (fun _ hk=>trivial)⟩,⟨by repeat (first|(with_reducible first|exact HI0.out|apply qaJ.alloc|apply qaJ.drewN|apply qaJ.drew|apply qaJ.set_1|refine qaJ.far ?_ NB0_117.out _)|exact HI0.out)⟩,⟨by repeat (first|(with_reducible first|exact HK.out|apply qaQ.set_|apply qaV|apply qbA|apply qaU|refine qbK ?_ GW117.out _)|exact HK.out)⟩,⟨by repeat (first|(with_reducible first|exact HB.out|apply qaB|apply qaA|apply qaC|refine qaF ?_ (qaJ.ge HI0.out)|refine qaF ?_ GE117.out)|exact HB.out)⟩⟩
         ·rw [if_neg c49] at H
          have c49b0:(t155 == 0)=false:=beq_eq_false_iff_ne.mpr c49
          have c49b1:(t155 != 0)=true:=bne_iff_ne.mpr c49
          simp only [Option.some.injEq,Prod.mk.injEq] at H
          obtain ⟨rfl,rfl,rfl,rfl,rfl⟩:=H
          obtain ⟨ASz57_0,cSz57_0,HGz57,hgz57,⟨HSz57_0,_⟩⟩:=HI0.out
          have hcz57_0:=cellS65_0 HGz57
          have hcz57_1:=cellS65_1 HGz57
          have hfz57_0:=qaD HGz57 0
          have hfz57_1:=qaD HGz57 1
          clear HGz57 hgz57
          have hnb58:=NB117_0.out
          have hnc58:=NB0_117.out
          have hcz59_0:wc.cell? ⟨gb117,0,none⟩=some (.string t112):=(qaE BK117.out 0).trans rfl
          have hcz59_1:wc.cell? ⟨gb117,1,none⟩=some (.int .i64 t126):=(qaE BK117.out 1).trans rfl
          have hcz59_2:wc.cell? ⟨gb117,2,none⟩=some (u118002):=(qaE BK117.out 2).trans rfl
          have hfz59_0:=qaD BK117.out 0
          have hfz59_1:=qaD BK117.out 1
          have hfz59_2:=qaD BK117.out 2
          obtain ⟨Ao61,co61,eo61⟩:=Kd.R_slice HO_118002.out
          subst eo61
          go_wp2_with (first|((with_reducible refine qcG (b:=.append) (xs:=#[.tmp 65,.tmp 67]) rfl ?_);at_builtin;refine Kd.S_append k24 w.heap.size rfl (.tmp 65) (.tmp 67) 25 24 (.agg #[(.string ⟨#[]⟩),(.int .i64 0),(.slice none 0 0)]) 48 rfl Tryd.underlying25 info24 rfl (by decide) (by omega) u9 x9_1 (⟨t112,t126,x118002_10⟩:S24) [.string t112,.int .i64 t126,.slice Ao61 x118002_10.length co61] (fun k_=>k_ ≠ gb117) (fun k_=>some k_=(.slice Ao61 x118002_10.length co61:Value).ownBlock) rfl rfl ?aP (fun k_ hk_=>((Kd.R_mono (ok':=fun k_=>((fun k_=>k_ ≠ gb117)) k_∧some k_ ≠ (u9:Value).ownBlock) (Kd.R_types (Kd.R_apart' (HO_118002.out) (Kd.S_typed HO_9.out) (by decide)) BK117.out (by decide)) (fun k_ hk=>⟨hk.2,hk.1.2⟩))).1 k_ hk_.symm) ?aF ?aO (Below.refl _ _) ?aS ?aL ?_;(case aP=>exact k24_mkM _ _ _ (⟨t112,t126,x118002_10⟩:S24) (Kd.R_mono (Kd.R_tight rfl (Kd.R_mono (ok':=fun k_=>((fun k_=>k_ ≠ gb117)) k_∧some k_ ≠ (u9:Value).ownBlock) (Kd.R_types (Kd.R_apart' (HO_118002.out) (Kd.S_typed HO_9.out) (by decide)) BK117.out (by decide)) (fun k_ hk=>⟨hk.2,hk.1.2⟩))) (fun _ h_=>h_)));(case aF=>exact (fun k_ hk=>Kd.freshB (g:=gb117) (o:=.cells #[.string t112,.int .i64 t126,.slice Ao61 x118002_10.length co61] 24 (0,0)) (by (with_reducible repeat (first|refine qaH ?_ _|refine qaI ?_|refine qaG ?_ _));exact BK117.out) k_ hk));(case aO=>exact (by (with_reducible repeat (first|apply Kd.S_alloc|apply Kd.S_drewN|apply Kd.S_drew));exact Kd.S_mono HO_9.out (fun k_ hk=>⟨hk.2,fun e_=>hk.1 e_⟩)));(case aS=>exact (keep_size (w:=w) (g:=g) (row:=none) (by repeat (first|(with_reducible first|exact HK.out|apply qaQ.set_|apply qaV|apply qbA|apply qaU|refine qbK ?_ GW117.out _)|exact HK.out))));(case aL=>have:=LMc47.out;omega);intro v153 w60 ho hb hg hat;rw [← Ny152.out] at ho;have n0_:=Aside0.mk (blk_grown (g:=gb117) (o:=.cells #[.string t112,.int .i64 t126,.slice Ao61 x118002_10.length co61] 24 (0,0)) (by (with_reducible repeat (first|refine qaH ?_ _|refine qaI ?_|refine qaG ?_ _));exact BK117.out) hg (Kd.S_away HO_9.out (fun _ hk=>hk.2)));have n1_:=Aside0.mk (qaJ.grown (by repeat (first|(with_reducible first|exact HI0.out|apply qaJ.alloc|apply qaJ.drewN|apply qaJ.drew|apply qaJ.set_1|refine qaJ.far ?_ NB0_117.out _)|exact HI0.out)) hg (qaJ.own_neS HI0.out HO_9.out (by decide)));have n2_:=Aside0.mk (below_weaken (by repeat (first|(with_reducible first|exact HB.out|apply qaB|apply qaA|apply qaC|refine qaF ?_ (qaJ.ge HI0.out)|refine qaF ?_ GE117.out)|exact HB.out)) HL.out hb);have n3_:=Aside0.mk (qaQ.trans (by repeat (first|(with_reducible first|exact HK.out|apply qaQ.set_|apply qaV|apply qbA|apply qaU|refine qbK ?_ GW117.out _)|exact HK.out)) (qaQ.of_grown hg g) (Kd.S_base2 HO_9.out));have n4_:=Aside0.mk (ho);clear BK117;clear HI0;clear HB;clear HK;clear HO_9;clear HO_118002;have BK117:=n0_;have HI0:=n1_;have HB:=n2_;have HK:=n3_;have HO154:=n4_;clear n0_ n1_ n2_ n3_ n4_;clear ho hb hg hat;obtain ⟨Ao62,co62,eo62⟩:=Kd.S_slice HO154.out;subst eo62)|((with_reducible refine qaO (f:=34) rfl ?_);refine qbG (some 70) rfl rfl Tryd.func34 (by kernel_rfl) rfl #[.slice Ao62 y152.length co62] rfl (by (try simp only [List.map_toArray,List.map_cons,List.map_nil]);first|done|rfl|(simp only [List.length_drop,List.length_take];rfl)) ?_;(with_reducible refine (schedule_last.calls _ _ y152 t155 _ ?side1 ?side2 A48.out (glob_at HG_ (by repeat (first|(with_reducible first|exact HB.out|apply qaB|apply qaA|apply qaC|refine qaF ?_ (Aside0.out (by assumption)))|exact HB.out)))).mono ?_);(case side1=>repeat (first|exact (Kd.S_reads' HO154.out).2.2|(with_reducible refine Kd.C_alloc ?_ _)|(with_reducible refine Kd.C_drewN ?_ _)|(with_reducible refine Kd.C_drew ?_)));(case side2=>exact (Kd.S_reads' HO154.out).2.1);rintro e w63 ⟨rfl,hb⟩;refine ⟨_,rfl,?_⟩;have n0_:=Aside0.mk (Kd.S_below (by (with_reducible repeat (first|apply Kd.S_alloc|apply Kd.S_drewN|apply Kd.S_drew));exact HO154.out) hb);have n1_:=Aside0.mk (qaS (g:=gb117) (o:=.cells #[.string t112,.int .i64 t126,.slice Ao61 x118002_10.length co61] 24 (0,0)) (by (with_reducible repeat (first|refine qaH ?_ _|refine qaI ?_|refine qaG ?_ _));exact BK117.out) hb);have n2_:=Aside0.mk (qaJ.below (by repeat (first|(with_reducible first|exact HI0.out|apply qaJ.alloc|apply qaJ.drewN|apply qaJ.drew|apply qaJ.set_1|refine qaJ.far ?_ NB0_117.out _)|exact HI0.out)) hb);have n3_:=Aside0.mk (qaQ.trans (by repeat (first|(with_reducible first|exact HK.out|apply qaQ.set_|apply qaV|apply qbA|apply qaU|refine qbK ?_ GW117.out _)|exact HK.out)) (qaQ.of_below hb g none) (.inl rfl));have n4_:=Aside0.mk (qaN (by repeat (first|(with_reducible first|exact HB.out|apply qaB|apply qaA|apply qaC|refine qaF ?_ (qaJ.ge HI0.out)|refine qaF ?_ GE117.out)|exact HB.out)) hb);clear HO154;clear BK117;clear HI0;clear HK;clear HB;have HO154:=n0_;have BK117:=n1_;have HI0:=n2_;have HK:=n3_;have HB:=n4_;clear n0_ n1_ n2_ n3_ n4_;(try clear hb);(try clear hb2);(try clear hk);(try clear hi)))
          try (repeat (go_quiet (fail);try go_wp2_with (first|((with_reducible refine qcG (b:=.append) (xs:=#[.tmp 65,.tmp 67]) rfl ?_);at_builtin;refine Kd.S_append k24 w.heap.size rfl (.tmp 65) (.tmp 67) 25 24 (.agg #[(.string ⟨#[]⟩),(.int .i64 0),(.slice none 0 0)]) 48 rfl Tryd.underlying25 info24 rfl (by decide) (by omega) u9 x9_1 (⟨t112,t126,x118002_10⟩:S24) [.string t112,.int .i64 t126,.slice Ao61 x118002_10.length co61] (fun k_=>k_ ≠ gb117) (fun k_=>some k_=(.slice Ao61 x118002_10.length co61:Value).ownBlock) rfl rfl ?aP (fun k_ hk_=>((Kd.R_mono (ok':=fun k_=>((fun k_=>k_ ≠ gb117)) k_∧some k_ ≠ (u9:Value).ownBlock) (Kd.R_types (Kd.R_apart' (HO_118002.out) (Kd.S_typed HO_9.out) (by decide)) BK117.out (by decide)) (fun k_ hk=>⟨hk.2,hk.1.2⟩))).1 k_ hk_.symm) ?aF ?aO (Below.refl _ _) ?aS ?aL ?_;(case aP=>exact k24_mkM _ _ _ (⟨t112,t126,x118002_10⟩:S24) (Kd.R_mono (Kd.R_tight rfl (Kd.R_mono (ok':=fun k_=>((fun k_=>k_ ≠ gb117)) k_∧some k_ ≠ (u9:Value).ownBlock) (Kd.R_types (Kd.R_apart' (HO_118002.out) (Kd.S_typed HO_9.out) (by decide)) BK117.out (by decide)) (fun k_ hk=>⟨hk.2,hk.1.2⟩))) (fun _ h_=>h_)));(case aF=>exact (fun k_ hk=>Kd.freshB (g:=gb117) (o:=.cells #[.string t112,.int .i64 t126,.slice Ao61 x118002_10.length co61] 24 (0,0)) (by (with_reducible repeat (first|refine qaH ?_ _|refine qaI ?_|refine qaG ?_ _));exact BK117.out) k_ hk));(case aO=>exact (by (with_reducible repeat (first|apply Kd.S_alloc|apply Kd.S_drewN|apply Kd.S_drew));exact Kd.S_mono HO_9.out (fun k_ hk=>⟨hk.2,fun e_=>hk.1 e_⟩)));(case aS=>exact (keep_size (w:=w) (g:=g) (row:=none) (by repeat (first|(with_reducible first|exact HK.out|apply qaQ.set_|apply qaV|apply qbA|apply qaU|refine qbK ?_ GW117.out _)|exact HK.out))));(case aL=>have:=LMc47.out;omega);intro v153 w60 ho hb hg hat;rw [← Ny152.out] at ho;have n0_:=Aside0.mk (blk_grown (g:=gb117) (o:=.cells #[.string t112,.int .i64 t126,.slice Ao61 x118002_10.length co61] 24 (0,0)) (by (with_reducible repeat (first|refine qaH ?_ _|refine qaI ?_|refine qaG ?_ _));exact BK117.out) hg (Kd.S_away HO_9.out (fun _ hk=>hk.2)));have n1_:=Aside0.mk (qaJ.grown (by repeat (first|(with_reducible first|exact HI0.out|apply qaJ.alloc|apply qaJ.drewN|apply qaJ.drew|apply qaJ.set_1|refine qaJ.far ?_ NB0_117.out _)|exact HI0.out)) hg (qaJ.own_neS HI0.out HO_9.out (by decide)));have n2_:=Aside0.mk (below_weaken (by repeat (first|(with_reducible first|exact HB.out|apply qaB|apply qaA|apply qaC|refine qaF ?_ (qaJ.ge HI0.out)|refine qaF ?_ GE117.out)|exact HB.out)) HL.out hb);have n3_:=Aside0.mk (qaQ.trans (by repeat (first|(with_reducible first|exact HK.out|apply qaQ.set_|apply qaV|apply qbA|apply qaU|refine qbK ?_ GW117.out _)|exact HK.out)) (qaQ.of_grown hg g) (Kd.S_base2 HO_9.out));have n4_:=Aside0.mk (ho);clear BK117;clear HI0;clear HB;clear HK;clear HO_9;clear HO_118002;have BK117:=n0_;have HI0:=n1_;have HB:=n2_;have HK:=n3_;have HO154:=n4_;clear n0_ n1_ n2_ n3_ n4_;clear ho hb hg hat;obtain ⟨Ao62,co62,eo62⟩:=Kd.S_slice HO154.out;subst eo62)|((with_reducible refine qaO (f:=34) rfl ?_);refine qbG (some 70) rfl rfl Tryd.func34 (by kernel_rfl) rfl #[.slice Ao62 y152.length co62] rfl (by (try simp only [List.map_toArray,List.map_cons,List.map_nil]);first|done|rfl|(simp only [List.length_drop,List.length_take];rfl)) ?_;(with_reducible refine (schedule_last.calls _ _ y152 t155 _ ?side1 ?side2 A48.out (glob_at HG_ (by repeat (first|(with_reducible first|exact HB.out|apply qaB|apply qaA|apply qaC|refine qaF ?_ (Aside0.out (by assumption)))|exact HB.out)))).mono ?_);(case side1=>repeat (first|exact (Kd.S_reads' HO154.out).2.2|(with_reducible refine Kd.C_alloc ?_ _)|(with_reducible refine Kd.C_drewN ?_ _)|(with_reducible refine Kd.C_drew ?_)));(case side2=>exact (Kd.S_reads' HO154.out).2.1);rintro e w63 ⟨rfl,hb⟩;refine ⟨_,rfl,?_⟩;have n0_:=Aside0.mk (Kd.S_below (by (with_reducible repeat (first|apply Kd.S_alloc|apply Kd.S_drewN|apply Kd.S_drew));exact HO154.out) hb);have n1_:=Aside0.mk (qaS (g:=gb117) (o:=.cells #[.string t112,.int .i64 t126,.slice Ao61 x118002_10.length co61] 24 (0,0)) (by (with_reducible repeat (first|refine qaH ?_ _|refine qaI ?_|refine qaG ?_ _));exact BK117.out) hb);have n2_:=Aside0.mk (qaJ.below (by repeat (first|(with_reducible first|exact HI0.out|apply qaJ.alloc|apply qaJ.drewN|apply qaJ.drew|apply qaJ.set_1|refine qaJ.far ?_ NB0_117.out _)|exact HI0.out)) hb);have n3_:=Aside0.mk (qaQ.trans (by repeat (first|(with_reducible first|exact HK.out|apply qaQ.set_|apply qaV|apply qbA|apply qaU|refine qbK ?_ GW117.out _)|exact HK.out)) (qaQ.of_below hb g none) (.inl rfl));have n4_:=Aside0.mk (qaN (by repeat (first|(with_reducible first|exact HB.out|apply qaB|apply qaA|apply qaC|refine qaF ?_ (qaJ.ge HI0.out)|refine qaF ?_ GE117.out)|exact HB.out)) hb);clear HO154;clear BK117;clear HI0;clear HK;clear HB;have HO154:=n0_;have BK117:=n1_;have HI0:=n2_;have HK:=n3_;have HB:=n4_;clear n0_ n1_ n2_ n3_ n4_;(try clear hb);(try clear hb2);(try clear hk);(try clear hi)))))
          go_ret3
          exact ⟨_,by first|rfl|(simp [qaL,qaM]<;>rfl)|(simp [*,qaL,qaM]<;>rfl),by first|exact Kd.S_nil _ _ _ _ _|exact Kd.N_nil _ _ _ _ _|exact Kd.V_nil _ _ _ _ _|exact Kd.Q_nil _ _ _ _ _|exact Kd.R_nil _ _ _ _ _,by repeat (first|(with_reducible first|exact HI0.out|apply qaJ.alloc|apply qaJ.drewN|apply qaJ.drew|apply qaJ.set_1|refine qaJ.far ?_ NB0_117.out _)|exact HI0.out),by repeat (first|(with_reducible first|exact HB.out|apply qaB|apply qaA|apply qaC|refine qaF ?_ (qaJ.ge HI0.out)|refine qaF ?_ GE117.out)|exact HB.out),by repeat (first|(with_reducible first|exact HK.out|apply qaQ.set_|apply qaV|apply qbA|apply qaU|refine qbK ?_ GW117.out _)|exact HK.out)⟩
        ·rw [if_neg c47] at H
         exact absurd H (by simp)
    ·rw [if_neg c5] at H
     exact absurd H (by simp)
end Go.Proofs.YtehdmplngmbnnaaDoor.P
namespace Go.Proofs.YtehdmplngmbnnaaDoor.P
open Go.RowKit Go.Proofs.YtehdmplngmbnnaaDoorW.PrintWords Go.Proofs.YtehdmplngmbnnaaDoorW.PrintLast
set_option linter.unusedVariables false
set_option linter.unusedSimpArgs false
def pFuel (a0:ByteArray):Nat:=10 * a0.size+100
def schedule_Parse.f (a0:ByteArray):Option (List S24 × Int × Int) :=
 (lexer_Scan.f (pFuel a0) a0).bind fun s=>if s.2.1=0 then (schedule_Parse_tail.f (pFuel a0) s.1 false).bind fun t=>some (t.1,t.2.1,t.2.2.1) else some ([],s.2.1,s.2.2)
theorem body_mono {P:Program} {fn:Func} {R R':Ending→World→Prop} {e:Exit} {a:Act} {w:World} (h:bodyPost P fn R e a w) (hr:∀ e w,R e w→R' e w):bodyPost P fn R' e a w:=by
 cases e with
 | normal=>exact ⟨h.1,h.2.imp fun v hv=>⟨hv.1,hr _ _ hv.2⟩⟩
 | ret=>exact ⟨h.1,h.2.imp fun v hv=>⟨hv.1,hr _ _ hv.2⟩⟩
 | panic chain=>exact ⟨h.1,hr _ _ h.2⟩
 | outgrown=>exact hr _ _ h
 | _=>exact h.elim
set_option maxHeartbeats 4000000 in
set_option maxRecDepth 100000 in
theorem schedule_Parse.calls (a0:ByteArray) (r1:List S24) (r2:Int) (r3:Int) (w:World) (h:schedule_Parse.f a0=some (r1,r2,r3)) (HG_:Aside0 (Glob w)) :
  Calls Tryd.prog 25 #[.string a0] w fun e w'=>∃ v0_:Value,e=.returned (.tuple #[v0_,.int .i64 r2,.int .i64 r3])∧Kd.S k24 24 w' w.heap.size (fun _=>True) v0_ r1∧Below w.heap.size w w':=by
 unfold schedule_Parse.f at h
 obtain ⟨⟨l,e1,at1⟩,a1,h⟩:=Option.bind_eq_some_iff.mp h
 have HS:=Aside0.mk a1
 have HH:=Aside0.mk h
 clear a1 h
 have hu65:=Tryd.underlying65
 go_enter Tryd.func25,Tryd.ntmps25
 go_wp2_with fail
 refine (lexer_Scan.calls (pFuel a0) a0 l e1 at1 _ HS.out).mono ?_
 rintro e w1 ⟨v0,rfl,hR,hb⟩
 obtain ⟨A,c,rfl,hlc,hC⟩:=Kd.R_reads hR
 have HC:=Aside0.mk hC
 have HLC:=Aside0.mk hlc
 have HB:=Aside0.mk hb
 clear hR hlc hC hb
 by_cases he:e1=0
 ·have hh:=HH.out
  simp only [if_pos he] at hh
  obtain ⟨⟨t1,t2,t3,t4,t5⟩,a2,hh⟩:=Option.bind_eq_some_iff.mp hh
  simp only [Option.some.injEq,Prod.mk.injEq] at hh
  obtain ⟨rfl,rfl,rfl⟩:=hh
  subst he
  have HT:=Aside0.mk a2
  clear a2 HH
  go_upto_region 4 with fail
  rename_i K4 hK4
  have HK4:=Aside0.mk hK4
  clear hK4
  have HI:Aside0 (qaJ w1 (w1.alloc (.cells #[.slice A l.length c,.bool false] 65)) w1.heap.size l false):=⟨⟨A,c,heap_alloc_new w1 _,Nat.le_refl _,HC.out,HLC.out⟩⟩
  have T:=Aside0.mk (schedule_Parse_tail.calls (pFuel a0) w1.heap.size l false t1 t2 t3 t4 t5 w1 _ HI.out (qaB (Below.refl _ w1) _) HT.out (glob_at HG_ HB.out))
  go_wp2_with fail
  refine HK4.out _ _ ?_
  refine wp_mono (T.out _ ?_ _ _ _ _ _ _ _ _ _ _ _ _ _ _ _ _ _ _ _ _ _ _ _ _ _ _ _ _ _ _ _ _ _ _ _ _ _ _ _ _ _ _ _ _ _ _ _ _ _ _ _ _ _ _ _ _ _ _ _ _ _ _ _ _ _ _ _ _ _ _ _ _ _ _ _) ?_
  ·kernel_rfl
  ·intro e a w' hp
   refine body_mono hp ?_
   rintro e w' ⟨v,rfl,hs,-,hb,-⟩
   exact ⟨v,rfl,Kd.S_lower hs (by have:=qaK HB.out;simp;omega),qaN HB.out hb⟩
 ·have hh:=HH.out
  simp only [if_neg he,Option.some.injEq,Prod.mk.injEq] at hh
  obtain ⟨rfl,rfl,rfl⟩:=hh
  have hq:(e1 != 0)=true:=by simp [he]
  clear HH
  go_wp2_with fail
  refine bodyPost_ret (results_tmp3 rfl _ _ _) rfl ?_
  exact ⟨_,rfl,Kd.S_nil _ _ _ _ _,HB.out⟩
end Go.Proofs.YtehdmplngmbnnaaDoor.P
namespace Go.Proofs.YtehdmplngmbnnaaDoor.P
open Go.RowKit Go.Proofs.YtehdmplngmbnnaaDoorW.PrintWords Go.Proofs.YtehdmplngmbnnaaDoorW.PrintLast Go.Proofs.YtehdmplngmbnnaaDoorW.PrintMore
attribute [local go_sem] qbV qbW qcC qcD qbQ qbR qbX qbY
attribute [local go_sem] qbL
set_option linter.unusedVariables false
set_option linter.unusedSimpArgs false
theorem eqA41 (d:Nat) (w:World) (x0 y0:Int) (x1 y1:Int) :
  (Op.equalIn (d+2) 41 (.agg #[.int .i64 x0,.int .i64 x1]) (.agg #[.int .i64 y0,.int .i64 y1])).run Tryd.prog w=.ok (x0 == y0 && (x1 == y1)) w:=by
 refine eqA_of Tryd.underlying41 (by kernel_rfl) ?_
 refine eqf_cons (by rfl) (by go_simp;rfl) (by go_simp;rfl) (by go_simp) ?_
 exact eqf_last (by rfl) (by go_simp;rfl) (by go_simp;rfl) (by go_simp)
theorem eqA52 (d:Nat) (w:World) (x0 y0:Int) (x1 y1:Int) (x2 y2:Int) (x3 y3:Int) :
  (Op.equalIn (d+2) 52 (.agg #[.int .i64 x0,.int .i64 x1,.int .i64 x2,.int .i64 x3]) (.agg #[.int .i64 y0,.int .i64 y1,.int .i64 y2,.int .i64 y3])).run Tryd.prog w=.ok (x0 == y0 && (x1 == y1 && (x2 == y2 && (x3 == y3)))) w:=by
 refine eqA_of Tryd.underlying52 (by kernel_rfl) ?_
 refine eqf_cons (by rfl) (by go_simp;rfl) (by go_simp;rfl) (by go_simp) ?_
 refine eqf_cons (by rfl) (by go_simp;rfl) (by go_simp;rfl) (by go_simp) ?_
 refine eqf_cons (by rfl) (by go_simp;rfl) (by go_simp;rfl) (by go_simp) ?_
 exact eqf_last (by rfl) (by go_simp;rfl) (by go_simp;rfl) (by go_simp)
end Go.Proofs.YtehdmplngmbnnaaDoor.P
namespace Go.Proofs.YtehdmplngmbnnaaDoor.P
open Go.RowKit Go.Proofs.YtehdmplngmbnnaaDoorW.PrintWords Go.Proofs.YtehdmplngmbnnaaDoorW.PrintLast Go.Proofs.YtehdmplngmbnnaaDoorW.PrintMore
attribute [local go_sem] qbV qbW qcC qcD qbQ qbR qbX qbY
attribute [local go_sem] qbL
set_option linter.unusedVariables false
set_option linter.unusedSimpArgs false
attribute [local go_sem high] eqA52
mutual
def sawmillref37_SameSchedule.j0:Nat→Bool→ByteArray→Int→List (S52)→ByteArray→Int→List (S52)→Option (Bool)
 | 0,_,_,_,_,_,_,_=>none
 | k+1,x26,x102000,x102001,x102002,x103000,x103001,x103002=>if x26=true then (some false) else (sawmillref37_SameSchedule.l0 k 0 x102000 x102001 x102002 x103000 x103001 x103002)
def sawmillref37_SameSchedule.l0:Nat→Int→ByteArray→Int→List (S52)→ByteArray→Int→List (S52)→Option (Bool)
 | 0,_,_,_,_,_,_,_=>none
 | k+1,x5,x102000,x102001,x102002,x103000,x103001,x103002=>if x5 < (x102002.length:Int) then (if 0≤x5 then (if x5 < (x103002.length:Int) then (if (!(((qbJ x102002 x5).f0) == ((qbJ x103002 x5).f0)) || (!(((qbJ x102002 x5).f1) == ((qbJ x103002 x5).f1)) || (!(((qbJ x102002 x5).f2) == ((qbJ x103002 x5).f2)) || (!(((qbJ x102002 x5).f3) == ((qbJ x103002 x5).f3))))))=true then (some false) else (sawmillref37_SameSchedule.l0 k (wrap64 (x5+1)) x102000 x102001 x102002 x103000 x103001 x103002)) else (none)) else (none)) else (some true)
end
def sawmillref37_SameSchedule.f (k:Nat) (a0_0:ByteArray) (a0_1:Int) (l0_2:List (S52)) (a1_0:ByteArray) (a1_1:Int) (l1_2:List (S52)):Option (Bool):=if a0_0.toList=a1_0.toList then (if a0_1=a1_1 then (sawmillref37_SameSchedule.j0 k ((l0_2.length:Int) != (l1_2.length:Int)) a0_0 a0_1 l0_2 a1_0 a1_1 l1_2) else (sawmillref37_SameSchedule.j0 k true a0_0 a0_1 l0_2 a1_0 a1_1 l1_2)) else (sawmillref37_SameSchedule.j0 k true a0_0 a0_1 l0_2 a1_0 a1_1 l1_2)
theorem sawmillref37_SameSchedule.mono_l:∀ k,(∀ y0 y1 y2 y3 y4 y5 y6,LeO (sawmillref37_SameSchedule.j0 k y0 y1 y2 y3 y4 y5 y6) (sawmillref37_SameSchedule.j0 (k+1) y0 y1 y2 y3 y4 y5 y6))∧(∀ y0 y1 y2 y3 y4 y5 y6,LeO (sawmillref37_SameSchedule.l0 k y0 y1 y2 y3 y4 y5 y6) (sawmillref37_SameSchedule.l0 (k+1) y0 y1 y2 y3 y4 y5 y6))
 | 0=>⟨fun _ _ _ _ _ _ _ r h=>by simp [sawmillref37_SameSchedule.j0] at h,fun _ _ _ _ _ _ _ r h=>by simp [sawmillref37_SameSchedule.l0] at h⟩
 | k+1=>by
  obtain ⟨ih0,ih1⟩:=sawmillref37_SameSchedule.mono_l k
  refine ⟨?_,?_⟩
  ·intro y0 y1 y2 y3 y4 y5 y6
   unfold sawmillref37_SameSchedule.j0
   repeat' first
   | (with_reducible exact ih0 _ _ _ _ _ _ _)
   | (with_reducible exact ih1 _ _ _ _ _ _ _)
   | (with_reducible exact LeO.refl _)
   | (with_reducible exact LeO.none _)
   | (with_reducible refine LeO.ite ?_ ?_)
   | (with_reducible refine LeO.bind ?_ (fun _=>?_))
   | exact ih0 _ _ _ _ _ _ _
   | exact ih1 _ _ _ _ _ _ _
   | exact LeO.none _
   | refine LeO.ite ?_ ?_
   | refine LeO.bind ?_ (fun _=>?_)
  ·intro y0 y1 y2 y3 y4 y5 y6
   unfold sawmillref37_SameSchedule.l0
   repeat' first
   | (with_reducible exact ih0 _ _ _ _ _ _ _)
   | (with_reducible exact ih1 _ _ _ _ _ _ _)
   | (with_reducible exact LeO.refl _)
   | (with_reducible exact LeO.none _)
   | (with_reducible refine LeO.ite ?_ ?_)
   | (with_reducible refine LeO.bind ?_ (fun _=>?_))
   | exact ih0 _ _ _ _ _ _ _
   | exact ih1 _ _ _ _ _ _ _
   | exact LeO.none _
   | refine LeO.ite ?_ ?_
   | refine LeO.bind ?_ (fun _=>?_)
theorem sawmillref37_SameSchedule.mono:∀ a0 a1 a2 a3 a4 a5 k,LeO (sawmillref37_SameSchedule.f k a0 a1 a2 a3 a4 a5) (sawmillref37_SameSchedule.f (k+1) a0 a1 a2 a3 a4 a5):=by
 intro a0 a1 a2 a3 a4 a5 k
 obtain ⟨ih0,ih1⟩:=sawmillref37_SameSchedule.mono_l k
 unfold sawmillref37_SameSchedule.f
 repeat' first
   | (with_reducible exact ih0 _ _ _ _ _ _ _)
   | (with_reducible exact ih1 _ _ _ _ _ _ _)
   | (with_reducible exact LeO.refl _)
   | (with_reducible exact LeO.none _)
   | (with_reducible refine LeO.ite ?_ ?_)
   | (with_reducible refine LeO.bind ?_ (fun _=>?_))
   | exact ih0 _ _ _ _ _ _ _
   | exact ih1 _ _ _ _ _ _ _
   | exact LeO.none _
   | refine LeO.ite ?_ ?_
   | refine LeO.bind ?_ (fun _=>?_)
set_option maxHeartbeats 8000000 in
set_option maxRecDepth 100000 in
theorem sawmillref37_SameSchedule.calls (k:Nat) (a0_0:ByteArray) (a0_1:Int) (A0_2:Option Addr) (c0_2:Nat) (l0_2:List (S52)) (a1_0:ByteArray) (a1_1:Int) (A1_2:Option Addr) (c1_2:Nat) (l1_2:List (S52)) (r:Bool) (w:World) (hr0_2:Kd.C k52 w A0_2 l0_2.length l0_2) (hc0_2:l0_2.length≤c0_2) (hr1_2:Kd.C k52 w A1_2 l1_2.length l1_2) (hc1_2:l1_2.length≤c1_2) (h:sawmillref37_SameSchedule.f k a0_0 a0_1 l0_2 a1_0 a1_1 l1_2=some r) :
  Calls Tryd.prog 18 #[.agg #[.string a0_0,.int .i64 a0_1,.slice A0_2 l0_2.length c0_2],.agg #[.string a1_0,.int .i64 a1_1,.slice A1_2 l1_2.length c1_2]] w fun e w'=>e=.returned (.bool r)∧Below w.heap.size w w':=by
 have hu24:=Tryd.underlying24
 have hu52:=Tryd.underlying52
 have HR0_2:=Aside0.mk hr0_2
 have HC0_2:=Aside0.mk hc0_2
 clear hr0_2 hc0_2
 have HR1_2:=Aside0.mk hr1_2
 have HC1_2:=Aside0.mk hc1_2
 clear hr1_2 hc1_2
 have HB:=Aside0.mk (Below.refl w.heap.size w)
 have H:(if a0_0.toList=a1_0.toList then (if a0_1=a1_1 then (sawmillref37_SameSchedule.j0 k ((l0_2.length:Int) != (l1_2.length:Int)) a0_0 a0_1 l0_2 a1_0 a1_1 l1_2) else (sawmillref37_SameSchedule.j0 k true a0_0 a0_1 l0_2 a1_0 a1_1 l1_2)) else (sawmillref37_SameSchedule.j0 k true a0_0 a0_1 l0_2 a1_0 a1_1 l1_2))=some r:=h
 clear h
 have HC3:=Aside0.mk H
 clear H
 go_enter Tryd.func18,Tryd.ntmps18
 go_upto_region 1 with (first|((with_reducible refine qbE (N:=2) rfl ?_);(try (refine qbU (by rfl) ?_;dsimp only));refine qbC ?hg (N:=2) ?hd (cs:=#[.string a0_0,.int .i64 a0_1,.slice A0_2 l0_2.length c0_2]) (t:=24) ?hr ?_;(case hd=>rfl);(case hg=>rfl);(case hr=>first|(go_simp;done)|(go_simp;rfl));intro gb101 hg w4 hbox hb;have n0_:=Aside0.mk (qaN (by repeat (first|(with_reducible first|exact HB.out|apply qaB|apply qaA|apply qaC)|exact HB.out)) hb);have n1_:=Aside0.mk (hbox);have n2_:=Aside0.mk ((by rw [hg];exact (qaK (by repeat (first|(with_reducible first|exact HB.out|apply qaB|apply qaA|apply qaC)|exact HB.out))):w.heap.size≤gb101));have n3_:=Aside0.mk ((by rw [hg];exact (qaK (by repeat (first|(with_reducible first|exact HB.out|apply qaB|apply qaA|apply qaC)|exact HB.out))):w.heap.size≤gb101));clear HB;have HB:=n0_;have BK101:=n1_;have GW101:=n2_;have GE101:=n3_;clear n0_ n1_ n2_ n3_;clear hb hbox hg)|((with_reducible refine qbE (N:=3) rfl ?_);(try (refine qbU (by rfl) ?_;dsimp only));refine qbC ?hg (N:=3) ?hd (cs:=#[.string a1_0,.int .i64 a1_1,.slice A1_2 l1_2.length c1_2]) (t:=24) ?hr ?_;(case hd=>rfl);(case hg=>rfl);(case hr=>first|(go_simp;done)|(go_simp;rfl));intro gb102 hg w5 hbox hb;have n0_:=Aside0.mk (qaS (g:=gb101) (o:=.cells #[.string a0_0,.int .i64 a0_1,.slice A0_2 l0_2.length c0_2] 24 (0,0)) (by (with_reducible repeat (first|refine qaH ?_ _|refine qaI ?_|refine qaG ?_ _));exact BK101.out) hb);have n1_:=Aside0.mk (qaN (by repeat (first|(with_reducible first|exact HB.out|apply qaB|apply qaA|apply qaC|refine qaF ?_ GE101.out)|exact HB.out)) hb);have n2_:=Aside0.mk (hbox);have n3_:=Aside0.mk ((by rw [hg];exact (qaK (by repeat (first|(with_reducible first|exact HB.out|apply qaB|apply qaA|apply qaC|refine qaF ?_ GE101.out)|exact HB.out))):w.heap.size≤gb102));have n4_:=Aside0.mk ((by rw [hg];exact (qaK (by repeat (first|(with_reducible first|exact HB.out|apply qaB|apply qaA|apply qaC|refine qaF ?_ GE101.out)|exact HB.out))):w.heap.size≤gb102));have n5_:=Aside0.mk ((by rw [hg];exact Nat.ne_of_lt (qbF (g:=gb101) (o:=.cells #[.string a0_0,.int .i64 a0_1,.slice A0_2 l0_2.length c0_2] 24 (0,0)) (by (with_reducible repeat (first|refine qaH ?_ _|refine qaI ?_|refine qaG ?_ _));exact BK101.out)):gb101 ≠ gb102));have n6_:=Aside0.mk ((by rw [hg];exact Nat.ne_of_gt (qbF (g:=gb101) (o:=.cells #[.string a0_0,.int .i64 a0_1,.slice A0_2 l0_2.length c0_2] 24 (0,0)) (by (with_reducible repeat (first|refine qaH ?_ _|refine qaI ?_|refine qaG ?_ _));exact BK101.out)):gb102 ≠ gb101));clear BK101;clear HB;have BK101:=n0_;have HB:=n1_;have BK102:=n2_;have GW102:=n3_;have GE102:=n4_;have NB101_102:=n5_;have NB102_101:=n6_;clear n0_ n1_ n2_ n3_ n4_ n5_ n6_;clear hb hbox hg))
 repeat (go_quiet (first|((with_reducible refine qbE (N:=2) rfl ?_);(try (refine qbU (by rfl) ?_;dsimp only));refine qbC ?hg (N:=2) ?hd (cs:=#[.string a0_0,.int .i64 a0_1,.slice A0_2 l0_2.length c0_2]) (t:=24) ?hr ?_;(case hd=>rfl);(case hg=>rfl);(case hr=>first|(go_simp;done)|(go_simp;rfl));intro gb101 hg w4 hbox hb;have n0_:=Aside0.mk (qaN (by repeat (first|(with_reducible first|exact HB.out|apply qaB|apply qaA|apply qaC)|exact HB.out)) hb);have n1_:=Aside0.mk (hbox);have n2_:=Aside0.mk ((by rw [hg];exact (qaK (by repeat (first|(with_reducible first|exact HB.out|apply qaB|apply qaA|apply qaC)|exact HB.out))):w.heap.size≤gb101));have n3_:=Aside0.mk ((by rw [hg];exact (qaK (by repeat (first|(with_reducible first|exact HB.out|apply qaB|apply qaA|apply qaC)|exact HB.out))):w.heap.size≤gb101));clear HB;have HB:=n0_;have BK101:=n1_;have GW101:=n2_;have GE101:=n3_;clear n0_ n1_ n2_ n3_;clear hb hbox hg)|((with_reducible refine qbE (N:=3) rfl ?_);(try (refine qbU (by rfl) ?_;dsimp only));refine qbC ?hg (N:=3) ?hd (cs:=#[.string a1_0,.int .i64 a1_1,.slice A1_2 l1_2.length c1_2]) (t:=24) ?hr ?_;(case hd=>rfl);(case hg=>rfl);(case hr=>first|(go_simp;done)|(go_simp;rfl));intro gb102 hg w5 hbox hb;have n0_:=Aside0.mk (qaS (g:=gb101) (o:=.cells #[.string a0_0,.int .i64 a0_1,.slice A0_2 l0_2.length c0_2] 24 (0,0)) (by (with_reducible repeat (first|refine qaH ?_ _|refine qaI ?_|refine qaG ?_ _));exact BK101.out) hb);have n1_:=Aside0.mk (qaN (by repeat (first|(with_reducible first|exact HB.out|apply qaB|apply qaA|apply qaC|refine qaF ?_ GE101.out)|exact HB.out)) hb);have n2_:=Aside0.mk (hbox);have n3_:=Aside0.mk ((by rw [hg];exact (qaK (by repeat (first|(with_reducible first|exact HB.out|apply qaB|apply qaA|apply qaC|refine qaF ?_ GE101.out)|exact HB.out))):w.heap.size≤gb102));have n4_:=Aside0.mk ((by rw [hg];exact (qaK (by repeat (first|(with_reducible first|exact HB.out|apply qaB|apply qaA|apply qaC|refine qaF ?_ GE101.out)|exact HB.out))):w.heap.size≤gb102));have n5_:=Aside0.mk ((by rw [hg];exact Nat.ne_of_lt (qbF (g:=gb101) (o:=.cells #[.string a0_0,.int .i64 a0_1,.slice A0_2 l0_2.length c0_2] 24 (0,0)) (by (with_reducible repeat (first|refine qaH ?_ _|refine qaI ?_|refine qaG ?_ _));exact BK101.out)):gb101 ≠ gb102));have n6_:=Aside0.mk ((by rw [hg];exact Nat.ne_of_gt (qbF (g:=gb101) (o:=.cells #[.string a0_0,.int .i64 a0_1,.slice A0_2 l0_2.length c0_2] 24 (0,0)) (by (with_reducible repeat (first|refine qaH ?_ _|refine qaI ?_|refine qaG ?_ _));exact BK101.out)):gb102 ≠ gb101));clear BK101;clear HB;have BK101:=n0_;have HB:=n1_;have BK102:=n2_;have GW102:=n3_;have GE102:=n4_;have NB101_102:=n5_;have NB102_101:=n6_;clear n0_ n1_ n2_ n3_ n4_ n5_ n6_;clear hb hbox hg));go_upto_region 1 with (first|((with_reducible refine qbE (N:=2) rfl ?_);(try (refine qbU (by rfl) ?_;dsimp only));refine qbC ?hg (N:=2) ?hd (cs:=#[.string a0_0,.int .i64 a0_1,.slice A0_2 l0_2.length c0_2]) (t:=24) ?hr ?_;(case hd=>rfl);(case hg=>rfl);(case hr=>first|(go_simp;done)|(go_simp;rfl));intro gb101 hg w4 hbox hb;have n0_:=Aside0.mk (qaN (by repeat (first|(with_reducible first|exact HB.out|apply qaB|apply qaA|apply qaC)|exact HB.out)) hb);have n1_:=Aside0.mk (hbox);have n2_:=Aside0.mk ((by rw [hg];exact (qaK (by repeat (first|(with_reducible first|exact HB.out|apply qaB|apply qaA|apply qaC)|exact HB.out))):w.heap.size≤gb101));have n3_:=Aside0.mk ((by rw [hg];exact (qaK (by repeat (first|(with_reducible first|exact HB.out|apply qaB|apply qaA|apply qaC)|exact HB.out))):w.heap.size≤gb101));clear HB;have HB:=n0_;have BK101:=n1_;have GW101:=n2_;have GE101:=n3_;clear n0_ n1_ n2_ n3_;clear hb hbox hg)|((with_reducible refine qbE (N:=3) rfl ?_);(try (refine qbU (by rfl) ?_;dsimp only));refine qbC ?hg (N:=3) ?hd (cs:=#[.string a1_0,.int .i64 a1_1,.slice A1_2 l1_2.length c1_2]) (t:=24) ?hr ?_;(case hd=>rfl);(case hg=>rfl);(case hr=>first|(go_simp;done)|(go_simp;rfl));intro gb102 hg w5 hbox hb;have n0_:=Aside0.mk (qaS (g:=gb101) (o:=.cells #[.string a0_0,.int .i64 a0_1,.slice A0_2 l0_2.length c0_2] 24 (0,0)) (by (with_reducible repeat (first|refine qaH ?_ _|refine qaI ?_|refine qaG ?_ _));exact BK101.out) hb);have n1_:=Aside0.mk (qaN (by repeat (first|(with_reducible first|exact HB.out|apply qaB|apply qaA|apply qaC|refine qaF ?_ GE101.out)|exact HB.out)) hb);have n2_:=Aside0.mk (hbox);have n3_:=Aside0.mk ((by rw [hg];exact (qaK (by repeat (first|(with_reducible first|exact HB.out|apply qaB|apply qaA|apply qaC|refine qaF ?_ GE101.out)|exact HB.out))):w.heap.size≤gb102));have n4_:=Aside0.mk ((by rw [hg];exact (qaK (by repeat (first|(with_reducible first|exact HB.out|apply qaB|apply qaA|apply qaC|refine qaF ?_ GE101.out)|exact HB.out))):w.heap.size≤gb102));have n5_:=Aside0.mk ((by rw [hg];exact Nat.ne_of_lt (qbF (g:=gb101) (o:=.cells #[.string a0_0,.int .i64 a0_1,.slice A0_2 l0_2.length c0_2] 24 (0,0)) (by (with_reducible repeat (first|refine qaH ?_ _|refine qaI ?_|refine qaG ?_ _));exact BK101.out)):gb101 ≠ gb102));have n6_:=Aside0.mk ((by rw [hg];exact Nat.ne_of_gt (qbF (g:=gb101) (o:=.cells #[.string a0_0,.int .i64 a0_1,.slice A0_2 l0_2.length c0_2] 24 (0,0)) (by (with_reducible repeat (first|refine qaH ?_ _|refine qaI ?_|refine qaG ?_ _));exact BK101.out)):gb102 ≠ gb101));clear BK101;clear HB;have BK101:=n0_;have HB:=n1_;have BK102:=n2_;have GW102:=n3_;have GE102:=n4_;have NB101_102:=n5_;have NB102_101:=n6_;clear n0_ n1_ n2_ n3_ n4_ n5_ n6_;clear hb hbox hg)))
 (try simp only [Act.put,List.setIfInBounds_toArray,List.set_cons_zero,List.set_cons_succ])
 go_cut [26] (fun v26 wc=>∃ (kq:Nat) (x26_2:Bool),v26=.bool x26_2∧Aside0 (sawmillref37_SameSchedule.j0 kq x26_2 a0_0 a0_1 l0_2 a1_0 a1_1 l1_2=some r)∧Aside0 (kq≤k)∧Aside0 (wc.heap[gb101]?=some (.cells #[.string a0_0,.int .i64 a0_1,(.slice A0_2 l0_2.length c0_2)] 24 (0,0)))∧Aside0 (wc.heap[gb102]?=some (.cells #[.string a1_0,.int .i64 a1_1,(.slice A1_2 l1_2.length c1_2)] 24 (0,0)))∧Aside0 (Below w.heap.size w wc))
 case first =>
  have H:=HC3.out
  clear HC3
  by_cases c6:a0_0.toList=a1_0.toList
  ·rw [if_pos c6] at H
   have c6b0:(a0_0.toList == a1_0.toList)=true:=beq_iff_eq.mpr c6
   have c6b1:(a0_0.toList != a1_0.toList)=false:=bne_eq_false_iff_eq.mpr c6
   clear c6
   (first|rw [c6b0]|(simp only [qaX,qaY];rw [c6b0])|skip)
   by_cases c7:a0_1=a1_1
   ·rw [if_pos c7] at H
    have c7b0:(a0_1 == a1_1)=true:=beq_iff_eq.mpr c7
    have c7b1:(a0_1 != a1_1)=false:=bne_eq_false_iff_eq.mpr c7
    clear c7
    have H':=Aside0.mk H
    clear H
    have hnb8:=NB101_102.out
    have hnc8:=NB102_101.out
    have hcz9_0:w5.cell? ⟨gb101,0,none⟩=some (.string a0_0):=(qaE BK101.out 0).trans rfl
    have hcz9_1:w5.cell? ⟨gb101,1,none⟩=some (.int .i64 a0_1):=(qaE BK101.out 1).trans rfl
    have hcz9_2:w5.cell? ⟨gb101,2,none⟩=some (.slice A0_2 l0_2.length c0_2):=(qaE BK101.out 2).trans rfl
    have hfz9_0:=qaD BK101.out 0
    have hfz9_1:=qaD BK101.out 1
    have hfz9_2:=qaD BK101.out 2
    have hcz10_0:w5.cell? ⟨gb102,0,none⟩=some (.string a1_0):=(qaE BK102.out 0).trans rfl
    have hcz10_1:w5.cell? ⟨gb102,1,none⟩=some (.int .i64 a1_1):=(qaE BK102.out 1).trans rfl
    have hcz10_2:w5.cell? ⟨gb102,2,none⟩=some (.slice A1_2 l1_2.length c1_2):=(qaE BK102.out 2).trans rfl
    have hfz10_0:=qaD BK102.out 0
    have hfz10_1:=qaD BK102.out 1
    have hfz10_2:=qaD BK102.out 2
    go_wp2
    repeat (go_quiet (fail);try go_wp2)
    go_meet
    case rel=>exact ⟨_,(((l0_2.length:Int) != (l1_2.length:Int))),(by first|rfl|(simp;done)|(simp [*];done)),H',⟨by first|omega|exact Nat.le_refl _⟩,⟨by (with_reducible repeat (first|refine qaH ?_ _|refine qaI ?_|refine qaG ?_ _));exact BK101.out⟩,⟨by (with_reducible repeat (first|refine qaH ?_ _|refine qaI ?_|refine qaG ?_ _));exact BK102.out⟩,⟨by repeat (first|(with_reducible first|exact HB.out|apply qaB|apply qaA|apply qaC|refine qaF ?_ GE101.out|refine qaF ?_ GE102.out)|exact HB.out)⟩⟩
   ·rw [if_neg c7] at H
    have c7b0:(a0_1 == a1_1)=false:=beq_eq_false_iff_ne.mpr c7
    have c7b1:(a0_1 != a1_1)=true:=bne_iff_ne.mpr c7
    have H':=Aside0.mk H
    clear H
    have hnb11:=NB101_102.out
    have hnc11:=NB102_101.out
    have hcz12_0:w5.cell? ⟨gb101,0,none⟩=some (.string a0_0):=(qaE BK101.out 0).trans rfl
    have hcz12_1:w5.cell? ⟨gb101,1,none⟩=some (.int .i64 a0_1):=(qaE BK101.out 1).trans rfl
    have hcz12_2:w5.cell? ⟨gb101,2,none⟩=some (.slice A0_2 l0_2.length c0_2):=(qaE BK101.out 2).trans rfl
    have hfz12_0:=qaD BK101.out 0
    have hfz12_1:=qaD BK101.out 1
    have hfz12_2:=qaD BK101.out 2
    have hcz13_0:w5.cell? ⟨gb102,0,none⟩=some (.string a1_0):=(qaE BK102.out 0).trans rfl
    have hcz13_1:w5.cell? ⟨gb102,1,none⟩=some (.int .i64 a1_1):=(qaE BK102.out 1).trans rfl
    have hcz13_2:w5.cell? ⟨gb102,2,none⟩=some (.slice A1_2 l1_2.length c1_2):=(qaE BK102.out 2).trans rfl
    have hfz13_0:=qaD BK102.out 0
    have hfz13_1:=qaD BK102.out 1
    have hfz13_2:=qaD BK102.out 2
    go_wp2
    repeat (go_quiet (fail);try go_wp2)
    go_meet
    case rel=>exact ⟨_,(true),(by first|rfl|(simp;done)|(simp [*];done)),H',⟨by first|omega|exact Nat.le_refl _⟩,⟨by (with_reducible repeat (first|refine qaH ?_ _|refine qaI ?_|refine qaG ?_ _));exact BK101.out⟩,⟨by (with_reducible repeat (first|refine qaH ?_ _|refine qaI ?_|refine qaG ?_ _));exact BK102.out⟩,⟨by repeat (first|(with_reducible first|exact HB.out|apply qaB|apply qaA|apply qaC|refine qaF ?_ GE101.out|refine qaF ?_ GE102.out)|exact HB.out)⟩⟩
  ·rw [if_neg c6] at H
   have c6b0:(a0_0.toList == a1_0.toList)=false:=beq_eq_false_iff_ne.mpr c6
   have c6b1:(a0_0.toList != a1_0.toList)=true:=bne_iff_ne.mpr c6
   (first|rw [c6b0]|(simp only [qaX,qaY];rw [c6b0])|skip)
   have H':=Aside0.mk H
   clear H
   have hnb14:=NB101_102.out
   have hnc14:=NB102_101.out
   have hcz15_0:w5.cell? ⟨gb101,0,none⟩=some (.string a0_0):=(qaE BK101.out 0).trans rfl
   have hcz15_1:w5.cell? ⟨gb101,1,none⟩=some (.int .i64 a0_1):=(qaE BK101.out 1).trans rfl
   have hcz15_2:w5.cell? ⟨gb101,2,none⟩=some (.slice A0_2 l0_2.length c0_2):=(qaE BK101.out 2).trans rfl
   have hfz15_0:=qaD BK101.out 0
   have hfz15_1:=qaD BK101.out 1
   have hfz15_2:=qaD BK101.out 2
   have hcz16_0:w5.cell? ⟨gb102,0,none⟩=some (.string a1_0):=(qaE BK102.out 0).trans rfl
   have hcz16_1:w5.cell? ⟨gb102,1,none⟩=some (.int .i64 a1_1):=(qaE BK102.out 1).trans rfl
   have hcz16_2:w5.cell? ⟨gb102,2,none⟩=some (.slice A1_2 l1_2.length c1_2):=(qaE BK102.out 2).trans rfl
   have hfz16_0:=qaD BK102.out 0
   have hfz16_1:=qaD BK102.out 1
   have hfz16_2:=qaD BK102.out 2
   go_wp2
   repeat (go_quiet (fail);try go_wp2)
   go_meet
   case rel=>exact ⟨_,(true),(by first|rfl|(simp;done)|(simp [*];done)),H',⟨by first|omega|exact Nat.le_refl _⟩,⟨by (with_reducible repeat (first|refine qaH ?_ _|refine qaI ?_|refine qaG ?_ _));exact BK101.out⟩,⟨by (with_reducible repeat (first|refine qaH ?_ _|refine qaI ?_|refine qaG ?_ _));exact BK102.out⟩,⟨by repeat (first|(with_reducible first|exact HB.out|apply qaB|apply qaA|apply qaC|refine qaF ?_ GE101.out|refine qaF ?_ GE102.out)|exact HB.out)⟩⟩
 case rest =>
  clear HC3
  try clear c1
  try clear p2
  try clear c6
  try clear c6b0
  try clear c6b1
  try clear c7
  try clear c7b0
  try clear c7b1
  try clear c8
  try clear c11
  try clear c14
  try clear hcz10_0
  try clear hcz10_1
  try clear hcz10_2
  try clear hcz12_0
  try clear hcz12_1
  try clear hcz12_2
  try clear hcz13_0
  try clear hcz13_1
  try clear hcz13_2
  try clear hcz15_0
  try clear hcz15_1
  try clear hcz15_2
  try clear hcz16_0
  try clear hcz16_1
  try clear hcz16_2
  try clear hcz9_0
  try clear hcz9_1
  try clear hcz9_2
  try clear hfz10_0
  try clear hfz10_1
  try clear hfz10_2
  try clear hfz12_0
  try clear hfz12_1
  try clear hfz12_2
  try clear hfz13_0
  try clear hfz13_1
  try clear hfz13_2
  try clear hfz15_0
  try clear hfz15_1
  try clear hfz15_2
  try clear hfz16_0
  try clear hfz16_1
  try clear hfz16_2
  try clear hfz9_0
  try clear hfz9_1
  try clear hfz9_2
  obtain ⟨kq,x26_2,rfl,HA,HJ2,BK101,BK102,HB⟩:=hcut
  cases kq with
  | zero=>exact absurd HA.out (by simp [sawmillref37_SameSchedule.j0])
  | succ kj2 =>
   have H:=HA.out
   clear HA
   simp only [sawmillref37_SameSchedule.j0] at H
   by_cases c17:x26_2=true
   ·subst c17
    have H1:(some false)=some r:=by rw [if_pos rfl] at H;exact H
    clear H
    have H:=H1
    clear H1
    obtain rfl:=Option.some.inj H
    go_wp2
    repeat (go_quiet (fail);try go_wp2)
    go_ret
    exact ⟨by first|rfl|(simp [qaL,qaM]<;>rfl)|(simp [*,qaL,qaM]<;>rfl),by repeat (first|(with_reducible first|exact HB.out|apply qaB|apply qaA|apply qaC|refine qaF ?_ GE101.out|refine qaF ?_ GE102.out)|exact HB.out)⟩
   ·replace c17:=Bool.eq_false_iff.mpr c17
    subst c17
    have H1:(sawmillref37_SameSchedule.l0 kj2 0 a0_0 a0_1 l0_2 a1_0 a1_1 l1_2)=some r:=by rw [if_neg (show ¬ (false=true) by decide)] at H;exact H
    clear H
    have H:=H1
    clear H1
    have H':=Aside0.mk H
    clear H
    go_wp2
    repeat (go_quiet (fail);try go_wp2)
    go_loopg [5] kj2 (fun kq v5 w'=>∃ (x5_2:Int),v5=.int .i64 x5_2∧Aside0 (sawmillref37_SameSchedule.l0 kq x5_2 a0_0 a0_1 l0_2 a1_0 a1_1 l1_2=some r)∧Aside0 (kq≤kj2)∧Aside0 (w'.heap[gb101]?=some (.cells #[.string a0_0,.int .i64 a0_1,(.slice A0_2 l0_2.length c0_2)] 24 (0,0)))∧Aside0 (w'.heap[gb102]?=some (.cells #[.string a1_0,.int .i64 a1_1,(.slice A1_2 l1_2.length c1_2)] 24 (0,0)))∧Aside0 (Below w.heap.size w w'))
    case atStart=>exact ⟨(0),(by first|rfl|(simp;done)|(simp [*];done)),H',⟨Nat.le_refl _⟩,⟨by (with_reducible repeat (first|refine qaH ?_ _|refine qaI ?_|refine qaG ?_ _));exact BK101.out⟩,⟨by (with_reducible repeat (first|refine qaH ?_ _|refine qaI ?_|refine qaG ?_ _));exact BK102.out⟩,⟨by repeat (first|(with_reducible first|exact HB.out|apply qaB|apply qaA|apply qaC|refine qaF ?_ GE101.out|refine qaF ?_ GE102.out)|exact HB.out)⟩⟩
    case round =>
     clear H'
     try clear c1
     try clear p2
     try clear c6
     try clear c6b0
     try clear c6b1
     try clear c7
     try clear c7b0
     try clear c7b1
     try clear c8
     try clear c11
     try clear c14
     try clear c17
     try clear hcz10_0
     try clear hcz10_1
     try clear hcz10_2
     try clear hcz12_0
     try clear hcz12_1
     try clear hcz12_2
     try clear hcz13_0
     try clear hcz13_1
     try clear hcz13_2
     try clear hcz15_0
     try clear hcz15_1
     try clear hcz15_2
     try clear hcz16_0
     try clear hcz16_1
     try clear hcz16_2
     try clear hcz9_0
     try clear hcz9_1
     try clear hcz9_2
     try clear hfz10_0
     try clear hfz10_1
     try clear hfz10_2
     try clear hfz12_0
     try clear hfz12_1
     try clear hfz12_2
     try clear hfz13_0
     try clear hfz13_1
     try clear hfz13_2
     try clear hfz15_0
     try clear hfz15_1
     try clear hfz15_2
     try clear hfz16_0
     try clear hfz16_1
     try clear hfz16_2
     try clear hfz9_0
     try clear hfz9_1
     try clear hfz9_2
     try clear p2
     obtain ⟨x5_2,rfl,HA,HK2,BK101,BK102,HB⟩:=hrel
     cases gk with
     | zero=>exact absurd HA.out (by simp [sawmillref37_SameSchedule.l0])
     | succ k2 =>
      have H:=HA.out
      clear HA
      simp only [sawmillref37_SameSchedule.l0] at H
      by_cases c18:x5_2 < (l0_2.length:Int)
      ·rw [if_pos c18] at H
       have c18b0:decide (x5_2 < (l0_2.length:Int))=true:=decide_eq_true c18
       clear c18
       by_cases c19:0≤x5_2
       ·rw [if_pos c19] at H
        have c19b0:decide (0≤x5_2)=true:=decide_eq_true c19
        clear c19
        by_cases c20:x5_2 < (l1_2.length:Int)
        ·rw [if_pos c20] at H
         have c20b0:decide (x5_2 < (l1_2.length:Int))=true:=decide_eq_true c20
         clear c20
         by_cases c21:(!(((qbJ l0_2 x5_2).f0) == ((qbJ l1_2 x5_2).f0)) || (!(((qbJ l0_2 x5_2).f1) == ((qbJ l1_2 x5_2).f1)) || (!(((qbJ l0_2 x5_2).f2) == ((qbJ l1_2 x5_2).f2)) || (!(((qbJ l0_2 x5_2).f3) == ((qbJ l1_2 x5_2).f3))))))=true
         ·rw [if_pos c21] at H
          have c21b0:(!(((qbJ l0_2 x5_2).f0) == ((qbJ l1_2 x5_2).f0)) || (!(((qbJ l0_2 x5_2).f1) == ((qbJ l1_2 x5_2).f1)) || (!(((qbJ l0_2 x5_2).f2) == ((qbJ l1_2 x5_2).f2)) || (!(((qbJ l0_2 x5_2).f3) == ((qbJ l1_2 x5_2).f3))))))=true:=c21
          clear c21
          obtain rfl:=Option.some.inj H
          have hnb22:=NB101_102.out
          have hnc22:=NB102_101.out
          have hcz23_0:wr.cell? ⟨gb101,0,none⟩=some (.string a0_0):=(qaE BK101.out 0).trans rfl
          have hcz23_1:wr.cell? ⟨gb101,1,none⟩=some (.int .i64 a0_1):=(qaE BK101.out 1).trans rfl
          have hcz23_2:wr.cell? ⟨gb101,2,none⟩=some (.slice A0_2 l0_2.length c0_2):=(qaE BK101.out 2).trans rfl
          have hfz23_0:=qaD BK101.out 0
          have hfz23_1:=qaD BK101.out 1
          have hfz23_2:=qaD BK101.out 2
          have p103:0≤(x5_2:Int):=of_decide_eq_true (by first|(with_reducible assumption)|assumption)
          have q103:x5_2 < (l0_2.length:Int):=of_decide_eq_true (by first|(with_reducible assumption)|assumption)
          obtain ⟨ad103,e103,hx103_0,hx103_1,hx103_2,hx103_3⟩:=at_T52 HR0_2.out x5_2 p103 q103
          cases e103
          replace hx103_0:=(HB.out.cell (World.block_lt_of_cell? w _ hx103_0)).trans hx103_0
          replace hx103_1:=(HB.out.cell (World.block_lt_of_cell? w _ hx103_1)).trans hx103_1
          replace hx103_2:=(HB.out.cell (World.block_lt_of_cell? w _ hx103_2)).trans hx103_2
          replace hx103_3:=(HB.out.cell (World.block_lt_of_cell? w _ hx103_3)).trans hx103_3
          replace p103:=eq_true p103
          replace q103:=eq_true q103
          have hcz24_0:wr.cell? ⟨gb102,0,none⟩=some (.string a1_0):=(qaE BK102.out 0).trans rfl
          have hcz24_1:wr.cell? ⟨gb102,1,none⟩=some (.int .i64 a1_1):=(qaE BK102.out 1).trans rfl
          have hcz24_2:wr.cell? ⟨gb102,2,none⟩=some (.slice A1_2 l1_2.length c1_2):=(qaE BK102.out 2).trans rfl
          have hfz24_0:=qaD BK102.out 0
          have hfz24_1:=qaD BK102.out 1
          have hfz24_2:=qaD BK102.out 2
          have p104:0≤(x5_2:Int):=of_decide_eq_true (by first|(with_reducible assumption)|assumption)
          have q104:x5_2 < (l1_2.length:Int):=of_decide_eq_true (by first|(with_reducible assumption)|assumption)
          obtain ⟨ad104,e104,hx104_0,hx104_1,hx104_2,hx104_3⟩:=at_T52 HR1_2.out x5_2 p104 q104
          cases e104
          replace hx104_0:=(HB.out.cell (World.block_lt_of_cell? w _ hx104_0)).trans hx104_0
          replace hx104_1:=(HB.out.cell (World.block_lt_of_cell? w _ hx104_1)).trans hx104_1
          replace hx104_2:=(HB.out.cell (World.block_lt_of_cell? w _ hx104_2)).trans hx104_2
          replace hx104_3:=(HB.out.cell (World.block_lt_of_cell? w _ hx104_3)).trans hx104_3
          replace p104:=eq_true p104
          replace q104:=eq_true q104
          go_wp2
          repeat (go_quiet (fail);try go_wp2)
          go_ret
          exact ⟨by first|rfl|(simp [qaL,qaM]<;>rfl)|(simp [*,qaL,qaM]<;>rfl),by repeat (first|(with_reducible first|exact HB.out|apply qaB|apply qaA|apply qaC|refine qaF ?_ GE101.out|refine qaF ?_ GE102.out)|exact HB.out)⟩
         ·rw [if_neg c21] at H
          have c21b0:(!(((qbJ l0_2 x5_2).f0) == ((qbJ l1_2 x5_2).f0)) || (!(((qbJ l0_2 x5_2).f1) == ((qbJ l1_2 x5_2).f1)) || (!(((qbJ l0_2 x5_2).f2) == ((qbJ l1_2 x5_2).f2)) || (!(((qbJ l0_2 x5_2).f3) == ((qbJ l1_2 x5_2).f3))))))=false:=by simpa using c21
          clear c21
          have H':=Aside0.mk H
          clear H
          have hnb25:=NB101_102.out
          have hnc25:=NB102_101.out
          have hcz26_0:wr.cell? ⟨gb101,0,none⟩=some (.string a0_0):=(qaE BK101.out 0).trans rfl
          have hcz26_1:wr.cell? ⟨gb101,1,none⟩=some (.int .i64 a0_1):=(qaE BK101.out 1).trans rfl
          have hcz26_2:wr.cell? ⟨gb101,2,none⟩=some (.slice A0_2 l0_2.length c0_2):=(qaE BK101.out 2).trans rfl
          have hfz26_0:=qaD BK101.out 0
          have hfz26_1:=qaD BK101.out 1
          have hfz26_2:=qaD BK101.out 2
          have p103:0≤(x5_2:Int):=of_decide_eq_true (by first|(with_reducible assumption)|assumption)
          have q103:x5_2 < (l0_2.length:Int):=of_decide_eq_true (by first|(with_reducible assumption)|assumption)
          obtain ⟨ad103,e103,hx103_0,hx103_1,hx103_2,hx103_3⟩:=at_T52 HR0_2.out x5_2 p103 q103
          cases e103
          replace hx103_0:=(HB.out.cell (World.block_lt_of_cell? w _ hx103_0)).trans hx103_0
          replace hx103_1:=(HB.out.cell (World.block_lt_of_cell? w _ hx103_1)).trans hx103_1
          replace hx103_2:=(HB.out.cell (World.block_lt_of_cell? w _ hx103_2)).trans hx103_2
          replace hx103_3:=(HB.out.cell (World.block_lt_of_cell? w _ hx103_3)).trans hx103_3
          replace p103:=eq_true p103
          replace q103:=eq_true q103
          have hcz27_0:wr.cell? ⟨gb102,0,none⟩=some (.string a1_0):=(qaE BK102.out 0).trans rfl
          have hcz27_1:wr.cell? ⟨gb102,1,none⟩=some (.int .i64 a1_1):=(qaE BK102.out 1).trans rfl
          have hcz27_2:wr.cell? ⟨gb102,2,none⟩=some (.slice A1_2 l1_2.length c1_2):=(qaE BK102.out 2).trans rfl
          have hfz27_0:=qaD BK102.out 0
          have hfz27_1:=qaD BK102.out 1
          have hfz27_2:=qaD BK102.out 2
          have p104:0≤(x5_2:Int):=of_decide_eq_true (by first|(with_reducible assumption)|assumption)
          have q104:x5_2 < (l1_2.length:Int):=of_decide_eq_true (by first|(with_reducible assumption)|assumption)
          obtain ⟨ad104,e104,hx104_0,hx104_1,hx104_2,hx104_3⟩:=at_T52 HR1_2.out x5_2 p104 q104
          cases e104
          replace hx104_0:=(HB.out.cell (World.block_lt_of_cell? w _ hx104_0)).trans hx104_0
          replace hx104_1:=(HB.out.cell (World.block_lt_of_cell? w _ hx104_1)).trans hx104_1
          replace hx104_2:=(HB.out.cell (World.block_lt_of_cell? w _ hx104_2)).trans hx104_2
          replace hx104_3:=(HB.out.cell (World.block_lt_of_cell? w _ hx104_3)).trans hx104_3
          replace p104:=eq_true p104
          replace q104:=eq_true q104
          go_wp2
          repeat (go_quiet (fail);try go_wp2)
          go_roundg k2
          case measure=>have:=HJ2.out;have:=HK2.out;omega
          case rel=>exact ⟨(wrap64 (x5_2+1)),(by first|rfl|(simp;done)|(simp [*];done)),H',⟨by have:=HJ2.out;have:=HK2.out;omega⟩,⟨by (with_reducible repeat (first|refine qaH ?_ _|refine qaI ?_|refine qaG ?_ _));exact BK101.out⟩,⟨by (with_reducible repeat (first|refine qaH ?_ _|refine qaI ?_|refine qaG ?_ _));exact BK102.out⟩,⟨by repeat (first|(with_reducible first|exact HB.out|apply qaB|apply qaA|apply qaC|refine qaF ?_ GE101.out|refine qaF ?_ GE102.out)|exact HB.out)⟩⟩
        ·rw [if_neg c20] at H
         exact absurd H (by simp)
       ·rw [if_neg c19] at H
        exact absurd H (by simp)
      ·rw [if_neg c18] at H
       have c18b0:decide (x5_2 < (l0_2.length:Int))=false:=decide_eq_false c18
       clear c18
       obtain rfl:=Option.some.inj H
       have hnb28:=NB101_102.out
       have hnc28:=NB102_101.out
       have hcz29_0:wr.cell? ⟨gb101,0,none⟩=some (.string a0_0):=(qaE BK101.out 0).trans rfl
       have hcz29_1:wr.cell? ⟨gb101,1,none⟩=some (.int .i64 a0_1):=(qaE BK101.out 1).trans rfl
       have hcz29_2:wr.cell? ⟨gb101,2,none⟩=some (.slice A0_2 l0_2.length c0_2):=(qaE BK101.out 2).trans rfl
       have hfz29_0:=qaD BK101.out 0
       have hfz29_1:=qaD BK101.out 1
       have hfz29_2:=qaD BK101.out 2
       go_wp2
       repeat (go_quiet (fail);try go_wp2)
       go_ret
       exact ⟨by first|rfl|(simp [qaL,qaM]<;>rfl)|(simp [*,qaL,qaM]<;>rfl),by repeat (first|(with_reducible first|exact HB.out|apply qaB|apply qaA|apply qaC|refine qaF ?_ GE101.out|refine qaF ?_ GE102.out)|exact HB.out)⟩
end Go.Proofs.YtehdmplngmbnnaaDoor.P
namespace Go.Proofs.YtehdmplngmbnnaaDoor.P
open Go.RowKit Go.Proofs.YtehdmplngmbnnaaDoorW.PrintWords Go.Proofs.YtehdmplngmbnnaaDoorW.PrintLast Go.Proofs.YtehdmplngmbnnaaDoorW.PrintMore
attribute [local go_sem] qbV qbW qcC qcD qbQ qbR qbX qbY
attribute [local go_sem] qbL
set_option linter.unusedVariables false
set_option linter.unusedSimpArgs false
def schedule_Ends.j0:Nat→Int→Int→Int→Bool→ByteArray→Int→List (S52)→Option (Int × Bool)
 | 0,_,_,_,_,_,_,_=>none
 | k+1,x1,x2,x3,x21,x102000,x102001,x102002=>if x21=true then (some (0,false)) else (if 0≤x1 then (if x1 < (x102002.length:Int) then (if ((qbJ x102002 x1).f0) > 0 then (if ((qbJ x102002 x1).f1) > 0 then (if x3≤((qbJ x102002 x1).f0) then (some (wrap64 (x1+1),true)) else (if x2 ≥ ((qbJ x102002 x1).f1) then (some (wrap64 (x1+1),true)) else (some (x1,false)))) else (if x3≤((qbJ x102002 x1).f0) then (some (wrap64 (x1+1),true)) else (some (x1,false)))) else (if ((qbJ x102002 x1).f1) > 0 then (if x2 ≥ ((qbJ x102002 x1).f1) then (some (wrap64 (x1+1),true)) else (some (x1,false))) else (some (x1,false)))) else (none)) else (none))
def schedule_Ends.f (k:Nat) (a0_0:ByteArray) (a0_1:Int) (l0_2:List (S52)) (a1:Int) (a2:Int) (a3:Int):Option (Int × Bool):=if a1 < 0 then (schedule_Ends.j0 k a1 a2 a3 true a0_0 a0_1 l0_2) else (schedule_Ends.j0 k a1 a2 a3 (decide (a1 ≥ (l0_2.length:Int))) a0_0 a0_1 l0_2)
theorem schedule_Ends.mono_l:∀ k,(∀ y0 y1 y2 y3 y4 y5 y6,LeO (schedule_Ends.j0 k y0 y1 y2 y3 y4 y5 y6) (schedule_Ends.j0 (k+1) y0 y1 y2 y3 y4 y5 y6))
 | 0=>fun _ _ _ _ _ _ _ r h=>by simp [schedule_Ends.j0] at h
 | k+1=>by
  have ih0:=schedule_Ends.mono_l k
  ·intro y0 y1 y2 y3 y4 y5 y6
   unfold schedule_Ends.j0
   repeat' first
   | (with_reducible exact ih0 _ _ _ _ _ _ _)
   | (with_reducible exact LeO.refl _)
   | (with_reducible exact LeO.none _)
   | (with_reducible refine LeO.ite ?_ ?_)
   | (with_reducible refine LeO.bind ?_ (fun _=>?_))
   | exact ih0 _ _ _ _ _ _ _
   | exact LeO.none _
   | refine LeO.ite ?_ ?_
   | refine LeO.bind ?_ (fun _=>?_)
theorem schedule_Ends.mono:∀ a0 a1 a2 a3 a4 a5 k,LeO (schedule_Ends.f k a0 a1 a2 a3 a4 a5) (schedule_Ends.f (k+1) a0 a1 a2 a3 a4 a5):=by
 intro a0 a1 a2 a3 a4 a5 k
 have ih0:=schedule_Ends.mono_l k
 unfold schedule_Ends.f
 repeat' first
   | (with_reducible exact ih0 _ _ _ _ _ _ _)
   | (with_reducible exact LeO.refl _)
   | (with_reducible exact LeO.none _)
   | (with_reducible refine LeO.ite ?_ ?_)
   | (with_reducible refine LeO.bind ?_ (fun _=>?_))
   | exact ih0 _ _ _ _ _ _ _
   | exact LeO.none _
   | refine LeO.ite ?_ ?_
   | refine LeO.bind ?_ (fun _=>?_)
set_option maxHeartbeats 8000000 in
set_option maxRecDepth 100000 in
theorem schedule_Ends.calls (k:Nat) (a0_0:ByteArray) (a0_1:Int) (A0_2:Option Addr) (c0_2:Nat) (l0_2:List (S52)) (a1:Int) (a2:Int) (a3:Int) (r1:Int) (r2:Bool) (w:World) (hr0_2:Kd.C k52 w A0_2 l0_2.length l0_2) (hc0_2:l0_2.length≤c0_2) (h:schedule_Ends.f k a0_0 a0_1 l0_2 a1 a2 a3=some (r1,r2)) :
  Calls Tryd.prog 19 #[.agg #[.string a0_0,.int .i64 a0_1,.slice A0_2 l0_2.length c0_2],.int .i64 a1,.int .i64 a2,.int .i64 a3] w fun e w'=>e=.returned (.tuple #[.int .i64 r1,.bool r2])∧Below w.heap.size w w':=by
 have hu24:=Tryd.underlying24
 have hu52:=Tryd.underlying52
 have HR0_2:=Aside0.mk hr0_2
 have HC0_2:=Aside0.mk hc0_2
 clear hr0_2 hc0_2
 have HB:=Aside0.mk (Below.refl w.heap.size w)
 have H:(if a1 < 0 then (schedule_Ends.j0 k a1 a2 a3 true a0_0 a0_1 l0_2) else (schedule_Ends.j0 k a1 a2 a3 (decide (a1 ≥ (l0_2.length:Int))) a0_0 a0_1 l0_2))=some (r1,r2):=h
 clear h
 have HC5:=Aside0.mk H
 clear H
 go_enter Tryd.func19,Tryd.ntmps19
 go_upto_region 1 with (first|((with_reducible refine qbE (N:=4) rfl ?_);(try (refine qbU (by rfl) ?_;dsimp only));refine qbC ?hg (N:=4) ?hd (cs:=#[.string a0_0,.int .i64 a0_1,.slice A0_2 l0_2.length c0_2]) (t:=24) ?hr ?_;(case hd=>rfl);(case hg=>rfl);(case hr=>first|(go_simp;done)|(go_simp;rfl));intro gb101 hg w6 hbox hb;have n0_:=Aside0.mk (qaN (by repeat (first|(with_reducible first|exact HB.out|apply qaB|apply qaA|apply qaC)|exact HB.out)) hb);have n1_:=Aside0.mk (hbox);have n2_:=Aside0.mk ((by rw [hg];exact (qaK (by repeat (first|(with_reducible first|exact HB.out|apply qaB|apply qaA|apply qaC)|exact HB.out))):w.heap.size≤gb101));have n3_:=Aside0.mk ((by rw [hg];exact (qaK (by repeat (first|(with_reducible first|exact HB.out|apply qaB|apply qaA|apply qaC)|exact HB.out))):w.heap.size≤gb101));clear HB;have HB:=n0_;have BK101:=n1_;have GW101:=n2_;have GE101:=n3_;clear n0_ n1_ n2_ n3_;clear hb hbox hg))
 (try simp only [Act.put,List.setIfInBounds_toArray,List.set_cons_zero,List.set_cons_succ])
 go_cut [21] (fun v21 wc=>∃ (kq:Nat) (x21_4:Bool),v21=.bool x21_4∧Aside0 (schedule_Ends.j0 kq a1 a2 a3 x21_4 a0_0 a0_1 l0_2=some (r1,r2))∧Aside0 (kq≤k)∧Aside0 (wc.heap[gb101]?=some (.cells #[.string a0_0,.int .i64 a0_1,(.slice A0_2 l0_2.length c0_2)] 24 (0,0)))∧Aside0 (Below w.heap.size w wc))
 case first =>
  have H:=HC5.out
  clear HC5
  by_cases c7:a1 < 0
  ·rw [if_pos c7] at H
   have c7b0:decide (a1 < 0)=true:=decide_eq_true c7
   clear c7
   (first|rw [c7b0]|(simp only [qaX,qaY];rw [c7b0])|skip)
   have H':=Aside0.mk H
   clear H
   go_wp2
   go_meet
   case rel=>exact ⟨_,(true),(by first|rfl|(simp;done)|(simp [*];done)),H',⟨by first|omega|exact Nat.le_refl _⟩,⟨by (with_reducible repeat (first|refine qaH ?_ _|refine qaI ?_|refine qaG ?_ _));exact BK101.out⟩,⟨by repeat (first|(with_reducible first|exact HB.out|apply qaB|apply qaA|apply qaC|refine qaF ?_ GE101.out)|exact HB.out)⟩⟩
  ·rw [if_neg c7] at H
   have c7b0:decide (a1 < 0)=false:=decide_eq_false c7
   clear c7
   (first|rw [c7b0]|(simp only [qaX,qaY];rw [c7b0])|skip)
   have H':=Aside0.mk H
   clear H
   have hcz8_0:w6.cell? ⟨gb101,0,none⟩=some (.string a0_0):=(qaE BK101.out 0).trans rfl
   have hcz8_1:w6.cell? ⟨gb101,1,none⟩=some (.int .i64 a0_1):=(qaE BK101.out 1).trans rfl
   have hcz8_2:w6.cell? ⟨gb101,2,none⟩=some (.slice A0_2 l0_2.length c0_2):=(qaE BK101.out 2).trans rfl
   have hfz8_0:=qaD BK101.out 0
   have hfz8_1:=qaD BK101.out 1
   have hfz8_2:=qaD BK101.out 2
   go_wp2
   go_meet
   case rel=>exact ⟨_,(decide (a1 ≥ (l0_2.length:Int))),(by first|rfl|(simp;done)|(simp [*];done)),H',⟨by first|omega|exact Nat.le_refl _⟩,⟨by (with_reducible repeat (first|refine qaH ?_ _|refine qaI ?_|refine qaG ?_ _));exact BK101.out⟩,⟨by repeat (first|(with_reducible first|exact HB.out|apply qaB|apply qaA|apply qaC|refine qaF ?_ GE101.out)|exact HB.out)⟩⟩
 case rest =>
  clear HC5
  try clear c1
  try clear p2
  try clear c7
  try clear c7b0
  try clear hcz8_0
  try clear hcz8_1
  try clear hcz8_2
  try clear hfz8_0
  try clear hfz8_1
  try clear hfz8_2
  obtain ⟨kq,x21_4,rfl,HA,HJ4,BK101,HB⟩:=hcut
  cases kq with
  | zero=>exact absurd HA.out (by simp [schedule_Ends.j0])
  | succ kj4 =>
   have H:=HA.out
   clear HA
   simp only [schedule_Ends.j0] at H
   by_cases c9:x21_4=true
   ·subst c9
    have H1:(some (0,false))=some (r1,r2):=by rw [if_pos rfl] at H;exact H
    clear H
    have H:=H1
    clear H1
    simp only [Option.some.injEq,Prod.mk.injEq] at H
    obtain ⟨rfl,rfl⟩:=H
    go_wp2
    go_ret2
    exact ⟨by first|rfl|(simp [qaL,qaM]<;>rfl)|(simp [*,qaL,qaM]<;>rfl),by repeat (first|(with_reducible first|exact HB.out|apply qaB|apply qaA|apply qaC|refine qaF ?_ GE101.out)|exact HB.out)⟩
   ·replace c9:=Bool.eq_false_iff.mpr c9
    subst c9
    have H1:(if 0≤a1 then (if a1 < (l0_2.length:Int) then (if ((qbJ l0_2 a1).f0) > 0 then (if ((qbJ l0_2 a1).f1) > 0 then (if a3≤((qbJ l0_2 a1).f0) then (some (wrap64 (a1+1),true)) else (if a2 ≥ ((qbJ l0_2 a1).f1) then (some (wrap64 (a1+1),true)) else (some (a1,false)))) else (if a3≤((qbJ l0_2 a1).f0) then (some (wrap64 (a1+1),true)) else (some (a1,false)))) else (if ((qbJ l0_2 a1).f1) > 0 then (if a2 ≥ ((qbJ l0_2 a1).f1) then (some (wrap64 (a1+1),true)) else (some (a1,false))) else (some (a1,false)))) else (none)) else (none))=some (r1,r2):=by rw [if_neg (show ¬ (false=true) by decide)] at H;exact H
    clear H
    have H:=H1
    clear H1
    by_cases c10:0≤a1
    ·rw [if_pos c10] at H
     have c10b0:decide (0≤a1)=true:=decide_eq_true c10
     clear c10
     by_cases c11:a1 < (l0_2.length:Int)
     ·rw [if_pos c11] at H
      have c11b0:decide (a1 < (l0_2.length:Int))=true:=decide_eq_true c11
      clear c11
      by_cases c12:((qbJ l0_2 a1).f0) > 0
      ·rw [if_pos c12] at H
       have c12b0:decide (0 < ((qbJ l0_2 a1).f0))=true:=decide_eq_true c12
       clear c12
       by_cases c13:((qbJ l0_2 a1).f1) > 0
       ·rw [if_pos c13] at H
        have c13b0:decide (0 < ((qbJ l0_2 a1).f1))=true:=decide_eq_true c13
        clear c13
        by_cases c14:a3≤((qbJ l0_2 a1).f0)
        ·rw [if_pos c14] at H
         have c14b0:decide (a3≤((qbJ l0_2 a1).f0))=true:=decide_eq_true c14
         clear c14
         simp only [Option.some.injEq,Prod.mk.injEq] at H
         obtain ⟨rfl,rfl⟩:=H
         have hcz15_0:wc.cell? ⟨gb101,0,none⟩=some (.string a0_0):=(qaE BK101.out 0).trans rfl
         have hcz15_1:wc.cell? ⟨gb101,1,none⟩=some (.int .i64 a0_1):=(qaE BK101.out 1).trans rfl
         have hcz15_2:wc.cell? ⟨gb101,2,none⟩=some (.slice A0_2 l0_2.length c0_2):=(qaE BK101.out 2).trans rfl
         have hfz15_0:=qaD BK101.out 0
         have hfz15_1:=qaD BK101.out 1
         have hfz15_2:=qaD BK101.out 2
         have p102:0≤(a1:Int):=of_decide_eq_true (by first|(with_reducible assumption)|assumption)
         have q102:a1 < (l0_2.length:Int):=of_decide_eq_true (by first|(with_reducible assumption)|assumption)
         obtain ⟨ad102,e102,hx102_0,hx102_1,hx102_2,hx102_3⟩:=at_T52 HR0_2.out a1 p102 q102
         cases e102
         replace hx102_0:=(HB.out.cell (World.block_lt_of_cell? w _ hx102_0)).trans hx102_0
         replace hx102_1:=(HB.out.cell (World.block_lt_of_cell? w _ hx102_1)).trans hx102_1
         replace hx102_2:=(HB.out.cell (World.block_lt_of_cell? w _ hx102_2)).trans hx102_2
         replace hx102_3:=(HB.out.cell (World.block_lt_of_cell? w _ hx102_3)).trans hx102_3
         replace p102:=eq_true p102
         replace q102:=eq_true q102
         go_wp2_with (first|((with_reducible refine qbE (N:=10) rfl ?_);(try (refine qbU (by rfl) ?_;dsimp only));refine qbC ?hg (N:=10) ?hd (cs:=#[.int .i64 0,.int .i64 0,.int .i64 0,.int .i64 0]) (t:=52) ?hr ?_;(case hd=>rfl);(case hg=>rfl);(case hr=>first|(go_simp;done)|(go_simp;rfl));intro gb103 hg w16 hbox hb;have n0_:=Aside0.mk (qaS (g:=gb101) (o:=.cells #[.string a0_0,.int .i64 a0_1,.slice (some ad102) l0_2.length c0_2] 24 (0,0)) (by (with_reducible repeat (first|refine qaH ?_ _|refine qaI ?_|refine qaG ?_ _));exact BK101.out) hb);have n1_:=Aside0.mk (qaN (by repeat (first|(with_reducible first|exact HB.out|apply qaB|apply qaA|apply qaC|refine qaF ?_ GE101.out)|exact HB.out)) hb);have n2_:=Aside0.mk (hbox);have n3_:=Aside0.mk ((by rw [hg];exact (qaK (by repeat (first|(with_reducible first|exact HB.out|apply qaB|apply qaA|apply qaC|refine qaF ?_ GE101.out)|exact HB.out))):w.heap.size≤gb103));have n4_:=Aside0.mk ((by rw [hg];exact (qaK (by repeat (first|(with_reducible first|exact HB.out|apply qaB|apply qaA|apply qaC|refine qaF ?_ GE101.out)|exact HB.out))):w.heap.size≤gb103));have n5_:=Aside0.mk ((by rw [hg];exact Nat.ne_of_lt (qbF (g:=gb101) (o:=.cells #[.string a0_0,.int .i64 a0_1,.slice (some ad102) l0_2.length c0_2] 24 (0,0)) (by (with_reducible repeat (first|refine qaH ?_ _|refine qaI ?_|refine qaG ?_ _));exact BK101.out)):gb101 ≠ gb103));have n6_:=Aside0.mk ((by rw [hg];exact Nat.ne_of_gt (qbF (g:=gb101) (o:=.cells #[.string a0_0,.int .i64 a0_1,.slice (some ad102) l0_2.length c0_2] 24 (0,0)) (by (with_reducible repeat (first|refine qaH ?_ _|refine qaI ?_|refine qaG ?_ _));exact BK101.out)):gb103 ≠ gb101));clear BK101;clear HB;have BK101:=n0_;have HB:=n1_;have BK103:=n2_;have GW103:=n3_;have GE103:=n4_;have NB101_103:=n5_;have NB103_101:=n6_;clear n0_ n1_ n2_ n3_ n4_ n5_ n6_;clear hb hbox hg;have hnb17:=NB103_101.out;have hnc17:=NB101_103.out;have hcz18_0:w16.cell? ⟨gb103,0,none⟩=some (.int .i64 0):=(qaE BK103.out 0).trans rfl;have hcz18_1:w16.cell? ⟨gb103,1,none⟩=some (.int .i64 0):=(qaE BK103.out 1).trans rfl;have hcz18_2:w16.cell? ⟨gb103,2,none⟩=some (.int .i64 0):=(qaE BK103.out 2).trans rfl;have hcz18_3:w16.cell? ⟨gb103,3,none⟩=some (.int .i64 0):=(qaE BK103.out 3).trans rfl;have hfz18_0:=qaD BK103.out 0;have hfz18_1:=qaD BK103.out 1;have hfz18_2:=qaD BK103.out 2;have hfz18_3:=qaD BK103.out 3))
         go_ret2
         exact ⟨by first|rfl|(simp [qaL,qaM]<;>rfl)|(simp [*,qaL,qaM]<;>rfl),by repeat (first|(with_reducible first|exact HB.out|apply qaB|apply qaA|apply qaC|refine qaF ?_ GE101.out|refine qaF ?_ GE103.out)|exact HB.out)⟩
        ·rw [if_neg c14] at H
         have c14b0:decide (a3≤((qbJ l0_2 a1).f0))=false:=decide_eq_false c14
         clear c14
         by_cases c19:a2 ≥ ((qbJ l0_2 a1).f1)
         ·rw [if_pos c19] at H
          have c19b0:decide (((qbJ l0_2 a1).f1)≤a2)=true:=decide_eq_true c19
          clear c19
          simp only [Option.some.injEq,Prod.mk.injEq] at H
          obtain ⟨rfl,rfl⟩:=H
          have hcz20_0:wc.cell? ⟨gb101,0,none⟩=some (.string a0_0):=(qaE BK101.out 0).trans rfl
          have hcz20_1:wc.cell? ⟨gb101,1,none⟩=some (.int .i64 a0_1):=(qaE BK101.out 1).trans rfl
          have hcz20_2:wc.cell? ⟨gb101,2,none⟩=some (.slice A0_2 l0_2.length c0_2):=(qaE BK101.out 2).trans rfl
          have hfz20_0:=qaD BK101.out 0
          have hfz20_1:=qaD BK101.out 1
          have hfz20_2:=qaD BK101.out 2
          have p102:0≤(a1:Int):=of_decide_eq_true (by first|(with_reducible assumption)|assumption)
          have q102:a1 < (l0_2.length:Int):=of_decide_eq_true (by first|(with_reducible assumption)|assumption)
          obtain ⟨ad102,e102,hx102_0,hx102_1,hx102_2,hx102_3⟩:=at_T52 HR0_2.out a1 p102 q102
          cases e102
          replace hx102_0:=(HB.out.cell (World.block_lt_of_cell? w _ hx102_0)).trans hx102_0
          replace hx102_1:=(HB.out.cell (World.block_lt_of_cell? w _ hx102_1)).trans hx102_1
          replace hx102_2:=(HB.out.cell (World.block_lt_of_cell? w _ hx102_2)).trans hx102_2
          replace hx102_3:=(HB.out.cell (World.block_lt_of_cell? w _ hx102_3)).trans hx102_3
          replace p102:=eq_true p102
          replace q102:=eq_true q102
          go_wp2_with (first|((with_reducible refine qbE (N:=10) rfl ?_);(try (refine qbU (by rfl) ?_;dsimp only));refine qbC ?hg (N:=10) ?hd (cs:=#[.int .i64 0,.int .i64 0,.int .i64 0,.int .i64 0]) (t:=52) ?hr ?_;(case hd=>rfl);(case hg=>rfl);(case hr=>first|(go_simp;done)|(go_simp;rfl));intro gb103 hg w21 hbox hb;have n0_:=Aside0.mk (qaS (g:=gb101) (o:=.cells #[.string a0_0,.int .i64 a0_1,.slice (some ad102) l0_2.length c0_2] 24 (0,0)) (by (with_reducible repeat (first|refine qaH ?_ _|refine qaI ?_|refine qaG ?_ _));exact BK101.out) hb);have n1_:=Aside0.mk (qaN (by repeat (first|(with_reducible first|exact HB.out|apply qaB|apply qaA|apply qaC|refine qaF ?_ GE101.out)|exact HB.out)) hb);have n2_:=Aside0.mk (hbox);have n3_:=Aside0.mk ((by rw [hg];exact (qaK (by repeat (first|(with_reducible first|exact HB.out|apply qaB|apply qaA|apply qaC|refine qaF ?_ GE101.out)|exact HB.out))):w.heap.size≤gb103));have n4_:=Aside0.mk ((by rw [hg];exact (qaK (by repeat (first|(with_reducible first|exact HB.out|apply qaB|apply qaA|apply qaC|refine qaF ?_ GE101.out)|exact HB.out))):w.heap.size≤gb103));have n5_:=Aside0.mk ((by rw [hg];exact Nat.ne_of_lt (qbF (g:=gb101) (o:=.cells #[.string a0_0,.int .i64 a0_1,.slice (some ad102) l0_2.length c0_2] 24 (0,0)) (by (with_reducible repeat (first|refine qaH ?_ _|refine qaI ?_|refine qaG ?_ _));exact BK101.out)):gb101 ≠ gb103));have n6_:=Aside0.mk ((by rw [hg];exact Nat.ne_of_gt (qbF (g:=gb101) (o:=.cells #[.string a0_0,.int .i64 a0_1,.slice (some ad102) l0_2.length c0_2] 24 (0,0)) (by (with_reducible repeat (first|refine qaH ?_ _|refine qaI ?_|refine qaG ?_ _));exact BK101.out)):gb103 ≠ gb101));clear BK101;clear HB;have BK101:=n0_;have HB:=n1_;have BK103:=n2_;have GW103:=n3_;have GE103:=n4_;have NB101_103:=n5_;have NB103_101:=n6_;clear n0_ n1_ n2_ n3_ n4_ n5_ n6_;clear hb hbox hg;have hnb22:=NB103_101.out;have hnc22:=NB101_103.out;have hcz23_0:w21.cell? ⟨gb103,0,none⟩=some (.int .i64 0):=(qaE BK103.out 0).trans rfl;have hcz23_1:w21.cell? ⟨gb103,1,none⟩=some (.int .i64 0):=(qaE BK103.out 1).trans rfl;have hcz23_2:w21.cell? ⟨gb103,2,none⟩=some (.int .i64 0):=(qaE BK103.out 2).trans rfl;have hcz23_3:w21.cell? ⟨gb103,3,none⟩=some (.int .i64 0):=(qaE BK103.out 3).trans rfl;have hfz23_0:=qaD BK103.out 0;have hfz23_1:=qaD BK103.out 1;have hfz23_2:=qaD BK103.out 2;have hfz23_3:=qaD BK103.out 3))
          go_ret2
          exact ⟨by first|rfl|(simp [qaL,qaM]<;>rfl)|(simp [*,qaL,qaM]<;>rfl),by repeat (first|(with_reducible first|exact HB.out|apply qaB|apply qaA|apply qaC|refine qaF ?_ GE101.out|refine qaF ?_ GE103.out)|exact HB.out)⟩
         ·rw [if_neg c19] at H
          have c19b0:decide (((qbJ l0_2 a1).f1)≤a2)=false:=decide_eq_false c19
          clear c19
          simp only [Option.some.injEq,Prod.mk.injEq] at H
          obtain ⟨rfl,rfl⟩:=H
          have hcz24_0:wc.cell? ⟨gb101,0,none⟩=some (.string a0_0):=(qaE BK101.out 0).trans rfl
          have hcz24_1:wc.cell? ⟨gb101,1,none⟩=some (.int .i64 a0_1):=(qaE BK101.out 1).trans rfl
          have hcz24_2:wc.cell? ⟨gb101,2,none⟩=some (.slice A0_2 l0_2.length c0_2):=(qaE BK101.out 2).trans rfl
          have hfz24_0:=qaD BK101.out 0
          have hfz24_1:=qaD BK101.out 1
          have hfz24_2:=qaD BK101.out 2
          have p102:0≤(a1:Int):=of_decide_eq_true (by first|(with_reducible assumption)|assumption)
          have q102:a1 < (l0_2.length:Int):=of_decide_eq_true (by first|(with_reducible assumption)|assumption)
          obtain ⟨ad102,e102,hx102_0,hx102_1,hx102_2,hx102_3⟩:=at_T52 HR0_2.out a1 p102 q102
          cases e102
          replace hx102_0:=(HB.out.cell (World.block_lt_of_cell? w _ hx102_0)).trans hx102_0
          replace hx102_1:=(HB.out.cell (World.block_lt_of_cell? w _ hx102_1)).trans hx102_1
          replace hx102_2:=(HB.out.cell (World.block_lt_of_cell? w _ hx102_2)).trans hx102_2
          replace hx102_3:=(HB.out.cell (World.block_lt_of_cell? w _ hx102_3)).trans hx102_3
          replace p102:=eq_true p102
          replace q102:=eq_true q102
          go_wp2_with (first|((with_reducible refine qbE (N:=10) rfl ?_);(try (refine qbU (by rfl) ?_;dsimp only));refine qbC ?hg (N:=10) ?hd (cs:=#[.int .i64 0,.int .i64 0,.int .i64 0,.int .i64 0]) (t:=52) ?hr ?_;(case hd=>rfl);(case hg=>rfl);(case hr=>first|(go_simp;done)|(go_simp;rfl));intro gb103 hg w25 hbox hb;have n0_:=Aside0.mk (qaS (g:=gb101) (o:=.cells #[.string a0_0,.int .i64 a0_1,.slice (some ad102) l0_2.length c0_2] 24 (0,0)) (by (with_reducible repeat (first|refine qaH ?_ _|refine qaI ?_|refine qaG ?_ _));exact BK101.out) hb);have n1_:=Aside0.mk (qaN (by repeat (first|(with_reducible first|exact HB.out|apply qaB|apply qaA|apply qaC|refine qaF ?_ GE101.out)|exact HB.out)) hb);have n2_:=Aside0.mk (hbox);have n3_:=Aside0.mk ((by rw [hg];exact (qaK (by repeat (first|(with_reducible first|exact HB.out|apply qaB|apply qaA|apply qaC|refine qaF ?_ GE101.out)|exact HB.out))):w.heap.size≤gb103));have n4_:=Aside0.mk ((by rw [hg];exact (qaK (by repeat (first|(with_reducible first|exact HB.out|apply qaB|apply qaA|apply qaC|refine qaF ?_ GE101.out)|exact HB.out))):w.heap.size≤gb103));have n5_:=Aside0.mk ((by rw [hg];exact Nat.ne_of_lt (qbF (g:=gb101) (o:=.cells #[.string a0_0,.int .i64 a0_1,.slice (some ad102) l0_2.length c0_2] 24 (0,0)) (by (with_reducible repeat (first|refine qaH ?_ _|refine qaI ?_|refine qaG ?_ _));exact BK101.out)):gb101 ≠ gb103));have n6_:=Aside0.mk ((by rw [hg];exact Nat.ne_of_gt (qbF (g:=gb101) (o:=.cells #[.string a0_0,.int .i64 a0_1,.slice (some ad102) l0_2.length c0_2] 24 (0,0)) (by (with_reducible repeat (first|refine qaH ?_ _|refine qaI ?_|refine qaG ?_ _));exact BK101.out)):gb103 ≠ gb101));clear BK101;clear HB;have BK101:=n0_;have HB:=n1_;have BK103:=n2_;have GW103:=n3_;have GE103:=n4_;have NB101_103:=n5_;have NB103_101:=n6_;clear n0_ n1_ n2_ n3_ n4_ n5_ n6_;clear hb hbox hg;have hnb26:=NB103_101.out;have hnc26:=NB101_103.out;have hcz27_0:w25.cell? ⟨gb103,0,none⟩=some (.int .i64 0):=(qaE BK103.out 0).trans rfl;have hcz27_1:w25.cell? ⟨gb103,1,none⟩=some (.int .i64 0):=(qaE BK103.out 1).trans rfl;have hcz27_2:w25.cell? ⟨gb103,2,none⟩=some (.int .i64 0):=(qaE BK103.out 2).trans rfl;have hcz27_3:w25.cell? ⟨gb103,3,none⟩=some (.int .i64 0):=(qaE BK103.out 3).trans rfl;have hfz27_0:=qaD BK103.out 0;have hfz27_1:=qaD BK103.out 1;have hfz27_2:=qaD BK103.out 2;have hfz27_3:=qaD BK103.out 3))
          go_ret2
          exact ⟨by first|rfl|(simp [qaL,qaM]<;>rfl)|(simp [*,qaL,qaM]<;>rfl),by repeat (first|(with_reducible first|exact HB.out|apply qaB|apply qaA|apply qaC|refine qaF ?_ GE101.out|refine qaF ?_ GE103.out)|exact HB.out)⟩
       ·rw [if_neg c13] at H
        have c13b0:decide (0 < ((qbJ l0_2 a1).f1))=false:=decide_eq_false c13
        clear c13
        by_cases c28:a3≤((qbJ l0_2 a1).f0)
        ·rw [if_pos c28] at H
         have c28b0:decide (a3≤((qbJ l0_2 a1).f0))=true:=decide_eq_true c28
         clear c28
         simp only [Option.some.injEq,Prod.mk.injEq] at H
         obtain ⟨rfl,rfl⟩:=H
         have hcz29_0:wc.cell? ⟨gb101,0,none⟩=some (.string a0_0):=(qaE BK101.out 0).trans rfl
         have hcz29_1:wc.cell? ⟨gb101,1,none⟩=some (.int .i64 a0_1):=(qaE BK101.out 1).trans rfl
         have hcz29_2:wc.cell? ⟨gb101,2,none⟩=some (.slice A0_2 l0_2.length c0_2):=(qaE BK101.out 2).trans rfl
         have hfz29_0:=qaD BK101.out 0
         have hfz29_1:=qaD BK101.out 1
         have hfz29_2:=qaD BK101.out 2
         have p102:0≤(a1:Int):=of_decide_eq_true (by first|(with_reducible assumption)|assumption)
         have q102:a1 < (l0_2.length:Int):=of_decide_eq_true (by first|(with_reducible assumption)|assumption)
         obtain ⟨ad102,e102,hx102_0,hx102_1,hx102_2,hx102_3⟩:=at_T52 HR0_2.out a1 p102 q102
         cases e102
         replace hx102_0:=(HB.out.cell (World.block_lt_of_cell? w _ hx102_0)).trans hx102_0
         replace hx102_1:=(HB.out.cell (World.block_lt_of_cell? w _ hx102_1)).trans hx102_1
         replace hx102_2:=(HB.out.cell (World.block_lt_of_cell? w _ hx102_2)).trans hx102_2
         replace hx102_3:=(HB.out.cell (World.block_lt_of_cell? w _ hx102_3)).trans hx102_3
         replace p102:=eq_true p102
         replace q102:=eq_true q102
         go_wp2_with (first|((with_reducible refine qbE (N:=10) rfl ?_);(try (refine qbU (by rfl) ?_;dsimp only));refine qbC ?hg (N:=10) ?hd (cs:=#[.int .i64 0,.int .i64 0,.int .i64 0,.int .i64 0]) (t:=52) ?hr ?_;(case hd=>rfl);(case hg=>rfl);(case hr=>first|(go_simp;done)|(go_simp;rfl));intro gb103 hg w30 hbox hb;have n0_:=Aside0.mk (qaS (g:=gb101) (o:=.cells #[.string a0_0,.int .i64 a0_1,.slice (some ad102) l0_2.length c0_2] 24 (0,0)) (by (with_reducible repeat (first|refine qaH ?_ _|refine qaI ?_|refine qaG ?_ _));exact BK101.out) hb);have n1_:=Aside0.mk (qaN (by repeat (first|(with_reducible first|exact HB.out|apply qaB|apply qaA|apply qaC|refine qaF ?_ GE101.out)|exact HB.out)) hb);have n2_:=Aside0.mk (hbox);have n3_:=Aside0.mk ((by rw [hg];exact (qaK (by repeat (first|(with_reducible first|exact HB.out|apply qaB|apply qaA|apply qaC|refine qaF ?_ GE101.out)|exact HB.out))):w.heap.size≤gb103));have n4_:=Aside0.mk ((by rw [hg];exact (qaK (by repeat (first|(with_reducible first|exact HB.out|apply qaB|apply qaA|apply qaC|refine qaF ?_ GE101.out)|exact HB.out))):w.heap.size≤gb103));have n5_:=Aside0.mk ((by rw [hg];exact Nat.ne_of_lt (qbF (g:=gb101) (o:=.cells #[.string a0_0,.int .i64 a0_1,.slice (some ad102) l0_2.length c0_2] 24 (0,0)) (by (with_reducible repeat (first|refine qaH ?_ _|refine qaI ?_|refine qaG ?_ _));exact BK101.out)):gb101 ≠ gb103));have n6_:=Aside0.mk ((by rw [hg];exact Nat.ne_of_gt (qbF (g:=gb101) (o:=.cells #[.string a0_0,.int .i64 a0_1,.slice (some ad102) l0_2.length c0_2] 24 (0,0)) (by (with_reducible repeat (first|refine qaH ?_ _|refine qaI ?_|refine qaG ?_ _));exact BK101.out)):gb103 ≠ gb101));clear BK101;clear HB;have BK101:=n0_;have HB:=n1_;have BK103:=n2_;have GW103:=n3_;have GE103:=n4_;have NB101_103:=n5_;have NB103_101:=n6_;clear n0_ n1_ n2_ n3_ n4_ n5_ n6_;clear hb hbox hg;have hnb31:=NB103_101.out;have hnc31:=NB101_103.out;have hcz32_0:w30.cell? ⟨gb103,0,none⟩=some (.int .i64 0):=(qaE BK103.out 0).trans rfl;have hcz32_1:w30.cell? ⟨gb103,1,none⟩=some (.int .i64 0):=(qaE BK103.out 1).trans rfl;have hcz32_2:w30.cell? ⟨gb103,2,none⟩=some (.int .i64 0):=(qaE BK103.out 2).trans rfl;have hcz32_3:w30.cell? ⟨gb103,3,none⟩=some (.int .i64 0):=(qaE BK103.out 3).trans rfl;have hfz32_0:=qaD BK103.out 0;have hfz32_1:=qaD BK103.out 1;have hfz32_2:=qaD BK103.out 2;have hfz32_3:=qaD BK103.out 3))
         go_ret2
         exact ⟨by first|rfl|(simp [qaL,qaM]<;>rfl)|(simp [*,qaL,qaM]<;>rfl),by repeat (first|(with_reducible first|exact HB.out|apply qaB|apply qaA|apply qaC|refine qaF ?_ GE101.out|refine qaF ?_ GE103.out)|exact HB.out)⟩
        ·rw [if_neg c28] at H
         have c28b0:decide (a3≤((qbJ l0_2 a1).f0))=false:=decide_eq_false c28
         clear c28
         simp only [Option.some.injEq,Prod.mk.injEq] at H
         obtain ⟨rfl,rfl⟩:=H
         have hcz33_0:wc.cell? ⟨gb101,0,none⟩=some (.string a0_0):=(qaE BK101.out 0).trans rfl
         have hcz33_1:wc.cell? ⟨gb101,1,none⟩=some (.int .i64 a0_1):=(qaE BK101.out 1).trans rfl
         have hcz33_2:wc.cell? ⟨gb101,2,none⟩=some (.slice A0_2 l0_2.length c0_2):=(qaE BK101.out 2).trans rfl
         have hfz33_0:=qaD BK101.out 0
         have hfz33_1:=qaD BK101.out 1
         have hfz33_2:=qaD BK101.out 2
         have p102:0≤(a1:Int):=of_decide_eq_true (by first|(with_reducible assumption)|assumption)
         have q102:a1 < (l0_2.length:Int):=of_decide_eq_true (by first|(with_reducible assumption)|assumption)
         obtain ⟨ad102,e102,hx102_0,hx102_1,hx102_2,hx102_3⟩:=at_T52 HR0_2.out a1 p102 q102
         cases e102
         replace hx102_0:=(HB.out.cell (World.block_lt_of_cell? w _ hx102_0)).trans hx102_0
         replace hx102_1:=(HB.out.cell (World.block_lt_of_cell? w _ hx102_1)).trans hx102_1
         replace hx102_2:=(HB.out.cell (World.block_lt_of_cell? w _ hx102_2)).trans hx102_2
         replace hx102_3:=(HB.out.cell (World.block_lt_of_cell? w _ hx102_3)).trans hx102_3
         replace p102:=eq_true p102
         replace q102:=eq_true q102
         go_wp2_with (first|((with_reducible refine qbE (N:=10) rfl ?_);(try (refine qbU (by rfl) ?_;dsimp only));refine qbC ?hg (N:=10) ?hd (cs:=#[.int .i64 0,.int .i64 0,.int .i64 0,.int .i64 0]) (t:=52) ?hr ?_;(case hd=>rfl);(case hg=>rfl);(case hr=>first|(go_simp;done)|(go_simp;rfl));intro gb103 hg w34 hbox hb;have n0_:=Aside0.mk (qaS (g:=gb101) (o:=.cells #[.string a0_0,.int .i64 a0_1,.slice (some ad102) l0_2.length c0_2] 24 (0,0)) (by (with_reducible repeat (first|refine qaH ?_ _|refine qaI ?_|refine qaG ?_ _));exact BK101.out) hb);have n1_:=Aside0.mk (qaN (by repeat (first|(with_reducible first|exact HB.out|apply qaB|apply qaA|apply qaC|refine qaF ?_ GE101.out)|exact HB.out)) hb);have n2_:=Aside0.mk (hbox);have n3_:=Aside0.mk ((by rw [hg];exact (qaK (by repeat (first|(with_reducible first|exact HB.out|apply qaB|apply qaA|apply qaC|refine qaF ?_ GE101.out)|exact HB.out))):w.heap.size≤gb103));have n4_:=Aside0.mk ((by rw [hg];exact (qaK (by repeat (first|(with_reducible first|exact HB.out|apply qaB|apply qaA|apply qaC|refine qaF ?_ GE101.out)|exact HB.out))):w.heap.size≤gb103));have n5_:=Aside0.mk ((by rw [hg];exact Nat.ne_of_lt (qbF (g:=gb101) (o:=.cells #[.string a0_0,.int .i64 a0_1,.slice (some ad102) l0_2.length c0_2] 24 (0,0)) (by (with_reducible repeat (first|refine qaH ?_ _|refine qaI ?_|refine qaG ?_ _));exact BK101.out)):gb101 ≠ gb103));have n6_:=Aside0.mk ((by rw [hg];exact Nat.ne_of_gt (qbF (g:=gb101) (o:=.cells #[.string a0_0,.int .i64 a0_1,.slice (some ad102) l0_2.length c0_2] 24 (0,0)) (by (with_reducible repeat (first|refine qaH ?_ _|refine qaI ?_|refine qaG ?_ _));exact BK101.out)):gb103 ≠ gb101));clear BK101;clear HB;have BK101:=n0_;have HB:=n1_;have BK103:=n2_;have GW103:=n3_;have GE103:=n4_;have NB101_103:=n5_;have NB103_101:=n6_;clear n0_ n1_ n2_ n3_ n4_ n5_ n6_;clear hb hbox hg;have hnb35:=NB103_101.out;have hnc35:=NB101_103.out;have hcz36_0:w34.cell? ⟨gb103,0,none⟩=some (.int .i64 0):=(qaE BK103.out 0).trans rfl;have hcz36_1:w34.cell? ⟨gb103,1,none⟩=some (.int .i64 0):=(qaE BK103.out 1).trans rfl;have hcz36_2:w34.cell? ⟨gb103,2,none⟩=some (.int .i64 0):=(qaE BK103.out 2).trans rfl;have hcz36_3:w34.cell? ⟨gb103,3,none⟩=some (.int .i64 0):=(qaE BK103.out 3).trans rfl;have hfz36_0:=qaD BK103.out 0;have hfz36_1:=qaD BK103.out 1;have hfz36_2:=qaD BK103.out 2;have hfz36_3:=qaD BK103.out 3))
         go_ret2
         exact ⟨by first|rfl|(simp [qaL,qaM]<;>rfl)|(simp [*,qaL,qaM]<;>rfl),by repeat (first|(with_reducible first|exact HB.out|apply qaB|apply qaA|apply qaC|refine qaF ?_ GE101.out|refine qaF ?_ GE103.out)|exact HB.out)⟩
      ·rw [if_neg c12] at H
       have c12b0:decide (0 < ((qbJ l0_2 a1).f0))=false:=decide_eq_false c12
       clear c12
       by_cases c37:((qbJ l0_2 a1).f1) > 0
       ·rw [if_pos c37] at H
        have c37b0:decide (0 < ((qbJ l0_2 a1).f1))=true:=decide_eq_true c37
        clear c37
        by_cases c38:a2 ≥ ((qbJ l0_2 a1).f1)
        ·rw [if_pos c38] at H
         have c38b0:decide (((qbJ l0_2 a1).f1)≤a2)=true:=decide_eq_true c38
         clear c38
         simp only [Option.some.injEq,Prod.mk.injEq] at H
         obtain ⟨rfl,rfl⟩:=H
         have hcz39_0:wc.cell? ⟨gb101,0,none⟩=some (.string a0_0):=(qaE BK101.out 0).trans rfl
         have hcz39_1:wc.cell? ⟨gb101,1,none⟩=some (.int .i64 a0_1):=(qaE BK101.out 1).trans rfl
         have hcz39_2:wc.cell? ⟨gb101,2,none⟩=some (.slice A0_2 l0_2.length c0_2):=(qaE BK101.out 2).trans rfl
         have hfz39_0:=qaD BK101.out 0
         have hfz39_1:=qaD BK101.out 1
         have hfz39_2:=qaD BK101.out 2
         have p102:0≤(a1:Int):=of_decide_eq_true (by first|(with_reducible assumption)|assumption)
         have q102:a1 < (l0_2.length:Int):=of_decide_eq_true (by first|(with_reducible assumption)|assumption)
         obtain ⟨ad102,e102,hx102_0,hx102_1,hx102_2,hx102_3⟩:=at_T52 HR0_2.out a1 p102 q102
         cases e102
         replace hx102_0:=(HB.out.cell (World.block_lt_of_cell? w _ hx102_0)).trans hx102_0
         replace hx102_1:=(HB.out.cell (World.block_lt_of_cell? w _ hx102_1)).trans hx102_1
         replace hx102_2:=(HB.out.cell (World.block_lt_of_cell? w _ hx102_2)).trans hx102_2
         replace hx102_3:=(HB.out.cell (World.block_lt_of_cell? w _ hx102_3)).trans hx102_3
         replace p102:=eq_true p102
         replace q102:=eq_true q102
         go_wp2_with (first|((with_reducible refine qbE (N:=10) rfl ?_);(try (refine qbU (by rfl) ?_;dsimp only));refine qbC ?hg (N:=10) ?hd (cs:=#[.int .i64 0,.int .i64 0,.int .i64 0,.int .i64 0]) (t:=52) ?hr ?_;(case hd=>rfl);(case hg=>rfl);(case hr=>first|(go_simp;done)|(go_simp;rfl));intro gb103 hg w40 hbox hb;have n0_:=Aside0.mk (qaS (g:=gb101) (o:=.cells #[.string a0_0,.int .i64 a0_1,.slice (some ad102) l0_2.length c0_2] 24 (0,0)) (by (with_reducible repeat (first|refine qaH ?_ _|refine qaI ?_|refine qaG ?_ _));exact BK101.out) hb);have n1_:=Aside0.mk (qaN (by repeat (first|(with_reducible first|exact HB.out|apply qaB|apply qaA|apply qaC|refine qaF ?_ GE101.out)|exact HB.out)) hb);have n2_:=Aside0.mk (hbox);have n3_:=Aside0.mk ((by rw [hg];exact (qaK (by repeat (first|(with_reducible first|exact HB.out|apply qaB|apply qaA|apply qaC|refine qaF ?_ GE101.out)|exact HB.out))):w.heap.size≤gb103));have n4_:=Aside0.mk ((by rw [hg];exact (qaK (by repeat (first|(with_reducible first|exact HB.out|apply qaB|apply qaA|apply qaC|refine qaF ?_ GE101.out)|exact HB.out))):w.heap.size≤gb103));have n5_:=Aside0.mk ((by rw [hg];exact Nat.ne_of_lt (qbF (g:=gb101) (o:=.cells #[.string a0_0,.int .i64 a0_1,.slice (some ad102) l0_2.length c0_2] 24 (0,0)) (by (with_reducible repeat (first|refine qaH ?_ _|refine qaI ?_|refine qaG ?_ _));exact BK101.out)):gb101 ≠ gb103));have n6_:=Aside0.mk ((by rw [hg];exact Nat.ne_of_gt (qbF (g:=gb101) (o:=.cells #[.string a0_0,.int .i64 a0_1,.slice (some ad102) l0_2.length c0_2] 24 (0,0)) (by (with_reducible repeat (first|refine qaH ?_ _|refine qaI ?_|refine qaG ?_ _));exact BK101.out)):gb103 ≠ gb101));clear BK101;clear HB;have BK101:=n0_;have HB:=n1_;have BK103:=n2_;have GW103:=n3_;have GE103:=n4_;have NB101_103:=n5_;have NB103_101:=n6_;clear n0_ n1_ n2_ n3_ n4_ n5_ n6_;clear hb hbox hg;have hnb41:=NB103_101.out;have hnc41:=NB101_103.out;have hcz42_0:w40.cell? ⟨gb103,0,none⟩=some (.int .i64 0):=(qaE BK103.out 0).trans rfl;have hcz42_1:w40.cell? ⟨gb103,1,none⟩=some (.int .i64 0):=(qaE BK103.out 1).trans rfl;have hcz42_2:w40.cell? ⟨gb103,2,none⟩=some (.int .i64 0):=(qaE BK103.out 2).trans rfl;have hcz42_3:w40.cell? ⟨gb103,3,none⟩=some (.int .i64 0):=(qaE BK103.out 3).trans rfl;have hfz42_0:=qaD BK103.out 0;have hfz42_1:=qaD BK103.out 1;have hfz42_2:=qaD BK103.out 2;have hfz42_3:=qaD BK103.out 3))
         go_ret2
         exact ⟨by first|rfl|(simp [qaL,qaM]<;>rfl)|(simp [*,qaL,qaM]<;>rfl),by repeat (first|(with_reducible first|exact HB.out|apply qaB|apply qaA|apply qaC|refine qaF ?_ GE101.out|refine qaF ?_ GE103.out)|exact HB.out)⟩
        ·rw [if_neg c38] at H
         have c38b0:decide (((qbJ l0_2 a1).f1)≤a2)=false:=decide_eq_false c38
         clear c38
         simp only [Option.some.injEq,Prod.mk.injEq] at H
         obtain ⟨rfl,rfl⟩:=H
         have hcz43_0:wc.cell? ⟨gb101,0,none⟩=some (.string a0_0):=(qaE BK101.out 0).trans rfl
         have hcz43_1:wc.cell? ⟨gb101,1,none⟩=some (.int .i64 a0_1):=(qaE BK101.out 1).trans rfl
         have hcz43_2:wc.cell? ⟨gb101,2,none⟩=some (.slice A0_2 l0_2.length c0_2):=(qaE BK101.out 2).trans rfl
         have hfz43_0:=qaD BK101.out 0
         have hfz43_1:=qaD BK101.out 1
         have hfz43_2:=qaD BK101.out 2
         have p102:0≤(a1:Int):=of_decide_eq_true (by first|(with_reducible assumption)|assumption)
         have q102:a1 < (l0_2.length:Int):=of_decide_eq_true (by first|(with_reducible assumption)|assumption)
         obtain ⟨ad102,e102,hx102_0,hx102_1,hx102_2,hx102_3⟩:=at_T52 HR0_2.out a1 p102 q102
         cases e102
         replace hx102_0:=(HB.out.cell (World.block_lt_of_cell? w _ hx102_0)).trans hx102_0
         replace hx102_1:=(HB.out.cell (World.block_lt_of_cell? w _ hx102_1)).trans hx102_1
         replace hx102_2:=(HB.out.cell (World.block_lt_of_cell? w _ hx102_2)).trans hx102_2
         replace hx102_3:=(HB.out.cell (World.block_lt_of_cell? w _ hx102_3)).trans hx102_3
         replace p102:=eq_true p102
         replace q102:=eq_true q102
         go_wp2_with (first|((with_reducible refine qbE (N:=10) rfl ?_);(try (refine qbU (by rfl) ?_;dsimp only));refine qbC ?hg (N:=10) ?hd (cs:=#[.int .i64 0,.int .i64 0,.int .i64 0,.int .i64 0]) (t:=52) ?hr ?_;(case hd=>rfl);(case hg=>rfl);(case hr=>first|(go_simp;done)|(go_simp;rfl));intro gb103 hg w44 hbox hb;have n0_:=Aside0.mk (qaS (g:=gb101) (o:=.cells #[.string a0_0,.int .i64 a0_1,.slice (some ad102) l0_2.length c0_2] 24 (0,0)) (by (with_reducible repeat (first|refine qaH ?_ _|refine qaI ?_|refine qaG ?_ _));exact BK101.out) hb);have n1_:=Aside0.mk (qaN (by repeat (first|(with_reducible first|exact HB.out|apply qaB|apply qaA|apply qaC|refine qaF ?_ GE101.out)|exact HB.out)) hb);have n2_:=Aside0.mk (hbox);have n3_:=Aside0.mk ((by rw [hg];exact (qaK (by repeat (first|(with_reducible first|exact HB.out|apply qaB|apply qaA|apply qaC|refine qaF ?_ GE101.out)|exact HB.out))):w.heap.size≤gb103));have n4_:=Aside0.mk ((by rw [hg];exact (qaK (by repeat (first|(with_reducible first|exact HB.out|apply qaB|apply qaA|apply qaC|refine qaF ?_ GE101.out)|exact HB.out))):w.heap.size≤gb103));have n5_:=Aside0.mk ((by rw [hg];exact Nat.ne_of_lt (qbF (g:=gb101) (o:=.cells #[.string a0_0,.int .i64 a0_1,.slice (some ad102) l0_2.length c0_2] 24 (0,0)) (by (with_reducible repeat (first|refine qaH ?_ _|refine qaI ?_|refine qaG ?_ _));exact BK101.out)):gb101 ≠ gb103));have n6_:=Aside0.mk ((by rw [hg];exact Nat.ne_of_gt (qbF (g:=gb101) (o:=.cells #[.string a0_0,.int .i64 a0_1,.slice (some ad102) l0_2.length c0_2] 24 (0,0)) (by (with_reducible repeat (first|refine qaH ?_ _|refine qaI ?_|refine qaG ?_ _));exact BK101.out)):gb103 ≠ gb101));clear BK101;clear HB;have BK101:=n0_;have HB:=n1_;have BK103:=n2_;have GW103:=n3_;have GE103:=n4_;have NB101_103:=n5_;have NB103_101:=n6_;clear n0_ n1_ n2_ n3_ n4_ n5_ n6_;clear hb hbox hg;have hnb45:=NB103_101.out;have hnc45:=NB101_103.out;have hcz46_0:w44.cell? ⟨gb103,0,none⟩=some (.int .i64 0):=(qaE BK103.out 0).trans rfl;have hcz46_1:w44.cell? ⟨gb103,1,none⟩=some (.int .i64 0):=(qaE BK103.out 1).trans rfl;have hcz46_2:w44.cell? ⟨gb103,2,none⟩=some (.int .i64 0):=(qaE BK103.out 2).trans rfl;have hcz46_3:w44.cell? ⟨gb103,3,none⟩=some (.int .i64 0):=(qaE BK103.out 3).trans rfl;have hfz46_0:=qaD BK103.out 0;have hfz46_1:=qaD BK103.out 1;have hfz46_2:=qaD BK103.out 2;have hfz46_3:=qaD BK103.out 3))
         go_ret2
         exact ⟨by first|rfl|(simp [qaL,qaM]<;>rfl)|(simp [*,qaL,qaM]<;>rfl),by repeat (first|(with_reducible first|exact HB.out|apply qaB|apply qaA|apply qaC|refine qaF ?_ GE101.out|refine qaF ?_ GE103.out)|exact HB.out)⟩
       ·rw [if_neg c37] at H
        have c37b0:decide (0 < ((qbJ l0_2 a1).f1))=false:=decide_eq_false c37
        clear c37
        simp only [Option.some.injEq,Prod.mk.injEq] at H
        obtain ⟨rfl,rfl⟩:=H
        have hcz47_0:wc.cell? ⟨gb101,0,none⟩=some (.string a0_0):=(qaE BK101.out 0).trans rfl
        have hcz47_1:wc.cell? ⟨gb101,1,none⟩=some (.int .i64 a0_1):=(qaE BK101.out 1).trans rfl
        have hcz47_2:wc.cell? ⟨gb101,2,none⟩=some (.slice A0_2 l0_2.length c0_2):=(qaE BK101.out 2).trans rfl
        have hfz47_0:=qaD BK101.out 0
        have hfz47_1:=qaD BK101.out 1
        have hfz47_2:=qaD BK101.out 2
        have p102:0≤(a1:Int):=of_decide_eq_true (by first|(with_reducible assumption)|assumption)
        have q102:a1 < (l0_2.length:Int):=of_decide_eq_true (by first|(with_reducible assumption)|assumption)
        obtain ⟨ad102,e102,hx102_0,hx102_1,hx102_2,hx102_3⟩:=at_T52 HR0_2.out a1 p102 q102
        cases e102
        replace hx102_0:=(HB.out.cell (World.block_lt_of_cell? w _ hx102_0)).trans hx102_0
        replace hx102_1:=(HB.out.cell (World.block_lt_of_cell? w _ hx102_1)).trans hx102_1
        replace hx102_2:=(HB.out.cell (World.block_lt_of_cell? w _ hx102_2)).trans hx102_2
        replace hx102_3:=(HB.out.cell (World.block_lt_of_cell? w _ hx102_3)).trans hx102_3
        replace p102:=eq_true p102
        replace q102:=eq_true q102
        go_wp2_with (first|((with_reducible refine qbE (N:=10) rfl ?_);(try (refine qbU (by rfl) ?_;dsimp only));refine qbC ?hg (N:=10) ?hd (cs:=#[.int .i64 0,.int .i64 0,.int .i64 0,.int .i64 0]) (t:=52) ?hr ?_;(case hd=>rfl);(case hg=>rfl);(case hr=>first|(go_simp;done)|(go_simp;rfl));intro gb103 hg w48 hbox hb;have n0_:=Aside0.mk (qaS (g:=gb101) (o:=.cells #[.string a0_0,.int .i64 a0_1,.slice (some ad102) l0_2.length c0_2] 24 (0,0)) (by (with_reducible repeat (first|refine qaH ?_ _|refine qaI ?_|refine qaG ?_ _));exact BK101.out) hb);have n1_:=Aside0.mk (qaN (by repeat (first|(with_reducible first|exact HB.out|apply qaB|apply qaA|apply qaC|refine qaF ?_ GE101.out)|exact HB.out)) hb);have n2_:=Aside0.mk (hbox);have n3_:=Aside0.mk ((by rw [hg];exact (qaK (by repeat (first|(with_reducible first|exact HB.out|apply qaB|apply qaA|apply qaC|refine qaF ?_ GE101.out)|exact HB.out))):w.heap.size≤gb103));have n4_:=Aside0.mk ((by rw [hg];exact (qaK (by repeat (first|(with_reducible first|exact HB.out|apply qaB|apply qaA|apply qaC|refine qaF ?_ GE101.out)|exact HB.out))):w.heap.size≤gb103));have n5_:=Aside0.mk ((by rw [hg];exact Nat.ne_of_lt (qbF (g:=gb101) (o:=.cells #[.string a0_0,.int .i64 a0_1,.slice (some ad102) l0_2.length c0_2] 24 (0,0)) (by (with_reducible repeat (first|refine qaH ?_ _|refine qaI ?_|refine qaG ?_ _));exact BK101.out)):gb101 ≠ gb103));have n6_:=Aside0.mk ((by rw [hg];exact Nat.ne_of_gt (qbF (g:=gb101) (o:=.cells #[.string a0_0,.int .i64 a0_1,.slice (some ad102) l0_2.length c0_2] 24 (0,0)) (by (with_reducible repeat (first|refine qaH ?_ _|refine qaI ?_|refine qaG ?_ _));exact BK101.out)):gb103 ≠ gb101));clear BK101;clear HB;have BK101:=n0_;have HB:=n1_;have BK103:=n2_;have GW103:=n3_;have GE103:=n4_;have NB101_103:=n5_;have NB103_101:=n6_;clear n0_ n1_ n2_ n3_ n4_ n5_ n6_;clear hb hbox hg;have hnb49:=NB103_101.out;have hnc49:=NB101_103.out;have hcz50_0:w48.cell? ⟨gb103,0,none⟩=some (.int .i64 0):=(qaE BK103.out 0).trans rfl;have hcz50_1:w48.cell? ⟨gb103,1,none⟩=some (.int .i64 0):=(qaE BK103.out 1).trans rfl;have hcz50_2:w48.cell? ⟨gb103,2,none⟩=some (.int .i64 0):=(qaE BK103.out 2).trans rfl;have hcz50_3:w48.cell? ⟨gb103,3,none⟩=some (.int .i64 0):=(qaE BK103.out 3).trans rfl;have hfz50_0:=qaD BK103.out 0;have hfz50_1:=qaD BK103.out 1;have hfz50_2:=qaD BK103.out 2;have hfz50_3:=qaD BK103.out 3))
        go_ret2
        exact ⟨by first|rfl|(simp [qaL,qaM]<;>rfl)|(simp [*,qaL,qaM]<;>rfl),by repeat (first|(with_reducible first|exact HB.out|apply qaB|apply qaA|apply qaC|refine qaF ?_ GE101.out|refine qaF ?_ GE103.out)|exact HB.out)⟩
     ·rw [if_neg c11] at H
      exact absurd H (by simp)
    ·rw [if_neg c10] at H
     exact absurd H (by simp)
end Go.Proofs.YtehdmplngmbnnaaDoor.P
