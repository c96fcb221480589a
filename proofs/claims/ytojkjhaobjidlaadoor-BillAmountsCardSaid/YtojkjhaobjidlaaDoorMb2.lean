/-
  The walks of the functions that the statements of this chapter reach, each told as a plain function; no conditions.
-/
import Derived.Test.YtojkjhaobjidlaaDoorProg
import Derived.Below
import Derived.Deep.Draws
import Derived.Deep.AppendLies
import Derived.Maps.AppendAt
import Derived.OwnWalk
import Derived.Laws.BytesArg
import Derived.Laws.MakeOwn
import Derived.Laws.OwnMore
import Derived.Deep.OwnRows
import Derived.Tactics
import Derived.Lib.ConvBytes
import Derived.Laws.Slices
import Derived.WalkKit
import Derived.KernelRfl
import Derived.RowKit3
import Derived.Deep.LoopGhost
import Derived.Deep.QuietTactic
import Derived.BigQuiet
import Derived.WideLaws
import Derived.Deep.DeepCutAuto
import Derived.Deep.CutBlock
import Derived.Deep.RegionHeld3
import Derived.Laws.Rows
import Derived.Lib.AppendStr
import Derived.ArgAppend
import Derived.Laws.IdiomCopy
import Derived.OrdersHeld
import Derived.Laws.BitsLemmas
import Derived.RowKit
import Derived.Test.YtojkjhaobjidlaaDoorMb1
import Derived.Shelf.Strings.Builder1
import Derived.Shelf.Small.Bits
import Derived.Shelf.Strconv.Itoa0
import Derived.Shelf.Strconv.Itoa1
import Derived.Shelf.LaysM
import Derived.Shelf.Strconv.Itoa2
import Derived.Shelf.Strconv.Itoa3
import Derived.Shelf.Bits.Mul64
import Derived.Lib.LaidTab
import Derived.WalkSmall
import Derived.Lib.Mul64
import Derived.Laws.Externs
import Derived.Laws.Bits64b
import Derived.Lib.Hide
namespace Go.Proofs.YtojkjhaobjidlaaDoor.P
open Go.RowKit Go.Proofs.YtojkjhaobjidlaaDoorW.PrintWords Go.Proofs.YtojkjhaobjidlaaDoorW.PrintLast Go.Proofs.YtojkjhaobjidlaaDoorW.PrintMore
def bitsA (n m:Nat):Array Bool:=((List.range n).map m.testBit).toArray
attribute [local go_sem] max2_int min2_int max_two min_two max_three min_three max_four min_four
set_option linter.unusedVariables false
set_option linter.unusedSimpArgs false
def errW:Option Int→Value
 | none=>.nilIface
 | some c=>.iface 0 (.int .i64 c)
theorem errW_none:errW none=.nilIface:=rfl
theorem errW_some (c:Int):errW (some c)=.iface 0 (.int .i64 c):=rfl
theorem info3:(Tryd.prog.info? 3).map (fun i=>(i.zero,i.size,i.bytes))=some (some (.int .i64 0),1,8):=by kernel_rfl
theorem info5:(Tryd.prog.info? 5).map (fun i=>(i.zero,i.size,i.bytes))=some (some (.int .u8 0),1,1):=by kernel_rfl
theorem info35:(Tryd.prog.info? 35).map (fun i=>(i.zero,i.size,i.bytes))=some (some (.agg #[(.int .i64 0),(.int .i64 0),(.int .i64 0),(.int .i64 0)]),4,32):=by kernel_rfl
theorem info38:(Tryd.prog.info? 38).map (fun i=>(i.zero,i.size,i.bytes))=some (some (.agg #[(.int .i64 0),(.int .i64 0),(.int .i64 0),(.int .i64 0)]),4,32):=by kernel_rfl
theorem info53:(Tryd.prog.info? 53).map (fun i=>(i.zero,i.size,i.bytes))=some (some (.agg #[(.string ⟨#[]⟩),(.int .i64 0),(.int .i64 0),(.int .i64 0),(.int .i64 0),(.slice none 0 0),(.slice none 0 0)]),7,96):=by kernel_rfl
theorem info56:(Tryd.prog.info? 56).map (fun i=>(i.zero,i.size,i.bytes))=some (some (.agg #[(.int .i64 0),(.int .i64 0)]),2,16):=by kernel_rfl
theorem info77:(Tryd.prog.info? 77).map (fun i=>(i.zero,i.size,i.bytes))=some (some (.agg #[(.int .i64 0),(.int .i64 0)]),2,16):=by kernel_rfl
def rd_L2 (xs:List (List Int)) (i:Int):(List Int):=xs.getD i.toNat ([]:List Int)
theorem at_L2 {w:World} {A:Option Addr} {n:Nat} {xs:List (List Int)} (h:Kd.C (Kd.slice 3 (Kd.int .i64)) w A n xs) (i:Int) (h0:0≤i) (h1:i < n):∃ ad A0 c0,A=some ad∧w.cell? (ad.add i.toNat)=some (.slice A0 (rd_L2 xs i).length c0)∧(rd_L2 xs i).length≤c0∧(Kd.int .i64).C w A0 (rd_L2 xs i).length (rd_L2 xs i):=by
 obtain ⟨ad,c,e,_,hK,hc0⟩:=Kd.C_get h ([]:List Int) i h0 h1
 have hc:∀ j u,c[j]?=some u→w.cell? (ad.add (i.toNat * 1+j))=some u:=hc0
 obtain ⟨A0,c0,rfl,l0,g0⟩:=hK
 exact ⟨ad,A0,c0,e,by have hq:=hc 0 _ rfl;rwa [Nat.mul_one,Nat.add_zero] at hq,l0,g0⟩
structure S53 where
 f0:ByteArray
 f1:Int
 f2:Int
 f3:Int
 f4:Int
 f5:(List Int)
 f6:(List Int)
def z53:S53:=⟨(⟨#[]⟩:ByteArray),(0:Int),(0:Int),(0:Int),(0:Int),([]:List Int),([]:List Int)⟩
def k53:Kd S53:=Kd.iso (Kd.pair Kd.string (Kd.pair (Kd.int .i64) (Kd.pair (Kd.int .i64) (Kd.pair (Kd.int .i64) (Kd.pair (Kd.int .i64) (Kd.pair (Kd.slice 3 (Kd.int .i64)) (Kd.slice 3 (Kd.int .i64)))))))) (fun x:S53=>(x.f0,x.f1,x.f2,x.f3,x.f4,x.f5,x.f6))
theorem k53_open {w:World} {x:S53} {cs:List Value} (h:k53.K w x cs):∃ A5 c5 A6 c6,cs=[.string x.f0,.int .i64 x.f1,.int .i64 x.f2,.int .i64 x.f3,.int .i64 x.f4,.slice A5 x.f5.length c5,.slice A6 x.f6.length c6]∧x.f5.length≤c5∧(Kd.int .i64).C w A5 x.f5.length x.f5∧x.f6.length≤c6∧(Kd.int .i64).C w A6 x.f6.length x.f6:=by
 obtain ⟨_,_,rfl,rfl,⟨_,_,rfl,rfl,⟨_,_,rfl,rfl,⟨_,_,rfl,rfl,⟨_,_,rfl,rfl,⟨_,_,rfl,⟨A5,c5,rfl,l5,g5⟩,⟨A6,c6,rfl,l6,g6⟩⟩⟩⟩⟩⟩⟩:=h
 exact ⟨A5,c5,A6,c6,rfl,l5,g5,l6,g6⟩
theorem k53_openM {w:World} {base:Nat} {ok:Nat→Prop} {x:S53} {cs:List Value} (h:k53.M w base ok x cs):∃ v5 v6,cs=[.string x.f0,.int .i64 x.f1,.int .i64 x.f2,.int .i64 x.f3,.int .i64 x.f4,v5,v6]∧(Kd.int .i64).R 3 w base ok v5 x.f5∧(Kd.int .i64).R 3 w base ok v6 x.f6:=by
 obtain ⟨_,_,rfl,rfl,⟨_,_,rfl,rfl,⟨_,_,rfl,rfl,⟨_,_,rfl,rfl,⟨_,_,rfl,rfl,⟨_,_,rfl,⟨v5,rfl,g5⟩,⟨v6,rfl,g6⟩⟩⟩⟩⟩⟩⟩:=h
 exact ⟨v5,v6,rfl,g5,g6⟩
theorem k53_mk (w:World) (x:S53) {A5:Option Addr} {c5:Nat} (l5:x.f5.length≤c5) (g5:(Kd.int .i64).C w A5 x.f5.length x.f5) {A6:Option Addr} {c6:Nat} (l6:x.f6.length≤c6) (g6:(Kd.int .i64).C w A6 x.f6.length x.f6):k53.K w x [.string x.f0,.int .i64 x.f1,.int .i64 x.f2,.int .i64 x.f3,.int .i64 x.f4,.slice A5 x.f5.length c5,.slice A6 x.f6.length c6]:=⟨[.string x.f0],[.int .i64 x.f1,.int .i64 x.f2,.int .i64 x.f3,.int .i64 x.f4,.slice A5 x.f5.length c5,.slice A6 x.f6.length c6],rfl,rfl,⟨[.int .i64 x.f1],[.int .i64 x.f2,.int .i64 x.f3,.int .i64 x.f4,.slice A5 x.f5.length c5,.slice A6 x.f6.length c6],rfl,rfl,⟨[.int .i64 x.f2],[.int .i64 x.f3,.int .i64 x.f4,.slice A5 x.f5.length c5,.slice A6 x.f6.length c6],rfl,rfl,⟨[.int .i64 x.f3],[.int .i64 x.f4,.slice A5 x.f5.length c5,.slice A6 x.f6.length c6],rfl,rfl,⟨[.int .i64 x.f4],[.slice A5 x.f5.length c5,.slice A6 x.f6.length c6],rfl,rfl,⟨[.slice A5 x.f5.length c5],[.slice A6 x.f6.length c6],rfl,⟨A5,c5,rfl,l5,g5⟩,⟨A6,c6,rfl,l6,g6⟩⟩⟩⟩⟩⟩⟩
theorem k53_mkM (w:World) (base:Nat) (ok:Nat→Prop) (x:S53) {v5:Value} (g5:(Kd.int .i64).R 3 w base ok v5 x.f5) {v6:Value} (g6:(Kd.int .i64).R 3 w base ok v6 x.f6):k53.M w base ok x [.string x.f0,.int .i64 x.f1,.int .i64 x.f2,.int .i64 x.f3,.int .i64 x.f4,v5,v6]:=⟨[.string x.f0],[.int .i64 x.f1,.int .i64 x.f2,.int .i64 x.f3,.int .i64 x.f4,v5,v6],rfl,rfl,⟨[.int .i64 x.f1],[.int .i64 x.f2,.int .i64 x.f3,.int .i64 x.f4,v5,v6],rfl,rfl,⟨[.int .i64 x.f2],[.int .i64 x.f3,.int .i64 x.f4,v5,v6],rfl,rfl,⟨[.int .i64 x.f3],[.int .i64 x.f4,v5,v6],rfl,rfl,⟨[.int .i64 x.f4],[v5,v6],rfl,rfl,⟨[v5],[v6],rfl,⟨v5,rfl,g5⟩,⟨v6,rfl,g6⟩⟩⟩⟩⟩⟩⟩
theorem k53_openF {W:World} {ok:Nat→Prop} {x:S53} {cs:List Value} (h:Kd.FK k53 W ok x cs):∃ A5 c5 A6 c6,cs=[.string x.f0,.int .i64 x.f1,.int .i64 x.f2,.int .i64 x.f3,.int .i64 x.f4,.slice A5 x.f5.length c5,.slice A6 x.f6.length c6]∧x.f5.length≤c5∧Kd.F (Kd.int .i64) W ok A5 x.f5.length x.f5∧x.f6.length≤c6∧Kd.F (Kd.int .i64) W ok A6 x.f6.length x.f6:=by
 obtain ⟨A5,c5,A6,c6,rfl,l5,_,l6,_⟩:=k53_open (Kd.FK_now h)
 exact ⟨A5,c5,A6,c6,rfl,l5,(fun W' hW=>by obtain ⟨A5_,c5_,A6_,c6_,he,l5_,g5_,l6_,g6_⟩:=k53_open (h W' hW);injection (Option.some.inj (show some (Value.slice A5 x.f5.length c5)=some (Value.slice A5_ x.f5.length c5_) from congrArg (fun l=>l[5]?) he)) with ha_ _ _;rw [ha_];exact g5_),l6,(fun W' hW=>by obtain ⟨A5_,c5_,A6_,c6_,he,l5_,g5_,l6_,g6_⟩:=k53_open (h W' hW);injection (Option.some.inj (show some (Value.slice A6 x.f6.length c6)=some (Value.slice A6_ x.f6.length c6_) from congrArg (fun l=>l[6]?) he)) with ha_ _ _;rw [ha_];exact g6_)⟩
theorem k53_mkF (W:World) (ok:Nat→Prop) (x:S53) {A5:Option Addr} {c5:Nat} (l5:x.f5.length≤c5) (g5:Kd.F (Kd.int .i64) W ok A5 x.f5.length x.f5) {A6:Option Addr} {c6:Nat} (l6:x.f6.length≤c6) (g6:Kd.F (Kd.int .i64) W ok A6 x.f6.length x.f6):Kd.FK k53 W ok x [.string x.f0,.int .i64 x.f1,.int .i64 x.f2,.int .i64 x.f3,.int .i64 x.f4,.slice A5 x.f5.length c5,.slice A6 x.f6.length c6]:=fun W2 hW=>k53_mk W2 x l5 (g5 W2 hW) l6 (g6 W2 hW)
def rd_T53 (xs:List S53) (i:Int):S53:=xs.getD i.toNat z53
theorem at_T53 {w:World} {A:Option Addr} {n:Nat} {xs:List S53} (h:Kd.C k53 w A n xs) (i:Int) (h0:0≤i) (h1:i < n):∃ ad A5 c5 A6 c6,A=some ad∧w.cell? (ad.add (i.toNat * 7))=some (.string (rd_T53 xs i).f0)∧w.cell? ⟨(ad.add (i.toNat * 7)).block,(ad.add (i.toNat * 7)).off+1,none⟩=some (.int .i64 (rd_T53 xs i).f1)∧w.cell? ⟨(ad.add (i.toNat * 7)).block,(ad.add (i.toNat * 7)).off+2,none⟩=some (.int .i64 (rd_T53 xs i).f2)∧w.cell? ⟨(ad.add (i.toNat * 7)).block,(ad.add (i.toNat * 7)).off+3,none⟩=some (.int .i64 (rd_T53 xs i).f3)∧w.cell? ⟨(ad.add (i.toNat * 7)).block,(ad.add (i.toNat * 7)).off+4,none⟩=some (.int .i64 (rd_T53 xs i).f4)∧w.cell? ⟨(ad.add (i.toNat * 7)).block,(ad.add (i.toNat * 7)).off+5,none⟩=some (.slice A5 (rd_T53 xs i).f5.length c5)∧w.cell? ⟨(ad.add (i.toNat * 7)).block,(ad.add (i.toNat * 7)).off+6,none⟩=some (.slice A6 (rd_T53 xs i).f6.length c6)∧(rd_T53 xs i).f5.length≤c5∧(Kd.int .i64).C w A5 (rd_T53 xs i).f5.length (rd_T53 xs i).f5∧(rd_T53 xs i).f6.length≤c6∧(Kd.int .i64).C w A6 (rd_T53 xs i).f6.length (rd_T53 xs i).f6:=by
 obtain ⟨ad,c,e,_,hK,hc0⟩:=Kd.C_get h z53 i h0 h1
 have hc:∀ j u,c[j]?=some u→w.cell? (ad.add (i.toNat * 7+j))=some u:=hc0
 obtain ⟨A5,c5,A6,c6,rfl,l5,g5,l6,g6⟩:=k53_open hK
 exact ⟨ad,A5,c5,A6,c6,e,hc 0 _ rfl,by rw [← add_field _ _ 1 (by omega)];exact hc 1 _ rfl,by rw [← add_field _ _ 2 (by omega)];exact hc 2 _ rfl,by rw [← add_field _ _ 3 (by omega)];exact hc 3 _ rfl,by rw [← add_field _ _ 4 (by omega)];exact hc 4 _ rfl,by rw [← add_field _ _ 5 (by omega)];exact hc 5 _ rfl,by rw [← add_field _ _ 6 (by omega)];exact hc 6 _ rfl,l5,g5,l6,g6⟩
structure S35 where
 f0:Int
 f1:Int
 f2:Int
 f3:Int
def z35:S35:=⟨(0:Int),(0:Int),(0:Int),(0:Int)⟩
def k35:Kd S35:=Kd.iso (Kd.pair (Kd.int .i64) (Kd.pair (Kd.int .i64) (Kd.pair (Kd.int .i64) (Kd.int .i64)))) (fun x:S35=>(x.f0,x.f1,x.f2,x.f3))
theorem k35_open {w:World} {x:S35} {cs:List Value} (h:k35.K w x cs):cs=[.int .i64 x.f0,.int .i64 x.f1,.int .i64 x.f2,.int .i64 x.f3]:=by
 obtain ⟨_,_,rfl,rfl,⟨_,_,rfl,rfl,⟨_,_,rfl,rfl,rfl⟩⟩⟩:=h
 exact rfl
theorem k35_openM {w:World} {base:Nat} {ok:Nat→Prop} {x:S35} {cs:List Value} (h:k35.M w base ok x cs):cs=[.int .i64 x.f0,.int .i64 x.f1,.int .i64 x.f2,.int .i64 x.f3]:=by
 obtain ⟨_,_,rfl,rfl,⟨_,_,rfl,rfl,⟨_,_,rfl,rfl,rfl⟩⟩⟩:=h
 exact rfl
theorem k35_mk (w:World) (x:S35) :k35.K w x [.int .i64 x.f0,.int .i64 x.f1,.int .i64 x.f2,.int .i64 x.f3]:=⟨[.int .i64 x.f0],[.int .i64 x.f1,.int .i64 x.f2,.int .i64 x.f3],rfl,rfl,⟨[.int .i64 x.f1],[.int .i64 x.f2,.int .i64 x.f3],rfl,rfl,⟨[.int .i64 x.f2],[.int .i64 x.f3],rfl,rfl,rfl⟩⟩⟩
theorem k35_mkM (w:World) (base:Nat) (ok:Nat→Prop) (x:S35) :k35.M w base ok x [.int .i64 x.f0,.int .i64 x.f1,.int .i64 x.f2,.int .i64 x.f3]:=⟨[.int .i64 x.f0],[.int .i64 x.f1,.int .i64 x.f2,.int .i64 x.f3],rfl,rfl,⟨[.int .i64 x.f1],[.int .i64 x.f2,.int .i64 x.f3],rfl,rfl,⟨[.int .i64 x.f2],[.int .i64 x.f3],rfl,rfl,rfl⟩⟩⟩
theorem k35_mkF (W:World) (ok:Nat→Prop) (x:S35):Kd.FK k35 W ok x [.int .i64 x.f0,.int .i64 x.f1,.int .i64 x.f2,.int .i64 x.f3]:=fun W2 _=>k35_mk W2 x
def rd_T35 (xs:List S35) (i:Int):S35:=xs.getD i.toNat z35
theorem at_T35 {w:World} {A:Option Addr} {n:Nat} {xs:List S35} (h:Kd.C k35 w A n xs) (i:Int) (h0:0≤i) (h1:i < n):∃ ad ,A=some ad∧w.cell? (ad.add (i.toNat * 4))=some (.int .i64 (rd_T35 xs i).f0)∧w.cell? ⟨(ad.add (i.toNat * 4)).block,(ad.add (i.toNat * 4)).off+1,none⟩=some (.int .i64 (rd_T35 xs i).f1)∧w.cell? ⟨(ad.add (i.toNat * 4)).block,(ad.add (i.toNat * 4)).off+2,none⟩=some (.int .i64 (rd_T35 xs i).f2)∧w.cell? ⟨(ad.add (i.toNat * 4)).block,(ad.add (i.toNat * 4)).off+3,none⟩=some (.int .i64 (rd_T35 xs i).f3):=by
 obtain ⟨ad,c,e,_,hK,hc0⟩:=Kd.C_get h z35 i h0 h1
 have hc:∀ j u,c[j]?=some u→w.cell? (ad.add (i.toNat * 4+j))=some u:=hc0
 obtain rfl:=k35_open hK
 exact ⟨ad,e,hc 0 _ rfl,by rw [← add_field _ _ 1 (by omega)];exact hc 1 _ rfl,by rw [← add_field _ _ 2 (by omega)];exact hc 2 _ rfl,by rw [← add_field _ _ 3 (by omega)];exact hc 3 _ rfl⟩
structure S56 where
 f0:Int
 f1:Int
def z56:S56:=⟨(0:Int),(0:Int)⟩
def k56:Kd S56:=Kd.iso (Kd.pair (Kd.int .i64) (Kd.int .i64)) (fun x:S56=>(x.f0,x.f1))
theorem k56_open {w:World} {x:S56} {cs:List Value} (h:k56.K w x cs):cs=[.int .i64 x.f0,.int .i64 x.f1]:=by
 obtain ⟨_,_,rfl,rfl,rfl⟩:=h
 exact rfl
theorem k56_openM {w:World} {base:Nat} {ok:Nat→Prop} {x:S56} {cs:List Value} (h:k56.M w base ok x cs):cs=[.int .i64 x.f0,.int .i64 x.f1]:=by
 obtain ⟨_,_,rfl,rfl,rfl⟩:=h
 exact rfl
theorem k56_mk (w:World) (x:S56) :k56.K w x [.int .i64 x.f0,.int .i64 x.f1]:=⟨[.int .i64 x.f0],[.int .i64 x.f1],rfl,rfl,rfl⟩
theorem k56_mkM (w:World) (base:Nat) (ok:Nat→Prop) (x:S56) :k56.M w base ok x [.int .i64 x.f0,.int .i64 x.f1]:=⟨[.int .i64 x.f0],[.int .i64 x.f1],rfl,rfl,rfl⟩
theorem k56_mkF (W:World) (ok:Nat→Prop) (x:S56):Kd.FK k56 W ok x [.int .i64 x.f0,.int .i64 x.f1]:=fun W2 _=>k56_mk W2 x
def rd_T56 (xs:List S56) (i:Int):S56:=xs.getD i.toNat z56
theorem at_T56 {w:World} {A:Option Addr} {n:Nat} {xs:List S56} (h:Kd.C k56 w A n xs) (i:Int) (h0:0≤i) (h1:i < n):∃ ad ,A=some ad∧w.cell? (ad.add (i.toNat * 2))=some (.int .i64 (rd_T56 xs i).f0)∧w.cell? ⟨(ad.add (i.toNat * 2)).block,(ad.add (i.toNat * 2)).off+1,none⟩=some (.int .i64 (rd_T56 xs i).f1):=by
 obtain ⟨ad,c,e,_,hK,hc0⟩:=Kd.C_get h z56 i h0 h1
 have hc:∀ j u,c[j]?=some u→w.cell? (ad.add (i.toNat * 2+j))=some u:=hc0
 obtain rfl:=k56_open hK
 exact ⟨ad,e,hc 0 _ rfl,by rw [← add_field _ _ 1 (by omega)];exact hc 1 _ rfl⟩
def rd_L8 (xs:List (List S53)) (i:Int):(List S53):=xs.getD i.toNat ([]:List S53)
theorem at_L8 {w:World} {A:Option Addr} {n:Nat} {xs:List (List S53)} (h:Kd.C (Kd.slice 53 k53) w A n xs) (i:Int) (h0:0≤i) (h1:i < n):∃ ad A0 c0,A=some ad∧w.cell? (ad.add i.toNat)=some (.slice A0 (rd_L8 xs i).length c0)∧(rd_L8 xs i).length≤c0∧k53.C w A0 (rd_L8 xs i).length (rd_L8 xs i):=by
 obtain ⟨ad,c,e,_,hK,hc0⟩:=Kd.C_get h ([]:List S53) i h0 h1
 have hc:∀ j u,c[j]?=some u→w.cell? (ad.add (i.toNat * 1+j))=some u:=hc0
 obtain ⟨A0,c0,rfl,l0,g0⟩:=hK
 exact ⟨ad,A0,c0,e,by have hq:=hc 0 _ rfl;rwa [Nat.mul_one,Nat.add_zero] at hq,l0,g0⟩
def rd_L9 (xs:List (List S35)) (i:Int):(List S35):=xs.getD i.toNat ([]:List S35)
theorem at_L9 {w:World} {A:Option Addr} {n:Nat} {xs:List (List S35)} (h:Kd.C (Kd.slice 35 k35) w A n xs) (i:Int) (h0:0≤i) (h1:i < n):∃ ad A0 c0,A=some ad∧w.cell? (ad.add i.toNat)=some (.slice A0 (rd_L9 xs i).length c0)∧(rd_L9 xs i).length≤c0∧k35.C w A0 (rd_L9 xs i).length (rd_L9 xs i):=by
 obtain ⟨ad,c,e,_,hK,hc0⟩:=Kd.C_get h ([]:List S35) i h0 h1
 have hc:∀ j u,c[j]?=some u→w.cell? (ad.add (i.toNat * 1+j))=some u:=hc0
 obtain ⟨A0,c0,rfl,l0,g0⟩:=hK
 exact ⟨ad,A0,c0,e,by have hq:=hc 0 _ rfl;rwa [Nat.mul_one,Nat.add_zero] at hq,l0,g0⟩
def rd_L10 (xs:List (List S56)) (i:Int):(List S56):=xs.getD i.toNat ([]:List S56)
theorem at_L10 {w:World} {A:Option Addr} {n:Nat} {xs:List (List S56)} (h:Kd.C (Kd.slice 56 k56) w A n xs) (i:Int) (h0:0≤i) (h1:i < n):∃ ad A0 c0,A=some ad∧w.cell? (ad.add i.toNat)=some (.slice A0 (rd_L10 xs i).length c0)∧(rd_L10 xs i).length≤c0∧k56.C w A0 (rd_L10 xs i).length (rd_L10 xs i):=by
 obtain ⟨ad,c,e,_,hK,hc0⟩:=Kd.C_get h ([]:List S56) i h0 h1
 have hc:∀ j u,c[j]?=some u→w.cell? (ad.add (i.toNat * 1+j))=some u:=hc0
 obtain ⟨A0,c0,rfl,l0,g0⟩:=hK
 exact ⟨ad,A0,c0,e,by have hq:=hc 0 _ rfl;rwa [Nat.mul_one,Nat.add_zero] at hq,l0,g0⟩
structure S77 where
 f0:Int
 f1:Int
def z77:S77:=⟨(0:Int),(0:Int)⟩
def k77:Kd S77:=Kd.iso (Kd.pair (Kd.int .i64) (Kd.int .i64)) (fun x:S77=>(x.f0,x.f1))
theorem k77_open {w:World} {x:S77} {cs:List Value} (h:k77.K w x cs):cs=[.int .i64 x.f0,.int .i64 x.f1]:=by
 obtain ⟨_,_,rfl,rfl,rfl⟩:=h
 exact rfl
theorem k77_openM {w:World} {base:Nat} {ok:Nat→Prop} {x:S77} {cs:List Value} (h:k77.M w base ok x cs):cs=[.int .i64 x.f0,.int .i64 x.f1]:=by
 obtain ⟨_,_,rfl,rfl,rfl⟩:=h
 exact rfl
theorem k77_mk (w:World) (x:S77) :k77.K w x [.int .i64 x.f0,.int .i64 x.f1]:=⟨[.int .i64 x.f0],[.int .i64 x.f1],rfl,rfl,rfl⟩
theorem k77_mkM (w:World) (base:Nat) (ok:Nat→Prop) (x:S77) :k77.M w base ok x [.int .i64 x.f0,.int .i64 x.f1]:=⟨[.int .i64 x.f0],[.int .i64 x.f1],rfl,rfl,rfl⟩
theorem k77_mkF (W:World) (ok:Nat→Prop) (x:S77):Kd.FK k77 W ok x [.int .i64 x.f0,.int .i64 x.f1]:=fun W2 _=>k77_mk W2 x
def rd_T77 (xs:List S77) (i:Int):S77:=xs.getD i.toNat z77
theorem at_T77 {w:World} {A:Option Addr} {n:Nat} {xs:List S77} (h:Kd.C k77 w A n xs) (i:Int) (h0:0≤i) (h1:i < n):∃ ad ,A=some ad∧w.cell? (ad.add (i.toNat * 2))=some (.int .i64 (rd_T77 xs i).f0)∧w.cell? ⟨(ad.add (i.toNat * 2)).block,(ad.add (i.toNat * 2)).off+1,none⟩=some (.int .i64 (rd_T77 xs i).f1):=by
 obtain ⟨ad,c,e,_,hK,hc0⟩:=Kd.C_get h z77 i h0 h1
 have hc:∀ j u,c[j]?=some u→w.cell? (ad.add (i.toNat * 2+j))=some u:=hc0
 obtain rfl:=k77_open hK
 exact ⟨ad,e,hc 0 _ rfl,by rw [← add_field _ _ 1 (by omega)];exact hc 1 _ rfl⟩
structure S38 where
 f0:Int
 f1:Int
 f2:Int
 f3:Int
def z38:S38:=⟨(0:Int),(0:Int),(0:Int),(0:Int)⟩
def k38:Kd S38:=Kd.iso (Kd.pair (Kd.int .i64) (Kd.pair (Kd.int .i64) (Kd.pair (Kd.int .i64) (Kd.int .i64)))) (fun x:S38=>(x.f0,x.f1,x.f2,x.f3))
theorem k38_open {w:World} {x:S38} {cs:List Value} (h:k38.K w x cs):cs=[.int .i64 x.f0,.int .i64 x.f1,.int .i64 x.f2,.int .i64 x.f3]:=by
 obtain ⟨_,_,rfl,rfl,⟨_,_,rfl,rfl,⟨_,_,rfl,rfl,rfl⟩⟩⟩:=h
 exact rfl
theorem k38_openM {w:World} {base:Nat} {ok:Nat→Prop} {x:S38} {cs:List Value} (h:k38.M w base ok x cs):cs=[.int .i64 x.f0,.int .i64 x.f1,.int .i64 x.f2,.int .i64 x.f3]:=by
 obtain ⟨_,_,rfl,rfl,⟨_,_,rfl,rfl,⟨_,_,rfl,rfl,rfl⟩⟩⟩:=h
 exact rfl
theorem k38_mk (w:World) (x:S38) :k38.K w x [.int .i64 x.f0,.int .i64 x.f1,.int .i64 x.f2,.int .i64 x.f3]:=⟨[.int .i64 x.f0],[.int .i64 x.f1,.int .i64 x.f2,.int .i64 x.f3],rfl,rfl,⟨[.int .i64 x.f1],[.int .i64 x.f2,.int .i64 x.f3],rfl,rfl,⟨[.int .i64 x.f2],[.int .i64 x.f3],rfl,rfl,rfl⟩⟩⟩
theorem k38_mkM (w:World) (base:Nat) (ok:Nat→Prop) (x:S38) :k38.M w base ok x [.int .i64 x.f0,.int .i64 x.f1,.int .i64 x.f2,.int .i64 x.f3]:=⟨[.int .i64 x.f0],[.int .i64 x.f1,.int .i64 x.f2,.int .i64 x.f3],rfl,rfl,⟨[.int .i64 x.f1],[.int .i64 x.f2,.int .i64 x.f3],rfl,rfl,⟨[.int .i64 x.f2],[.int .i64 x.f3],rfl,rfl,rfl⟩⟩⟩
theorem k38_mkF (W:World) (ok:Nat→Prop) (x:S38):Kd.FK k38 W ok x [.int .i64 x.f0,.int .i64 x.f1,.int .i64 x.f2,.int .i64 x.f3]:=fun W2 _=>k38_mk W2 x
def rd_T38 (xs:List S38) (i:Int):S38:=xs.getD i.toNat z38
theorem at_T38 {w:World} {A:Option Addr} {n:Nat} {xs:List S38} (h:Kd.C k38 w A n xs) (i:Int) (h0:0≤i) (h1:i < n):∃ ad ,A=some ad∧w.cell? (ad.add (i.toNat * 4))=some (.int .i64 (rd_T38 xs i).f0)∧w.cell? ⟨(ad.add (i.toNat * 4)).block,(ad.add (i.toNat * 4)).off+1,none⟩=some (.int .i64 (rd_T38 xs i).f1)∧w.cell? ⟨(ad.add (i.toNat * 4)).block,(ad.add (i.toNat * 4)).off+2,none⟩=some (.int .i64 (rd_T38 xs i).f2)∧w.cell? ⟨(ad.add (i.toNat * 4)).block,(ad.add (i.toNat * 4)).off+3,none⟩=some (.int .i64 (rd_T38 xs i).f3):=by
 obtain ⟨ad,c,e,_,hK,hc0⟩:=Kd.C_get h z38 i h0 h1
 have hc:∀ j u,c[j]?=some u→w.cell? (ad.add (i.toNat * 4+j))=some u:=hc0
 obtain rfl:=k38_open hK
 exact ⟨ad,e,hc 0 _ rfl,by rw [← add_field _ _ 1 (by omega)];exact hc 1 _ rfl,by rw [← add_field _ _ 2 (by omega)];exact hc 2 _ rfl,by rw [← add_field _ _ 3 (by omega)];exact hc 3 _ rfl⟩
def restOf:Nat→Option Code→Option Code
 | 0,x=>x
 | n+1,some (.seq _ b)=>restOf n (some b)
 | _,_=>none
theorem rest_intro {n:Nat} {b:Option Code} {c0:Code} {X:Code→Prop} (hb:restOf n b=some c0) (h:X c0):∀ c,restOf n b=some c→X c:=by
 intro c hc
 rw [hb] at hc
 cases hc
 exact h
theorem cell_twice (w:World) (a:Addr) (u v:Value) (h:(w.cell? a).isSome=true):((w.setCell a u).setCell a v).cell? a=some v:=by
 obtain ⟨x,hx⟩:=Option.isSome_iff_exists.1 h
 exact World.cell?_setCell_same _ _ _ (World.cell?_setCell_same _ _ _ hx)
end Go.Proofs.YtojkjhaobjidlaaDoor.P
namespace Go.Proofs
open Go.Shelf
def Tryd.laysM171_ren:Go.Shelf.Ren:=⟨fun|171=>37|243=>50|246=>55|283=>58|284=>59|285=>60|286=>61|129=>57|317=>64|318=>65|319=>66|320=>67|337=>68|338=>69|n=>n,fun|3=>3|9=>9|2=>2|4=>4|171=>99|0=>0|53=>76|37=>63|5=>5|173=>101|212=>108|51=>109|20=>20|213=>110|46=>95|232=>114|233=>115|n=>n,fun|17=>2|18=>3|19=>4|n=>n⟩
theorem Tryd.laysM171:Go.Proofs.LaysM.n171 Tryd.prog Tryd.laysM171_ren:={
 mixed:=by kernel_rfl
 f129:=Tryd.func57.trans (congrArg some (by kernel_rfl))
 f171:=Tryd.func37.trans (congrArg some (by kernel_rfl))
 f243:=Tryd.func50.trans (congrArg some (by kernel_rfl))
 f246:=Tryd.func55.trans (congrArg some (by kernel_rfl))
 f283:=Tryd.func58.trans (congrArg some (by kernel_rfl))
 f284:=Tryd.func59.trans (congrArg some (by kernel_rfl))
 f285:=Tryd.func60.trans (congrArg some (by kernel_rfl))
 f286:=Tryd.func61.trans (congrArg some (by kernel_rfl))
 f317:=Tryd.func64.trans (congrArg some (by kernel_rfl))
 f318:=Tryd.func65.trans (congrArg some (by kernel_rfl))
 f319:=Tryd.func66.trans (congrArg some (by kernel_rfl))
 f320:=Tryd.func67.trans (congrArg some (by kernel_rfl))
 f337:=Tryd.func68.trans (congrArg some (by kernel_rfl))
 f338:=Tryd.func69.trans (congrArg some (by kernel_rfl))
 t0:=Tryd.underlying0
 a0:=Tryd.isAgg0
 z0:=Tryd.sizeOf0
 v0:=Tryd.zeroValue0
 t2:=Tryd.underlying2
 a2:=Tryd.isAgg2
 z2:=Tryd.sizeOf2
 v2:=Tryd.zeroValue2
 t3:=Tryd.underlying3
 a3:=Tryd.isAgg3
 z3:=Tryd.sizeOf3
 v3:=Tryd.zeroValue3
 t4:=Tryd.underlying4
 a4:=Tryd.isAgg4
 z4:=Tryd.sizeOf4
 v4:=Tryd.zeroValue4
 t5:=Tryd.underlying5
 a5:=Tryd.isAgg5
 z5:=Tryd.sizeOf5
 v5:=Tryd.zeroValue5
 t9:=Tryd.underlying9
 a9:=Tryd.isAgg9
 z9:=Tryd.sizeOf9
 v9:=Tryd.zeroValue9
 t20:=Tryd.underlying20
 a20:=Tryd.isAgg20
 z20:=Tryd.sizeOf20
 v20:=Tryd.zeroValue20
 t37:=Tryd.underlying63
 a37:=Tryd.isAgg63
 z37:=Tryd.sizeOf63
 v37:=Tryd.zeroValue63
 t46:=Tryd.underlying95
 a46:=Tryd.isAgg95
 z46:=Tryd.sizeOf95
 v46:=Tryd.zeroValue95
 t51:=Tryd.underlying109
 a51:=Tryd.isAgg109
 z51:=Tryd.sizeOf109
 v51:=Tryd.zeroValue109
 t53:=Tryd.underlying76
 a53:=Tryd.isAgg76
 z53:=Tryd.sizeOf76
 v53:=Tryd.zeroValue76
 t171:=Tryd.underlying99
 a171:=Tryd.isAgg99
 z171:=Tryd.sizeOf99
 v171:=Tryd.zeroValue99
 t173:=Tryd.underlying101
 a173:=Tryd.isAgg101
 z173:=Tryd.sizeOf101
 v173:=Tryd.zeroValue101
 t212:=Tryd.underlying108
 a212:=Tryd.isAgg108
 z212:=Tryd.sizeOf108
 v212:=Tryd.zeroValue108
 t213:=Tryd.underlying110
 a213:=Tryd.isAgg110
 z213:=Tryd.sizeOf110
 t232:=Tryd.underlying114
 a232:=Tryd.isAgg114
 z232:=Tryd.sizeOf114
 v232:=Tryd.zeroValue114
 t233:=Tryd.underlying115
 a233:=Tryd.isAgg115
 z233:=Tryd.sizeOf115
 v233:=Tryd.zeroValue115
 g17:=by kernel_rfl
 g18:=by kernel_rfl
 g19:=by kernel_rfl
 i0:=by kernel_rfl
 i2:=by kernel_rfl
 i3:=by kernel_rfl
 i4:=by kernel_rfl
 i5:=by kernel_rfl
 i9:=by kernel_rfl
 i20:=by kernel_rfl
 i37:=by kernel_rfl
 i46:=by kernel_rfl
 i51:=by kernel_rfl
 i53:=by kernel_rfl
 i171:=by kernel_rfl
 i173:=by kernel_rfl
 i212:=by kernel_rfl
 i232:=by kernel_rfl
 i233:=by kernel_rfl
 m17:=by kernel_rfl
 m18:=by kernel_rfl
 m19:=by kernel_rfl }
open Go.RowKit Go.Sort Go.Lib in
theorem Tryd.strconv_Itoa (n : Int) (h0 : -9223372036854775808 ≤ n) (h1 : n ≤ 9223372036854775807) (w : World) (htab : Lib.TabIs Tryd.prog w "internal/strconv.uint64pow10" .u64 Lib.pow10Tab) :
  Calls Tryd.prog 37 #[.int .i64 n] w fun e w'=>e=.returned (.string ⟨(Lib.itoa n).toArray⟩)∧∃ k os,w'=grow (w.drewN k) os:=Any.strconv_Itoa Tryd.laysM171 n h0 h1 w htab
def Tryd.lays169_ren:Go.Shelf.Ren:=⟨fun|169=>27|n=>n,fun|70=>62|9=>9|0=>0|72=>65|37=>63|127=>82|3=>3|5=>5|n=>n,fun|n=>n⟩
theorem Tryd.lays169:Go.Proofs.Lays.n169 Tryd.prog Tryd.lays169_ren:={
 mixed:=by kernel_rfl
 f169:=Tryd.func27.trans (congrArg some (by kernel_rfl))
 t0:=Tryd.underlying0
 a0:=Tryd.isAgg0
 z0:=Tryd.sizeOf0
 v0:=Tryd.zeroValue0
 t3:=Tryd.underlying3
 a3:=Tryd.isAgg3
 z3:=Tryd.sizeOf3
 v3:=Tryd.zeroValue3
 t9:=Tryd.underlying9
 a9:=Tryd.isAgg9
 z9:=Tryd.sizeOf9
 v9:=Tryd.zeroValue9
 t37:=Tryd.underlying63
 a37:=Tryd.isAgg63
 z37:=Tryd.sizeOf63
 v37:=Tryd.zeroValue63
 t70:=Tryd.underlying62
 a70:=Tryd.isAgg62
 z70:=Tryd.sizeOf62
 v70:=Tryd.zeroValue62
 t72:=Tryd.underlying65
 a72:=Tryd.isAgg65
 z72:=Tryd.sizeOf65
 v72:=Tryd.zeroValue65
 t127:=Tryd.underlying82
 a127:=Tryd.isAgg82
 z127:=Tryd.sizeOf82
 v127:=Tryd.zeroValue82 }
theorem Tryd.Builder_Extra_169:Builder.Extra Tryd.prog Tryd.lays169_ren:={
 sizeBuilder:=by kernel_rfl
 liesBuilder:=by kernel_rfl
 t5:=Tryd.underlying5
 a5:=Tryd.isAgg5
 z5:=Tryd.sizeOf5
 v5:=Tryd.zeroValue5
 infoByte:=by kernel_rfl
 cellsByte:=by kernel_rfl
 sizeByte:=by kernel_rfl
 neB5:=by decide }
open Go.RowKit in
theorem Tryd.Builder_String_any (B b:Nat) (l:List UInt8) (w:World) (h:Lib.IsBuilder 65 5 B b (Lib.byteCells l) w) (hBw:B≤w.heap.size) :
  Calls Tryd.prog 27 #[.pointer (some ⟨b,0,none⟩)] w fun e w'=>e=.returned (.string ⟨l.toArray⟩)∧Below B w w':=Any.Builder_String_any Tryd.lays169 Tryd.Builder_Extra_169 B b l w h hBw
end Go.Proofs
namespace Go.Proofs.YtojkjhaobjidlaaDoor.P
open Go.RowKit Go.Proofs.YtojkjhaobjidlaaDoorW.PrintWords Go.Proofs.YtojkjhaobjidlaaDoorW.PrintLast
set_option linter.unusedVariables false
set_option linter.unusedSimpArgs false
structure Glob (w:World):Prop where
 tab : Lib.TabIs Tryd.prog w "internal/strconv.uint64pow10" .u64 Lib.pow10Tab
theorem gTab : Tryd.prog.globalNamed "internal/strconv.uint64pow10" = some 2 := by kernel_rfl
theorem var_lt {w:World} {s:String} {g:Nat} {cs:Array Value} (hg:Tryd.prog.globalNamed s=some g) (hv:w.var? Tryd.prog s=some cs):g < w.heap.size:=by
 unfold World.var? at hv
 simp only [hg,Option.bind_some] at hv
 rcases Nat.lt_or_ge g w.heap.size with h|h
 ·exact h
 ·rw [Array.getElem?_eq_none h] at hv
  cases hv
theorem Glob.below {w w1:World} (h:Glob w) (hb:Below w.heap.size w w1):Glob w1 :=
 ⟨var?_below hb gTab (var_lt gTab h.tab) h.tab⟩
theorem glob_at {w w1:World} (h:Aside0 (Glob w)) (hb:Below w.heap.size w w1):Aside0 (Glob w1):=⟨h.out.below hb⟩
def strconv_Itoa.f (a0:Int):Option ByteArray:=if -9223372036854775808≤a0 then (if a0≤9223372036854775807 then some ⟨(Lib.itoa a0).toArray⟩ else none) else none
theorem below_grow (w:World) (k:Nat) (os:Array Obj):Below w.heap.size w (Go.Sort.grow (w.drewN k) os):=by
 refine ⟨rfl,rfl,rfl,?_,fun i hi=>?_⟩
 ·show w.heap.size≤(w.heap++os).size
  simp
 ·show (w.heap++os)[i]?=w.heap[i]?
  exact Array.getElem?_append_left hi
theorem strconv_Itoa.calls (a0:Int) (r:ByteArray) (w:World) (h:strconv_Itoa.f a0=some r) (HG_:Aside0 (Glob w)) :
  Calls Tryd.prog 37 #[.int .i64 a0] w fun e w'=>e=.returned (.string r)∧Below w.heap.size w w':=by
 unfold strconv_Itoa.f at h
 split at h
 ·split at h
  ·rename_i h0 h1
   obtain rfl:=Option.some.inj h
   refine (Tryd.strconv_Itoa a0 h0 h1 w HG_.out.tab).mono ?_
   rintro e w' ⟨rfl,k,os,rfl⟩
   exact ⟨rfl,below_grow w k os⟩
  ·cases h
 ·cases h
end Go.Proofs.YtojkjhaobjidlaaDoor.P
namespace Go.Proofs.YtojkjhaobjidlaaDoor.P
open Go.RowKit Go.Proofs.YtojkjhaobjidlaaDoorW.PrintWords Go.Proofs.YtojkjhaobjidlaaDoorW.PrintLast Go.Proofs.YtojkjhaobjidlaaDoorW.PrintMore
attribute [local go_sem] max2_int min2_int max_two min_two max_three min_three max_four min_four
attribute [local go_sem] cell_twice
set_option linter.unusedVariables false
set_option linter.unusedSimpArgs false
def bits_Mul64.f (a0:Int) (a1:Int):Option (Int × Int):=some (IntKind.u64.wrap ((IntKind.u64.wrap ((IntKind.u64.wrap ((a0 / 4294967296) * (a1 / 4294967296)))+((IntKind.u64.wrap ((IntKind.u64.wrap ((a0 / 4294967296) * (Go.bits .and .u64 a1 4294967295)))+((IntKind.u64.wrap ((Go.bits .and .u64 a0 4294967295) * (Go.bits .and .u64 a1 4294967295))) / 4294967296))) / 4294967296)))+((IntKind.u64.wrap ((Go.bits .and .u64 (IntKind.u64.wrap ((IntKind.u64.wrap ((a0 / 4294967296) * (Go.bits .and .u64 a1 4294967295)))+((IntKind.u64.wrap ((Go.bits .and .u64 a0 4294967295) * (Go.bits .and .u64 a1 4294967295))) / 4294967296))) 4294967295)+(IntKind.u64.wrap ((Go.bits .and .u64 a0 4294967295) * (a1 / 4294967296))))) / 4294967296)),IntKind.u64.wrap (a0 * a1))
set_option maxHeartbeats 8000000 in
set_option maxRecDepth 100000 in
theorem bits_Mul64.calls (a0:Int) (a1:Int) (r1:Int) (r2:Int) (w:World) (h:bits_Mul64.f a0 a1=some (r1,r2)) :
  Calls Tryd.prog 42 #[.int .u64 a0,.int .u64 a1] w fun e w'=>e=.returned (.tuple #[.int .u64 r1,.int .u64 r2])∧Drawn0 w w':=by
 have H:(some (IntKind.u64.wrap ((IntKind.u64.wrap ((IntKind.u64.wrap ((a0 / 4294967296) * (a1 / 4294967296)))+((IntKind.u64.wrap ((IntKind.u64.wrap ((a0 / 4294967296) * (Go.bits .and .u64 a1 4294967295)))+((IntKind.u64.wrap ((Go.bits .and .u64 a0 4294967295) * (Go.bits .and .u64 a1 4294967295))) / 4294967296))) / 4294967296)))+((IntKind.u64.wrap ((Go.bits .and .u64 (IntKind.u64.wrap ((IntKind.u64.wrap ((a0 / 4294967296) * (Go.bits .and .u64 a1 4294967295)))+((IntKind.u64.wrap ((Go.bits .and .u64 a0 4294967295) * (Go.bits .and .u64 a1 4294967295))) / 4294967296))) 4294967295)+(IntKind.u64.wrap ((Go.bits .and .u64 a0 4294967295) * (a1 / 4294967296))))) / 4294967296)),IntKind.u64.wrap (a0 * a1)))=some (r1,r2):=h
 clear h
 simp only [Option.some.injEq,Prod.mk.injEq] at H
 obtain ⟨rfl,rfl⟩:=H
 go_enter Tryd.func42,Tryd.ntmps42
 go_wp2
 go_ret2
 exact ⟨by first|rfl|(simp;done)|(simp [*];done),by repeat (first|exact Drawn0.refl _|apply Drawn0.step)⟩
end Go.Proofs.YtojkjhaobjidlaaDoor.P
namespace Go.Proofs.YtojkjhaobjidlaaDoor.P
open Go.RowKit Go.Lib Go.Proofs.YtojkjhaobjidlaaDoorW.PrintWords Go.Proofs.YtojkjhaobjidlaaDoorW.PrintLast
set_option linter.unusedVariables false
set_option linter.unusedSimpArgs false
theorem u_mask (a:Nat) (ha:a < 18446744073709551616):bits .and .u64 (a:Int) 4294967295=((a % 4294967296:Nat):Int):=by
 have h:=bits_and_u64_nat a 4294967295 ha (by omega)
 have e:a &&& 4294967295=a % 4294967296:=Nat.and_two_pow_sub_one_eq_mod a 32
 rw [e] at h
 exact h
theorem u_div (a:Nat):(a:Int) / 4294967296=((a / 4294967296:Nat):Int):=by omega
theorem u_mul (a b:Nat):(a:Int) * (b:Int)=((a * b:Nat):Int):=(Int.natCast_mul a b).symm
theorem u_add (a b:Nat):(a:Int)+(b:Int)=((a+b:Nat):Int):=(Int.natCast_add a b).symm
theorem u_wrap (a:Nat) (ha:a < 18446744073709551616):IntKind.u64.wrap (a:Int)=(a:Int):=by rw [IntKind.wrap_u64];omega
theorem u_mod (a:Nat):IntKind.u64.wrap (a:Int)=((a % 18446744073709551616:Nat):Int):=by rw [IntKind.wrap_u64];omega
theorem mul64_f (x y:Nat) (hx:x < 18446744073709551616) (hy:y < 18446744073709551616):bits_Mul64.f x y=some (((x * y / 18446744073709551616:Nat):Int),((x * y % 18446744073709551616:Nat):Int)):=by
 obtain ⟨bd,bt,bw,hhi⟩:=Lib.mul64_hi x y hx hy
 have ba:=Lib.half_mul_le (a:=x / 4294967296) (b:=y / 4294967296) (by omega) (by omega)
 have bb:=Lib.half_mul_le (a:=x / 4294967296) (b:=y % 4294967296) (by omega) (by omega)
 have bc:=Lib.half_mul_le (a:=x % 4294967296) (b:=y / 4294967296) (by omega) (by omega)
 have ba':x / 4294967296 * (y / 4294967296) < 18446744073709551616:=by omega
 have bb':x / 4294967296 * (y % 4294967296) < 18446744073709551616:=by omega
 have bc':x % 4294967296 * (y / 4294967296) < 18446744073709551616:=by omega
 have bd':x % 4294967296 * (y % 4294967296) < 18446744073709551616:=by
  have:=Lib.half_mul_le (a:=x % 4294967296) (b:=y % 4294967296) (by omega) (by omega)
  omega
 have bh1:x / 4294967296 * (y / 4294967296)+(x / 4294967296 * (y % 4294967296)+x % 4294967296 * (y % 4294967296) / 4294967296) / 4294967296 < 18446744073709551616:=by omega
 have bh:x / 4294967296 * (y / 4294967296)+(x / 4294967296 * (y % 4294967296)+x % 4294967296 * (y % 4294967296) / 4294967296) / 4294967296+((x / 4294967296 * (y % 4294967296)+x % 4294967296 * (y % 4294967296) / 4294967296) % 4294967296+x % 4294967296 * (y / 4294967296)) / 4294967296 < 18446744073709551616:=by omega
 unfold bits_Mul64.f
 simp only [u_mask x hx,u_mask y hy,u_div,u_mul,u_wrap _ bd',u_add,u_wrap _ bb',u_wrap _ bt,u_mask _ bt,u_wrap _ bc',u_wrap _ bw,u_wrap _ ba',u_wrap _ bh1,u_wrap _ bh,u_mod (x * y)]
 rw [hhi]
theorem add64_run (x y c:Nat) (hc:c≤1) (w:World) :
  (callFunc 43 #[.int .u64 x,.int .u64 y,.int .u64 c]).run Tryd.prog w =
   .ok (.value (.tuple #[.int .u64 (((x+y+c) % 18446744073709551616:Nat):Int),.int .u64 (((x+y+c) / 18446744073709551616:Nat):Int)])) w:=by
 rw [run_callFunc_extern Tryd.func43 (by kernel_rfl) (by kernel_rfl) (by kernel_rfl) (e:=add64Entry) (by kernel_rfl),run_add64 x y c (by omega) (by omega) (by omega) (by omega)]
 simp only [Result.andThen]
 congr 5<;>omega
set_option maxRecDepth 100000 in
theorem len64_at (w:World):Calls Tryd.prog 57 #[.int .u64 1000000000] w fun e w'=>e=.returned (.int .i64 30)∧Drawn0 w w':=by
 go_enter Tryd.func57,Tryd.ntmps57
 go_wp2_with fail
 go_ret
 exact ⟨by kernel_rfl,by repeat (first|exact Drawn0.refl _|apply Drawn0.step)⟩
theorem lead64_at (w:World):Calls Tryd.prog 53 #[.int .u64 1000000000] w fun e w'=>e=.returned (.int .i64 34)∧Drawn0 w w':=by
 go_enter Tryd.func53,Tryd.ntmps53
 go_wp2_with fail
 refine (len64_at _).mono ?_
 rintro e w1 ⟨rfl,⟨nd,rfl⟩⟩
 go_wp2_with fail
 go_ret
 exact ⟨rfl,by repeat (first|exact Drawn0.refl _|apply Drawn0.step)⟩
set_option maxHeartbeats 400000 in
theorem div64_small (lo:Nat) (hl:lo < 18446744073709551616) (w:World) :
  Calls Tryd.prog 44 #[.int .u64 0,.int .u64 (lo:Int),.int .u64 1000000000] w fun e w'=>(∃ r:Int,e=.returned (.tuple #[.int .u64 ((lo / 1000000000:Nat):Int),.int .u64 r]))∧Drawn0 w w':=by
 go_enter Tryd.func44,Tryd.ntmps44
 go_wp2_with fail
 go_quiet (fail)
 go_wp2_with fail
 go_ret2
 exact ⟨⟨_,by rw [show ((lo / 1000000000:Nat):Int)=(lo:Int) / 1000000000 by omega];rfl⟩,by repeat (first|exact Drawn0.refl _|apply Drawn0.step)⟩
theorem or_low (hi b:Nat) (hh:hi < 1000000000) (hb:b < 17179869184):bits .or .u64 ((hi:Int) * 17179869184) (b:Int)=((hi * 17179869184+b:Nat):Int):=by
 have e:((hi:Int) * 17179869184)=((hi * 17179869184:Nat):Int):=by omega
 have h:=Nat.two_pow_add_eq_or_of_lt (i:=34) (b:=b) (by omega) hi
 rw [e,bits_or_u64_nat _ _ (by omega) (by omega),Nat.mul_comm hi]
 rw [show (17179869184:Nat)=2 ^ 34 by rfl,h]
theorem w_lin (a b:Int) (k:Int) (h:a=b+k * 18446744073709551616) (h0:0≤b) (h1:b < 18446744073709551616):IntKind.u64.wrap a=b:=by
 rw [IntKind.wrap_u64]
 omega
theorem w_mod (a:Int):∃ k:Int,IntKind.u64.wrap a=a+k * 18446744073709551616:=by
 rw [IntKind.wrap_u64]
 exact ⟨-(a / 18446744073709551616),by omega⟩
theorem dq (a b q r:Nat) (h:a=q * b+r) (hr:r < b):a / b=q:=by
 rw [h,Nat.add_comm,Nat.add_mul_div_right _ _ (by omega),Nat.div_eq_of_lt hr,Nat.zero_add]
theorem fin4 (M X r:Nat) (h:4 * M=4000000000 * X+r) (hr:r < 4000000000):M / 1000000000=X:=dq M 1000000000 X (M - X * 1000000000) (by omega) (by omega)
theorem td_nat (a b q r:Nat) (h:a=q * b+r) (hr:r < b):(a:Int).tdiv (b:Int)=(q:Int):=by
 rw [← dq a b q r h hr]
 rfl
theorem ed_nat (a b q r:Nat) (h:a=q * b+r) (hr:r < b):(a:Int) / (b:Int)=(q:Int):=by
 rw [← dq a b q r h hr]
 rfl
structure DivN (hi lo U S V Q R R2 Z Q0 R0:Nat):Prop where
 lo_:∃ m l:Nat,lo=m * 1073741824+l∧l < 1073741824∧m < 17179869184∧U=hi * 17179869184+m∧S=l * 17179869184∧V=l * 4
 h:hi < 1000000000
 u:U=Q * 4000000000+R
 r:R < 4000000000
 q:Q < 4294967296
 r2:R2=R * 4294967296
 z:Z=R * 4294967296+V
 v:V < 4294967296
 z2:Z=Q0 * 4000000000+R0
 r0:R0 < 4000000000
 q0:Q0 < 4294967296
theorem divN (hi lo:Nat) (hh:hi < 1000000000) (hl:lo < 18446744073709551616):∃ U S V Q R R2 Z Q0 R0:Nat,DivN hi lo U S V Q R R2 Z Q0 R0:=by
 obtain ⟨m,hm⟩:∃ m,m=lo / 1073741824:=⟨_,rfl⟩
 obtain ⟨l,hl2⟩:∃ m,m=lo % 1073741824:=⟨_,rfl⟩
 have a1:lo=m * 1073741824+l:=by omega
 have a2:l < 1073741824:=by omega
 have a3:m < 17179869184:=by omega
 clear hm hl2 hl
 obtain ⟨U,hU⟩:∃ U,U=hi * 17179869184+m:=⟨_,rfl⟩
 have a4:U < 17179869184000000000:=by omega
 obtain ⟨Q,hQ⟩:∃ Q:Nat,Q=U / 4000000000:=⟨_,rfl⟩
 obtain ⟨R,hR⟩:∃ R:Nat,R=U % 4000000000:=⟨_,rfl⟩
 have a5:U=Q * 4000000000+R:=by rw [hQ,hR];exact (Nat.div_add_mod' U 4000000000).symm
 have a6:R < 4000000000:=by rw [hR];exact Nat.mod_lt _ (by decide)
 clear hQ hR
 have a7:Q < 4294967296:=by omega
 obtain ⟨Z,hZ⟩:∃ Z:Nat,Z=R * 4294967296+l * 4:=⟨_,rfl⟩
 have a8:Z < 17179869184000000000:=by omega
 obtain ⟨Q0,hQ⟩:∃ Q:Nat,Q=Z / 4000000000:=⟨_,rfl⟩
 obtain ⟨R0,hR⟩:∃ R:Nat,R=Z % 4000000000:=⟨_,rfl⟩
 have b5:Z=Q0 * 4000000000+R0:=by rw [hQ,hR];exact (Nat.div_add_mod' Z 4000000000).symm
 have b6:R0 < 4000000000:=by rw [hR];exact Nat.mod_lt _ (by decide)
 clear hQ hR
 have b7:Q0 < 4294967296:=by omega
 exact ⟨U,l * 17179869184,l * 4,Q,R,R * 4294967296,Z,Q0,R0,⟨m,l,a1,a2,a3,hU,rfl,rfl⟩,hh,a5,a6,a7,rfl,hZ,by omega,b5,b6,b7⟩
section
variable {hi lo U S V Q R R2 Z Q0 R0:Nat} (d:DivN hi lo U S V Q R R2 Z Q0 R0)
include d
theorem DivN.e1:bits .or .u64 ((hi:Int) * 17179869184) ((lo:Int) / 1073741824)=(U:Int):=by
 obtain ⟨⟨m,l,h1,h2,h3,h4,h5,h6⟩,h,-,-,-,-,-,-,-,-,-⟩:=d
 rw [show ((lo:Int) / 1073741824)=(m:Int) by omega,or_low hi m h h3,h4]
theorem DivN.e3:IntKind.u64.wrap ((lo:Int) * 17179869184)=(S:Int):=by
 obtain ⟨⟨m,l,h1,h2,h3,h4,h5,h6⟩,h,-,-,-,-,-,-,-,-,-⟩:=d
 exact w_lin _ _ m (by omega) (by omega) (by omega)
theorem DivN.e4:(S:Int) / 4294967296=(V:Int):=by
 obtain ⟨⟨m,l,h1,h2,h3,h4,h5,h6⟩,h,-,-,-,-,-,-,-,-,-⟩:=d
 omega
theorem DivN.e5:bits .and .u64 (S:Int) 4294967295=((0:Nat):Int):=by
 obtain ⟨⟨m,l,h1,h2,h3,h4,h5,h6⟩,h,-,-,-,-,-,-,-,-,-⟩:=d
 rw [u_mask S (by omega)]
 omega
theorem DivN.e6:IntKind.u64.wrap ((U:Int).tdiv 4000000000)=(Q:Int):=by
 obtain ⟨-,-,h1,h2,h3,-,-,-,-,-,-⟩:=d
 rw [show (U:Int).tdiv 4000000000=(Q:Int) from td_nat U 4000000000 Q R h1 h2]
 exact u_wrap Q (by omega)
theorem DivN.e6':IntKind.u64.wrap ((U:Int) / 4000000000)=(Q:Int):=by
 obtain ⟨-,-,h1,h2,h3,-,-,-,-,-,-⟩:=d
 rw [show (U:Int) / 4000000000=(Q:Int) from ed_nat U 4000000000 Q R h1 h2]
 exact u_wrap Q (by omega)
theorem DivN.e7:IntKind.u64.wrap ((U:Int) - IntKind.u64.wrap ((Q:Int) * 4000000000))=(R:Int):=by
 obtain ⟨-,-,h1,h2,h3,-,-,-,-,-,-⟩:=d
 rw [w_lin ((Q:Int) * 4000000000) ((Q:Int) * 4000000000) 0 (by omega) (by omega) (by omega)]
 exact w_lin _ _ 0 (by omega) (by omega) (by omega)
theorem DivN.e8:IntKind.u64.wrap (4294967296 * (R:Int))=(R2:Int):=by
 obtain ⟨-,-,-,h2,-,h3,-,-,-,-,-⟩:=d
 exact w_lin _ _ 0 (by omega) (by omega) (by omega)
theorem DivN.e9:IntKind.u64.wrap ((R2:Int)+(V:Int))=(Z:Int):=by
 obtain ⟨-,-,-,h2,-,h3,h4,h5,-,-,-⟩:=d
 exact w_lin _ _ 0 (by omega) (by omega) (by omega)
theorem DivN.e11:IntKind.u64.wrap (IntKind.u64.wrap (IntKind.u64.wrap ((U:Int) * 4294967296)+(V:Int)) - IntKind.u64.wrap ((Q:Int) * 17179869184000000000))=(Z:Int):=by
 obtain ⟨-,-,h0,h2,-,h3,h4,h5,-,-,-⟩:=d
 obtain ⟨k1,g1⟩:=w_mod ((U:Int) * 4294967296)
 rw [g1]
 obtain ⟨k2,g2⟩:=w_mod ((U:Int) * 4294967296+k1 * 18446744073709551616+(V:Int))
 rw [g2]
 obtain ⟨k3,g3⟩:=w_mod ((Q:Int) * 17179869184000000000)
 rw [g3]
 clear g1 g2 g3
 exact w_lin _ _ (k1+k2 - k3) (by omega) (by omega) (by omega)
theorem DivN.e12:IntKind.u64.wrap ((Z:Int).tdiv 4000000000)=(Q0:Int):=by
 obtain ⟨-,-,-,-,-,-,-,-,h1,h2,h3⟩:=d
 rw [show (Z:Int).tdiv 4000000000=(Q0:Int) from td_nat Z 4000000000 Q0 R0 h1 h2]
 exact u_wrap Q0 (by omega)
theorem DivN.e12':IntKind.u64.wrap ((Z:Int) / 4000000000)=(Q0:Int):=by
 obtain ⟨-,-,-,-,-,-,-,-,h1,h2,h3⟩:=d
 rw [show (Z:Int) / 4000000000=(Q0:Int) from ed_nat Z 4000000000 Q0 R0 h1 h2]
 exact u_wrap Q0 (by omega)
theorem DivN.e13:IntKind.u64.wrap ((Z:Int) - IntKind.u64.wrap ((Q0:Int) * 4000000000))=(R0:Int):=by
 obtain ⟨-,-,-,-,-,-,-,-,h1,h2,h3⟩:=d
 rw [w_lin ((Q0:Int) * 4000000000) ((Q0:Int) * 4000000000) 0 (by omega) (by omega) (by omega)]
 exact w_lin _ _ 0 (by omega) (by omega) (by omega)
theorem DivN.eX:IntKind.u64.wrap (IntKind.u64.wrap (4294967296 * (R0:Int))+((0:Nat):Int))=((R0 * 4294967296:Nat):Int):=by
 obtain ⟨-,-,-,-,-,-,-,-,h1,h2,h3⟩:=d
 rw [w_lin (4294967296 * (R0:Int)) ((R0 * 4294967296:Nat):Int) 0 (by omega) (by omega) (by omega)]
 exact w_lin _ _ 0 (by omega) (by omega) (by omega)
theorem DivN.e15:IntKind.u64.wrap (IntKind.u64.wrap ((Q:Int) * 4294967296)+(Q0:Int))=(((hi * 18446744073709551616+lo) / 1000000000:Nat):Int):=by
 obtain ⟨⟨m,l,h1,h2,h3,h4,h5,h6⟩,h,g1,g2,g3,-,g4,g5,g6,g7,g8⟩:=d
 have e:(hi * 18446744073709551616+lo) / 1000000000=Q * 4294967296+Q0:=by
  have e2:4 * (hi * 18446744073709551616+lo)=4000000000 * (Q * 4294967296+Q0)+R0:=by omega
  exact fin4 _ _ R0 e2 g7
 rw [e]
 clear h1 h2 h3 h4 h5 h6 h g1 g2 g4 g5 g6 g7 e
 rw [w_lin ((Q:Int) * 4294967296) ((Q:Int) * 4294967296) 0 (by omega) (by omega) (by omega)]
 exact w_lin _ _ 0 (by omega) (by omega) (by omega)
end
theorem zero_mul_wrap (Q:Nat):IntKind.u64.wrap ((Q:Int) * ((0:Nat):Int))=((0:Nat):Int):=by rw [show (Q:Int) * ((0:Nat):Int)=((0:Nat):Int) by simp];exact u_wrap 0 (by omega)
set_option maxHeartbeats 1000000 in
set_option maxRecDepth 10000 in
theorem div64_big (hi lo:Nat) (h0:0 < hi) (hh:hi < 1000000000) (hl:lo < 18446744073709551616) (w:World) :
  Calls Tryd.prog 44 #[.int .u64 (hi:Int),.int .u64 (lo:Int),.int .u64 1000000000] w fun e w'=>(∃ r:Int,e=.returned (.tuple #[.int .u64 (((hi * 18446744073709551616+lo) / 1000000000:Nat):Int),.int .u64 r]))∧Drawn0 w w':=by
 have c1:((hi:Int) == 0)=false:=beq_eq_false_iff_ne.mpr (by omega)
 have c2:decide (1000000000≤(hi:Int))=false:=decide_eq_false (by omega)
 obtain ⟨U,S,V,Q,R,R2,Z,Q0,R0,d⟩:=divN hi lo hh hl
 clear h0 hl
 have c3:decide (4294967296≤(Q:Int))=false:=decide_eq_false (by have:=d.q;clear d c1 c2;omega)
 have n3:(4294967296≤Q)=False:=eq_false (by have:=d.q;clear d c1 c2 c3;omega)
 have n5:(4294967296≤Q0)=False:=eq_false (by have:=d.q0;clear d c1 c2 c3 n3;omega)
 have c5:decide (4294967296≤(Q0:Int))=false:=decide_eq_false (by have:=d.q0;clear d c1 c2 c3;omega)
 have e1:=d.e1
 have e2:bits .and .u64 17179869184000000000 4294967295=((0:Nat):Int):=u_mask 17179869184000000000 (by omega)
 have e3:=d.e3
 have e4:=d.e4
 have e5:=d.e5
 have e6:=d.e6
 have e6':=d.e6'
 have e7:=d.e7
 have e8:=d.e8
 have e9:=d.e9
 have e10:=zero_mul_wrap Q
 have e11:=d.e11
 have e12:=d.e12
 have e12':=d.e12'
 have e13:=d.e13
 have e14:=zero_mul_wrap Q0
 have eX:=d.eX
 have e15:=d.e15
 obtain ⟨N,hN⟩:∃ N:Nat,N=(hi * 18446744073709551616+lo) / 1000000000:=⟨_,rfl⟩
 rw [← hN] at e15 ⊢
 obtain ⟨X,hX⟩:∃ X:Nat,X=R0 * 4294967296:=⟨_,rfl⟩
 rw [← hX] at eX
 clear hN hX d
 obtain ⟨Y0,hY⟩:∃ Y:Nat,Y=0:=⟨_,rfl⟩
 rw [← hY] at e2 e5 e10 e14 eX
 have c4:decide ((Z:Int) < (Y0:Int))=false:=decide_eq_false (by rw [hY];exact Int.not_lt.mpr (Int.natCast_nonneg _))
 have c6:decide ((X:Int) < (Y0:Int))=false:=decide_eq_false (by rw [hY];exact Int.not_lt.mpr (Int.natCast_nonneg _))
 have n4:(Z < Y0)=False:=eq_false (by rw [hY];exact Nat.not_lt_zero _)
 have n6:(X < Y0)=False:=eq_false (by rw [hY];exact Nat.not_lt_zero _)
 clear hY
 go_enter Tryd.func44,Tryd.ntmps44
 go_wp2_with fail
 refine (lead64_at _).mono ?_
 rintro e w1 ⟨rfl,⟨nd,rfl⟩⟩
 go_wp2_with fail
 go_loopw [15,16] (fun q r wr=>q=.int .u64 Q∧r=.int .u64 R∧Drawn0 w wr) (fun _ _ _=>0)
 case atStart=>exact ⟨rfl,rfl,⟨nd,rfl⟩⟩
 case round =>
  obtain ⟨rfl,rfl,HD⟩:=hrel
  go_wp2_with fail
  go_loopw [18,16] (fun q r wr=>q=.int .u64 Q0∧r=.int .u64 R0∧Drawn0 w wr) (fun _ _ _=>0)
  case atStart=>exact ⟨rfl,rfl,HD⟩
  case round =>
   obtain ⟨rfl,rfl,HD2⟩:=hrel
   go_wp2_with fail
   go_ret2
   exact ⟨⟨_,rfl⟩,by repeat (first|exact HD2|apply Drawn0.step)⟩
end Go.Proofs.YtojkjhaobjidlaaDoor.P
namespace Go.Proofs.YtojkjhaobjidlaaDoor.P
open Go.RowKit Go.Lib Go.Proofs.YtojkjhaobjidlaaDoorW.PrintWords Go.Proofs.YtojkjhaobjidlaaDoorW.PrintLast
set_option linter.unusedVariables false
set_option linter.unusedSimpArgs false
def bill_nearest.f (a b c:Int):Option Int :=
 if 0≤a then (if a≤1000000000 then (if 0≤b then (if b≤4611686018427387904 then (if c=1000000000 then some ((a * b+500000000) / 1000000000) else none) else none) else none) else none) else none
theorem div64_at (hi lo:Nat) (hh:hi < 1000000000) (hl:lo < 18446744073709551616) (w:World) :
  Calls Tryd.prog 44 #[.int .u64 (hi:Int),.int .u64 (lo:Int),.int .u64 1000000000] w fun e w'=>(∃ r:Int,e=.returned (.tuple #[.int .u64 (((hi * 18446744073709551616+lo) / 1000000000:Nat):Int),.int .u64 r]))∧Drawn0 w w':=by
 by_cases h:0 < hi
 ·exact div64_big hi lo h hh hl w
 ·obtain rfl:hi=0:=by omega
  rw [Nat.zero_mul,Nat.zero_add]
  exact div64_small lo hl w
theorem near_sum (M:Nat) (hM:M / 18446744073709551616 < 999999999):∃ s k:Nat,(M % 18446744073709551616+500000000+0) % 18446744073709551616=s∧(M % 18446744073709551616+500000000+0) / 18446744073709551616=k∧s < 18446744073709551616∧M / 18446744073709551616+k < 1000000000∧(M / 18446744073709551616+k) * 18446744073709551616+s=M+500000000 :=
 ⟨_,_,rfl,rfl,by omega,by omega,by omega⟩
theorem prod_hi (a b:Nat) (ha:a≤1000000000) (hb:b≤4611686018427387904):a * b / 18446744073709551616 < 999999999:=by
 have h:a * b≤1000000000 * 4611686018427387904:=Nat.mul_le_mul ha hb
 generalize a * b=M at h ⊢
 omega
set_option maxHeartbeats 1000000 in
theorem nearest_walk (a b:Nat) (ha:a≤1000000000) (hb:b≤4611686018427387904) (w:World) :
  Calls Tryd.prog 30 #[.int .u64 (a:Int),.int .u64 (b:Int),.int .u64 1000000000] w fun e w'=>e=.returned (.int .i64 (wrap64 (((a * b+500000000) / 1000000000:Nat):Int)))∧Drawn0 w w':=by
 have hm:=mul64_f a b (by omega) (by omega)
 obtain ⟨s,k,hs,hk,hs2,hk2,hsum⟩:=near_sum (a * b) (prod_hi a b ha hb)
 have H1:=fun w=>bits_Mul64.calls (a:Int) (b:Int) _ _ w hm
 have H2:=fun w=>add64_run (a * b % 18446744073709551616) 500000000 0 (by omega) w
 rw [hs,hk] at H2
 have H3:=fun w=>div64_at (a * b / 18446744073709551616+k) s hk2 hs2 w
 rw [hsum] at H3
 have e1:IntKind.u64.wrap (((a * b / 18446744073709551616:Nat):Int)+(k:Int))=((a * b / 18446744073709551616+k:Nat):Int):=by
  rw [show ((a * b / 18446744073709551616:Nat):Int)+(k:Int)=((a * b / 18446744073709551616+k:Nat):Int) by omega]
  exact u_wrap _ (by omega)
 clear hm hs hk hs2 hk2 hsum ha hb
 obtain ⟨p,hp⟩:∃ p,p=a * b / 18446744073709551616+k:=⟨_,rfl⟩
 obtain ⟨h,hh⟩:∃ p,p=a * b / 18446744073709551616:=⟨_,rfl⟩
 obtain ⟨l,hl⟩:∃ p,p=a * b % 18446744073709551616:=⟨_,rfl⟩
 obtain ⟨n,hn⟩:∃ p,p=(a * b+500000000) / 1000000000:=⟨_,rfl⟩
 rw [← hn] at H3 ⊢
 rw [← hp] at H3 e1
 rw [← hh] at H1 e1
 rw [← hl] at H1 H2
 clear hp hh hl hn
 have H2':∀ w:World,(callFunc 43 #[.int .u64 (l:Int),.int .u64 500000000,.int .u64 0]).run Tryd.prog w=.ok (.value (.tuple #[.int .u64 (s:Int),.int .u64 (k:Int)])) w:=H2
 clear H2
 replace H1:=Aside0.mk H1
 replace H3:=Aside0.mk H3
 go_enter Tryd.func30,Tryd.ntmps30
 go_wp2_with fail
 refine (H1.out _).mono ?_
 rintro e w1 ⟨rfl,⟨n1,rfl⟩⟩
 go_wp2_with fail
 refine (H3.out _).mono ?_
 rintro e w1 ⟨⟨r,rfl⟩,⟨n2,rfl⟩⟩
 go_wp2_with fail
 go_ret
 exact ⟨rfl,by repeat (first|exact Drawn0.refl _|apply Drawn0.step)⟩
theorem bill_nearest.calls (a b c:Int) (r:Int) (w:World) (h:bill_nearest.f a b c=some r) :
  Calls Tryd.prog 30 #[.int .u64 a,.int .u64 b,.int .u64 c] w fun e w'=>e=.returned (.int .i64 r)∧Drawn0 w w':=by
 unfold bill_nearest.f at h
 by_cases h1:0≤a
 case neg=>rw [if_neg h1] at h;cases h
 by_cases h2:a≤1000000000
 case neg=>rw [if_pos h1,if_neg h2] at h;cases h
 by_cases h3:0≤b
 case neg=>rw [if_pos h1,if_pos h2,if_neg h3] at h;cases h
 by_cases h4:b≤4611686018427387904
 case neg=>rw [if_pos h1,if_pos h2,if_pos h3,if_neg h4] at h;cases h
 by_cases h5:c=1000000000
 case neg=>rw [if_pos h1,if_pos h2,if_pos h3,if_pos h4,if_neg h5] at h;cases h
 rw [if_pos h1,if_pos h2,if_pos h3,if_pos h4,if_pos h5] at h
 obtain rfl:=Option.some.inj h
 subst h5
 obtain ⟨x,rfl⟩:=Int.eq_ofNat_of_zero_le h1
 obtain ⟨y,rfl⟩:=Int.eq_ofNat_of_zero_le h3
 have hp:x * y≤1000000000 * 4611686018427387904:=Nat.mul_le_mul (by omega) (by omega)
 refine (nearest_walk x y (by omega) (by omega) w).mono ?_
 rintro e w' ⟨rfl,hd⟩
 refine ⟨?_,hd⟩
 rw [show (x:Int) * (y:Int)=((x * y:Nat):Int) from (Int.natCast_mul x y).symm]
 generalize x * y=M at hp ⊢
 have e1:((M:Int)+500000000) / 1000000000=(((M+500000000) / 1000000000:Nat):Int):=by omega
 rw [e1]
 generalize hN:(M+500000000) / 1000000000=N
 have hb:N≤4611686018427387905:=by omega
 have:wrap64 (N:Int)=N:=by
  clear hN e1 hp
  unfold wrap64
  omega
 rw [this]
end Go.Proofs.YtojkjhaobjidlaaDoor.P
namespace Go.Proofs.YtojkjhaobjidlaaDoor.P
open Go.RowKit Go.Proofs.YtojkjhaobjidlaaDoorW.PrintWords Go.Proofs.YtojkjhaobjidlaaDoorW.PrintLast Go.Proofs.YtojkjhaobjidlaaDoorW.PrintMore
attribute [local go_sem] max2_int min2_int max_two min_two max_three min_three max_four min_four
attribute [local go_sem] cell_twice
set_option linter.unusedVariables false
set_option linter.unusedSimpArgs false
def ident_digit.f (a0:Int):Option (Bool):=if 48≤a0 then (some (decide (a0≤57))) else (some false)
set_option maxHeartbeats 8000000 in
set_option maxRecDepth 100000 in
theorem ident_digit.calls (a0:Int) (r:Bool) (w:World) (h:ident_digit.f a0=some r) :
  Calls Tryd.prog 51 #[.int .u8 a0] w fun e w'=>e=.returned (.bool r)∧Drawn0 w w':=by
 have H:(if 48≤a0 then (some (decide (a0≤57))) else (some false))=some r:=h
 clear h
 by_cases c2:48≤a0
 ·rw [if_pos c2] at H
  have c2b0:decide (48≤a0)=true:=decide_eq_true c2
  clear c2
  obtain rfl:=Option.some.inj H
  go_enter Tryd.func51,Tryd.ntmps51
  go_wp2
  go_ret
  exact ⟨by first|rfl|(simp;done)|(simp [*];done),by repeat (first|exact Drawn0.refl _|apply Drawn0.step)⟩
 ·rw [if_neg c2] at H
  have c2b0:decide (48≤a0)=false:=decide_eq_false c2
  clear c2
  obtain rfl:=Option.some.inj H
  go_enter Tryd.func51,Tryd.ntmps51
  go_wp2
  go_ret
  exact ⟨by first|rfl|(simp;done)|(simp [*];done),by repeat (first|exact Drawn0.refl _|apply Drawn0.step)⟩
end Go.Proofs.YtojkjhaobjidlaaDoor.P
namespace Go.Proofs.YtojkjhaobjidlaaDoor.P
open Go.RowKit Go.Proofs.YtojkjhaobjidlaaDoorW.PrintWords Go.Proofs.YtojkjhaobjidlaaDoorW.PrintLast Go.Proofs.YtojkjhaobjidlaaDoorW.PrintMore
attribute [local go_sem] max2_int min2_int max_two min_two max_three min_three max_four min_four
attribute [local go_sem] cell_twice
set_option linter.unusedVariables false
set_option linter.unusedSimpArgs false
mutual
def ident_IsName.j0:Nat→ByteArray→Bool→Option (Bool)
 | 0,_,_=>none
 | k+1,x0,x21=>if x21=true then (some false) else (ident_IsName.l0 k x0 (x0.size:Int) 0)
def ident_IsName.l0:Nat→ByteArray→Int→Int→Option (Bool)
 | 0,_,_,_=>none
 | k+1,x0,x23,x24=>if x24 < x23 then (if 0≤x24 then (if x24 < (x0.size:Int) then ((ident_digit.f (bt x0 x24)).bind fun t102=>(if t102=true then (ident_IsName.l0 k x0 x23 (wrap64 (x24+1))) else (if (bt x0 x24)=95 then (ident_IsName.l0 k x0 x23 (wrap64 (x24+1))) else (if (bt x0 x24) < 97 then (some false) else (if (bt x0 x24) > 122 then (some false) else (ident_IsName.l0 k x0 x23 (wrap64 (x24+1)))))))) else (none)) else (none)) else (some true)
end
def ident_IsName.f (k:Nat) (a0:ByteArray):Option (Bool):=if a0.toList=([]:List UInt8) then (ident_IsName.j0 k a0 true) else (if (a0.size:Int) > 16 then (ident_IsName.j0 k a0 true) else (if 0 < (a0.size:Int) then ((ident_digit.f (bt a0 0)).bind fun t101=>(if t101=true then (ident_IsName.j0 k a0 true) else (ident_IsName.j0 k a0 ((bt a0 0) == 95)))) else (none)))
theorem ident_IsName.mono_l:∀ k,(∀ y0 y1,LeO (ident_IsName.j0 k y0 y1) (ident_IsName.j0 (k+1) y0 y1))∧(∀ y0 y1 y2,LeO (ident_IsName.l0 k y0 y1 y2) (ident_IsName.l0 (k+1) y0 y1 y2))
 | 0=>⟨fun _ _ r h=>by simp [ident_IsName.j0] at h,fun _ _ _ r h=>by simp [ident_IsName.l0] at h⟩
 | k+1=>by
  obtain ⟨ih0,ih1⟩:=ident_IsName.mono_l k
  refine ⟨?_,?_⟩
  ·intro y0 y1
   unfold ident_IsName.j0
   repeat' first
   | (with_reducible exact ih0 _ _)
   | (with_reducible exact ih1 _ _ _)
   | (with_reducible exact LeO.refl _)
   | (with_reducible exact LeO.none _)
   | (with_reducible refine LeO.ite ?_ ?_)
   | (with_reducible refine LeO.bind ?_ (fun _=>?_))
   | exact ih0 _ _
   | exact ih1 _ _ _
   | exact LeO.none _
   | refine LeO.ite ?_ ?_
   | refine LeO.bind ?_ (fun _=>?_)
  ·intro y0 y1 y2
   unfold ident_IsName.l0
   repeat' first
   | (with_reducible exact ih0 _ _)
   | (with_reducible exact ih1 _ _ _)
   | (with_reducible exact LeO.refl _)
   | (with_reducible exact LeO.none _)
   | (with_reducible refine LeO.ite ?_ ?_)
   | (with_reducible refine LeO.bind ?_ (fun _=>?_))
   | exact ih0 _ _
   | exact ih1 _ _ _
   | exact LeO.none _
   | refine LeO.ite ?_ ?_
   | refine LeO.bind ?_ (fun _=>?_)
theorem ident_IsName.mono:∀ a0 k,LeO (ident_IsName.f k a0) (ident_IsName.f (k+1) a0):=by
 intro a0 k
 obtain ⟨ih0,ih1⟩:=ident_IsName.mono_l k
 unfold ident_IsName.f
 repeat' first
   | (with_reducible exact ih0 _ _)
   | (with_reducible exact ih1 _ _ _)
   | (with_reducible exact LeO.refl _)
   | (with_reducible exact LeO.none _)
   | (with_reducible refine LeO.ite ?_ ?_)
   | (with_reducible refine LeO.bind ?_ (fun _=>?_))
   | exact ih0 _ _
   | exact ih1 _ _ _
   | exact LeO.none _
   | refine LeO.ite ?_ ?_
   | refine LeO.bind ?_ (fun _=>?_)
set_option maxHeartbeats 8000000 in
set_option maxRecDepth 100000 in
theorem ident_IsName.calls (k:Nat) (a0:ByteArray) (r:Bool) (w:World) (h:ident_IsName.f k a0=some r) :
  Calls Tryd.prog 38 #[.string a0] w fun e w'=>e=.returned (.bool r)∧Drawn0 w w':=by
 have H:(if a0.toList=([]:List UInt8) then (ident_IsName.j0 k a0 true) else (if (a0.size:Int) > 16 then (ident_IsName.j0 k a0 true) else (if 0 < (a0.size:Int) then ((ident_digit.f (bt a0 0)).bind fun t101=>(if t101=true then (ident_IsName.j0 k a0 true) else (ident_IsName.j0 k a0 ((bt a0 0) == 95)))) else (none))))=some r:=h
 clear h
 have HC2:=Aside0.mk H
 clear H
 go_enter Tryd.func38,Tryd.ntmps38
 go_upto_region 1 with (fail)
 go_cut [21] (fun v21 wc=>∃ (kq:Nat) (x21_1:Bool),v21=.bool x21_1∧Aside0 (ident_IsName.j0 kq a0 x21_1=some r)∧Aside0 (kq≤k)∧Drawn0 w wc)
 case first =>
  have H:=HC2.out
  clear HC2
  by_cases c3:a0.toList=([]:List UInt8)
  ·rw [if_pos c3] at H
   have c3b0:(a0.toList == ([]:List UInt8))=true:=beq_iff_eq.mpr c3
   have c3b1:(a0.toList != ([]:List UInt8))=false:=bne_eq_false_iff_eq.mpr c3
   clear c3
   (first|rw [c3b0]|(simp only [i64_w,i32_w];rw [c3b0])|skip)
   have H':=Aside0.mk H
   clear H
   go_wp2
   go_meet
   case rel=>exact ⟨_,(true),(by first|rfl|(simp;done)|(simp [*];done)),H',⟨by first|omega|exact Nat.le_refl _⟩,by repeat (first|exact Drawn0.refl _|apply Drawn0.step)⟩
  ·rw [if_neg c3] at H
   have c3b0:(a0.toList == ([]:List UInt8))=false:=beq_eq_false_iff_ne.mpr c3
   have c3b1:(a0.toList != ([]:List UInt8))=true:=bne_iff_ne.mpr c3
   (first|rw [c3b0]|(simp only [i64_w,i32_w];rw [c3b0])|skip)
   by_cases c4:(a0.size:Int) > 16
   ·rw [if_pos c4] at H
    have c4b0:decide (16 < (a0.size:Int))=true:=decide_eq_true c4
    have c4b1:decide (16 < a0.size)=true:=decide_eq_true (by omega)
    clear c4
    have H':=Aside0.mk H
    clear H
    go_wp2
    go_meet
    case rel=>exact ⟨_,(true),(by first|rfl|(simp;done)|(simp [*];done)),H',⟨by first|omega|exact Nat.le_refl _⟩,by repeat (first|exact Drawn0.refl _|apply Drawn0.step)⟩
   ·rw [if_neg c4] at H
    have c4b0:decide (16 < (a0.size:Int))=false:=decide_eq_false c4
    have c4b1:decide (16 < a0.size)=false:=decide_eq_false (by omega)
    clear c4
    by_cases c5:0 < (a0.size:Int)
    ·rw [if_pos c5] at H
     have c5b0:decide (0 < (a0.size:Int))=true:=decide_eq_true c5
     have c5b1:decide (0 < a0.size)=true:=decide_eq_true (by omega)
     clear c5
     replace H:=Option.bind_eq_some_iff.mp H
     obtain ⟨t101,A70,H⟩:=H
     replace H:(if t101=true then (ident_IsName.j0 k a0 true) else (ident_IsName.j0 k a0 ((bt a0 0) == 95)))=some r:=H
     have A7:=Aside0.mk A70
     clear A70
     by_cases c8:t101=true
     ·subst c8
      have H1:(ident_IsName.j0 k a0 true)=some r:=by rw [if_pos rfl] at H;exact H
      clear H
      have H:=H1
      clear H1
      have H':=Aside0.mk H
      clear H
      have p6:0≤(0:Int):=(by omega)
      have q6:0 < a0.size:=(by have:(0:Int) < (a0.size:Int):=of_decide_eq_true (by first|(with_reducible assumption)|assumption);omega)
      have hx6:∀ h:0 < a0.size,((a0[0]'h).toNat:Int)=bt a0 0:=bt_at a0 0
      clear p6
      have qi6:(0 < (a0.size:Int))=True:=eq_true (of_decide_eq_true (by first|(with_reducible assumption)|assumption))
      replace q6:=eq_true q6
      go_wp2_with (first|(go_at_call 51;(with_reducible refine (ident_digit.calls (bt a0 0) true _ A7.out).mono ?_);rintro e w' ⟨rfl,⟨nd,rfl⟩⟩))
      go_meet
      case rel=>exact ⟨_,(true),(by first|rfl|(simp;done)|(simp [*];done)),H',⟨by first|omega|exact Nat.le_refl _⟩,by repeat (first|exact Drawn0.refl _|apply Drawn0.step)⟩
     ·replace c8:=Bool.eq_false_iff.mpr c8
      subst c8
      have H1:(ident_IsName.j0 k a0 ((bt a0 0) == 95))=some r:=by rw [if_neg (show ¬ (false=true) by decide)] at H;exact H
      clear H
      have H:=H1
      clear H1
      have H':=Aside0.mk H
      clear H
      have p6:0≤(0:Int):=(by omega)
      have q6:0 < a0.size:=(by have:(0:Int) < (a0.size:Int):=of_decide_eq_true (by first|(with_reducible assumption)|assumption);omega)
      have hx6:∀ h:0 < a0.size,((a0[0]'h).toNat:Int)=bt a0 0:=bt_at a0 0
      clear p6
      have qi6:(0 < (a0.size:Int))=True:=eq_true (of_decide_eq_true (by first|(with_reducible assumption)|assumption))
      replace q6:=eq_true q6
      go_wp2_with (first|(go_at_call 51;(with_reducible refine (ident_digit.calls (bt a0 0) false _ A7.out).mono ?_);rintro e w' ⟨rfl,⟨nd,rfl⟩⟩;have p9:0≤(0:Int):=(by omega);have q9:0 < a0.size:=(by have:(0:Int) < (a0.size:Int):=of_decide_eq_true (by first|(with_reducible assumption)|assumption);omega);have hx9:∀ h:0 < a0.size,((a0[0]'h).toNat:Int)=bt a0 0:=bt_at a0 0;clear p9;have qi9:(0 < (a0.size:Int))=True:=eq_true (of_decide_eq_true (by first|(with_reducible assumption)|assumption));replace q9:=eq_true q9))
      go_meet
      case rel=>exact ⟨_,(((bt a0 0) == 95)),(by first|rfl|(simp;done)|(simp [*];done)),H',⟨by first|omega|exact Nat.le_refl _⟩,by repeat (first|exact Drawn0.refl _|apply Drawn0.step)⟩
    ·rw [if_neg c5] at H
     exact absurd H (by simp)
 case rest =>
  clear HC2
  try clear p2
  try clear c3
  try clear c3b0
  try clear c3b1
  try clear c4
  try clear c4b0
  try clear c4b1
  try clear c5
  try clear c5b0
  try clear c5b1
  try clear p6
  try clear q6
  try clear hx6
  try clear qi6
  try clear c8
  try clear p9
  try clear q9
  try clear hx9
  try clear qi9
  try clear p6
  try clear p9
  try clear q6
  try clear q9
  obtain ⟨kq,x21_1,rfl,HA,HJ1,⟨mc1,rfl⟩⟩:=hcut
  cases kq with
  | zero=>exact absurd HA.out (by simp [ident_IsName.j0])
  | succ kj1 =>
   have H:=HA.out
   clear HA
   simp only [ident_IsName.j0] at H
   by_cases c10:x21_1=true
   ·subst c10
    have H1:(some false)=some r:=by rw [if_pos rfl] at H;exact H
    clear H
    have H:=H1
    clear H1
    obtain rfl:=Option.some.inj H
    go_wp2
    go_ret
    exact ⟨by first|rfl|(simp;done)|(simp [*];done),by repeat (first|exact Drawn0.refl _|apply Drawn0.step)⟩
   ·replace c10:=Bool.eq_false_iff.mpr c10
    subst c10
    have H1:(ident_IsName.l0 kj1 a0 (a0.size:Int) 0)=some r:=by rw [if_neg (show ¬ (false=true) by decide)] at H;exact H
    clear H
    have H:=H1
    clear H1
    have H':=Aside0.mk H
    clear H
    go_wp2
    go_loopg [24] kj1 (fun kq v24 w'=>∃ (x24_2:Int),v24=.int .i64 x24_2∧Aside0 (ident_IsName.l0 kq a0 (a0.size:Int) x24_2=some r)∧Aside0 (kq≤kj1)∧Drawn0 w w')
    case atStart=>exact ⟨(0),(by first|rfl|(simp;done)|(simp [*];done)),H',⟨Nat.le_refl _⟩,by repeat (first|exact Drawn0.refl _|apply Drawn0.step)⟩
    case round =>
     clear H'
     try clear c1
     try clear p2
     try clear c3
     try clear c3b0
     try clear c3b1
     try clear c4
     try clear c4b0
     try clear c4b1
     try clear c5
     try clear c5b0
     try clear c5b1
     try clear p6
     try clear q6
     try clear hx6
     try clear qi6
     try clear c8
     try clear p9
     try clear q9
     try clear hx9
     try clear qi9
     try clear c10
     try clear p2
     try clear p6
     try clear p9
     try clear q6
     try clear q9
     obtain ⟨x24_2,rfl,HA,HK2,⟨m2,rfl⟩⟩:=hrel
     cases gk with
     | zero=>exact absurd HA.out (by simp [ident_IsName.l0])
     | succ k2 =>
      have H:=HA.out
      clear HA
      simp only [ident_IsName.l0] at H
      by_cases c11:x24_2 < (a0.size:Int)
      ·rw [if_pos c11] at H
       have c11b0:decide (x24_2 < (a0.size:Int))=true:=decide_eq_true c11
       clear c11
       by_cases c12:0≤x24_2
       ·rw [if_pos c12] at H
        have c12b0:decide (0≤x24_2)=true:=decide_eq_true c12
        clear c12
        by_cases c13:x24_2 < (a0.size:Int)
        ·rw [if_pos c13] at H
         have c13b0:decide (x24_2 < (a0.size:Int))=true:=decide_eq_true c13
         clear c13
         replace H:=Option.bind_eq_some_iff.mp H
         obtain ⟨t102,A150,H⟩:=H
         replace H:(if t102=true then (ident_IsName.l0 k2 a0 (a0.size:Int) (wrap64 (x24_2+1))) else (if (bt a0 x24_2)=95 then (ident_IsName.l0 k2 a0 (a0.size:Int) (wrap64 (x24_2+1))) else (if (bt a0 x24_2) < 97 then (some false) else (if (bt a0 x24_2) > 122 then (some false) else (ident_IsName.l0 k2 a0 (a0.size:Int) (wrap64 (x24_2+1)))))))=some r:=H
         have A15:=Aside0.mk A150
         clear A150
         by_cases c16:t102=true
         ·subst c16
          have H1:(ident_IsName.l0 k2 a0 (a0.size:Int) (wrap64 (x24_2+1)))=some r:=by rw [if_pos rfl] at H;exact H
          clear H
          have H:=H1
          clear H1
          have H':=Aside0.mk H
          clear H
          have p14:0≤(x24_2:Int):=of_decide_eq_true (by first|(with_reducible assumption)|assumption)
          have q14:x24_2 < (a0.size:Int):=of_decide_eq_true (by first|(with_reducible assumption)|assumption)
          have hx14:=bt_at a0 x24_2
          replace p14:=eq_true p14
          replace q14:=eq_true q14
          go_wp2_with (first|((with_reducible refine gate_callee (f:=51) rfl ?_);refine goesL_ (some 31) rfl rfl Tryd.func51 (by kernel_rfl) rfl #[.int .u8 (bt a0 x24_2)] rfl (by (try simp only [List.map_toArray,List.map_cons,List.map_nil]);first|done|rfl|(simp only [List.length_drop,List.length_take];rfl)) ?_;(with_reducible refine (ident_digit.calls (bt a0 x24_2) true _ A15.out).mono ?_);rintro e w' ⟨rfl,⟨nd,rfl⟩⟩;refine ⟨_,rfl,?_⟩))
          go_roundg k2
          case measure=>have:=HJ1.out;have:=HK2.out;omega
          case rel=>exact ⟨(wrap64 (x24_2+1)),(by first|rfl|(simp;done)|(simp [*];done)),H',⟨by have:=HJ1.out;have:=HK2.out;omega⟩,by repeat (first|exact Drawn0.refl _|apply Drawn0.step)⟩
         ·replace c16:=Bool.eq_false_iff.mpr c16
          subst c16
          have H1:(if (bt a0 x24_2)=95 then (ident_IsName.l0 k2 a0 (a0.size:Int) (wrap64 (x24_2+1))) else (if (bt a0 x24_2) < 97 then (some false) else (if (bt a0 x24_2) > 122 then (some false) else (ident_IsName.l0 k2 a0 (a0.size:Int) (wrap64 (x24_2+1))))))=some r:=by rw [if_neg (show ¬ (false=true) by decide)] at H;exact H
          clear H
          have H:=H1
          clear H1
          by_cases c17:(bt a0 x24_2)=95
          ·rw [if_pos c17] at H
           have c17b0:((bt a0 x24_2) == 95)=true:=beq_iff_eq.mpr c17
           have c17b1:((bt a0 x24_2) != 95)=false:=bne_eq_false_iff_eq.mpr c17
           clear c17
           have H':=Aside0.mk H
           clear H
           have p14:0≤(x24_2:Int):=of_decide_eq_true (by first|(with_reducible assumption)|assumption)
           have q14:x24_2 < (a0.size:Int):=of_decide_eq_true (by first|(with_reducible assumption)|assumption)
           have hx14:=bt_at a0 x24_2
           replace p14:=eq_true p14
           replace q14:=eq_true q14
           go_wp2_with (first|((with_reducible refine gate_callee (f:=51) rfl ?_);refine goesL_ (some 31) rfl rfl Tryd.func51 (by kernel_rfl) rfl #[.int .u8 (bt a0 x24_2)] rfl (by (try simp only [List.map_toArray,List.map_cons,List.map_nil]);first|done|rfl|(simp only [List.length_drop,List.length_take];rfl)) ?_;(with_reducible refine (ident_digit.calls (bt a0 x24_2) false _ A15.out).mono ?_);rintro e w' ⟨rfl,⟨nd,rfl⟩⟩;refine ⟨_,rfl,?_⟩))
           go_roundg k2
           case measure=>have:=HJ1.out;have:=HK2.out;omega
           case rel=>exact ⟨(wrap64 (x24_2+1)),(by first|rfl|(simp;done)|(simp [*];done)),H',⟨by have:=HJ1.out;have:=HK2.out;omega⟩,by repeat (first|exact Drawn0.refl _|apply Drawn0.step)⟩
          ·rw [if_neg c17] at H
           have c17b0:((bt a0 x24_2) == 95)=false:=beq_eq_false_iff_ne.mpr c17
           have c17b1:((bt a0 x24_2) != 95)=true:=bne_iff_ne.mpr c17
           by_cases c18:(bt a0 x24_2) < 97
           ·rw [if_pos c18] at H
            have c18b0:decide ((bt a0 x24_2) < 97)=true:=decide_eq_true c18
            clear c18
            obtain rfl:=Option.some.inj H
            have p14:0≤(x24_2:Int):=of_decide_eq_true (by first|(with_reducible assumption)|assumption)
            have q14:x24_2 < (a0.size:Int):=of_decide_eq_true (by first|(with_reducible assumption)|assumption)
            have hx14:=bt_at a0 x24_2
            replace p14:=eq_true p14
            replace q14:=eq_true q14
            go_wp2_with (first|((with_reducible refine gate_callee (f:=51) rfl ?_);refine goesL_ (some 31) rfl rfl Tryd.func51 (by kernel_rfl) rfl #[.int .u8 (bt a0 x24_2)] rfl (by (try simp only [List.map_toArray,List.map_cons,List.map_nil]);first|done|rfl|(simp only [List.length_drop,List.length_take];rfl)) ?_;(with_reducible refine (ident_digit.calls (bt a0 x24_2) false _ A15.out).mono ?_);rintro e w' ⟨rfl,⟨nd,rfl⟩⟩;refine ⟨_,rfl,?_⟩))
            go_ret
            exact ⟨by first|rfl|(simp;done)|(simp [*];done),by repeat (first|exact Drawn0.refl _|apply Drawn0.step)⟩
           ·rw [if_neg c18] at H
            have c18b0:decide ((bt a0 x24_2) < 97)=false:=decide_eq_false c18
            clear c18
            by_cases c19:(bt a0 x24_2) > 122
            ·rw [if_pos c19] at H
             have c19b0:decide (122 < (bt a0 x24_2))=true:=decide_eq_true c19
             clear c19
             obtain rfl:=Option.some.inj H
             have p14:0≤(x24_2:Int):=of_decide_eq_true (by first|(with_reducible assumption)|assumption)
             have q14:x24_2 < (a0.size:Int):=of_decide_eq_true (by first|(with_reducible assumption)|assumption)
             have hx14:=bt_at a0 x24_2
             replace p14:=eq_true p14
             replace q14:=eq_true q14
             go_wp2_with (first|((with_reducible refine gate_callee (f:=51) rfl ?_);refine goesL_ (some 31) rfl rfl Tryd.func51 (by kernel_rfl) rfl #[.int .u8 (bt a0 x24_2)] rfl (by (try simp only [List.map_toArray,List.map_cons,List.map_nil]);first|done|rfl|(simp only [List.length_drop,List.length_take];rfl)) ?_;(with_reducible refine (ident_digit.calls (bt a0 x24_2) false _ A15.out).mono ?_);rintro e w' ⟨rfl,⟨nd,rfl⟩⟩;refine ⟨_,rfl,?_⟩))
             go_ret
             exact ⟨by first|rfl|(simp;done)|(simp [*];done),by repeat (first|exact Drawn0.refl _|apply Drawn0.step)⟩
            ·rw [if_neg c19] at H
             have c19b0:decide (122 < (bt a0 x24_2))=false:=decide_eq_false c19
             clear c19
             have H':=Aside0.mk H
             clear H
             have p14:0≤(x24_2:Int):=of_decide_eq_true (by first|(with_reducible assumption)|assumption)
             have q14:x24_2 < (a0.size:Int):=of_decide_eq_true (by first|(with_reducible assumption)|assumption)
             have hx14:=bt_at a0 x24_2
             replace p14:=eq_true p14
             replace q14:=eq_true q14
             go_wp2_with (first|((with_reducible refine gate_callee (f:=51) rfl ?_);refine goesL_ (some 31) rfl rfl Tryd.func51 (by kernel_rfl) rfl #[.int .u8 (bt a0 x24_2)] rfl (by (try simp only [List.map_toArray,List.map_cons,List.map_nil]);first|done|rfl|(simp only [List.length_drop,List.length_take];rfl)) ?_;(with_reducible refine (ident_digit.calls (bt a0 x24_2) false _ A15.out).mono ?_);rintro e w' ⟨rfl,⟨nd,rfl⟩⟩;refine ⟨_,rfl,?_⟩))
             go_roundg k2
             case measure=>have:=HJ1.out;have:=HK2.out;omega
             case rel=>exact ⟨(wrap64 (x24_2+1)),(by first|rfl|(simp;done)|(simp [*];done)),H',⟨by have:=HJ1.out;have:=HK2.out;omega⟩,by repeat (first|exact Drawn0.refl _|apply Drawn0.step)⟩
        ·rw [if_neg c13] at H
         exact absurd H (by simp)
       ·rw [if_neg c12] at H
        exact absurd H (by simp)
      ·rw [if_neg c11] at H
       have c11b0:decide (x24_2 < (a0.size:Int))=false:=decide_eq_false c11
       clear c11
       obtain rfl:=Option.some.inj H
       go_wp2
       go_ret
       exact ⟨by first|rfl|(simp;done)|(simp [*];done),by repeat (first|exact Drawn0.refl _|apply Drawn0.step)⟩
end Go.Proofs.YtojkjhaobjidlaaDoor.P
namespace Go.Proofs.YtojkjhaobjidlaaDoor.P
open Go.RowKit Go.Proofs.YtojkjhaobjidlaaDoorW.PrintWords Go.Proofs.YtojkjhaobjidlaaDoorW.PrintLast Go.Proofs.YtojkjhaobjidlaaDoorW.PrintMore
attribute [local go_sem] max2_int min2_int max_two min_two max_three min_three max_four min_four
attribute [local go_sem] cell_twice
set_option linter.unusedVariables false
set_option linter.unusedSimpArgs false
mutual
def product_checkLengths.l0:Nat→List Int→Int→Int→ByteArray→Int→Int→Int→Int→List Int→List Int→Option (Int)
 | 0,_,_,_,_,_,_,_,_,_,_=>none
 | k+1,x24,x25,x26,x102000,x102001,x102002,x102003,x102004,x102005,x102006=>if x26 < x25 then (if 0≤x26 then (if x26 < (x24.length:Int) then (if (rd x24 x26) < 100 then (product_checkLengths.j1 k x26 (rd x24 x26) x24 x25 x26 true x102000 x102001 x102002 x102003 x102004 x102005 x102006) else (product_checkLengths.j1 k x26 (rd x24 x26) x24 x25 x26 (decide ((rd x24 x26) > 20000)) x102000 x102001 x102002 x102003 x102004 x102005 x102006)) else (none)) else (none)) else (product_checkLengths.l1 k x102006 (x102006.length:Int) 0)
def product_checkLengths.j1:Nat→Int→Int→List Int→Int→Int→Bool→ByteArray→Int→Int→Int→Int→List Int→List Int→Option (Int)
 | 0,_,_,_,_,_,_,_,_,_,_,_,_,_=>none
 | k+1,x4,x5,x24,x25,x26,x36,x102000,x102001,x102002,x102003,x102004,x102005,x102006=>if x36=true then (some 9) else (if x4 > 0 then (if 0≤(wrap64 (x4 - 1)) then (if (wrap64 (x4 - 1)) < (x102005.length:Int) then (if x5≤(rd x102005 (wrap64 (x4 - 1))) then (some 11) else (product_checkLengths.l0 k x24 x25 (wrap64 (x26+1)) x102000 x102001 x102002 x102003 x102004 x102005 x102006)) else (none)) else (none)) else (product_checkLengths.l0 k x24 x25 (wrap64 (x26+1)) x102000 x102001 x102002 x102003 x102004 x102005 x102006))
def product_checkLengths.l1:Nat→List Int→Int→Int→Option (Int)
 | 0,_,_,_=>none
 | k+1,x51,x52,x53=>if x53 < x52 then (if 0≤x53 then (if x53 < (x51.length:Int) then (if (rd x51 x53) < 0 then (some 9) else (if (rd x51 x53) > 1000000 then (some 9) else (product_checkLengths.l1 k x51 x52 (wrap64 (x53+1))))) else (none)) else (none)) else (some 0)
end
def product_checkLengths.f (k:Nat) (a0_0:ByteArray) (a0_1:Int) (a0_2:Int) (a0_3:Int) (a0_4:Int) (l0_5:List Int) (l0_6:List Int):Option (Int):=if (l0_5.length:Int)=0 then (some 3) else (if (l0_5.length:Int) > 8 then (some 4) else (if (l0_5.length:Int)=(l0_6.length:Int) then (product_checkLengths.l0 k l0_5 (l0_5.length:Int) 0 a0_0 a0_1 a0_2 a0_3 a0_4 l0_5 l0_6) else (some 19)))
theorem product_checkLengths.mono_l:∀ k,(∀ y0 y1 y2 y3 y4 y5 y6 y7 y8 y9,LeO (product_checkLengths.l0 k y0 y1 y2 y3 y4 y5 y6 y7 y8 y9) (product_checkLengths.l0 (k+1) y0 y1 y2 y3 y4 y5 y6 y7 y8 y9))∧(∀ y0 y1 y2 y3 y4 y5 y6 y7 y8 y9 y10 y11 y12,LeO (product_checkLengths.j1 k y0 y1 y2 y3 y4 y5 y6 y7 y8 y9 y10 y11 y12) (product_checkLengths.j1 (k+1) y0 y1 y2 y3 y4 y5 y6 y7 y8 y9 y10 y11 y12))∧(∀ y0 y1 y2,LeO (product_checkLengths.l1 k y0 y1 y2) (product_checkLengths.l1 (k+1) y0 y1 y2))
 | 0=>⟨fun _ _ _ _ _ _ _ _ _ _ r h=>by simp [product_checkLengths.l0] at h,fun _ _ _ _ _ _ _ _ _ _ _ _ _ r h=>by simp [product_checkLengths.j1] at h,fun _ _ _ r h=>by simp [product_checkLengths.l1] at h⟩
 | k+1=>by
  obtain ⟨ih0,ih1,ih2⟩:=product_checkLengths.mono_l k
  refine ⟨?_,?_,?_⟩
  ·intro y0 y1 y2 y3 y4 y5 y6 y7 y8 y9
   unfold product_checkLengths.l0
   repeat' first
   | (with_reducible exact ih0 _ _ _ _ _ _ _ _ _ _)
   | (with_reducible exact ih1 _ _ _ _ _ _ _ _ _ _ _ _ _)
   | (with_reducible exact ih2 _ _ _)
   | (with_reducible exact LeO.refl _)
   | (with_reducible exact LeO.none _)
   | (with_reducible refine LeO.ite ?_ ?_)
   | (with_reducible refine LeO.bind ?_ (fun _=>?_))
   | exact ih0 _ _ _ _ _ _ _ _ _ _
   | exact ih1 _ _ _ _ _ _ _ _ _ _ _ _ _
   | exact ih2 _ _ _
   | exact LeO.none _
   | refine LeO.ite ?_ ?_
   | refine LeO.bind ?_ (fun _=>?_)
  ·intro y0 y1 y2 y3 y4 y5 y6 y7 y8 y9 y10 y11 y12
   unfold product_checkLengths.j1
   repeat' first
   | (with_reducible exact ih0 _ _ _ _ _ _ _ _ _ _)
   | (with_reducible exact ih1 _ _ _ _ _ _ _ _ _ _ _ _ _)
   | (with_reducible exact ih2 _ _ _)
   | (with_reducible exact LeO.refl _)
   | (with_reducible exact LeO.none _)
   | (with_reducible refine LeO.ite ?_ ?_)
   | (with_reducible refine LeO.bind ?_ (fun _=>?_))
   | exact ih0 _ _ _ _ _ _ _ _ _ _
   | exact ih1 _ _ _ _ _ _ _ _ _ _ _ _ _
   | exact ih2 _ _ _
   | exact LeO.none _
   | refine LeO.ite ?_ ?_
   | refine LeO.bind ?_ (fun _=>?_)
  ·intro y0 y1 y2
   unfold product_checkLengths.l1
   repeat' first
   | (with_reducible exact ih0 _ _ _ _ _ _ _ _ _ _)
   | (with_reducible exact ih1 _ _ _ _ _ _ _ _ _ _ _ _ _)
   | (with_reducible exact ih2 _ _ _)
   | (with_reducible exact LeO.refl _)
   | (with_reducible exact LeO.none _)
   | (with_reducible refine LeO.ite ?_ ?_)
   | (with_reducible refine LeO.bind ?_ (fun _=>?_))
   | exact ih0 _ _ _ _ _ _ _ _ _ _
   | exact ih1 _ _ _ _ _ _ _ _ _ _ _ _ _
   | exact ih2 _ _ _
   | exact LeO.none _
   | refine LeO.ite ?_ ?_
   | refine LeO.bind ?_ (fun _=>?_)
theorem product_checkLengths.mono:∀ a0 a1 a2 a3 a4 a5 a6 k,LeO (product_checkLengths.f k a0 a1 a2 a3 a4 a5 a6) (product_checkLengths.f (k+1) a0 a1 a2 a3 a4 a5 a6):=by
 intro a0 a1 a2 a3 a4 a5 a6 k
 obtain ⟨ih0,ih1,ih2⟩:=product_checkLengths.mono_l k
 unfold product_checkLengths.f
 repeat' first
   | (with_reducible exact ih0 _ _ _ _ _ _ _ _ _ _)
   | (with_reducible exact ih1 _ _ _ _ _ _ _ _ _ _ _ _ _)
   | (with_reducible exact ih2 _ _ _)
   | (with_reducible exact LeO.refl _)
   | (with_reducible exact LeO.none _)
   | (with_reducible refine LeO.ite ?_ ?_)
   | (with_reducible refine LeO.bind ?_ (fun _=>?_))
   | exact ih0 _ _ _ _ _ _ _ _ _ _
   | exact ih1 _ _ _ _ _ _ _ _ _ _ _ _ _
   | exact ih2 _ _ _
   | exact LeO.none _
   | refine LeO.ite ?_ ?_
   | refine LeO.bind ?_ (fun _=>?_)
set_option maxHeartbeats 8000000 in
set_option maxRecDepth 100000 in
theorem product_checkLengths.calls (k:Nat) (a0_0:ByteArray) (a0_1:Int) (a0_2:Int) (a0_3:Int) (a0_4:Int) (A0_5:Option Addr) (c0_5:Nat) (l0_5:List Int) (A0_6:Option Addr) (c0_6:Nat) (l0_6:List Int) (r:Int) (w:World) (hr0_5:Kd.C (Kd.int .i64) w A0_5 l0_5.length l0_5) (hc0_5:l0_5.length≤c0_5) (hr0_6:Kd.C (Kd.int .i64) w A0_6 l0_6.length l0_6) (hc0_6:l0_6.length≤c0_6) (h:product_checkLengths.f k a0_0 a0_1 a0_2 a0_3 a0_4 l0_5 l0_6=some r) :
  Calls Tryd.prog 41 #[.agg #[.string a0_0,.int .i64 a0_1,.int .i64 a0_2,.int .i64 a0_3,.int .i64 a0_4,.slice A0_5 l0_5.length c0_5,.slice A0_6 l0_6.length c0_6]] w fun e w'=>e=.returned (.int .i64 r)∧Below w.heap.size w w':=by
 have hu53:=Tryd.underlying53
 have HR0_5:=Aside0.mk hr0_5
 have HC0_5:=Aside0.mk hc0_5
 clear hr0_5 hc0_5
 have HR0_6:=Aside0.mk hr0_6
 have HC0_6:=Aside0.mk hc0_6
 clear hr0_6 hc0_6
 have HB:=Aside0.mk (Below.refl w.heap.size w)
 have H:(if (l0_5.length:Int)=0 then (some 3) else (if (l0_5.length:Int) > 8 then (some 4) else (if (l0_5.length:Int)=(l0_6.length:Int) then (product_checkLengths.l0 k l0_5 (l0_5.length:Int) 0 a0_0 a0_1 a0_2 a0_3 a0_4 l0_5 l0_6) else (some 19))))=some r:=h
 clear h
 by_cases c2:(l0_5.length:Int)=0
 ·rw [if_pos c2] at H
  have c2b0:((l0_5.length:Int) == 0)=true:=beq_iff_eq.mpr c2
  have c2b1:((l0_5.length:Int) != 0)=false:=bne_eq_false_iff_eq.mpr c2
  clear c2
  obtain rfl:=Option.some.inj H
  go_enter Tryd.func41,Tryd.ntmps41
  go_wp2_with (first|((with_reducible refine gate_dst (N:=1) rfl ?_);refine box_event ?hg (N:=1) ?hd (cs:=#[.string a0_0,.int .i64 a0_1,.int .i64 a0_2,.int .i64 a0_3,.int .i64 a0_4,.slice A0_5 l0_5.length c0_5,.slice A0_6 l0_6.length c0_6]) (t:=53) ?hr ?_;(case hd=>rfl);(case hg=>rfl);(case hr=>first|(go_simp;done)|(go_simp;rfl));intro gb101 hg w3 hbox hb;have n0_:=Aside0.mk (below_step (by repeat (first|(with_reducible first|exact HB.out|apply below_alloc|apply pw_below_drewN|apply below_drew1)|exact HB.out)) hb);have n1_:=Aside0.mk (hbox);have n2_:=Aside0.mk ((by rw [hg];exact (below_size (by repeat (first|(with_reducible first|exact HB.out|apply below_alloc|apply pw_below_drewN|apply below_drew1)|exact HB.out))):w.heap.size≤gb101));have n3_:=Aside0.mk ((by rw [hg];exact (below_size (by repeat (first|(with_reducible first|exact HB.out|apply below_alloc|apply pw_below_drewN|apply below_drew1)|exact HB.out))):w.heap.size≤gb101));clear HB;have HB:=n0_;have BK101:=n1_;have GW101:=n2_;have GE101:=n3_;clear n0_ n1_ n2_ n3_;clear hb hbox hg;have hcz4_0:w3.cell? ⟨gb101,0,none⟩=some (.string a0_0):=(blk_cell BK101.out 0).trans rfl;have hcz4_1:w3.cell? ⟨gb101,1,none⟩=some (.int .i64 a0_1):=(blk_cell BK101.out 1).trans rfl;have hcz4_2:w3.cell? ⟨gb101,2,none⟩=some (.int .i64 a0_2):=(blk_cell BK101.out 2).trans rfl;have hcz4_3:w3.cell? ⟨gb101,3,none⟩=some (.int .i64 a0_3):=(blk_cell BK101.out 3).trans rfl;have hcz4_4:w3.cell? ⟨gb101,4,none⟩=some (.int .i64 a0_4):=(blk_cell BK101.out 4).trans rfl;have hcz4_5:w3.cell? ⟨gb101,5,none⟩=some (.slice A0_5 l0_5.length c0_5):=(blk_cell BK101.out 5).trans rfl;have hcz4_6:w3.cell? ⟨gb101,6,none⟩=some (.slice A0_6 l0_6.length c0_6):=(blk_cell BK101.out 6).trans rfl;have hfz4_0:=blk_frozen BK101.out 0;have hfz4_1:=blk_frozen BK101.out 1;have hfz4_2:=blk_frozen BK101.out 2;have hfz4_3:=blk_frozen BK101.out 3;have hfz4_4:=blk_frozen BK101.out 4;have hfz4_5:=blk_frozen BK101.out 5;have hfz4_6:=blk_frozen BK101.out 6))
  go_ret
  exact ⟨by first|rfl|(simp [errW_none,errW_some]<;>rfl)|(simp [*,errW_none,errW_some]<;>rfl),by repeat (first|(with_reducible first|exact HB.out|apply below_alloc|apply pw_below_drewN|apply below_drew1|refine below_set ?_ GE101.out)|exact HB.out)⟩
 ·rw [if_neg c2] at H
  have c2b0:((l0_5.length:Int) == 0)=false:=beq_eq_false_iff_ne.mpr c2
  have c2b1:((l0_5.length:Int) != 0)=true:=bne_iff_ne.mpr c2
  have c2b2:¬ (l0_5=[]):=fun h_=>c2 (by rw [h_];rfl)
  by_cases c5:(l0_5.length:Int) > 8
  ·rw [if_pos c5] at H
   have c5b0:decide (8 < (l0_5.length:Int))=true:=decide_eq_true c5
   have c5b1:decide (8 < l0_5.length)=true:=decide_eq_true (by omega)
   clear c5
   obtain rfl:=Option.some.inj H
   go_enter Tryd.func41,Tryd.ntmps41
   go_wp2_with (first|((with_reducible refine gate_dst (N:=1) rfl ?_);refine box_event ?hg (N:=1) ?hd (cs:=#[.string a0_0,.int .i64 a0_1,.int .i64 a0_2,.int .i64 a0_3,.int .i64 a0_4,.slice A0_5 l0_5.length c0_5,.slice A0_6 l0_6.length c0_6]) (t:=53) ?hr ?_;(case hd=>rfl);(case hg=>rfl);(case hr=>first|(go_simp;done)|(go_simp;rfl));intro gb101 hg w6 hbox hb;have n0_:=Aside0.mk (below_step (by repeat (first|(with_reducible first|exact HB.out|apply below_alloc|apply pw_below_drewN|apply below_drew1)|exact HB.out)) hb);have n1_:=Aside0.mk (hbox);have n2_:=Aside0.mk ((by rw [hg];exact (below_size (by repeat (first|(with_reducible first|exact HB.out|apply below_alloc|apply pw_below_drewN|apply below_drew1)|exact HB.out))):w.heap.size≤gb101));have n3_:=Aside0.mk ((by rw [hg];exact (below_size (by repeat (first|(with_reducible first|exact HB.out|apply below_alloc|apply pw_below_drewN|apply below_drew1)|exact HB.out))):w.heap.size≤gb101));clear HB;have HB:=n0_;have BK101:=n1_;have GW101:=n2_;have GE101:=n3_;clear n0_ n1_ n2_ n3_;clear hb hbox hg;have hcz7_0:w6.cell? ⟨gb101,0,none⟩=some (.string a0_0):=(blk_cell BK101.out 0).trans rfl;have hcz7_1:w6.cell? ⟨gb101,1,none⟩=some (.int .i64 a0_1):=(blk_cell BK101.out 1).trans rfl;have hcz7_2:w6.cell? ⟨gb101,2,none⟩=some (.int .i64 a0_2):=(blk_cell BK101.out 2).trans rfl;have hcz7_3:w6.cell? ⟨gb101,3,none⟩=some (.int .i64 a0_3):=(blk_cell BK101.out 3).trans rfl;have hcz7_4:w6.cell? ⟨gb101,4,none⟩=some (.int .i64 a0_4):=(blk_cell BK101.out 4).trans rfl;have hcz7_5:w6.cell? ⟨gb101,5,none⟩=some (.slice A0_5 l0_5.length c0_5):=(blk_cell BK101.out 5).trans rfl;have hcz7_6:w6.cell? ⟨gb101,6,none⟩=some (.slice A0_6 l0_6.length c0_6):=(blk_cell BK101.out 6).trans rfl;have hfz7_0:=blk_frozen BK101.out 0;have hfz7_1:=blk_frozen BK101.out 1;have hfz7_2:=blk_frozen BK101.out 2;have hfz7_3:=blk_frozen BK101.out 3;have hfz7_4:=blk_frozen BK101.out 4;have hfz7_5:=blk_frozen BK101.out 5;have hfz7_6:=blk_frozen BK101.out 6))
   go_ret
   exact ⟨by first|rfl|(simp [errW_none,errW_some]<;>rfl)|(simp [*,errW_none,errW_some]<;>rfl),by repeat (first|(with_reducible first|exact HB.out|apply below_alloc|apply pw_below_drewN|apply below_drew1|refine below_set ?_ GE101.out)|exact HB.out)⟩
  ·rw [if_neg c5] at H
   have c5b0:decide (8 < (l0_5.length:Int))=false:=decide_eq_false c5
   have c5b1:decide (8 < l0_5.length)=false:=decide_eq_false (by omega)
   clear c5
   by_cases c8:(l0_5.length:Int)=(l0_6.length:Int)
   ·rw [if_pos c8] at H
    have c8b0:((l0_5.length:Int) == (l0_6.length:Int))=true:=beq_iff_eq.mpr c8
    have c8b1:((l0_5.length:Int) != (l0_6.length:Int))=false:=bne_eq_false_iff_eq.mpr c8
    have c8b2:(l0_5.length == l0_6.length)=true:=by first|simpa using c8|(simp at c8 ⊢;omega)
    clear c8
    have H':=Aside0.mk H
    clear H
    go_enter Tryd.func41,Tryd.ntmps41
    go_wp2_with (first|((with_reducible refine gate_dst (N:=1) rfl ?_);refine box_event ?hg (N:=1) ?hd (cs:=#[.string a0_0,.int .i64 a0_1,.int .i64 a0_2,.int .i64 a0_3,.int .i64 a0_4,.slice A0_5 l0_5.length c0_5,.slice A0_6 l0_6.length c0_6]) (t:=53) ?hr ?_;(case hd=>rfl);(case hg=>rfl);(case hr=>first|(go_simp;done)|(go_simp;rfl));intro gb101 hg w9 hbox hb;have n0_:=Aside0.mk (below_step (by repeat (first|(with_reducible first|exact HB.out|apply below_alloc|apply pw_below_drewN|apply below_drew1)|exact HB.out)) hb);have n1_:=Aside0.mk (hbox);have n2_:=Aside0.mk ((by rw [hg];exact (below_size (by repeat (first|(with_reducible first|exact HB.out|apply below_alloc|apply pw_below_drewN|apply below_drew1)|exact HB.out))):w.heap.size≤gb101));have n3_:=Aside0.mk ((by rw [hg];exact (below_size (by repeat (first|(with_reducible first|exact HB.out|apply below_alloc|apply pw_below_drewN|apply below_drew1)|exact HB.out))):w.heap.size≤gb101));clear HB;have HB:=n0_;have BK101:=n1_;have GW101:=n2_;have GE101:=n3_;clear n0_ n1_ n2_ n3_;clear hb hbox hg;have hcz10_0:w9.cell? ⟨gb101,0,none⟩=some (.string a0_0):=(blk_cell BK101.out 0).trans rfl;have hcz10_1:w9.cell? ⟨gb101,1,none⟩=some (.int .i64 a0_1):=(blk_cell BK101.out 1).trans rfl;have hcz10_2:w9.cell? ⟨gb101,2,none⟩=some (.int .i64 a0_2):=(blk_cell BK101.out 2).trans rfl;have hcz10_3:w9.cell? ⟨gb101,3,none⟩=some (.int .i64 a0_3):=(blk_cell BK101.out 3).trans rfl;have hcz10_4:w9.cell? ⟨gb101,4,none⟩=some (.int .i64 a0_4):=(blk_cell BK101.out 4).trans rfl;have hcz10_5:w9.cell? ⟨gb101,5,none⟩=some (.slice A0_5 l0_5.length c0_5):=(blk_cell BK101.out 5).trans rfl;have hcz10_6:w9.cell? ⟨gb101,6,none⟩=some (.slice A0_6 l0_6.length c0_6):=(blk_cell BK101.out 6).trans rfl;have hfz10_0:=blk_frozen BK101.out 0;have hfz10_1:=blk_frozen BK101.out 1;have hfz10_2:=blk_frozen BK101.out 2;have hfz10_3:=blk_frozen BK101.out 3;have hfz10_4:=blk_frozen BK101.out 4;have hfz10_5:=blk_frozen BK101.out 5;have hfz10_6:=blk_frozen BK101.out 6))
    go_loopg [26] k (fun kq v26 w'=>∃ (x26_1:Int),v26=.int .i64 x26_1∧Aside0 (product_checkLengths.l0 kq l0_5 (l0_5.length:Int) x26_1 a0_0 a0_1 a0_2 a0_3 a0_4 l0_5 l0_6=some r)∧Aside0 (kq≤k)∧Aside0 (w'.heap[gb101]?=some (.cells #[.string a0_0,.int .i64 a0_1,.int .i64 a0_2,.int .i64 a0_3,.int .i64 a0_4,(.slice A0_5 l0_5.length c0_5),(.slice A0_6 l0_6.length c0_6)] 53 (0,0)))∧Aside0 (Below w.heap.size w w'))
    case atStart=>exact ⟨(0),(by first|rfl|(simp;done)|(simp [*];done)),H',⟨Nat.le_refl _⟩,⟨by (with_reducible repeat (first|refine blk_drewN ?_ _|refine blk_drew ?_|refine blk_alloc ?_ _));exact BK101.out⟩,⟨by repeat (first|(with_reducible first|exact HB.out|apply below_alloc|apply pw_below_drewN|apply below_drew1|refine below_set ?_ GE101.out)|exact HB.out)⟩⟩
    case round =>
     clear H'
     try clear c2
     try clear c2b0
     try clear c2b1
     try clear c2b2
     try clear p2
     try clear c4
     try clear c5
     try clear c5b0
     try clear c5b1
     try clear c8
     try clear c8b0
     try clear c8b1
     try clear c8b2
     try clear hcz10_0
     try clear hcz10_1
     try clear hcz10_2
     try clear hcz10_3
     try clear hcz10_4
     try clear hcz10_5
     try clear hcz10_6
     try clear hcz4_0
     try clear hcz4_1
     try clear hcz4_2
     try clear hcz4_3
     try clear hcz4_4
     try clear hcz4_5
     try clear hcz4_6
     try clear hcz7_0
     try clear hcz7_1
     try clear hcz7_2
     try clear hcz7_3
     try clear hcz7_4
     try clear hcz7_5
     try clear hcz7_6
     try clear hfz10_0
     try clear hfz10_1
     try clear hfz10_2
     try clear hfz10_3
     try clear hfz10_4
     try clear hfz10_5
     try clear hfz10_6
     try clear hfz4_0
     try clear hfz4_1
     try clear hfz4_2
     try clear hfz4_3
     try clear hfz4_4
     try clear hfz4_5
     try clear hfz4_6
     try clear hfz7_0
     try clear hfz7_1
     try clear hfz7_2
     try clear hfz7_3
     try clear hfz7_4
     try clear hfz7_5
     try clear hfz7_6
     obtain ⟨x26_1,rfl,HA,HK1,BK101,HB⟩:=hrel
     cases gk with
     | zero=>exact absurd HA.out (by simp [product_checkLengths.l0])
     | succ k1 =>
      have H:=HA.out
      clear HA
      simp only [product_checkLengths.l0] at H
      by_cases c11:x26_1 < (l0_5.length:Int)
      ·rw [if_pos c11] at H
       have c11b0:decide (x26_1 < (l0_5.length:Int))=true:=decide_eq_true c11
       clear c11
       by_cases c12:0≤x26_1
       ·rw [if_pos c12] at H
        have c12b0:decide (0≤x26_1)=true:=decide_eq_true c12
        clear c12
        by_cases c13:x26_1 < (l0_5.length:Int)
        ·rw [if_pos c13] at H
         have c13b0:decide (x26_1 < (l0_5.length:Int))=true:=decide_eq_true c13
         clear c13
         have HC14:=Aside0.mk H
         clear H
         have p102:0≤(x26_1:Int):=of_decide_eq_true (by first|(with_reducible assumption)|assumption)
         have q102:x26_1 < (l0_5.length:Int):=of_decide_eq_true (by first|(with_reducible assumption)|assumption)
         obtain ⟨ad102,e102,hx102_0⟩:=Kd.at_int HR0_5.out x26_1 p102 q102
         cases e102
         replace hx102_0:=(HB.out.cell (World.block_lt_of_cell? w _ hx102_0)).trans hx102_0
         replace p102:=eq_true p102
         replace q102:=eq_true q102
         go_upto_region 11 with (fail)
         go_cut [36] (fun v36 wc=>∃ (kq:Nat) (x36_13:Bool),v36=.bool x36_13∧Aside0 (product_checkLengths.j1 kq x26_1 (rd l0_5 x26_1) l0_5 (l0_5.length:Int) x26_1 x36_13 a0_0 a0_1 a0_2 a0_3 a0_4 l0_5 l0_6=some r)∧Aside0 (kq≤k1)∧Aside0 (wc.heap[gb101]?=some (.cells #[.string a0_0,.int .i64 a0_1,.int .i64 a0_2,.int .i64 a0_3,.int .i64 a0_4,(.slice (some ad102) l0_5.length c0_5),(.slice A0_6 l0_6.length c0_6)] 53 (0,0)))∧Aside0 (Below w.heap.size w wc))
         case first =>
          have H:=HC14.out
          clear HC14
          by_cases c15:(rd l0_5 x26_1) < 100
          ·rw [if_pos c15] at H
           have c15b0:decide ((rd l0_5 x26_1) < 100)=true:=decide_eq_true c15
           clear c15
           (first|rw [c15b0]|(simp only [i64_w,i32_w];rw [c15b0])|skip)
           have H':=Aside0.mk H
           clear H
           go_wp2
           go_meet
           case rel=>exact ⟨_,(true),(by first|rfl|(simp;done)|(simp [*];done)),H',⟨by have:=HK1.out;first|omega|exact Nat.le_refl _⟩,⟨by (with_reducible repeat (first|refine blk_drewN ?_ _|refine blk_drew ?_|refine blk_alloc ?_ _));exact BK101.out⟩,⟨by repeat (first|(with_reducible first|exact HB.out|apply below_alloc|apply pw_below_drewN|apply below_drew1|refine below_set ?_ GE101.out)|exact HB.out)⟩⟩
          ·rw [if_neg c15] at H
           have c15b0:decide ((rd l0_5 x26_1) < 100)=false:=decide_eq_false c15
           clear c15
           (first|rw [c15b0]|(simp only [i64_w,i32_w];rw [c15b0])|skip)
           have H':=Aside0.mk H
           clear H
           go_wp2
           go_meet
           case rel=>exact ⟨_,(decide ((rd l0_5 x26_1) > 20000)),(by first|rfl|(simp;done)|(simp [*];done)),H',⟨by have:=HK1.out;first|omega|exact Nat.le_refl _⟩,⟨by (with_reducible repeat (first|refine blk_drewN ?_ _|refine blk_drew ?_|refine blk_alloc ?_ _));exact BK101.out⟩,⟨by repeat (first|(with_reducible first|exact HB.out|apply below_alloc|apply pw_below_drewN|apply below_drew1|refine below_set ?_ GE101.out)|exact HB.out)⟩⟩
         case rest =>
          clear HC14
          try clear c1
          try clear p1
          try clear q1
          try clear hx1
          try clear c2
          try clear c2b0
          try clear c2b1
          try clear c2b2
          try clear p2
          try clear c4
          try clear c5
          try clear c5b0
          try clear c5b1
          try clear c8
          try clear c8b0
          try clear c8b1
          try clear c8b2
          try clear p10
          try clear q10
          try clear hx10
          try clear c11
          try clear c11b0
          try clear c12
          try clear c12b0
          try clear c13
          try clear c13b0
          try clear c15
          try clear c15b0
          try clear hcz10_0
          try clear hcz10_1
          try clear hcz10_2
          try clear hcz10_3
          try clear hcz10_4
          try clear hcz10_5
          try clear hcz10_6
          try clear hcz4_0
          try clear hcz4_1
          try clear hcz4_2
          try clear hcz4_3
          try clear hcz4_4
          try clear hcz4_5
          try clear hcz4_6
          try clear hcz7_0
          try clear hcz7_1
          try clear hcz7_2
          try clear hcz7_3
          try clear hcz7_4
          try clear hcz7_5
          try clear hcz7_6
          try clear hfz10_0
          try clear hfz10_1
          try clear hfz10_2
          try clear hfz10_3
          try clear hfz10_4
          try clear hfz10_5
          try clear hfz10_6
          try clear hfz4_0
          try clear hfz4_1
          try clear hfz4_2
          try clear hfz4_3
          try clear hfz4_4
          try clear hfz4_5
          try clear hfz4_6
          try clear hfz7_0
          try clear hfz7_1
          try clear hfz7_2
          try clear hfz7_3
          try clear hfz7_4
          try clear hfz7_5
          try clear hfz7_6
          try clear hx102_0
          try clear p102
          try clear p2
          try clear q102
          obtain ⟨kq,x36_13,rfl,HA,HJ13,BK101,HB⟩:=hcut
          cases kq with
          | zero=>exact absurd HA.out (by simp [product_checkLengths.j1])
          | succ kj13 =>
           have H:=HA.out
           clear HA
           simp only [product_checkLengths.j1] at H
           by_cases c16:x36_13=true
           ·subst c16
            have H1:(some 9)=some r:=by rw [if_pos rfl] at H;exact H
            clear H
            have H:=H1
            clear H1
            obtain rfl:=Option.some.inj H
            go_wp2
            go_ret
            exact ⟨by first|rfl|(simp [errW_none,errW_some]<;>rfl)|(simp [*,errW_none,errW_some]<;>rfl),by repeat (first|(with_reducible first|exact HB.out|apply below_alloc|apply pw_below_drewN|apply below_drew1|refine below_set ?_ GE101.out)|exact HB.out)⟩
           ·replace c16:=Bool.eq_false_iff.mpr c16
            subst c16
            have H1:(if x26_1 > 0 then (if 0≤(wrap64 (x26_1 - 1)) then (if (wrap64 (x26_1 - 1)) < (l0_5.length:Int) then (if (rd l0_5 x26_1)≤(rd l0_5 (wrap64 (x26_1 - 1))) then (some 11) else (product_checkLengths.l0 kj13 l0_5 (l0_5.length:Int) (wrap64 (x26_1+1)) a0_0 a0_1 a0_2 a0_3 a0_4 l0_5 l0_6)) else (none)) else (none)) else (product_checkLengths.l0 kj13 l0_5 (l0_5.length:Int) (wrap64 (x26_1+1)) a0_0 a0_1 a0_2 a0_3 a0_4 l0_5 l0_6))=some r:=by rw [if_neg (show ¬ (false=true) by decide)] at H;exact H
            clear H
            have H:=H1
            clear H1
            by_cases c17:x26_1 > 0
            ·rw [if_pos c17] at H
             have c17b0:decide (0 < x26_1)=true:=decide_eq_true c17
             clear c17
             obtain ⟨ji18,hji18⟩:∃ j_:Int,(wrap64 (x26_1 - 1))=j_:=⟨_,rfl⟩
             replace H:(if 0≤(ji18) then (if (ji18) < (l0_5.length:Int) then (if (rd l0_5 x26_1)≤(rd l0_5 (ji18)) then (some 11) else (product_checkLengths.l0 kj13 l0_5 (l0_5.length:Int) (wrap64 (x26_1+1)) a0_0 a0_1 a0_2 a0_3 a0_4 l0_5 l0_6)) else (none)) else (none))=some r:=by first|(rw [hji18] at H;exact H)|(simp only [hji18] at H ⊢;exact H)
             have hji18w:(IntKind.i64.wrap (x26_1 - 1))=ji18:=(i64_w _).trans hji18
             by_cases c19:0≤(ji18)
             ·rw [if_pos c19] at H
              have c19b0:decide (0≤(ji18))=true:=decide_eq_true c19
              clear c19
              by_cases c20:(ji18) < (l0_5.length:Int)
              ·rw [if_pos c20] at H
               have c20b0:decide ((ji18) < (l0_5.length:Int))=true:=decide_eq_true c20
               clear c20
               by_cases c21:(rd l0_5 x26_1)≤(rd l0_5 (ji18))
               ·rw [if_pos c21] at H
                have c21b0:decide ((rd l0_5 x26_1)≤(rd l0_5 (ji18)))=true:=decide_eq_true c21
                clear c21
                obtain rfl:=Option.some.inj H
                have hcz22_0:wc.cell? ⟨gb101,0,none⟩=some (.string a0_0):=(blk_cell BK101.out 0).trans rfl
                have hcz22_1:wc.cell? ⟨gb101,1,none⟩=some (.int .i64 a0_1):=(blk_cell BK101.out 1).trans rfl
                have hcz22_2:wc.cell? ⟨gb101,2,none⟩=some (.int .i64 a0_2):=(blk_cell BK101.out 2).trans rfl
                have hcz22_3:wc.cell? ⟨gb101,3,none⟩=some (.int .i64 a0_3):=(blk_cell BK101.out 3).trans rfl
                have hcz22_4:wc.cell? ⟨gb101,4,none⟩=some (.int .i64 a0_4):=(blk_cell BK101.out 4).trans rfl
                have hcz22_5:wc.cell? ⟨gb101,5,none⟩=some (.slice (some ad102) l0_5.length c0_5):=(blk_cell BK101.out 5).trans rfl
                have hcz22_6:wc.cell? ⟨gb101,6,none⟩=some (.slice A0_6 l0_6.length c0_6):=(blk_cell BK101.out 6).trans rfl
                have hfz22_0:=blk_frozen BK101.out 0
                have hfz22_1:=blk_frozen BK101.out 1
                have hfz22_2:=blk_frozen BK101.out 2
                have hfz22_3:=blk_frozen BK101.out 3
                have hfz22_4:=blk_frozen BK101.out 4
                have hfz22_5:=blk_frozen BK101.out 5
                have hfz22_6:=blk_frozen BK101.out 6
                have p103:0≤((ji18):Int):=of_decide_eq_true (by first|(with_reducible assumption)|assumption)
                have q103:(ji18) < (l0_5.length:Int):=of_decide_eq_true (by first|(with_reducible assumption)|assumption)
                obtain ⟨ad103,e103,hx103_0⟩:=Kd.at_int HR0_5.out (ji18) p103 q103
                obtain rfl:ad102=ad103:=(by injection e103)
                replace hx103_0:=(HB.out.cell (World.block_lt_of_cell? w _ hx103_0)).trans hx103_0
                replace p103:=eq_true p103
                replace q103:=eq_true q103
                go_wp2
                go_ret
                exact ⟨by first|rfl|(simp [errW_none,errW_some]<;>rfl)|(simp only [← hji18];first|rfl|(simp [errW_none,errW_some]<;>rfl))|(simp [*,errW_none,errW_some]<;>rfl),by repeat (first|(with_reducible first|exact HB.out|apply below_alloc|apply pw_below_drewN|apply below_drew1|refine below_set ?_ GE101.out)|exact HB.out)⟩
               ·rw [if_neg c21] at H
                have c21b0:decide ((rd l0_5 x26_1)≤(rd l0_5 (ji18)))=false:=decide_eq_false c21
                clear c21
                have H':=Aside0.mk H
                clear H
                have hcz23_0:wc.cell? ⟨gb101,0,none⟩=some (.string a0_0):=(blk_cell BK101.out 0).trans rfl
                have hcz23_1:wc.cell? ⟨gb101,1,none⟩=some (.int .i64 a0_1):=(blk_cell BK101.out 1).trans rfl
                have hcz23_2:wc.cell? ⟨gb101,2,none⟩=some (.int .i64 a0_2):=(blk_cell BK101.out 2).trans rfl
                have hcz23_3:wc.cell? ⟨gb101,3,none⟩=some (.int .i64 a0_3):=(blk_cell BK101.out 3).trans rfl
                have hcz23_4:wc.cell? ⟨gb101,4,none⟩=some (.int .i64 a0_4):=(blk_cell BK101.out 4).trans rfl
                have hcz23_5:wc.cell? ⟨gb101,5,none⟩=some (.slice (some ad102) l0_5.length c0_5):=(blk_cell BK101.out 5).trans rfl
                have hcz23_6:wc.cell? ⟨gb101,6,none⟩=some (.slice A0_6 l0_6.length c0_6):=(blk_cell BK101.out 6).trans rfl
                have hfz23_0:=blk_frozen BK101.out 0
                have hfz23_1:=blk_frozen BK101.out 1
                have hfz23_2:=blk_frozen BK101.out 2
                have hfz23_3:=blk_frozen BK101.out 3
                have hfz23_4:=blk_frozen BK101.out 4
                have hfz23_5:=blk_frozen BK101.out 5
                have hfz23_6:=blk_frozen BK101.out 6
                have p103:0≤((ji18):Int):=of_decide_eq_true (by first|(with_reducible assumption)|assumption)
                have q103:(ji18) < (l0_5.length:Int):=of_decide_eq_true (by first|(with_reducible assumption)|assumption)
                obtain ⟨ad103,e103,hx103_0⟩:=Kd.at_int HR0_5.out (ji18) p103 q103
                obtain rfl:ad102=ad103:=(by injection e103)
                replace hx103_0:=(HB.out.cell (World.block_lt_of_cell? w _ hx103_0)).trans hx103_0
                replace p103:=eq_true p103
                replace q103:=eq_true q103
                go_wp2
                go_roundg kj13
                case measure=>have:=HK1.out;have:=HJ13.out;omega
                case rel=>exact ⟨(wrap64 (x26_1+1)),(by first|rfl|(simp;done)|(simp [*];done)),H',⟨by have:=HK1.out;have:=HJ13.out;omega⟩,⟨by (with_reducible repeat (first|refine blk_drewN ?_ _|refine blk_drew ?_|refine blk_alloc ?_ _));exact BK101.out⟩,⟨by repeat (first|(with_reducible first|exact HB.out|apply below_alloc|apply pw_below_drewN|apply below_drew1|refine below_set ?_ GE101.out)|exact HB.out)⟩⟩
              ·rw [if_neg c20] at H
               exact absurd H (by simp)
             ·rw [if_neg c19] at H
              exact absurd H (by simp)
            ·rw [if_neg c17] at H
             have c17b0:decide (0 < x26_1)=false:=decide_eq_false c17
             clear c17
             have H':=Aside0.mk H
             clear H
             go_wp2
             go_roundg kj13
             case measure=>have:=HK1.out;have:=HJ13.out;omega
             case rel=>exact ⟨(wrap64 (x26_1+1)),(by first|rfl|(simp;done)|(simp [*];done)),H',⟨by have:=HK1.out;have:=HJ13.out;omega⟩,⟨by (with_reducible repeat (first|refine blk_drewN ?_ _|refine blk_drew ?_|refine blk_alloc ?_ _));exact BK101.out⟩,⟨by repeat (first|(with_reducible first|exact HB.out|apply below_alloc|apply pw_below_drewN|apply below_drew1|refine below_set ?_ GE101.out)|exact HB.out)⟩⟩
        ·rw [if_neg c13] at H
         exact absurd H (by simp)
       ·rw [if_neg c12] at H
        exact absurd H (by simp)
      ·rw [if_neg c11] at H
       have c11b0:decide (x26_1 < (l0_5.length:Int))=false:=decide_eq_false c11
       clear c11
       have H':=Aside0.mk H
       clear H
       have hcz24_0:wr.cell? ⟨gb101,0,none⟩=some (.string a0_0):=(blk_cell BK101.out 0).trans rfl
       have hcz24_1:wr.cell? ⟨gb101,1,none⟩=some (.int .i64 a0_1):=(blk_cell BK101.out 1).trans rfl
       have hcz24_2:wr.cell? ⟨gb101,2,none⟩=some (.int .i64 a0_2):=(blk_cell BK101.out 2).trans rfl
       have hcz24_3:wr.cell? ⟨gb101,3,none⟩=some (.int .i64 a0_3):=(blk_cell BK101.out 3).trans rfl
       have hcz24_4:wr.cell? ⟨gb101,4,none⟩=some (.int .i64 a0_4):=(blk_cell BK101.out 4).trans rfl
       have hcz24_5:wr.cell? ⟨gb101,5,none⟩=some (.slice A0_5 l0_5.length c0_5):=(blk_cell BK101.out 5).trans rfl
       have hcz24_6:wr.cell? ⟨gb101,6,none⟩=some (.slice A0_6 l0_6.length c0_6):=(blk_cell BK101.out 6).trans rfl
       have hfz24_0:=blk_frozen BK101.out 0
       have hfz24_1:=blk_frozen BK101.out 1
       have hfz24_2:=blk_frozen BK101.out 2
       have hfz24_3:=blk_frozen BK101.out 3
       have hfz24_4:=blk_frozen BK101.out 4
       have hfz24_5:=blk_frozen BK101.out 5
       have hfz24_6:=blk_frozen BK101.out 6
       go_wp2
       go_loopg [53] k1 (fun kq v53 w'=>∃ (x53_2:Int),v53=.int .i64 x53_2∧Aside0 (product_checkLengths.l1 kq l0_6 (l0_6.length:Int) x53_2=some r)∧Aside0 (kq≤k1)∧Aside0 (w'.heap[gb101]?=some (.cells #[.string a0_0,.int .i64 a0_1,.int .i64 a0_2,.int .i64 a0_3,.int .i64 a0_4,(.slice A0_5 l0_5.length c0_5),(.slice A0_6 l0_6.length c0_6)] 53 (0,0)))∧Aside0 (Below w.heap.size w w'))
       case atStart=>exact ⟨(0),(by first|rfl|(simp;done)|(simp [*];done)),H',⟨Nat.le_refl _⟩,⟨by (with_reducible repeat (first|refine blk_drewN ?_ _|refine blk_drew ?_|refine blk_alloc ?_ _));exact BK101.out⟩,⟨by repeat (first|(with_reducible first|exact HB.out|apply below_alloc|apply pw_below_drewN|apply below_drew1|refine below_set ?_ GE101.out)|exact HB.out)⟩⟩
       case round =>
        clear H'
        try clear c1
        try clear p1
        try clear q1
        try clear hx1
        try clear c2
        try clear c2b0
        try clear c2b1
        try clear c2b2
        try clear p2
        try clear c4
        try clear c5
        try clear c5b0
        try clear c5b1
        try clear p6
        try clear c8
        try clear c8b0
        try clear c8b1
        try clear c8b2
        try clear p10
        try clear q10
        try clear hx10
        try clear c11
        try clear c11b0
        try clear c12
        try clear c12b0
        try clear c13
        try clear c13b0
        try clear c15
        try clear c15b0
        try clear c16
        try clear c17
        try clear c17b0
        try clear c19
        try clear c19b0
        try clear c20
        try clear c20b0
        try clear c21
        try clear c21b0
        try clear hcz10_0
        try clear hcz10_1
        try clear hcz10_2
        try clear hcz10_3
        try clear hcz10_4
        try clear hcz10_5
        try clear hcz10_6
        try clear hcz22_0
        try clear hcz22_1
        try clear hcz22_2
        try clear hcz22_3
        try clear hcz22_4
        try clear hcz22_5
        try clear hcz22_6
        try clear hcz23_0
        try clear hcz23_1
        try clear hcz23_2
        try clear hcz23_3
        try clear hcz23_4
        try clear hcz23_5
        try clear hcz23_6
        try clear hcz24_0
        try clear hcz24_1
        try clear hcz24_2
        try clear hcz24_3
        try clear hcz24_4
        try clear hcz24_5
        try clear hcz24_6
        try clear hcz4_0
        try clear hcz4_1
        try clear hcz4_2
        try clear hcz4_3
        try clear hcz4_4
        try clear hcz4_5
        try clear hcz4_6
        try clear hcz7_0
        try clear hcz7_1
        try clear hcz7_2
        try clear hcz7_3
        try clear hcz7_4
        try clear hcz7_5
        try clear hcz7_6
        try clear hfz10_0
        try clear hfz10_1
        try clear hfz10_2
        try clear hfz10_3
        try clear hfz10_4
        try clear hfz10_5
        try clear hfz10_6
        try clear hfz22_0
        try clear hfz22_1
        try clear hfz22_2
        try clear hfz22_3
        try clear hfz22_4
        try clear hfz22_5
        try clear hfz22_6
        try clear hfz23_0
        try clear hfz23_1
        try clear hfz23_2
        try clear hfz23_3
        try clear hfz23_4
        try clear hfz23_5
        try clear hfz23_6
        try clear hfz24_0
        try clear hfz24_1
        try clear hfz24_2
        try clear hfz24_3
        try clear hfz24_4
        try clear hfz24_5
        try clear hfz24_6
        try clear hfz4_0
        try clear hfz4_1
        try clear hfz4_2
        try clear hfz4_3
        try clear hfz4_4
        try clear hfz4_5
        try clear hfz4_6
        try clear hfz7_0
        try clear hfz7_1
        try clear hfz7_2
        try clear hfz7_3
        try clear hfz7_4
        try clear hfz7_5
        try clear hfz7_6
        try clear hx102_0
        try clear hx103_0
        try clear p1
        try clear p10
        try clear p102
        try clear p103
        try clear p2
        try clear q1
        try clear q10
        try clear q102
        try clear q103
        obtain ⟨x53_2,rfl,HA,HK2,BK101,HB⟩:=hrel
        cases gk with
        | zero=>exact absurd HA.out (by simp [product_checkLengths.l1])
        | succ k2 =>
         have H:=HA.out
         clear HA
         simp only [product_checkLengths.l1] at H
         by_cases c25:x53_2 < (l0_6.length:Int)
         ·rw [if_pos c25] at H
          have c25b0:decide (x53_2 < (l0_6.length:Int))=true:=decide_eq_true c25
          clear c25
          by_cases c26:0≤x53_2
          ·rw [if_pos c26] at H
           have c26b0:decide (0≤x53_2)=true:=decide_eq_true c26
           clear c26
           by_cases c27:x53_2 < (l0_6.length:Int)
           ·rw [if_pos c27] at H
            have c27b0:decide (x53_2 < (l0_6.length:Int))=true:=decide_eq_true c27
            clear c27
            by_cases c28:(rd l0_6 x53_2) < 0
            ·rw [if_pos c28] at H
             have c28b0:decide ((rd l0_6 x53_2) < 0)=true:=decide_eq_true c28
             clear c28
             obtain rfl:=Option.some.inj H
             have p104:0≤(x53_2:Int):=of_decide_eq_true (by first|(with_reducible assumption)|assumption)
             have q104:x53_2 < (l0_6.length:Int):=of_decide_eq_true (by first|(with_reducible assumption)|assumption)
             obtain ⟨ad104,e104,hx104_0⟩:=Kd.at_int HR0_6.out x53_2 p104 q104
             cases e104
             replace hx104_0:=(HB.out.cell (World.block_lt_of_cell? w _ hx104_0)).trans hx104_0
             replace p104:=eq_true p104
             replace q104:=eq_true q104
             go_wp2
             go_ret
             exact ⟨by first|rfl|(simp [errW_none,errW_some]<;>rfl)|(simp [*,errW_none,errW_some]<;>rfl),by repeat (first|(with_reducible first|exact HB.out|apply below_alloc|apply pw_below_drewN|apply below_drew1|refine below_set ?_ GE101.out)|exact HB.out)⟩
            ·rw [if_neg c28] at H
             have c28b0:decide ((rd l0_6 x53_2) < 0)=false:=decide_eq_false c28
             clear c28
             by_cases c29:(rd l0_6 x53_2) > 1000000
             ·rw [if_pos c29] at H
              have c29b0:decide (1000000 < (rd l0_6 x53_2))=true:=decide_eq_true c29
              clear c29
              obtain rfl:=Option.some.inj H
              have p104:0≤(x53_2:Int):=of_decide_eq_true (by first|(with_reducible assumption)|assumption)
              have q104:x53_2 < (l0_6.length:Int):=of_decide_eq_true (by first|(with_reducible assumption)|assumption)
              obtain ⟨ad104,e104,hx104_0⟩:=Kd.at_int HR0_6.out x53_2 p104 q104
              cases e104
              replace hx104_0:=(HB.out.cell (World.block_lt_of_cell? w _ hx104_0)).trans hx104_0
              replace p104:=eq_true p104
              replace q104:=eq_true q104
              go_wp2
              go_ret
              exact ⟨by first|rfl|(simp [errW_none,errW_some]<;>rfl)|(simp [*,errW_none,errW_some]<;>rfl),by repeat (first|(with_reducible first|exact HB.out|apply below_alloc|apply pw_below_drewN|apply below_drew1|refine below_set ?_ GE101.out)|exact HB.out)⟩
             ·rw [if_neg c29] at H
              have c29b0:decide (1000000 < (rd l0_6 x53_2))=false:=decide_eq_false c29
              clear c29
              have H':=Aside0.mk H
              clear H
              have p104:0≤(x53_2:Int):=of_decide_eq_true (by first|(with_reducible assumption)|assumption)
              have q104:x53_2 < (l0_6.length:Int):=of_decide_eq_true (by first|(with_reducible assumption)|assumption)
              obtain ⟨ad104,e104,hx104_0⟩:=Kd.at_int HR0_6.out x53_2 p104 q104
              cases e104
              replace hx104_0:=(HB.out.cell (World.block_lt_of_cell? w _ hx104_0)).trans hx104_0
              replace p104:=eq_true p104
              replace q104:=eq_true q104
              go_wp2
              go_roundg k2
              case measure=>have:=HK1.out;have:=HK2.out;omega
              case rel=>exact ⟨(wrap64 (x53_2+1)),(by first|rfl|(simp;done)|(simp [*];done)),H',⟨by have:=HK1.out;have:=HK2.out;omega⟩,⟨by (with_reducible repeat (first|refine blk_drewN ?_ _|refine blk_drew ?_|refine blk_alloc ?_ _));exact BK101.out⟩,⟨by repeat (first|(with_reducible first|exact HB.out|apply below_alloc|apply pw_below_drewN|apply below_drew1|refine below_set ?_ GE101.out)|exact HB.out)⟩⟩
           ·rw [if_neg c27] at H
            exact absurd H (by simp)
          ·rw [if_neg c26] at H
           exact absurd H (by simp)
         ·rw [if_neg c25] at H
          have c25b0:decide (x53_2 < (l0_6.length:Int))=false:=decide_eq_false c25
          clear c25
          obtain rfl:=Option.some.inj H
          go_wp2
          go_ret
          exact ⟨by first|rfl|(simp [errW_none,errW_some]<;>rfl)|(simp [*,errW_none,errW_some]<;>rfl),by repeat (first|(with_reducible first|exact HB.out|apply below_alloc|apply pw_below_drewN|apply below_drew1|refine below_set ?_ GE101.out)|exact HB.out)⟩
   ·rw [if_neg c8] at H
    have c8b0:((l0_5.length:Int) == (l0_6.length:Int))=false:=beq_eq_false_iff_ne.mpr c8
    have c8b1:((l0_5.length:Int) != (l0_6.length:Int))=true:=bne_iff_ne.mpr c8
    have c8b2:(l0_5.length == l0_6.length)=false:=by first|simpa using c8|(simp at c8 ⊢;omega)
    obtain rfl:=Option.some.inj H
    go_enter Tryd.func41,Tryd.ntmps41
    go_wp2_with (first|((with_reducible refine gate_dst (N:=1) rfl ?_);refine box_event ?hg (N:=1) ?hd (cs:=#[.string a0_0,.int .i64 a0_1,.int .i64 a0_2,.int .i64 a0_3,.int .i64 a0_4,.slice A0_5 l0_5.length c0_5,.slice A0_6 l0_6.length c0_6]) (t:=53) ?hr ?_;(case hd=>rfl);(case hg=>rfl);(case hr=>first|(go_simp;done)|(go_simp;rfl));intro gb101 hg w30 hbox hb;have n0_:=Aside0.mk (below_step (by repeat (first|(with_reducible first|exact HB.out|apply below_alloc|apply pw_below_drewN|apply below_drew1)|exact HB.out)) hb);have n1_:=Aside0.mk (hbox);have n2_:=Aside0.mk ((by rw [hg];exact (below_size (by repeat (first|(with_reducible first|exact HB.out|apply below_alloc|apply pw_below_drewN|apply below_drew1)|exact HB.out))):w.heap.size≤gb101));have n3_:=Aside0.mk ((by rw [hg];exact (below_size (by repeat (first|(with_reducible first|exact HB.out|apply below_alloc|apply pw_below_drewN|apply below_drew1)|exact HB.out))):w.heap.size≤gb101));clear HB;have HB:=n0_;have BK101:=n1_;have GW101:=n2_;have GE101:=n3_;clear n0_ n1_ n2_ n3_;clear hb hbox hg;have hcz31_0:w30.cell? ⟨gb101,0,none⟩=some (.string a0_0):=(blk_cell BK101.out 0).trans rfl;have hcz31_1:w30.cell? ⟨gb101,1,none⟩=some (.int .i64 a0_1):=(blk_cell BK101.out 1).trans rfl;have hcz31_2:w30.cell? ⟨gb101,2,none⟩=some (.int .i64 a0_2):=(blk_cell BK101.out 2).trans rfl;have hcz31_3:w30.cell? ⟨gb101,3,none⟩=some (.int .i64 a0_3):=(blk_cell BK101.out 3).trans rfl;have hcz31_4:w30.cell? ⟨gb101,4,none⟩=some (.int .i64 a0_4):=(blk_cell BK101.out 4).trans rfl;have hcz31_5:w30.cell? ⟨gb101,5,none⟩=some (.slice A0_5 l0_5.length c0_5):=(blk_cell BK101.out 5).trans rfl;have hcz31_6:w30.cell? ⟨gb101,6,none⟩=some (.slice A0_6 l0_6.length c0_6):=(blk_cell BK101.out 6).trans rfl;have hfz31_0:=blk_frozen BK101.out 0;have hfz31_1:=blk_frozen BK101.out 1;have hfz31_2:=blk_frozen BK101.out 2;have hfz31_3:=blk_frozen BK101.out 3;have hfz31_4:=blk_frozen BK101.out 4;have hfz31_5:=blk_frozen BK101.out 5;have hfz31_6:=blk_frozen BK101.out 6))
    go_ret
    exact ⟨by first|rfl|(simp [errW_none,errW_some]<;>rfl)|(simp [*,errW_none,errW_some]<;>rfl),by repeat (first|(with_reducible first|exact HB.out|apply below_alloc|apply pw_below_drewN|apply below_drew1|refine below_set ?_ GE101.out)|exact HB.out)⟩
end Go.Proofs.YtojkjhaobjidlaaDoor.P
namespace Go.Proofs.YtojkjhaobjidlaaDoor.P
open Go.RowKit Go.Proofs.YtojkjhaobjidlaaDoorW.PrintWords Go.Proofs.YtojkjhaobjidlaaDoorW.PrintLast Go.Proofs.YtojkjhaobjidlaaDoorW.PrintMore
attribute [local go_sem] max2_int min2_int max_two min_two max_three min_three max_four min_four
attribute [local go_sem] cell_twice
set_option linter.unusedVariables false
set_option linter.unusedSimpArgs false
def product_Find.l0:Nat→ByteArray→List (S53)→Int→Int→Option (Int × Bool)
 | 0,_,_,_,_=>none
 | k+1,x1,x8,x9,x10=>if x10 < x9 then (if 0≤x10 then (if x10 < (x8.length:Int) then (if ((rd_T53 x8 x10).f0).toList=x1.toList then (some (x10,true)) else (product_Find.l0 k x1 x8 x9 (wrap64 (x10+1)))) else (none)) else (none)) else (some (0,false))
def product_Find.f (k:Nat) (l0:List (S53)) (a1:ByteArray):Option (Int × Bool):=product_Find.l0 k a1 l0 (l0.length:Int) 0
theorem product_Find.mono_l:∀ k,(∀ y0 y1 y2 y3,LeO (product_Find.l0 k y0 y1 y2 y3) (product_Find.l0 (k+1) y0 y1 y2 y3))
 | 0=>fun _ _ _ _ r h=>by simp [product_Find.l0] at h
 | k+1=>by
  have ih0:=product_Find.mono_l k
  ·intro y0 y1 y2 y3
   unfold product_Find.l0
   repeat' first
   | (with_reducible exact ih0 _ _ _ _)
   | (with_reducible exact LeO.refl _)
   | (with_reducible exact LeO.none _)
   | (with_reducible refine LeO.ite ?_ ?_)
   | (with_reducible refine LeO.bind ?_ (fun _=>?_))
   | exact ih0 _ _ _ _
   | exact LeO.none _
   | refine LeO.ite ?_ ?_
   | refine LeO.bind ?_ (fun _=>?_)
theorem product_Find.mono:∀ a0 a1 k,LeO (product_Find.f k a0 a1) (product_Find.f (k+1) a0 a1):=by
 intro a0 a1 k
 have ih0:=product_Find.mono_l k
 unfold product_Find.f
 repeat' first
   | (with_reducible exact ih0 _ _ _ _)
   | (with_reducible exact LeO.refl _)
   | (with_reducible exact LeO.none _)
   | (with_reducible refine LeO.ite ?_ ?_)
   | (with_reducible refine LeO.bind ?_ (fun _=>?_))
   | exact ih0 _ _ _ _
   | exact LeO.none _
   | refine LeO.ite ?_ ?_
   | refine LeO.bind ?_ (fun _=>?_)
set_option maxHeartbeats 8000000 in
set_option maxRecDepth 100000 in
theorem product_Find.calls (k:Nat) (A0:Option Addr) (c0:Nat) (l0:List (S53)) (a1:ByteArray) (r1:Int) (r2:Bool) (w:World) (hr0:Kd.C k53 w A0 l0.length l0) (hc0:l0.length≤c0) (h:product_Find.f k l0 a1=some (r1,r2)) :
  Calls Tryd.prog 39 #[.slice A0 l0.length c0,.string a1] w fun e w'=>e=.returned (.tuple #[.int .i64 r1,.bool r2])∧Below w.heap.size w w':=by
 have hu53:=Tryd.underlying53
 have HR0:=Aside0.mk hr0
 have HC0:=Aside0.mk hc0
 clear hr0 hc0
 have HB:=Aside0.mk (Below.refl w.heap.size w)
 have H:(product_Find.l0 k a1 l0 (l0.length:Int) 0)=some (r1,r2):=h
 clear h
 have H':=Aside0.mk H
 clear H
 go_enter Tryd.func39,Tryd.ntmps39
 go_wp2
 go_loopg [10] k (fun kq v10 w'=>∃ (x10_1:Int),v10=.int .i64 x10_1∧Aside0 (product_Find.l0 kq a1 l0 (l0.length:Int) x10_1=some (r1,r2))∧Aside0 (kq≤k)∧Aside0 (Below w.heap.size w w'))
 case atStart=>exact ⟨(0),(by first|rfl|(simp;done)|(simp [*];done)),H',⟨Nat.le_refl _⟩,⟨by repeat (first|(with_reducible first|exact HB.out|apply below_alloc|apply pw_below_drewN|apply below_drew1)|exact HB.out)⟩⟩
 case round =>
  clear H'
  try clear p2
  obtain ⟨x10_1,rfl,HA,HK1,HB⟩:=hrel
  cases gk with
  | zero=>exact absurd HA.out (by simp [product_Find.l0])
  | succ k1 =>
   have H:=HA.out
   clear HA
   simp only [product_Find.l0] at H
   by_cases c3:x10_1 < (l0.length:Int)
   ·rw [if_pos c3] at H
    have c3b0:decide (x10_1 < (l0.length:Int))=true:=decide_eq_true c3
    clear c3
    by_cases c4:0≤x10_1
    ·rw [if_pos c4] at H
     have c4b0:decide (0≤x10_1)=true:=decide_eq_true c4
     clear c4
     by_cases c5:x10_1 < (l0.length:Int)
     ·rw [if_pos c5] at H
      have c5b0:decide (x10_1 < (l0.length:Int))=true:=decide_eq_true c5
      clear c5
      by_cases c6:((rd_T53 l0 x10_1).f0).toList=a1.toList
      ·rw [if_pos c6] at H
       have c6b0:(((rd_T53 l0 x10_1).f0).toList == a1.toList)=true:=beq_iff_eq.mpr c6
       have c6b1:(((rd_T53 l0 x10_1).f0).toList != a1.toList)=false:=bne_eq_false_iff_eq.mpr c6
       clear c6
       simp only [Option.some.injEq,Prod.mk.injEq] at H
       obtain ⟨rfl,rfl⟩:=H
       have p101:0≤(x10_1:Int):=of_decide_eq_true (by first|(with_reducible assumption)|assumption)
       have q101:x10_1 < (l0.length:Int):=of_decide_eq_true (by first|(with_reducible assumption)|assumption)
       obtain ⟨ad101,A101_5,c101_5,A101_6,c101_6,e101,hx101_0,hx101_1,hx101_2,hx101_3,hx101_4,hx101_5,hx101_6,hl101_5,hi101_5,hl101_6,hi101_6⟩:=at_T53 HR0.out x10_1 p101 q101
       cases e101
       replace hx101_0:=(HB.out.cell (World.block_lt_of_cell? w _ hx101_0)).trans hx101_0
       replace hx101_1:=(HB.out.cell (World.block_lt_of_cell? w _ hx101_1)).trans hx101_1
       replace hx101_2:=(HB.out.cell (World.block_lt_of_cell? w _ hx101_2)).trans hx101_2
       replace hx101_3:=(HB.out.cell (World.block_lt_of_cell? w _ hx101_3)).trans hx101_3
       replace hx101_4:=(HB.out.cell (World.block_lt_of_cell? w _ hx101_4)).trans hx101_4
       replace hx101_5:=(HB.out.cell (World.block_lt_of_cell? w _ hx101_5)).trans hx101_5
       replace hx101_6:=(HB.out.cell (World.block_lt_of_cell? w _ hx101_6)).trans hx101_6
       have HR101_5:=Aside0.mk hi101_5
       have HC101_5:=Aside0.mk hl101_5
       clear hi101_5 hl101_5
       have HR101_6:=Aside0.mk hi101_6
       have HC101_6:=Aside0.mk hl101_6
       clear hi101_6 hl101_6
       replace p101:=eq_true p101
       replace q101:=eq_true q101
       go_wp2_with (first|((with_reducible refine gate_dst (N:=7) rfl ?_);refine box_event ?hg (N:=7) ?hd (cs:=#[.string (⟨#[]⟩:ByteArray),.int .i64 0,.int .i64 0,.int .i64 0,.int .i64 0,.slice none 0 0,.slice none 0 0]) (t:=53) ?hr ?_;(case hd=>rfl);(case hg=>rfl);(case hr=>first|(go_simp;done)|(go_simp;rfl));intro gb102 hg w7 hbox hb;have n0_:=Aside0.mk (below_step (by repeat (first|(with_reducible first|exact HB.out|apply below_alloc|apply pw_below_drewN|apply below_drew1)|exact HB.out)) hb);have n1_:=Aside0.mk (hbox);have n2_:=Aside0.mk ((by rw [hg];exact (below_size (by repeat (first|(with_reducible first|exact HB.out|apply below_alloc|apply pw_below_drewN|apply below_drew1)|exact HB.out))):w.heap.size≤gb102));have n3_:=Aside0.mk ((by rw [hg];exact (below_size (by repeat (first|(with_reducible first|exact HB.out|apply below_alloc|apply pw_below_drewN|apply below_drew1)|exact HB.out))):w.heap.size≤gb102));clear HB;have HB:=n0_;have BK102:=n1_;have GW102:=n2_;have GE102:=n3_;clear n0_ n1_ n2_ n3_;clear hb hbox hg;have hcz8_0:w7.cell? ⟨gb102,0,none⟩=some (.string (⟨#[]⟩:ByteArray)):=(blk_cell BK102.out 0).trans rfl;have hcz8_1:w7.cell? ⟨gb102,1,none⟩=some (.int .i64 0):=(blk_cell BK102.out 1).trans rfl;have hcz8_2:w7.cell? ⟨gb102,2,none⟩=some (.int .i64 0):=(blk_cell BK102.out 2).trans rfl;have hcz8_3:w7.cell? ⟨gb102,3,none⟩=some (.int .i64 0):=(blk_cell BK102.out 3).trans rfl;have hcz8_4:w7.cell? ⟨gb102,4,none⟩=some (.int .i64 0):=(blk_cell BK102.out 4).trans rfl;have hcz8_5:w7.cell? ⟨gb102,5,none⟩=some (.slice none 0 0):=(blk_cell BK102.out 5).trans rfl;have hcz8_6:w7.cell? ⟨gb102,6,none⟩=some (.slice none 0 0):=(blk_cell BK102.out 6).trans rfl;have hfz8_0:=blk_frozen BK102.out 0;have hfz8_1:=blk_frozen BK102.out 1;have hfz8_2:=blk_frozen BK102.out 2;have hfz8_3:=blk_frozen BK102.out 3;have hfz8_4:=blk_frozen BK102.out 4;have hfz8_5:=blk_frozen BK102.out 5;have hfz8_6:=blk_frozen BK102.out 6))
       go_ret2
       exact ⟨by first|rfl|(simp [errW_none,errW_some]<;>rfl)|(simp [*,errW_none,errW_some]<;>rfl),by repeat (first|(with_reducible first|exact HB.out|apply below_alloc|apply pw_below_drewN|apply below_drew1|refine below_set ?_ GE102.out)|exact HB.out)⟩
      ·rw [if_neg c6] at H
       have c6b0:(((rd_T53 l0 x10_1).f0).toList == a1.toList)=false:=beq_eq_false_iff_ne.mpr c6
       have c6b1:(((rd_T53 l0 x10_1).f0).toList != a1.toList)=true:=bne_iff_ne.mpr c6
       have H':=Aside0.mk H
       clear H
       have p101:0≤(x10_1:Int):=of_decide_eq_true (by first|(with_reducible assumption)|assumption)
       have q101:x10_1 < (l0.length:Int):=of_decide_eq_true (by first|(with_reducible assumption)|assumption)
       obtain ⟨ad101,A101_5,c101_5,A101_6,c101_6,e101,hx101_0,hx101_1,hx101_2,hx101_3,hx101_4,hx101_5,hx101_6,hl101_5,hi101_5,hl101_6,hi101_6⟩:=at_T53 HR0.out x10_1 p101 q101
       cases e101
       replace hx101_0:=(HB.out.cell (World.block_lt_of_cell? w _ hx101_0)).trans hx101_0
       replace hx101_1:=(HB.out.cell (World.block_lt_of_cell? w _ hx101_1)).trans hx101_1
       replace hx101_2:=(HB.out.cell (World.block_lt_of_cell? w _ hx101_2)).trans hx101_2
       replace hx101_3:=(HB.out.cell (World.block_lt_of_cell? w _ hx101_3)).trans hx101_3
       replace hx101_4:=(HB.out.cell (World.block_lt_of_cell? w _ hx101_4)).trans hx101_4
       replace hx101_5:=(HB.out.cell (World.block_lt_of_cell? w _ hx101_5)).trans hx101_5
       replace hx101_6:=(HB.out.cell (World.block_lt_of_cell? w _ hx101_6)).trans hx101_6
       have HR101_5:=Aside0.mk hi101_5
       have HC101_5:=Aside0.mk hl101_5
       clear hi101_5 hl101_5
       have HR101_6:=Aside0.mk hi101_6
       have HC101_6:=Aside0.mk hl101_6
       clear hi101_6 hl101_6
       replace p101:=eq_true p101
       replace q101:=eq_true q101
       go_wp2_with (first|((with_reducible refine gate_dst (N:=7) rfl ?_);refine box_event ?hg (N:=7) ?hd (cs:=#[.string (⟨#[]⟩:ByteArray),.int .i64 0,.int .i64 0,.int .i64 0,.int .i64 0,.slice none 0 0,.slice none 0 0]) (t:=53) ?hr ?_;(case hd=>rfl);(case hg=>rfl);(case hr=>first|(go_simp;done)|(go_simp;rfl));intro gb102 hg w9 hbox hb;have n0_:=Aside0.mk (below_step (by repeat (first|(with_reducible first|exact HB.out|apply below_alloc|apply pw_below_drewN|apply below_drew1)|exact HB.out)) hb);have n1_:=Aside0.mk (hbox);have n2_:=Aside0.mk ((by rw [hg];exact (below_size (by repeat (first|(with_reducible first|exact HB.out|apply below_alloc|apply pw_below_drewN|apply below_drew1)|exact HB.out))):w.heap.size≤gb102));have n3_:=Aside0.mk ((by rw [hg];exact (below_size (by repeat (first|(with_reducible first|exact HB.out|apply below_alloc|apply pw_below_drewN|apply below_drew1)|exact HB.out))):w.heap.size≤gb102));clear HB;have HB:=n0_;have BK102:=n1_;have GW102:=n2_;have GE102:=n3_;clear n0_ n1_ n2_ n3_;clear hb hbox hg;have hcz10_0:w9.cell? ⟨gb102,0,none⟩=some (.string (⟨#[]⟩:ByteArray)):=(blk_cell BK102.out 0).trans rfl;have hcz10_1:w9.cell? ⟨gb102,1,none⟩=some (.int .i64 0):=(blk_cell BK102.out 1).trans rfl;have hcz10_2:w9.cell? ⟨gb102,2,none⟩=some (.int .i64 0):=(blk_cell BK102.out 2).trans rfl;have hcz10_3:w9.cell? ⟨gb102,3,none⟩=some (.int .i64 0):=(blk_cell BK102.out 3).trans rfl;have hcz10_4:w9.cell? ⟨gb102,4,none⟩=some (.int .i64 0):=(blk_cell BK102.out 4).trans rfl;have hcz10_5:w9.cell? ⟨gb102,5,none⟩=some (.slice none 0 0):=(blk_cell BK102.out 5).trans rfl;have hcz10_6:w9.cell? ⟨gb102,6,none⟩=some (.slice none 0 0):=(blk_cell BK102.out 6).trans rfl;have hfz10_0:=blk_frozen BK102.out 0;have hfz10_1:=blk_frozen BK102.out 1;have hfz10_2:=blk_frozen BK102.out 2;have hfz10_3:=blk_frozen BK102.out 3;have hfz10_4:=blk_frozen BK102.out 4;have hfz10_5:=blk_frozen BK102.out 5;have hfz10_6:=blk_frozen BK102.out 6))
       go_roundg k1
       case measure=>have:=HK1.out;omega
       case rel=>exact ⟨(wrap64 (x10_1+1)),(by first|rfl|(simp;done)|(simp [*];done)),H',⟨by have:=HK1.out;omega⟩,⟨by repeat (first|(with_reducible first|exact HB.out|apply below_alloc|apply pw_below_drewN|apply below_drew1|refine below_set ?_ GE102.out)|exact HB.out)⟩⟩
     ·rw [if_neg c5] at H
      exact absurd H (by simp)
    ·rw [if_neg c4] at H
     exact absurd H (by simp)
   ·rw [if_neg c3] at H
    have c3b0:decide (x10_1 < (l0.length:Int))=false:=decide_eq_false c3
    clear c3
    simp only [Option.some.injEq,Prod.mk.injEq] at H
    obtain ⟨rfl,rfl⟩:=H
    go_wp2
    go_ret2
    exact ⟨by first|rfl|(simp [errW_none,errW_some]<;>rfl)|(simp [*,errW_none,errW_some]<;>rfl),by repeat (first|(with_reducible first|exact HB.out|apply below_alloc|apply pw_below_drewN|apply below_drew1)|exact HB.out)⟩
end Go.Proofs.YtojkjhaobjidlaaDoor.P
namespace Go.Proofs.YtojkjhaobjidlaaDoor.P
open Go.RowKit Go.Proofs.YtojkjhaobjidlaaDoorW.PrintWords Go.Proofs.YtojkjhaobjidlaaDoorW.PrintLast
set_option linter.unusedVariables false
set_option linter.unusedSimpArgs false
def units_Floor.f (a b:Int):Option (Int × Bool):=if 0≤a then (if a≤9223372036854775807 then (if 0 < b then some (a / b,true) else none) else none) else none
theorem floor_up (r b:Int) (w:World):Calls Tryd.prog 62 #[.int .i64 r,.int .i64 b] w fun e w'=>e=.returned (.bool false)∧Drawn0 w w':=by
 go_enter Tryd.func62,Tryd.ntmps62
 go_wp2
 go_ret
 exact ⟨rfl,by repeat (first|exact Drawn0.refl _|apply Drawn0.step)⟩
set_option maxHeartbeats 400000 in
theorem division_of (a b:Int) (w:World) (ha:0≤a) (ha2:a≤9223372036854775807) (hb:0 < b) :
  Calls Tryd.prog 63 #[.agg #[.func (.func 62) #[] #[]],.int .i64 a,.int .i64 b] w fun e w'=>e=.returned (.tuple #[.int .i64 (a / b),.bool true])∧Below w.heap.size w w':=by
 have hu:=Tryd.underlying105
 go_enter Tryd.func63,Tryd.ntmps63
 have hb0:(b == 0)=false:=beq_eq_false_iff_ne.mpr (by omega)
 have ha0:(a == -9223372036854775808)=false:=beq_eq_false_iff_ne.mpr (by omega)
 have hb1:decide (b < 0)=false:=decide_eq_false (by omega)
 have hr1:decide (a % b < 0)=false:=decide_eq_false (by have:=Int.emod_nonneg a (show b ≠ 0 by omega);omega)
 go_wp2_with fail
 go_quiet (fail)
 cases hr:(a % b != 0)
 all_goals
  go_wp2_with fail
  refine (floor_up _ b _).mono ?_
  rintro e w1 ⟨rfl,⟨n1,rfl⟩⟩
  go_wp2_with fail
  go_ret2
  exact ⟨rfl,by first|exact pw_below_drewN (below_alloc (Below.refl _ w) _) _|exact pw_below_drewN (pw_below_drewN (below_alloc (Below.refl _ w) _) _) _⟩
theorem units_Floor.calls (a b:Int) (r1:Int) (r2:Bool) (w:World) (h:units_Floor.f a b=some (r1,r2)) :
  Calls Tryd.prog 56 #[.int .i64 a,.int .i64 b] w fun e w'=>e=.returned (.tuple #[.int .i64 r1,.bool r2])∧Below w.heap.size w w':=by
 unfold units_Floor.f at h
 by_cases h1:0≤a
 case neg=>rw [if_neg h1] at h;cases h
 by_cases h2:a≤9223372036854775807
 case neg=>rw [if_pos h1,if_neg h2] at h;cases h
 by_cases h3:0 < b
 case neg=>rw [if_pos h1,if_pos h2,if_neg h3] at h;cases h
 rw [if_pos h1,if_pos h2,if_pos h3] at h
 simp only [Option.some.injEq,Prod.mk.injEq] at h
 obtain ⟨rfl,rfl⟩:=h
 go_enter Tryd.func56,Tryd.ntmps56
 go_wp2_with fail
 refine (division_of a b _ h1 h2 h3).mono ?_
 rintro e w1 ⟨rfl,hb⟩
 go_wp2_with fail
 go_ret2
 exact ⟨rfl,hb⟩
end Go.Proofs.YtojkjhaobjidlaaDoor.P
namespace Go.Proofs.YtojkjhaobjidlaaDoor.P
open Go.RowKit Go.Proofs.YtojkjhaobjidlaaDoorW.PrintWords Go.Proofs.YtojkjhaobjidlaaDoorW.PrintLast Go.Proofs.YtojkjhaobjidlaaDoorW.PrintMore
attribute [local go_sem] max2_int min2_int max_two min_two max_three min_three max_four min_four
attribute [local go_sem] cell_twice
set_option linter.unusedVariables false
set_option linter.unusedSimpArgs false
def product_Green.j0:Nat→Bool→ByteArray→Int→Int→Int→Int→List Int→List Int→Option (Int × Int)
 | 0,_,_,_,_,_,_,_,_=>none
 | k+1,x31,x102000,x102001,x102002,x102003,x102004,x102005,x102006=>if x31=true then (some (0,0)) else ((units_Floor.f (wrap64 ((wrap64 ((wrap64 (x102001 * (wrap64 (1000+x102003))))+1000)) - 1)) 1000).bind fun bt102=>((units_Floor.f (wrap64 ((wrap64 ((wrap64 (x102002 * (wrap64 (1000+x102003))))+1000)) - 1)) 1000).bind fun bt104=>(some (bt102.1,bt104.1))))
def product_Green.f (k:Nat) (a0_0:ByteArray) (a0_1:Int) (a0_2:Int) (a0_3:Int) (a0_4:Int) (l0_5:List Int) (l0_6:List Int):Option (Int × Int):=if (mn a0_1 a0_2) < 1 then (product_Green.j0 k true a0_0 a0_1 a0_2 a0_3 a0_4 l0_5 l0_6) else (if (mx a0_1 a0_2) > 600 then (product_Green.j0 k true a0_0 a0_1 a0_2 a0_3 a0_4 l0_5 l0_6) else (if a0_3 < 0 then (product_Green.j0 k true a0_0 a0_1 a0_2 a0_3 a0_4 l0_5 l0_6) else (product_Green.j0 k (decide (a0_3 > 200)) a0_0 a0_1 a0_2 a0_3 a0_4 l0_5 l0_6)))
theorem product_Green.mono_l:∀ k,(∀ y0 y1 y2 y3 y4 y5 y6 y7,LeO (product_Green.j0 k y0 y1 y2 y3 y4 y5 y6 y7) (product_Green.j0 (k+1) y0 y1 y2 y3 y4 y5 y6 y7))
 | 0=>fun _ _ _ _ _ _ _ _ r h=>by simp [product_Green.j0] at h
 | k+1=>by
  have ih0:=product_Green.mono_l k
  ·intro y0 y1 y2 y3 y4 y5 y6 y7
   unfold product_Green.j0
   repeat' first
   | (with_reducible exact ih0 _ _ _ _ _ _ _ _)
   | (with_reducible exact LeO.refl _)
   | (with_reducible exact LeO.none _)
   | (with_reducible refine LeO.ite ?_ ?_)
   | (with_reducible refine LeO.bind ?_ (fun _=>?_))
   | exact ih0 _ _ _ _ _ _ _ _
   | exact LeO.none _
   | refine LeO.ite ?_ ?_
   | refine LeO.bind ?_ (fun _=>?_)
theorem product_Green.mono:∀ a0 a1 a2 a3 a4 a5 a6 k,LeO (product_Green.f k a0 a1 a2 a3 a4 a5 a6) (product_Green.f (k+1) a0 a1 a2 a3 a4 a5 a6):=by
 intro a0 a1 a2 a3 a4 a5 a6 k
 have ih0:=product_Green.mono_l k
 unfold product_Green.f
 repeat' first
   | (with_reducible exact ih0 _ _ _ _ _ _ _ _)
   | (with_reducible exact LeO.refl _)
   | (with_reducible exact LeO.none _)
   | (with_reducible refine LeO.ite ?_ ?_)
   | (with_reducible refine LeO.bind ?_ (fun _=>?_))
   | exact ih0 _ _ _ _ _ _ _ _
   | exact LeO.none _
   | refine LeO.ite ?_ ?_
   | refine LeO.bind ?_ (fun _=>?_)
set_option maxHeartbeats 8000000 in
set_option maxRecDepth 100000 in
theorem product_Green.calls (k:Nat) (a0_0:ByteArray) (a0_1:Int) (a0_2:Int) (a0_3:Int) (a0_4:Int) (A0_5:Option Addr) (c0_5:Nat) (l0_5:List Int) (A0_6:Option Addr) (c0_6:Nat) (l0_6:List Int) (r1:Int) (r2:Int) (w:World) (hr0_5:Kd.C (Kd.int .i64) w A0_5 l0_5.length l0_5) (hc0_5:l0_5.length≤c0_5) (hr0_6:Kd.C (Kd.int .i64) w A0_6 l0_6.length l0_6) (hc0_6:l0_6.length≤c0_6) (h:product_Green.f k a0_0 a0_1 a0_2 a0_3 a0_4 l0_5 l0_6=some (r1,r2)) :
  Calls Tryd.prog 52 #[.agg #[.string a0_0,.int .i64 a0_1,.int .i64 a0_2,.int .i64 a0_3,.int .i64 a0_4,.slice A0_5 l0_5.length c0_5,.slice A0_6 l0_6.length c0_6]] w fun e w'=>e=.returned (.tuple #[.int .i64 r1,.int .i64 r2])∧Below w.heap.size w w':=by
 have hu53:=Tryd.underlying53
 have HR0_5:=Aside0.mk hr0_5
 have HC0_5:=Aside0.mk hc0_5
 clear hr0_5 hc0_5
 have HR0_6:=Aside0.mk hr0_6
 have HC0_6:=Aside0.mk hc0_6
 clear hr0_6 hc0_6
 have HB:=Aside0.mk (Below.refl w.heap.size w)
 have H:(if (mn a0_1 a0_2) < 1 then (product_Green.j0 k true a0_0 a0_1 a0_2 a0_3 a0_4 l0_5 l0_6) else (if (mx a0_1 a0_2) > 600 then (product_Green.j0 k true a0_0 a0_1 a0_2 a0_3 a0_4 l0_5 l0_6) else (if a0_3 < 0 then (product_Green.j0 k true a0_0 a0_1 a0_2 a0_3 a0_4 l0_5 l0_6) else (product_Green.j0 k (decide (a0_3 > 200)) a0_0 a0_1 a0_2 a0_3 a0_4 l0_5 l0_6))))=some (r1,r2):=h
 clear h
 have HC2:=Aside0.mk H
 clear H
 go_enter Tryd.func52,Tryd.ntmps52
 go_upto_region 1 with (first|((with_reducible refine gate_dst (N:=1) rfl ?_);(try (refine gate_guard (by rfl) ?_;dsimp only));refine box_event ?hg (N:=1) ?hd (cs:=#[.string a0_0,.int .i64 a0_1,.int .i64 a0_2,.int .i64 a0_3,.int .i64 a0_4,.slice A0_5 l0_5.length c0_5,.slice A0_6 l0_6.length c0_6]) (t:=53) ?hr ?_;(case hd=>rfl);(case hg=>rfl);(case hr=>first|(go_simp;done)|(go_simp;rfl));intro gb101 hg w3 hbox hb;have n0_:=Aside0.mk (below_step (by repeat (first|(with_reducible first|exact HB.out|apply below_alloc|apply pw_below_drewN|apply below_drew1)|exact HB.out)) hb);have n1_:=Aside0.mk (hbox);have n2_:=Aside0.mk ((by rw [hg];exact (below_size (by repeat (first|(with_reducible first|exact HB.out|apply below_alloc|apply pw_below_drewN|apply below_drew1)|exact HB.out))):w.heap.size≤gb101));have n3_:=Aside0.mk ((by rw [hg];exact (below_size (by repeat (first|(with_reducible first|exact HB.out|apply below_alloc|apply pw_below_drewN|apply below_drew1)|exact HB.out))):w.heap.size≤gb101));clear HB;have HB:=n0_;have BK101:=n1_;have GW101:=n2_;have GE101:=n3_;clear n0_ n1_ n2_ n3_;clear hb hbox hg))
 (try simp only [Act.put,List.setIfInBounds_toArray,List.set_cons_zero,List.set_cons_succ])
 go_cut [31] (fun v31 wc=>∃ (kq:Nat) (x31_1:Bool),v31=.bool x31_1∧Aside0 (product_Green.j0 kq x31_1 a0_0 a0_1 a0_2 a0_3 a0_4 l0_5 l0_6=some (r1,r2))∧Aside0 (kq≤k)∧Aside0 (wc.heap[gb101]?=some (.cells #[.string a0_0,.int .i64 a0_1,.int .i64 a0_2,.int .i64 a0_3,.int .i64 a0_4,(.slice A0_5 l0_5.length c0_5),(.slice A0_6 l0_6.length c0_6)] 53 (0,0)))∧Aside0 (Below w.heap.size w wc))
 case first =>
  have H:=HC2.out
  clear HC2
  obtain ⟨ji4,hji4⟩:∃ j_:Int,(mn a0_1 a0_2)=j_:=⟨_,rfl⟩
  replace H:(if (ji4) < 1 then (product_Green.j0 k true a0_0 a0_1 a0_2 a0_3 a0_4 l0_5 l0_6) else (if (mx a0_1 a0_2) > 600 then (product_Green.j0 k true a0_0 a0_1 a0_2 a0_3 a0_4 l0_5 l0_6) else (if a0_3 < 0 then (product_Green.j0 k true a0_0 a0_1 a0_2 a0_3 a0_4 l0_5 l0_6) else (product_Green.j0 k (decide (a0_3 > 200)) a0_0 a0_1 a0_2 a0_3 a0_4 l0_5 l0_6))))=some (r1,r2):=by first|(rw [hji4] at H;exact H)|(simp only [hji4] at H ⊢;exact H)
  have hji4_:(if a0_2 < a0_1 then a0_2 else a0_1)=ji4:=hji4
  by_cases c5:(ji4) < 1
  ·rw [if_pos c5] at H
   have c5b0:decide ((ji4) < 1)=true:=decide_eq_true c5
   clear c5
   (first|rw [c5b0]|(simp only [i64_w,i32_w];rw [c5b0])|skip)
   have H':=Aside0.mk H
   clear H
   have hcz6_0:w3.cell? ⟨gb101,0,none⟩=some (.string a0_0):=(blk_cell BK101.out 0).trans rfl
   have hcz6_1:w3.cell? ⟨gb101,1,none⟩=some (.int .i64 a0_1):=(blk_cell BK101.out 1).trans rfl
   have hcz6_2:w3.cell? ⟨gb101,2,none⟩=some (.int .i64 a0_2):=(blk_cell BK101.out 2).trans rfl
   have hcz6_3:w3.cell? ⟨gb101,3,none⟩=some (.int .i64 a0_3):=(blk_cell BK101.out 3).trans rfl
   have hcz6_4:w3.cell? ⟨gb101,4,none⟩=some (.int .i64 a0_4):=(blk_cell BK101.out 4).trans rfl
   have hcz6_5:w3.cell? ⟨gb101,5,none⟩=some (.slice A0_5 l0_5.length c0_5):=(blk_cell BK101.out 5).trans rfl
   have hcz6_6:w3.cell? ⟨gb101,6,none⟩=some (.slice A0_6 l0_6.length c0_6):=(blk_cell BK101.out 6).trans rfl
   have hfz6_0:=blk_frozen BK101.out 0
   have hfz6_1:=blk_frozen BK101.out 1
   have hfz6_2:=blk_frozen BK101.out 2
   have hfz6_3:=blk_frozen BK101.out 3
   have hfz6_4:=blk_frozen BK101.out 4
   have hfz6_5:=blk_frozen BK101.out 5
   have hfz6_6:=blk_frozen BK101.out 6
   go_wp2
   go_meet
   case rel=>exact ⟨_,(true),(by first|rfl|(simp;done)|(simp [*];done)),H',⟨by first|omega|exact Nat.le_refl _⟩,⟨by (with_reducible repeat (first|refine blk_drewN ?_ _|refine blk_drew ?_|refine blk_alloc ?_ _));exact BK101.out⟩,⟨by repeat (first|(with_reducible first|exact HB.out|apply below_alloc|apply pw_below_drewN|apply below_drew1|refine below_set ?_ GE101.out)|exact HB.out)⟩⟩
  ·rw [if_neg c5] at H
   have c5b0:decide ((ji4) < 1)=false:=decide_eq_false c5
   clear c5
   (first|rw [c5b0]|(simp only [i64_w,i32_w];rw [c5b0])|skip)
   obtain ⟨ji7,hji7⟩:∃ j_:Int,(mx a0_1 a0_2)=j_:=⟨_,rfl⟩
   replace H:(if (ji7) > 600 then (product_Green.j0 k true a0_0 a0_1 a0_2 a0_3 a0_4 l0_5 l0_6) else (if a0_3 < 0 then (product_Green.j0 k true a0_0 a0_1 a0_2 a0_3 a0_4 l0_5 l0_6) else (product_Green.j0 k (decide (a0_3 > 200)) a0_0 a0_1 a0_2 a0_3 a0_4 l0_5 l0_6)))=some (r1,r2):=by first|(rw [hji7] at H;exact H)|(simp only [hji7] at H ⊢;exact H)
   have hji7_:(if a0_1 < a0_2 then a0_2 else a0_1)=ji7:=hji7
   by_cases c8:(ji7) > 600
   ·rw [if_pos c8] at H
    have c8b0:decide (600 < (ji7))=true:=decide_eq_true c8
    clear c8
    have H':=Aside0.mk H
    clear H
    have hcz9_0:w3.cell? ⟨gb101,0,none⟩=some (.string a0_0):=(blk_cell BK101.out 0).trans rfl
    have hcz9_1:w3.cell? ⟨gb101,1,none⟩=some (.int .i64 a0_1):=(blk_cell BK101.out 1).trans rfl
    have hcz9_2:w3.cell? ⟨gb101,2,none⟩=some (.int .i64 a0_2):=(blk_cell BK101.out 2).trans rfl
    have hcz9_3:w3.cell? ⟨gb101,3,none⟩=some (.int .i64 a0_3):=(blk_cell BK101.out 3).trans rfl
    have hcz9_4:w3.cell? ⟨gb101,4,none⟩=some (.int .i64 a0_4):=(blk_cell BK101.out 4).trans rfl
    have hcz9_5:w3.cell? ⟨gb101,5,none⟩=some (.slice A0_5 l0_5.length c0_5):=(blk_cell BK101.out 5).trans rfl
    have hcz9_6:w3.cell? ⟨gb101,6,none⟩=some (.slice A0_6 l0_6.length c0_6):=(blk_cell BK101.out 6).trans rfl
    have hfz9_0:=blk_frozen BK101.out 0
    have hfz9_1:=blk_frozen BK101.out 1
    have hfz9_2:=blk_frozen BK101.out 2
    have hfz9_3:=blk_frozen BK101.out 3
    have hfz9_4:=blk_frozen BK101.out 4
    have hfz9_5:=blk_frozen BK101.out 5
    have hfz9_6:=blk_frozen BK101.out 6
    go_wp2
    go_meet
    case rel=>exact ⟨_,(true),(by first|rfl|(simp;done)|(simp [*];done)),H',⟨by first|omega|exact Nat.le_refl _⟩,⟨by (with_reducible repeat (first|refine blk_drewN ?_ _|refine blk_drew ?_|refine blk_alloc ?_ _));exact BK101.out⟩,⟨by repeat (first|(with_reducible first|exact HB.out|apply below_alloc|apply pw_below_drewN|apply below_drew1|refine below_set ?_ GE101.out)|exact HB.out)⟩⟩
   ·rw [if_neg c8] at H
    have c8b0:decide (600 < (ji7))=false:=decide_eq_false c8
    clear c8
    by_cases c10:a0_3 < 0
    ·rw [if_pos c10] at H
     have c10b0:decide (a0_3 < 0)=true:=decide_eq_true c10
     clear c10
     have H':=Aside0.mk H
     clear H
     have hcz11_0:w3.cell? ⟨gb101,0,none⟩=some (.string a0_0):=(blk_cell BK101.out 0).trans rfl
     have hcz11_1:w3.cell? ⟨gb101,1,none⟩=some (.int .i64 a0_1):=(blk_cell BK101.out 1).trans rfl
     have hcz11_2:w3.cell? ⟨gb101,2,none⟩=some (.int .i64 a0_2):=(blk_cell BK101.out 2).trans rfl
     have hcz11_3:w3.cell? ⟨gb101,3,none⟩=some (.int .i64 a0_3):=(blk_cell BK101.out 3).trans rfl
     have hcz11_4:w3.cell? ⟨gb101,4,none⟩=some (.int .i64 a0_4):=(blk_cell BK101.out 4).trans rfl
     have hcz11_5:w3.cell? ⟨gb101,5,none⟩=some (.slice A0_5 l0_5.length c0_5):=(blk_cell BK101.out 5).trans rfl
     have hcz11_6:w3.cell? ⟨gb101,6,none⟩=some (.slice A0_6 l0_6.length c0_6):=(blk_cell BK101.out 6).trans rfl
     have hfz11_0:=blk_frozen BK101.out 0
     have hfz11_1:=blk_frozen BK101.out 1
     have hfz11_2:=blk_frozen BK101.out 2
     have hfz11_3:=blk_frozen BK101.out 3
     have hfz11_4:=blk_frozen BK101.out 4
     have hfz11_5:=blk_frozen BK101.out 5
     have hfz11_6:=blk_frozen BK101.out 6
     go_wp2
     go_meet
     case rel=>exact ⟨_,(true),(by first|rfl|(simp;done)|(simp [*];done)),H',⟨by first|omega|exact Nat.le_refl _⟩,⟨by (with_reducible repeat (first|refine blk_drewN ?_ _|refine blk_drew ?_|refine blk_alloc ?_ _));exact BK101.out⟩,⟨by repeat (first|(with_reducible first|exact HB.out|apply below_alloc|apply pw_below_drewN|apply below_drew1|refine below_set ?_ GE101.out)|exact HB.out)⟩⟩
    ·rw [if_neg c10] at H
     have c10b0:decide (a0_3 < 0)=false:=decide_eq_false c10
     clear c10
     have H':=Aside0.mk H
     clear H
     have hcz12_0:w3.cell? ⟨gb101,0,none⟩=some (.string a0_0):=(blk_cell BK101.out 0).trans rfl
     have hcz12_1:w3.cell? ⟨gb101,1,none⟩=some (.int .i64 a0_1):=(blk_cell BK101.out 1).trans rfl
     have hcz12_2:w3.cell? ⟨gb101,2,none⟩=some (.int .i64 a0_2):=(blk_cell BK101.out 2).trans rfl
     have hcz12_3:w3.cell? ⟨gb101,3,none⟩=some (.int .i64 a0_3):=(blk_cell BK101.out 3).trans rfl
     have hcz12_4:w3.cell? ⟨gb101,4,none⟩=some (.int .i64 a0_4):=(blk_cell BK101.out 4).trans rfl
     have hcz12_5:w3.cell? ⟨gb101,5,none⟩=some (.slice A0_5 l0_5.length c0_5):=(blk_cell BK101.out 5).trans rfl
     have hcz12_6:w3.cell? ⟨gb101,6,none⟩=some (.slice A0_6 l0_6.length c0_6):=(blk_cell BK101.out 6).trans rfl
     have hfz12_0:=blk_frozen BK101.out 0
     have hfz12_1:=blk_frozen BK101.out 1
     have hfz12_2:=blk_frozen BK101.out 2
     have hfz12_3:=blk_frozen BK101.out 3
     have hfz12_4:=blk_frozen BK101.out 4
     have hfz12_5:=blk_frozen BK101.out 5
     have hfz12_6:=blk_frozen BK101.out 6
     go_wp2
     go_meet
     case rel=>exact ⟨_,(decide (a0_3 > 200)),(by first|rfl|(simp;done)|(simp [*];done)),H',⟨by first|omega|exact Nat.le_refl _⟩,⟨by (with_reducible repeat (first|refine blk_drewN ?_ _|refine blk_drew ?_|refine blk_alloc ?_ _));exact BK101.out⟩,⟨by repeat (first|(with_reducible first|exact HB.out|apply below_alloc|apply pw_below_drewN|apply below_drew1|refine below_set ?_ GE101.out)|exact HB.out)⟩⟩
 case rest =>
  clear HC2
  try clear c1
  try clear p2
  try clear c5
  try clear c5b0
  try clear c8
  try clear c8b0
  try clear c10
  try clear c10b0
  try clear hcz11_0
  try clear hcz11_1
  try clear hcz11_2
  try clear hcz11_3
  try clear hcz11_4
  try clear hcz11_5
  try clear hcz11_6
  try clear hcz12_0
  try clear hcz12_1
  try clear hcz12_2
  try clear hcz12_3
  try clear hcz12_4
  try clear hcz12_5
  try clear hcz12_6
  try clear hcz6_0
  try clear hcz6_1
  try clear hcz6_2
  try clear hcz6_3
  try clear hcz6_4
  try clear hcz6_5
  try clear hcz6_6
  try clear hcz9_0
  try clear hcz9_1
  try clear hcz9_2
  try clear hcz9_3
  try clear hcz9_4
  try clear hcz9_5
  try clear hcz9_6
  try clear hfz11_0
  try clear hfz11_1
  try clear hfz11_2
  try clear hfz11_3
  try clear hfz11_4
  try clear hfz11_5
  try clear hfz11_6
  try clear hfz12_0
  try clear hfz12_1
  try clear hfz12_2
  try clear hfz12_3
  try clear hfz12_4
  try clear hfz12_5
  try clear hfz12_6
  try clear hfz6_0
  try clear hfz6_1
  try clear hfz6_2
  try clear hfz6_3
  try clear hfz6_4
  try clear hfz6_5
  try clear hfz6_6
  try clear hfz9_0
  try clear hfz9_1
  try clear hfz9_2
  try clear hfz9_3
  try clear hfz9_4
  try clear hfz9_5
  try clear hfz9_6
  obtain ⟨kq,x31_1,rfl,HA,HJ1,BK101,HB⟩:=hcut
  cases kq with
  | zero=>exact absurd HA.out (by simp [product_Green.j0])
  | succ kj1 =>
   have H:=HA.out
   clear HA
   simp only [product_Green.j0] at H
   by_cases c13:x31_1=true
   ·subst c13
    have H1:(some (0,0))=some (r1,r2):=by rw [if_pos rfl] at H;exact H
    clear H
    have H:=H1
    clear H1
    simp only [Option.some.injEq,Prod.mk.injEq] at H
    obtain ⟨rfl,rfl⟩:=H
    go_wp2
    go_ret2
    exact ⟨by first|rfl|(simp [errW_none,errW_some]<;>rfl)|(simp [*,errW_none,errW_some]<;>rfl),by repeat (first|(with_reducible first|exact HB.out|apply below_alloc|apply pw_below_drewN|apply below_drew1|refine below_set ?_ GE101.out)|exact HB.out)⟩
   ·replace c13:=Bool.eq_false_iff.mpr c13
    subst c13
    have H1:((units_Floor.f (wrap64 ((wrap64 ((wrap64 (a0_1 * (wrap64 (1000+a0_3))))+1000)) - 1)) 1000).bind fun bt102=>((units_Floor.f (wrap64 ((wrap64 ((wrap64 (a0_2 * (wrap64 (1000+a0_3))))+1000)) - 1)) 1000).bind fun bt104=>(some (bt102.1,bt104.1))))=some (r1,r2):=by rw [if_neg (show ¬ (false=true) by decide)] at H;exact H
    clear H
    have H:=H1
    clear H1
    replace H:=Option.bind_eq_some_iff.mp H
    obtain ⟨⟨t102,t103⟩,A140,H⟩:=H
    replace H:((units_Floor.f (wrap64 ((wrap64 ((wrap64 (a0_2 * (wrap64 (1000+a0_3))))+1000)) - 1)) 1000).bind fun bt104=>(some (t102,bt104.1)))=some (r1,r2):=H
    have A14:=Aside0.mk A140
    clear A140
    replace H:=Option.bind_eq_some_iff.mp H
    obtain ⟨⟨t104,t105⟩,A150,H⟩:=H
    replace H:(some (t102,t104))=some (r1,r2):=H
    have A15:=Aside0.mk A150
    clear A150
    simp only [Option.some.injEq,Prod.mk.injEq] at H
    obtain ⟨rfl,rfl⟩:=H
    have hcz16_0:wc.cell? ⟨gb101,0,none⟩=some (.string a0_0):=(blk_cell BK101.out 0).trans rfl
    have hcz16_1:wc.cell? ⟨gb101,1,none⟩=some (.int .i64 a0_1):=(blk_cell BK101.out 1).trans rfl
    have hcz16_2:wc.cell? ⟨gb101,2,none⟩=some (.int .i64 a0_2):=(blk_cell BK101.out 2).trans rfl
    have hcz16_3:wc.cell? ⟨gb101,3,none⟩=some (.int .i64 a0_3):=(blk_cell BK101.out 3).trans rfl
    have hcz16_4:wc.cell? ⟨gb101,4,none⟩=some (.int .i64 a0_4):=(blk_cell BK101.out 4).trans rfl
    have hcz16_5:wc.cell? ⟨gb101,5,none⟩=some (.slice A0_5 l0_5.length c0_5):=(blk_cell BK101.out 5).trans rfl
    have hcz16_6:wc.cell? ⟨gb101,6,none⟩=some (.slice A0_6 l0_6.length c0_6):=(blk_cell BK101.out 6).trans rfl
    have hfz16_0:=blk_frozen BK101.out 0
    have hfz16_1:=blk_frozen BK101.out 1
    have hfz16_2:=blk_frozen BK101.out 2
    have hfz16_3:=blk_frozen BK101.out 3
    have hfz16_4:=blk_frozen BK101.out 4
    have hfz16_5:=blk_frozen BK101.out 5
    have hfz16_6:=blk_frozen BK101.out 6
    go_wp2_with (first|((with_reducible refine gate_callee (f:=56) rfl ?_);refine goesL_ (some 41) rfl rfl Tryd.func56 (by kernel_rfl) rfl #[.int .i64 (wrap64 ((wrap64 ((wrap64 (a0_1 * (wrap64 (1000+a0_3))))+1000)) - 1)),.int .i64 1000] rfl (by (try simp only [List.map_toArray,List.map_cons,List.map_nil]);first|done|rfl|(simp only [List.length_drop,List.length_take];rfl)) ?_;(with_reducible refine (units_Floor.calls (wrap64 ((wrap64 ((wrap64 (a0_1 * (wrap64 (1000+a0_3))))+1000)) - 1)) 1000 t102 t103 _ A14.out).mono ?_);rintro e w17 ⟨rfl,hb⟩;refine ⟨_,rfl,?_⟩;have n0_:=Aside0.mk (blk_below (g:=gb101) (o:=.cells #[.string a0_0,.int .i64 a0_1,.int .i64 a0_2,.int .i64 a0_3,.int .i64 a0_4,.slice A0_5 l0_5.length c0_5,.slice A0_6 l0_6.length c0_6] 53 (0,0)) (by (with_reducible repeat (first|refine blk_drewN ?_ _|refine blk_drew ?_|refine blk_alloc ?_ _));exact BK101.out) hb);have n1_:=Aside0.mk (below_step (by repeat (first|(with_reducible first|exact HB.out|apply below_alloc|apply pw_below_drewN|apply below_drew1|refine below_set ?_ GE101.out)|exact HB.out)) hb);clear BK101;clear HB;have BK101:=n0_;have HB:=n1_;clear n0_ n1_;(try clear hb);(try clear hb2);(try clear hk);(try clear hi);have hcz18_0:w17.cell? ⟨gb101,0,none⟩=some (.string a0_0):=(blk_cell BK101.out 0).trans rfl;have hcz18_1:w17.cell? ⟨gb101,1,none⟩=some (.int .i64 a0_1):=(blk_cell BK101.out 1).trans rfl;have hcz18_2:w17.cell? ⟨gb101,2,none⟩=some (.int .i64 a0_2):=(blk_cell BK101.out 2).trans rfl;have hcz18_3:w17.cell? ⟨gb101,3,none⟩=some (.int .i64 a0_3):=(blk_cell BK101.out 3).trans rfl;have hcz18_4:w17.cell? ⟨gb101,4,none⟩=some (.int .i64 a0_4):=(blk_cell BK101.out 4).trans rfl;have hcz18_5:w17.cell? ⟨gb101,5,none⟩=some (.slice A0_5 l0_5.length c0_5):=(blk_cell BK101.out 5).trans rfl;have hcz18_6:w17.cell? ⟨gb101,6,none⟩=some (.slice A0_6 l0_6.length c0_6):=(blk_cell BK101.out 6).trans rfl;have hfz18_0:=blk_frozen BK101.out 0;have hfz18_1:=blk_frozen BK101.out 1;have hfz18_2:=blk_frozen BK101.out 2;have hfz18_3:=blk_frozen BK101.out 3;have hfz18_4:=blk_frozen BK101.out 4;have hfz18_5:=blk_frozen BK101.out 5;have hfz18_6:=blk_frozen BK101.out 6)|((with_reducible refine gate_callee (f:=56) rfl ?_);refine goesL_ (some 53) rfl rfl Tryd.func56 (by kernel_rfl) rfl #[.int .i64 (wrap64 ((wrap64 ((wrap64 (a0_2 * (wrap64 (1000+a0_3))))+1000)) - 1)),.int .i64 1000] rfl (by (try simp only [List.map_toArray,List.map_cons,List.map_nil]);first|done|rfl|(simp only [List.length_drop,List.length_take];rfl)) ?_;(with_reducible refine (units_Floor.calls (wrap64 ((wrap64 ((wrap64 (a0_2 * (wrap64 (1000+a0_3))))+1000)) - 1)) 1000 t104 t105 _ A15.out).mono ?_);rintro e w19 ⟨rfl,hb⟩;refine ⟨_,rfl,?_⟩;have n0_:=Aside0.mk (blk_below (g:=gb101) (o:=.cells #[.string a0_0,.int .i64 a0_1,.int .i64 a0_2,.int .i64 a0_3,.int .i64 a0_4,.slice A0_5 l0_5.length c0_5,.slice A0_6 l0_6.length c0_6] 53 (0,0)) (by (with_reducible repeat (first|refine blk_drewN ?_ _|refine blk_drew ?_|refine blk_alloc ?_ _));exact BK101.out) hb);have n1_:=Aside0.mk (below_step (by repeat (first|(with_reducible first|exact HB.out|apply below_alloc|apply pw_below_drewN|apply below_drew1|refine below_set ?_ GE101.out)|exact HB.out)) hb);clear BK101;clear HB;have BK101:=n0_;have HB:=n1_;clear n0_ n1_;(try clear hb);(try clear hb2);(try clear hk);(try clear hi)))
    go_ret2
    exact ⟨by first|rfl|(simp [errW_none,errW_some]<;>rfl)|(simp [*,errW_none,errW_some]<;>rfl),by repeat (first|(with_reducible first|exact HB.out|apply below_alloc|apply pw_below_drewN|apply below_drew1|refine below_set ?_ GE101.out)|exact HB.out)⟩
end Go.Proofs.YtojkjhaobjidlaaDoor.P
namespace Go.Proofs.YtojkjhaobjidlaaDoor.P
open Go.RowKit Go.Proofs.YtojkjhaobjidlaaDoorW.PrintWords Go.Proofs.YtojkjhaobjidlaaDoorW.PrintLast Go.Proofs.YtojkjhaobjidlaaDoorW.PrintMore
attribute [local go_sem] max2_int min2_int max_two min_two max_three min_three max_four min_four
attribute [local go_sem] cell_twice
set_option linter.unusedVariables false
set_option linter.unusedSimpArgs false
def product_sized.j0:Nat→Bool→ByteArray→Int→Int→Int→Int→List Int→List Int→Option (Bool)
 | 0,_,_,_,_,_,_,_,_=>none
 | k+1,x24,x102000,x102001,x102002,x102003,x102004,x102005,x102006=>if x24=true then (some false) else (if x102003 < 0 then (some false) else (if x102003 > 200 then (some false) else (if x102004 < 0 then (some false) else (if x102004 > 1000 then (some false) else ((product_Green.f k x102000 x102001 x102002 x102003 x102004 x102005 x102006).bind fun bt102=>(some (decide (bt102.2≤600))))))))
def product_sized.f (k:Nat) (a0_0:ByteArray) (a0_1:Int) (a0_2:Int) (a0_3:Int) (a0_4:Int) (l0_5:List Int) (l0_6:List Int):Option (Bool):=if a0_1 < 5 then (product_sized.j0 k true a0_0 a0_1 a0_2 a0_3 a0_4 l0_5 l0_6) else (if a0_1 > 300 then (product_sized.j0 k true a0_0 a0_1 a0_2 a0_3 a0_4 l0_5 l0_6) else (if a0_2 < a0_1 then (product_sized.j0 k true a0_0 a0_1 a0_2 a0_3 a0_4 l0_5 l0_6) else (product_sized.j0 k (decide (a0_2 > 600)) a0_0 a0_1 a0_2 a0_3 a0_4 l0_5 l0_6)))
theorem product_sized.mono_l:∀ k,(∀ y0 y1 y2 y3 y4 y5 y6 y7,LeO (product_sized.j0 k y0 y1 y2 y3 y4 y5 y6 y7) (product_sized.j0 (k+1) y0 y1 y2 y3 y4 y5 y6 y7))
 | 0=>fun _ _ _ _ _ _ _ _ r h=>by simp [product_sized.j0] at h
 | k+1=>by
  have ih0:=product_sized.mono_l k
  ·intro y0 y1 y2 y3 y4 y5 y6 y7
   unfold product_sized.j0
   repeat' first
   | (with_reducible exact ih0 _ _ _ _ _ _ _ _)
   | (with_reducible exact product_Green.mono _ _ _ _ _ _ _ _)
   | (with_reducible exact LeO.refl _)
   | (with_reducible exact LeO.none _)
   | (with_reducible refine LeO.ite ?_ ?_)
   | (with_reducible refine LeO.bind ?_ (fun _=>?_))
   | exact ih0 _ _ _ _ _ _ _ _
   | exact product_Green.mono _ _ _ _ _ _ _ _
   | exact LeO.none _
   | refine LeO.ite ?_ ?_
   | refine LeO.bind ?_ (fun _=>?_)
theorem product_sized.mono:∀ a0 a1 a2 a3 a4 a5 a6 k,LeO (product_sized.f k a0 a1 a2 a3 a4 a5 a6) (product_sized.f (k+1) a0 a1 a2 a3 a4 a5 a6):=by
 intro a0 a1 a2 a3 a4 a5 a6 k
 have ih0:=product_sized.mono_l k
 unfold product_sized.f
 repeat' first
   | (with_reducible exact ih0 _ _ _ _ _ _ _ _)
   | (with_reducible exact product_Green.mono _ _ _ _ _ _ _ _)
   | (with_reducible exact LeO.refl _)
   | (with_reducible exact LeO.none _)
   | (with_reducible refine LeO.ite ?_ ?_)
   | (with_reducible refine LeO.bind ?_ (fun _=>?_))
   | exact ih0 _ _ _ _ _ _ _ _
   | exact product_Green.mono _ _ _ _ _ _ _ _
   | exact LeO.none _
   | refine LeO.ite ?_ ?_
   | refine LeO.bind ?_ (fun _=>?_)
set_option maxHeartbeats 8000000 in
set_option maxRecDepth 100000 in
theorem product_sized.calls (k:Nat) (a0_0:ByteArray) (a0_1:Int) (a0_2:Int) (a0_3:Int) (a0_4:Int) (A0_5:Option Addr) (c0_5:Nat) (l0_5:List Int) (A0_6:Option Addr) (c0_6:Nat) (l0_6:List Int) (r:Bool) (w:World) (hr0_5:Kd.C (Kd.int .i64) w A0_5 l0_5.length l0_5) (hc0_5:l0_5.length≤c0_5) (hr0_6:Kd.C (Kd.int .i64) w A0_6 l0_6.length l0_6) (hc0_6:l0_6.length≤c0_6) (h:product_sized.f k a0_0 a0_1 a0_2 a0_3 a0_4 l0_5 l0_6=some r) :
  Calls Tryd.prog 40 #[.agg #[.string a0_0,.int .i64 a0_1,.int .i64 a0_2,.int .i64 a0_3,.int .i64 a0_4,.slice A0_5 l0_5.length c0_5,.slice A0_6 l0_6.length c0_6]] w fun e w'=>e=.returned (.bool r)∧Below w.heap.size w w':=by
 have hu53:=Tryd.underlying53
 have HR0_5:=Aside0.mk hr0_5
 have HC0_5:=Aside0.mk hc0_5
 clear hr0_5 hc0_5
 have HR0_6:=Aside0.mk hr0_6
 have HC0_6:=Aside0.mk hc0_6
 clear hr0_6 hc0_6
 have HB:=Aside0.mk (Below.refl w.heap.size w)
 have H:(if a0_1 < 5 then (product_sized.j0 k true a0_0 a0_1 a0_2 a0_3 a0_4 l0_5 l0_6) else (if a0_1 > 300 then (product_sized.j0 k true a0_0 a0_1 a0_2 a0_3 a0_4 l0_5 l0_6) else (if a0_2 < a0_1 then (product_sized.j0 k true a0_0 a0_1 a0_2 a0_3 a0_4 l0_5 l0_6) else (product_sized.j0 k (decide (a0_2 > 600)) a0_0 a0_1 a0_2 a0_3 a0_4 l0_5 l0_6))))=some r:=h
 clear h
 have HC2:=Aside0.mk H
 clear H
 go_enter Tryd.func40,Tryd.ntmps40
 go_upto_region 1 with (first|((with_reducible refine gate_dst (N:=1) rfl ?_);refine box_event ?hg (N:=1) ?hd (cs:=#[.string a0_0,.int .i64 a0_1,.int .i64 a0_2,.int .i64 a0_3,.int .i64 a0_4,.slice A0_5 l0_5.length c0_5,.slice A0_6 l0_6.length c0_6]) (t:=53) ?hr ?_;(case hd=>rfl);(case hg=>rfl);(case hr=>first|(go_simp;done)|(go_simp;rfl));intro gb101 hg w3 hbox hb;have n0_:=Aside0.mk (below_step (by repeat (first|(with_reducible first|exact HB.out|apply below_alloc|apply pw_below_drewN|apply below_drew1)|exact HB.out)) hb);have n1_:=Aside0.mk (hbox);have n2_:=Aside0.mk ((by rw [hg];exact (below_size (by repeat (first|(with_reducible first|exact HB.out|apply below_alloc|apply pw_below_drewN|apply below_drew1)|exact HB.out))):w.heap.size≤gb101));have n3_:=Aside0.mk ((by rw [hg];exact (below_size (by repeat (first|(with_reducible first|exact HB.out|apply below_alloc|apply pw_below_drewN|apply below_drew1)|exact HB.out))):w.heap.size≤gb101));clear HB;have HB:=n0_;have BK101:=n1_;have GW101:=n2_;have GE101:=n3_;clear n0_ n1_ n2_ n3_;clear hb hbox hg))
 (try simp only [Act.put,List.setIfInBounds_toArray,List.set_cons_zero,List.set_cons_succ])
 go_cut [24] (fun v24 wc=>∃ (kq:Nat) (x24_1:Bool),v24=.bool x24_1∧Aside0 (product_sized.j0 kq x24_1 a0_0 a0_1 a0_2 a0_3 a0_4 l0_5 l0_6=some r)∧Aside0 (kq≤k)∧Aside0 (wc.heap[gb101]?=some (.cells #[.string a0_0,.int .i64 a0_1,.int .i64 a0_2,.int .i64 a0_3,.int .i64 a0_4,(.slice A0_5 l0_5.length c0_5),(.slice A0_6 l0_6.length c0_6)] 53 (0,0)))∧Aside0 (Below w.heap.size w wc))
 case first =>
  have H:=HC2.out
  clear HC2
  by_cases c4:a0_1 < 5
  ·rw [if_pos c4] at H
   have c4b0:decide (a0_1 < 5)=true:=decide_eq_true c4
   clear c4
   (first|rw [c4b0]|(simp only [i64_w,i32_w];rw [c4b0])|skip)
   have H':=Aside0.mk H
   clear H
   have hcz5_0:w3.cell? ⟨gb101,0,none⟩=some (.string a0_0):=(blk_cell BK101.out 0).trans rfl
   have hcz5_1:w3.cell? ⟨gb101,1,none⟩=some (.int .i64 a0_1):=(blk_cell BK101.out 1).trans rfl
   have hcz5_2:w3.cell? ⟨gb101,2,none⟩=some (.int .i64 a0_2):=(blk_cell BK101.out 2).trans rfl
   have hcz5_3:w3.cell? ⟨gb101,3,none⟩=some (.int .i64 a0_3):=(blk_cell BK101.out 3).trans rfl
   have hcz5_4:w3.cell? ⟨gb101,4,none⟩=some (.int .i64 a0_4):=(blk_cell BK101.out 4).trans rfl
   have hcz5_5:w3.cell? ⟨gb101,5,none⟩=some (.slice A0_5 l0_5.length c0_5):=(blk_cell BK101.out 5).trans rfl
   have hcz5_6:w3.cell? ⟨gb101,6,none⟩=some (.slice A0_6 l0_6.length c0_6):=(blk_cell BK101.out 6).trans rfl
   have hfz5_0:=blk_frozen BK101.out 0
   have hfz5_1:=blk_frozen BK101.out 1
   have hfz5_2:=blk_frozen BK101.out 2
   have hfz5_3:=blk_frozen BK101.out 3
   have hfz5_4:=blk_frozen BK101.out 4
   have hfz5_5:=blk_frozen BK101.out 5
   have hfz5_6:=blk_frozen BK101.out 6
   go_wp2
   go_meet
   case rel=>exact ⟨_,(true),(by first|rfl|(simp;done)|(simp [*];done)),H',⟨by first|omega|exact Nat.le_refl _⟩,⟨by (with_reducible repeat (first|refine blk_drewN ?_ _|refine blk_drew ?_|refine blk_alloc ?_ _));exact BK101.out⟩,⟨by repeat (first|(with_reducible first|exact HB.out|apply below_alloc|apply pw_below_drewN|apply below_drew1|refine below_set ?_ GE101.out)|exact HB.out)⟩⟩
  ·rw [if_neg c4] at H
   have c4b0:decide (a0_1 < 5)=false:=decide_eq_false c4
   clear c4
   (first|rw [c4b0]|(simp only [i64_w,i32_w];rw [c4b0])|skip)
   by_cases c6:a0_1 > 300
   ·rw [if_pos c6] at H
    have c6b0:decide (300 < a0_1)=true:=decide_eq_true c6
    clear c6
    have H':=Aside0.mk H
    clear H
    have hcz7_0:w3.cell? ⟨gb101,0,none⟩=some (.string a0_0):=(blk_cell BK101.out 0).trans rfl
    have hcz7_1:w3.cell? ⟨gb101,1,none⟩=some (.int .i64 a0_1):=(blk_cell BK101.out 1).trans rfl
    have hcz7_2:w3.cell? ⟨gb101,2,none⟩=some (.int .i64 a0_2):=(blk_cell BK101.out 2).trans rfl
    have hcz7_3:w3.cell? ⟨gb101,3,none⟩=some (.int .i64 a0_3):=(blk_cell BK101.out 3).trans rfl
    have hcz7_4:w3.cell? ⟨gb101,4,none⟩=some (.int .i64 a0_4):=(blk_cell BK101.out 4).trans rfl
    have hcz7_5:w3.cell? ⟨gb101,5,none⟩=some (.slice A0_5 l0_5.length c0_5):=(blk_cell BK101.out 5).trans rfl
    have hcz7_6:w3.cell? ⟨gb101,6,none⟩=some (.slice A0_6 l0_6.length c0_6):=(blk_cell BK101.out 6).trans rfl
    have hfz7_0:=blk_frozen BK101.out 0
    have hfz7_1:=blk_frozen BK101.out 1
    have hfz7_2:=blk_frozen BK101.out 2
    have hfz7_3:=blk_frozen BK101.out 3
    have hfz7_4:=blk_frozen BK101.out 4
    have hfz7_5:=blk_frozen BK101.out 5
    have hfz7_6:=blk_frozen BK101.out 6
    go_wp2
    go_meet
    case rel=>exact ⟨_,(true),(by first|rfl|(simp;done)|(simp [*];done)),H',⟨by first|omega|exact Nat.le_refl _⟩,⟨by (with_reducible repeat (first|refine blk_drewN ?_ _|refine blk_drew ?_|refine blk_alloc ?_ _));exact BK101.out⟩,⟨by repeat (first|(with_reducible first|exact HB.out|apply below_alloc|apply pw_below_drewN|apply below_drew1|refine below_set ?_ GE101.out)|exact HB.out)⟩⟩
   ·rw [if_neg c6] at H
    have c6b0:decide (300 < a0_1)=false:=decide_eq_false c6
    clear c6
    by_cases c8:a0_2 < a0_1
    ·rw [if_pos c8] at H
     have c8b0:decide (a0_2 < a0_1)=true:=decide_eq_true c8
     clear c8
     have H':=Aside0.mk H
     clear H
     have hcz9_0:w3.cell? ⟨gb101,0,none⟩=some (.string a0_0):=(blk_cell BK101.out 0).trans rfl
     have hcz9_1:w3.cell? ⟨gb101,1,none⟩=some (.int .i64 a0_1):=(blk_cell BK101.out 1).trans rfl
     have hcz9_2:w3.cell? ⟨gb101,2,none⟩=some (.int .i64 a0_2):=(blk_cell BK101.out 2).trans rfl
     have hcz9_3:w3.cell? ⟨gb101,3,none⟩=some (.int .i64 a0_3):=(blk_cell BK101.out 3).trans rfl
     have hcz9_4:w3.cell? ⟨gb101,4,none⟩=some (.int .i64 a0_4):=(blk_cell BK101.out 4).trans rfl
     have hcz9_5:w3.cell? ⟨gb101,5,none⟩=some (.slice A0_5 l0_5.length c0_5):=(blk_cell BK101.out 5).trans rfl
     have hcz9_6:w3.cell? ⟨gb101,6,none⟩=some (.slice A0_6 l0_6.length c0_6):=(blk_cell BK101.out 6).trans rfl
     have hfz9_0:=blk_frozen BK101.out 0
     have hfz9_1:=blk_frozen BK101.out 1
     have hfz9_2:=blk_frozen BK101.out 2
     have hfz9_3:=blk_frozen BK101.out 3
     have hfz9_4:=blk_frozen BK101.out 4
     have hfz9_5:=blk_frozen BK101.out 5
     have hfz9_6:=blk_frozen BK101.out 6
     go_wp2
     go_meet
     case rel=>exact ⟨_,(true),(by first|rfl|(simp;done)|(simp [*];done)),H',⟨by first|omega|exact Nat.le_refl _⟩,⟨by (with_reducible repeat (first|refine blk_drewN ?_ _|refine blk_drew ?_|refine blk_alloc ?_ _));exact BK101.out⟩,⟨by repeat (first|(with_reducible first|exact HB.out|apply below_alloc|apply pw_below_drewN|apply below_drew1|refine below_set ?_ GE101.out)|exact HB.out)⟩⟩
    ·rw [if_neg c8] at H
     have c8b0:decide (a0_2 < a0_1)=false:=decide_eq_false c8
     clear c8
     have H':=Aside0.mk H
     clear H
     have hcz10_0:w3.cell? ⟨gb101,0,none⟩=some (.string a0_0):=(blk_cell BK101.out 0).trans rfl
     have hcz10_1:w3.cell? ⟨gb101,1,none⟩=some (.int .i64 a0_1):=(blk_cell BK101.out 1).trans rfl
     have hcz10_2:w3.cell? ⟨gb101,2,none⟩=some (.int .i64 a0_2):=(blk_cell BK101.out 2).trans rfl
     have hcz10_3:w3.cell? ⟨gb101,3,none⟩=some (.int .i64 a0_3):=(blk_cell BK101.out 3).trans rfl
     have hcz10_4:w3.cell? ⟨gb101,4,none⟩=some (.int .i64 a0_4):=(blk_cell BK101.out 4).trans rfl
     have hcz10_5:w3.cell? ⟨gb101,5,none⟩=some (.slice A0_5 l0_5.length c0_5):=(blk_cell BK101.out 5).trans rfl
     have hcz10_6:w3.cell? ⟨gb101,6,none⟩=some (.slice A0_6 l0_6.length c0_6):=(blk_cell BK101.out 6).trans rfl
     have hfz10_0:=blk_frozen BK101.out 0
     have hfz10_1:=blk_frozen BK101.out 1
     have hfz10_2:=blk_frozen BK101.out 2
     have hfz10_3:=blk_frozen BK101.out 3
     have hfz10_4:=blk_frozen BK101.out 4
     have hfz10_5:=blk_frozen BK101.out 5
     have hfz10_6:=blk_frozen BK101.out 6
     go_wp2
     go_meet
     case rel=>exact ⟨_,(decide (a0_2 > 600)),(by first|rfl|(simp;done)|(simp [*];done)),H',⟨by first|omega|exact Nat.le_refl _⟩,⟨by (with_reducible repeat (first|refine blk_drewN ?_ _|refine blk_drew ?_|refine blk_alloc ?_ _));exact BK101.out⟩,⟨by repeat (first|(with_reducible first|exact HB.out|apply below_alloc|apply pw_below_drewN|apply below_drew1|refine below_set ?_ GE101.out)|exact HB.out)⟩⟩
 case rest =>
  clear HC2
  try clear p2
  try clear c4
  try clear c4b0
  try clear c6
  try clear c6b0
  try clear c8
  try clear c8b0
  try clear hcz10_0
  try clear hcz10_1
  try clear hcz10_2
  try clear hcz10_3
  try clear hcz10_4
  try clear hcz10_5
  try clear hcz10_6
  try clear hcz5_0
  try clear hcz5_1
  try clear hcz5_2
  try clear hcz5_3
  try clear hcz5_4
  try clear hcz5_5
  try clear hcz5_6
  try clear hcz7_0
  try clear hcz7_1
  try clear hcz7_2
  try clear hcz7_3
  try clear hcz7_4
  try clear hcz7_5
  try clear hcz7_6
  try clear hcz9_0
  try clear hcz9_1
  try clear hcz9_2
  try clear hcz9_3
  try clear hcz9_4
  try clear hcz9_5
  try clear hcz9_6
  try clear hfz10_0
  try clear hfz10_1
  try clear hfz10_2
  try clear hfz10_3
  try clear hfz10_4
  try clear hfz10_5
  try clear hfz10_6
  try clear hfz5_0
  try clear hfz5_1
  try clear hfz5_2
  try clear hfz5_3
  try clear hfz5_4
  try clear hfz5_5
  try clear hfz5_6
  try clear hfz7_0
  try clear hfz7_1
  try clear hfz7_2
  try clear hfz7_3
  try clear hfz7_4
  try clear hfz7_5
  try clear hfz7_6
  try clear hfz9_0
  try clear hfz9_1
  try clear hfz9_2
  try clear hfz9_3
  try clear hfz9_4
  try clear hfz9_5
  try clear hfz9_6
  obtain ⟨kq,x24_1,rfl,HA,HJ1,BK101,HB⟩:=hcut
  cases kq with
  | zero=>exact absurd HA.out (by simp [product_sized.j0])
  | succ kj1 =>
   have H:=HA.out
   clear HA
   simp only [product_sized.j0] at H
   by_cases c11:x24_1=true
   ·subst c11
    have H1:(some false)=some r:=by rw [if_pos rfl] at H;exact H
    clear H
    have H:=H1
    clear H1
    obtain rfl:=Option.some.inj H
    go_wp2
    go_ret
    exact ⟨by first|rfl|(simp [errW_none,errW_some]<;>rfl)|(simp [*,errW_none,errW_some]<;>rfl),by repeat (first|(with_reducible first|exact HB.out|apply below_alloc|apply pw_below_drewN|apply below_drew1|refine below_set ?_ GE101.out)|exact HB.out)⟩
   ·replace c11:=Bool.eq_false_iff.mpr c11
    subst c11
    have H1:(if a0_3 < 0 then (some false) else (if a0_3 > 200 then (some false) else (if a0_4 < 0 then (some false) else (if a0_4 > 1000 then (some false) else ((product_Green.f kj1 a0_0 a0_1 a0_2 a0_3 a0_4 l0_5 l0_6).bind fun bt102=>(some (decide (bt102.2≤600))))))))=some r:=by rw [if_neg (show ¬ (false=true) by decide)] at H;exact H
    clear H
    have H:=H1
    clear H1
    by_cases c12:a0_3 < 0
    ·rw [if_pos c12] at H
     have c12b0:decide (a0_3 < 0)=true:=decide_eq_true c12
     clear c12
     obtain rfl:=Option.some.inj H
     have hcz13_0:wc.cell? ⟨gb101,0,none⟩=some (.string a0_0):=(blk_cell BK101.out 0).trans rfl
     have hcz13_1:wc.cell? ⟨gb101,1,none⟩=some (.int .i64 a0_1):=(blk_cell BK101.out 1).trans rfl
     have hcz13_2:wc.cell? ⟨gb101,2,none⟩=some (.int .i64 a0_2):=(blk_cell BK101.out 2).trans rfl
     have hcz13_3:wc.cell? ⟨gb101,3,none⟩=some (.int .i64 a0_3):=(blk_cell BK101.out 3).trans rfl
     have hcz13_4:wc.cell? ⟨gb101,4,none⟩=some (.int .i64 a0_4):=(blk_cell BK101.out 4).trans rfl
     have hcz13_5:wc.cell? ⟨gb101,5,none⟩=some (.slice A0_5 l0_5.length c0_5):=(blk_cell BK101.out 5).trans rfl
     have hcz13_6:wc.cell? ⟨gb101,6,none⟩=some (.slice A0_6 l0_6.length c0_6):=(blk_cell BK101.out 6).trans rfl
     have hfz13_0:=blk_frozen BK101.out 0
     have hfz13_1:=blk_frozen BK101.out 1
     have hfz13_2:=blk_frozen BK101.out 2
     have hfz13_3:=blk_frozen BK101.out 3
     have hfz13_4:=blk_frozen BK101.out 4
     have hfz13_5:=blk_frozen BK101.out 5
     have hfz13_6:=blk_frozen BK101.out 6
     go_wp2
     go_ret
     exact ⟨by first|rfl|(simp [errW_none,errW_some]<;>rfl)|(simp [*,errW_none,errW_some]<;>rfl),by repeat (first|(with_reducible first|exact HB.out|apply below_alloc|apply pw_below_drewN|apply below_drew1|refine below_set ?_ GE101.out)|exact HB.out)⟩
    ·rw [if_neg c12] at H
     have c12b0:decide (a0_3 < 0)=false:=decide_eq_false c12
     clear c12
     by_cases c14:a0_3 > 200
     ·rw [if_pos c14] at H
      have c14b0:decide (200 < a0_3)=true:=decide_eq_true c14
      clear c14
      obtain rfl:=Option.some.inj H
      have hcz15_0:wc.cell? ⟨gb101,0,none⟩=some (.string a0_0):=(blk_cell BK101.out 0).trans rfl
      have hcz15_1:wc.cell? ⟨gb101,1,none⟩=some (.int .i64 a0_1):=(blk_cell BK101.out 1).trans rfl
      have hcz15_2:wc.cell? ⟨gb101,2,none⟩=some (.int .i64 a0_2):=(blk_cell BK101.out 2).trans rfl
      have hcz15_3:wc.cell? ⟨gb101,3,none⟩=some (.int .i64 a0_3):=(blk_cell BK101.out 3).trans rfl
      have hcz15_4:wc.cell? ⟨gb101,4,none⟩=some (.int .i64 a0_4):=(blk_cell BK101.out 4).trans rfl
      have hcz15_5:wc.cell? ⟨gb101,5,none⟩=some (.slice A0_5 l0_5.length c0_5):=(blk_cell BK101.out 5).trans rfl
      have hcz15_6:wc.cell? ⟨gb101,6,none⟩=some (.slice A0_6 l0_6.length c0_6):=(blk_cell BK101.out 6).trans rfl
      have hfz15_0:=blk_frozen BK101.out 0
      have hfz15_1:=blk_frozen BK101.out 1
      have hfz15_2:=blk_frozen BK101.out 2
      have hfz15_3:=blk_frozen BK101.out 3
      have hfz15_4:=blk_frozen BK101.out 4
      have hfz15_5:=blk_frozen BK101.out 5
      have hfz15_6:=blk_frozen BK101.out 6
      go_wp2
      go_ret
      exact ⟨by first|rfl|(simp [errW_none,errW_some]<;>rfl)|(simp [*,errW_none,errW_some]<;>rfl),by repeat (first|(with_reducible first|exact HB.out|apply below_alloc|apply pw_below_drewN|apply below_drew1|refine below_set ?_ GE101.out)|exact HB.out)⟩
     ·rw [if_neg c14] at H
      have c14b0:decide (200 < a0_3)=false:=decide_eq_false c14
      clear c14
      by_cases c16:a0_4 < 0
      ·rw [if_pos c16] at H
       have c16b0:decide (a0_4 < 0)=true:=decide_eq_true c16
       clear c16
       obtain rfl:=Option.some.inj H
       have hcz17_0:wc.cell? ⟨gb101,0,none⟩=some (.string a0_0):=(blk_cell BK101.out 0).trans rfl
       have hcz17_1:wc.cell? ⟨gb101,1,none⟩=some (.int .i64 a0_1):=(blk_cell BK101.out 1).trans rfl
       have hcz17_2:wc.cell? ⟨gb101,2,none⟩=some (.int .i64 a0_2):=(blk_cell BK101.out 2).trans rfl
       have hcz17_3:wc.cell? ⟨gb101,3,none⟩=some (.int .i64 a0_3):=(blk_cell BK101.out 3).trans rfl
       have hcz17_4:wc.cell? ⟨gb101,4,none⟩=some (.int .i64 a0_4):=(blk_cell BK101.out 4).trans rfl
       have hcz17_5:wc.cell? ⟨gb101,5,none⟩=some (.slice A0_5 l0_5.length c0_5):=(blk_cell BK101.out 5).trans rfl
       have hcz17_6:wc.cell? ⟨gb101,6,none⟩=some (.slice A0_6 l0_6.length c0_6):=(blk_cell BK101.out 6).trans rfl
       have hfz17_0:=blk_frozen BK101.out 0
       have hfz17_1:=blk_frozen BK101.out 1
       have hfz17_2:=blk_frozen BK101.out 2
       have hfz17_3:=blk_frozen BK101.out 3
       have hfz17_4:=blk_frozen BK101.out 4
       have hfz17_5:=blk_frozen BK101.out 5
       have hfz17_6:=blk_frozen BK101.out 6
       go_wp2
       go_ret
       exact ⟨by first|rfl|(simp [errW_none,errW_some]<;>rfl)|(simp [*,errW_none,errW_some]<;>rfl),by repeat (first|(with_reducible first|exact HB.out|apply below_alloc|apply pw_below_drewN|apply below_drew1|refine below_set ?_ GE101.out)|exact HB.out)⟩
      ·rw [if_neg c16] at H
       have c16b0:decide (a0_4 < 0)=false:=decide_eq_false c16
       clear c16
       by_cases c18:a0_4 > 1000
       ·rw [if_pos c18] at H
        have c18b0:decide (1000 < a0_4)=true:=decide_eq_true c18
        clear c18
        obtain rfl:=Option.some.inj H
        have hcz19_0:wc.cell? ⟨gb101,0,none⟩=some (.string a0_0):=(blk_cell BK101.out 0).trans rfl
        have hcz19_1:wc.cell? ⟨gb101,1,none⟩=some (.int .i64 a0_1):=(blk_cell BK101.out 1).trans rfl
        have hcz19_2:wc.cell? ⟨gb101,2,none⟩=some (.int .i64 a0_2):=(blk_cell BK101.out 2).trans rfl
        have hcz19_3:wc.cell? ⟨gb101,3,none⟩=some (.int .i64 a0_3):=(blk_cell BK101.out 3).trans rfl
        have hcz19_4:wc.cell? ⟨gb101,4,none⟩=some (.int .i64 a0_4):=(blk_cell BK101.out 4).trans rfl
        have hcz19_5:wc.cell? ⟨gb101,5,none⟩=some (.slice A0_5 l0_5.length c0_5):=(blk_cell BK101.out 5).trans rfl
        have hcz19_6:wc.cell? ⟨gb101,6,none⟩=some (.slice A0_6 l0_6.length c0_6):=(blk_cell BK101.out 6).trans rfl
        have hfz19_0:=blk_frozen BK101.out 0
        have hfz19_1:=blk_frozen BK101.out 1
        have hfz19_2:=blk_frozen BK101.out 2
        have hfz19_3:=blk_frozen BK101.out 3
        have hfz19_4:=blk_frozen BK101.out 4
        have hfz19_5:=blk_frozen BK101.out 5
        have hfz19_6:=blk_frozen BK101.out 6
        go_wp2
        go_ret
        exact ⟨by first|rfl|(simp [errW_none,errW_some]<;>rfl)|(simp [*,errW_none,errW_some]<;>rfl),by repeat (first|(with_reducible first|exact HB.out|apply below_alloc|apply pw_below_drewN|apply below_drew1|refine below_set ?_ GE101.out)|exact HB.out)⟩
       ·rw [if_neg c18] at H
        have c18b0:decide (1000 < a0_4)=false:=decide_eq_false c18
        clear c18
        replace H:=Option.bind_eq_some_iff.mp H
        obtain ⟨⟨t102,t103⟩,A200,H⟩:=H
        replace H:(some (decide (t103≤600)))=some r:=H
        have A20:=Aside0.mk A200
        clear A200
        obtain rfl:=Option.some.inj H
        have hcz21_0:wc.cell? ⟨gb101,0,none⟩=some (.string a0_0):=(blk_cell BK101.out 0).trans rfl
        have hcz21_1:wc.cell? ⟨gb101,1,none⟩=some (.int .i64 a0_1):=(blk_cell BK101.out 1).trans rfl
        have hcz21_2:wc.cell? ⟨gb101,2,none⟩=some (.int .i64 a0_2):=(blk_cell BK101.out 2).trans rfl
        have hcz21_3:wc.cell? ⟨gb101,3,none⟩=some (.int .i64 a0_3):=(blk_cell BK101.out 3).trans rfl
        have hcz21_4:wc.cell? ⟨gb101,4,none⟩=some (.int .i64 a0_4):=(blk_cell BK101.out 4).trans rfl
        have hcz21_5:wc.cell? ⟨gb101,5,none⟩=some (.slice A0_5 l0_5.length c0_5):=(blk_cell BK101.out 5).trans rfl
        have hcz21_6:wc.cell? ⟨gb101,6,none⟩=some (.slice A0_6 l0_6.length c0_6):=(blk_cell BK101.out 6).trans rfl
        have hfz21_0:=blk_frozen BK101.out 0
        have hfz21_1:=blk_frozen BK101.out 1
        have hfz21_2:=blk_frozen BK101.out 2
        have hfz21_3:=blk_frozen BK101.out 3
        have hfz21_4:=blk_frozen BK101.out 4
        have hfz21_5:=blk_frozen BK101.out 5
        have hfz21_6:=blk_frozen BK101.out 6
        go_wp2_with (first|((with_reducible refine gate_callee (f:=52) rfl ?_);refine goesL_ (some 45) rfl rfl Tryd.func52 (by kernel_rfl) rfl #[.agg #[.string a0_0,.int .i64 a0_1,.int .i64 a0_2,.int .i64 a0_3,.int .i64 a0_4,.slice A0_5 l0_5.length c0_5,.slice A0_6 l0_6.length c0_6]] rfl (by (try simp only [List.map_toArray,List.map_cons,List.map_nil]);first|done|rfl|(simp only [List.length_drop,List.length_take];rfl)) ?_;(with_reducible refine (product_Green.calls kj1 a0_0 a0_1 a0_2 a0_3 a0_4 _ _ l0_5 _ _ l0_6 t102 t103 _ ?side1 ?side2 ?side3 ?side4 A20.out).mono ?_);(case side1=>repeat (first|exact (Kd.C_below HR0_5.out HB.out)|(with_reducible refine Kd.C_alloc ?_ _)|(with_reducible refine Kd.C_drewN ?_ _)|(with_reducible refine Kd.C_drew ?_)));(case side2=>exact HC0_5.out);(case side3=>repeat (first|exact (Kd.C_below HR0_6.out HB.out)|(with_reducible refine Kd.C_alloc ?_ _)|(with_reducible refine Kd.C_drewN ?_ _)|(with_reducible refine Kd.C_drew ?_)));(case side4=>exact HC0_6.out);rintro e w22 ⟨rfl,hb⟩;refine ⟨_,rfl,?_⟩;have n0_:=Aside0.mk (blk_below (g:=gb101) (o:=.cells #[.string a0_0,.int .i64 a0_1,.int .i64 a0_2,.int .i64 a0_3,.int .i64 a0_4,.slice A0_5 l0_5.length c0_5,.slice A0_6 l0_6.length c0_6] 53 (0,0)) (by (with_reducible repeat (first|refine blk_drewN ?_ _|refine blk_drew ?_|refine blk_alloc ?_ _));exact BK101.out) hb);have n1_:=Aside0.mk (below_step (by repeat (first|(with_reducible first|exact HB.out|apply below_alloc|apply pw_below_drewN|apply below_drew1|refine below_set ?_ GE101.out)|exact HB.out)) hb);clear BK101;clear HB;have BK101:=n0_;have HB:=n1_;clear n0_ n1_;(try clear hb);(try clear hb2);(try clear hk);(try clear hi)))
        go_ret
        exact ⟨by first|rfl|(simp [errW_none,errW_some]<;>rfl)|(simp [*,errW_none,errW_some]<;>rfl),by repeat (first|(with_reducible first|exact HB.out|apply below_alloc|apply pw_below_drewN|apply below_drew1|refine below_set ?_ GE101.out)|exact HB.out)⟩
end Go.Proofs.YtojkjhaobjidlaaDoor.P
namespace Go.Proofs.YtojkjhaobjidlaaDoor.P
open Go.RowKit Go.Proofs.YtojkjhaobjidlaaDoorW.PrintWords Go.Proofs.YtojkjhaobjidlaaDoorW.PrintLast Go.Proofs.YtojkjhaobjidlaaDoorW.PrintMore
attribute [local go_sem] max2_int min2_int max_two min_two max_three min_three max_four min_four
attribute [local go_sem] cell_twice
set_option linter.unusedVariables false
set_option linter.unusedSimpArgs false
def product_Check.l0:Nat→List (S53)→List (S53)→Int→Int→Option (Int)
 | 0,_,_,_,_=>none
 | k+1,x0,x11,x12,x13=>if x13 < x12 then (if 0≤x13 then (if x13 < (x11.length:Int) then ((ident_IsName.f k ((rd_T53 x11 x13).f0)).bind fun t103=>(if t103=true then (if x13≤(x0.length:Int) then ((product_Find.f k (x0.take (x13:Int).toNat) ((rd_T53 x11 x13).f0)).bind fun bt108=>(if bt108.2=true then (some 7) else ((product_sized.f k ((rd_T53 x11 x13).f0) ((rd_T53 x11 x13).f1) ((rd_T53 x11 x13).f2) ((rd_T53 x11 x13).f3) ((rd_T53 x11 x13).f4) ((rd_T53 x11 x13).f5) ((rd_T53 x11 x13).f6)).bind fun t110=>(if t110=true then ((product_checkLengths.f k ((rd_T53 x11 x13).f0) ((rd_T53 x11 x13).f1) ((rd_T53 x11 x13).f2) ((rd_T53 x11 x13).f3) ((rd_T53 x11 x13).f4) ((rd_T53 x11 x13).f5) ((rd_T53 x11 x13).f6)).bind fun t111=>(if t111=0 then (product_Check.l0 k x0 x11 x12 (wrap64 (x13+1))) else (some t111))) else (some 9))))) else (none)) else (some 6))) else (none)) else (none)) else (some 0)
def product_Check.f (k:Nat) (l0:List (S53)):Option (Int):=if (l0.length:Int) > 16 then (some 4) else (product_Check.l0 k l0 l0 (l0.length:Int) 0)
theorem product_Check.mono_l:∀ k,(∀ y0 y1 y2 y3,LeO (product_Check.l0 k y0 y1 y2 y3) (product_Check.l0 (k+1) y0 y1 y2 y3))
 | 0=>fun _ _ _ _ r h=>by simp [product_Check.l0] at h
 | k+1=>by
  have ih0:=product_Check.mono_l k
  ·intro y0 y1 y2 y3
   unfold product_Check.l0
   repeat' first
   | (with_reducible exact ih0 _ _ _ _)
   | (with_reducible exact ident_IsName.mono _ _)
   | (with_reducible exact product_Find.mono _ _ _)
   | (with_reducible exact product_checkLengths.mono _ _ _ _ _ _ _ _)
   | (with_reducible exact product_sized.mono _ _ _ _ _ _ _ _)
   | (with_reducible exact LeO.refl _)
   | (with_reducible exact LeO.none _)
   | (with_reducible refine LeO.ite ?_ ?_)
   | (with_reducible refine LeO.bind ?_ (fun _=>?_))
   | exact ih0 _ _ _ _
   | exact ident_IsName.mono _ _
   | exact product_Find.mono _ _ _
   | exact product_checkLengths.mono _ _ _ _ _ _ _ _
   | exact product_sized.mono _ _ _ _ _ _ _ _
   | exact LeO.none _
   | refine LeO.ite ?_ ?_
   | refine LeO.bind ?_ (fun _=>?_)
theorem product_Check.mono:∀ a0 k,LeO (product_Check.f k a0) (product_Check.f (k+1) a0):=by
 intro a0 k
 have ih0:=product_Check.mono_l k
 unfold product_Check.f
 repeat' first
   | (with_reducible exact ih0 _ _ _ _)
   | (with_reducible exact ident_IsName.mono _ _)
   | (with_reducible exact product_Find.mono _ _ _)
   | (with_reducible exact product_checkLengths.mono _ _ _ _ _ _ _ _)
   | (with_reducible exact product_sized.mono _ _ _ _ _ _ _ _)
   | (with_reducible exact LeO.refl _)
   | (with_reducible exact LeO.none _)
   | (with_reducible refine LeO.ite ?_ ?_)
   | (with_reducible refine LeO.bind ?_ (fun _=>?_))
   | exact ih0 _ _ _ _
   | exact ident_IsName.mono _ _
   | exact product_Find.mono _ _ _
   | exact product_checkLengths.mono _ _ _ _ _ _ _ _
   | exact product_sized.mono _ _ _ _ _ _ _ _
   | exact LeO.none _
   | refine LeO.ite ?_ ?_
   | refine LeO.bind ?_ (fun _=>?_)
def product_Check.T8:Bool × List (List Nat × List Nat):=(true,[([],[]),([],[]),([0,1],[0,1]),([],[]),([3],[3]),([2,4],[2,4]),([5],[5]),([6],[6]),([6],[6]),([7,5,0,1,2,3,4,5,6,7],[7]),([8,9,0,1,2,3,4,5,6,7,8,9],[8])])
def product_Check.B8:List Nat:=[0,0,3,0,8,31,63,127,127,255,1023]
theorem product_Check.tab8:rtab .any (opsOf Tryd.f28 8)=product_Check.T8:=by kernel_rfl
theorem product_Check.bits8:waitsOk product_Check.T8.2 product_Check.B8=true:=by kernel_rfl
set_option maxHeartbeats 8000000 in
set_option maxRecDepth 100000 in
theorem product_Check.calls (k:Nat) (A0:Option Addr) (c0:Nat) (l0:List (S53)) (r:Int) (w:World) (hr0:Kd.C k53 w A0 l0.length l0) (hc0:l0.length≤c0) (h:product_Check.f k l0=some r) :
  Calls Tryd.prog 28 #[.slice A0 l0.length c0] w fun e w'=>e=.returned (.int .i64 r)∧Below w.heap.size w w':=by
 have hu53:=Tryd.underlying53
 have HR0:=Aside0.mk hr0
 have HC0:=Aside0.mk hc0
 clear hr0 hc0
 have HB:=Aside0.mk (Below.refl w.heap.size w)
 have H:(if (l0.length:Int) > 16 then (some 4) else (product_Check.l0 k l0 l0 (l0.length:Int) 0))=some r:=h
 clear h
 by_cases c2:(l0.length:Int) > 16
 ·rw [if_pos c2] at H
  have c2b0:decide (16 < (l0.length:Int))=true:=decide_eq_true c2
  have c2b1:decide (16 < l0.length)=true:=decide_eq_true (by omega)
  clear c2
  obtain rfl:=Option.some.inj H
  go_enter Tryd.func28,Tryd.ntmps28
  go_wp2
  go_ret
  exact ⟨by first|rfl|(simp [errW_none,errW_some]<;>rfl)|(simp [*,errW_none,errW_some]<;>rfl),by repeat (first|(with_reducible first|exact HB.out|apply below_alloc|apply pw_below_drewN|apply below_drew1)|exact HB.out)⟩
 ·rw [if_neg c2] at H
  have c2b0:decide (16 < (l0.length:Int))=false:=decide_eq_false c2
  have c2b1:decide (16 < l0.length)=false:=decide_eq_false (by omega)
  clear c2
  have H':=Aside0.mk H
  clear H
  go_enter Tryd.func28,Tryd.ntmps28
  go_wp2
  go_loopg [13] k (fun kq v13 w'=>∃ (x13_1:Int),v13=.int .i64 x13_1∧Aside0 (product_Check.l0 kq l0 l0 (l0.length:Int) x13_1=some r)∧Aside0 (kq≤k)∧Aside0 (Below w.heap.size w w'))
  case atStart=>exact ⟨(0),(by first|rfl|(simp;done)|(simp [*];done)),H',⟨Nat.le_refl _⟩,⟨by repeat (first|(with_reducible first|exact HB.out|apply below_alloc|apply pw_below_drewN|apply below_drew1)|exact HB.out)⟩⟩
  case round =>
   clear H'
   try clear c2
   try clear c2b0
   try clear c2b1
   try clear p2
   obtain ⟨x13_1,rfl,HA,HK1,HB⟩:=hrel
   cases gk with
   | zero=>exact absurd HA.out (by simp [product_Check.l0])
   | succ k1 =>
    have H:=HA.out
    clear HA
    simp only [product_Check.l0] at H
    by_cases c3:x13_1 < (l0.length:Int)
    ·rw [if_pos c3] at H
     have c3b0:decide (x13_1 < (l0.length:Int))=true:=decide_eq_true c3
     clear c3
     by_cases c4:0≤x13_1
     ·rw [if_pos c4] at H
      have c4b0:decide (0≤x13_1)=true:=decide_eq_true c4
      clear c4
      by_cases c5:x13_1 < (l0.length:Int)
      ·rw [if_pos c5] at H
       have c5b0:decide (x13_1 < (l0.length:Int))=true:=decide_eq_true c5
       clear c5
       replace H:=Option.bind_eq_some_iff.mp H
       obtain ⟨t103,A60,H⟩:=H
       replace H:(if t103=true then (if x13_1≤(l0.length:Int) then ((product_Find.f k1 (l0.take (x13_1:Int).toNat) ((rd_T53 l0 x13_1).f0)).bind fun bt108=>(if bt108.2=true then (some 7) else ((product_sized.f k1 ((rd_T53 l0 x13_1).f0) ((rd_T53 l0 x13_1).f1) ((rd_T53 l0 x13_1).f2) ((rd_T53 l0 x13_1).f3) ((rd_T53 l0 x13_1).f4) ((rd_T53 l0 x13_1).f5) ((rd_T53 l0 x13_1).f6)).bind fun t110=>(if t110=true then ((product_checkLengths.f k1 ((rd_T53 l0 x13_1).f0) ((rd_T53 l0 x13_1).f1) ((rd_T53 l0 x13_1).f2) ((rd_T53 l0 x13_1).f3) ((rd_T53 l0 x13_1).f4) ((rd_T53 l0 x13_1).f5) ((rd_T53 l0 x13_1).f6)).bind fun t111=>(if t111=0 then (product_Check.l0 k1 l0 l0 (l0.length:Int) (wrap64 (x13_1+1))) else (some t111))) else (some 9))))) else (none)) else (some 6))=some r:=H
       have A6:=Aside0.mk A60
       clear A60
       by_cases c7:t103=true
       ·subst c7
        have H1:(if x13_1≤(l0.length:Int) then ((product_Find.f k1 (l0.take (x13_1:Int).toNat) ((rd_T53 l0 x13_1).f0)).bind fun bt108=>(if bt108.2=true then (some 7) else ((product_sized.f k1 ((rd_T53 l0 x13_1).f0) ((rd_T53 l0 x13_1).f1) ((rd_T53 l0 x13_1).f2) ((rd_T53 l0 x13_1).f3) ((rd_T53 l0 x13_1).f4) ((rd_T53 l0 x13_1).f5) ((rd_T53 l0 x13_1).f6)).bind fun t110=>(if t110=true then ((product_checkLengths.f k1 ((rd_T53 l0 x13_1).f0) ((rd_T53 l0 x13_1).f1) ((rd_T53 l0 x13_1).f2) ((rd_T53 l0 x13_1).f3) ((rd_T53 l0 x13_1).f4) ((rd_T53 l0 x13_1).f5) ((rd_T53 l0 x13_1).f6)).bind fun t111=>(if t111=0 then (product_Check.l0 k1 l0 l0 (l0.length:Int) (wrap64 (x13_1+1))) else (some t111))) else (some 9))))) else (none))=some r:=by rw [if_pos rfl] at H;exact H
        clear H
        have H:=H1
        clear H1
        have c8b0:=eq_true (of_decide_eq_true (by first|(with_reducible assumption)|assumption):0≤x13_1)
        by_cases c9:x13_1≤(l0.length:Int)
        ·rw [if_pos c9] at H
         have c9b0:=eq_true c9
         have c9b1:decide (x13_1≤(l0.length:Int))=true:=decide_eq_true c9
         clear c9
         obtain ⟨y104,hy104⟩:∃ y_:List (S53),y_=(l0.take (x13_1:Int).toNat):=⟨_,rfl⟩
         replace H:((product_Find.f k1 y104 ((rd_T53 l0 x13_1).f0)).bind fun bt108=>(if bt108.2=true then (some 7) else ((product_sized.f k1 ((rd_T53 l0 x13_1).f0) ((rd_T53 l0 x13_1).f1) ((rd_T53 l0 x13_1).f2) ((rd_T53 l0 x13_1).f3) ((rd_T53 l0 x13_1).f4) ((rd_T53 l0 x13_1).f5) ((rd_T53 l0 x13_1).f6)).bind fun t110=>(if t110=true then ((product_checkLengths.f k1 ((rd_T53 l0 x13_1).f0) ((rd_T53 l0 x13_1).f1) ((rd_T53 l0 x13_1).f2) ((rd_T53 l0 x13_1).f3) ((rd_T53 l0 x13_1).f4) ((rd_T53 l0 x13_1).f5) ((rd_T53 l0 x13_1).f6)).bind fun t111=>(if t111=0 then (product_Check.l0 k1 l0 l0 (l0.length:Int) (wrap64 (x13_1+1))) else (some t111))) else (some 9)))))=some r:=by first|(rw [hy104];with_reducible exact H)|(have H2_:=(Option.bind_some _ _).symm.trans H;rw [hy104];with_reducible exact H2_)|(have H2_:=(Option.bind_some _ _).symm.trans H;with_reducible exact H2_)|with_reducible exact H|(rw [hy104];exact H)|exact H
         have Ny104:=Aside0.mk hy104
         clear hy104
         replace H:=Option.bind_eq_some_iff.mp H
         obtain ⟨⟨t108,t109⟩,A100,H⟩:=H
         replace H:(if t109=true then (some 7) else ((product_sized.f k1 ((rd_T53 l0 x13_1).f0) ((rd_T53 l0 x13_1).f1) ((rd_T53 l0 x13_1).f2) ((rd_T53 l0 x13_1).f3) ((rd_T53 l0 x13_1).f4) ((rd_T53 l0 x13_1).f5) ((rd_T53 l0 x13_1).f6)).bind fun t110=>(if t110=true then ((product_checkLengths.f k1 ((rd_T53 l0 x13_1).f0) ((rd_T53 l0 x13_1).f1) ((rd_T53 l0 x13_1).f2) ((rd_T53 l0 x13_1).f3) ((rd_T53 l0 x13_1).f4) ((rd_T53 l0 x13_1).f5) ((rd_T53 l0 x13_1).f6)).bind fun t111=>(if t111=0 then (product_Check.l0 k1 l0 l0 (l0.length:Int) (wrap64 (x13_1+1))) else (some t111))) else (some 9))))=some r:=H
         have A10:=Aside0.mk A100
         clear A100
         by_cases c11:t109=true
         ·subst c11
          have H1:(some 7)=some r:=by rw [if_pos rfl] at H;exact H
          clear H
          have H:=H1
          clear H1
          obtain rfl:=Option.some.inj H
          have p101:0≤(x13_1:Int):=of_decide_eq_true (by first|(with_reducible assumption)|assumption)
          have q101:x13_1 < (l0.length:Int):=of_decide_eq_true (by first|(with_reducible assumption)|assumption)
          obtain ⟨ad101,A101_5,c101_5,A101_6,c101_6,e101,hx101_0,hx101_1,hx101_2,hx101_3,hx101_4,hx101_5,hx101_6,hl101_5,hi101_5,hl101_6,hi101_6⟩:=at_T53 HR0.out x13_1 p101 q101
          cases e101
          replace hx101_0:=(HB.out.cell (World.block_lt_of_cell? w _ hx101_0)).trans hx101_0
          replace hx101_1:=(HB.out.cell (World.block_lt_of_cell? w _ hx101_1)).trans hx101_1
          replace hx101_2:=(HB.out.cell (World.block_lt_of_cell? w _ hx101_2)).trans hx101_2
          replace hx101_3:=(HB.out.cell (World.block_lt_of_cell? w _ hx101_3)).trans hx101_3
          replace hx101_4:=(HB.out.cell (World.block_lt_of_cell? w _ hx101_4)).trans hx101_4
          replace hx101_5:=(HB.out.cell (World.block_lt_of_cell? w _ hx101_5)).trans hx101_5
          replace hx101_6:=(HB.out.cell (World.block_lt_of_cell? w _ hx101_6)).trans hx101_6
          have HR101_5:=Aside0.mk hi101_5
          have HC101_5:=Aside0.mk hl101_5
          clear hi101_5 hl101_5
          have HR101_6:=Aside0.mk hi101_6
          have HC101_6:=Aside0.mk hl101_6
          clear hi101_6 hl101_6
          replace p101:=eq_true p101
          replace q101:=eq_true q101
          try go_wp2_with (first|((with_reducible refine gate_dst (N:=4) rfl ?_);refine box_event ?hg (N:=4) ?hd (cs:=#[.string (⟨#[]⟩:ByteArray),.int .i64 0,.int .i64 0,.int .i64 0,.int .i64 0,.slice none 0 0,.slice none 0 0]) (t:=53) ?hr ?_;(case hd=>rfl);(case hg=>rfl);(case hr=>first|(go_simp;done)|(go_simp;rfl));intro gb102 hg w12 hbox hb;have n0_:=Aside0.mk (below_step (by repeat (first|(with_reducible first|exact HB.out|apply below_alloc|apply pw_below_drewN|apply below_drew1)|exact HB.out)) hb);have n1_:=Aside0.mk (hbox);have n2_:=Aside0.mk ((by rw [hg];exact (below_size (by repeat (first|(with_reducible first|exact HB.out|apply below_alloc|apply pw_below_drewN|apply below_drew1)|exact HB.out))):w.heap.size≤gb102));have n3_:=Aside0.mk ((by rw [hg];exact (below_size (by repeat (first|(with_reducible first|exact HB.out|apply below_alloc|apply pw_below_drewN|apply below_drew1)|exact HB.out))):w.heap.size≤gb102));clear HB;have HB:=n0_;have BK102:=n1_;have GW102:=n2_;have GE102:=n3_;clear n0_ n1_ n2_ n3_;clear hb hbox hg;have hcz13_0:w12.cell? ⟨gb102,0,none⟩=some (.string (⟨#[]⟩:ByteArray)):=(blk_cell BK102.out 0).trans rfl;have hcz13_1:w12.cell? ⟨gb102,1,none⟩=some (.int .i64 0):=(blk_cell BK102.out 1).trans rfl;have hcz13_2:w12.cell? ⟨gb102,2,none⟩=some (.int .i64 0):=(blk_cell BK102.out 2).trans rfl;have hcz13_3:w12.cell? ⟨gb102,3,none⟩=some (.int .i64 0):=(blk_cell BK102.out 3).trans rfl;have hcz13_4:w12.cell? ⟨gb102,4,none⟩=some (.int .i64 0):=(blk_cell BK102.out 4).trans rfl;have hcz13_5:w12.cell? ⟨gb102,5,none⟩=some (.slice none 0 0):=(blk_cell BK102.out 5).trans rfl;have hcz13_6:w12.cell? ⟨gb102,6,none⟩=some (.slice none 0 0):=(blk_cell BK102.out 6).trans rfl;have hfz13_0:=blk_frozen BK102.out 0;have hfz13_1:=blk_frozen BK102.out 1;have hfz13_2:=blk_frozen BK102.out 2;have hfz13_3:=blk_frozen BK102.out 3;have hfz13_4:=blk_frozen BK102.out 4;have hfz13_5:=blk_frozen BK102.out 5;have hfz13_6:=blk_frozen BK102.out 6)|((with_reducible refine gate_callee (f:=38) rfl ?_);refine goesL_ (some 20) rfl rfl Tryd.func38 (by kernel_rfl) rfl #[.string ((rd_T53 l0 x13_1).f0)] rfl (by (try simp only [List.map_toArray,List.map_cons,List.map_nil]);first|done|rfl|(simp only [List.length_drop,List.length_take];rfl)) ?_;(with_reducible refine (ident_IsName.calls k1 ((rd_T53 l0 x13_1).f0) true _ A6.out).mono ?_);rintro e w' ⟨rfl,⟨nd,rfl⟩⟩;refine ⟨_,rfl,?_⟩))
          have n0_:Aside0 ((((((((w12.setCell ⟨gb102,0,none⟩ (.string ((rd_T53 l0 x13_1).f0))).setCell ⟨gb102,1,none⟩ (.int .i64 ((rd_T53 l0 x13_1).f1))).setCell ⟨gb102,2,none⟩ (.int .i64 ((rd_T53 l0 x13_1).f2))).setCell ⟨gb102,3,none⟩ (.int .i64 ((rd_T53 l0 x13_1).f3))).setCell ⟨gb102,4,none⟩ (.int .i64 ((rd_T53 l0 x13_1).f4))).setCell ⟨gb102,5,none⟩ (.slice A101_5 ((rd_T53 l0 x13_1).f5).length c101_5)).setCell ⟨gb102,6,none⟩ (.slice A101_6 ((rd_T53 l0 x13_1).f6).length c101_6)).heap[gb102]?=some (.cells #[.string ((rd_T53 l0 x13_1).f0),.int .i64 ((rd_T53 l0 x13_1).f1),.int .i64 ((rd_T53 l0 x13_1).f2),.int .i64 ((rd_T53 l0 x13_1).f3),.int .i64 ((rd_T53 l0 x13_1).f4),.slice A101_5 ((rd_T53 l0 x13_1).f5).length c101_5,.slice A101_6 ((rd_T53 l0 x13_1).f6).length c101_6] 53 (0,0))):=⟨by (with_reducible repeat (first|refine blk_drewN ?_ _|refine blk_drew ?_|refine blk_alloc ?_ _));refine blk_put (cs:=#[.string ((rd_T53 l0 x13_1).f0),.int .i64 ((rd_T53 l0 x13_1).f1),.int .i64 ((rd_T53 l0 x13_1).f2),.int .i64 ((rd_T53 l0 x13_1).f3),.int .i64 ((rd_T53 l0 x13_1).f4),.slice A101_5 ((rd_T53 l0 x13_1).f5).length c101_5,.slice none 0 0]) ?_ 6 _ rfl;(with_reducible repeat (first|refine blk_drewN ?_ _|refine blk_drew ?_|refine blk_alloc ?_ _));refine blk_put (cs:=#[.string ((rd_T53 l0 x13_1).f0),.int .i64 ((rd_T53 l0 x13_1).f1),.int .i64 ((rd_T53 l0 x13_1).f2),.int .i64 ((rd_T53 l0 x13_1).f3),.int .i64 ((rd_T53 l0 x13_1).f4),.slice none 0 0,.slice none 0 0]) ?_ 5 _ rfl;(with_reducible repeat (first|refine blk_drewN ?_ _|refine blk_drew ?_|refine blk_alloc ?_ _));refine blk_put (cs:=#[.string ((rd_T53 l0 x13_1).f0),.int .i64 ((rd_T53 l0 x13_1).f1),.int .i64 ((rd_T53 l0 x13_1).f2),.int .i64 ((rd_T53 l0 x13_1).f3),.int .i64 0,.slice none 0 0,.slice none 0 0]) ?_ 4 _ rfl;(with_reducible repeat (first|refine blk_drewN ?_ _|refine blk_drew ?_|refine blk_alloc ?_ _));refine blk_put (cs:=#[.string ((rd_T53 l0 x13_1).f0),.int .i64 ((rd_T53 l0 x13_1).f1),.int .i64 ((rd_T53 l0 x13_1).f2),.int .i64 0,.int .i64 0,.slice none 0 0,.slice none 0 0]) ?_ 3 _ rfl;(with_reducible repeat (first|refine blk_drewN ?_ _|refine blk_drew ?_|refine blk_alloc ?_ _));refine blk_put (cs:=#[.string ((rd_T53 l0 x13_1).f0),.int .i64 ((rd_T53 l0 x13_1).f1),.int .i64 0,.int .i64 0,.int .i64 0,.slice none 0 0,.slice none 0 0]) ?_ 2 _ rfl;(with_reducible repeat (first|refine blk_drewN ?_ _|refine blk_drew ?_|refine blk_alloc ?_ _));refine blk_put (cs:=#[.string ((rd_T53 l0 x13_1).f0),.int .i64 0,.int .i64 0,.int .i64 0,.int .i64 0,.slice none 0 0,.slice none 0 0]) ?_ 1 _ rfl;(with_reducible repeat (first|refine blk_drewN ?_ _|refine blk_drew ?_|refine blk_alloc ?_ _));refine blk_put (cs:=#[.string (⟨#[]⟩:ByteArray),.int .i64 0,.int .i64 0,.int .i64 0,.int .i64 0,.slice none 0 0,.slice none 0 0]) ?_ 0 _ rfl;(with_reducible repeat (first|refine blk_drewN ?_ _|refine blk_drew ?_|refine blk_alloc ?_ _));exact BK102.out⟩
          have n1_:Aside0 (Below w.heap.size w (((((((w12.setCell ⟨gb102,0,none⟩ (.string ((rd_T53 l0 x13_1).f0))).setCell ⟨gb102,1,none⟩ (.int .i64 ((rd_T53 l0 x13_1).f1))).setCell ⟨gb102,2,none⟩ (.int .i64 ((rd_T53 l0 x13_1).f2))).setCell ⟨gb102,3,none⟩ (.int .i64 ((rd_T53 l0 x13_1).f3))).setCell ⟨gb102,4,none⟩ (.int .i64 ((rd_T53 l0 x13_1).f4))).setCell ⟨gb102,5,none⟩ (.slice A101_5 ((rd_T53 l0 x13_1).f5).length c101_5)).setCell ⟨gb102,6,none⟩ (.slice A101_6 ((rd_T53 l0 x13_1).f6).length c101_6))):=⟨by repeat (first|(with_reducible first|exact HB.out|apply below_alloc|apply pw_below_drewN|apply below_drew1|refine below_set ?_ GE102.out)|exact HB.out)⟩
          (try clear BK102)
          (try clear HB)
          generalize (((((((w12.setCell ⟨gb102,0,none⟩ (.string ((rd_T53 l0 x13_1).f0))).setCell ⟨gb102,1,none⟩ (.int .i64 ((rd_T53 l0 x13_1).f1))).setCell ⟨gb102,2,none⟩ (.int .i64 ((rd_T53 l0 x13_1).f2))).setCell ⟨gb102,3,none⟩ (.int .i64 ((rd_T53 l0 x13_1).f3))).setCell ⟨gb102,4,none⟩ (.int .i64 ((rd_T53 l0 x13_1).f4))).setCell ⟨gb102,5,none⟩ (.slice A101_5 ((rd_T53 l0 x13_1).f5).length c101_5)).setCell ⟨gb102,6,none⟩ (.slice A101_6 ((rd_T53 l0 x13_1).f6).length c101_6))=w14 at n0_ n1_ ⊢
          have BK102:=n0_
          have HB:=n1_
          clear n0_ n1_
          (try (rw [drewN_self w14];generalize hq_:World.drewN w14 _=w14;have n0_:Aside0 (w14.heap[gb102]?=some (.cells #[.string ((rd_T53 l0 x13_1).f0),.int .i64 ((rd_T53 l0 x13_1).f1),.int .i64 ((rd_T53 l0 x13_1).f2),.int .i64 ((rd_T53 l0 x13_1).f3),.int .i64 ((rd_T53 l0 x13_1).f4),.slice A101_5 ((rd_T53 l0 x13_1).f5).length c101_5,.slice A101_6 ((rd_T53 l0 x13_1).f6).length c101_6] 53 (0,0))):=⟨by rw [← hq_];exact (by (with_reducible repeat (first|refine blk_drewN ?_ _|refine blk_drew ?_|refine blk_alloc ?_ _));exact BK102.out)⟩;have n1_:Aside0 (Below w.heap.size w w14):=⟨by rw [← hq_];exact (by repeat (first|(with_reducible first|exact HB.out|apply below_alloc|apply pw_below_drewN|apply below_drew1|refine below_set ?_ GE102.out)|exact HB.out))⟩;clear BK102 HB hq_;have BK102:=n0_;have HB:=n1_;clear n0_ n1_))
          have n0_:=Aside0.mk (blk_drew BK102.out)
          have n1_:=Aside0.mk (below_drew1 HB.out)
          clear BK102
          clear HB
          have BK102:=n0_
          have HB:=n1_
          clear n0_ n1_
          have q16:(x13_1:Int)≤((l0.length:Int):Int):=of_decide_eq_true (by first|(with_reducible assumption)|assumption)
          obtain ⟨i016,hi016,_,hsz16,_⟩:=info_parts info53
          have hroom16:l0.length≤c0:=HC0.out
          have hC16:Kd.C k53 _ (some ad101) l0.length l0:=HR0.out
          have hcut16:=cut_to (P:=Tryd.prog) 22 53 .i64 Tryd.underlying22 hi016 (some ad101) l0.length c0 x13_1 (of_decide_eq_true (by first|(with_reducible assumption)|assumption)) q16 hroom16
          have hr16:=Kd.C_take (m:=(x13_1:Int).toNat) hC16 (by omega)
          have hy16:y104.length=(x13_1:Int).toNat:=(by rw [Ny104.out,List.length_take];omega)
          rw [← Ny104.out] at hr16
          rw [← hy16] at hcut16
          have HR107:=Aside0.mk hr16
          have HC107:=Aside0.mk (show y104.length≤c0 from by omega)
          clear hr16 hC16 hroom16 hi016 hsz16
          have KY16:=Aside0.mk hy16
          clear hy16
          replace q16:=eq_true q16
          refine start_ (n:=11) (S:=fun w'=>w'.cell? ⟨gb102,0,none⟩=some (.string ((rd_T53 l0 x13_1).f0))∧w'.cell? ⟨gb102,1,none⟩=some (.int .i64 ((rd_T53 l0 x13_1).f1))∧w'.cell? ⟨gb102,2,none⟩=some (.int .i64 ((rd_T53 l0 x13_1).f2))∧w'.cell? ⟨gb102,3,none⟩=some (.int .i64 ((rd_T53 l0 x13_1).f3))∧w'.cell? ⟨gb102,4,none⟩=some (.int .i64 ((rd_T53 l0 x13_1).f4))∧w'.cell? ⟨gb102,5,none⟩=some (.slice A101_5 ((rd_T53 l0 x13_1).f5).length c101_5)∧w'.cell? ⟨gb102,6,none⟩=some (.slice A101_6 ((rd_T53 l0 x13_1).f6).length c101_6)) (ds:=[]) (bitsA 11 0) (by kernel_rfl) rfl rfl ⟨(blk_cell BK102.out 0).trans rfl,(blk_cell BK102.out 1).trans rfl,(blk_cell BK102.out 2).trans rfl,(blk_cell BK102.out 3).trans rfl,(blk_cell BK102.out 4).trans rfl,(blk_cell BK102.out 5).trans rfl,(blk_cell BK102.out 6).trans rfl⟩ (fun hHeld=>?_);refine with_tabW product_Check.tab8 product_Check.bits8 (fun HT_ HW_=>?_)
          generalize w14.drew=w15 at BK102 HB HR107 hHeld ⊢
          refine pure_ (i:=0) (N:=some 23) (v:=?_) (a':=?_) (bitsA 11 1) rfl rfl (any_of HT_.out (by kernel_rfl)) (fun _ _ _ h=>h) (Or.inl ⟨by rfl,?_⟩) ?_ ?_
          rotate_left;(intro w';go_simp;with_reducible rfl);rotate_left;(simp only [Act.put,List.setIfInBounds_toArray,List.set_cons_zero,List.set_cons_succ,i64_w,i32_w];rfl)
          refine pure_ (i:=1) (N:=some 24) (v:=?_) (a':=?_) (bitsA 11 3) rfl rfl (any_of HT_.out (by kernel_rfl)) (fun _ _ _ h=>h) (Or.inl ⟨by rfl,?_⟩) ?_ ?_
          rotate_left;(intro w';go_simp;with_reducible rfl);rotate_left;(simp only [Act.put,List.setIfInBounds_toArray,List.set_cons_zero,List.set_cons_succ,i64_w,i32_w];rfl)
          refine pure_ (i:=2) (N:=some 25) (v:=?_) (a':=?_) (bitsA 11 7) rfl rfl (any_of HT_.out (by kernel_rfl)) (fun _ _ _ h=>h) (Or.inl ⟨by rfl,?_⟩) ?_ ?_
          rotate_left;(intro w';go_simp;with_reducible rfl);rotate_left;(simp only [Act.put,List.setIfInBounds_toArray,List.set_cons_zero,List.set_cons_succ,i64_w,i32_w];rfl)
          refine pure_ (i:=3) (N:=some 26) (v:=?_) (a':=?_) (bitsA 11 15) rfl rfl (any_of HT_.out (by kernel_rfl)) (fun _ _ _ h=>h) (Or.inl ⟨by rfl,?_⟩) ?_ ?_
          rotate_left;(intro w';go_simp;with_reducible rfl);rotate_left;(simp only [Act.put,List.setIfInBounds_toArray,List.set_cons_zero,List.set_cons_succ,i64_w,i32_w];rfl)
          refine take_ (i:=4) (N:=some 27) (v:=?_) (a':=?_) (bitsA 11 31) rfl rfl (take_ofW HT_.out HW_.out (by kernel_rfl)) (fun _ _ _ h=>h) (Or.inl ⟨by rfl,?_⟩) hHeld ?_ ?_
          rotate_left;(rintro w' ⟨s0,s1,s2,s3,s4,s5,s6⟩;go_simp;with_reducible rfl);rotate_left;(simp only [Act.put,List.setIfInBounds_toArray,List.set_cons_zero,List.set_cons_succ,i64_w,i32_w];rfl)
          refine one_ (i:=5) (N:=some 28) (bitsA 11 63) rfl rfl (one_of HT_.out (by kernel_rfl)) (by decide) (fun K hK=>?_)
          refine goes_ Tryd.func39 (by kernel_rfl) rfl #[.slice (some ad101) y104.length c0,.string ((rd_T53 l0 x13_1).f0)] (by rfl) rfl rfl (by (try simp only [List.map_toArray,List.map_cons,List.map_nil]);first|done|rfl|(simp only [List.length_drop,List.length_take];rfl)) ?_
          with_reducible refine (product_Find.calls k1 _ _ y104 ((rd_T53 l0 x13_1).f0) t108 true _ ?side1 ?side2 A10.out).mono ?_
          (case side1=>repeat (first|exact (Kd.C_below HR107.out HB.out)|(with_reducible refine Kd.C_alloc ?_ _)|(with_reducible refine Kd.C_drewN ?_ _)|(with_reducible refine Kd.C_drew ?_)))
          (case side2=>exact HC107.out)
          rintro e w17 ⟨rfl,hb⟩
          refine ⟨_,rfl,?_⟩
          have n0_:=Aside0.mk (blk_below (g:=gb102) (o:=.cells #[.string ((rd_T53 l0 x13_1).f0),.int .i64 ((rd_T53 l0 x13_1).f1),.int .i64 ((rd_T53 l0 x13_1).f2),.int .i64 ((rd_T53 l0 x13_1).f3),.int .i64 ((rd_T53 l0 x13_1).f4),.slice A101_5 ((rd_T53 l0 x13_1).f5).length c101_5,.slice A101_6 ((rd_T53 l0 x13_1).f6).length c101_6] 53 (0,0)) (by (with_reducible repeat (first|refine blk_drewN ?_ _|refine blk_drew ?_|refine blk_alloc ?_ _));exact BK102.out) hb)
          have n1_:=Aside0.mk (below_step (by repeat (first|(with_reducible first|exact HB.out|apply below_alloc|apply pw_below_drewN|apply below_drew1|refine below_set ?_ GE102.out)|exact HB.out)) hb)
          clear BK102
          clear HB
          have BK102:=n0_
          have HB:=n1_
          clear n0_ n1_
          (try clear hb)
          (try clear hb2)
          (try clear hk)
          (try clear hi)
          refine hK.out _ _ ⟨(blk_cell BK102.out 0).trans rfl,(blk_cell BK102.out 1).trans rfl,(blk_cell BK102.out 2).trans rfl,(blk_cell BK102.out 3).trans rfl,(blk_cell BK102.out 4).trans rfl,(blk_cell BK102.out 5).trans rfl,(blk_cell BK102.out 6).trans rfl⟩ (fun hHeld=>?_)
          clear hK K
          refine norm_ (a':=?_) ?_ ?_
          rotate_left
          ·show Act.put _ (some 28) _=_
           simp only [Act.put,List.setIfInBounds_toArray,List.set_cons_zero,List.set_cons_succ,i64_w,i32_w]
           rfl
          refine pure_ (i:=6) (N:=some 22) (v:=?_) (a':=?_) (bitsA 11 127) rfl rfl (any_of HT_.out (by kernel_rfl)) (fun _ _ _ h=>h) (Or.inl ⟨by rfl,?_⟩) ?_ ?_
          rotate_left;(intro w';go_simp;with_reducible rfl);rotate_left;(simp only [Act.put,List.setIfInBounds_toArray,List.set_cons_zero,List.set_cons_succ,i64_w,i32_w];rfl)
          refine pure_ (i:=7) (N:=some 29) (v:=?_) (a':=?_) (bitsA 11 255) rfl rfl (any_of HT_.out (by kernel_rfl)) (fun _ _ _ h=>h) (Or.inl ⟨by rfl,?_⟩) ?_ ?_
          rotate_left;(intro w';go_simp;with_reducible rfl);rotate_left;(simp only [Act.put,List.setIfInBounds_toArray,List.set_cons_zero,List.set_cons_succ,i64_w,i32_w];rfl)
          refine pure_ (i:=8) (N:=some 30) (v:=?_) (a':=?_) (bitsA 11 511) rfl rfl (any_of HT_.out (by kernel_rfl)) (fun _ _ _ h=>h) (Or.inl ⟨by rfl,?_⟩) ?_ ?_
          rotate_left;(intro w';go_simp;with_reducible rfl);rotate_left;(simp only [Act.put,List.setIfInBounds_toArray,List.set_cons_zero,List.set_cons_succ,i64_w,i32_w];rfl)
          refine pure_ (i:=9) (N:=some 5) (v:=?_) (a':=?_) (bitsA 11 1023) rfl rfl (any_of HT_.out (by kernel_rfl)) (fun _ _ _ h=>h) (Or.inl ⟨by rfl,?_⟩) ?_ ?_
          rotate_left;(intro w';go_simp;with_reducible rfl);rotate_left;(simp only [Act.put,List.setIfInBounds_toArray,List.set_cons_zero,List.set_cons_succ,i64_w,i32_w];rfl)
          refine pure_ (i:=10) (N:=some 6) (v:=?_) (a':=?_) (bitsA 11 2047) rfl rfl (any_of HT_.out (by kernel_rfl)) (fun _ _ _ h=>h) (Or.inl ⟨by rfl,?_⟩) ?_ ?_
          rotate_left;(intro w';go_simp;with_reducible rfl);rotate_left;(simp only [Act.put,List.setIfInBounds_toArray,List.set_cons_zero,List.set_cons_succ,i64_w,i32_w];rfl)
          refine done_ (done_of HT_.out (by kernel_rfl)) ?_
          try go_wp2
          go_ret
          exact ⟨by first|rfl|(simp [errW_none,errW_some]<;>rfl)|(simp [*,errW_none,errW_some]<;>rfl),by repeat (first|(with_reducible first|exact HB.out|apply below_alloc|apply pw_below_drewN|apply below_drew1|refine below_set ?_ GE102.out)|exact HB.out)⟩
         ·replace c11:=Bool.eq_false_iff.mpr c11
          subst c11
          have H1:((product_sized.f k1 ((rd_T53 l0 x13_1).f0) ((rd_T53 l0 x13_1).f1) ((rd_T53 l0 x13_1).f2) ((rd_T53 l0 x13_1).f3) ((rd_T53 l0 x13_1).f4) ((rd_T53 l0 x13_1).f5) ((rd_T53 l0 x13_1).f6)).bind fun t110=>(if t110=true then ((product_checkLengths.f k1 ((rd_T53 l0 x13_1).f0) ((rd_T53 l0 x13_1).f1) ((rd_T53 l0 x13_1).f2) ((rd_T53 l0 x13_1).f3) ((rd_T53 l0 x13_1).f4) ((rd_T53 l0 x13_1).f5) ((rd_T53 l0 x13_1).f6)).bind fun t111=>(if t111=0 then (product_Check.l0 k1 l0 l0 (l0.length:Int) (wrap64 (x13_1+1))) else (some t111))) else (some 9)))=some r:=by rw [if_neg (show ¬ (false=true) by decide)] at H;exact H
          clear H
          have H:=H1
          clear H1
          replace H:=Option.bind_eq_some_iff.mp H
          obtain ⟨t110,A180,H⟩:=H
          replace H:(if t110=true then ((product_checkLengths.f k1 ((rd_T53 l0 x13_1).f0) ((rd_T53 l0 x13_1).f1) ((rd_T53 l0 x13_1).f2) ((rd_T53 l0 x13_1).f3) ((rd_T53 l0 x13_1).f4) ((rd_T53 l0 x13_1).f5) ((rd_T53 l0 x13_1).f6)).bind fun t111=>(if t111=0 then (product_Check.l0 k1 l0 l0 (l0.length:Int) (wrap64 (x13_1+1))) else (some t111))) else (some 9))=some r:=H
          have A18:=Aside0.mk A180
          clear A180
          by_cases c19:t110=true
          ·subst c19
           have H1:((product_checkLengths.f k1 ((rd_T53 l0 x13_1).f0) ((rd_T53 l0 x13_1).f1) ((rd_T53 l0 x13_1).f2) ((rd_T53 l0 x13_1).f3) ((rd_T53 l0 x13_1).f4) ((rd_T53 l0 x13_1).f5) ((rd_T53 l0 x13_1).f6)).bind fun t111=>(if t111=0 then (product_Check.l0 k1 l0 l0 (l0.length:Int) (wrap64 (x13_1+1))) else (some t111)))=some r:=by rw [if_pos rfl] at H;exact H
           clear H
           have H:=H1
           clear H1
           replace H:=Option.bind_eq_some_iff.mp H
           obtain ⟨t111,A200,H⟩:=H
           replace H:(if t111=0 then (product_Check.l0 k1 l0 l0 (l0.length:Int) (wrap64 (x13_1+1))) else (some t111))=some r:=H
           have A20:=Aside0.mk A200
           clear A200
           by_cases c21:t111=0
           ·rw [if_pos c21] at H
            have c21b0:(t111 == 0)=true:=beq_iff_eq.mpr c21
            have c21b1:(t111 != 0)=false:=bne_eq_false_iff_eq.mpr c21
            clear c21
            have H':=Aside0.mk H
            clear H
            have p101:0≤(x13_1:Int):=of_decide_eq_true (by first|(with_reducible assumption)|assumption)
            have q101:x13_1 < (l0.length:Int):=of_decide_eq_true (by first|(with_reducible assumption)|assumption)
            obtain ⟨ad101,A101_5,c101_5,A101_6,c101_6,e101,hx101_0,hx101_1,hx101_2,hx101_3,hx101_4,hx101_5,hx101_6,hl101_5,hi101_5,hl101_6,hi101_6⟩:=at_T53 HR0.out x13_1 p101 q101
            cases e101
            replace hx101_0:=(HB.out.cell (World.block_lt_of_cell? w _ hx101_0)).trans hx101_0
            replace hx101_1:=(HB.out.cell (World.block_lt_of_cell? w _ hx101_1)).trans hx101_1
            replace hx101_2:=(HB.out.cell (World.block_lt_of_cell? w _ hx101_2)).trans hx101_2
            replace hx101_3:=(HB.out.cell (World.block_lt_of_cell? w _ hx101_3)).trans hx101_3
            replace hx101_4:=(HB.out.cell (World.block_lt_of_cell? w _ hx101_4)).trans hx101_4
            replace hx101_5:=(HB.out.cell (World.block_lt_of_cell? w _ hx101_5)).trans hx101_5
            replace hx101_6:=(HB.out.cell (World.block_lt_of_cell? w _ hx101_6)).trans hx101_6
            have HR101_5:=Aside0.mk hi101_5
            have HC101_5:=Aside0.mk hl101_5
            clear hi101_5 hl101_5
            have HR101_6:=Aside0.mk hi101_6
            have HC101_6:=Aside0.mk hl101_6
            clear hi101_6 hl101_6
            replace p101:=eq_true p101
            replace q101:=eq_true q101
            try go_wp2_with (first|((with_reducible refine gate_dst (N:=4) rfl ?_);refine box_event ?hg (N:=4) ?hd (cs:=#[.string (⟨#[]⟩:ByteArray),.int .i64 0,.int .i64 0,.int .i64 0,.int .i64 0,.slice none 0 0,.slice none 0 0]) (t:=53) ?hr ?_;(case hd=>rfl);(case hg=>rfl);(case hr=>first|(go_simp;done)|(go_simp;rfl));intro gb102 hg w22 hbox hb;have n0_:=Aside0.mk (below_step (by repeat (first|(with_reducible first|exact HB.out|apply below_alloc|apply pw_below_drewN|apply below_drew1)|exact HB.out)) hb);have n1_:=Aside0.mk (hbox);have n2_:=Aside0.mk ((by rw [hg];exact (below_size (by repeat (first|(with_reducible first|exact HB.out|apply below_alloc|apply pw_below_drewN|apply below_drew1)|exact HB.out))):w.heap.size≤gb102));have n3_:=Aside0.mk ((by rw [hg];exact (below_size (by repeat (first|(with_reducible first|exact HB.out|apply below_alloc|apply pw_below_drewN|apply below_drew1)|exact HB.out))):w.heap.size≤gb102));clear HB;have HB:=n0_;have BK102:=n1_;have GW102:=n2_;have GE102:=n3_;clear n0_ n1_ n2_ n3_;clear hb hbox hg;have hcz23_0:w22.cell? ⟨gb102,0,none⟩=some (.string (⟨#[]⟩:ByteArray)):=(blk_cell BK102.out 0).trans rfl;have hcz23_1:w22.cell? ⟨gb102,1,none⟩=some (.int .i64 0):=(blk_cell BK102.out 1).trans rfl;have hcz23_2:w22.cell? ⟨gb102,2,none⟩=some (.int .i64 0):=(blk_cell BK102.out 2).trans rfl;have hcz23_3:w22.cell? ⟨gb102,3,none⟩=some (.int .i64 0):=(blk_cell BK102.out 3).trans rfl;have hcz23_4:w22.cell? ⟨gb102,4,none⟩=some (.int .i64 0):=(blk_cell BK102.out 4).trans rfl;have hcz23_5:w22.cell? ⟨gb102,5,none⟩=some (.slice none 0 0):=(blk_cell BK102.out 5).trans rfl;have hcz23_6:w22.cell? ⟨gb102,6,none⟩=some (.slice none 0 0):=(blk_cell BK102.out 6).trans rfl;have hfz23_0:=blk_frozen BK102.out 0;have hfz23_1:=blk_frozen BK102.out 1;have hfz23_2:=blk_frozen BK102.out 2;have hfz23_3:=blk_frozen BK102.out 3;have hfz23_4:=blk_frozen BK102.out 4;have hfz23_5:=blk_frozen BK102.out 5;have hfz23_6:=blk_frozen BK102.out 6)|((with_reducible refine gate_callee (f:=38) rfl ?_);refine goesL_ (some 20) rfl rfl Tryd.func38 (by kernel_rfl) rfl #[.string ((rd_T53 l0 x13_1).f0)] rfl (by (try simp only [List.map_toArray,List.map_cons,List.map_nil]);first|done|rfl|(simp only [List.length_drop,List.length_take];rfl)) ?_;(with_reducible refine (ident_IsName.calls k1 ((rd_T53 l0 x13_1).f0) true _ A6.out).mono ?_);rintro e w' ⟨rfl,⟨nd,rfl⟩⟩;refine ⟨_,rfl,?_⟩))
            have n0_:Aside0 ((((((((w22.setCell ⟨gb102,0,none⟩ (.string ((rd_T53 l0 x13_1).f0))).setCell ⟨gb102,1,none⟩ (.int .i64 ((rd_T53 l0 x13_1).f1))).setCell ⟨gb102,2,none⟩ (.int .i64 ((rd_T53 l0 x13_1).f2))).setCell ⟨gb102,3,none⟩ (.int .i64 ((rd_T53 l0 x13_1).f3))).setCell ⟨gb102,4,none⟩ (.int .i64 ((rd_T53 l0 x13_1).f4))).setCell ⟨gb102,5,none⟩ (.slice A101_5 ((rd_T53 l0 x13_1).f5).length c101_5)).setCell ⟨gb102,6,none⟩ (.slice A101_6 ((rd_T53 l0 x13_1).f6).length c101_6)).heap[gb102]?=some (.cells #[.string ((rd_T53 l0 x13_1).f0),.int .i64 ((rd_T53 l0 x13_1).f1),.int .i64 ((rd_T53 l0 x13_1).f2),.int .i64 ((rd_T53 l0 x13_1).f3),.int .i64 ((rd_T53 l0 x13_1).f4),.slice A101_5 ((rd_T53 l0 x13_1).f5).length c101_5,.slice A101_6 ((rd_T53 l0 x13_1).f6).length c101_6] 53 (0,0))):=⟨by (with_reducible repeat (first|refine blk_drewN ?_ _|refine blk_drew ?_|refine blk_alloc ?_ _));refine blk_put (cs:=#[.string ((rd_T53 l0 x13_1).f0),.int .i64 ((rd_T53 l0 x13_1).f1),.int .i64 ((rd_T53 l0 x13_1).f2),.int .i64 ((rd_T53 l0 x13_1).f3),.int .i64 ((rd_T53 l0 x13_1).f4),.slice A101_5 ((rd_T53 l0 x13_1).f5).length c101_5,.slice none 0 0]) ?_ 6 _ rfl;(with_reducible repeat (first|refine blk_drewN ?_ _|refine blk_drew ?_|refine blk_alloc ?_ _));refine blk_put (cs:=#[.string ((rd_T53 l0 x13_1).f0),.int .i64 ((rd_T53 l0 x13_1).f1),.int .i64 ((rd_T53 l0 x13_1).f2),.int .i64 ((rd_T53 l0 x13_1).f3),.int .i64 ((rd_T53 l0 x13_1).f4),.slice none 0 0,.slice none 0 0]) ?_ 5 _ rfl;(with_reducible repeat (first|refine blk_drewN ?_ _|refine blk_drew ?_|refine blk_alloc ?_ _));refine blk_put (cs:=#[.string ((rd_T53 l0 x13_1).f0),.int .i64 ((rd_T53 l0 x13_1).f1),.int .i64 ((rd_T53 l0 x13_1).f2),.int .i64 ((rd_T53 l0 x13_1).f3),.int .i64 0,.slice none 0 0,.slice none 0 0]) ?_ 4 _ rfl;(with_reducible repeat (first|refine blk_drewN ?_ _|refine blk_drew ?_|refine blk_alloc ?_ _));refine blk_put (cs:=#[.string ((rd_T53 l0 x13_1).f0),.int .i64 ((rd_T53 l0 x13_1).f1),.int .i64 ((rd_T53 l0 x13_1).f2),.int .i64 0,.int .i64 0,.slice none 0 0,.slice none 0 0]) ?_ 3 _ rfl;(with_reducible repeat (first|refine blk_drewN ?_ _|refine blk_drew ?_|refine blk_alloc ?_ _));refine blk_put (cs:=#[.string ((rd_T53 l0 x13_1).f0),.int .i64 ((rd_T53 l0 x13_1).f1),.int .i64 0,.int .i64 0,.int .i64 0,.slice none 0 0,.slice none 0 0]) ?_ 2 _ rfl;(with_reducible repeat (first|refine blk_drewN ?_ _|refine blk_drew ?_|refine blk_alloc ?_ _));refine blk_put (cs:=#[.string ((rd_T53 l0 x13_1).f0),.int .i64 0,.int .i64 0,.int .i64 0,.int .i64 0,.slice none 0 0,.slice none 0 0]) ?_ 1 _ rfl;(with_reducible repeat (first|refine blk_drewN ?_ _|refine blk_drew ?_|refine blk_alloc ?_ _));refine blk_put (cs:=#[.string (⟨#[]⟩:ByteArray),.int .i64 0,.int .i64 0,.int .i64 0,.int .i64 0,.slice none 0 0,.slice none 0 0]) ?_ 0 _ rfl;(with_reducible repeat (first|refine blk_drewN ?_ _|refine blk_drew ?_|refine blk_alloc ?_ _));exact BK102.out⟩
            have n1_:Aside0 (Below w.heap.size w (((((((w22.setCell ⟨gb102,0,none⟩ (.string ((rd_T53 l0 x13_1).f0))).setCell ⟨gb102,1,none⟩ (.int .i64 ((rd_T53 l0 x13_1).f1))).setCell ⟨gb102,2,none⟩ (.int .i64 ((rd_T53 l0 x13_1).f2))).setCell ⟨gb102,3,none⟩ (.int .i64 ((rd_T53 l0 x13_1).f3))).setCell ⟨gb102,4,none⟩ (.int .i64 ((rd_T53 l0 x13_1).f4))).setCell ⟨gb102,5,none⟩ (.slice A101_5 ((rd_T53 l0 x13_1).f5).length c101_5)).setCell ⟨gb102,6,none⟩ (.slice A101_6 ((rd_T53 l0 x13_1).f6).length c101_6))):=⟨by repeat (first|(with_reducible first|exact HB.out|apply below_alloc|apply pw_below_drewN|apply below_drew1|refine below_set ?_ GE102.out)|exact HB.out)⟩
            (try clear BK102)
            (try clear HB)
            generalize (((((((w22.setCell ⟨gb102,0,none⟩ (.string ((rd_T53 l0 x13_1).f0))).setCell ⟨gb102,1,none⟩ (.int .i64 ((rd_T53 l0 x13_1).f1))).setCell ⟨gb102,2,none⟩ (.int .i64 ((rd_T53 l0 x13_1).f2))).setCell ⟨gb102,3,none⟩ (.int .i64 ((rd_T53 l0 x13_1).f3))).setCell ⟨gb102,4,none⟩ (.int .i64 ((rd_T53 l0 x13_1).f4))).setCell ⟨gb102,5,none⟩ (.slice A101_5 ((rd_T53 l0 x13_1).f5).length c101_5)).setCell ⟨gb102,6,none⟩ (.slice A101_6 ((rd_T53 l0 x13_1).f6).length c101_6))=w24 at n0_ n1_ ⊢
            have BK102:=n0_
            have HB:=n1_
            clear n0_ n1_
            (try (rw [drewN_self w24];generalize hq_:World.drewN w24 _=w24;have n0_:Aside0 (w24.heap[gb102]?=some (.cells #[.string ((rd_T53 l0 x13_1).f0),.int .i64 ((rd_T53 l0 x13_1).f1),.int .i64 ((rd_T53 l0 x13_1).f2),.int .i64 ((rd_T53 l0 x13_1).f3),.int .i64 ((rd_T53 l0 x13_1).f4),.slice A101_5 ((rd_T53 l0 x13_1).f5).length c101_5,.slice A101_6 ((rd_T53 l0 x13_1).f6).length c101_6] 53 (0,0))):=⟨by rw [← hq_];exact (by (with_reducible repeat (first|refine blk_drewN ?_ _|refine blk_drew ?_|refine blk_alloc ?_ _));exact BK102.out)⟩;have n1_:Aside0 (Below w.heap.size w w24):=⟨by rw [← hq_];exact (by repeat (first|(with_reducible first|exact HB.out|apply below_alloc|apply pw_below_drewN|apply below_drew1|refine below_set ?_ GE102.out)|exact HB.out))⟩;clear BK102 HB hq_;have BK102:=n0_;have HB:=n1_;clear n0_ n1_))
            have n0_:=Aside0.mk (blk_drew BK102.out)
            have n1_:=Aside0.mk (below_drew1 HB.out)
            clear BK102
            clear HB
            have BK102:=n0_
            have HB:=n1_
            clear n0_ n1_
            have q26:(x13_1:Int)≤((l0.length:Int):Int):=of_decide_eq_true (by first|(with_reducible assumption)|assumption)
            obtain ⟨i026,hi026,_,hsz26,_⟩:=info_parts info53
            have hroom26:l0.length≤c0:=HC0.out
            have hC26:Kd.C k53 _ (some ad101) l0.length l0:=HR0.out
            have hcut26:=cut_to (P:=Tryd.prog) 22 53 .i64 Tryd.underlying22 hi026 (some ad101) l0.length c0 x13_1 (of_decide_eq_true (by first|(with_reducible assumption)|assumption)) q26 hroom26
            have hr26:=Kd.C_take (m:=(x13_1:Int).toNat) hC26 (by omega)
            have hy26:y104.length=(x13_1:Int).toNat:=(by rw [Ny104.out,List.length_take];omega)
            rw [← Ny104.out] at hr26
            rw [← hy26] at hcut26
            have HR107:=Aside0.mk hr26
            have HC107:=Aside0.mk (show y104.length≤c0 from by omega)
            clear hr26 hC26 hroom26 hi026 hsz26
            have KY26:=Aside0.mk hy26
            clear hy26
            replace q26:=eq_true q26
            refine start_ (n:=11) (S:=fun w'=>w'.cell? ⟨gb102,0,none⟩=some (.string ((rd_T53 l0 x13_1).f0))∧w'.cell? ⟨gb102,1,none⟩=some (.int .i64 ((rd_T53 l0 x13_1).f1))∧w'.cell? ⟨gb102,2,none⟩=some (.int .i64 ((rd_T53 l0 x13_1).f2))∧w'.cell? ⟨gb102,3,none⟩=some (.int .i64 ((rd_T53 l0 x13_1).f3))∧w'.cell? ⟨gb102,4,none⟩=some (.int .i64 ((rd_T53 l0 x13_1).f4))∧w'.cell? ⟨gb102,5,none⟩=some (.slice A101_5 ((rd_T53 l0 x13_1).f5).length c101_5)∧w'.cell? ⟨gb102,6,none⟩=some (.slice A101_6 ((rd_T53 l0 x13_1).f6).length c101_6)) (ds:=[]) (bitsA 11 0) (by kernel_rfl) rfl rfl ⟨(blk_cell BK102.out 0).trans rfl,(blk_cell BK102.out 1).trans rfl,(blk_cell BK102.out 2).trans rfl,(blk_cell BK102.out 3).trans rfl,(blk_cell BK102.out 4).trans rfl,(blk_cell BK102.out 5).trans rfl,(blk_cell BK102.out 6).trans rfl⟩ (fun hHeld=>?_);refine with_tabW product_Check.tab8 product_Check.bits8 (fun HT_ HW_=>?_)
            generalize w24.drew=w25 at BK102 HB HR107 hHeld ⊢
            refine pure_ (i:=0) (N:=some 23) (v:=?_) (a':=?_) (bitsA 11 1) rfl rfl (any_of HT_.out (by kernel_rfl)) (fun _ _ _ h=>h) (Or.inl ⟨by rfl,?_⟩) ?_ ?_
            rotate_left;(intro w';go_simp;with_reducible rfl);rotate_left;(simp only [Act.put,List.setIfInBounds_toArray,List.set_cons_zero,List.set_cons_succ,i64_w,i32_w];rfl)
            refine pure_ (i:=1) (N:=some 24) (v:=?_) (a':=?_) (bitsA 11 3) rfl rfl (any_of HT_.out (by kernel_rfl)) (fun _ _ _ h=>h) (Or.inl ⟨by rfl,?_⟩) ?_ ?_
            rotate_left;(intro w';go_simp;with_reducible rfl);rotate_left;(simp only [Act.put,List.setIfInBounds_toArray,List.set_cons_zero,List.set_cons_succ,i64_w,i32_w];rfl)
            refine pure_ (i:=2) (N:=some 25) (v:=?_) (a':=?_) (bitsA 11 7) rfl rfl (any_of HT_.out (by kernel_rfl)) (fun _ _ _ h=>h) (Or.inl ⟨by rfl,?_⟩) ?_ ?_
            rotate_left;(intro w';go_simp;with_reducible rfl);rotate_left;(simp only [Act.put,List.setIfInBounds_toArray,List.set_cons_zero,List.set_cons_succ,i64_w,i32_w];rfl)
            refine pure_ (i:=3) (N:=some 26) (v:=?_) (a':=?_) (bitsA 11 15) rfl rfl (any_of HT_.out (by kernel_rfl)) (fun _ _ _ h=>h) (Or.inl ⟨by rfl,?_⟩) ?_ ?_
            rotate_left;(intro w';go_simp;with_reducible rfl);rotate_left;(simp only [Act.put,List.setIfInBounds_toArray,List.set_cons_zero,List.set_cons_succ,i64_w,i32_w];rfl)
            refine take_ (i:=4) (N:=some 27) (v:=?_) (a':=?_) (bitsA 11 31) rfl rfl (take_ofW HT_.out HW_.out (by kernel_rfl)) (fun _ _ _ h=>h) (Or.inl ⟨by rfl,?_⟩) hHeld ?_ ?_
            rotate_left;(rintro w' ⟨s0,s1,s2,s3,s4,s5,s6⟩;go_simp;with_reducible rfl);rotate_left;(simp only [Act.put,List.setIfInBounds_toArray,List.set_cons_zero,List.set_cons_succ,i64_w,i32_w];rfl)
            refine one_ (i:=5) (N:=some 28) (bitsA 11 63) rfl rfl (one_of HT_.out (by kernel_rfl)) (by decide) (fun K hK=>?_)
            refine goes_ Tryd.func39 (by kernel_rfl) rfl #[.slice (some ad101) y104.length c0,.string ((rd_T53 l0 x13_1).f0)] (by rfl) rfl rfl (by (try simp only [List.map_toArray,List.map_cons,List.map_nil]);first|done|rfl|(simp only [List.length_drop,List.length_take];rfl)) ?_
            with_reducible refine (product_Find.calls k1 _ _ y104 ((rd_T53 l0 x13_1).f0) t108 false _ ?side1 ?side2 A10.out).mono ?_
            (case side1=>repeat (first|exact (Kd.C_below HR107.out HB.out)|(with_reducible refine Kd.C_alloc ?_ _)|(with_reducible refine Kd.C_drewN ?_ _)|(with_reducible refine Kd.C_drew ?_)))
            (case side2=>exact HC107.out)
            rintro e w27 ⟨rfl,hb⟩
            refine ⟨_,rfl,?_⟩
            have n0_:=Aside0.mk (blk_below (g:=gb102) (o:=.cells #[.string ((rd_T53 l0 x13_1).f0),.int .i64 ((rd_T53 l0 x13_1).f1),.int .i64 ((rd_T53 l0 x13_1).f2),.int .i64 ((rd_T53 l0 x13_1).f3),.int .i64 ((rd_T53 l0 x13_1).f4),.slice A101_5 ((rd_T53 l0 x13_1).f5).length c101_5,.slice A101_6 ((rd_T53 l0 x13_1).f6).length c101_6] 53 (0,0)) (by (with_reducible repeat (first|refine blk_drewN ?_ _|refine blk_drew ?_|refine blk_alloc ?_ _));exact BK102.out) hb)
            have n1_:=Aside0.mk (below_step (by repeat (first|(with_reducible first|exact HB.out|apply below_alloc|apply pw_below_drewN|apply below_drew1|refine below_set ?_ GE102.out)|exact HB.out)) hb)
            clear BK102
            clear HB
            have BK102:=n0_
            have HB:=n1_
            clear n0_ n1_
            (try clear hb)
            (try clear hb2)
            (try clear hk)
            (try clear hi)
            refine hK.out _ _ ⟨(blk_cell BK102.out 0).trans rfl,(blk_cell BK102.out 1).trans rfl,(blk_cell BK102.out 2).trans rfl,(blk_cell BK102.out 3).trans rfl,(blk_cell BK102.out 4).trans rfl,(blk_cell BK102.out 5).trans rfl,(blk_cell BK102.out 6).trans rfl⟩ (fun hHeld=>?_)
            clear hK K
            refine norm_ (a':=?_) ?_ ?_
            rotate_left
            ·show Act.put _ (some 28) _=_
             simp only [Act.put,List.setIfInBounds_toArray,List.set_cons_zero,List.set_cons_succ,i64_w,i32_w]
             rfl
            refine pure_ (i:=6) (N:=some 22) (v:=?_) (a':=?_) (bitsA 11 127) rfl rfl (any_of HT_.out (by kernel_rfl)) (fun _ _ _ h=>h) (Or.inl ⟨by rfl,?_⟩) ?_ ?_
            rotate_left;(intro w';go_simp;with_reducible rfl);rotate_left;(simp only [Act.put,List.setIfInBounds_toArray,List.set_cons_zero,List.set_cons_succ,i64_w,i32_w];rfl)
            refine pure_ (i:=7) (N:=some 29) (v:=?_) (a':=?_) (bitsA 11 255) rfl rfl (any_of HT_.out (by kernel_rfl)) (fun _ _ _ h=>h) (Or.inl ⟨by rfl,?_⟩) ?_ ?_
            rotate_left;(intro w';go_simp;with_reducible rfl);rotate_left;(simp only [Act.put,List.setIfInBounds_toArray,List.set_cons_zero,List.set_cons_succ,i64_w,i32_w];rfl)
            refine pure_ (i:=8) (N:=some 30) (v:=?_) (a':=?_) (bitsA 11 511) rfl rfl (any_of HT_.out (by kernel_rfl)) (fun _ _ _ h=>h) (Or.inl ⟨by rfl,?_⟩) ?_ ?_
            rotate_left;(intro w';go_simp;with_reducible rfl);rotate_left;(simp only [Act.put,List.setIfInBounds_toArray,List.set_cons_zero,List.set_cons_succ,i64_w,i32_w];rfl)
            refine pure_ (i:=9) (N:=some 5) (v:=?_) (a':=?_) (bitsA 11 1023) rfl rfl (any_of HT_.out (by kernel_rfl)) (fun _ _ _ h=>h) (Or.inl ⟨by rfl,?_⟩) ?_ ?_
            rotate_left;(intro w';go_simp;with_reducible rfl);rotate_left;(simp only [Act.put,List.setIfInBounds_toArray,List.set_cons_zero,List.set_cons_succ,i64_w,i32_w];rfl)
            refine pure_ (i:=10) (N:=some 6) (v:=?_) (a':=?_) (bitsA 11 2047) rfl rfl (any_of HT_.out (by kernel_rfl)) (fun _ _ _ h=>h) (Or.inl ⟨by rfl,?_⟩) ?_ ?_
            rotate_left;(intro w';go_simp;with_reducible rfl);rotate_left;(simp only [Act.put,List.setIfInBounds_toArray,List.set_cons_zero,List.set_cons_succ,i64_w,i32_w];rfl)
            refine done_ (done_of HT_.out (by kernel_rfl)) ?_
            have hcz28_0:w27.cell? ⟨gb102,0,none⟩=some (.string ((rd_T53 l0 x13_1).f0)):=(blk_cell BK102.out 0).trans rfl
            have hcz28_1:w27.cell? ⟨gb102,1,none⟩=some (.int .i64 ((rd_T53 l0 x13_1).f1)):=(blk_cell BK102.out 1).trans rfl
            have hcz28_2:w27.cell? ⟨gb102,2,none⟩=some (.int .i64 ((rd_T53 l0 x13_1).f2)):=(blk_cell BK102.out 2).trans rfl
            have hcz28_3:w27.cell? ⟨gb102,3,none⟩=some (.int .i64 ((rd_T53 l0 x13_1).f3)):=(blk_cell BK102.out 3).trans rfl
            have hcz28_4:w27.cell? ⟨gb102,4,none⟩=some (.int .i64 ((rd_T53 l0 x13_1).f4)):=(blk_cell BK102.out 4).trans rfl
            have hcz28_5:w27.cell? ⟨gb102,5,none⟩=some (.slice A101_5 ((rd_T53 l0 x13_1).f5).length c101_5):=(blk_cell BK102.out 5).trans rfl
            have hcz28_6:w27.cell? ⟨gb102,6,none⟩=some (.slice A101_6 ((rd_T53 l0 x13_1).f6).length c101_6):=(blk_cell BK102.out 6).trans rfl
            have hfz28_0:=blk_frozen BK102.out 0
            have hfz28_1:=blk_frozen BK102.out 1
            have hfz28_2:=blk_frozen BK102.out 2
            have hfz28_3:=blk_frozen BK102.out 3
            have hfz28_4:=blk_frozen BK102.out 4
            have hfz28_5:=blk_frozen BK102.out 5
            have hfz28_6:=blk_frozen BK102.out 6
            try go_wp2_with (first|((with_reducible refine gate_callee (f:=40) rfl ?_);refine goesL_ (some 33) rfl rfl Tryd.func40 (by kernel_rfl) rfl #[.agg #[.string ((rd_T53 l0 x13_1).f0),.int .i64 ((rd_T53 l0 x13_1).f1),.int .i64 ((rd_T53 l0 x13_1).f2),.int .i64 ((rd_T53 l0 x13_1).f3),.int .i64 ((rd_T53 l0 x13_1).f4),.slice A101_5 ((rd_T53 l0 x13_1).f5).length c101_5,.slice A101_6 ((rd_T53 l0 x13_1).f6).length c101_6]] rfl (by (try simp only [List.map_toArray,List.map_cons,List.map_nil]);first|done|rfl|(simp only [List.length_drop,List.length_take];rfl)) ?_;(with_reducible refine (product_sized.calls k1 ((rd_T53 l0 x13_1).f0) ((rd_T53 l0 x13_1).f1) ((rd_T53 l0 x13_1).f2) ((rd_T53 l0 x13_1).f3) ((rd_T53 l0 x13_1).f4) _ _ ((rd_T53 l0 x13_1).f5) _ _ ((rd_T53 l0 x13_1).f6) true _ ?side1 ?side2 ?side3 ?side4 A18.out).mono ?_);(case side1=>repeat (first|exact (Kd.C_below HR101_5.out HB.out)|(with_reducible refine Kd.C_alloc ?_ _)|(with_reducible refine Kd.C_drewN ?_ _)|(with_reducible refine Kd.C_drew ?_)));(case side2=>exact HC101_5.out);(case side3=>repeat (first|exact (Kd.C_below HR101_6.out HB.out)|(with_reducible refine Kd.C_alloc ?_ _)|(with_reducible refine Kd.C_drewN ?_ _)|(with_reducible refine Kd.C_drew ?_)));(case side4=>exact HC101_6.out);rintro e w29 ⟨rfl,hb⟩;refine ⟨_,rfl,?_⟩;have n0_:=Aside0.mk (blk_below (g:=gb102) (o:=.cells #[.string ((rd_T53 l0 x13_1).f0),.int .i64 ((rd_T53 l0 x13_1).f1),.int .i64 ((rd_T53 l0 x13_1).f2),.int .i64 ((rd_T53 l0 x13_1).f3),.int .i64 ((rd_T53 l0 x13_1).f4),.slice A101_5 ((rd_T53 l0 x13_1).f5).length c101_5,.slice A101_6 ((rd_T53 l0 x13_1).f6).length c101_6] 53 (0,0)) (by (with_reducible repeat (first|refine blk_drewN ?_ _|refine blk_drew ?_|refine blk_alloc ?_ _));exact BK102.out) hb);have n1_:=Aside0.mk (below_step (by repeat (first|(with_reducible first|exact HB.out|apply below_alloc|apply pw_below_drewN|apply below_drew1|refine below_set ?_ GE102.out)|exact HB.out)) hb);clear BK102;clear HB;have BK102:=n0_;have HB:=n1_;clear n0_ n1_;(try clear hb);(try clear hb2);(try clear hk);(try clear hi);have hcz30_0:w29.cell? ⟨gb102,0,none⟩=some (.string ((rd_T53 l0 x13_1).f0)):=(blk_cell BK102.out 0).trans rfl;have hcz30_1:w29.cell? ⟨gb102,1,none⟩=some (.int .i64 ((rd_T53 l0 x13_1).f1)):=(blk_cell BK102.out 1).trans rfl;have hcz30_2:w29.cell? ⟨gb102,2,none⟩=some (.int .i64 ((rd_T53 l0 x13_1).f2)):=(blk_cell BK102.out 2).trans rfl;have hcz30_3:w29.cell? ⟨gb102,3,none⟩=some (.int .i64 ((rd_T53 l0 x13_1).f3)):=(blk_cell BK102.out 3).trans rfl;have hcz30_4:w29.cell? ⟨gb102,4,none⟩=some (.int .i64 ((rd_T53 l0 x13_1).f4)):=(blk_cell BK102.out 4).trans rfl;have hcz30_5:w29.cell? ⟨gb102,5,none⟩=some (.slice A101_5 ((rd_T53 l0 x13_1).f5).length c101_5):=(blk_cell BK102.out 5).trans rfl;have hcz30_6:w29.cell? ⟨gb102,6,none⟩=some (.slice A101_6 ((rd_T53 l0 x13_1).f6).length c101_6):=(blk_cell BK102.out 6).trans rfl;have hfz30_0:=blk_frozen BK102.out 0;have hfz30_1:=blk_frozen BK102.out 1;have hfz30_2:=blk_frozen BK102.out 2;have hfz30_3:=blk_frozen BK102.out 3;have hfz30_4:=blk_frozen BK102.out 4;have hfz30_5:=blk_frozen BK102.out 5;have hfz30_6:=blk_frozen BK102.out 6)|((with_reducible refine gate_callee (f:=41) rfl ?_);refine goesL_ (some 36) rfl rfl Tryd.func41 (by kernel_rfl) rfl #[.agg #[.string ((rd_T53 l0 x13_1).f0),.int .i64 ((rd_T53 l0 x13_1).f1),.int .i64 ((rd_T53 l0 x13_1).f2),.int .i64 ((rd_T53 l0 x13_1).f3),.int .i64 ((rd_T53 l0 x13_1).f4),.slice A101_5 ((rd_T53 l0 x13_1).f5).length c101_5,.slice A101_6 ((rd_T53 l0 x13_1).f6).length c101_6]] rfl (by (try simp only [List.map_toArray,List.map_cons,List.map_nil]);first|done|rfl|(simp only [List.length_drop,List.length_take];rfl)) ?_;(with_reducible refine (product_checkLengths.calls k1 ((rd_T53 l0 x13_1).f0) ((rd_T53 l0 x13_1).f1) ((rd_T53 l0 x13_1).f2) ((rd_T53 l0 x13_1).f3) ((rd_T53 l0 x13_1).f4) _ _ ((rd_T53 l0 x13_1).f5) _ _ ((rd_T53 l0 x13_1).f6) t111 _ ?side1 ?side2 ?side3 ?side4 A20.out).mono ?_);(case side1=>repeat (first|exact (Kd.C_below HR101_5.out HB.out)|(with_reducible refine Kd.C_alloc ?_ _)|(with_reducible refine Kd.C_drewN ?_ _)|(with_reducible refine Kd.C_drew ?_)));(case side2=>exact HC101_5.out);(case side3=>repeat (first|exact (Kd.C_below HR101_6.out HB.out)|(with_reducible refine Kd.C_alloc ?_ _)|(with_reducible refine Kd.C_drewN ?_ _)|(with_reducible refine Kd.C_drew ?_)));(case side4=>exact HC101_6.out);rintro e w31 ⟨rfl,hb⟩;refine ⟨_,rfl,?_⟩;have n0_:=Aside0.mk (blk_below (g:=gb102) (o:=.cells #[.string ((rd_T53 l0 x13_1).f0),.int .i64 ((rd_T53 l0 x13_1).f1),.int .i64 ((rd_T53 l0 x13_1).f2),.int .i64 ((rd_T53 l0 x13_1).f3),.int .i64 ((rd_T53 l0 x13_1).f4),.slice A101_5 ((rd_T53 l0 x13_1).f5).length c101_5,.slice A101_6 ((rd_T53 l0 x13_1).f6).length c101_6] 53 (0,0)) (by (with_reducible repeat (first|refine blk_drewN ?_ _|refine blk_drew ?_|refine blk_alloc ?_ _));exact BK102.out) hb);have n1_:=Aside0.mk (below_step (by repeat (first|(with_reducible first|exact HB.out|apply below_alloc|apply pw_below_drewN|apply below_drew1|refine below_set ?_ GE102.out)|exact HB.out)) hb);clear BK102;clear HB;have BK102:=n0_;have HB:=n1_;clear n0_ n1_;(try clear hb);(try clear hb2);(try clear hk);(try clear hi)))
            go_roundg k1
            case measure=>have:=HK1.out;omega
            case rel=>exact ⟨(wrap64 (x13_1+1)),(by first|rfl|(simp;done)|(simp [*];done)),H',⟨by have:=HK1.out;omega⟩,⟨by repeat (first|(with_reducible first|exact HB.out|apply below_alloc|apply pw_below_drewN|apply below_drew1|refine below_set ?_ GE102.out)|exact HB.out)⟩⟩
           ·rw [if_neg c21] at H
            have c21b0:(t111 == 0)=false:=beq_eq_false_iff_ne.mpr c21
            have c21b1:(t111 != 0)=true:=bne_iff_ne.mpr c21
            obtain rfl:=Option.some.inj H
            have p101:0≤(x13_1:Int):=of_decide_eq_true (by first|(with_reducible assumption)|assumption)
            have q101:x13_1 < (l0.length:Int):=of_decide_eq_true (by first|(with_reducible assumption)|assumption)
            obtain ⟨ad101,A101_5,c101_5,A101_6,c101_6,e101,hx101_0,hx101_1,hx101_2,hx101_3,hx101_4,hx101_5,hx101_6,hl101_5,hi101_5,hl101_6,hi101_6⟩:=at_T53 HR0.out x13_1 p101 q101
            cases e101
            replace hx101_0:=(HB.out.cell (World.block_lt_of_cell? w _ hx101_0)).trans hx101_0
            replace hx101_1:=(HB.out.cell (World.block_lt_of_cell? w _ hx101_1)).trans hx101_1
            replace hx101_2:=(HB.out.cell (World.block_lt_of_cell? w _ hx101_2)).trans hx101_2
            replace hx101_3:=(HB.out.cell (World.block_lt_of_cell? w _ hx101_3)).trans hx101_3
            replace hx101_4:=(HB.out.cell (World.block_lt_of_cell? w _ hx101_4)).trans hx101_4
            replace hx101_5:=(HB.out.cell (World.block_lt_of_cell? w _ hx101_5)).trans hx101_5
            replace hx101_6:=(HB.out.cell (World.block_lt_of_cell? w _ hx101_6)).trans hx101_6
            have HR101_5:=Aside0.mk hi101_5
            have HC101_5:=Aside0.mk hl101_5
            clear hi101_5 hl101_5
            have HR101_6:=Aside0.mk hi101_6
            have HC101_6:=Aside0.mk hl101_6
            clear hi101_6 hl101_6
            replace p101:=eq_true p101
            replace q101:=eq_true q101
            try go_wp2_with (first|((with_reducible refine gate_dst (N:=4) rfl ?_);refine box_event ?hg (N:=4) ?hd (cs:=#[.string (⟨#[]⟩:ByteArray),.int .i64 0,.int .i64 0,.int .i64 0,.int .i64 0,.slice none 0 0,.slice none 0 0]) (t:=53) ?hr ?_;(case hd=>rfl);(case hg=>rfl);(case hr=>first|(go_simp;done)|(go_simp;rfl));intro gb102 hg w32 hbox hb;have n0_:=Aside0.mk (below_step (by repeat (first|(with_reducible first|exact HB.out|apply below_alloc|apply pw_below_drewN|apply below_drew1)|exact HB.out)) hb);have n1_:=Aside0.mk (hbox);have n2_:=Aside0.mk ((by rw [hg];exact (below_size (by repeat (first|(with_reducible first|exact HB.out|apply below_alloc|apply pw_below_drewN|apply below_drew1)|exact HB.out))):w.heap.size≤gb102));have n3_:=Aside0.mk ((by rw [hg];exact (below_size (by repeat (first|(with_reducible first|exact HB.out|apply below_alloc|apply pw_below_drewN|apply below_drew1)|exact HB.out))):w.heap.size≤gb102));clear HB;have HB:=n0_;have BK102:=n1_;have GW102:=n2_;have GE102:=n3_;clear n0_ n1_ n2_ n3_;clear hb hbox hg;have hcz33_0:w32.cell? ⟨gb102,0,none⟩=some (.string (⟨#[]⟩:ByteArray)):=(blk_cell BK102.out 0).trans rfl;have hcz33_1:w32.cell? ⟨gb102,1,none⟩=some (.int .i64 0):=(blk_cell BK102.out 1).trans rfl;have hcz33_2:w32.cell? ⟨gb102,2,none⟩=some (.int .i64 0):=(blk_cell BK102.out 2).trans rfl;have hcz33_3:w32.cell? ⟨gb102,3,none⟩=some (.int .i64 0):=(blk_cell BK102.out 3).trans rfl;have hcz33_4:w32.cell? ⟨gb102,4,none⟩=some (.int .i64 0):=(blk_cell BK102.out 4).trans rfl;have hcz33_5:w32.cell? ⟨gb102,5,none⟩=some (.slice none 0 0):=(blk_cell BK102.out 5).trans rfl;have hcz33_6:w32.cell? ⟨gb102,6,none⟩=some (.slice none 0 0):=(blk_cell BK102.out 6).trans rfl;have hfz33_0:=blk_frozen BK102.out 0;have hfz33_1:=blk_frozen BK102.out 1;have hfz33_2:=blk_frozen BK102.out 2;have hfz33_3:=blk_frozen BK102.out 3;have hfz33_4:=blk_frozen BK102.out 4;have hfz33_5:=blk_frozen BK102.out 5;have hfz33_6:=blk_frozen BK102.out 6)|((with_reducible refine gate_callee (f:=38) rfl ?_);refine goesL_ (some 20) rfl rfl Tryd.func38 (by kernel_rfl) rfl #[.string ((rd_T53 l0 x13_1).f0)] rfl (by (try simp only [List.map_toArray,List.map_cons,List.map_nil]);first|done|rfl|(simp only [List.length_drop,List.length_take];rfl)) ?_;(with_reducible refine (ident_IsName.calls k1 ((rd_T53 l0 x13_1).f0) true _ A6.out).mono ?_);rintro e w' ⟨rfl,⟨nd,rfl⟩⟩;refine ⟨_,rfl,?_⟩))
            have n0_:Aside0 ((((((((w32.setCell ⟨gb102,0,none⟩ (.string ((rd_T53 l0 x13_1).f0))).setCell ⟨gb102,1,none⟩ (.int .i64 ((rd_T53 l0 x13_1).f1))).setCell ⟨gb102,2,none⟩ (.int .i64 ((rd_T53 l0 x13_1).f2))).setCell ⟨gb102,3,none⟩ (.int .i64 ((rd_T53 l0 x13_1).f3))).setCell ⟨gb102,4,none⟩ (.int .i64 ((rd_T53 l0 x13_1).f4))).setCell ⟨gb102,5,none⟩ (.slice A101_5 ((rd_T53 l0 x13_1).f5).length c101_5)).setCell ⟨gb102,6,none⟩ (.slice A101_6 ((rd_T53 l0 x13_1).f6).length c101_6)).heap[gb102]?=some (.cells #[.string ((rd_T53 l0 x13_1).f0),.int .i64 ((rd_T53 l0 x13_1).f1),.int .i64 ((rd_T53 l0 x13_1).f2),.int .i64 ((rd_T53 l0 x13_1).f3),.int .i64 ((rd_T53 l0 x13_1).f4),.slice A101_5 ((rd_T53 l0 x13_1).f5).length c101_5,.slice A101_6 ((rd_T53 l0 x13_1).f6).length c101_6] 53 (0,0))):=⟨by (with_reducible repeat (first|refine blk_drewN ?_ _|refine blk_drew ?_|refine blk_alloc ?_ _));refine blk_put (cs:=#[.string ((rd_T53 l0 x13_1).f0),.int .i64 ((rd_T53 l0 x13_1).f1),.int .i64 ((rd_T53 l0 x13_1).f2),.int .i64 ((rd_T53 l0 x13_1).f3),.int .i64 ((rd_T53 l0 x13_1).f4),.slice A101_5 ((rd_T53 l0 x13_1).f5).length c101_5,.slice none 0 0]) ?_ 6 _ rfl;(with_reducible repeat (first|refine blk_drewN ?_ _|refine blk_drew ?_|refine blk_alloc ?_ _));refine blk_put (cs:=#[.string ((rd_T53 l0 x13_1).f0),.int .i64 ((rd_T53 l0 x13_1).f1),.int .i64 ((rd_T53 l0 x13_1).f2),.int .i64 ((rd_T53 l0 x13_1).f3),.int .i64 ((rd_T53 l0 x13_1).f4),.slice none 0 0,.slice none 0 0]) ?_ 5 _ rfl;(with_reducible repeat (first|refine blk_drewN ?_ _|refine blk_drew ?_|refine blk_alloc ?_ _));refine blk_put (cs:=#[.string ((rd_T53 l0 x13_1).f0),.int .i64 ((rd_T53 l0 x13_1).f1),.int .i64 ((rd_T53 l0 x13_1).f2),.int .i64 ((rd_T53 l0 x13_1).f3),.int .i64 0,.slice none 0 0,.slice none 0 0]) ?_ 4 _ rfl;(with_reducible repeat (first|refine blk_drewN ?_ _|refine blk_drew ?_|refine blk_alloc ?_ _));refine blk_put (cs:=#[.string ((rd_T53 l0 x13_1).f0),.int .i64 ((rd_T53 l0 x13_1).f1),.int .i64 ((rd_T53 l0 x13_1).f2),.int .i64 0,.int .i64 0,.slice none 0 0,.slice none 0 0]) ?_ 3 _ rfl;(with_reducible repeat (first|refine blk_drewN ?_ _|refine blk_drew ?_|refine blk_alloc ?_ _));refine blk_put (cs:=#[.string ((rd_T53 l0 x13_1).f0),.int .i64 ((rd_T53 l0 x13_1).f1),.int .i64 0,.int .i64 0,.int .i64 0,.slice none 0 0,.slice none 0 0]) ?_ 2 _ rfl;(with_reducible repeat (first|refine blk_drewN ?_ _|refine blk_drew ?_|refine blk_alloc ?_ _));refine blk_put (cs:=#[.string ((rd_T53 l0 x13_1).f0),.int .i64 0,.int .i64 0,.int .i64 0,.int .i64 0,.slice none 0 0,.slice none 0 0]) ?_ 1 _ rfl;(with_reducible repeat (first|refine blk_drewN ?_ _|refine blk_drew ?_|refine blk_alloc ?_ _));refine blk_put (cs:=#[.string (⟨#[]⟩:ByteArray),.int .i64 0,.int .i64 0,.int .i64 0,.int .i64 0,.slice none 0 0,.slice none 0 0]) ?_ 0 _ rfl;(with_reducible repeat (first|refine blk_drewN ?_ _|refine blk_drew ?_|refine blk_alloc ?_ _));exact BK102.out⟩
            have n1_:Aside0 (Below w.heap.size w (((((((w32.setCell ⟨gb102,0,none⟩ (.string ((rd_T53 l0 x13_1).f0))).setCell ⟨gb102,1,none⟩ (.int .i64 ((rd_T53 l0 x13_1).f1))).setCell ⟨gb102,2,none⟩ (.int .i64 ((rd_T53 l0 x13_1).f2))).setCell ⟨gb102,3,none⟩ (.int .i64 ((rd_T53 l0 x13_1).f3))).setCell ⟨gb102,4,none⟩ (.int .i64 ((rd_T53 l0 x13_1).f4))).setCell ⟨gb102,5,none⟩ (.slice A101_5 ((rd_T53 l0 x13_1).f5).length c101_5)).setCell ⟨gb102,6,none⟩ (.slice A101_6 ((rd_T53 l0 x13_1).f6).length c101_6))):=⟨by repeat (first|(with_reducible first|exact HB.out|apply below_alloc|apply pw_below_drewN|apply below_drew1|refine below_set ?_ GE102.out)|exact HB.out)⟩
            (try clear BK102)
            (try clear HB)
            generalize (((((((w32.setCell ⟨gb102,0,none⟩ (.string ((rd_T53 l0 x13_1).f0))).setCell ⟨gb102,1,none⟩ (.int .i64 ((rd_T53 l0 x13_1).f1))).setCell ⟨gb102,2,none⟩ (.int .i64 ((rd_T53 l0 x13_1).f2))).setCell ⟨gb102,3,none⟩ (.int .i64 ((rd_T53 l0 x13_1).f3))).setCell ⟨gb102,4,none⟩ (.int .i64 ((rd_T53 l0 x13_1).f4))).setCell ⟨gb102,5,none⟩ (.slice A101_5 ((rd_T53 l0 x13_1).f5).length c101_5)).setCell ⟨gb102,6,none⟩ (.slice A101_6 ((rd_T53 l0 x13_1).f6).length c101_6))=w34 at n0_ n1_ ⊢
            have BK102:=n0_
            have HB:=n1_
            clear n0_ n1_
            (try (rw [drewN_self w34];generalize hq_:World.drewN w34 _=w34;have n0_:Aside0 (w34.heap[gb102]?=some (.cells #[.string ((rd_T53 l0 x13_1).f0),.int .i64 ((rd_T53 l0 x13_1).f1),.int .i64 ((rd_T53 l0 x13_1).f2),.int .i64 ((rd_T53 l0 x13_1).f3),.int .i64 ((rd_T53 l0 x13_1).f4),.slice A101_5 ((rd_T53 l0 x13_1).f5).length c101_5,.slice A101_6 ((rd_T53 l0 x13_1).f6).length c101_6] 53 (0,0))):=⟨by rw [← hq_];exact (by (with_reducible repeat (first|refine blk_drewN ?_ _|refine blk_drew ?_|refine blk_alloc ?_ _));exact BK102.out)⟩;have n1_:Aside0 (Below w.heap.size w w34):=⟨by rw [← hq_];exact (by repeat (first|(with_reducible first|exact HB.out|apply below_alloc|apply pw_below_drewN|apply below_drew1|refine below_set ?_ GE102.out)|exact HB.out))⟩;clear BK102 HB hq_;have BK102:=n0_;have HB:=n1_;clear n0_ n1_))
            have n0_:=Aside0.mk (blk_drew BK102.out)
            have n1_:=Aside0.mk (below_drew1 HB.out)
            clear BK102
            clear HB
            have BK102:=n0_
            have HB:=n1_
            clear n0_ n1_
            have q36:(x13_1:Int)≤((l0.length:Int):Int):=of_decide_eq_true (by first|(with_reducible assumption)|assumption)
            obtain ⟨i036,hi036,_,hsz36,_⟩:=info_parts info53
            have hroom36:l0.length≤c0:=HC0.out
            have hC36:Kd.C k53 _ (some ad101) l0.length l0:=HR0.out
            have hcut36:=cut_to (P:=Tryd.prog) 22 53 .i64 Tryd.underlying22 hi036 (some ad101) l0.length c0 x13_1 (of_decide_eq_true (by first|(with_reducible assumption)|assumption)) q36 hroom36
            have hr36:=Kd.C_take (m:=(x13_1:Int).toNat) hC36 (by omega)
            have hy36:y104.length=(x13_1:Int).toNat:=(by rw [Ny104.out,List.length_take];omega)
            rw [← Ny104.out] at hr36
            rw [← hy36] at hcut36
            have HR107:=Aside0.mk hr36
            have HC107:=Aside0.mk (show y104.length≤c0 from by omega)
            clear hr36 hC36 hroom36 hi036 hsz36
            have KY36:=Aside0.mk hy36
            clear hy36
            replace q36:=eq_true q36
            refine start_ (n:=11) (S:=fun w'=>w'.cell? ⟨gb102,0,none⟩=some (.string ((rd_T53 l0 x13_1).f0))∧w'.cell? ⟨gb102,1,none⟩=some (.int .i64 ((rd_T53 l0 x13_1).f1))∧w'.cell? ⟨gb102,2,none⟩=some (.int .i64 ((rd_T53 l0 x13_1).f2))∧w'.cell? ⟨gb102,3,none⟩=some (.int .i64 ((rd_T53 l0 x13_1).f3))∧w'.cell? ⟨gb102,4,none⟩=some (.int .i64 ((rd_T53 l0 x13_1).f4))∧w'.cell? ⟨gb102,5,none⟩=some (.slice A101_5 ((rd_T53 l0 x13_1).f5).length c101_5)∧w'.cell? ⟨gb102,6,none⟩=some (.slice A101_6 ((rd_T53 l0 x13_1).f6).length c101_6)) (ds:=[]) (bitsA 11 0) (by kernel_rfl) rfl rfl ⟨(blk_cell BK102.out 0).trans rfl,(blk_cell BK102.out 1).trans rfl,(blk_cell BK102.out 2).trans rfl,(blk_cell BK102.out 3).trans rfl,(blk_cell BK102.out 4).trans rfl,(blk_cell BK102.out 5).trans rfl,(blk_cell BK102.out 6).trans rfl⟩ (fun hHeld=>?_);refine with_tabW product_Check.tab8 product_Check.bits8 (fun HT_ HW_=>?_)
            generalize w34.drew=w35 at BK102 HB HR107 hHeld ⊢
            refine pure_ (i:=0) (N:=some 23) (v:=?_) (a':=?_) (bitsA 11 1) rfl rfl (any_of HT_.out (by kernel_rfl)) (fun _ _ _ h=>h) (Or.inl ⟨by rfl,?_⟩) ?_ ?_
            rotate_left;(intro w';go_simp;with_reducible rfl);rotate_left;(simp only [Act.put,List.setIfInBounds_toArray,List.set_cons_zero,List.set_cons_succ,i64_w,i32_w];rfl)
            refine pure_ (i:=1) (N:=some 24) (v:=?_) (a':=?_) (bitsA 11 3) rfl rfl (any_of HT_.out (by kernel_rfl)) (fun _ _ _ h=>h) (Or.inl ⟨by rfl,?_⟩) ?_ ?_
            rotate_left;(intro w';go_simp;with_reducible rfl);rotate_left;(simp only [Act.put,List.setIfInBounds_toArray,List.set_cons_zero,List.set_cons_succ,i64_w,i32_w];rfl)
            refine pure_ (i:=2) (N:=some 25) (v:=?_) (a':=?_) (bitsA 11 7) rfl rfl (any_of HT_.out (by kernel_rfl)) (fun _ _ _ h=>h) (Or.inl ⟨by rfl,?_⟩) ?_ ?_
            rotate_left;(intro w';go_simp;with_reducible rfl);rotate_left;(simp only [Act.put,List.setIfInBounds_toArray,List.set_cons_zero,List.set_cons_succ,i64_w,i32_w];rfl)
            refine pure_ (i:=3) (N:=some 26) (v:=?_) (a':=?_) (bitsA 11 15) rfl rfl (any_of HT_.out (by kernel_rfl)) (fun _ _ _ h=>h) (Or.inl ⟨by rfl,?_⟩) ?_ ?_
            rotate_left;(intro w';go_simp;with_reducible rfl);rotate_left;(simp only [Act.put,List.setIfInBounds_toArray,List.set_cons_zero,List.set_cons_succ,i64_w,i32_w];rfl)
            refine take_ (i:=4) (N:=some 27) (v:=?_) (a':=?_) (bitsA 11 31) rfl rfl (take_ofW HT_.out HW_.out (by kernel_rfl)) (fun _ _ _ h=>h) (Or.inl ⟨by rfl,?_⟩) hHeld ?_ ?_
            rotate_left;(rintro w' ⟨s0,s1,s2,s3,s4,s5,s6⟩;go_simp;with_reducible rfl);rotate_left;(simp only [Act.put,List.setIfInBounds_toArray,List.set_cons_zero,List.set_cons_succ,i64_w,i32_w];rfl)
            refine one_ (i:=5) (N:=some 28) (bitsA 11 63) rfl rfl (one_of HT_.out (by kernel_rfl)) (by decide) (fun K hK=>?_)
            refine goes_ Tryd.func39 (by kernel_rfl) rfl #[.slice (some ad101) y104.length c0,.string ((rd_T53 l0 x13_1).f0)] (by rfl) rfl rfl (by (try simp only [List.map_toArray,List.map_cons,List.map_nil]);first|done|rfl|(simp only [List.length_drop,List.length_take];rfl)) ?_
            with_reducible refine (product_Find.calls k1 _ _ y104 ((rd_T53 l0 x13_1).f0) t108 false _ ?side1 ?side2 A10.out).mono ?_
            (case side1=>repeat (first|exact (Kd.C_below HR107.out HB.out)|(with_reducible refine Kd.C_alloc ?_ _)|(with_reducible refine Kd.C_drewN ?_ _)|(with_reducible refine Kd.C_drew ?_)))
            (case side2=>exact HC107.out)
            rintro e w37 ⟨rfl,hb⟩
            refine ⟨_,rfl,?_⟩
            have n0_:=Aside0.mk (blk_below (g:=gb102) (o:=.cells #[.string ((rd_T53 l0 x13_1).f0),.int .i64 ((rd_T53 l0 x13_1).f1),.int .i64 ((rd_T53 l0 x13_1).f2),.int .i64 ((rd_T53 l0 x13_1).f3),.int .i64 ((rd_T53 l0 x13_1).f4),.slice A101_5 ((rd_T53 l0 x13_1).f5).length c101_5,.slice A101_6 ((rd_T53 l0 x13_1).f6).length c101_6] 53 (0,0)) (by (with_reducible repeat (first|refine blk_drewN ?_ _|refine blk_drew ?_|refine blk_alloc ?_ _));exact BK102.out) hb)
            have n1_:=Aside0.mk (below_step (by repeat (first|(with_reducible first|exact HB.out|apply below_alloc|apply pw_below_drewN|apply below_drew1|refine below_set ?_ GE102.out)|exact HB.out)) hb)
            clear BK102
            clear HB
            have BK102:=n0_
            have HB:=n1_
            clear n0_ n1_
            (try clear hb)
            (try clear hb2)
            (try clear hk)
            (try clear hi)
            refine hK.out _ _ ⟨(blk_cell BK102.out 0).trans rfl,(blk_cell BK102.out 1).trans rfl,(blk_cell BK102.out 2).trans rfl,(blk_cell BK102.out 3).trans rfl,(blk_cell BK102.out 4).trans rfl,(blk_cell BK102.out 5).trans rfl,(blk_cell BK102.out 6).trans rfl⟩ (fun hHeld=>?_)
            clear hK K
            refine norm_ (a':=?_) ?_ ?_
            rotate_left
            ·show Act.put _ (some 28) _=_
             simp only [Act.put,List.setIfInBounds_toArray,List.set_cons_zero,List.set_cons_succ,i64_w,i32_w]
             rfl
            refine pure_ (i:=6) (N:=some 22) (v:=?_) (a':=?_) (bitsA 11 127) rfl rfl (any_of HT_.out (by kernel_rfl)) (fun _ _ _ h=>h) (Or.inl ⟨by rfl,?_⟩) ?_ ?_
            rotate_left;(intro w';go_simp;with_reducible rfl);rotate_left;(simp only [Act.put,List.setIfInBounds_toArray,List.set_cons_zero,List.set_cons_succ,i64_w,i32_w];rfl)
            refine pure_ (i:=7) (N:=some 29) (v:=?_) (a':=?_) (bitsA 11 255) rfl rfl (any_of HT_.out (by kernel_rfl)) (fun _ _ _ h=>h) (Or.inl ⟨by rfl,?_⟩) ?_ ?_
            rotate_left;(intro w';go_simp;with_reducible rfl);rotate_left;(simp only [Act.put,List.setIfInBounds_toArray,List.set_cons_zero,List.set_cons_succ,i64_w,i32_w];rfl)
            refine pure_ (i:=8) (N:=some 30) (v:=?_) (a':=?_) (bitsA 11 511) rfl rfl (any_of HT_.out (by kernel_rfl)) (fun _ _ _ h=>h) (Or.inl ⟨by rfl,?_⟩) ?_ ?_
            rotate_left;(intro w';go_simp;with_reducible rfl);rotate_left;(simp only [Act.put,List.setIfInBounds_toArray,List.set_cons_zero,List.set_cons_succ,i64_w,i32_w];rfl)
            refine pure_ (i:=9) (N:=some 5) (v:=?_) (a':=?_) (bitsA 11 1023) rfl rfl (any_of HT_.out (by kernel_rfl)) (fun _ _ _ h=>h) (Or.inl ⟨by rfl,?_⟩) ?_ ?_
            rotate_left;(intro w';go_simp;with_reducible rfl);rotate_left;(simp only [Act.put,List.setIfInBounds_toArray,List.set_cons_zero,List.set_cons_succ,i64_w,i32_w];rfl)
            refine pure_ (i:=10) (N:=some 6) (v:=?_) (a':=?_) (bitsA 11 2047) rfl rfl (any_of HT_.out (by kernel_rfl)) (fun _ _ _ h=>h) (Or.inl ⟨by rfl,?_⟩) ?_ ?_
            rotate_left;(intro w';go_simp;with_reducible rfl);rotate_left;(simp only [Act.put,List.setIfInBounds_toArray,List.set_cons_zero,List.set_cons_succ,i64_w,i32_w];rfl)
            refine done_ (done_of HT_.out (by kernel_rfl)) ?_
            have hcz38_0:w37.cell? ⟨gb102,0,none⟩=some (.string ((rd_T53 l0 x13_1).f0)):=(blk_cell BK102.out 0).trans rfl
            have hcz38_1:w37.cell? ⟨gb102,1,none⟩=some (.int .i64 ((rd_T53 l0 x13_1).f1)):=(blk_cell BK102.out 1).trans rfl
            have hcz38_2:w37.cell? ⟨gb102,2,none⟩=some (.int .i64 ((rd_T53 l0 x13_1).f2)):=(blk_cell BK102.out 2).trans rfl
            have hcz38_3:w37.cell? ⟨gb102,3,none⟩=some (.int .i64 ((rd_T53 l0 x13_1).f3)):=(blk_cell BK102.out 3).trans rfl
            have hcz38_4:w37.cell? ⟨gb102,4,none⟩=some (.int .i64 ((rd_T53 l0 x13_1).f4)):=(blk_cell BK102.out 4).trans rfl
            have hcz38_5:w37.cell? ⟨gb102,5,none⟩=some (.slice A101_5 ((rd_T53 l0 x13_1).f5).length c101_5):=(blk_cell BK102.out 5).trans rfl
            have hcz38_6:w37.cell? ⟨gb102,6,none⟩=some (.slice A101_6 ((rd_T53 l0 x13_1).f6).length c101_6):=(blk_cell BK102.out 6).trans rfl
            have hfz38_0:=blk_frozen BK102.out 0
            have hfz38_1:=blk_frozen BK102.out 1
            have hfz38_2:=blk_frozen BK102.out 2
            have hfz38_3:=blk_frozen BK102.out 3
            have hfz38_4:=blk_frozen BK102.out 4
            have hfz38_5:=blk_frozen BK102.out 5
            have hfz38_6:=blk_frozen BK102.out 6
            try go_wp2_with (first|((with_reducible refine gate_callee (f:=40) rfl ?_);refine goesL_ (some 33) rfl rfl Tryd.func40 (by kernel_rfl) rfl #[.agg #[.string ((rd_T53 l0 x13_1).f0),.int .i64 ((rd_T53 l0 x13_1).f1),.int .i64 ((rd_T53 l0 x13_1).f2),.int .i64 ((rd_T53 l0 x13_1).f3),.int .i64 ((rd_T53 l0 x13_1).f4),.slice A101_5 ((rd_T53 l0 x13_1).f5).length c101_5,.slice A101_6 ((rd_T53 l0 x13_1).f6).length c101_6]] rfl (by (try simp only [List.map_toArray,List.map_cons,List.map_nil]);first|done|rfl|(simp only [List.length_drop,List.length_take];rfl)) ?_;(with_reducible refine (product_sized.calls k1 ((rd_T53 l0 x13_1).f0) ((rd_T53 l0 x13_1).f1) ((rd_T53 l0 x13_1).f2) ((rd_T53 l0 x13_1).f3) ((rd_T53 l0 x13_1).f4) _ _ ((rd_T53 l0 x13_1).f5) _ _ ((rd_T53 l0 x13_1).f6) true _ ?side1 ?side2 ?side3 ?side4 A18.out).mono ?_);(case side1=>repeat (first|exact (Kd.C_below HR101_5.out HB.out)|(with_reducible refine Kd.C_alloc ?_ _)|(with_reducible refine Kd.C_drewN ?_ _)|(with_reducible refine Kd.C_drew ?_)));(case side2=>exact HC101_5.out);(case side3=>repeat (first|exact (Kd.C_below HR101_6.out HB.out)|(with_reducible refine Kd.C_alloc ?_ _)|(with_reducible refine Kd.C_drewN ?_ _)|(with_reducible refine Kd.C_drew ?_)));(case side4=>exact HC101_6.out);rintro e w39 ⟨rfl,hb⟩;refine ⟨_,rfl,?_⟩;have n0_:=Aside0.mk (blk_below (g:=gb102) (o:=.cells #[.string ((rd_T53 l0 x13_1).f0),.int .i64 ((rd_T53 l0 x13_1).f1),.int .i64 ((rd_T53 l0 x13_1).f2),.int .i64 ((rd_T53 l0 x13_1).f3),.int .i64 ((rd_T53 l0 x13_1).f4),.slice A101_5 ((rd_T53 l0 x13_1).f5).length c101_5,.slice A101_6 ((rd_T53 l0 x13_1).f6).length c101_6] 53 (0,0)) (by (with_reducible repeat (first|refine blk_drewN ?_ _|refine blk_drew ?_|refine blk_alloc ?_ _));exact BK102.out) hb);have n1_:=Aside0.mk (below_step (by repeat (first|(with_reducible first|exact HB.out|apply below_alloc|apply pw_below_drewN|apply below_drew1|refine below_set ?_ GE102.out)|exact HB.out)) hb);clear BK102;clear HB;have BK102:=n0_;have HB:=n1_;clear n0_ n1_;(try clear hb);(try clear hb2);(try clear hk);(try clear hi);have hcz40_0:w39.cell? ⟨gb102,0,none⟩=some (.string ((rd_T53 l0 x13_1).f0)):=(blk_cell BK102.out 0).trans rfl;have hcz40_1:w39.cell? ⟨gb102,1,none⟩=some (.int .i64 ((rd_T53 l0 x13_1).f1)):=(blk_cell BK102.out 1).trans rfl;have hcz40_2:w39.cell? ⟨gb102,2,none⟩=some (.int .i64 ((rd_T53 l0 x13_1).f2)):=(blk_cell BK102.out 2).trans rfl;have hcz40_3:w39.cell? ⟨gb102,3,none⟩=some (.int .i64 ((rd_T53 l0 x13_1).f3)):=(blk_cell BK102.out 3).trans rfl;have hcz40_4:w39.cell? ⟨gb102,4,none⟩=some (.int .i64 ((rd_T53 l0 x13_1).f4)):=(blk_cell BK102.out 4).trans rfl;have hcz40_5:w39.cell? ⟨gb102,5,none⟩=some (.slice A101_5 ((rd_T53 l0 x13_1).f5).length c101_5):=(blk_cell BK102.out 5).trans rfl;have hcz40_6:w39.cell? ⟨gb102,6,none⟩=some (.slice A101_6 ((rd_T53 l0 x13_1).f6).length c101_6):=(blk_cell BK102.out 6).trans rfl;have hfz40_0:=blk_frozen BK102.out 0;have hfz40_1:=blk_frozen BK102.out 1;have hfz40_2:=blk_frozen BK102.out 2;have hfz40_3:=blk_frozen BK102.out 3;have hfz40_4:=blk_frozen BK102.out 4;have hfz40_5:=blk_frozen BK102.out 5;have hfz40_6:=blk_frozen BK102.out 6)|((with_reducible refine gate_callee (f:=41) rfl ?_);refine goesL_ (some 36) rfl rfl Tryd.func41 (by kernel_rfl) rfl #[.agg #[.string ((rd_T53 l0 x13_1).f0),.int .i64 ((rd_T53 l0 x13_1).f1),.int .i64 ((rd_T53 l0 x13_1).f2),.int .i64 ((rd_T53 l0 x13_1).f3),.int .i64 ((rd_T53 l0 x13_1).f4),.slice A101_5 ((rd_T53 l0 x13_1).f5).length c101_5,.slice A101_6 ((rd_T53 l0 x13_1).f6).length c101_6]] rfl (by (try simp only [List.map_toArray,List.map_cons,List.map_nil]);first|done|rfl|(simp only [List.length_drop,List.length_take];rfl)) ?_;(with_reducible refine (product_checkLengths.calls k1 ((rd_T53 l0 x13_1).f0) ((rd_T53 l0 x13_1).f1) ((rd_T53 l0 x13_1).f2) ((rd_T53 l0 x13_1).f3) ((rd_T53 l0 x13_1).f4) _ _ ((rd_T53 l0 x13_1).f5) _ _ ((rd_T53 l0 x13_1).f6) t111 _ ?side1 ?side2 ?side3 ?side4 A20.out).mono ?_);(case side1=>repeat (first|exact (Kd.C_below HR101_5.out HB.out)|(with_reducible refine Kd.C_alloc ?_ _)|(with_reducible refine Kd.C_drewN ?_ _)|(with_reducible refine Kd.C_drew ?_)));(case side2=>exact HC101_5.out);(case side3=>repeat (first|exact (Kd.C_below HR101_6.out HB.out)|(with_reducible refine Kd.C_alloc ?_ _)|(with_reducible refine Kd.C_drewN ?_ _)|(with_reducible refine Kd.C_drew ?_)));(case side4=>exact HC101_6.out);rintro e w41 ⟨rfl,hb⟩;refine ⟨_,rfl,?_⟩;have n0_:=Aside0.mk (blk_below (g:=gb102) (o:=.cells #[.string ((rd_T53 l0 x13_1).f0),.int .i64 ((rd_T53 l0 x13_1).f1),.int .i64 ((rd_T53 l0 x13_1).f2),.int .i64 ((rd_T53 l0 x13_1).f3),.int .i64 ((rd_T53 l0 x13_1).f4),.slice A101_5 ((rd_T53 l0 x13_1).f5).length c101_5,.slice A101_6 ((rd_T53 l0 x13_1).f6).length c101_6] 53 (0,0)) (by (with_reducible repeat (first|refine blk_drewN ?_ _|refine blk_drew ?_|refine blk_alloc ?_ _));exact BK102.out) hb);have n1_:=Aside0.mk (below_step (by repeat (first|(with_reducible first|exact HB.out|apply below_alloc|apply pw_below_drewN|apply below_drew1|refine below_set ?_ GE102.out)|exact HB.out)) hb);clear BK102;clear HB;have BK102:=n0_;have HB:=n1_;clear n0_ n1_;(try clear hb);(try clear hb2);(try clear hk);(try clear hi)))
            go_ret
            exact ⟨by first|rfl|(simp [errW_none,errW_some]<;>rfl)|(simp [*,errW_none,errW_some]<;>rfl),by repeat (first|(with_reducible first|exact HB.out|apply below_alloc|apply pw_below_drewN|apply below_drew1|refine below_set ?_ GE102.out)|exact HB.out)⟩
          ·replace c19:=Bool.eq_false_iff.mpr c19
           subst c19
           have H1:(some 9)=some r:=by rw [if_neg (show ¬ (false=true) by decide)] at H;exact H
           clear H
           have H:=H1
           clear H1
           obtain rfl:=Option.some.inj H
           have p101:0≤(x13_1:Int):=of_decide_eq_true (by first|(with_reducible assumption)|assumption)
           have q101:x13_1 < (l0.length:Int):=of_decide_eq_true (by first|(with_reducible assumption)|assumption)
           obtain ⟨ad101,A101_5,c101_5,A101_6,c101_6,e101,hx101_0,hx101_1,hx101_2,hx101_3,hx101_4,hx101_5,hx101_6,hl101_5,hi101_5,hl101_6,hi101_6⟩:=at_T53 HR0.out x13_1 p101 q101
           cases e101
           replace hx101_0:=(HB.out.cell (World.block_lt_of_cell? w _ hx101_0)).trans hx101_0
           replace hx101_1:=(HB.out.cell (World.block_lt_of_cell? w _ hx101_1)).trans hx101_1
           replace hx101_2:=(HB.out.cell (World.block_lt_of_cell? w _ hx101_2)).trans hx101_2
           replace hx101_3:=(HB.out.cell (World.block_lt_of_cell? w _ hx101_3)).trans hx101_3
           replace hx101_4:=(HB.out.cell (World.block_lt_of_cell? w _ hx101_4)).trans hx101_4
           replace hx101_5:=(HB.out.cell (World.block_lt_of_cell? w _ hx101_5)).trans hx101_5
           replace hx101_6:=(HB.out.cell (World.block_lt_of_cell? w _ hx101_6)).trans hx101_6
           have HR101_5:=Aside0.mk hi101_5
           have HC101_5:=Aside0.mk hl101_5
           clear hi101_5 hl101_5
           have HR101_6:=Aside0.mk hi101_6
           have HC101_6:=Aside0.mk hl101_6
           clear hi101_6 hl101_6
           replace p101:=eq_true p101
           replace q101:=eq_true q101
           try go_wp2_with (first|((with_reducible refine gate_dst (N:=4) rfl ?_);refine box_event ?hg (N:=4) ?hd (cs:=#[.string (⟨#[]⟩:ByteArray),.int .i64 0,.int .i64 0,.int .i64 0,.int .i64 0,.slice none 0 0,.slice none 0 0]) (t:=53) ?hr ?_;(case hd=>rfl);(case hg=>rfl);(case hr=>first|(go_simp;done)|(go_simp;rfl));intro gb102 hg w42 hbox hb;have n0_:=Aside0.mk (below_step (by repeat (first|(with_reducible first|exact HB.out|apply below_alloc|apply pw_below_drewN|apply below_drew1)|exact HB.out)) hb);have n1_:=Aside0.mk (hbox);have n2_:=Aside0.mk ((by rw [hg];exact (below_size (by repeat (first|(with_reducible first|exact HB.out|apply below_alloc|apply pw_below_drewN|apply below_drew1)|exact HB.out))):w.heap.size≤gb102));have n3_:=Aside0.mk ((by rw [hg];exact (below_size (by repeat (first|(with_reducible first|exact HB.out|apply below_alloc|apply pw_below_drewN|apply below_drew1)|exact HB.out))):w.heap.size≤gb102));clear HB;have HB:=n0_;have BK102:=n1_;have GW102:=n2_;have GE102:=n3_;clear n0_ n1_ n2_ n3_;clear hb hbox hg;have hcz43_0:w42.cell? ⟨gb102,0,none⟩=some (.string (⟨#[]⟩:ByteArray)):=(blk_cell BK102.out 0).trans rfl;have hcz43_1:w42.cell? ⟨gb102,1,none⟩=some (.int .i64 0):=(blk_cell BK102.out 1).trans rfl;have hcz43_2:w42.cell? ⟨gb102,2,none⟩=some (.int .i64 0):=(blk_cell BK102.out 2).trans rfl;have hcz43_3:w42.cell? ⟨gb102,3,none⟩=some (.int .i64 0):=(blk_cell BK102.out 3).trans rfl;have hcz43_4:w42.cell? ⟨gb102,4,none⟩=some (.int .i64 0):=(blk_cell BK102.out 4).trans rfl;have hcz43_5:w42.cell? ⟨gb102,5,none⟩=some (.slice none 0 0):=(blk_cell BK102.out 5).trans rfl;have hcz43_6:w42.cell? ⟨gb102,6,none⟩=some (.slice none 0 0):=(blk_cell BK102.out 6).trans rfl;have hfz43_0:=blk_frozen BK102.out 0;have hfz43_1:=blk_frozen BK102.out 1;have hfz43_2:=blk_frozen BK102.out 2;have hfz43_3:=blk_frozen BK102.out 3;have hfz43_4:=blk_frozen BK102.out 4;have hfz43_5:=blk_frozen BK102.out 5;have hfz43_6:=blk_frozen BK102.out 6)|((with_reducible refine gate_callee (f:=38) rfl ?_);refine goesL_ (some 20) rfl rfl Tryd.func38 (by kernel_rfl) rfl #[.string ((rd_T53 l0 x13_1).f0)] rfl (by (try simp only [List.map_toArray,List.map_cons,List.map_nil]);first|done|rfl|(simp only [List.length_drop,List.length_take];rfl)) ?_;(with_reducible refine (ident_IsName.calls k1 ((rd_T53 l0 x13_1).f0) true _ A6.out).mono ?_);rintro e w' ⟨rfl,⟨nd,rfl⟩⟩;refine ⟨_,rfl,?_⟩))
           have n0_:Aside0 ((((((((w42.setCell ⟨gb102,0,none⟩ (.string ((rd_T53 l0 x13_1).f0))).setCell ⟨gb102,1,none⟩ (.int .i64 ((rd_T53 l0 x13_1).f1))).setCell ⟨gb102,2,none⟩ (.int .i64 ((rd_T53 l0 x13_1).f2))).setCell ⟨gb102,3,none⟩ (.int .i64 ((rd_T53 l0 x13_1).f3))).setCell ⟨gb102,4,none⟩ (.int .i64 ((rd_T53 l0 x13_1).f4))).setCell ⟨gb102,5,none⟩ (.slice A101_5 ((rd_T53 l0 x13_1).f5).length c101_5)).setCell ⟨gb102,6,none⟩ (.slice A101_6 ((rd_T53 l0 x13_1).f6).length c101_6)).heap[gb102]?=some (.cells #[.string ((rd_T53 l0 x13_1).f0),.int .i64 ((rd_T53 l0 x13_1).f1),.int .i64 ((rd_T53 l0 x13_1).f2),.int .i64 ((rd_T53 l0 x13_1).f3),.int .i64 ((rd_T53 l0 x13_1).f4),.slice A101_5 ((rd_T53 l0 x13_1).f5).length c101_5,.slice A101_6 ((rd_T53 l0 x13_1).f6).length c101_6] 53 (0,0))):=⟨by (with_reducible repeat (first|refine blk_drewN ?_ _|refine blk_drew ?_|refine blk_alloc ?_ _));refine blk_put (cs:=#[.string ((rd_T53 l0 x13_1).f0),.int .i64 ((rd_T53 l0 x13_1).f1),.int .i64 ((rd_T53 l0 x13_1).f2),.int .i64 ((rd_T53 l0 x13_1).f3),.int .i64 ((rd_T53 l0 x13_1).f4),.slice A101_5 ((rd_T53 l0 x13_1).f5).length c101_5,.slice none 0 0]) ?_ 6 _ rfl;(with_reducible repeat (first|refine blk_drewN ?_ _|refine blk_drew ?_|refine blk_alloc ?_ _));refine blk_put (cs:=#[.string ((rd_T53 l0 x13_1).f0),.int .i64 ((rd_T53 l0 x13_1).f1),.int .i64 ((rd_T53 l0 x13_1).f2),.int .i64 ((rd_T53 l0 x13_1).f3),.int .i64 ((rd_T53 l0 x13_1).f4),.slice none 0 0,.slice none 0 0]) ?_ 5 _ rfl;(with_reducible repeat (first|refine blk_drewN ?_ _|refine blk_drew ?_|refine blk_alloc ?_ _));refine blk_put (cs:=#[.string ((rd_T53 l0 x13_1).f0),.int .i64 ((rd_T53 l0 x13_1).f1),.int .i64 ((rd_T53 l0 x13_1).f2),.int .i64 ((rd_T53 l0 x13_1).f3),.int .i64 0,.slice none 0 0,.slice none 0 0]) ?_ 4 _ rfl;(with_reducible repeat (first|refine blk_drewN ?_ _|refine blk_drew ?_|refine blk_alloc ?_ _));refine blk_put (cs:=#[.string ((rd_T53 l0 x13_1).f0),.int .i64 ((rd_T53 l0 x13_1).f1),.int .i64 ((rd_T53 l0 x13_1).f2),.int .i64 0,.int .i64 0,.slice none 0 0,.slice none 0 0]) ?_ 3 _ rfl;(with_reducible repeat (first|refine blk_drewN ?_ _|refine blk_drew ?_|refine blk_alloc ?_ _));refine blk_put (cs:=#[.string ((rd_T53 l0 x13_1).f0),.int .i64 ((rd_T53 l0 x13_1).f1),.int .i64 0,.int .i64 0,.int .i64 0,.slice none 0 0,.slice none 0 0]) ?_ 2 _ rfl;(with_reducible repeat (first|refine blk_drewN ?_ _|refine blk_drew ?_|refine blk_alloc ?_ _));refine blk_put (cs:=#[.string ((rd_T53 l0 x13_1).f0),.int .i64 0,.int .i64 0,.int .i64 0,.int .i64 0,.slice none 0 0,.slice none 0 0]) ?_ 1 _ rfl;(with_reducible repeat (first|refine blk_drewN ?_ _|refine blk_drew ?_|refine blk_alloc ?_ _));refine blk_put (cs:=#[.string (⟨#[]⟩:ByteArray),.int .i64 0,.int .i64 0,.int .i64 0,.int .i64 0,.slice none 0 0,.slice none 0 0]) ?_ 0 _ rfl;(with_reducible repeat (first|refine blk_drewN ?_ _|refine blk_drew ?_|refine blk_alloc ?_ _));exact BK102.out⟩
           have n1_:Aside0 (Below w.heap.size w (((((((w42.setCell ⟨gb102,0,none⟩ (.string ((rd_T53 l0 x13_1).f0))).setCell ⟨gb102,1,none⟩ (.int .i64 ((rd_T53 l0 x13_1).f1))).setCell ⟨gb102,2,none⟩ (.int .i64 ((rd_T53 l0 x13_1).f2))).setCell ⟨gb102,3,none⟩ (.int .i64 ((rd_T53 l0 x13_1).f3))).setCell ⟨gb102,4,none⟩ (.int .i64 ((rd_T53 l0 x13_1).f4))).setCell ⟨gb102,5,none⟩ (.slice A101_5 ((rd_T53 l0 x13_1).f5).length c101_5)).setCell ⟨gb102,6,none⟩ (.slice A101_6 ((rd_T53 l0 x13_1).f6).length c101_6))):=⟨by repeat (first|(with_reducible first|exact HB.out|apply below_alloc|apply pw_below_drewN|apply below_drew1|refine below_set ?_ GE102.out)|exact HB.out)⟩
           (try clear BK102)
           (try clear HB)
           generalize (((((((w42.setCell ⟨gb102,0,none⟩ (.string ((rd_T53 l0 x13_1).f0))).setCell ⟨gb102,1,none⟩ (.int .i64 ((rd_T53 l0 x13_1).f1))).setCell ⟨gb102,2,none⟩ (.int .i64 ((rd_T53 l0 x13_1).f2))).setCell ⟨gb102,3,none⟩ (.int .i64 ((rd_T53 l0 x13_1).f3))).setCell ⟨gb102,4,none⟩ (.int .i64 ((rd_T53 l0 x13_1).f4))).setCell ⟨gb102,5,none⟩ (.slice A101_5 ((rd_T53 l0 x13_1).f5).length c101_5)).setCell ⟨gb102,6,none⟩ (.slice A101_6 ((rd_T53 l0 x13_1).f6).length c101_6))=w44 at n0_ n1_ ⊢
           have BK102:=n0_
           have HB:=n1_
           clear n0_ n1_
           (try (rw [drewN_self w44];generalize hq_:World.drewN w44 _=w44;have n0_:Aside0 (w44.heap[gb102]?=some (.cells #[.string ((rd_T53 l0 x13_1).f0),.int .i64 ((rd_T53 l0 x13_1).f1),.int .i64 ((rd_T53 l0 x13_1).f2),.int .i64 ((rd_T53 l0 x13_1).f3),.int .i64 ((rd_T53 l0 x13_1).f4),.slice A101_5 ((rd_T53 l0 x13_1).f5).length c101_5,.slice A101_6 ((rd_T53 l0 x13_1).f6).length c101_6] 53 (0,0))):=⟨by rw [← hq_];exact (by (with_reducible repeat (first|refine blk_drewN ?_ _|refine blk_drew ?_|refine blk_alloc ?_ _));exact BK102.out)⟩;have n1_:Aside0 (Below w.heap.size w w44):=⟨by rw [← hq_];exact (by repeat (first|(with_reducible first|exact HB.out|apply below_alloc|apply pw_below_drewN|apply below_drew1|refine below_set ?_ GE102.out)|exact HB.out))⟩;clear BK102 HB hq_;have BK102:=n0_;have HB:=n1_;clear n0_ n1_))
           have n0_:=Aside0.mk (blk_drew BK102.out)
           have n1_:=Aside0.mk (below_drew1 HB.out)
           clear BK102
           clear HB
           have BK102:=n0_
           have HB:=n1_
           clear n0_ n1_
           have q46:(x13_1:Int)≤((l0.length:Int):Int):=of_decide_eq_true (by first|(with_reducible assumption)|assumption)
           obtain ⟨i046,hi046,_,hsz46,_⟩:=info_parts info53
           have hroom46:l0.length≤c0:=HC0.out
           have hC46:Kd.C k53 _ (some ad101) l0.length l0:=HR0.out
           have hcut46:=cut_to (P:=Tryd.prog) 22 53 .i64 Tryd.underlying22 hi046 (some ad101) l0.length c0 x13_1 (of_decide_eq_true (by first|(with_reducible assumption)|assumption)) q46 hroom46
           have hr46:=Kd.C_take (m:=(x13_1:Int).toNat) hC46 (by omega)
           have hy46:y104.length=(x13_1:Int).toNat:=(by rw [Ny104.out,List.length_take];omega)
           rw [← Ny104.out] at hr46
           rw [← hy46] at hcut46
           have HR107:=Aside0.mk hr46
           have HC107:=Aside0.mk (show y104.length≤c0 from by omega)
           clear hr46 hC46 hroom46 hi046 hsz46
           have KY46:=Aside0.mk hy46
           clear hy46
           replace q46:=eq_true q46
           refine start_ (n:=11) (S:=fun w'=>w'.cell? ⟨gb102,0,none⟩=some (.string ((rd_T53 l0 x13_1).f0))∧w'.cell? ⟨gb102,1,none⟩=some (.int .i64 ((rd_T53 l0 x13_1).f1))∧w'.cell? ⟨gb102,2,none⟩=some (.int .i64 ((rd_T53 l0 x13_1).f2))∧w'.cell? ⟨gb102,3,none⟩=some (.int .i64 ((rd_T53 l0 x13_1).f3))∧w'.cell? ⟨gb102,4,none⟩=some (.int .i64 ((rd_T53 l0 x13_1).f4))∧w'.cell? ⟨gb102,5,none⟩=some (.slice A101_5 ((rd_T53 l0 x13_1).f5).length c101_5)∧w'.cell? ⟨gb102,6,none⟩=some (.slice A101_6 ((rd_T53 l0 x13_1).f6).length c101_6)) (ds:=[]) (bitsA 11 0) (by kernel_rfl) rfl rfl ⟨(blk_cell BK102.out 0).trans rfl,(blk_cell BK102.out 1).trans rfl,(blk_cell BK102.out 2).trans rfl,(blk_cell BK102.out 3).trans rfl,(blk_cell BK102.out 4).trans rfl,(blk_cell BK102.out 5).trans rfl,(blk_cell BK102.out 6).trans rfl⟩ (fun hHeld=>?_);refine with_tabW product_Check.tab8 product_Check.bits8 (fun HT_ HW_=>?_)
           generalize w44.drew=w45 at BK102 HB HR107 hHeld ⊢
           refine pure_ (i:=0) (N:=some 23) (v:=?_) (a':=?_) (bitsA 11 1) rfl rfl (any_of HT_.out (by kernel_rfl)) (fun _ _ _ h=>h) (Or.inl ⟨by rfl,?_⟩) ?_ ?_
           rotate_left;(intro w';go_simp;with_reducible rfl);rotate_left;(simp only [Act.put,List.setIfInBounds_toArray,List.set_cons_zero,List.set_cons_succ,i64_w,i32_w];rfl)
           refine pure_ (i:=1) (N:=some 24) (v:=?_) (a':=?_) (bitsA 11 3) rfl rfl (any_of HT_.out (by kernel_rfl)) (fun _ _ _ h=>h) (Or.inl ⟨by rfl,?_⟩) ?_ ?_
           rotate_left;(intro w';go_simp;with_reducible rfl);rotate_left;(simp only [Act.put,List.setIfInBounds_toArray,List.set_cons_zero,List.set_cons_succ,i64_w,i32_w];rfl)
           refine pure_ (i:=2) (N:=some 25) (v:=?_) (a':=?_) (bitsA 11 7) rfl rfl (any_of HT_.out (by kernel_rfl)) (fun _ _ _ h=>h) (Or.inl ⟨by rfl,?_⟩) ?_ ?_
           rotate_left;(intro w';go_simp;with_reducible rfl);rotate_left;(simp only [Act.put,List.setIfInBounds_toArray,List.set_cons_zero,List.set_cons_succ,i64_w,i32_w];rfl)
           refine pure_ (i:=3) (N:=some 26) (v:=?_) (a':=?_) (bitsA 11 15) rfl rfl (any_of HT_.out (by kernel_rfl)) (fun _ _ _ h=>h) (Or.inl ⟨by rfl,?_⟩) ?_ ?_
           rotate_left;(intro w';go_simp;with_reducible rfl);rotate_left;(simp only [Act.put,List.setIfInBounds_toArray,List.set_cons_zero,List.set_cons_succ,i64_w,i32_w];rfl)
           refine take_ (i:=4) (N:=some 27) (v:=?_) (a':=?_) (bitsA 11 31) rfl rfl (take_ofW HT_.out HW_.out (by kernel_rfl)) (fun _ _ _ h=>h) (Or.inl ⟨by rfl,?_⟩) hHeld ?_ ?_
           rotate_left;(rintro w' ⟨s0,s1,s2,s3,s4,s5,s6⟩;go_simp;with_reducible rfl);rotate_left;(simp only [Act.put,List.setIfInBounds_toArray,List.set_cons_zero,List.set_cons_succ,i64_w,i32_w];rfl)
           refine one_ (i:=5) (N:=some 28) (bitsA 11 63) rfl rfl (one_of HT_.out (by kernel_rfl)) (by decide) (fun K hK=>?_)
           refine goes_ Tryd.func39 (by kernel_rfl) rfl #[.slice (some ad101) y104.length c0,.string ((rd_T53 l0 x13_1).f0)] (by rfl) rfl rfl (by (try simp only [List.map_toArray,List.map_cons,List.map_nil]);first|done|rfl|(simp only [List.length_drop,List.length_take];rfl)) ?_
           with_reducible refine (product_Find.calls k1 _ _ y104 ((rd_T53 l0 x13_1).f0) t108 false _ ?side1 ?side2 A10.out).mono ?_
           (case side1=>repeat (first|exact (Kd.C_below HR107.out HB.out)|(with_reducible refine Kd.C_alloc ?_ _)|(with_reducible refine Kd.C_drewN ?_ _)|(with_reducible refine Kd.C_drew ?_)))
           (case side2=>exact HC107.out)
           rintro e w47 ⟨rfl,hb⟩
           refine ⟨_,rfl,?_⟩
           have n0_:=Aside0.mk (blk_below (g:=gb102) (o:=.cells #[.string ((rd_T53 l0 x13_1).f0),.int .i64 ((rd_T53 l0 x13_1).f1),.int .i64 ((rd_T53 l0 x13_1).f2),.int .i64 ((rd_T53 l0 x13_1).f3),.int .i64 ((rd_T53 l0 x13_1).f4),.slice A101_5 ((rd_T53 l0 x13_1).f5).length c101_5,.slice A101_6 ((rd_T53 l0 x13_1).f6).length c101_6] 53 (0,0)) (by (with_reducible repeat (first|refine blk_drewN ?_ _|refine blk_drew ?_|refine blk_alloc ?_ _));exact BK102.out) hb)
           have n1_:=Aside0.mk (below_step (by repeat (first|(with_reducible first|exact HB.out|apply below_alloc|apply pw_below_drewN|apply below_drew1|refine below_set ?_ GE102.out)|exact HB.out)) hb)
           clear BK102
           clear HB
           have BK102:=n0_
           have HB:=n1_
           clear n0_ n1_
           (try clear hb)
           (try clear hb2)
           (try clear hk)
           (try clear hi)
           refine hK.out _ _ ⟨(blk_cell BK102.out 0).trans rfl,(blk_cell BK102.out 1).trans rfl,(blk_cell BK102.out 2).trans rfl,(blk_cell BK102.out 3).trans rfl,(blk_cell BK102.out 4).trans rfl,(blk_cell BK102.out 5).trans rfl,(blk_cell BK102.out 6).trans rfl⟩ (fun hHeld=>?_)
           clear hK K
           refine norm_ (a':=?_) ?_ ?_
           rotate_left
           ·show Act.put _ (some 28) _=_
            simp only [Act.put,List.setIfInBounds_toArray,List.set_cons_zero,List.set_cons_succ,i64_w,i32_w]
            rfl
           refine pure_ (i:=6) (N:=some 22) (v:=?_) (a':=?_) (bitsA 11 127) rfl rfl (any_of HT_.out (by kernel_rfl)) (fun _ _ _ h=>h) (Or.inl ⟨by rfl,?_⟩) ?_ ?_
           rotate_left;(intro w';go_simp;with_reducible rfl);rotate_left;(simp only [Act.put,List.setIfInBounds_toArray,List.set_cons_zero,List.set_cons_succ,i64_w,i32_w];rfl)
           refine pure_ (i:=7) (N:=some 29) (v:=?_) (a':=?_) (bitsA 11 255) rfl rfl (any_of HT_.out (by kernel_rfl)) (fun _ _ _ h=>h) (Or.inl ⟨by rfl,?_⟩) ?_ ?_
           rotate_left;(intro w';go_simp;with_reducible rfl);rotate_left;(simp only [Act.put,List.setIfInBounds_toArray,List.set_cons_zero,List.set_cons_succ,i64_w,i32_w];rfl)
           refine pure_ (i:=8) (N:=some 30) (v:=?_) (a':=?_) (bitsA 11 511) rfl rfl (any_of HT_.out (by kernel_rfl)) (fun _ _ _ h=>h) (Or.inl ⟨by rfl,?_⟩) ?_ ?_
           rotate_left;(intro w';go_simp;with_reducible rfl);rotate_left;(simp only [Act.put,List.setIfInBounds_toArray,List.set_cons_zero,List.set_cons_succ,i64_w,i32_w];rfl)
           refine pure_ (i:=9) (N:=some 5) (v:=?_) (a':=?_) (bitsA 11 1023) rfl rfl (any_of HT_.out (by kernel_rfl)) (fun _ _ _ h=>h) (Or.inl ⟨by rfl,?_⟩) ?_ ?_
           rotate_left;(intro w';go_simp;with_reducible rfl);rotate_left;(simp only [Act.put,List.setIfInBounds_toArray,List.set_cons_zero,List.set_cons_succ,i64_w,i32_w];rfl)
           refine pure_ (i:=10) (N:=some 6) (v:=?_) (a':=?_) (bitsA 11 2047) rfl rfl (any_of HT_.out (by kernel_rfl)) (fun _ _ _ h=>h) (Or.inl ⟨by rfl,?_⟩) ?_ ?_
           rotate_left;(intro w';go_simp;with_reducible rfl);rotate_left;(simp only [Act.put,List.setIfInBounds_toArray,List.set_cons_zero,List.set_cons_succ,i64_w,i32_w];rfl)
           refine done_ (done_of HT_.out (by kernel_rfl)) ?_
           have hcz48_0:w47.cell? ⟨gb102,0,none⟩=some (.string ((rd_T53 l0 x13_1).f0)):=(blk_cell BK102.out 0).trans rfl
           have hcz48_1:w47.cell? ⟨gb102,1,none⟩=some (.int .i64 ((rd_T53 l0 x13_1).f1)):=(blk_cell BK102.out 1).trans rfl
           have hcz48_2:w47.cell? ⟨gb102,2,none⟩=some (.int .i64 ((rd_T53 l0 x13_1).f2)):=(blk_cell BK102.out 2).trans rfl
           have hcz48_3:w47.cell? ⟨gb102,3,none⟩=some (.int .i64 ((rd_T53 l0 x13_1).f3)):=(blk_cell BK102.out 3).trans rfl
           have hcz48_4:w47.cell? ⟨gb102,4,none⟩=some (.int .i64 ((rd_T53 l0 x13_1).f4)):=(blk_cell BK102.out 4).trans rfl
           have hcz48_5:w47.cell? ⟨gb102,5,none⟩=some (.slice A101_5 ((rd_T53 l0 x13_1).f5).length c101_5):=(blk_cell BK102.out 5).trans rfl
           have hcz48_6:w47.cell? ⟨gb102,6,none⟩=some (.slice A101_6 ((rd_T53 l0 x13_1).f6).length c101_6):=(blk_cell BK102.out 6).trans rfl
           have hfz48_0:=blk_frozen BK102.out 0
           have hfz48_1:=blk_frozen BK102.out 1
           have hfz48_2:=blk_frozen BK102.out 2
           have hfz48_3:=blk_frozen BK102.out 3
           have hfz48_4:=blk_frozen BK102.out 4
           have hfz48_5:=blk_frozen BK102.out 5
           have hfz48_6:=blk_frozen BK102.out 6
           try go_wp2_with (first|((with_reducible refine gate_callee (f:=40) rfl ?_);refine goesL_ (some 33) rfl rfl Tryd.func40 (by kernel_rfl) rfl #[.agg #[.string ((rd_T53 l0 x13_1).f0),.int .i64 ((rd_T53 l0 x13_1).f1),.int .i64 ((rd_T53 l0 x13_1).f2),.int .i64 ((rd_T53 l0 x13_1).f3),.int .i64 ((rd_T53 l0 x13_1).f4),.slice A101_5 ((rd_T53 l0 x13_1).f5).length c101_5,.slice A101_6 ((rd_T53 l0 x13_1).f6).length c101_6]] rfl (by (try simp only [List.map_toArray,List.map_cons,List.map_nil]);first|done|rfl|(simp only [List.length_drop,List.length_take];rfl)) ?_;(with_reducible refine (product_sized.calls k1 ((rd_T53 l0 x13_1).f0) ((rd_T53 l0 x13_1).f1) ((rd_T53 l0 x13_1).f2) ((rd_T53 l0 x13_1).f3) ((rd_T53 l0 x13_1).f4) _ _ ((rd_T53 l0 x13_1).f5) _ _ ((rd_T53 l0 x13_1).f6) false _ ?side1 ?side2 ?side3 ?side4 A18.out).mono ?_);(case side1=>repeat (first|exact (Kd.C_below HR101_5.out HB.out)|(with_reducible refine Kd.C_alloc ?_ _)|(with_reducible refine Kd.C_drewN ?_ _)|(with_reducible refine Kd.C_drew ?_)));(case side2=>exact HC101_5.out);(case side3=>repeat (first|exact (Kd.C_below HR101_6.out HB.out)|(with_reducible refine Kd.C_alloc ?_ _)|(with_reducible refine Kd.C_drewN ?_ _)|(with_reducible refine Kd.C_drew ?_)));(case side4=>exact HC101_6.out);rintro e w49 ⟨rfl,hb⟩;refine ⟨_,rfl,?_⟩;have n0_:=Aside0.mk (blk_below (g:=gb102) (o:=.cells #[.string ((rd_T53 l0 x13_1).f0),.int .i64 ((rd_T53 l0 x13_1).f1),.int .i64 ((rd_T53 l0 x13_1).f2),.int .i64 ((rd_T53 l0 x13_1).f3),.int .i64 ((rd_T53 l0 x13_1).f4),.slice A101_5 ((rd_T53 l0 x13_1).f5).length c101_5,.slice A101_6 ((rd_T53 l0 x13_1).f6).length c101_6] 53 (0,0)) (by (with_reducible repeat (first|refine blk_drewN ?_ _|refine blk_drew ?_|refine blk_alloc ?_ _));exact BK102.out) hb);have n1_:=Aside0.mk (below_step (by repeat (first|(with_reducible first|exact HB.out|apply below_alloc|apply pw_below_drewN|apply below_drew1|refine below_set ?_ GE102.out)|exact HB.out)) hb);clear BK102;clear HB;have BK102:=n0_;have HB:=n1_;clear n0_ n1_;(try clear hb);(try clear hb2);(try clear hk);(try clear hi)))
           go_ret
           exact ⟨by first|rfl|(simp [errW_none,errW_some]<;>rfl)|(simp [*,errW_none,errW_some]<;>rfl),by repeat (first|(with_reducible first|exact HB.out|apply below_alloc|apply pw_below_drewN|apply below_drew1|refine below_set ?_ GE102.out)|exact HB.out)⟩
        ·rw [if_neg c9] at H
         exact absurd H (by simp)
       ·replace c7:=Bool.eq_false_iff.mpr c7
        subst c7
        have H1:(some 6)=some r:=by rw [if_neg (show ¬ (false=true) by decide)] at H;exact H
        clear H
        have H:=H1
        clear H1
        obtain rfl:=Option.some.inj H
        have p101:0≤(x13_1:Int):=of_decide_eq_true (by first|(with_reducible assumption)|assumption)
        have q101:x13_1 < (l0.length:Int):=of_decide_eq_true (by first|(with_reducible assumption)|assumption)
        obtain ⟨ad101,A101_5,c101_5,A101_6,c101_6,e101,hx101_0,hx101_1,hx101_2,hx101_3,hx101_4,hx101_5,hx101_6,hl101_5,hi101_5,hl101_6,hi101_6⟩:=at_T53 HR0.out x13_1 p101 q101
        cases e101
        replace hx101_0:=(HB.out.cell (World.block_lt_of_cell? w _ hx101_0)).trans hx101_0
        replace hx101_1:=(HB.out.cell (World.block_lt_of_cell? w _ hx101_1)).trans hx101_1
        replace hx101_2:=(HB.out.cell (World.block_lt_of_cell? w _ hx101_2)).trans hx101_2
        replace hx101_3:=(HB.out.cell (World.block_lt_of_cell? w _ hx101_3)).trans hx101_3
        replace hx101_4:=(HB.out.cell (World.block_lt_of_cell? w _ hx101_4)).trans hx101_4
        replace hx101_5:=(HB.out.cell (World.block_lt_of_cell? w _ hx101_5)).trans hx101_5
        replace hx101_6:=(HB.out.cell (World.block_lt_of_cell? w _ hx101_6)).trans hx101_6
        have HR101_5:=Aside0.mk hi101_5
        have HC101_5:=Aside0.mk hl101_5
        clear hi101_5 hl101_5
        have HR101_6:=Aside0.mk hi101_6
        have HC101_6:=Aside0.mk hl101_6
        clear hi101_6 hl101_6
        replace p101:=eq_true p101
        replace q101:=eq_true q101
        go_wp2_with (first|((with_reducible refine gate_dst (N:=4) rfl ?_);refine box_event ?hg (N:=4) ?hd (cs:=#[.string (⟨#[]⟩:ByteArray),.int .i64 0,.int .i64 0,.int .i64 0,.int .i64 0,.slice none 0 0,.slice none 0 0]) (t:=53) ?hr ?_;(case hd=>rfl);(case hg=>rfl);(case hr=>first|(go_simp;done)|(go_simp;rfl));intro gb102 hg w50 hbox hb;have n0_:=Aside0.mk (below_step (by repeat (first|(with_reducible first|exact HB.out|apply below_alloc|apply pw_below_drewN|apply below_drew1)|exact HB.out)) hb);have n1_:=Aside0.mk (hbox);have n2_:=Aside0.mk ((by rw [hg];exact (below_size (by repeat (first|(with_reducible first|exact HB.out|apply below_alloc|apply pw_below_drewN|apply below_drew1)|exact HB.out))):w.heap.size≤gb102));have n3_:=Aside0.mk ((by rw [hg];exact (below_size (by repeat (first|(with_reducible first|exact HB.out|apply below_alloc|apply pw_below_drewN|apply below_drew1)|exact HB.out))):w.heap.size≤gb102));clear HB;have HB:=n0_;have BK102:=n1_;have GW102:=n2_;have GE102:=n3_;clear n0_ n1_ n2_ n3_;clear hb hbox hg;have hcz51_0:w50.cell? ⟨gb102,0,none⟩=some (.string (⟨#[]⟩:ByteArray)):=(blk_cell BK102.out 0).trans rfl;have hcz51_1:w50.cell? ⟨gb102,1,none⟩=some (.int .i64 0):=(blk_cell BK102.out 1).trans rfl;have hcz51_2:w50.cell? ⟨gb102,2,none⟩=some (.int .i64 0):=(blk_cell BK102.out 2).trans rfl;have hcz51_3:w50.cell? ⟨gb102,3,none⟩=some (.int .i64 0):=(blk_cell BK102.out 3).trans rfl;have hcz51_4:w50.cell? ⟨gb102,4,none⟩=some (.int .i64 0):=(blk_cell BK102.out 4).trans rfl;have hcz51_5:w50.cell? ⟨gb102,5,none⟩=some (.slice none 0 0):=(blk_cell BK102.out 5).trans rfl;have hcz51_6:w50.cell? ⟨gb102,6,none⟩=some (.slice none 0 0):=(blk_cell BK102.out 6).trans rfl;have hfz51_0:=blk_frozen BK102.out 0;have hfz51_1:=blk_frozen BK102.out 1;have hfz51_2:=blk_frozen BK102.out 2;have hfz51_3:=blk_frozen BK102.out 3;have hfz51_4:=blk_frozen BK102.out 4;have hfz51_5:=blk_frozen BK102.out 5;have hfz51_6:=blk_frozen BK102.out 6)|((with_reducible refine gate_callee (f:=38) rfl ?_);refine goesL_ (some 20) rfl rfl Tryd.func38 (by kernel_rfl) rfl #[.string ((rd_T53 l0 x13_1).f0)] rfl (by (try simp only [List.map_toArray,List.map_cons,List.map_nil]);first|done|rfl|(simp only [List.length_drop,List.length_take];rfl)) ?_;(with_reducible refine (ident_IsName.calls k1 ((rd_T53 l0 x13_1).f0) false _ A6.out).mono ?_);rintro e w' ⟨rfl,⟨nd,rfl⟩⟩;refine ⟨_,rfl,?_⟩))
        go_ret
        exact ⟨by first|rfl|(simp [errW_none,errW_some]<;>rfl)|(simp [*,errW_none,errW_some]<;>rfl),by repeat (first|(with_reducible first|exact HB.out|apply below_alloc|apply pw_below_drewN|apply below_drew1|refine below_set ?_ GE102.out)|exact HB.out)⟩
      ·rw [if_neg c5] at H
       exact absurd H (by simp)
     ·rw [if_neg c4] at H
      exact absurd H (by simp)
    ·rw [if_neg c3] at H
     have c3b0:decide (x13_1 < (l0.length:Int))=false:=decide_eq_false c3
     clear c3
     obtain rfl:=Option.some.inj H
     go_wp2
     go_ret
     exact ⟨by first|rfl|(simp [errW_none,errW_some]<;>rfl)|(simp [*,errW_none,errW_some]<;>rfl),by repeat (first|(with_reducible first|exact HB.out|apply below_alloc|apply pw_below_drewN|apply below_drew1)|exact HB.out)⟩
end Go.Proofs.YtojkjhaobjidlaaDoor.P
