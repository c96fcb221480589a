/-
  The walks of the functions that the statements of this chapter reach, each told as a plain function; no conditions.
-/
import Derived.Test.YtehdmplngmbnnaaDoorProg
import Derived.Below
import Derived.Deep.Draws
import Derived.Deep.AppendLies
import Derived.Maps.AppendAt
import Derived.OwnWalk
import Derived.Laws.BytesArg
import Derived.Laws.MakeOwn
import Derived.Laws.OwnMore
import Derived.Deep.OwnRows
import Derived.Tactics
import Derived.Lib.ConvBytes
import Derived.Laws.Slices
import Derived.WalkKit
import Derived.KernelRfl
import Derived.RowKit3
import Derived.Deep.LoopGhost
import Derived.Deep.QuietTactic
import Derived.BigQuiet
import Derived.WideLaws
import Derived.Deep.DeepCutAuto
import Derived.Deep.CutBlock
import Derived.Deep.RegionHeld3
import Derived.Laws.Rows
import Derived.Lib.AppendStr
import Derived.ArgAppend
import Derived.Laws.IdiomCopy
import Derived.OrdersHeld
import Derived.Laws.BitsLemmas
import Derived.RowKit
import Derived.Test.YtehdmplngmbnnaaDoorMb1
import Derived.Shelf.Strconv.Itoa0
import Derived.Shelf.Strconv.Itoa1
import Derived.Shelf.LaysM
import Derived.Shelf.Strconv.Itoa2
import Derived.Shelf.Strconv.Itoa3
import Derived.Lib.LaidTab
import Derived.WalkSmall
import Derived.Lib.Hide
import Derived.Laws.Strings
namespace Go.Proofs.YtehdmplngmbnnaaDoor.P
open Go.RowKit Go.Proofs.YtehdmplngmbnnaaDoorW.PrintWords Go.Proofs.YtehdmplngmbnnaaDoorW.PrintLast Go.Proofs.YtehdmplngmbnnaaDoorW.PrintMore
def bitsA (n m:Nat):Array Bool:=((List.range n).map m.testBit).toArray
attribute [local go_sem] qbV qbW qcC qcD qbQ qbR qbX qbY
set_option linter.unusedVariables false
set_option linter.unusedSimpArgs false
def errW:Option Int→Value
 | none=>.nilIface
 | some c=>.iface 0 (.int .i64 c)
theorem qaL:errW none=.nilIface:=rfl
theorem qaM (c:Int):errW (some c)=.iface 0 (.int .i64 c):=rfl
theorem info24:(Tryd.prog.info? 24).map (fun i=>(i.zero,i.size,i.bytes))=some (some (.agg #[(.string ⟨#[]⟩),(.int .i64 0),(.slice none 0 0)]),3,48):=by kernel_rfl
theorem info52:(Tryd.prog.info? 52).map (fun i=>(i.zero,i.size,i.bytes))=some (some (.agg #[(.int .i64 0),(.int .i64 0),(.int .i64 0),(.int .i64 0)]),4,32):=by kernel_rfl
theorem info68:(Tryd.prog.info? 68).map (fun i=>(i.zero,i.size,i.bytes))=some (some (.agg #[(.int .i64 0),(.string ⟨#[]⟩),(.int .i64 0),(.int .i64 0)]),4,40):=by kernel_rfl
structure S52 where
 f0:Int
 f1:Int
 f2:Int
 f3:Int
def z52:S52:=⟨(0:Int),(0:Int),(0:Int),(0:Int)⟩
def k52:Kd S52:=Kd.iso (Kd.pair (Kd.int .i64) (Kd.pair (Kd.int .i64) (Kd.pair (Kd.int .i64) (Kd.int .i64)))) (fun x:S52=>(x.f0,x.f1,x.f2,x.f3))
theorem k52_heap:Kd.Heap k52:=Kd.heap_iso _ (Kd.heap_pair (Kd.heap_int .i64) (Kd.heap_pair (Kd.heap_int .i64) (Kd.heap_pair (Kd.heap_int .i64) (Kd.heap_int .i64))))
theorem k52_open {w:World} {x:S52} {cs:List Value} (h:k52.K w x cs):cs=[.int .i64 x.f0,.int .i64 x.f1,.int .i64 x.f2,.int .i64 x.f3]:=by
 obtain ⟨_,_,rfl,rfl,⟨_,_,rfl,rfl,⟨_,_,rfl,rfl,rfl⟩⟩⟩:=h
 exact rfl
theorem k52_mkM (w:World) (base:Nat) (ok:Nat→Prop) (x:S52) :k52.M w base ok x [.int .i64 x.f0,.int .i64 x.f1,.int .i64 x.f2,.int .i64 x.f3]:=⟨[.int .i64 x.f0],[.int .i64 x.f1,.int .i64 x.f2,.int .i64 x.f3],rfl,rfl,⟨[.int .i64 x.f1],[.int .i64 x.f2,.int .i64 x.f3],rfl,rfl,⟨[.int .i64 x.f2],[.int .i64 x.f3],rfl,rfl,rfl⟩⟩⟩
def qbJ (xs:List S52) (i:Int):S52:=xs.getD i.toNat z52
theorem at_T52 {w:World} {A:Option Addr} {n:Nat} {xs:List S52} (h:Kd.C k52 w A n xs) (i:Int) (h0:0≤i) (h1:i < n):∃ ad ,A=some ad∧w.cell? (ad.add (i.toNat * 4))=some (.int .i64 (qbJ xs i).f0)∧w.cell? ⟨(ad.add (i.toNat * 4)).block,(ad.add (i.toNat * 4)).off+1,none⟩=some (.int .i64 (qbJ xs i).f1)∧w.cell? ⟨(ad.add (i.toNat * 4)).block,(ad.add (i.toNat * 4)).off+2,none⟩=some (.int .i64 (qbJ xs i).f2)∧w.cell? ⟨(ad.add (i.toNat * 4)).block,(ad.add (i.toNat * 4)).off+3,none⟩=some (.int .i64 (qbJ xs i).f3):=by
 obtain ⟨ad,c,e,_,hK,hc0⟩:=Kd.C_get h z52 i h0 h1
 have hc:∀ j u,c[j]?=some u→w.cell? (ad.add (i.toNat * 4+j))=some u:=hc0
 obtain rfl:=k52_open hK
 exact ⟨ad,e,hc 0 _ rfl,by rw [← add_field _ _ 1 (by omega)];exact hc 1 _ rfl,by rw [← add_field _ _ 2 (by omega)];exact hc 2 _ rfl,by rw [← add_field _ _ 3 (by omega)];exact hc 3 _ rfl⟩
structure S24 where
 f0:ByteArray
 f1:Int
 f2:(List S52)
def z24:S24:=⟨(⟨#[]⟩:ByteArray),(0:Int),([]:List S52)⟩
def k24:Kd S24:=Kd.iso (Kd.pair Kd.string (Kd.pair (Kd.int .i64) (Kd.slice 52 k52))) (fun x:S24=>(x.f0,x.f1,x.f2))
theorem k24_heap:Kd.Heap k24:=Kd.heap_iso _ (Kd.heap_pair Kd.heap_string (Kd.heap_pair (Kd.heap_int .i64) (Kd.heap_slice 52 k52_heap)))
theorem k24_open {w:World} {x:S24} {cs:List Value} (h:k24.K w x cs):∃ A2 c2,cs=[.string x.f0,.int .i64 x.f1,.slice A2 x.f2.length c2]∧x.f2.length≤c2∧k52.C w A2 x.f2.length x.f2:=by
 obtain ⟨_,_,rfl,rfl,⟨_,_,rfl,rfl,⟨A2,c2,rfl,l2,g2⟩⟩⟩:=h
 exact ⟨A2,c2,rfl,l2,g2⟩
theorem k24_openM {w:World} {base:Nat} {ok:Nat→Prop} {x:S24} {cs:List Value} (h:k24.M w base ok x cs):∃ v2,cs=[.string x.f0,.int .i64 x.f1,v2]∧k52.R 52 w base ok v2 x.f2:=by
 obtain ⟨_,_,rfl,rfl,⟨_,_,rfl,rfl,⟨v2,rfl,g2⟩⟩⟩:=h
 exact ⟨v2,rfl,g2⟩
theorem k24_mkM (w:World) (base:Nat) (ok:Nat→Prop) (x:S24) {v2:Value} (g2:k52.R 52 w base ok v2 x.f2):k24.M w base ok x [.string x.f0,.int .i64 x.f1,v2]:=⟨[.string x.f0],[.int .i64 x.f1,v2],rfl,rfl,⟨[.int .i64 x.f1],[v2],rfl,rfl,⟨v2,rfl,g2⟩⟩⟩
theorem k24_openF {W:World} {ok:Nat→Prop} {x:S24} {cs:List Value} (h:Kd.FK k24 W ok x cs):∃ A2 c2,cs=[.string x.f0,.int .i64 x.f1,.slice A2 x.f2.length c2]∧x.f2.length≤c2∧Kd.F k52 W ok A2 x.f2.length x.f2:=by
 obtain ⟨A2,c2,rfl,l2,_⟩:=k24_open (Kd.FK_now h)
 exact ⟨A2,c2,rfl,l2,(fun W' hW=>by obtain ⟨A2_,c2_,he,l2_,g2_⟩:=k24_open (h W' hW);injection (Option.some.inj (show some (Value.slice A2 x.f2.length c2)=some (Value.slice A2_ x.f2.length c2_) from congrArg (fun l=>l[2]?) he)) with ha_ _ _;rw [ha_];exact g2_)⟩
def qaP (xs:List S24) (i:Int):S24:=xs.getD i.toNat z24
theorem at_T24 {w:World} {A:Option Addr} {n:Nat} {xs:List S24} (h:Kd.C k24 w A n xs) (i:Int) (h0:0≤i) (h1:i < n):∃ ad A2 c2,A=some ad∧w.cell? (ad.add (i.toNat * 3))=some (.string (qaP xs i).f0)∧w.cell? ⟨(ad.add (i.toNat * 3)).block,(ad.add (i.toNat * 3)).off+1,none⟩=some (.int .i64 (qaP xs i).f1)∧w.cell? ⟨(ad.add (i.toNat * 3)).block,(ad.add (i.toNat * 3)).off+2,none⟩=some (.slice A2 (qaP xs i).f2.length c2)∧(qaP xs i).f2.length≤c2∧k52.C w A2 (qaP xs i).f2.length (qaP xs i).f2:=by
 obtain ⟨ad,c,e,_,hK,hc0⟩:=Kd.C_get h z24 i h0 h1
 have hc:∀ j u,c[j]?=some u→w.cell? (ad.add (i.toNat * 3+j))=some u:=hc0
 obtain ⟨A2,c2,rfl,l2,g2⟩:=k24_open hK
 exact ⟨ad,A2,c2,e,hc 0 _ rfl,by rw [← add_field _ _ 1 (by omega)];exact hc 1 _ rfl,by rw [← add_field _ _ 2 (by omega)];exact hc 2 _ rfl,l2,g2⟩
structure S68 where
 f0:Int
 f1:ByteArray
 f2:Int
 f3:Int
def z68:S68:=⟨(0:Int),(⟨#[]⟩:ByteArray),(0:Int),(0:Int)⟩
def k68:Kd S68:=Kd.iso (Kd.pair (Kd.int .i64) (Kd.pair Kd.string (Kd.pair (Kd.int .i64) (Kd.int .i64)))) (fun x:S68=>(x.f0,x.f1,x.f2,x.f3))
theorem k68_open {w:World} {x:S68} {cs:List Value} (h:k68.K w x cs):cs=[.int .i64 x.f0,.string x.f1,.int .i64 x.f2,.int .i64 x.f3]:=by
 obtain ⟨_,_,rfl,rfl,⟨_,_,rfl,rfl,⟨_,_,rfl,rfl,rfl⟩⟩⟩:=h
 exact rfl
theorem k68_mkM (w:World) (base:Nat) (ok:Nat→Prop) (x:S68) :k68.M w base ok x [.int .i64 x.f0,.string x.f1,.int .i64 x.f2,.int .i64 x.f3]:=⟨[.int .i64 x.f0],[.string x.f1,.int .i64 x.f2,.int .i64 x.f3],rfl,rfl,⟨[.string x.f1],[.int .i64 x.f2,.int .i64 x.f3],rfl,rfl,⟨[.int .i64 x.f2],[.int .i64 x.f3],rfl,rfl,rfl⟩⟩⟩
def qaZ (xs:List S68) (i:Int):S68:=xs.getD i.toNat z68
theorem at_T68 {w:World} {A:Option Addr} {n:Nat} {xs:List S68} (h:Kd.C k68 w A n xs) (i:Int) (h0:0≤i) (h1:i < n):∃ ad ,A=some ad∧w.cell? (ad.add (i.toNat * 4))=some (.int .i64 (qaZ xs i).f0)∧w.cell? ⟨(ad.add (i.toNat * 4)).block,(ad.add (i.toNat * 4)).off+1,none⟩=some (.string (qaZ xs i).f1)∧w.cell? ⟨(ad.add (i.toNat * 4)).block,(ad.add (i.toNat * 4)).off+2,none⟩=some (.int .i64 (qaZ xs i).f2)∧w.cell? ⟨(ad.add (i.toNat * 4)).block,(ad.add (i.toNat * 4)).off+3,none⟩=some (.int .i64 (qaZ xs i).f3):=by
 obtain ⟨ad,c,e,_,hK,hc0⟩:=Kd.C_get h z68 i h0 h1
 have hc:∀ j u,c[j]?=some u→w.cell? (ad.add (i.toNat * 4+j))=some u:=hc0
 obtain rfl:=k68_open hK
 exact ⟨ad,e,hc 0 _ rfl,by rw [← add_field _ _ 1 (by omega)];exact hc 1 _ rfl,by rw [← add_field _ _ 2 (by omega)];exact hc 2 _ rfl,by rw [← add_field _ _ 3 (by omega)];exact hc 3 _ rfl⟩
def restOf:Nat→Option Code→Option Code
 | 0,x=>x
 | n+1,some (.seq _ b)=>restOf n (some b)
 | _,_=>none
theorem rest_intro {n:Nat} {b:Option Code} {c0:Code} {X:Code→Prop} (hb:restOf n b=some c0) (h:X c0):∀ c,restOf n b=some c→X c:=by
 intro c hc
 rw [hb] at hc
 cases hc
 exact h
theorem qbL (w:World) (a:Addr) (u v:Value) (h:(w.cell? a).isSome=true):((w.setCell a u).setCell a v).cell? a=some v:=by
 obtain ⟨x,hx⟩:=Option.isSome_iff_exists.1 h
 exact World.cell?_setCell_same _ _ _ (World.cell?_setCell_same _ _ _ hx)
end Go.Proofs.YtehdmplngmbnnaaDoor.P
namespace Go.Proofs
open Go.Shelf
def Tryd.laysM171_ren:Go.Shelf.Ren:=⟨fun|171=>35|243=>50|246=>67|283=>70|284=>71|285=>72|286=>73|129=>75|317=>74|318=>76|319=>77|320=>78|337=>79|338=>80|n=>n,fun|3=>3|9=>9|2=>2|4=>4|171=>99|0=>0|53=>100|37=>81|5=>5|173=>103|212=>107|51=>108|20=>20|213=>109|46=>111|232=>114|233=>115|n=>n,fun|17=>2|18=>3|19=>4|n=>n⟩
theorem Tryd.laysM171:Go.Proofs.LaysM.n171 Tryd.prog Tryd.laysM171_ren:={
 mixed:=by kernel_rfl
 f129:=Tryd.func75.trans (congrArg some (by kernel_rfl))
 f171:=Tryd.func35.trans (congrArg some (by kernel_rfl))
 f243:=Tryd.func50.trans (congrArg some (by kernel_rfl))
 f246:=Tryd.func67.trans (congrArg some (by kernel_rfl))
 f283:=Tryd.func70.trans (congrArg some (by kernel_rfl))
 f284:=Tryd.func71.trans (congrArg some (by kernel_rfl))
 f285:=Tryd.func72.trans (congrArg some (by kernel_rfl))
 f286:=Tryd.func73.trans (congrArg some (by kernel_rfl))
 f317:=Tryd.func74.trans (congrArg some (by kernel_rfl))
 f318:=Tryd.func76.trans (congrArg some (by kernel_rfl))
 f319:=Tryd.func77.trans (congrArg some (by kernel_rfl))
 f320:=Tryd.func78.trans (congrArg some (by kernel_rfl))
 f337:=Tryd.func79.trans (congrArg some (by kernel_rfl))
 f338:=Tryd.func80.trans (congrArg some (by kernel_rfl))
 t0:=Tryd.underlying0
 a0:=Tryd.isAgg0
 z0:=Tryd.sizeOf0
 v0:=Tryd.zeroValue0
 t2:=Tryd.underlying2
 a2:=Tryd.isAgg2
 z2:=Tryd.sizeOf2
 v2:=Tryd.zeroValue2
 t3:=Tryd.underlying3
 a3:=Tryd.isAgg3
 z3:=Tryd.sizeOf3
 v3:=Tryd.zeroValue3
 t4:=Tryd.underlying4
 a4:=Tryd.isAgg4
 z4:=Tryd.sizeOf4
 v4:=Tryd.zeroValue4
 t5:=Tryd.underlying5
 a5:=Tryd.isAgg5
 z5:=Tryd.sizeOf5
 v5:=Tryd.zeroValue5
 t9:=Tryd.underlying9
 a9:=Tryd.isAgg9
 z9:=Tryd.sizeOf9
 v9:=Tryd.zeroValue9
 t20:=Tryd.underlying20
 a20:=Tryd.isAgg20
 z20:=Tryd.sizeOf20
 v20:=Tryd.zeroValue20
 t37:=Tryd.underlying81
 a37:=Tryd.isAgg81
 z37:=Tryd.sizeOf81
 v37:=Tryd.zeroValue81
 t46:=Tryd.underlying111
 a46:=Tryd.isAgg111
 z46:=Tryd.sizeOf111
 v46:=Tryd.zeroValue111
 t51:=Tryd.underlying108
 a51:=Tryd.isAgg108
 z51:=Tryd.sizeOf108
 v51:=Tryd.zeroValue108
 t53:=Tryd.underlying100
 a53:=Tryd.isAgg100
 z53:=Tryd.sizeOf100
 v53:=Tryd.zeroValue100
 t171:=Tryd.underlying99
 a171:=Tryd.isAgg99
 z171:=Tryd.sizeOf99
 v171:=Tryd.zeroValue99
 t173:=Tryd.underlying103
 a173:=Tryd.isAgg103
 z173:=Tryd.sizeOf103
 v173:=Tryd.zeroValue103
 t212:=Tryd.underlying107
 a212:=Tryd.isAgg107
 z212:=Tryd.sizeOf107
 v212:=Tryd.zeroValue107
 t213:=Tryd.underlying109
 a213:=Tryd.isAgg109
 z213:=Tryd.sizeOf109
 t232:=Tryd.underlying114
 a232:=Tryd.isAgg114
 z232:=Tryd.sizeOf114
 v232:=Tryd.zeroValue114
 t233:=Tryd.underlying115
 a233:=Tryd.isAgg115
 z233:=Tryd.sizeOf115
 v233:=Tryd.zeroValue115
 g17:=by kernel_rfl
 g18:=by kernel_rfl
 g19:=by kernel_rfl
 i0:=by kernel_rfl
 i2:=by kernel_rfl
 i3:=by kernel_rfl
 i4:=by kernel_rfl
 i5:=by kernel_rfl
 i9:=by kernel_rfl
 i20:=by kernel_rfl
 i37:=by kernel_rfl
 i46:=by kernel_rfl
 i51:=by kernel_rfl
 i53:=by kernel_rfl
 i171:=by kernel_rfl
 i173:=by kernel_rfl
 i212:=by kernel_rfl
 i232:=by kernel_rfl
 i233:=by kernel_rfl
 m17:=by kernel_rfl
 m18:=by kernel_rfl
 m19:=by kernel_rfl }
open Go.RowKit Go.Sort Go.Lib in
theorem Tryd.strconv_Itoa (n : Int) (h0 : -9223372036854775808 ≤ n) (h1 : n ≤ 9223372036854775807) (w : World) (htab : Lib.TabIs Tryd.prog w "internal/strconv.uint64pow10" .u64 Lib.pow10Tab) :
  Calls Tryd.prog 35 #[.int .i64 n] w fun e w'=>e=.returned (.string ⟨(Lib.itoa n).toArray⟩)∧∃ k os,w'=grow (w.drewN k) os:=Any.strconv_Itoa Tryd.laysM171 n h0 h1 w htab
end Go.Proofs
namespace Go.Proofs.YtehdmplngmbnnaaDoor.P
open Go.RowKit Go.Proofs.YtehdmplngmbnnaaDoorW.PrintWords Go.Proofs.YtehdmplngmbnnaaDoorW.PrintLast
set_option linter.unusedVariables false
set_option linter.unusedSimpArgs false
structure Glob (w:World):Prop where
 tab : Lib.TabIs Tryd.prog w "internal/strconv.uint64pow10" .u64 Lib.pow10Tab
 lim : w.var? Tryd.prog "sawmill/schedule.limits" = some #[.int .i64 0, .int .i64 20000, .int .i64 0, .int .i64 10000, .int .i64 200, .int .i64 1200, .int .i64 0, .int .i64 400]
 wds : w.var? Tryd.prog "sawmill/schedule.words" = some #[.string ⟨#[98, 101, 108, 111, 119]⟩, .string ⟨#[102, 111, 114]⟩, .string ⟨#[97, 116]⟩]
theorem gLim : Tryd.prog.globalNamed "sawmill/schedule.limits" = some 0 := by kernel_rfl
theorem gWds : Tryd.prog.globalNamed "sawmill/schedule.words" = some 1 := by kernel_rfl
theorem gTab : Tryd.prog.globalNamed "internal/strconv.uint64pow10" = some 2 := by kernel_rfl
theorem var_lt {w:World} {s:String} {g:Nat} {cs:Array Value} (hg:Tryd.prog.globalNamed s=some g) (hv:w.var? Tryd.prog s=some cs):g < w.heap.size:=by
 unfold World.var? at hv
 simp only [hg,Option.bind_some] at hv
 rcases Nat.lt_or_ge g w.heap.size with h|h
 ·exact h
 ·rw [Array.getElem?_eq_none h] at hv
  cases hv
theorem Glob.below {w w1:World} (h:Glob w) (hb:Below w.heap.size w w1):Glob w1 :=
 ⟨var?_below hb gTab (var_lt gTab h.tab) h.tab,var?_below hb gLim (var_lt gLim h.lim) h.lim,var?_below hb gWds (var_lt gWds h.wds) h.wds⟩
theorem glob_at {w w1:World} (h:Aside0 (Glob w)) (hb:Below w.heap.size w w1):Aside0 (Glob w1):=⟨h.out.below hb⟩
def strconv_Itoa.f (a0:Int):Option ByteArray:=if -9223372036854775808≤a0 then (if a0≤9223372036854775807 then some ⟨(Lib.itoa a0).toArray⟩ else none) else none
theorem below_grow (w:World) (k:Nat) (os:Array Obj):Below w.heap.size w (Go.Sort.grow (w.drewN k) os):=by
 refine ⟨rfl,rfl,rfl,?_,fun i hi=>?_⟩
 ·show w.heap.size≤(w.heap++os).size
  simp
 ·show (w.heap++os)[i]?=w.heap[i]?
  exact Array.getElem?_append_left hi
theorem strconv_Itoa.calls (a0:Int) (r:ByteArray) (w:World) (h:strconv_Itoa.f a0=some r) (HG_:Aside0 (Glob w)) :
  Calls Tryd.prog 35 #[.int .i64 a0] w fun e w'=>e=.returned (.string r)∧Below w.heap.size w w':=by
 unfold strconv_Itoa.f at h
 split at h
 ·split at h
  ·rename_i h0 h1
   obtain rfl:=Option.some.inj h
   refine (Tryd.strconv_Itoa a0 h0 h1 w HG_.out.tab).mono ?_
   rintro e w' ⟨rfl,k,os,rfl⟩
   exact ⟨rfl,below_grow w k os⟩
  ·cases h
 ·cases h
end Go.Proofs.YtehdmplngmbnnaaDoor.P
namespace Go.Proofs.YtehdmplngmbnnaaDoor.P
open Go.RowKit Go.Proofs.YtehdmplngmbnnaaDoorW.PrintWords Go.Proofs.YtehdmplngmbnnaaDoorW.PrintLast Go.Proofs.YtehdmplngmbnnaaDoorW.PrintMore
attribute [local go_sem] qbV qbW qcC qcD qbQ qbR qbX qbY
attribute [local go_sem] qbL
set_option linter.unusedVariables false
set_option linter.unusedSimpArgs false
def qaJ (w0 W:World) (g:Nat) (f0:List (S68)) (f1:Bool):Prop:=∃ A0 c0,W.heap[g]?=some (.cells #[.slice A0 f0.length c0,.bool f1] 65 (0,0))∧w0.heap.size≤g∧(Kd.C k68 w0 A0 f0.length f0∧f0.length≤c0)
theorem qaJ.grown {w0 W:World} {g:Nat} {f0:List (S68)} {f1:Bool} {W1:World} {row:Option Nat} (h:qaJ w0 W g f0 f1) (hw:W.grownBy W1 row) (hne:some g ≠ row):qaJ w0 W1 g f0 f1:=by
 obtain ⟨A0,c0,hb,hg,hr0⟩:=h
 exact ⟨A0,c0,blk_grown hb hw hne,hg,hr0⟩
theorem qaJ.kept {w0 W:World} {g:Nat} {f0:List (S68)} {f1:Bool} {W1:World} {S:Nat→Prop} (h:qaJ w0 W g f0 f1) (hk:Kept W W1 S) (hne:¬ S g):qaJ w0 W1 g f0 f1:=by
 obtain ⟨A0,c0,hb,hg,hr0⟩:=h
 exact ⟨A0,c0,blk_kept hb hk hne,hg,hr0⟩
theorem qaJ.below {w0 W:World} {g:Nat} {f0:List (S68)} {f1:Bool} {W1:World} (h:qaJ w0 W g f0 f1) (hw:Below W.heap.size W W1):qaJ w0 W1 g f0 f1:=h.grown (grown_of_below hw none) (by simp)
theorem qaJ.alloc {w0 W:World} {g:Nat} {f0:List (S68)} {f1:Bool} (h:qaJ w0 W g f0 f1) (o:Obj):qaJ w0 (W.alloc o) g f0 f1:=h.below (qaB (Below.refl _ _) o)
theorem qaJ.drewN {w0 W:World} {g:Nat} {f0:List (S68)} {f1:Bool} (h:qaJ w0 W g f0 f1) (m:Nat):qaJ w0 (W.drewN m) g f0 f1:=h
theorem qaJ.drew {w0 W:World} {g:Nat} {f0:List (S68)} {f1:Bool} (h:qaJ w0 W g f0 f1):qaJ w0 W.drew g f0 f1:=h
theorem qaJ.at_ {w0 W:World} {g:Nat} {f0:List (S68)} {f1:Bool} {w':World} {m:Nat} (hq:W.drewN m=w') (h:qaJ w0 W g f0 f1):qaJ w0 w' g f0 f1:=by subst hq;exact qaJ.drewN h m
theorem qaJ.apart {w0 W:World} {g:Nat} {f0:List (S68)} {f1:Bool} {α:Type} {d:Kd α} {e:Nat} {base:Nat} {ok:Nat→Prop} {v:Value} {xs:List α} (h:qaJ w0 W g f0 f1) (ho:d.R e W base ok v xs) (ht:∀ q,q ∈ e :: d.E→q ≠ 65):d.R e W base (fun k=>ok k∧k ≠ g) v xs:=by
 obtain ⟨A0,c0,hb,hg,hr0⟩:=h
 exact Kd.R_types ho hb ht
theorem qaJ.own_ne {w0 W:World} {g:Nat} {f0:List (S68)} {f1:Bool} {α:Type} {d:Kd α} {e:Nat} {base:Nat} {ok:Nat→Prop} {v:Value} {xs:List α} (h:qaJ w0 W g f0 f1) (ho:d.R e W base ok v xs) (ht:e ≠ 65):some g ≠ v.ownBlock:=by
 obtain ⟨A0,c0,hb,hg,hr0⟩:=h
 exact Kd.R_ne ho hb ht
theorem qaJ.apartS {w0 W:World} {g:Nat} {f0:List (S68)} {f1:Bool} {α:Type} {d:Kd α} {e:Nat} {base:Nat} {ok:Nat→Prop} {v:Value} {xs:List α} (h:qaJ w0 W g f0 f1) (ho:d.S e W base ok v xs) (ht:∀ q,q ∈ e :: d.E→q ≠ 65):d.S e W base (fun k=>ok k∧k ≠ g) v xs:=by
 obtain ⟨A0,c0,hb,hg,hr0⟩:=h
 exact Kd.S_types ho hb ht
theorem qaJ.own_neS {w0 W:World} {g:Nat} {f0:List (S68)} {f1:Bool} {α:Type} {d:Kd α} {e:Nat} {base:Nat} {ok:Nat→Prop} {v:Value} {xs:List α} (h:qaJ w0 W g f0 f1) (ho:d.S e W base ok v xs) (ht:e ≠ 65):some g ≠ v.ownBlock:=by
 obtain ⟨A0,c0,hb,hg,hr0⟩:=h
 exact Kd.S_ne ho hb ht
theorem qaJ.lt {w0 W:World} {g:Nat} {f0:List (S68)} {f1:Bool} (h:qaJ w0 W g f0 f1):g < W.heap.size:=by
 obtain ⟨A0,c0,hb,hg,hr0⟩:=h
 exact qbF hb
theorem qaJ.ge {w0 W:World} {g:Nat} {f0:List (S68)} {f1:Bool} (h:qaJ w0 W g f0 f1):w0.heap.size≤g:=by
 obtain ⟨A0,c0,hb,hg,hr0⟩:=h
 exact hg
theorem qaJ.far {w0 W:World} {g:Nat} {f0:List (S68)} {f1:Bool} {p:Addr} (h:qaJ w0 W g f0 f1) (hne:g ≠ p.block) (u:Value):qaJ w0 (W.setCell p u) g f0 f1:=by
 obtain ⟨A0,c0,hb,hg,hr0⟩:=h
 exact ⟨A0,c0,qbI hb hne u,hg,hr0⟩
theorem cellS65_0 {W:World} {g:Nat} {A0:Option Addr} {c0:Nat} {f0:List (S68)} {f1:Bool} (h:W.heap[g]?=some (.cells #[.slice A0 f0.length c0,.bool f1] 65 (0,0))):W.cell? ⟨g,0,none⟩=some (.slice A0 f0.length c0):=(qaE h 0).trans rfl
theorem cellS65_1 {W:World} {g:Nat} {A0:Option Addr} {c0:Nat} {f0:List (S68)} {f1:Bool} (h:W.heap[g]?=some (.cells #[.slice A0 f0.length c0,.bool f1] 65 (0,0))):W.cell? ⟨g,1,none⟩=some (.bool f1):=(qaE h 1).trans rfl
theorem qaJ.set_1 {w0 W:World} {g:Nat} {f0:List (S68)} {f1:Bool} (h:qaJ w0 W g f0 f1) (x:Bool):qaJ w0 (W.setCell ⟨g,1,none⟩ (.bool x)) g f0 x:=by
 obtain ⟨A0,c0,hb,hg,hr0⟩:=h
 exact ⟨A0,c0,by simpa using blk_set hb 1 (.bool x),hg,hr0⟩
theorem qaJ.new (w0 W:World) (A0:Option Addr) (c0:Nat) (f0:List (S68)) (f1:Bool) (hB:Below w0.heap.size w0 W) (hr0:Kd.C k68 w0 A0 f0.length f0∧f0.length≤c0):qaJ w0 (W.alloc (.cells #[.slice A0 f0.length c0,.bool f1] 65)) W.heap.size f0 f1:=⟨A0,c0,by simpa using heap_alloc_new W _,hB.size,hr0⟩
def schedule_reader_is.f (s0_0:List (S68)) (s0_1:Bool) (a1:Int) (a2:ByteArray):Option (Bool × (List (S68)) × Bool):=if s0_1=true then (some (false,s0_0,s0_1)) else (if 0 < (s0_0.length:Int) then (if ((qaZ s0_0 0).f0)=a1 then (if a2.toList=([]:List UInt8) then (some (true,s0_0,s0_1)) else (some ((((qaZ s0_0 0).f1).toList == a2.toList),s0_0,s0_1))) else (some (false,s0_0,s0_1))) else (none))
set_option maxHeartbeats 8000000 in
set_option maxRecDepth 100000 in
theorem schedule_reader_is.calls (g:Nat) (s0_0:List (S68)) (s0_1:Bool) (a1:Int) (a2:ByteArray) (r1:Bool) (r2:List (S68)) (r3:Bool) (w0 w:World) (hI:qaJ w0 w g s0_0 s0_1) (hB:Below w0.heap.size w0 w) (h:schedule_reader_is.f s0_0 s0_1 a1 a2=some (r1,r2,r3)) :
  Calls Tryd.prog 38 #[.pointer (some ⟨g,0,none⟩),.int .i64 a1,.string a2] w fun e w'=>e=.returned (.bool r1)∧qaJ w0 w' g r2 r3∧Below w0.heap.size w0 w'∧qaQ w w' g none:=by
 have HI0:=Aside0.mk hI
 have HK:=Aside0.mk (qaQ.refl w g none)
 have HL:=Aside0.mk hB.size
 clear hI
 have HW0:=Aside0.mk hB.size
 have HB:=Aside0.mk hB
 clear hB
 have H:(if s0_1=true then (some (false,s0_0,s0_1)) else (if 0 < (s0_0.length:Int) then (if ((qaZ s0_0 0).f0)=a1 then (if a2.toList=([]:List UInt8) then (some (true,s0_0,s0_1)) else (some ((((qaZ s0_0 0).f1).toList == a2.toList),s0_0,s0_1))) else (some (false,s0_0,s0_1))) else (none)))=some (r1,r2,r3):=h
 clear h
 by_cases c4:s0_1=true
 ·subst c4
  have H1:(some (false,s0_0,true))=some (r1,r2,r3):=by rw [if_pos rfl] at H;exact H
  clear H
  have H:=H1
  clear H1
  simp only [Option.some.injEq,Prod.mk.injEq] at H
  obtain ⟨rfl,rfl,rfl⟩:=H
  obtain ⟨ASz5_0,cSz5_0,HGz5,hgz5,⟨HSz5_0,_⟩⟩:=HI0.out
  have hcz5_0:=cellS65_0 HGz5
  have hcz5_1:=cellS65_1 HGz5
  have hfz5_0:=qaD HGz5 0
  have hfz5_1:=qaD HGz5 1
  clear HGz5 hgz5
  go_enter Tryd.func38,Tryd.ntmps38
  go_wp2
  go_ret
  exact ⟨by first|rfl|(simp [qaL,qaM]<;>rfl)|(simp [*,qaL,qaM]<;>rfl),by repeat (first|(with_reducible first|exact HI0.out|apply qaJ.alloc|apply qaJ.drewN|apply qaJ.drew|apply qaJ.set_1)|exact HI0.out),by repeat (first|(with_reducible first|exact HB.out|apply qaB|apply qaA|apply qaC|refine qaF ?_ (qaJ.ge HI0.out))|exact HB.out),by repeat (first|(with_reducible first|exact HK.out|apply qaQ.set_|apply qaV|apply qbA|apply qaU)|exact HK.out)⟩
 ·replace c4:=Bool.eq_false_iff.mpr c4
  subst c4
  have H1:(if 0 < (s0_0.length:Int) then (if ((qaZ s0_0 0).f0)=a1 then (if a2.toList=([]:List UInt8) then (some (true,s0_0,false)) else (some ((((qaZ s0_0 0).f1).toList == a2.toList),s0_0,false))) else (some (false,s0_0,false))) else (none))=some (r1,r2,r3):=by rw [if_neg (show ¬ (false=true) by decide)] at H;exact H
  clear H
  have H:=H1
  clear H1
  by_cases c6:0 < (s0_0.length:Int)
  ·rw [if_pos c6] at H
   have c6b0:decide (0 < (s0_0.length:Int))=true:=decide_eq_true c6
   have c6b1:decide (0 < s0_0.length)=true:=decide_eq_true (by omega)
   clear c6
   by_cases c7:((qaZ s0_0 0).f0)=a1
   ·rw [if_pos c7] at H
    have c7b0:(((qaZ s0_0 0).f0) == a1)=true:=beq_iff_eq.mpr c7
    have c7b1:(((qaZ s0_0 0).f0) != a1)=false:=bne_eq_false_iff_eq.mpr c7
    clear c7
    by_cases c8:a2.toList=([]:List UInt8)
    ·rw [if_pos c8] at H
     have c8b0:(a2.toList == ([]:List UInt8))=true:=beq_iff_eq.mpr c8
     have c8b1:(a2.toList != ([]:List UInt8))=false:=bne_eq_false_iff_eq.mpr c8
     clear c8
     simp only [Option.some.injEq,Prod.mk.injEq] at H
     obtain ⟨rfl,rfl,rfl⟩:=H
     obtain ⟨ASz9_0,cSz9_0,HGz9,hgz9,⟨HSz9_0,_⟩⟩:=HI0.out
     have hcz9_0:=cellS65_0 HGz9
     have hcz9_1:=cellS65_1 HGz9
     have hfz9_0:=qaD HGz9 0
     have hfz9_1:=qaD HGz9 1
     clear HGz9 hgz9
     have p101:0≤(0:Int):=(by omega)
     have q101:0 < (s0_0.length:Int):=of_decide_eq_true (by first|(with_reducible assumption)|assumption)
     obtain ⟨ad101,e101,hx101_0,hx101_1,hx101_2,hx101_3⟩:=at_T68 HSz9_0 0 p101 q101
     cases e101
     have qi101:(0 < s0_0.length)=True:=eq_true (by omega)
     (try rw [show ((0:Int)).toNat=0 from rfl] at hx101_0)
     (try rw [show 0 * 4=0 from rfl] at hx101_0)
     (try rw [Addr.add_zero'] at hx101_0)
     (try rw [show ((0:Int)).toNat=0 from rfl] at hx101_1)
     (try rw [show 0 * 4=0 from rfl] at hx101_1)
     (try rw [Addr.add_zero'] at hx101_1)
     (try rw [show ((0:Int)).toNat=0 from rfl] at hx101_2)
     (try rw [show 0 * 4=0 from rfl] at hx101_2)
     (try rw [Addr.add_zero'] at hx101_2)
     (try rw [show ((0:Int)).toNat=0 from rfl] at hx101_3)
     (try rw [show 0 * 4=0 from rfl] at hx101_3)
     (try rw [Addr.add_zero'] at hx101_3)
     replace hx101_0:=qbB HB.out hx101_0
     replace hx101_1:=qbB HB.out hx101_1
     replace hx101_2:=qbB HB.out hx101_2
     replace hx101_3:=qbB HB.out hx101_3
     replace p101:=eq_true p101
     replace q101:=eq_true q101
     go_enter Tryd.func38,Tryd.ntmps38
     go_wp2
     go_ret
     exact ⟨by first|rfl|(simp [qaL,qaM]<;>rfl)|(simp [*,qaL,qaM]<;>rfl),by repeat (first|(with_reducible first|exact HI0.out|apply qaJ.alloc|apply qaJ.drewN|apply qaJ.drew|apply qaJ.set_1)|exact HI0.out),by repeat (first|(with_reducible first|exact HB.out|apply qaB|apply qaA|apply qaC|refine qaF ?_ (qaJ.ge HI0.out))|exact HB.out),by repeat (first|(with_reducible first|exact HK.out|apply qaQ.set_|apply qaV|apply qbA|apply qaU)|exact HK.out)⟩
    ·rw [if_neg c8] at H
     have c8b0:(a2.toList == ([]:List UInt8))=false:=beq_eq_false_iff_ne.mpr c8
     have c8b1:(a2.toList != ([]:List UInt8))=true:=bne_iff_ne.mpr c8
     simp only [Option.some.injEq,Prod.mk.injEq] at H
     obtain ⟨rfl,rfl,rfl⟩:=H
     obtain ⟨ASz10_0,cSz10_0,HGz10,hgz10,⟨HSz10_0,_⟩⟩:=HI0.out
     have hcz10_0:=cellS65_0 HGz10
     have hcz10_1:=cellS65_1 HGz10
     have hfz10_0:=qaD HGz10 0
     have hfz10_1:=qaD HGz10 1
     clear HGz10 hgz10
     have p101:0≤(0:Int):=(by omega)
     have q101:0 < (s0_0.length:Int):=of_decide_eq_true (by first|(with_reducible assumption)|assumption)
     obtain ⟨ad101,e101,hx101_0,hx101_1,hx101_2,hx101_3⟩:=at_T68 HSz10_0 0 p101 q101
     cases e101
     have qi101:(0 < s0_0.length)=True:=eq_true (by omega)
     (try rw [show ((0:Int)).toNat=0 from rfl] at hx101_0)
     (try rw [show 0 * 4=0 from rfl] at hx101_0)
     (try rw [Addr.add_zero'] at hx101_0)
     (try rw [show ((0:Int)).toNat=0 from rfl] at hx101_1)
     (try rw [show 0 * 4=0 from rfl] at hx101_1)
     (try rw [Addr.add_zero'] at hx101_1)
     (try rw [show ((0:Int)).toNat=0 from rfl] at hx101_2)
     (try rw [show 0 * 4=0 from rfl] at hx101_2)
     (try rw [Addr.add_zero'] at hx101_2)
     (try rw [show ((0:Int)).toNat=0 from rfl] at hx101_3)
     (try rw [show 0 * 4=0 from rfl] at hx101_3)
     (try rw [Addr.add_zero'] at hx101_3)
     replace hx101_0:=qbB HB.out hx101_0
     replace hx101_1:=qbB HB.out hx101_1
     replace hx101_2:=qbB HB.out hx101_2
     replace hx101_3:=qbB HB.out hx101_3
     replace p101:=eq_true p101
     replace q101:=eq_true q101
     have p102:0≤(0:Int):=(by omega)
     have q102:0 < (s0_0.length:Int):=of_decide_eq_true (by first|(with_reducible assumption)|assumption)
     obtain ⟨ad102,e102,hx102_0,hx102_1,hx102_2,hx102_3⟩:=at_T68 HSz10_0 0 p102 q102
     obtain rfl:ad101=ad102:=(by injection e102)
     have qi102:(0 < s0_0.length)=True:=eq_true (by omega)
     (try rw [show ((0:Int)).toNat=0 from rfl] at hx102_0)
     (try rw [show 0 * 4=0 from rfl] at hx102_0)
     (try rw [Addr.add_zero'] at hx102_0)
     (try rw [show ((0:Int)).toNat=0 from rfl] at hx102_1)
     (try rw [show 0 * 4=0 from rfl] at hx102_1)
     (try rw [Addr.add_zero'] at hx102_1)
     (try rw [show ((0:Int)).toNat=0 from rfl] at hx102_2)
     (try rw [show 0 * 4=0 from rfl] at hx102_2)
     (try rw [Addr.add_zero'] at hx102_2)
     (try rw [show ((0:Int)).toNat=0 from rfl] at hx102_3)
     (try rw [show 0 * 4=0 from rfl] at hx102_3)
     (try rw [Addr.add_zero'] at hx102_3)
     replace hx102_0:=qbB HB.out hx102_0
     replace hx102_1:=qbB HB.out hx102_1
     replace hx102_2:=qbB HB.out hx102_2
     replace hx102_3:=qbB HB.out hx102_3
     replace p102:=eq_true p102
     replace q102:=eq_true q102
     go_enter Tryd.func38,Tryd.ntmps38
     go_wp2
     go_ret
     exact ⟨by first|rfl|(simp [qaL,qaM]<;>rfl)|(simp [*,qaL,qaM]<;>rfl),by repeat (first|(with_reducible first|exact HI0.out|apply qaJ.alloc|apply qaJ.drewN|apply qaJ.drew|apply qaJ.set_1)|exact HI0.out),by repeat (first|(with_reducible first|exact HB.out|apply qaB|apply qaA|apply qaC|refine qaF ?_ (qaJ.ge HI0.out))|exact HB.out),by repeat (first|(with_reducible first|exact HK.out|apply qaQ.set_|apply qaV|apply qbA|apply qaU)|exact HK.out)⟩
   ·rw [if_neg c7] at H
    have c7b0:(((qaZ s0_0 0).f0) == a1)=false:=beq_eq_false_iff_ne.mpr c7
    have c7b1:(((qaZ s0_0 0).f0) != a1)=true:=bne_iff_ne.mpr c7
    simp only [Option.some.injEq,Prod.mk.injEq] at H
    obtain ⟨rfl,rfl,rfl⟩:=H
    obtain ⟨ASz11_0,cSz11_0,HGz11,hgz11,⟨HSz11_0,_⟩⟩:=HI0.out
    have hcz11_0:=cellS65_0 HGz11
    have hcz11_1:=cellS65_1 HGz11
    have hfz11_0:=qaD HGz11 0
    have hfz11_1:=qaD HGz11 1
    clear HGz11 hgz11
    have p101:0≤(0:Int):=(by omega)
    have q101:0 < (s0_0.length:Int):=of_decide_eq_true (by first|(with_reducible assumption)|assumption)
    obtain ⟨ad101,e101,hx101_0,hx101_1,hx101_2,hx101_3⟩:=at_T68 HSz11_0 0 p101 q101
    cases e101
    have qi101:(0 < s0_0.length)=True:=eq_true (by omega)
    (try rw [show ((0:Int)).toNat=0 from rfl] at hx101_0)
    (try rw [show 0 * 4=0 from rfl] at hx101_0)
    (try rw [Addr.add_zero'] at hx101_0)
    (try rw [show ((0:Int)).toNat=0 from rfl] at hx101_1)
    (try rw [show 0 * 4=0 from rfl] at hx101_1)
    (try rw [Addr.add_zero'] at hx101_1)
    (try rw [show ((0:Int)).toNat=0 from rfl] at hx101_2)
    (try rw [show 0 * 4=0 from rfl] at hx101_2)
    (try rw [Addr.add_zero'] at hx101_2)
    (try rw [show ((0:Int)).toNat=0 from rfl] at hx101_3)
    (try rw [show 0 * 4=0 from rfl] at hx101_3)
    (try rw [Addr.add_zero'] at hx101_3)
    replace hx101_0:=qbB HB.out hx101_0
    replace hx101_1:=qbB HB.out hx101_1
    replace hx101_2:=qbB HB.out hx101_2
    replace hx101_3:=qbB HB.out hx101_3
    replace p101:=eq_true p101
    replace q101:=eq_true q101
    go_enter Tryd.func38,Tryd.ntmps38
    go_wp2
    go_ret
    exact ⟨by first|rfl|(simp [qaL,qaM]<;>rfl)|(simp [*,qaL,qaM]<;>rfl),by repeat (first|(with_reducible first|exact HI0.out|apply qaJ.alloc|apply qaJ.drewN|apply qaJ.drew|apply qaJ.set_1)|exact HI0.out),by repeat (first|(with_reducible first|exact HB.out|apply qaB|apply qaA|apply qaC|refine qaF ?_ (qaJ.ge HI0.out))|exact HB.out),by repeat (first|(with_reducible first|exact HK.out|apply qaQ.set_|apply qaV|apply qbA|apply qaU)|exact HK.out)⟩
  ·rw [if_neg c6] at H
   exact absurd H (by simp)
end Go.Proofs.YtehdmplngmbnnaaDoor.P
namespace Go.Proofs.YtehdmplngmbnnaaDoor.P
open Go.RowKit Go.Proofs.YtehdmplngmbnnaaDoorW.PrintWords Go.Proofs.YtehdmplngmbnnaaDoorW.PrintLast
set_option linter.unusedVariables false
set_option linter.unusedSimpArgs false
def schedule_reader_take.f (s0_0:List S68) (s0_1:Bool) (a1:Int) (a2:ByteArray):Option (Int × ByteArray × Int × Int × (List S68) × Bool) :=
 (schedule_reader_is.f s0_0 s0_1 a1 a2).bind fun b =>
  if b.1=true then
   (if 0 < b.2.1.length then some ((qaZ b.2.1 0).f0,(qaZ b.2.1 0).f1,(qaZ b.2.1 0).f2,(qaZ b.2.1 0).f3,b.2.1.drop 1,b.2.2) else none)
  else some (0,⟨#[]⟩,0,0,b.2.1,true)
theorem blk_keep {w w':World} {g b:Nat} {o:Obj} (h:w.heap[b]?=some o) (hk:qaQ w w' g none) (hne:b ≠ g):w'.heap[b]?=some o:=(hk.2 b (qbF h) hne (by simp)).trans h
theorem blk_put4 {W:World} {b t:Nat} {x0 x1 x2 x3 y0 y1 y2 y3:Value} (h:W.heap[b]?=some (.cells #[x0,x1,x2,x3] t (0,0))) :
  ((((W.setCell ⟨b,0,none⟩ y0).setCell ⟨b,1,none⟩ y1).setCell ⟨b,2,none⟩ y2).setCell ⟨b,3,none⟩ y3).heap[b]?=some (.cells #[y0,y1,y2,y3] t (0,0)) :=
 qaR (qaR (qaR (qaR h 0 y0 rfl) 1 y1 rfl) 2 y2 rfl) 3 y3 rfl
set_option maxHeartbeats 1000000 in
theorem take_no (g:Nat) (s0_0:List S68) (s0_1:Bool) (a1:Int) (a2:ByteArray) (b2:List S68) (b3:Bool) (w0 w:World) (hI:qaJ w0 w g s0_0 s0_1) (hB:Below w0.heap.size w0 w) (h:schedule_reader_is.f s0_0 s0_1 a1 a2=some (false,b2,b3)) :
  Calls Tryd.prog 39 #[.pointer (some ⟨g,0,none⟩),.int .i64 a1,.string a2] w fun e w'=>e=.returned (.agg #[.int .i64 0,.string ⟨#[]⟩,.int .i64 0,.int .i64 0])∧qaJ w0 w' g b2 true∧Below w0.heap.size w0 w'∧qaQ w w' g none:=by
 have HI:=Aside0.mk hI
 have HB:=Aside0.mk hB
 have HH:=Aside0.mk h
 clear hI hB h
 have hu:=Tryd.underlying68
 go_enter Tryd.func39,Tryd.ntmps39
 go_wp2_with fail
 have hgl:=HI.out.lt
 refine (schedule_reader_is.calls g s0_0 s0_1 a1 a2 false b2 b3 w0 _ (HI.out.alloc _) (HB.out.alloc HB.out.size _) HH.out).mono ?_
 rintro e w1 ⟨rfl,hI1,hB1,hK1⟩
 have hb1:=blk_keep (heap_alloc_new w _) hK1 (by omega)
 obtain ⟨A0,c0,hgb,hge,hr0,hl0⟩:=hI1
 have hc0:=cellS65_0 hgb
 have hc1:=cellS65_1 hgb
 have hf0:=qaD hgb 0
 have hf1:=qaD hgb 1
 have hz0:=qaE hb1 0
 have hz1:=qaE hb1 1
 have hz2:=qaE hb1 2
 have hz3:=qaE hb1 3
 have hy0:=qaD hb1 0
 have hy1:=qaD hb1 1
 have hy2:=qaD hb1 2
 have hy3:=qaD hb1 3
 simp at hz0 hz1 hz2 hz3
 have H1:=Aside0.mk hb1
 have H2:=Aside0.mk hgb
 have H3:=Aside0.mk hK1
 have H4:=Aside0.mk hr0
 have H5:=Aside0.mk hl0
 have H6:=Aside0.mk hB1
 have H7:=Aside0.mk (show g ≠ w.heap.size by omega)
 clear hb1 hgb hK1 hr0 hl0 hB1
 go_wp2_with fail
 refine bodyPost_ret (results_cell_row rfl _ _ w.heap.size 68 #[.int .i64 0,.string ⟨#[]⟩,.int .i64 0,.int .i64 0] (0,0) _ rfl (blk_put4 (qbI H1.out (fun e=>H7.out e.symm) _)) hu rfl (by kernel_rfl)) rfl ⟨rfl,?_,?_,?_⟩
 ·exact ⟨A0,c0,qbI (qbI (qbI (qbI (qaR H2.out 1 (.bool true) rfl) H7.out _) H7.out _) H7.out _) H7.out _,hge,H4.out,H5.out⟩
 ·have hs:=HB.out.size
  exact ((((H6.out.setCell hge _).setCell hs _).setCell hs _).setCell hs _).setCell hs _
 ·have hk:=(qaQ.of_below (qaB (Below.refl _ w) _) g none).trans H3.out (.inl rfl)
  exact qbK (qbK (qbK (qbK (qaQ.set_ hk 1 _) (Nat.le_refl _) _) (Nat.le_refl _) _) (Nat.le_refl _) _) (Nat.le_refl _) _
theorem qbP {w0 w1:World} (h:Below w0.heap.size w0 w1) {a:Addr} {v:Value} (hc:w0.cell? a=some v):w1.cell? a=some v:=qbB h hc
set_option maxHeartbeats 2000000 in
set_option maxRecDepth 100000 in
theorem take_yes (g:Nat) (s0_0:List S68) (s0_1:Bool) (a1:Int) (a2:ByteArray) (b2:List S68) (b3:Bool) (hn:0 < b2.length) (w0 w:World) (hI:qaJ w0 w g s0_0 s0_1) (hB:Below w0.heap.size w0 w) (h:schedule_reader_is.f s0_0 s0_1 a1 a2=some (true,b2,b3)) :
  Calls Tryd.prog 39 #[.pointer (some ⟨g,0,none⟩),.int .i64 a1,.string a2] w fun e w'=>e=.returned (.agg #[.int .i64 (qaZ b2 0).f0,.string (qaZ b2 0).f1,.int .i64 (qaZ b2 0).f2,.int .i64 (qaZ b2 0).f3])∧qaJ w0 w' g (b2.drop 1) b3∧Below w0.heap.size w0 w'∧qaQ w w' g none:=by
 have HI:=Aside0.mk hI
 have HB:=Aside0.mk hB
 have HH:=Aside0.mk h
 clear hI hB h
 have hu:=Tryd.underlying68
 obtain ⟨x,hx⟩:∃ x,x=qaZ b2 0:=⟨_,rfl⟩
 rw [← hx]
 have HX:=Aside0.mk hx
 clear hx
 obtain ⟨m,hm⟩:∃ m,b2.length=m+1:=⟨b2.length - 1,by omega⟩
 have HM:=Aside0.mk hm
 clear hm
 obtain ⟨yl,hyl⟩:∃ yl,yl=b2.drop 1:=⟨_,rfl⟩
 rw [← hyl]
 have HY:=Aside0.mk hyl
 clear hyl
 go_enter Tryd.func39,Tryd.ntmps39
 go_wp2_with fail
 have hgl:=HI.out.lt
 refine (schedule_reader_is.calls g s0_0 s0_1 a1 a2 true b2 b3 w0 _ (HI.out.alloc _) (HB.out.alloc HB.out.size _) HH.out).mono ?_
 rintro e w1 ⟨rfl,hI1,hB1,hK1⟩
 have hb1:=blk_keep (heap_alloc_new w _) hK1 (by omega)
 obtain ⟨A0,c0,hgb,hge,hr0,hl0⟩:=hI1
 obtain ⟨ad,ea,hx0,hx1,hx2,hx3⟩:=at_T68 hr0 0 (by omega) (by omega)
 subst ea
 rw [← HX.out] at hx0 hx1 hx2 hx3
 replace hx0:=qbP hB1 hx0
 replace hx1:=qbP hB1 hx1
 replace hx2:=qbP hB1 hx2
 replace hx3:=qbP hB1 hx3
 simp [Addr.add] at hx0 hx1 hx2 hx3
 have hc0:=cellS65_0 hgb
 rw [HM.out] at hc0
 have hc1:=cellS65_1 hgb
 have hf0:=qaD hgb 0
 have hf1:=qaD hgb 1
 have hz0:=qaE hb1 0
 have hz1:=qaE hb1 1
 have hz2:=qaE hb1 2
 have hz3:=qaE hb1 3
 have hy0:=qaD hb1 0
 have hy1:=qaD hb1 1
 have hy2:=qaD hb1 2
 have hy3:=qaD hb1 3
 simp at hz0 hz1 hz2 hz3
 have H1:=Aside0.mk hb1
 have H2:=Aside0.mk hgb
 have H3:=Aside0.mk hK1
 have H4:=Aside0.mk hr0
 have H5:=Aside0.mk hl0
 have H6:=Aside0.mk hB1
 have H7:=Aside0.mk (show g ≠ w.heap.size by omega)
 have hlm:m+1≤c0:=by rw [← HM.out];exact hl0
 have hgs:g < w1.heap.size:=qbF hgb
 have hbs:w.heap.size < w1.heap.size:=qbF hb1
 have hgne:¬ g=w.heap.size:=by omega
 obtain ⟨i68,hi68,_,hsz68,_⟩:=info_parts info68
 obtain ⟨A1,hA1⟩:∃ A1,A1=(if c0=1 then some ad else (some ad).map (·.add (1 * 4))):=⟨_,rfl⟩
 have hcut:∀ W:World,(Instr.slice 54 (.slice (some ad) (m+1) c0) (some (.int .i64 1)) none none).run Tryd.prog W=.ok (.slice A1 m (c0 - 1)) W:=fun W=>by
  have:=cut_from (P:=Tryd.prog) 54 68 .i64 Tryd.underlying54 hi68 4 hsz68 (some ad) (m+1) c0 1 (by omega) (by omega) W
  rw [hA1]
  exact this
 have hC:=Kd.C_drop (m:=1) hr0 (by omega) hl0
 rw [show (if c0=1 then some ad else (some ad).map (·.add (1 * k68.sz)))=A1 from hA1.symm] at hC
 have hdl:(b2.drop 1).length=m:=by rw [List.length_drop,HM.out];rfl
 rw [hdl] at hC
 have H8:=Aside0.mk hC
 have H9:=Aside0.mk hdl
 clear hb1 hgb hK1 hr0 hl0 hB1 hC hdl hA1 hi68 hsz68
 rw [← HY.out] at H8 H9
 go_wp2_with fail
 refine bodyPost_ret (results_cell_row rfl _ _ w.heap.size 68 #[.int .i64 x.f0,.string x.f1,.int .i64 x.f2,.int .i64 x.f3] (0,0) _ rfl (qaG (blk_put4 (qbI H1.out (fun e=>H7.out e.symm) _)) _) hu rfl (by kernel_rfl)) rfl ⟨rfl,?_,?_,?_⟩
 ·refine ⟨A1,c0 - 1,qaG (qbI (qbI (qbI (qbI (qaR H2.out 0 _ ?_) H7.out _) H7.out _) H7.out _) H7.out _) _,hge,?_,?_⟩
  ·rw [H9.out];rfl
  ·rw [H9.out];exact H8.out
  ·rw [H9.out];omega
 ·have hs:=HB.out.size
  exact (((((H6.out.setCell hge _).setCell hs _).setCell hs _).setCell hs _).setCell hs _).alloc (by have:=H6.out.size;simpa [World.setCell] using this) _
 ·have hk:=(qaQ.of_below (qaB (Below.refl _ w) _) g none).trans H3.out (.inl rfl)
  exact qaU (qbK (qbK (qbK (qbK (qaQ.set_ hk 0 _) (Nat.le_refl _) _) (Nat.le_refl _) _) (Nat.le_refl _) _) (Nat.le_refl _) _) _
theorem schedule_reader_take.calls (g:Nat) (s0_0:List S68) (s0_1:Bool) (a1:Int) (a2:ByteArray) (r1:Int) (r2:ByteArray) (r3:Int) (r4:Int) (r5:List S68) (r6:Bool) (w0 w:World) (hI:qaJ w0 w g s0_0 s0_1) (hB:Below w0.heap.size w0 w) (h:schedule_reader_take.f s0_0 s0_1 a1 a2=some (r1,r2,r3,r4,r5,r6)) :
  Calls Tryd.prog 39 #[.pointer (some ⟨g,0,none⟩),.int .i64 a1,.string a2] w fun e w'=>e=.returned (.agg #[.int .i64 r1,.string r2,.int .i64 r3,.int .i64 r4])∧qaJ w0 w' g r5 r6∧Below w0.heap.size w0 w'∧qaQ w w' g none:=by
 unfold schedule_reader_take.f at h
 obtain ⟨⟨b1,b2,b3⟩,hb,h⟩:=Option.bind_eq_some_iff.mp h
 cases b1
 ·rw [if_neg (by simp)] at h
  injection h with h
  injection h with h1 h
  injection h with h2 h
  injection h with h3 h
  injection h with h4 h
  injection h with h5 h6
  subst h1 h2 h3 h4 h5 h6
  exact take_no g s0_0 s0_1 a1 a2 b2 b3 w0 w hI hB hb
 ·rw [if_pos rfl] at h
  by_cases hn:0 < b2.length
  ·rw [if_pos hn] at h
   injection h with h
   injection h with h1 h
   injection h with h2 h
   injection h with h3 h
   injection h with h4 h
   injection h with h5 h6
   subst h1 h2 h3 h4 h5 h6
   exact take_yes g s0_0 s0_1 a1 a2 b2 b3 hn w0 w hI hB hb
  ·rw [if_neg hn] at h
   cases h
end Go.Proofs.YtehdmplngmbnnaaDoor.P
namespace Go.Proofs.YtehdmplngmbnnaaDoor.P
open Go.RowKit Go.Proofs.YtehdmplngmbnnaaDoorW.PrintWords Go.Proofs.YtehdmplngmbnnaaDoorW.PrintLast
set_option linter.unusedVariables false
set_option linter.unusedSimpArgs false
def hasNm (n:ByteArray) (s:S24):Bool:=s.f0.toList == n.toList
def schedule_Find.f (l:List S24) (n:ByteArray):Option (ByteArray × Int × List S52 × Bool) :=
 if l.length≤1000000 then (match l.find? (hasNm n) with
  | none=>some (⟨#[]⟩,0,[],false)
  | some s=>if s.f2.length≤1000000 then some (s.f0,s.f1,s.f2,true) else none) else none
theorem rd_get {l:List S24} (k:Nat) (hk:k < l.length):qaP l k=l[k]:=by
 unfold qaP
 rw [List.getD_eq_getElem?_getD,List.getElem?_eq_getElem (by simpa using hk)]
 simp
theorem find_hit {l:List S24} {p:S24→Bool} (k:Nat) (hk:k < l.length) (ht:∀ x ∈ l.take k,p x=false) (h:p (qaP l k)=true):l.find? p=some (qaP l k):=by
 rw [← List.take_append_drop k l,List.find?_append,List.find?_eq_none.mpr (fun x hx=>by simp [ht x hx]),List.take_append_drop,Option.none_or,List.drop_eq_getElem_cons hk,List.find?_cons_of_pos (by rwa [← rd_get k hk]),rd_get k hk]
theorem find_step {l:List S24} {p:S24→Bool} (k:Nat) (hk:k < l.length) (ht:∀ x ∈ l.take k,p x=false) (h:p (qaP l k)=false):∀ x ∈ l.take (k+1),p x=false:=by
 intro x hx
 rw [List.take_add_one,List.getElem?_eq_getElem hk,List.mem_append] at hx
 rcases hx with hx|hx
 ·exact ht x hx
 ·rw [rd_get k hk] at h
  simp at hx
  rw [hx,h]
theorem find_none {l:List S24} {p:S24→Bool} (k:Nat) (hk:l.length≤k) (ht:∀ x ∈ l.take k,p x=false):l.find? p=none:=by
 rw [List.take_of_length_le hk] at ht
 exact List.find?_eq_none.mpr (fun x hx=>by simp [ht x hx])
theorem blk_put3 {W:World} {b t:Nat} {x0 x1 x2 y0 y1 y2:Value} (h:W.heap[b]?=some (.cells #[x0,x1,x2] t (0,0))) :
  (((W.setCell ⟨b,0,none⟩ y0).setCell ⟨b,1,none⟩ y1).setCell ⟨b,2,none⟩ y2).heap[b]?=some (.cells #[y0,y1,y2] t (0,0)) :=
 qaR (qaR (qaR h 0 y0 rfl) 1 y1 rfl) 2 y2 rfl
set_option maxHeartbeats 4000000 in
set_option maxRecDepth 100000 in
theorem schedule_Find.calls (A0:Option Addr) (c0:Nat) (l0:List S24) (a1:ByteArray) (r1:ByteArray) (r2:Int) (r3:List S52) (r4:Bool) (w:World) (hr0:Kd.C k24 w A0 l0.length l0) (hc0:l0.length≤c0) (h:schedule_Find.f l0 a1=some (r1,r2,r3,r4)) :
  Calls Tryd.prog 14 #[.slice A0 l0.length c0,.string a1] w fun e w'=>∃ v2_:Value,e=.returned (.tuple #[.agg #[.string r1,.int .i64 r2,v2_],.bool r4])∧Kd.R k52 52 w' w.heap.size (fun _=>True) v2_ r3∧Below w.heap.size w w':=by
 have hus:=Tryd.underlying52
 have huh:=Tryd.underlying24
 unfold schedule_Find.f at h
 by_cases hl:l0.length≤1000000
 case neg=>rw [if_neg hl] at h;cases h
 rw [if_pos hl] at h
 have HR:=Aside0.mk hr0
 have HC:=Aside0.mk hc0
 have HH:=Aside0.mk h
 have HL:=Aside0.mk hl
 clear hr0 hc0 h hl
 go_enter Tryd.func14,Tryd.ntmps14
 go_wp2_with fail
 have H1:=Aside0.mk (heap_alloc_new w (.cells #[.string ⟨#[]⟩,.int .i64 0,.slice none 0 0] 24))
 have HB1:Below w.heap.size w (w.alloc (.cells #[.string ⟨#[]⟩,.int .i64 0,.slice none 0 0] 24)):=qaB (Below.refl _ w) _
 have HB1':=Aside0.mk HB1
 clear HB1
 obtain ⟨b,hb⟩:∃ b,b=w.heap.size:=⟨_,rfl⟩
 have HBE:=Aside0.mk hb
 rw [← hb] at H1 HB1' ⊢
 clear hb
 go_loopg [10] l0.length (fun kq i wr=>∃ k:Nat,i=.int .i64 k∧Aside0 (k+kq=l0.length)∧Aside0 (∀ x ∈ l0.take k,hasNm a1 x=false)∧Aside0 (wr.heap[b]?=some (.cells #[.string ⟨#[]⟩,.int .i64 0,.slice none 0 0] 24 (0,0)))∧Aside0 (Below b w wr))
 case atStart=>exact ⟨0,rfl,⟨Nat.zero_add _⟩,⟨by simp⟩,H1,HB1'⟩
 case round =>
  obtain ⟨k,rfl,HK,HT,HW,HB⟩:=hrel
  clear H1 HB1'
  have HK2:=Aside0.mk (show k≤l0.length by have:=HK.out;omega)
  by_cases hk:k < l0.length
  ·have c5:decide ((k:Int) < (l0.length:Int))=true:=decide_eq_true (by omega)
   obtain ⟨ad,A2,c2,ea,hx0,hx1,hx2,hl2,hC2⟩:=at_T24 HR.out k (by omega) (by omega)
   subst ea
   obtain ⟨x,hx⟩:∃ x,x=qaP l0 k:=⟨_,rfl⟩
   rw [← hx] at hx0 hx1 hx2 hl2 hC2
   have HBw:=Aside0.mk (show Below w.heap.size w wr by rw [← HBE.out];exact HB.out)
   replace hx0:=qbP HBw.out hx0
   replace hx1:=qbP HBw.out hx1
   replace hx2:=qbP HBw.out hx2
   simp only [Int.toNat_natCast] at hx0 hx1 hx2
   have HX:=Aside0.mk hx
   have HL2:=Aside0.mk hl2
   have HC2:=Aside0.mk (Kd.C_below hC2 HBw.out)
   clear hx hl2 hC2
   cases hm:(x.f0.toList == a1.toList)
   ·have HM:=Aside0.mk (show hasNm a1 x=false from hm)
    go_wp2_with fail
    have e:wrap64 ((k:Int)+1)=(k:Int)+1:=by
     have:=HL.out
     unfold wrap64
     omega
    go_roundg (gk - 1)
    case measure=>have:=HK.out;omega
    case rel=>exact ⟨k+1,by simp [e],⟨by have:=HK.out;omega⟩,⟨find_step k hk HT.out (by rw [← HX.out];exact HM.out)⟩,⟨qaG HW.out _⟩,⟨by rw [HBE.out];exact qaB HBw.out _⟩⟩
   ·have HM:=Aside0.mk (show hasNm a1 x=true from hm)
    have HF:=Aside0.mk (find_hit k hk HT.out (by rw [← HX.out];exact HM.out))
    rw [← HX.out] at HF
    have HH2:=HH.out
    rw [HF.out] at HH2
    by_cases hs:x.f2.length≤1000000
    case neg=>simp [hs] at HH2
    simp only [if_pos hs,Option.some.injEq,Prod.mk.injEq] at HH2
    obtain ⟨rfl,rfl,rfl,rfl⟩:=HH2
    have HS:=Aside0.mk hs
    clear hs HH
    have hb7:=heap_alloc_new wr (.cells #[.string x.f0,.int .i64 x.f1,.slice A2 x.f2.length c2] 24)
    obtain ⟨b7,he7⟩:∃ b7,b7=wr.heap.size:=⟨_,rfl⟩
    rw [← he7] at hb7
    have HE7:=Aside0.mk he7
    have H7:=Aside0.mk hb7
    have hlt:=qbF HW.out
    have hne:b ≠ b7:=by omega
    have HNE:=Aside0.mk hne
    have hsz:=qaK HBw.out
    have HG7:=Aside0.mk (show w.heap.size≤b7 by omega)
    have HC3:Aside0 (Kd.C k52 (wr.alloc (.cells #[.string x.f0,.int .i64 x.f1,.slice A2 x.f2.length c2] 24)) A2 x.f2.length x.f2):=⟨Kd.C_alloc HC2.out _⟩
    clear he7 hb7 hlt hne hsz
    go_wp2_with (first|((with_reducible refine qcG (b:=.append) (xs:=#[.const (.slice none 0 0),.tmp 19]) rfl ?_);at_builtin;refine Kd.R_append_rows k52 (w0:=w) (Rr:=k52.K _) w.heap.size rfl (.const (.slice none 0 0)) (.tmp 19) 22 52 (.agg #[(.int .i64 0),(.int .i64 0),(.int .i64 0),(.int .i64 0)]) 32 rfl Tryd.underlying22 info52 rfl (by decide) (by omega) (.slice none 0 0) [] x.f2 A2 x.f2.length c2 (fun k_=>k_ ≠ b∧k_ ≠ b7) (fun _=>False) rfl (by first|(go_simp;done)|(go_simp;rfl)) (Kd.R_nil _ _ _ _ _) HC3.out (fun y_ cs_ h_=>by rw [k52_open h_];exact k52_mkM _ _ _ y_) (fun _ hk=>hk.elim) (fun k_ hk=>by have:=qbF H7.out;have:=HNE.out;have:=qbF HW.out;have:=HE7.out;omega) (qaB HBw.out _) (Nat.le_trans (qaK HBw.out) (by simp)) (by have:=HS.out;simp;omega) ?_;intro v1 w1 hR1 hB1 hg1 hat1;rw [List.nil_append] at hR1;obtain ⟨A1,c1,rfl,hle1,hrd1⟩:=OwnRow.reads hR1.2;have hw7:w1.heap[b7]?=some (.cells #[.string x.f0,.int .i64 x.f1,.slice A2 x.f2.length c2] 24 (0,0)):=(hg1.block b7 (qbF H7.out) (by simp [Value.ownBlock])).trans H7.out;have hwb:w1.heap[b]?=some (.cells #[.string ⟨#[]⟩,.int .i64 0,.slice none 0 0] 24 (0,0)):=(hg1.block b (qbF (qaG HW.out _)) (by simp [Value.ownBlock])).trans (qaG HW.out _);have HR1:=Aside0.mk hR1;have HB1:=Aside0.mk hB1;have HW7:=Aside0.mk hw7;have HWB:=Aside0.mk hwb;clear hR1 hB1 hg1 hat1 hle1 hrd1 hwb;rw [HE7.out] at hw7;have hz0:=qaE hw7 0;have hz1:=qaE hw7 1;have hz2:=qaE hw7 2;have hy0:=qaD hw7 0;have hy1:=qaD hw7 1;have hy2:=qaD hw7 2;simp at hz0 hz1 hz2;clear hw7;have hv0:=qaE HWB.out 0;have hv1:=qaE HWB.out 1;have hv2:=qaE HWB.out 2;have hu0:=qaD HWB.out 0;have hu1:=qaD HWB.out 1;have hu2:=qaD HWB.out 2;simp at hv0 hv1 hv2;have hne1:¬ b=wr.heap.size:=(by rw [← HE7.out];exact HNE.out);have hne2:¬ wr.heap.size=b:=(fun e=>hne1 e.symm)))
    rw [← HE7.out]
    have hge:w.heap.size≤b:=Nat.le_of_eq HBE.out.symm
    refine bodyPost_ret (qcF rfl _ _ b 24 #[.string x.f0,.int .i64 x.f1,.slice A1 x.f2.length c1] (0,0) _ rfl (blk_put3 (qbI HWB.out HNE.out _)) Tryd.underlying24 rfl (by kernel_rfl)) rfl ?_
    exact ⟨_,rfl,Kd.R_mono (Kd.R_far (p:=⟨b,2,none⟩) (Kd.R_far (p:=⟨b,1,none⟩) (Kd.R_far (p:=⟨b,0,none⟩) (Kd.R_far (p:=⟨b7,2,none⟩) HR1.out (fun _ hk=>hk.2) _) (fun _ hk=>hk.1) _) (fun _ hk=>hk.1) _) (fun _ hk=>hk.1) _) (fun _ _=>trivial),qaF (qaF (qaF (qaF HB1.out HG7.out) hge) hge) hge⟩
  ·have HF:=Aside0.mk (find_none k (by omega) HT.out)
   have HH2:=HH.out
   rw [HF.out] at HH2
   simp only [Option.some.injEq,Prod.mk.injEq] at HH2
   obtain ⟨rfl,rfl,rfl,rfl⟩:=HH2
   have c5:decide ((k:Int) < (l0.length:Int))=false:=decide_eq_false (by omega)
   have hz0:=qaE HW.out 0
   have hz1:=qaE HW.out 1
   have hz2:=qaE HW.out 2
   have hy0:=qaD HW.out 0
   have hy1:=qaD HW.out 1
   have hy2:=qaD HW.out 2
   simp at hz0 hz1 hz2
   go_wp2_with fail
   have hge:w.heap.size≤b:=Nat.le_of_eq HBE.out.symm
   refine bodyPost_ret (qcF rfl _ _ b 24 #[.string ⟨#[]⟩,.int .i64 0,.slice none 0 0] (0,0) _ rfl (blk_put3 HW.out) Tryd.underlying24 rfl (by kernel_rfl)) rfl ?_
   exact ⟨_,rfl,Kd.R_nil _ _ _ _ _,by have hB:=HB.out;rw [HBE.out] at hB ⊢;exact qaF (qaF (qaF hB (Nat.le_refl _)) (Nat.le_refl _)) (Nat.le_refl _)⟩
end Go.Proofs.YtehdmplngmbnnaaDoor.P
namespace Go.Proofs.YtehdmplngmbnnaaDoor.P
open Go.RowKit Go.Proofs.YtehdmplngmbnnaaDoorW.PrintWords Go.Proofs.YtehdmplngmbnnaaDoorW.PrintLast Go.Proofs.YtehdmplngmbnnaaDoorW.PrintMore
attribute [local go_sem] qbV qbW qcC qcD qbQ qbR qbX qbY
attribute [local go_sem] qbL
set_option linter.unusedVariables false
set_option linter.unusedSimpArgs false
def ident_digit.f (a0:Int):Option (Bool):=if 48≤a0 then (some (decide (a0≤57))) else (some false)
set_option maxHeartbeats 8000000 in
set_option maxRecDepth 100000 in
theorem ident_digit.calls (a0:Int) (r:Bool) (w:World) (h:ident_digit.f a0=some r) :
  Calls Tryd.prog 48 #[.int .u8 a0] w fun e w'=>e=.returned (.bool r)∧Drawn0 w w':=by
 have H:(if 48≤a0 then (some (decide (a0≤57))) else (some false))=some r:=h
 clear h
 by_cases c2:48≤a0
 ·rw [if_pos c2] at H
  have c2b0:decide (48≤a0)=true:=decide_eq_true c2
  clear c2
  obtain rfl:=Option.some.inj H
  go_enter Tryd.func48,Tryd.ntmps48
  go_wp2
  go_ret
  exact ⟨by first|rfl|(simp;done)|(simp [*];done),by repeat (first|exact Drawn0.refl _|apply Drawn0.step)⟩
 ·rw [if_neg c2] at H
  have c2b0:decide (48≤a0)=false:=decide_eq_false c2
  clear c2
  obtain rfl:=Option.some.inj H
  go_enter Tryd.func48,Tryd.ntmps48
  go_wp2
  go_ret
  exact ⟨by first|rfl|(simp;done)|(simp [*];done),by repeat (first|exact Drawn0.refl _|apply Drawn0.step)⟩
end Go.Proofs.YtehdmplngmbnnaaDoor.P
namespace Go.Proofs.YtehdmplngmbnnaaDoor.P
open Go.RowKit Go.Proofs.YtehdmplngmbnnaaDoorW.PrintWords Go.Proofs.YtehdmplngmbnnaaDoorW.PrintLast Go.Proofs.YtehdmplngmbnnaaDoorW.PrintMore
attribute [local go_sem] qbV qbW qcC qcD qbQ qbR qbX qbY
attribute [local go_sem] qbL
set_option linter.unusedVariables false
set_option linter.unusedSimpArgs false
mutual
def ident_IsName.j0:Nat→ByteArray→Bool→Option (Bool)
 | 0,_,_=>none
 | k+1,x0,x21=>if x21=true then (some false) else (ident_IsName.l0 k x0 (x0.size:Int) 0)
def ident_IsName.l0:Nat→ByteArray→Int→Int→Option (Bool)
 | 0,_,_,_=>none
 | k+1,x0,x23,x24=>if x24 < x23 then (if 0≤x24 then (if x24 < (x0.size:Int) then ((ident_digit.f (bt x0 x24)).bind fun t102=>(if t102=true then (ident_IsName.l0 k x0 x23 (wrap64 (x24+1))) else (if (bt x0 x24)=95 then (ident_IsName.l0 k x0 x23 (wrap64 (x24+1))) else (if (bt x0 x24) < 97 then (some false) else (if (bt x0 x24) > 122 then (some false) else (ident_IsName.l0 k x0 x23 (wrap64 (x24+1)))))))) else (none)) else (none)) else (some true)
end
def ident_IsName.f (k:Nat) (a0:ByteArray):Option (Bool):=if a0.toList=([]:List UInt8) then (ident_IsName.j0 k a0 true) else (if (a0.size:Int) > 16 then (ident_IsName.j0 k a0 true) else (if 0 < (a0.size:Int) then ((ident_digit.f (bt a0 0)).bind fun t101=>(if t101=true then (ident_IsName.j0 k a0 true) else (ident_IsName.j0 k a0 ((bt a0 0) == 95)))) else (none)))
set_option maxHeartbeats 8000000 in
set_option maxRecDepth 100000 in
theorem ident_IsName.calls (k:Nat) (a0:ByteArray) (r:Bool) (w:World) (h:ident_IsName.f k a0=some r) :
  Calls Tryd.prog 31 #[.string a0] w fun e w'=>e=.returned (.bool r)∧Drawn0 w w':=by
 have H:(if a0.toList=([]:List UInt8) then (ident_IsName.j0 k a0 true) else (if (a0.size:Int) > 16 then (ident_IsName.j0 k a0 true) else (if 0 < (a0.size:Int) then ((ident_digit.f (bt a0 0)).bind fun t101=>(if t101=true then (ident_IsName.j0 k a0 true) else (ident_IsName.j0 k a0 ((bt a0 0) == 95)))) else (none))))=some r:=h
 clear h
 have HC2:=Aside0.mk H
 clear H
 go_enter Tryd.func31,Tryd.ntmps31
 go_upto_region 1 with (fail)
 go_cut [21] (fun v21 wc=>∃ (kq:Nat) (x21_1:Bool),v21=.bool x21_1∧Aside0 (ident_IsName.j0 kq a0 x21_1=some r)∧Aside0 (kq≤k)∧Drawn0 w wc)
 case first =>
  have H:=HC2.out
  clear HC2
  by_cases c3:a0.toList=([]:List UInt8)
  ·rw [if_pos c3] at H
   have c3b0:(a0.toList == ([]:List UInt8))=true:=beq_iff_eq.mpr c3
   have c3b1:(a0.toList != ([]:List UInt8))=false:=bne_eq_false_iff_eq.mpr c3
   clear c3
   (first|rw [c3b0]|(simp only [qaX,qaY];rw [c3b0])|skip)
   have H':=Aside0.mk H
   clear H
   go_wp2
   go_meet
   case rel=>exact ⟨_,(true),(by first|rfl|(simp;done)|(simp [*];done)),H',⟨by first|omega|exact Nat.le_refl _⟩,by repeat (first|exact Drawn0.refl _|apply Drawn0.step)⟩
  ·rw [if_neg c3] at H
   have c3b0:(a0.toList == ([]:List UInt8))=false:=beq_eq_false_iff_ne.mpr c3
   have c3b1:(a0.toList != ([]:List UInt8))=true:=bne_iff_ne.mpr c3
   (first|rw [c3b0]|(simp only [qaX,qaY];rw [c3b0])|skip)
   by_cases c4:(a0.size:Int) > 16
   ·rw [if_pos c4] at H
    have c4b0:decide (16 < (a0.size:Int))=true:=decide_eq_true c4
    have c4b1:decide (16 < a0.size)=true:=decide_eq_true (by omega)
    clear c4
    have H':=Aside0.mk H
    clear H
    go_wp2
    go_meet
    case rel=>exact ⟨_,(true),(by first|rfl|(simp;done)|(simp [*];done)),H',⟨by first|omega|exact Nat.le_refl _⟩,by repeat (first|exact Drawn0.refl _|apply Drawn0.step)⟩
   ·rw [if_neg c4] at H
    have c4b0:decide (16 < (a0.size:Int))=false:=decide_eq_false c4
    have c4b1:decide (16 < a0.size)=false:=decide_eq_false (by omega)
    clear c4
    by_cases c5:0 < (a0.size:Int)
    ·rw [if_pos c5] at H
     have c5b0:decide (0 < (a0.size:Int))=true:=decide_eq_true c5
     have c5b1:decide (0 < a0.size)=true:=decide_eq_true (by omega)
     clear c5
     replace H:=Option.bind_eq_some_iff.mp H
     obtain ⟨t101,A70,H⟩:=H
     replace H:(if t101=true then (ident_IsName.j0 k a0 true) else (ident_IsName.j0 k a0 ((bt a0 0) == 95)))=some r:=H
     have A7:=Aside0.mk A70
     clear A70
     by_cases c8:t101=true
     ·subst c8
      have H1:(ident_IsName.j0 k a0 true)=some r:=by rw [if_pos rfl] at H;exact H
      clear H
      have H:=H1
      clear H1
      have H':=Aside0.mk H
      clear H
      have p6:0≤(0:Int):=(by omega)
      have q6:0 < a0.size:=(by have:(0:Int) < (a0.size:Int):=of_decide_eq_true (by first|(with_reducible assumption)|assumption);omega)
      have hx6:∀ h:0 < a0.size,((a0[0]'h).toNat:Int)=bt a0 0:=qcI a0 0
      clear p6
      have qi6:(0 < (a0.size:Int))=True:=eq_true (of_decide_eq_true (by first|(with_reducible assumption)|assumption))
      replace q6:=eq_true q6
      go_wp2_with (first|(go_at_call 48;(with_reducible refine (ident_digit.calls (bt a0 0) true _ A7.out).mono ?_);rintro e w' ⟨rfl,⟨nd,rfl⟩⟩))
      go_meet
      case rel=>exact ⟨_,(true),(by first|rfl|(simp;done)|(simp [*];done)),H',⟨by first|omega|exact Nat.le_refl _⟩,by repeat (first|exact Drawn0.refl _|apply Drawn0.step)⟩
     ·replace c8:=Bool.eq_false_iff.mpr c8
      subst c8
      have H1:(ident_IsName.j0 k a0 ((bt a0 0) == 95))=some r:=by rw [if_neg (show ¬ (false=true) by decide)] at H;exact H
      clear H
      have H:=H1
      clear H1
      have H':=Aside0.mk H
      clear H
      have p6:0≤(0:Int):=(by omega)
      have q6:0 < a0.size:=(by have:(0:Int) < (a0.size:Int):=of_decide_eq_true (by first|(with_reducible assumption)|assumption);omega)
      have hx6:∀ h:0 < a0.size,((a0[0]'h).toNat:Int)=bt a0 0:=qcI a0 0
      clear p6
      have qi6:(0 < (a0.size:Int))=True:=eq_true (of_decide_eq_true (by first|(with_reducible assumption)|assumption))
      replace q6:=eq_true q6
      go_wp2_with (first|(go_at_call 48;(with_reducible refine (ident_digit.calls (bt a0 0) false _ A7.out).mono ?_);rintro e w' ⟨rfl,⟨nd,rfl⟩⟩;have p9:0≤(0:Int):=(by omega);have q9:0 < a0.size:=(by have:(0:Int) < (a0.size:Int):=of_decide_eq_true (by first|(with_reducible assumption)|assumption);omega);have hx9:∀ h:0 < a0.size,((a0[0]'h).toNat:Int)=bt a0 0:=qcI a0 0;clear p9;have qi9:(0 < (a0.size:Int))=True:=eq_true (of_decide_eq_true (by first|(with_reducible assumption)|assumption));replace q9:=eq_true q9))
      go_meet
      case rel=>exact ⟨_,(((bt a0 0) == 95)),(by first|rfl|(simp;done)|(simp [*];done)),H',⟨by first|omega|exact Nat.le_refl _⟩,by repeat (first|exact Drawn0.refl _|apply Drawn0.step)⟩
    ·rw [if_neg c5] at H
     exact absurd H (by simp)
 case rest =>
  clear HC2
  try clear p2
  try clear c3
  try clear c3b0
  try clear c3b1
  try clear c4
  try clear c4b0
  try clear c4b1
  try clear c5
  try clear c5b0
  try clear c5b1
  try clear p6
  try clear q6
  try clear hx6
  try clear qi6
  try clear c8
  try clear p9
  try clear q9
  try clear hx9
  try clear qi9
  try clear p6
  try clear p9
  try clear q6
  try clear q9
  obtain ⟨kq,x21_1,rfl,HA,HJ1,⟨mc1,rfl⟩⟩:=hcut
  cases kq with
  | zero=>exact absurd HA.out (by simp [ident_IsName.j0])
  | succ kj1 =>
   have H:=HA.out
   clear HA
   simp only [ident_IsName.j0] at H
   by_cases c10:x21_1=true
   ·subst c10
    have H1:(some false)=some r:=by rw [if_pos rfl] at H;exact H
    clear H
    have H:=H1
    clear H1
    obtain rfl:=Option.some.inj H
    go_wp2
    go_ret
    exact ⟨by first|rfl|(simp;done)|(simp [*];done),by repeat (first|exact Drawn0.refl _|apply Drawn0.step)⟩
   ·replace c10:=Bool.eq_false_iff.mpr c10
    subst c10
    have H1:(ident_IsName.l0 kj1 a0 (a0.size:Int) 0)=some r:=by rw [if_neg (show ¬ (false=true) by decide)] at H;exact H
    clear H
    have H:=H1
    clear H1
    have H':=Aside0.mk H
    clear H
    go_wp2
    go_loopg [24] kj1 (fun kq v24 w'=>∃ (x24_2:Int),v24=.int .i64 x24_2∧Aside0 (ident_IsName.l0 kq a0 (a0.size:Int) x24_2=some r)∧Aside0 (kq≤kj1)∧Drawn0 w w')
    case atStart=>exact ⟨(0),(by first|rfl|(simp;done)|(simp [*];done)),H',⟨Nat.le_refl _⟩,by repeat (first|exact Drawn0.refl _|apply Drawn0.step)⟩
    case round =>
     clear H'
     try clear c1
     try clear p2
     try clear c3
     try clear c3b0
     try clear c3b1
     try clear c4
     try clear c4b0
     try clear c4b1
     try clear c5
     try clear c5b0
     try clear c5b1
     try clear p6
     try clear q6
     try clear hx6
     try clear qi6
     try clear c8
     try clear p9
     try clear q9
     try clear hx9
     try clear qi9
     try clear c10
     try clear p2
     try clear p6
     try clear p9
     try clear q6
     try clear q9
     obtain ⟨x24_2,rfl,HA,HK2,⟨m2,rfl⟩⟩:=hrel
     cases gk with
     | zero=>exact absurd HA.out (by simp [ident_IsName.l0])
     | succ k2 =>
      have H:=HA.out
      clear HA
      simp only [ident_IsName.l0] at H
      by_cases c11:x24_2 < (a0.size:Int)
      ·rw [if_pos c11] at H
       have c11b0:decide (x24_2 < (a0.size:Int))=true:=decide_eq_true c11
       clear c11
       by_cases c12:0≤x24_2
       ·rw [if_pos c12] at H
        have c12b0:decide (0≤x24_2)=true:=decide_eq_true c12
        clear c12
        by_cases c13:x24_2 < (a0.size:Int)
        ·rw [if_pos c13] at H
         have c13b0:decide (x24_2 < (a0.size:Int))=true:=decide_eq_true c13
         clear c13
         replace H:=Option.bind_eq_some_iff.mp H
         obtain ⟨t102,A150,H⟩:=H
         replace H:(if t102=true then (ident_IsName.l0 k2 a0 (a0.size:Int) (wrap64 (x24_2+1))) else (if (bt a0 x24_2)=95 then (ident_IsName.l0 k2 a0 (a0.size:Int) (wrap64 (x24_2+1))) else (if (bt a0 x24_2) < 97 then (some false) else (if (bt a0 x24_2) > 122 then (some false) else (ident_IsName.l0 k2 a0 (a0.size:Int) (wrap64 (x24_2+1)))))))=some r:=H
         have A15:=Aside0.mk A150
         clear A150
         by_cases c16:t102=true
         ·subst c16
          have H1:(ident_IsName.l0 k2 a0 (a0.size:Int) (wrap64 (x24_2+1)))=some r:=by rw [if_pos rfl] at H;exact H
          clear H
          have H:=H1
          clear H1
          have H':=Aside0.mk H
          clear H
          have p14:0≤(x24_2:Int):=of_decide_eq_true (by first|(with_reducible assumption)|assumption)
          have q14:x24_2 < (a0.size:Int):=of_decide_eq_true (by first|(with_reducible assumption)|assumption)
          have hx14:=qcI a0 x24_2
          replace p14:=eq_true p14
          replace q14:=eq_true q14
          go_wp2_with (first|((with_reducible refine qaO (f:=48) rfl ?_);refine qbG (some 31) rfl rfl Tryd.func48 (by kernel_rfl) rfl #[.int .u8 (bt a0 x24_2)] rfl (by (try simp only [List.map_toArray,List.map_cons,List.map_nil]);first|done|rfl|(simp only [List.length_drop,List.length_take];rfl)) ?_;(with_reducible refine (ident_digit.calls (bt a0 x24_2) true _ A15.out).mono ?_);rintro e w' ⟨rfl,⟨nd,rfl⟩⟩;refine ⟨_,rfl,?_⟩))
          go_roundg k2
          case measure=>have:=HJ1.out;have:=HK2.out;omega
          case rel=>exact ⟨(wrap64 (x24_2+1)),(by first|rfl|(simp;done)|(simp [*];done)),H',⟨by have:=HJ1.out;have:=HK2.out;omega⟩,by repeat (first|exact Drawn0.refl _|apply Drawn0.step)⟩
         ·replace c16:=Bool.eq_false_iff.mpr c16
          subst c16
          have H1:(if (bt a0 x24_2)=95 then (ident_IsName.l0 k2 a0 (a0.size:Int) (wrap64 (x24_2+1))) else (if (bt a0 x24_2) < 97 then (some false) else (if (bt a0 x24_2) > 122 then (some false) else (ident_IsName.l0 k2 a0 (a0.size:Int) (wrap64 (x24_2+1))))))=some r:=by rw [if_neg (show ¬ (false=true) by decide)] at H;exact H
          clear H
          have H:=H1
          clear H1
          by_cases c17:(bt a0 x24_2)=95
          ·rw [if_pos c17] at H
           have c17b0:((bt a0 x24_2) == 95)=true:=beq_iff_eq.mpr c17
           have c17b1:((bt a0 x24_2) != 95)=false:=bne_eq_false_iff_eq.mpr c17
           clear c17
           have H':=Aside0.mk H
           clear H
           have p14:0≤(x24_2:Int):=of_decide_eq_true (by first|(with_reducible assumption)|assumption)
           have q14:x24_2 < (a0.size:Int):=of_decide_eq_true (by first|(with_reducible assumption)|assumption)
           have hx14:=qcI a0 x24_2
           replace p14:=eq_true p14
           replace q14:=eq_true q14
           go_wp2_with (first|((with_reducible refine qaO (f:=48) rfl ?_);refine qbG (some 31) rfl rfl Tryd.func48 (by kernel_rfl) rfl #[.int .u8 (bt a0 x24_2)] rfl (by (try simp only [List.map_toArray,List.map_cons,List.map_nil]);first|done|rfl|(simp only [List.length_drop,List.length_take];rfl)) ?_;(with_reducible refine (ident_digit.calls (bt a0 x24_2) false _ A15.out).mono ?_);rintro e w' ⟨rfl,⟨nd,rfl⟩⟩;refine ⟨_,rfl,?_⟩))
           go_roundg k2
           case measure=>have:=HJ1.out;have:=HK2.out;omega
           case rel=>exact ⟨(wrap64 (x24_2+1)),(by first|rfl|(simp;done)|(simp [*];done)),H',⟨by have:=HJ1.out;have:=HK2.out;omega⟩,by repeat (first|exact Drawn0.refl _|apply Drawn0.step)⟩
          ·rw [if_neg c17] at H
           have c17b0:((bt a0 x24_2) == 95)=false:=beq_eq_false_iff_ne.mpr c17
           have c17b1:((bt a0 x24_2) != 95)=true:=bne_iff_ne.mpr c17
           by_cases c18:(bt a0 x24_2) < 97
           ·rw [if_pos c18] at H
            have c18b0:decide ((bt a0 x24_2) < 97)=true:=decide_eq_true c18
            clear c18
            obtain rfl:=Option.some.inj H
            have p14:0≤(x24_2:Int):=of_decide_eq_true (by first|(with_reducible assumption)|assumption)
            have q14:x24_2 < (a0.size:Int):=of_decide_eq_true (by first|(with_reducible assumption)|assumption)
            have hx14:=qcI a0 x24_2
            replace p14:=eq_true p14
            replace q14:=eq_true q14
            go_wp2_with (first|((with_reducible refine qaO (f:=48) rfl ?_);refine qbG (some 31) rfl rfl Tryd.func48 (by kernel_rfl) rfl #[.int .u8 (bt a0 x24_2)] rfl (by (try simp only [List.map_toArray,List.map_cons,List.map_nil]);first|done|rfl|(simp only [List.length_drop,List.length_take];rfl)) ?_;(with_reducible refine (ident_digit.calls (bt a0 x24_2) false _ A15.out).mono ?_);rintro e w' ⟨rfl,⟨nd,rfl⟩⟩;refine ⟨_,rfl,?_⟩))
            go_ret
            exact ⟨by first|rfl|(simp;done)|(simp [*];done),by repeat (first|exact Drawn0.refl _|apply Drawn0.step)⟩
           ·rw [if_neg c18] at H
            have c18b0:decide ((bt a0 x24_2) < 97)=false:=decide_eq_false c18
            clear c18
            by_cases c19:(bt a0 x24_2) > 122
            ·rw [if_pos c19] at H
             have c19b0:decide (122 < (bt a0 x24_2))=true:=decide_eq_true c19
             clear c19
             obtain rfl:=Option.some.inj H
             have p14:0≤(x24_2:Int):=of_decide_eq_true (by first|(with_reducible assumption)|assumption)
             have q14:x24_2 < (a0.size:Int):=of_decide_eq_true (by first|(with_reducible assumption)|assumption)
             have hx14:=qcI a0 x24_2
             replace p14:=eq_true p14
             replace q14:=eq_true q14
             go_wp2_with (first|((with_reducible refine qaO (f:=48) rfl ?_);refine qbG (some 31) rfl rfl Tryd.func48 (by kernel_rfl) rfl #[.int .u8 (bt a0 x24_2)] rfl (by (try simp only [List.map_toArray,List.map_cons,List.map_nil]);first|done|rfl|(simp only [List.length_drop,List.length_take];rfl)) ?_;(with_reducible refine (ident_digit.calls (bt a0 x24_2) false _ A15.out).mono ?_);rintro e w' ⟨rfl,⟨nd,rfl⟩⟩;refine ⟨_,rfl,?_⟩))
             go_ret
             exact ⟨by first|rfl|(simp;done)|(simp [*];done),by repeat (first|exact Drawn0.refl _|apply Drawn0.step)⟩
            ·rw [if_neg c19] at H
             have c19b0:decide (122 < (bt a0 x24_2))=false:=decide_eq_false c19
             clear c19
             have H':=Aside0.mk H
             clear H
             have p14:0≤(x24_2:Int):=of_decide_eq_true (by first|(with_reducible assumption)|assumption)
             have q14:x24_2 < (a0.size:Int):=of_decide_eq_true (by first|(with_reducible assumption)|assumption)
             have hx14:=qcI a0 x24_2
             replace p14:=eq_true p14
             replace q14:=eq_true q14
             go_wp2_with (first|((with_reducible refine qaO (f:=48) rfl ?_);refine qbG (some 31) rfl rfl Tryd.func48 (by kernel_rfl) rfl #[.int .u8 (bt a0 x24_2)] rfl (by (try simp only [List.map_toArray,List.map_cons,List.map_nil]);first|done|rfl|(simp only [List.length_drop,List.length_take];rfl)) ?_;(with_reducible refine (ident_digit.calls (bt a0 x24_2) false _ A15.out).mono ?_);rintro e w' ⟨rfl,⟨nd,rfl⟩⟩;refine ⟨_,rfl,?_⟩))
             go_roundg k2
             case measure=>have:=HJ1.out;have:=HK2.out;omega
             case rel=>exact ⟨(wrap64 (x24_2+1)),(by first|rfl|(simp;done)|(simp [*];done)),H',⟨by have:=HJ1.out;have:=HK2.out;omega⟩,by repeat (first|exact Drawn0.refl _|apply Drawn0.step)⟩
        ·rw [if_neg c13] at H
         exact absurd H (by simp)
       ·rw [if_neg c12] at H
        exact absurd H (by simp)
      ·rw [if_neg c11] at H
       have c11b0:decide (x24_2 < (a0.size:Int))=false:=decide_eq_false c11
       clear c11
       obtain rfl:=Option.some.inj H
       go_wp2
       go_ret
       exact ⟨by first|rfl|(simp;done)|(simp [*];done),by repeat (first|exact Drawn0.refl _|apply Drawn0.step)⟩
end Go.Proofs.YtehdmplngmbnnaaDoor.P
namespace Go.Proofs.YtehdmplngmbnnaaDoor.P
open Go.RowKit Go.Proofs.YtehdmplngmbnnaaDoorW.PrintWords Go.Proofs.YtehdmplngmbnnaaDoorW.PrintLast Go.Proofs.YtehdmplngmbnnaaDoorW.PrintMore
attribute [local go_sem] qbV qbW qcC qcD qbQ qbR qbX qbY
attribute [local go_sem] qbL
set_option linter.unusedVariables false
set_option linter.unusedSimpArgs false
def sawmillref02_digit.f (a0:Int):Option (Bool):=if a0 ≥ 48 then (some (decide (a0≤57))) else (some false)
set_option maxHeartbeats 8000000 in
set_option maxRecDepth 100000 in
theorem sawmillref02_digit.calls (a0:Int) (r:Bool) (w:World) (h:sawmillref02_digit.f a0=some r) :
  Calls Tryd.prog 49 #[.int .u8 a0] w fun e w'=>e=.returned (.bool r)∧Drawn0 w w':=by
 have H:(if a0 ≥ 48 then (some (decide (a0≤57))) else (some false))=some r:=h
 clear h
 by_cases c2:a0 ≥ 48
 ·rw [if_pos c2] at H
  have c2b0:decide (48≤a0)=true:=decide_eq_true c2
  clear c2
  obtain rfl:=Option.some.inj H
  go_enter Tryd.func49,Tryd.ntmps49
  go_wp2
  go_ret
  exact ⟨by first|rfl|(simp;done)|(simp [*];done),by repeat (first|exact Drawn0.refl _|apply Drawn0.step)⟩
 ·rw [if_neg c2] at H
  have c2b0:decide (48≤a0)=false:=decide_eq_false c2
  clear c2
  obtain rfl:=Option.some.inj H
  go_enter Tryd.func49,Tryd.ntmps49
  go_wp2
  go_ret
  exact ⟨by first|rfl|(simp;done)|(simp [*];done),by repeat (first|exact Drawn0.refl _|apply Drawn0.step)⟩
end Go.Proofs.YtehdmplngmbnnaaDoor.P
namespace Go.Proofs.YtehdmplngmbnnaaDoor.P
open Go.RowKit Go.Proofs.YtehdmplngmbnnaaDoorW.PrintWords Go.Proofs.YtehdmplngmbnnaaDoorW.PrintLast Go.Proofs.YtehdmplngmbnnaaDoorW.PrintMore
attribute [local go_sem] qbV qbW qcC qcD qbQ qbR qbX qbY
attribute [local go_sem] qbL
set_option linter.unusedVariables false
set_option linter.unusedSimpArgs false
mutual
def sawmillref02_IsName.j0:Nat→ByteArray→Bool→Option (Bool)
 | 0,_,_=>none
 | k+1,x0,x12=>if x12=true then (some false) else (sawmillref02_IsName.l0 k x0 0)
def sawmillref02_IsName.l0:Nat→ByteArray→Int→Option (Bool)
 | 0,_,_=>none
 | k+1,x0,x3=>if x3 < (x0.size:Int) then (if 0≤x3 then (if (bt x0 x3) ≥ 97 then (if ((bt x0 x3)≤122) then (sawmillref02_IsName.l0 k x0 (wrap64 (x3+1))) else (if x3=0 then (some false) else (if (bt x0 x3)=95 then (sawmillref02_IsName.l0 k x0 (wrap64 (x3+1))) else ((sawmillref02_digit.f (bt x0 x3)).bind fun t101=>(if t101=true then (sawmillref02_IsName.l0 k x0 (wrap64 (x3+1))) else (some false)))))) else (if x3=0 then (some false) else (if (bt x0 x3)=95 then (sawmillref02_IsName.l0 k x0 (wrap64 (x3+1))) else ((sawmillref02_digit.f (bt x0 x3)).bind fun t102=>(if t102=true then (sawmillref02_IsName.l0 k x0 (wrap64 (x3+1))) else (some false)))))) else (none)) else (some true)
end
def sawmillref02_IsName.f (k:Nat) (a0:ByteArray):Option (Bool):=if (a0.size:Int) < 1 then (sawmillref02_IsName.j0 k a0 true) else (sawmillref02_IsName.j0 k a0 (decide ((a0.size:Int) > 16)))
theorem sawmillref02_IsName.mono_l:∀ k,(∀ y0 y1,LeO (sawmillref02_IsName.j0 k y0 y1) (sawmillref02_IsName.j0 (k+1) y0 y1))∧(∀ y0 y1,LeO (sawmillref02_IsName.l0 k y0 y1) (sawmillref02_IsName.l0 (k+1) y0 y1))
 | 0=>⟨fun _ _ r h=>by simp [sawmillref02_IsName.j0] at h,fun _ _ r h=>by simp [sawmillref02_IsName.l0] at h⟩
 | k+1=>by
  obtain ⟨ih0,ih1⟩:=sawmillref02_IsName.mono_l k
  refine ⟨?_,?_⟩
  ·intro y0 y1
   unfold sawmillref02_IsName.j0
   repeat' first
   | (with_reducible exact ih0 _ _)
   | (with_reducible exact ih1 _ _)
   | (with_reducible exact LeO.refl _)
   | (with_reducible exact LeO.none _)
   | (with_reducible refine LeO.ite ?_ ?_)
   | (with_reducible refine LeO.bind ?_ (fun _=>?_))
   | exact ih0 _ _
   | exact ih1 _ _
   | exact LeO.none _
   | refine LeO.ite ?_ ?_
   | refine LeO.bind ?_ (fun _=>?_)
  ·intro y0 y1
   unfold sawmillref02_IsName.l0
   repeat' first
   | (with_reducible exact ih0 _ _)
   | (with_reducible exact ih1 _ _)
   | (with_reducible exact LeO.refl _)
   | (with_reducible exact LeO.none _)
   | (with_reducible refine LeO.ite ?_ ?_)
   | (with_reducible refine LeO.bind ?_ (fun _=>?_))
   | exact ih0 _ _
   | exact ih1 _ _
   | exact LeO.none _
   | refine LeO.ite ?_ ?_
   | refine LeO.bind ?_ (fun _=>?_)
theorem sawmillref02_IsName.mono:∀ a0 k,LeO (sawmillref02_IsName.f k a0) (sawmillref02_IsName.f (k+1) a0):=by
 intro a0 k
 obtain ⟨ih0,ih1⟩:=sawmillref02_IsName.mono_l k
 unfold sawmillref02_IsName.f
 repeat' first
   | (with_reducible exact ih0 _ _)
   | (with_reducible exact ih1 _ _)
   | (with_reducible exact LeO.refl _)
   | (with_reducible exact LeO.none _)
   | (with_reducible refine LeO.ite ?_ ?_)
   | (with_reducible refine LeO.bind ?_ (fun _=>?_))
   | exact ih0 _ _
   | exact ih1 _ _
   | exact LeO.none _
   | refine LeO.ite ?_ ?_
   | refine LeO.bind ?_ (fun _=>?_)
set_option maxHeartbeats 8000000 in
set_option maxRecDepth 100000 in
theorem sawmillref02_IsName.calls (k:Nat) (a0:ByteArray) (r:Bool) (w:World) (h:sawmillref02_IsName.f k a0=some r) :
  Calls Tryd.prog 32 #[.string a0] w fun e w'=>e=.returned (.bool r)∧Drawn0 w w':=by
 have H:(if (a0.size:Int) < 1 then (sawmillref02_IsName.j0 k a0 true) else (sawmillref02_IsName.j0 k a0 (decide ((a0.size:Int) > 16))))=some r:=h
 clear h
 have HC2:=Aside0.mk H
 clear H
 go_enter Tryd.func32,Tryd.ntmps32
 go_upto_region 1 with (fail)
 go_cut [12] (fun v12 wc=>∃ (kq:Nat) (x12_1:Bool),v12=.bool x12_1∧Aside0 (sawmillref02_IsName.j0 kq a0 x12_1=some r)∧Aside0 (kq≤k)∧Drawn0 w wc)
 case first =>
  have H:=HC2.out
  clear HC2
  by_cases c3:(a0.size:Int) < 1
  ·rw [if_pos c3] at H
   have c3b0:decide ((a0.size:Int) < 1)=true:=decide_eq_true c3
   have c3b1:decide (a0.size < 1)=true:=decide_eq_true (by omega)
   clear c3
   (first|rw [c3b0]|(simp only [qaX,qaY];rw [c3b0])|skip)
   have H':=Aside0.mk H
   clear H
   go_wp2
   go_meet
   case rel=>exact ⟨_,(true),(by first|rfl|(simp;done)|(simp [*];done)),H',⟨by first|omega|exact Nat.le_refl _⟩,by repeat (first|exact Drawn0.refl _|apply Drawn0.step)⟩
  ·rw [if_neg c3] at H
   have c3b0:decide ((a0.size:Int) < 1)=false:=decide_eq_false c3
   have c3b1:decide (a0.size < 1)=false:=decide_eq_false (by omega)
   clear c3
   (first|rw [c3b0]|(simp only [qaX,qaY];rw [c3b0])|skip)
   have H':=Aside0.mk H
   clear H
   go_wp2
   go_meet
   case rel=>exact ⟨_,(decide ((a0.size:Int) > 16)),(by first|rfl|(simp;done)|(simp [*];done)),H',⟨by first|omega|exact Nat.le_refl _⟩,by repeat (first|exact Drawn0.refl _|apply Drawn0.step)⟩
 case rest =>
  clear HC2
  try clear p2
  try clear c3
  try clear c3b0
  try clear c3b1
  obtain ⟨kq,x12_1,rfl,HA,HJ1,⟨mc1,rfl⟩⟩:=hcut
  cases kq with
  | zero=>exact absurd HA.out (by simp [sawmillref02_IsName.j0])
  | succ kj1 =>
   have H:=HA.out
   clear HA
   simp only [sawmillref02_IsName.j0] at H
   by_cases c4:x12_1=true
   ·subst c4
    have H1:(some false)=some r:=by rw [if_pos rfl] at H;exact H
    clear H
    have H:=H1
    clear H1
    obtain rfl:=Option.some.inj H
    go_wp2
    go_ret
    exact ⟨by first|rfl|(simp;done)|(simp [*];done),by repeat (first|exact Drawn0.refl _|apply Drawn0.step)⟩
   ·replace c4:=Bool.eq_false_iff.mpr c4
    subst c4
    have H1:(sawmillref02_IsName.l0 kj1 a0 0)=some r:=by rw [if_neg (show ¬ (false=true) by decide)] at H;exact H
    clear H
    have H:=H1
    clear H1
    have H':=Aside0.mk H
    clear H
    go_wp2
    go_loopg [3] kj1 (fun kq v3 w'=>∃ (x3_2:Int),v3=.int .i64 x3_2∧Aside0 (sawmillref02_IsName.l0 kq a0 x3_2=some r)∧Aside0 (kq≤kj1)∧Drawn0 w w')
    case atStart=>exact ⟨(0),(by first|rfl|(simp;done)|(simp [*];done)),H',⟨Nat.le_refl _⟩,by repeat (first|exact Drawn0.refl _|apply Drawn0.step)⟩
    case round =>
     clear H'
     try clear c1
     try clear p2
     try clear c3
     try clear c3b0
     try clear c3b1
     try clear c4
     try clear p2
     obtain ⟨x3_2,rfl,HA,HK2,⟨m2,rfl⟩⟩:=hrel
     cases gk with
     | zero=>exact absurd HA.out (by simp [sawmillref02_IsName.l0])
     | succ k2 =>
      have H:=HA.out
      clear HA
      simp only [sawmillref02_IsName.l0] at H
      by_cases c5:x3_2 < (a0.size:Int)
      ·rw [if_pos c5] at H
       have c5b0:decide (x3_2 < (a0.size:Int))=true:=decide_eq_true c5
       clear c5
       by_cases c6:0≤x3_2
       ·rw [if_pos c6] at H
        have c6b0:decide (0≤x3_2)=true:=decide_eq_true c6
        clear c6
        by_cases c8:(bt a0 x3_2) ≥ 97
        ·rw [if_pos c8] at H
         have c8b0:decide (97≤(bt a0 x3_2))=true:=decide_eq_true c8
         clear c8
         by_cases c10:((bt a0 x3_2)≤122)
         ·rw [if_pos c10] at H
          have c10b0:decide ((bt a0 x3_2)≤122)=true:=decide_eq_true c10
          clear c10
          have H':=Aside0.mk H
          clear H
          have p7:0≤(x3_2:Int):=of_decide_eq_true (by first|(with_reducible assumption)|assumption)
          have q7:x3_2 < (a0.size:Int):=of_decide_eq_true (by first|(with_reducible assumption)|assumption)
          have hx7:=qcI a0 x3_2
          replace p7:=eq_true p7
          replace q7:=eq_true q7
          have p9:0≤(x3_2:Int):=of_decide_eq_true (by first|(with_reducible assumption)|assumption)
          have q9:x3_2 < (a0.size:Int):=of_decide_eq_true (by first|(with_reducible assumption)|assumption)
          have hx9:=qcI a0 x3_2
          replace p9:=eq_true p9
          replace q9:=eq_true q9
          go_wp2
          go_roundg k2
          case measure=>have:=HJ1.out;have:=HK2.out;omega
          case rel=>exact ⟨(wrap64 (x3_2+1)),(by first|rfl|(simp;done)|(simp [*];done)),H',⟨by have:=HJ1.out;have:=HK2.out;omega⟩,by repeat (first|exact Drawn0.refl _|apply Drawn0.step)⟩
         ·rw [if_neg c10] at H
          have c10b0:decide ((bt a0 x3_2)≤122)=false:=decide_eq_false c10
          clear c10
          by_cases c11:x3_2=0
          ·rw [if_pos c11] at H
           have c11b0:(x3_2 == 0)=true:=beq_iff_eq.mpr c11
           have c11b1:(x3_2 != 0)=false:=bne_eq_false_iff_eq.mpr c11
           clear c11
           obtain rfl:=Option.some.inj H
           have p7:0≤(x3_2:Int):=of_decide_eq_true (by first|(with_reducible assumption)|assumption)
           have q7:x3_2 < (a0.size:Int):=of_decide_eq_true (by first|(with_reducible assumption)|assumption)
           have hx7:=qcI a0 x3_2
           replace p7:=eq_true p7
           replace q7:=eq_true q7
           have p9:0≤(x3_2:Int):=of_decide_eq_true (by first|(with_reducible assumption)|assumption)
           have q9:x3_2 < (a0.size:Int):=of_decide_eq_true (by first|(with_reducible assumption)|assumption)
           have hx9:=qcI a0 x3_2
           replace p9:=eq_true p9
           replace q9:=eq_true q9
           go_wp2
           go_ret
           exact ⟨by first|rfl|(simp;done)|(simp [*];done),by repeat (first|exact Drawn0.refl _|apply Drawn0.step)⟩
          ·rw [if_neg c11] at H
           have c11b0:(x3_2 == 0)=false:=beq_eq_false_iff_ne.mpr c11
           have c11b1:(x3_2 != 0)=true:=bne_iff_ne.mpr c11
           by_cases c13:(bt a0 x3_2)=95
           ·rw [if_pos c13] at H
            have c13b0:((bt a0 x3_2) == 95)=true:=beq_iff_eq.mpr c13
            have c13b1:((bt a0 x3_2) != 95)=false:=bne_eq_false_iff_eq.mpr c13
            clear c13
            have H':=Aside0.mk H
            clear H
            have p7:0≤(x3_2:Int):=of_decide_eq_true (by first|(with_reducible assumption)|assumption)
            have q7:x3_2 < (a0.size:Int):=of_decide_eq_true (by first|(with_reducible assumption)|assumption)
            have hx7:=qcI a0 x3_2
            replace p7:=eq_true p7
            replace q7:=eq_true q7
            have p9:0≤(x3_2:Int):=of_decide_eq_true (by first|(with_reducible assumption)|assumption)
            have q9:x3_2 < (a0.size:Int):=of_decide_eq_true (by first|(with_reducible assumption)|assumption)
            have hx9:=qcI a0 x3_2
            replace p9:=eq_true p9
            replace q9:=eq_true q9
            have p12:0≤(x3_2:Int):=of_decide_eq_true (by first|(with_reducible assumption)|assumption)
            have q12:x3_2 < (a0.size:Int):=of_decide_eq_true (by first|(with_reducible assumption)|assumption)
            have hx12:=qcI a0 x3_2
            replace p12:=eq_true p12
            replace q12:=eq_true q12
            go_wp2
            go_roundg k2
            case measure=>have:=HJ1.out;have:=HK2.out;omega
            case rel=>exact ⟨(wrap64 (x3_2+1)),(by first|rfl|(simp;done)|(simp [*];done)),H',⟨by have:=HJ1.out;have:=HK2.out;omega⟩,by repeat (first|exact Drawn0.refl _|apply Drawn0.step)⟩
           ·rw [if_neg c13] at H
            have c13b0:((bt a0 x3_2) == 95)=false:=beq_eq_false_iff_ne.mpr c13
            have c13b1:((bt a0 x3_2) != 95)=true:=bne_iff_ne.mpr c13
            replace H:=Option.bind_eq_some_iff.mp H
            obtain ⟨t101,A150,H⟩:=H
            replace H:(if t101=true then (sawmillref02_IsName.l0 k2 a0 (wrap64 (x3_2+1))) else (some false))=some r:=H
            have A15:=Aside0.mk A150
            clear A150
            by_cases c16:t101=true
            ·subst c16
             have H1:(sawmillref02_IsName.l0 k2 a0 (wrap64 (x3_2+1)))=some r:=by rw [if_pos rfl] at H;exact H
             clear H
             have H:=H1
             clear H1
             have H':=Aside0.mk H
             clear H
             have p7:0≤(x3_2:Int):=of_decide_eq_true (by first|(with_reducible assumption)|assumption)
             have q7:x3_2 < (a0.size:Int):=of_decide_eq_true (by first|(with_reducible assumption)|assumption)
             have hx7:=qcI a0 x3_2
             replace p7:=eq_true p7
             replace q7:=eq_true q7
             have p9:0≤(x3_2:Int):=of_decide_eq_true (by first|(with_reducible assumption)|assumption)
             have q9:x3_2 < (a0.size:Int):=of_decide_eq_true (by first|(with_reducible assumption)|assumption)
             have hx9:=qcI a0 x3_2
             replace p9:=eq_true p9
             replace q9:=eq_true q9
             have p12:0≤(x3_2:Int):=of_decide_eq_true (by first|(with_reducible assumption)|assumption)
             have q12:x3_2 < (a0.size:Int):=of_decide_eq_true (by first|(with_reducible assumption)|assumption)
             have hx12:=qcI a0 x3_2
             replace p12:=eq_true p12
             replace q12:=eq_true q12
             have p14:0≤(x3_2:Int):=of_decide_eq_true (by first|(with_reducible assumption)|assumption)
             have q14:x3_2 < (a0.size:Int):=of_decide_eq_true (by first|(with_reducible assumption)|assumption)
             have hx14:=qcI a0 x3_2
             replace p14:=eq_true p14
             replace q14:=eq_true q14
             go_wp2_with (first|(go_at_call 49;(with_reducible refine (sawmillref02_digit.calls (bt a0 x3_2) true _ A15.out).mono ?_);rintro e w' ⟨rfl,⟨nd,rfl⟩⟩))
             go_roundg k2
             case measure=>have:=HJ1.out;have:=HK2.out;omega
             case rel=>exact ⟨(wrap64 (x3_2+1)),(by first|rfl|(simp;done)|(simp [*];done)),H',⟨by have:=HJ1.out;have:=HK2.out;omega⟩,by repeat (first|exact Drawn0.refl _|apply Drawn0.step)⟩
            ·replace c16:=Bool.eq_false_iff.mpr c16
             subst c16
             have H1:(some false)=some r:=by rw [if_neg (show ¬ (false=true) by decide)] at H;exact H
             clear H
             have H:=H1
             clear H1
             obtain rfl:=Option.some.inj H
             have p7:0≤(x3_2:Int):=of_decide_eq_true (by first|(with_reducible assumption)|assumption)
             have q7:x3_2 < (a0.size:Int):=of_decide_eq_true (by first|(with_reducible assumption)|assumption)
             have hx7:=qcI a0 x3_2
             replace p7:=eq_true p7
             replace q7:=eq_true q7
             have p9:0≤(x3_2:Int):=of_decide_eq_true (by first|(with_reducible assumption)|assumption)
             have q9:x3_2 < (a0.size:Int):=of_decide_eq_true (by first|(with_reducible assumption)|assumption)
             have hx9:=qcI a0 x3_2
             replace p9:=eq_true p9
             replace q9:=eq_true q9
             have p12:0≤(x3_2:Int):=of_decide_eq_true (by first|(with_reducible assumption)|assumption)
             have q12:x3_2 < (a0.size:Int):=of_decide_eq_true (by first|(with_reducible assumption)|assumption)
             have hx12:=qcI a0 x3_2
             replace p12:=eq_true p12
             replace q12:=eq_true q12
             have p14:0≤(x3_2:Int):=of_decide_eq_true (by first|(with_reducible assumption)|assumption)
             have q14:x3_2 < (a0.size:Int):=of_decide_eq_true (by first|(with_reducible assumption)|assumption)
             have hx14:=qcI a0 x3_2
             replace p14:=eq_true p14
             replace q14:=eq_true q14
             go_wp2_with (first|(go_at_call 49;(with_reducible refine (sawmillref02_digit.calls (bt a0 x3_2) false _ A15.out).mono ?_);rintro e w' ⟨rfl,⟨nd,rfl⟩⟩))
             go_ret
             exact ⟨by first|rfl|(simp;done)|(simp [*];done),by repeat (first|exact Drawn0.refl _|apply Drawn0.step)⟩
        ·rw [if_neg c8] at H
         have c8b0:decide (97≤(bt a0 x3_2))=false:=decide_eq_false c8
         clear c8
         by_cases c17:x3_2=0
         ·rw [if_pos c17] at H
          have c17b0:(x3_2 == 0)=true:=beq_iff_eq.mpr c17
          have c17b1:(x3_2 != 0)=false:=bne_eq_false_iff_eq.mpr c17
          clear c17
          obtain rfl:=Option.some.inj H
          have p7:0≤(x3_2:Int):=of_decide_eq_true (by first|(with_reducible assumption)|assumption)
          have q7:x3_2 < (a0.size:Int):=of_decide_eq_true (by first|(with_reducible assumption)|assumption)
          have hx7:=qcI a0 x3_2
          replace p7:=eq_true p7
          replace q7:=eq_true q7
          go_wp2
          go_ret
          exact ⟨by first|rfl|(simp;done)|(simp [*];done),by repeat (first|exact Drawn0.refl _|apply Drawn0.step)⟩
         ·rw [if_neg c17] at H
          have c17b0:(x3_2 == 0)=false:=beq_eq_false_iff_ne.mpr c17
          have c17b1:(x3_2 != 0)=true:=bne_iff_ne.mpr c17
          by_cases c19:(bt a0 x3_2)=95
          ·rw [if_pos c19] at H
           have c19b0:((bt a0 x3_2) == 95)=true:=beq_iff_eq.mpr c19
           have c19b1:((bt a0 x3_2) != 95)=false:=bne_eq_false_iff_eq.mpr c19
           clear c19
           have H':=Aside0.mk H
           clear H
           have p7:0≤(x3_2:Int):=of_decide_eq_true (by first|(with_reducible assumption)|assumption)
           have q7:x3_2 < (a0.size:Int):=of_decide_eq_true (by first|(with_reducible assumption)|assumption)
           have hx7:=qcI a0 x3_2
           replace p7:=eq_true p7
           replace q7:=eq_true q7
           have p18:0≤(x3_2:Int):=of_decide_eq_true (by first|(with_reducible assumption)|assumption)
           have q18:x3_2 < (a0.size:Int):=of_decide_eq_true (by first|(with_reducible assumption)|assumption)
           have hx18:=qcI a0 x3_2
           replace p18:=eq_true p18
           replace q18:=eq_true q18
           go_wp2
           go_roundg k2
           case measure=>have:=HJ1.out;have:=HK2.out;omega
           case rel=>exact ⟨(wrap64 (x3_2+1)),(by first|rfl|(simp;done)|(simp [*];done)),H',⟨by have:=HJ1.out;have:=HK2.out;omega⟩,by repeat (first|exact Drawn0.refl _|apply Drawn0.step)⟩
          ·rw [if_neg c19] at H
           have c19b0:((bt a0 x3_2) == 95)=false:=beq_eq_false_iff_ne.mpr c19
           have c19b1:((bt a0 x3_2) != 95)=true:=bne_iff_ne.mpr c19
           replace H:=Option.bind_eq_some_iff.mp H
           obtain ⟨t102,A210,H⟩:=H
           replace H:(if t102=true then (sawmillref02_IsName.l0 k2 a0 (wrap64 (x3_2+1))) else (some false))=some r:=H
           have A21:=Aside0.mk A210
           clear A210
           by_cases c22:t102=true
           ·subst c22
            have H1:(sawmillref02_IsName.l0 k2 a0 (wrap64 (x3_2+1)))=some r:=by rw [if_pos rfl] at H;exact H
            clear H
            have H:=H1
            clear H1
            have H':=Aside0.mk H
            clear H
            have p7:0≤(x3_2:Int):=of_decide_eq_true (by first|(with_reducible assumption)|assumption)
            have q7:x3_2 < (a0.size:Int):=of_decide_eq_true (by first|(with_reducible assumption)|assumption)
            have hx7:=qcI a0 x3_2
            replace p7:=eq_true p7
            replace q7:=eq_true q7
            have p18:0≤(x3_2:Int):=of_decide_eq_true (by first|(with_reducible assumption)|assumption)
            have q18:x3_2 < (a0.size:Int):=of_decide_eq_true (by first|(with_reducible assumption)|assumption)
            have hx18:=qcI a0 x3_2
            replace p18:=eq_true p18
            replace q18:=eq_true q18
            have p20:0≤(x3_2:Int):=of_decide_eq_true (by first|(with_reducible assumption)|assumption)
            have q20:x3_2 < (a0.size:Int):=of_decide_eq_true (by first|(with_reducible assumption)|assumption)
            have hx20:=qcI a0 x3_2
            replace p20:=eq_true p20
            replace q20:=eq_true q20
            go_wp2_with (first|(go_at_call 49;(with_reducible refine (sawmillref02_digit.calls (bt a0 x3_2) true _ A21.out).mono ?_);rintro e w' ⟨rfl,⟨nd,rfl⟩⟩))
            go_roundg k2
            case measure=>have:=HJ1.out;have:=HK2.out;omega
            case rel=>exact ⟨(wrap64 (x3_2+1)),(by first|rfl|(simp;done)|(simp [*];done)),H',⟨by have:=HJ1.out;have:=HK2.out;omega⟩,by repeat (first|exact Drawn0.refl _|apply Drawn0.step)⟩
           ·replace c22:=Bool.eq_false_iff.mpr c22
            subst c22
            have H1:(some false)=some r:=by rw [if_neg (show ¬ (false=true) by decide)] at H;exact H
            clear H
            have H:=H1
            clear H1
            obtain rfl:=Option.some.inj H
            have p7:0≤(x3_2:Int):=of_decide_eq_true (by first|(with_reducible assumption)|assumption)
            have q7:x3_2 < (a0.size:Int):=of_decide_eq_true (by first|(with_reducible assumption)|assumption)
            have hx7:=qcI a0 x3_2
            replace p7:=eq_true p7
            replace q7:=eq_true q7
            have p18:0≤(x3_2:Int):=of_decide_eq_true (by first|(with_reducible assumption)|assumption)
            have q18:x3_2 < (a0.size:Int):=of_decide_eq_true (by first|(with_reducible assumption)|assumption)
            have hx18:=qcI a0 x3_2
            replace p18:=eq_true p18
            replace q18:=eq_true q18
            have p20:0≤(x3_2:Int):=of_decide_eq_true (by first|(with_reducible assumption)|assumption)
            have q20:x3_2 < (a0.size:Int):=of_decide_eq_true (by first|(with_reducible assumption)|assumption)
            have hx20:=qcI a0 x3_2
            replace p20:=eq_true p20
            replace q20:=eq_true q20
            go_wp2_with (first|(go_at_call 49;(with_reducible refine (sawmillref02_digit.calls (bt a0 x3_2) false _ A21.out).mono ?_);rintro e w' ⟨rfl,⟨nd,rfl⟩⟩))
            go_ret
            exact ⟨by first|rfl|(simp;done)|(simp [*];done),by repeat (first|exact Drawn0.refl _|apply Drawn0.step)⟩
       ·rw [if_neg c6] at H
        exact absurd H (by simp)
      ·rw [if_neg c5] at H
       have c5b0:decide (x3_2 < (a0.size:Int))=false:=decide_eq_false c5
       clear c5
       obtain rfl:=Option.some.inj H
       go_wp2
       go_ret
       exact ⟨by first|rfl|(simp;done)|(simp [*];done),by repeat (first|exact Drawn0.refl _|apply Drawn0.step)⟩
end Go.Proofs.YtehdmplngmbnnaaDoor.P
namespace Go.Proofs.YtehdmplngmbnnaaDoor.P
open Go.RowKit Go.Proofs.YtehdmplngmbnnaaDoorW.PrintWords Go.Proofs.YtehdmplngmbnnaaDoorW.PrintLast
set_option linter.unusedVariables false
set_option linter.unusedSimpArgs false
def nmc (c:Int):Bool:=decide (48≤c∧c≤57) || decide (c=95) || decide (97≤c∧c≤122)
def allFrom (p:Int→Bool) (s:ByteArray):Nat→Nat→Bool
 | 0,_=>true
 | d+1,i=>p (bt s i) && allFrom p s d (i+1)
def isNm (s:ByteArray):Bool:=decide (1≤s.size) && decide (s.size≤16) && decide (97≤bt s 0) && decide (bt s 0≤122) && allFrom nmc s s.size 0
theorem wrap_nat (i:Nat) (n:Nat) (h:i≤n) (hn:n≤140737488351232):wrap64 ((i:Int)+1)=((i+1:Nat):Int):=by
 unfold wrap64
 omega
theorem ident_l0 (s:ByteArray) (hs:s.size≤140737488351232):∀ (d k i:Nat),i+d=s.size→d < k→ident_IsName.l0 k s (s.size:Int) (i:Int)=some (allFrom nmc s d i):=by
 intro d
 induction d with
 | zero =>
  intro k i hi hk
  obtain ⟨k,rfl⟩:∃ m,k=m+1:=⟨k - 1,by omega⟩
  simp only [ident_IsName.l0]
  rw [if_neg (by omega)]
  rfl
 | succ d ih =>
  intro k i hi hk
  obtain ⟨k,rfl⟩:∃ m,k=m+1:=⟨k - 1,by omega⟩
  simp only [ident_IsName.l0]
  rw [if_pos (by omega),if_pos (by omega),if_pos (by omega),wrap_nat i s.size (by omega) hs,ih k (i+1) (by omega) (by omega)]
  simp only [allFrom]
  generalize bt s (i:Int)=c
  unfold ident_digit.f nmc
  by_cases h1:48≤c
  ·rw [if_pos h1,Option.bind_some]
   by_cases h2:c≤57
   ·simp [h1,h2]
   ·by_cases h3:c=95
    ·simp [h1,h2,h3]
    ·by_cases h4:c < 97
     ·simp [h1,h2,h3,h4];omega
     ·by_cases h5:c > 122
      ·simp [h1,h2,h3,h4,h5];omega
      ·simp [h1,h2,h3,h4,h5];omega
  ·rw [if_neg h1,Option.bind_some]
   have h3:¬ c=95:=by omega
   have h4:c < 97:=by omega
   simp [h1,h3,h4]
   omega
theorem size_nil (s:ByteArray):s.toList=[] ↔ s.size=0:=by
 rw [ByteArray.toList_eq,List.eq_nil_iff_length_eq_zero,Array.length_toList]
 rfl
theorem ident_name (s:ByteArray) (hs:s.size≤140737488351232) (k:Nat) (hk:s.size+1 < k):ident_IsName.f k s=some (isNm s):=by
 obtain ⟨k,rfl⟩:∃ m,k=m+1:=⟨k - 1,by omega⟩
 unfold ident_IsName.f isNm
 have hj:∀ b,ident_IsName.j0 (k+1) s b=if b=true then some false else some (allFrom nmc s s.size 0):=by
  intro b
  simp only [ident_IsName.j0]
  rw [show (0:Int)=((0:Nat):Int) from rfl,ident_l0 s hs s.size k 0 (by omega) (by omega)]
 simp only [hj,size_nil]
 by_cases h0:s.size=0
 ·rw [if_pos h0];simp [h0]
 ·rw [if_neg h0]
  by_cases h1:(s.size:Int) > 16
  ·rw [if_pos h1]
   have:¬ s.size≤16:=by omega
   simp [this]
  ·rw [if_neg h1,if_pos (by omega)]
   have e1:1≤s.size:=by omega
   have e2:s.size≤16:=by omega
   obtain ⟨m,hm⟩:∃ m,s.size=m+1:=⟨s.size - 1,by omega⟩
   rw [hm]
   simp only [allFrom]
   generalize allFrom nmc s m (0+1)=rest
   rw [show ((0:Nat):Int)=(0:Int) from rfl]
   generalize bt s 0=c
   have e3:1≤m+1:=by omega
   have e4:m+1≤16:=by omega
   unfold ident_digit.f nmc
   by_cases g1:48≤c<;>by_cases g2:c≤57<;>by_cases g3:c=95<;>by_cases g4:97≤c<;>by_cases g5:c≤122<;>first|(exfalso;omega)|simp [e3,e4,g1,g2,g3,g4,g5]
theorem r02_l0 (s:ByteArray) (hs:s.size≤140737488351232):∀ (d k i:Nat),1≤i→i+d=s.size→d < k→sawmillref02_IsName.l0 k s (i:Int)=some (allFrom nmc s d i):=by
 intro d
 induction d with
 | zero =>
  intro k i h1 hi hk
  obtain ⟨k,rfl⟩:∃ m,k=m+1:=⟨k - 1,by omega⟩
  simp only [sawmillref02_IsName.l0]
  rw [if_neg (by omega)]
  rfl
 | succ d ih =>
  intro k i h1 hi hk
  obtain ⟨k,rfl⟩:∃ m,k=m+1:=⟨k - 1,by omega⟩
  simp only [sawmillref02_IsName.l0]
  have hz:¬ (i:Int)=0:=by omega
  rw [if_pos (by omega),if_pos (by omega),wrap_nat i s.size (by omega) hs,ih k (i+1) (by omega) (by omega) (by omega)]
  simp only [allFrom,if_neg hz]
  generalize bt s (i:Int)=c
  unfold sawmillref02_digit.f nmc
  by_cases g1:48≤c<;>by_cases g2:c≤57<;>by_cases g3:c=95<;>by_cases g4:97≤c<;>by_cases g5:c≤122<;>first|(exfalso;omega)|simp [g1,g2,g3,g4,g5]
theorem r02_name (s:ByteArray) (hs:s.size≤140737488351232) (k:Nat) (hk:s.size+1 < k):sawmillref02_IsName.f k s=some (isNm s):=by
 obtain ⟨k,rfl⟩:∃ m,k=m+1:=⟨k - 1,by omega⟩
 unfold sawmillref02_IsName.f isNm
 by_cases h0:s.size=0
 ·rw [if_pos (by omega)]
  simp [sawmillref02_IsName.j0,h0]
 ·rw [if_neg (by omega)]
  simp only [sawmillref02_IsName.j0]
  by_cases h1:(s.size:Int) > 16
  ·have:¬ s.size≤16:=by omega
   simp [h1,this]
  ·have e1:1≤s.size:=by omega
   have e2:s.size≤16:=by omega
   rw [if_neg (by simp;omega)]
   obtain ⟨k,rfl⟩:∃ m,k=m+1:=⟨k - 1,by omega⟩
   obtain ⟨m,hm⟩:∃ m,s.size=m+1:=⟨s.size - 1,by omega⟩
   have h1':=r02_l0 s hs m k 1 (by omega) (by omega) (by omega)
   simp only [sawmillref02_IsName.l0]
   rw [if_pos (by omega),if_pos (by omega),show wrap64 ((0:Int)+1)=((1:Nat):Int) from by unfold wrap64;omega,h1',hm]
   simp only [allFrom]
   generalize allFrom nmc s m (0+1)=rest
   rw [show ((0:Nat):Int)=(0:Int) from rfl]
   generalize bt s 0=c
   have e3:1≤m+1:=by omega
   have e4:m+1≤16:=by omega
   unfold nmc
   by_cases g1:48≤c<;>by_cases g2:c≤57<;>by_cases g3:c=95<;>by_cases g4:97≤c<;>by_cases g5:c≤122<;>first|(exfalso;omega)|simp [e3,e4,g1,g2,g3,g4,g5]
theorem ident_nm (s:ByteArray):ident_IsName.f 20 s=some (isNm s):=by
 by_cases h:s.size≤16
 ·exact ident_name s (by omega) 20 (by omega)
 ·unfold ident_IsName.f isNm
  simp only [size_nil]
  rw [if_neg (by omega),if_pos (by omega)]
  simp [ident_IsName.j0,h]
theorem r02_nm (s:ByteArray) (hs:s.size≤140737488351232):sawmillref02_IsName.f 20 s=some (isNm s):=by
 by_cases h:s.size≤16
 ·exact r02_name s (by omega) 20 (by omega)
 ·unfold sawmillref02_IsName.f isNm
  rw [if_neg (by omega)]
  simp [sawmillref02_IsName.j0,h]
  omega
end Go.Proofs.YtehdmplngmbnnaaDoor.P
namespace Go.Proofs.YtehdmplngmbnnaaDoor.P
open Go.RowKit Go.Proofs.YtehdmplngmbnnaaDoorW.PrintWords Go.Proofs.YtehdmplngmbnnaaDoorW.PrintLast Go.Proofs.YtehdmplngmbnnaaDoorW.PrintMore
attribute [local go_sem] qbV qbW qcC qcD qbQ qbR qbX qbY
attribute [local go_sem] qbL
set_option linter.unusedVariables false
set_option linter.unusedSimpArgs false
def schedule_reader_part.f (s0_0:List (S68)) (s0_1:Bool) (a1:ByteArray):Option (Int × (List (S68)) × Bool):=(schedule_reader_is.f s0_0 s0_1 1 a1).bind fun bt101=>(if bt101.1=true then ((schedule_reader_take.f bt101.2.1 bt101.2.2 1 a1).bind fun bt104=>((schedule_reader_is.f bt104.2.2.2.2.1 bt104.2.2.2.2.2 2 (⟨#[]⟩:ByteArray)).bind fun bt110=>(if bt110.1=true then (if 0 < (bt110.2.1.length:Int) then (if ((qaZ bt110.2.1 0).f2)=0 then ((schedule_reader_take.f bt110.2.1 true 2 (⟨#[]⟩:ByteArray)).bind fun bt114=>(some (bt114.2.2.1,bt114.2.2.2.2.1,bt114.2.2.2.2.2))) else ((schedule_reader_take.f bt110.2.1 bt110.2.2 2 (⟨#[]⟩:ByteArray)).bind fun bt120=>(some (bt120.2.2.1,bt120.2.2.2.2.1,bt120.2.2.2.2.2)))) else (none)) else ((schedule_reader_take.f bt110.2.1 bt110.2.2 2 (⟨#[]⟩:ByteArray)).bind fun bt126=>(some (bt126.2.2.1,bt126.2.2.2.2.1,bt126.2.2.2.2.2)))))) else (some (0,bt101.2.1,bt101.2.2)))
set_option maxHeartbeats 8000000 in
set_option maxRecDepth 100000 in
theorem schedule_reader_part.calls (g:Nat) (s0_0:List (S68)) (s0_1:Bool) (a1:ByteArray) (r1:Int) (r2:List (S68)) (r3:Bool) (w0 w:World) (hI:qaJ w0 w g s0_0 s0_1) (hB:Below w0.heap.size w0 w) (h:schedule_reader_part.f s0_0 s0_1 a1=some (r1,r2,r3)) :
  Calls Tryd.prog 51 #[.pointer (some ⟨g,0,none⟩),.string a1] w fun e w'=>e=.returned (.int .i64 r1)∧qaJ w0 w' g r2 r3∧Below w0.heap.size w0 w'∧qaQ w w' g none:=by
 have hfd68_2:∀ (v0_ v1_ v2_ v3_:Value) (W_:World),(Instr.field 68 (.agg #[v0_,v1_,v2_,v3_]) 2).run Tryd.prog W_=.ok (v2_) W_:=fun _ _ _ _ _=>by kernel_rfl
 have HI0:=Aside0.mk hI
 have HK:=Aside0.mk (qaQ.refl w g none)
 have HL:=Aside0.mk hB.size
 clear hI
 have HW0:=Aside0.mk hB.size
 have HB:=Aside0.mk hB
 clear hB
 have H:((schedule_reader_is.f s0_0 s0_1 1 a1).bind fun bt101=>(if bt101.1=true then ((schedule_reader_take.f bt101.2.1 bt101.2.2 1 a1).bind fun bt104=>((schedule_reader_is.f bt104.2.2.2.2.1 bt104.2.2.2.2.2 2 (⟨#[]⟩:ByteArray)).bind fun bt110=>(if bt110.1=true then (if 0 < (bt110.2.1.length:Int) then (if ((qaZ bt110.2.1 0).f2)=0 then ((schedule_reader_take.f bt110.2.1 true 2 (⟨#[]⟩:ByteArray)).bind fun bt114=>(some (bt114.2.2.1,bt114.2.2.2.2.1,bt114.2.2.2.2.2))) else ((schedule_reader_take.f bt110.2.1 bt110.2.2 2 (⟨#[]⟩:ByteArray)).bind fun bt120=>(some (bt120.2.2.1,bt120.2.2.2.2.1,bt120.2.2.2.2.2)))) else (none)) else ((schedule_reader_take.f bt110.2.1 bt110.2.2 2 (⟨#[]⟩:ByteArray)).bind fun bt126=>(some (bt126.2.2.1,bt126.2.2.2.2.1,bt126.2.2.2.2.2)))))) else (some (0,bt101.2.1,bt101.2.2))))=some (r1,r2,r3):=h
 clear h
 replace H:=Option.bind_eq_some_iff.mp H
 obtain ⟨⟨t101,t102,t103⟩,A30,H⟩:=H
 replace H:(if t101=true then ((schedule_reader_take.f t102 t103 1 a1).bind fun bt104=>((schedule_reader_is.f bt104.2.2.2.2.1 bt104.2.2.2.2.2 2 (⟨#[]⟩:ByteArray)).bind fun bt110=>(if bt110.1=true then (if 0 < (bt110.2.1.length:Int) then (if ((qaZ bt110.2.1 0).f2)=0 then ((schedule_reader_take.f bt110.2.1 true 2 (⟨#[]⟩:ByteArray)).bind fun bt114=>(some (bt114.2.2.1,bt114.2.2.2.2.1,bt114.2.2.2.2.2))) else ((schedule_reader_take.f bt110.2.1 bt110.2.2 2 (⟨#[]⟩:ByteArray)).bind fun bt120=>(some (bt120.2.2.1,bt120.2.2.2.2.1,bt120.2.2.2.2.2)))) else (none)) else ((schedule_reader_take.f bt110.2.1 bt110.2.2 2 (⟨#[]⟩:ByteArray)).bind fun bt126=>(some (bt126.2.2.1,bt126.2.2.2.2.1,bt126.2.2.2.2.2)))))) else (some (0,t102,t103)))=some (r1,r2,r3):=H
 have A3:=Aside0.mk A30
 clear A30
 by_cases c4:t101=true
 ·subst c4
  have H1:((schedule_reader_take.f t102 t103 1 a1).bind fun bt104=>((schedule_reader_is.f bt104.2.2.2.2.1 bt104.2.2.2.2.2 2 (⟨#[]⟩:ByteArray)).bind fun bt110=>(if bt110.1=true then (if 0 < (bt110.2.1.length:Int) then (if ((qaZ bt110.2.1 0).f2)=0 then ((schedule_reader_take.f bt110.2.1 true 2 (⟨#[]⟩:ByteArray)).bind fun bt114=>(some (bt114.2.2.1,bt114.2.2.2.2.1,bt114.2.2.2.2.2))) else ((schedule_reader_take.f bt110.2.1 bt110.2.2 2 (⟨#[]⟩:ByteArray)).bind fun bt120=>(some (bt120.2.2.1,bt120.2.2.2.2.1,bt120.2.2.2.2.2)))) else (none)) else ((schedule_reader_take.f bt110.2.1 bt110.2.2 2 (⟨#[]⟩:ByteArray)).bind fun bt126=>(some (bt126.2.2.1,bt126.2.2.2.2.1,bt126.2.2.2.2.2))))))=some (r1,r2,r3):=by rw [if_pos rfl] at H;exact H
  clear H
  have H:=H1
  clear H1
  replace H:=Option.bind_eq_some_iff.mp H
  obtain ⟨⟨t104,t105,t106,t107,t108,t109⟩,A50,H⟩:=H
  replace H:((schedule_reader_is.f t108 t109 2 (⟨#[]⟩:ByteArray)).bind fun bt110=>(if bt110.1=true then (if 0 < (bt110.2.1.length:Int) then (if ((qaZ bt110.2.1 0).f2)=0 then ((schedule_reader_take.f bt110.2.1 true 2 (⟨#[]⟩:ByteArray)).bind fun bt114=>(some (bt114.2.2.1,bt114.2.2.2.2.1,bt114.2.2.2.2.2))) else ((schedule_reader_take.f bt110.2.1 bt110.2.2 2 (⟨#[]⟩:ByteArray)).bind fun bt120=>(some (bt120.2.2.1,bt120.2.2.2.2.1,bt120.2.2.2.2.2)))) else (none)) else ((schedule_reader_take.f bt110.2.1 bt110.2.2 2 (⟨#[]⟩:ByteArray)).bind fun bt126=>(some (bt126.2.2.1,bt126.2.2.2.2.1,bt126.2.2.2.2.2)))))=some (r1,r2,r3):=H
  have A5:=Aside0.mk A50
  clear A50
  replace H:=Option.bind_eq_some_iff.mp H
  obtain ⟨⟨t110,t111,t112⟩,A60,H⟩:=H
  replace H:(if t110=true then (if 0 < (t111.length:Int) then (if ((qaZ t111 0).f2)=0 then ((schedule_reader_take.f t111 true 2 (⟨#[]⟩:ByteArray)).bind fun bt114=>(some (bt114.2.2.1,bt114.2.2.2.2.1,bt114.2.2.2.2.2))) else ((schedule_reader_take.f t111 t112 2 (⟨#[]⟩:ByteArray)).bind fun bt120=>(some (bt120.2.2.1,bt120.2.2.2.2.1,bt120.2.2.2.2.2)))) else (none)) else ((schedule_reader_take.f t111 t112 2 (⟨#[]⟩:ByteArray)).bind fun bt126=>(some (bt126.2.2.1,bt126.2.2.2.2.1,bt126.2.2.2.2.2))))=some (r1,r2,r3):=H
  have A6:=Aside0.mk A60
  clear A60
  by_cases c7:t110=true
  ·subst c7
   have H1:(if 0 < (t111.length:Int) then (if ((qaZ t111 0).f2)=0 then ((schedule_reader_take.f t111 true 2 (⟨#[]⟩:ByteArray)).bind fun bt114=>(some (bt114.2.2.1,bt114.2.2.2.2.1,bt114.2.2.2.2.2))) else ((schedule_reader_take.f t111 t112 2 (⟨#[]⟩:ByteArray)).bind fun bt120=>(some (bt120.2.2.1,bt120.2.2.2.2.1,bt120.2.2.2.2.2)))) else (none))=some (r1,r2,r3):=by rw [if_pos rfl] at H;exact H
   clear H
   have H:=H1
   clear H1
   by_cases c8:0 < (t111.length:Int)
   ·rw [if_pos c8] at H
    have c8b0:decide (0 < (t111.length:Int))=true:=decide_eq_true c8
    have c8b1:decide (0 < t111.length)=true:=decide_eq_true (by omega)
    clear c8
    by_cases c9:((qaZ t111 0).f2)=0
    ·rw [if_pos c9] at H
     have c9b0:(((qaZ t111 0).f2) == 0)=true:=beq_iff_eq.mpr c9
     have c9b1:(((qaZ t111 0).f2) != 0)=false:=bne_eq_false_iff_eq.mpr c9
     clear c9
     replace H:=Option.bind_eq_some_iff.mp H
     obtain ⟨⟨t114,t115,t116,t117,t118,t119⟩,A100,H⟩:=H
     replace H:(some (t116,t118,t119))=some (r1,r2,r3):=H
     have A10:=Aside0.mk A100
     clear A100
     simp only [Option.some.injEq,Prod.mk.injEq] at H
     obtain ⟨rfl,rfl,rfl⟩:=H
     go_enter Tryd.func51,Tryd.ntmps51
     go_wp2_with (first|((with_reducible refine qaO (f:=38) rfl ?_);refine qbG (some 7) rfl rfl Tryd.func38 (by kernel_rfl) rfl #[.pointer (some ⟨g,0,none⟩),.int .i64 1,.string a1] rfl (by (try simp only [List.map_toArray,List.map_cons,List.map_nil]);first|done|rfl|(simp only [List.length_drop,List.length_take];rfl)) ?_;(with_reducible refine (schedule_reader_is.calls g s0_0 s0_1 1 a1 true t102 t103 w0 _ ?side1 ?side2 A3.out).mono ?_);(case side1=>repeat (first|(with_reducible first|exact HI0.out|apply qaJ.alloc|apply qaJ.drewN|apply qaJ.drew|apply qaJ.set_1)|exact HI0.out));(case side2=>repeat (first|(with_reducible first|exact HB.out|apply qaB|apply qaA|apply qaC|refine qaF ?_ (qaJ.ge HI0.out))|exact HB.out));rintro e w11 ⟨rfl,hi,hb,hk⟩;refine ⟨_,rfl,?_⟩;have n0_:=Aside0.mk (qaQ.trans (by repeat (first|(with_reducible first|exact HK.out|apply qaQ.set_|apply qaV|apply qbA|apply qaU)|exact HK.out)) hk (.inl rfl));have n1_:=Aside0.mk (hb);have n2_:=Aside0.mk (hi);clear HK;clear HB;clear HI0;have HK:=n0_;have HB:=n1_;have HI0:=n2_;clear n0_ n1_ n2_;(try clear hb);(try clear hb2);(try clear hk);(try clear hi))|((with_reducible refine qaO (f:=39) rfl ?_);refine qbG (some 11) rfl rfl Tryd.func39 (by kernel_rfl) rfl #[.pointer (some ⟨g,0,none⟩),.int .i64 1,.string a1] rfl (by (try simp only [List.map_toArray,List.map_cons,List.map_nil]);first|done|rfl|(simp only [List.length_drop,List.length_take];rfl)) ?_;(with_reducible refine (schedule_reader_take.calls g t102 t103 1 a1 t104 t105 t106 t107 t108 t109 w0 _ ?side1 ?side2 A5.out).mono ?_);(case side1=>repeat (first|(with_reducible first|exact HI0.out|apply qaJ.alloc|apply qaJ.drewN|apply qaJ.drew|apply qaJ.set_1)|exact HI0.out));(case side2=>repeat (first|(with_reducible first|exact HB.out|apply qaB|apply qaA|apply qaC|refine qaF ?_ (qaJ.ge HI0.out))|exact HB.out));rintro e w12 ⟨rfl,hi,hb,hk⟩;refine ⟨_,rfl,?_⟩;have n0_:=Aside0.mk (qaQ.trans (by repeat (first|(with_reducible first|exact HK.out|apply qaQ.set_|apply qaV|apply qbA|apply qaU)|exact HK.out)) hk (.inl rfl));have n1_:=Aside0.mk (hb);have n2_:=Aside0.mk (hi);clear HK;clear HB;clear HI0;have HK:=n0_;have HB:=n1_;have HI0:=n2_;clear n0_ n1_ n2_;(try clear hb);(try clear hb2);(try clear hk);(try clear hi))|((with_reducible refine qaO (f:=38) rfl ?_);refine qbG (some 13) rfl rfl Tryd.func38 (by kernel_rfl) rfl #[.pointer (some ⟨g,0,none⟩),.int .i64 2,.string (⟨#[]⟩:ByteArray)] rfl (by (try simp only [List.map_toArray,List.map_cons,List.map_nil]);first|done|rfl|(simp only [List.length_drop,List.length_take];rfl)) ?_;(with_reducible refine (schedule_reader_is.calls g t108 t109 2 (⟨#[]⟩:ByteArray) true t111 t112 w0 _ ?side1 ?side2 A6.out).mono ?_);(case side1=>repeat (first|(with_reducible first|exact HI0.out|apply qaJ.alloc|apply qaJ.drewN|apply qaJ.drew|apply qaJ.set_1)|exact HI0.out));(case side2=>repeat (first|(with_reducible first|exact HB.out|apply qaB|apply qaA|apply qaC|refine qaF ?_ (qaJ.ge HI0.out))|exact HB.out));rintro e w13 ⟨rfl,hi,hb,hk⟩;refine ⟨_,rfl,?_⟩;have n0_:=Aside0.mk (qaQ.trans (by repeat (first|(with_reducible first|exact HK.out|apply qaQ.set_|apply qaV|apply qbA|apply qaU)|exact HK.out)) hk (.inl rfl));have n1_:=Aside0.mk (hb);have n2_:=Aside0.mk (hi);clear HK;clear HB;clear HI0;have HK:=n0_;have HB:=n1_;have HI0:=n2_;clear n0_ n1_ n2_;(try clear hb);(try clear hb2);(try clear hk);(try clear hi);obtain ⟨ASz14_0,cSz14_0,HGz14,hgz14,⟨HSz14_0,_⟩⟩:=HI0.out;have hcz14_0:=cellS65_0 HGz14;have hcz14_1:=cellS65_1 HGz14;have hfz14_0:=qaD HGz14 0;have hfz14_1:=qaD HGz14 1;clear HGz14 hgz14;have p113:0≤(0:Int):=(by omega);have q113:0 < (t111.length:Int):=of_decide_eq_true (by first|(with_reducible assumption)|assumption);obtain ⟨ad113,e113,hx113_0,hx113_1,hx113_2,hx113_3⟩:=at_T68 HSz14_0 0 p113 q113;cases e113;have qi113:(0 < t111.length)=True:=eq_true (by omega);(try rw [show ((0:Int)).toNat=0 from rfl] at hx113_0);(try rw [show 0 * 4=0 from rfl] at hx113_0);(try rw [Addr.add_zero'] at hx113_0);(try rw [show ((0:Int)).toNat=0 from rfl] at hx113_1);(try rw [show 0 * 4=0 from rfl] at hx113_1);(try rw [Addr.add_zero'] at hx113_1);(try rw [show ((0:Int)).toNat=0 from rfl] at hx113_2);(try rw [show 0 * 4=0 from rfl] at hx113_2);(try rw [Addr.add_zero'] at hx113_2);(try rw [show ((0:Int)).toNat=0 from rfl] at hx113_3);(try rw [show 0 * 4=0 from rfl] at hx113_3);(try rw [Addr.add_zero'] at hx113_3);replace hx113_0:=qbB HB.out hx113_0;replace hx113_1:=qbB HB.out hx113_1;replace hx113_2:=qbB HB.out hx113_2;replace hx113_3:=qbB HB.out hx113_3;replace p113:=eq_true p113;replace q113:=eq_true q113)|((with_reducible refine qaO (f:=39) rfl ?_);refine qbG (some 28) rfl rfl Tryd.func39 (by kernel_rfl) rfl #[.pointer (some ⟨g,0,none⟩),.int .i64 2,.string (⟨#[]⟩:ByteArray)] rfl (by (try simp only [List.map_toArray,List.map_cons,List.map_nil]);first|done|rfl|(simp only [List.length_drop,List.length_take];rfl)) ?_;(with_reducible refine (schedule_reader_take.calls g t111 true 2 (⟨#[]⟩:ByteArray) t114 t115 t116 t117 t118 t119 w0 _ ?side1 ?side2 A10.out).mono ?_);(case side1=>repeat (first|(with_reducible first|exact HI0.out|apply qaJ.alloc|apply qaJ.drewN|apply qaJ.drew|apply qaJ.set_1)|exact HI0.out));(case side2=>repeat (first|(with_reducible first|exact HB.out|apply qaB|apply qaA|apply qaC|refine qaF ?_ (qaJ.ge HI0.out))|exact HB.out));rintro e w15 ⟨rfl,hi,hb,hk⟩;refine ⟨_,rfl,?_⟩;have n0_:=Aside0.mk (qaQ.trans (by repeat (first|(with_reducible first|exact HK.out|apply qaQ.set_|apply qaV|apply qbA|apply qaU)|exact HK.out)) hk (.inl rfl));have n1_:=Aside0.mk (hb);have n2_:=Aside0.mk (hi);clear HK;clear HB;clear HI0;have HK:=n0_;have HB:=n1_;have HI0:=n2_;clear n0_ n1_ n2_;(try clear hb);(try clear hb2);(try clear hk);(try clear hi)))
     go_ret
     exact ⟨by first|rfl|(simp [qaL,qaM]<;>rfl)|(simp [*,qaL,qaM]<;>rfl),by repeat (first|(with_reducible first|exact HI0.out|apply qaJ.alloc|apply qaJ.drewN|apply qaJ.drew|apply qaJ.set_1)|exact HI0.out),by repeat (first|(with_reducible first|exact HB.out|apply qaB|apply qaA|apply qaC|refine qaF ?_ (qaJ.ge HI0.out))|exact HB.out),by repeat (first|(with_reducible first|exact HK.out|apply qaQ.set_|apply qaV|apply qbA|apply qaU)|exact HK.out)⟩
    ·rw [if_neg c9] at H
     have c9b0:(((qaZ t111 0).f2) == 0)=false:=beq_eq_false_iff_ne.mpr c9
     have c9b1:(((qaZ t111 0).f2) != 0)=true:=bne_iff_ne.mpr c9
     replace H:=Option.bind_eq_some_iff.mp H
     obtain ⟨⟨t120,t121,t122,t123,t124,t125⟩,A160,H⟩:=H
     replace H:(some (t122,t124,t125))=some (r1,r2,r3):=H
     have A16:=Aside0.mk A160
     clear A160
     simp only [Option.some.injEq,Prod.mk.injEq] at H
     obtain ⟨rfl,rfl,rfl⟩:=H
     go_enter Tryd.func51,Tryd.ntmps51
     go_wp2_with (first|((with_reducible refine qaO (f:=38) rfl ?_);refine qbG (some 7) rfl rfl Tryd.func38 (by kernel_rfl) rfl #[.pointer (some ⟨g,0,none⟩),.int .i64 1,.string a1] rfl (by (try simp only [List.map_toArray,List.map_cons,List.map_nil]);first|done|rfl|(simp only [List.length_drop,List.length_take];rfl)) ?_;(with_reducible refine (schedule_reader_is.calls g s0_0 s0_1 1 a1 true t102 t103 w0 _ ?side1 ?side2 A3.out).mono ?_);(case side1=>repeat (first|(with_reducible first|exact HI0.out|apply qaJ.alloc|apply qaJ.drewN|apply qaJ.drew|apply qaJ.set_1)|exact HI0.out));(case side2=>repeat (first|(with_reducible first|exact HB.out|apply qaB|apply qaA|apply qaC|refine qaF ?_ (qaJ.ge HI0.out))|exact HB.out));rintro e w17 ⟨rfl,hi,hb,hk⟩;refine ⟨_,rfl,?_⟩;have n0_:=Aside0.mk (qaQ.trans (by repeat (first|(with_reducible first|exact HK.out|apply qaQ.set_|apply qaV|apply qbA|apply qaU)|exact HK.out)) hk (.inl rfl));have n1_:=Aside0.mk (hb);have n2_:=Aside0.mk (hi);clear HK;clear HB;clear HI0;have HK:=n0_;have HB:=n1_;have HI0:=n2_;clear n0_ n1_ n2_;(try clear hb);(try clear hb2);(try clear hk);(try clear hi))|((with_reducible refine qaO (f:=39) rfl ?_);refine qbG (some 11) rfl rfl Tryd.func39 (by kernel_rfl) rfl #[.pointer (some ⟨g,0,none⟩),.int .i64 1,.string a1] rfl (by (try simp only [List.map_toArray,List.map_cons,List.map_nil]);first|done|rfl|(simp only [List.length_drop,List.length_take];rfl)) ?_;(with_reducible refine (schedule_reader_take.calls g t102 t103 1 a1 t104 t105 t106 t107 t108 t109 w0 _ ?side1 ?side2 A5.out).mono ?_);(case side1=>repeat (first|(with_reducible first|exact HI0.out|apply qaJ.alloc|apply qaJ.drewN|apply qaJ.drew|apply qaJ.set_1)|exact HI0.out));(case side2=>repeat (first|(with_reducible first|exact HB.out|apply qaB|apply qaA|apply qaC|refine qaF ?_ (qaJ.ge HI0.out))|exact HB.out));rintro e w18 ⟨rfl,hi,hb,hk⟩;refine ⟨_,rfl,?_⟩;have n0_:=Aside0.mk (qaQ.trans (by repeat (first|(with_reducible first|exact HK.out|apply qaQ.set_|apply qaV|apply qbA|apply qaU)|exact HK.out)) hk (.inl rfl));have n1_:=Aside0.mk (hb);have n2_:=Aside0.mk (hi);clear HK;clear HB;clear HI0;have HK:=n0_;have HB:=n1_;have HI0:=n2_;clear n0_ n1_ n2_;(try clear hb);(try clear hb2);(try clear hk);(try clear hi))|((with_reducible refine qaO (f:=38) rfl ?_);refine qbG (some 13) rfl rfl Tryd.func38 (by kernel_rfl) rfl #[.pointer (some ⟨g,0,none⟩),.int .i64 2,.string (⟨#[]⟩:ByteArray)] rfl (by (try simp only [List.map_toArray,List.map_cons,List.map_nil]);first|done|rfl|(simp only [List.length_drop,List.length_take];rfl)) ?_;(with_reducible refine (schedule_reader_is.calls g t108 t109 2 (⟨#[]⟩:ByteArray) true t111 t112 w0 _ ?side1 ?side2 A6.out).mono ?_);(case side1=>repeat (first|(with_reducible first|exact HI0.out|apply qaJ.alloc|apply qaJ.drewN|apply qaJ.drew|apply qaJ.set_1)|exact HI0.out));(case side2=>repeat (first|(with_reducible first|exact HB.out|apply qaB|apply qaA|apply qaC|refine qaF ?_ (qaJ.ge HI0.out))|exact HB.out));rintro e w19 ⟨rfl,hi,hb,hk⟩;refine ⟨_,rfl,?_⟩;have n0_:=Aside0.mk (qaQ.trans (by repeat (first|(with_reducible first|exact HK.out|apply qaQ.set_|apply qaV|apply qbA|apply qaU)|exact HK.out)) hk (.inl rfl));have n1_:=Aside0.mk (hb);have n2_:=Aside0.mk (hi);clear HK;clear HB;clear HI0;have HK:=n0_;have HB:=n1_;have HI0:=n2_;clear n0_ n1_ n2_;(try clear hb);(try clear hb2);(try clear hk);(try clear hi);obtain ⟨ASz20_0,cSz20_0,HGz20,hgz20,⟨HSz20_0,_⟩⟩:=HI0.out;have hcz20_0:=cellS65_0 HGz20;have hcz20_1:=cellS65_1 HGz20;have hfz20_0:=qaD HGz20 0;have hfz20_1:=qaD HGz20 1;clear HGz20 hgz20;have p113:0≤(0:Int):=(by omega);have q113:0 < (t111.length:Int):=of_decide_eq_true (by first|(with_reducible assumption)|assumption);obtain ⟨ad113,e113,hx113_0,hx113_1,hx113_2,hx113_3⟩:=at_T68 HSz20_0 0 p113 q113;cases e113;have qi113:(0 < t111.length)=True:=eq_true (by omega);(try rw [show ((0:Int)).toNat=0 from rfl] at hx113_0);(try rw [show 0 * 4=0 from rfl] at hx113_0);(try rw [Addr.add_zero'] at hx113_0);(try rw [show ((0:Int)).toNat=0 from rfl] at hx113_1);(try rw [show 0 * 4=0 from rfl] at hx113_1);(try rw [Addr.add_zero'] at hx113_1);(try rw [show ((0:Int)).toNat=0 from rfl] at hx113_2);(try rw [show 0 * 4=0 from rfl] at hx113_2);(try rw [Addr.add_zero'] at hx113_2);(try rw [show ((0:Int)).toNat=0 from rfl] at hx113_3);(try rw [show 0 * 4=0 from rfl] at hx113_3);(try rw [Addr.add_zero'] at hx113_3);replace hx113_0:=qbB HB.out hx113_0;replace hx113_1:=qbB HB.out hx113_1;replace hx113_2:=qbB HB.out hx113_2;replace hx113_3:=qbB HB.out hx113_3;replace p113:=eq_true p113;replace q113:=eq_true q113)|((with_reducible refine qaO (f:=39) rfl ?_);refine qbG (some 28) rfl rfl Tryd.func39 (by kernel_rfl) rfl #[.pointer (some ⟨g,0,none⟩),.int .i64 2,.string (⟨#[]⟩:ByteArray)] rfl (by (try simp only [List.map_toArray,List.map_cons,List.map_nil]);first|done|rfl|(simp only [List.length_drop,List.length_take];rfl)) ?_;(with_reducible refine (schedule_reader_take.calls g t111 t112 2 (⟨#[]⟩:ByteArray) t120 t121 t122 t123 t124 t125 w0 _ ?side1 ?side2 A16.out).mono ?_);(case side1=>repeat (first|(with_reducible first|exact HI0.out|apply qaJ.alloc|apply qaJ.drewN|apply qaJ.drew|apply qaJ.set_1)|exact HI0.out));(case side2=>repeat (first|(with_reducible first|exact HB.out|apply qaB|apply qaA|apply qaC|refine qaF ?_ (qaJ.ge HI0.out))|exact HB.out));rintro e w21 ⟨rfl,hi,hb,hk⟩;refine ⟨_,rfl,?_⟩;have n0_:=Aside0.mk (qaQ.trans (by repeat (first|(with_reducible first|exact HK.out|apply qaQ.set_|apply qaV|apply qbA|apply qaU)|exact HK.out)) hk (.inl rfl));have n1_:=Aside0.mk (hb);have n2_:=Aside0.mk (hi);clear HK;clear HB;clear HI0;have HK:=n0_;have HB:=n1_;have HI0:=n2_;clear n0_ n1_ n2_;(try clear hb);(try clear hb2);(try clear hk);(try clear hi)))
     go_ret
     exact ⟨by first|rfl|(simp [qaL,qaM]<;>rfl)|(simp [*,qaL,qaM]<;>rfl),by repeat (first|(with_reducible first|exact HI0.out|apply qaJ.alloc|apply qaJ.drewN|apply qaJ.drew|apply qaJ.set_1)|exact HI0.out),by repeat (first|(with_reducible first|exact HB.out|apply qaB|apply qaA|apply qaC|refine qaF ?_ (qaJ.ge HI0.out))|exact HB.out),by repeat (first|(with_reducible first|exact HK.out|apply qaQ.set_|apply qaV|apply qbA|apply qaU)|exact HK.out)⟩
   ·rw [if_neg c8] at H
    exact absurd H (by simp)
  ·replace c7:=Bool.eq_false_iff.mpr c7
   subst c7
   have H1:((schedule_reader_take.f t111 t112 2 (⟨#[]⟩:ByteArray)).bind fun bt126=>(some (bt126.2.2.1,bt126.2.2.2.2.1,bt126.2.2.2.2.2)))=some (r1,r2,r3):=by rw [if_neg (show ¬ (false=true) by decide)] at H;exact H
   clear H
   have H:=H1
   clear H1
   replace H:=Option.bind_eq_some_iff.mp H
   obtain ⟨⟨t126,t127,t128,t129,t130,t131⟩,A220,H⟩:=H
   replace H:(some (t128,t130,t131))=some (r1,r2,r3):=H
   have A22:=Aside0.mk A220
   clear A220
   simp only [Option.some.injEq,Prod.mk.injEq] at H
   obtain ⟨rfl,rfl,rfl⟩:=H
   go_enter Tryd.func51,Tryd.ntmps51
   go_wp2_with (first|((with_reducible refine qaO (f:=38) rfl ?_);refine qbG (some 7) rfl rfl Tryd.func38 (by kernel_rfl) rfl #[.pointer (some ⟨g,0,none⟩),.int .i64 1,.string a1] rfl (by (try simp only [List.map_toArray,List.map_cons,List.map_nil]);first|done|rfl|(simp only [List.length_drop,List.length_take];rfl)) ?_;(with_reducible refine (schedule_reader_is.calls g s0_0 s0_1 1 a1 true t102 t103 w0 _ ?side1 ?side2 A3.out).mono ?_);(case side1=>repeat (first|(with_reducible first|exact HI0.out|apply qaJ.alloc|apply qaJ.drewN|apply qaJ.drew|apply qaJ.set_1)|exact HI0.out));(case side2=>repeat (first|(with_reducible first|exact HB.out|apply qaB|apply qaA|apply qaC|refine qaF ?_ (qaJ.ge HI0.out))|exact HB.out));rintro e w23 ⟨rfl,hi,hb,hk⟩;refine ⟨_,rfl,?_⟩;have n0_:=Aside0.mk (qaQ.trans (by repeat (first|(with_reducible first|exact HK.out|apply qaQ.set_|apply qaV|apply qbA|apply qaU)|exact HK.out)) hk (.inl rfl));have n1_:=Aside0.mk (hb);have n2_:=Aside0.mk (hi);clear HK;clear HB;clear HI0;have HK:=n0_;have HB:=n1_;have HI0:=n2_;clear n0_ n1_ n2_;(try clear hb);(try clear hb2);(try clear hk);(try clear hi))|((with_reducible refine qaO (f:=39) rfl ?_);refine qbG (some 11) rfl rfl Tryd.func39 (by kernel_rfl) rfl #[.pointer (some ⟨g,0,none⟩),.int .i64 1,.string a1] rfl (by (try simp only [List.map_toArray,List.map_cons,List.map_nil]);first|done|rfl|(simp only [List.length_drop,List.length_take];rfl)) ?_;(with_reducible refine (schedule_reader_take.calls g t102 t103 1 a1 t104 t105 t106 t107 t108 t109 w0 _ ?side1 ?side2 A5.out).mono ?_);(case side1=>repeat (first|(with_reducible first|exact HI0.out|apply qaJ.alloc|apply qaJ.drewN|apply qaJ.drew|apply qaJ.set_1)|exact HI0.out));(case side2=>repeat (first|(with_reducible first|exact HB.out|apply qaB|apply qaA|apply qaC|refine qaF ?_ (qaJ.ge HI0.out))|exact HB.out));rintro e w24 ⟨rfl,hi,hb,hk⟩;refine ⟨_,rfl,?_⟩;have n0_:=Aside0.mk (qaQ.trans (by repeat (first|(with_reducible first|exact HK.out|apply qaQ.set_|apply qaV|apply qbA|apply qaU)|exact HK.out)) hk (.inl rfl));have n1_:=Aside0.mk (hb);have n2_:=Aside0.mk (hi);clear HK;clear HB;clear HI0;have HK:=n0_;have HB:=n1_;have HI0:=n2_;clear n0_ n1_ n2_;(try clear hb);(try clear hb2);(try clear hk);(try clear hi))|((with_reducible refine qaO (f:=38) rfl ?_);refine qbG (some 13) rfl rfl Tryd.func38 (by kernel_rfl) rfl #[.pointer (some ⟨g,0,none⟩),.int .i64 2,.string (⟨#[]⟩:ByteArray)] rfl (by (try simp only [List.map_toArray,List.map_cons,List.map_nil]);first|done|rfl|(simp only [List.length_drop,List.length_take];rfl)) ?_;(with_reducible refine (schedule_reader_is.calls g t108 t109 2 (⟨#[]⟩:ByteArray) false t111 t112 w0 _ ?side1 ?side2 A6.out).mono ?_);(case side1=>repeat (first|(with_reducible first|exact HI0.out|apply qaJ.alloc|apply qaJ.drewN|apply qaJ.drew|apply qaJ.set_1)|exact HI0.out));(case side2=>repeat (first|(with_reducible first|exact HB.out|apply qaB|apply qaA|apply qaC|refine qaF ?_ (qaJ.ge HI0.out))|exact HB.out));rintro e w25 ⟨rfl,hi,hb,hk⟩;refine ⟨_,rfl,?_⟩;have n0_:=Aside0.mk (qaQ.trans (by repeat (first|(with_reducible first|exact HK.out|apply qaQ.set_|apply qaV|apply qbA|apply qaU)|exact HK.out)) hk (.inl rfl));have n1_:=Aside0.mk (hb);have n2_:=Aside0.mk (hi);clear HK;clear HB;clear HI0;have HK:=n0_;have HB:=n1_;have HI0:=n2_;clear n0_ n1_ n2_;(try clear hb);(try clear hb2);(try clear hk);(try clear hi))|((with_reducible refine qaO (f:=39) rfl ?_);refine qbG (some 28) rfl rfl Tryd.func39 (by kernel_rfl) rfl #[.pointer (some ⟨g,0,none⟩),.int .i64 2,.string (⟨#[]⟩:ByteArray)] rfl (by (try simp only [List.map_toArray,List.map_cons,List.map_nil]);first|done|rfl|(simp only [List.length_drop,List.length_take];rfl)) ?_;(with_reducible refine (schedule_reader_take.calls g t111 t112 2 (⟨#[]⟩:ByteArray) t126 t127 t128 t129 t130 t131 w0 _ ?side1 ?side2 A22.out).mono ?_);(case side1=>repeat (first|(with_reducible first|exact HI0.out|apply qaJ.alloc|apply qaJ.drewN|apply qaJ.drew|apply qaJ.set_1)|exact HI0.out));(case side2=>repeat (first|(with_reducible first|exact HB.out|apply qaB|apply qaA|apply qaC|refine qaF ?_ (qaJ.ge HI0.out))|exact HB.out));rintro e w26 ⟨rfl,hi,hb,hk⟩;refine ⟨_,rfl,?_⟩;have n0_:=Aside0.mk (qaQ.trans (by repeat (first|(with_reducible first|exact HK.out|apply qaQ.set_|apply qaV|apply qbA|apply qaU)|exact HK.out)) hk (.inl rfl));have n1_:=Aside0.mk (hb);have n2_:=Aside0.mk (hi);clear HK;clear HB;clear HI0;have HK:=n0_;have HB:=n1_;have HI0:=n2_;clear n0_ n1_ n2_;(try clear hb);(try clear hb2);(try clear hk);(try clear hi)))
   go_ret
   exact ⟨by first|rfl|(simp [qaL,qaM]<;>rfl)|(simp [*,qaL,qaM]<;>rfl),by repeat (first|(with_reducible first|exact HI0.out|apply qaJ.alloc|apply qaJ.drewN|apply qaJ.drew|apply qaJ.set_1)|exact HI0.out),by repeat (first|(with_reducible first|exact HB.out|apply qaB|apply qaA|apply qaC|refine qaF ?_ (qaJ.ge HI0.out))|exact HB.out),by repeat (first|(with_reducible first|exact HK.out|apply qaQ.set_|apply qaV|apply qbA|apply qaU)|exact HK.out)⟩
 ·replace c4:=Bool.eq_false_iff.mpr c4
  subst c4
  have H1:(some (0,t102,t103))=some (r1,r2,r3):=by rw [if_neg (show ¬ (false=true) by decide)] at H;exact H
  clear H
  have H:=H1
  clear H1
  simp only [Option.some.injEq,Prod.mk.injEq] at H
  obtain ⟨rfl,rfl,rfl⟩:=H
  go_enter Tryd.func51,Tryd.ntmps51
  go_wp2_with (first|((with_reducible refine qaO (f:=38) rfl ?_);refine qbG (some 7) rfl rfl Tryd.func38 (by kernel_rfl) rfl #[.pointer (some ⟨g,0,none⟩),.int .i64 1,.string a1] rfl (by (try simp only [List.map_toArray,List.map_cons,List.map_nil]);first|done|rfl|(simp only [List.length_drop,List.length_take];rfl)) ?_;(with_reducible refine (schedule_reader_is.calls g s0_0 s0_1 1 a1 false t102 t103 w0 _ ?side1 ?side2 A3.out).mono ?_);(case side1=>repeat (first|(with_reducible first|exact HI0.out|apply qaJ.alloc|apply qaJ.drewN|apply qaJ.drew|apply qaJ.set_1)|exact HI0.out));(case side2=>repeat (first|(with_reducible first|exact HB.out|apply qaB|apply qaA|apply qaC|refine qaF ?_ (qaJ.ge HI0.out))|exact HB.out));rintro e w27 ⟨rfl,hi,hb,hk⟩;refine ⟨_,rfl,?_⟩;have n0_:=Aside0.mk (qaQ.trans (by repeat (first|(with_reducible first|exact HK.out|apply qaQ.set_|apply qaV|apply qbA|apply qaU)|exact HK.out)) hk (.inl rfl));have n1_:=Aside0.mk (hb);have n2_:=Aside0.mk (hi);clear HK;clear HB;clear HI0;have HK:=n0_;have HB:=n1_;have HI0:=n2_;clear n0_ n1_ n2_;(try clear hb);(try clear hb2);(try clear hk);(try clear hi)))
  go_ret
  exact ⟨by first|rfl|(simp [qaL,qaM]<;>rfl)|(simp [*,qaL,qaM]<;>rfl),by repeat (first|(with_reducible first|exact HI0.out|apply qaJ.alloc|apply qaJ.drewN|apply qaJ.drew|apply qaJ.set_1)|exact HI0.out),by repeat (first|(with_reducible first|exact HB.out|apply qaB|apply qaA|apply qaC|refine qaF ?_ (qaJ.ge HI0.out))|exact HB.out),by repeat (first|(with_reducible first|exact HK.out|apply qaQ.set_|apply qaV|apply qbA|apply qaU)|exact HK.out)⟩
end Go.Proofs.YtehdmplngmbnnaaDoor.P
namespace Go.Proofs.YtehdmplngmbnnaaDoor.P
open Go.RowKit Go.Proofs.YtehdmplngmbnnaaDoorW.PrintWords Go.Proofs.YtehdmplngmbnnaaDoorW.PrintLast
set_option linter.unusedVariables false
set_option linter.unusedSimpArgs false
def schedule_reader_stage.f (s0_0:List S68) (s0_1:Bool):Option (Int × Int × Int × Int × (List S68) × Bool) :=
 (schedule_reader_part.f s0_0 s0_1 (⟨#[98,101,108,111,119]⟩:ByteArray)).bind fun p1 =>
 (schedule_reader_part.f p1.2.1 p1.2.2 (⟨#[102,111,114]⟩:ByteArray)).bind fun p2 =>
 (schedule_reader_take.f p2.2.1 (if wrap64 (p1.1+p2.1)=0 then true else p2.2.2) 1 (⟨#[97,116]⟩:ByteArray)).bind fun t1 =>
 (schedule_reader_take.f t1.2.2.2.2.1 t1.2.2.2.2.2 2 (⟨#[]⟩:ByteArray)).bind fun t2 =>
 (schedule_reader_take.f t2.2.2.2.2.1 t2.2.2.2.2.2 3 (⟨#[45]⟩:ByteArray)).bind fun t3 =>
 (schedule_reader_take.f t3.2.2.2.2.1 t3.2.2.2.2.2 2 (⟨#[]⟩:ByteArray)).bind fun t4 =>
 (schedule_reader_take.f t4.2.2.2.2.1 t4.2.2.2.2.2 3 (⟨#[59]⟩:ByteArray)).bind fun t5 =>
 some (p1.1,p2.1,t2.2.2.1,t4.2.2.1,t5.2.2.2.2.1,t5.2.2.2.2.2)
structure St (w0 w W:World) (g b0 b1:Nat) (l:List S68) (b:Bool) (x0 x1 x2 x3:Int):Prop where
 st:qaJ w0 W g l b
 bel:Below w0.heap.size w0 W
 keep:qaQ w W g none
 r:W.heap[b0]?=some (.cells #[.int .i64 0,.int .i64 0,.int .i64 0,.int .i64 0] 52 (0,0))
 x:W.heap[b1]?=some (.cells #[.int .i64 x0,.int .i64 x1,.int .i64 x2,.int .i64 x3] 52 (0,0))
 n0:g ≠ b0
 n1:g ≠ b1
 n2:b0 ≠ b1
 s0:w.heap.size≤b0
 s1:w.heap.size≤b1
 s2:w0.heap.size≤w.heap.size
theorem St.call {w0 w W W':World} {g b0 b1:Nat} {l l':List S68} {b b':Bool} {x0 x1 x2 x3:Int} (h:St w0 w W g b0 b1 l b x0 x1 x2 x3) (hi:qaJ w0 W' g l' b') (hb:Below w0.heap.size w0 W') (hk:qaQ W W' g none):St w0 w W' g b0 b1 l' b' x0 x1 x2 x3 :=
 ⟨hi,hb,h.keep.trans hk (.inl rfl),blk_keep h.r hk h.n0.symm,blk_keep h.x hk h.n1.symm,h.n0,h.n1,h.n2,h.s0,h.s1,h.s2⟩
theorem St.put {w0 w W:World} {g b0 b1:Nat} {l:List S68} {b:Bool} {x0 x1 x2 x3 y0 y1 y2 y3:Int} (j:Nat) (v:Int) (h:St w0 w W g b0 b1 l b x0 x1 x2 x3) (e:(#[Value.int .i64 x0,.int .i64 x1,.int .i64 x2,.int .i64 x3]:Array Value).setIfInBounds j (.int .i64 v)=#[.int .i64 y0,.int .i64 y1,.int .i64 y2,.int .i64 y3]):St w0 w (W.setCell ⟨b1,j,none⟩ (.int .i64 v)) g b0 b1 l b y0 y1 y2 y3 :=
 ⟨h.st.far h.n1 _,h.bel.setCell (Nat.le_trans h.s2 h.s1) _,qbK h.keep h.s1 _,qbI h.r h.n2 _,qaR h.x j _ e,h.n0,h.n1,h.n2,h.s0,h.s1,h.s2⟩
theorem St.bad {w0 w W:World} {g b0 b1:Nat} {l:List S68} {b:Bool} {x0 x1 x2 x3:Int} (h:St w0 w W g b0 b1 l b x0 x1 x2 x3):St w0 w (W.setCell ⟨g,1,none⟩ (.bool true)) g b0 b1 l true x0 x1 x2 x3 :=
 ⟨h.st.set_1 true,h.bel.setCell h.st.ge _,h.keep.set_ 1 _,qbI h.r h.n0.symm _,qbI h.x h.n1.symm _,h.n0,h.n1,h.n2,h.s0,h.s1,h.s2⟩
theorem words_at {w0 w:World} (hg:Aside0 (Glob w0)) (hb:Below w0.heap.size w0 w):w.cell? ⟨1,0,none⟩=some (.string ⟨#[98,101,108,111,119]⟩)∧w.cell? ⟨1,1,none⟩=some (.string ⟨#[102,111,114]⟩)∧w.cell? ⟨1,2,none⟩=some (.string ⟨#[97,116]⟩):=by
 have h:=(hg.out.below hb).wds
 exact ⟨(World.var?_cell gWds h 0).trans rfl,(World.var?_cell gWds h 1).trans rfl,(World.var?_cell gWds h 2).trans rfl⟩
set_option maxHeartbeats 4000000 in
set_option maxRecDepth 100000 in
theorem schedule_reader_stage.calls (g:Nat) (s0_0:List S68) (s0_1:Bool) (r1:Int) (r2:Int) (r3:Int) (r4:Int) (r5:List S68) (r6:Bool) (w0 w:World) (hI:qaJ w0 w g s0_0 s0_1) (hB:Below w0.heap.size w0 w) (h:schedule_reader_stage.f s0_0 s0_1=some (r1,r2,r3,r4,r5,r6)) (HG_:Aside0 (Glob w0)) :
  Calls Tryd.prog 40 #[.pointer (some ⟨g,0,none⟩)] w fun e w'=>e=.returned (.agg #[.int .i64 r1,.int .i64 r2,.int .i64 r3,.int .i64 r4])∧qaJ w0 w' g r5 r6∧Below w0.heap.size w0 w'∧qaQ w w' g none:=by
 unfold schedule_reader_stage.f at h
 obtain ⟨⟨p1,l1,q1⟩,a1,h⟩:=Option.bind_eq_some_iff.mp h
 obtain ⟨⟨p2,l2,q2⟩,a2,h⟩:=Option.bind_eq_some_iff.mp h
 obtain ⟨⟨t11,t12,t13,t14,l3,q3⟩,a3,h⟩:=Option.bind_eq_some_iff.mp h
 obtain ⟨⟨t21,t22,t23,t24,l4,q4⟩,a4,h⟩:=Option.bind_eq_some_iff.mp h
 obtain ⟨⟨t31,t32,t33,t34,l5,q5⟩,a5,h⟩:=Option.bind_eq_some_iff.mp h
 obtain ⟨⟨t41,t42,t43,t44,l6,q6⟩,a6,h⟩:=Option.bind_eq_some_iff.mp h
 obtain ⟨⟨t51,t52,t53,t54,l7,q7⟩,a7,h⟩:=Option.bind_eq_some_iff.mp h
 simp only [Option.some.injEq,Prod.mk.injEq] at h
 obtain ⟨rfl,rfl,rfl,rfl,rfl,rfl⟩:=h
 have A1:=Aside0.mk a1
 have A2:=Aside0.mk a2
 have A3:=Aside0.mk a3
 have A4:=Aside0.mk a4
 have A5:=Aside0.mk a5
 have A6:=Aside0.mk a6
 have A7:=Aside0.mk a7
 clear a1 a2 a3 a4 a5 a6 a7
 simp only [] at A2 A3 A4 A5 A6 A7
 have HI:=Aside0.mk hI
 have HB:=Aside0.mk hB
 clear hI hB
 have hu:=Tryd.underlying52
 have hfd:∀ (v0_ v1_ v2_ v3_:Value) (W_:World),(Instr.field 68 (.agg #[v0_,v1_,v2_,v3_]) 2).run Tryd.prog W_=.ok (v2_) W_:=fun _ _ _ _ _=>by kernel_rfl
 have hwd:=words_at HG_ HB.out
 have hwa0:∀ o1 o2,((w.alloc o1).alloc o2).cell? ⟨1,0,none⟩=some (.string ⟨#[98,101,108,111,119]⟩):=fun o1 o2=>qbB (qaB (qaB (Below.refl _ w) o1) o2) hwd.1
 clear hwd
 have hgl:1 < w.heap.size:=Nat.lt_of_lt_of_le (var_lt gWds HG_.out.wds) HB.out.size
 have hgs:=HI.out.lt
 go_enter Tryd.func40,Tryd.ntmps40
 go_wp2_with fail
 have H0:St w0 w ((w.alloc (.cells #[.int .i64 0,.int .i64 0,.int .i64 0,.int .i64 0] 52)).alloc (.cells #[.int .i64 0,.int .i64 0,.int .i64 0,.int .i64 0] 52)) g w.heap.size (w.heap.size+1) s0_0 s0_1 0 0 0 0 :=
  ⟨(HI.out.alloc _).alloc _,(HB.out.alloc HB.out.size _).alloc (by have:=HB.out.size;simp;omega) _,qaU (qaU (qaQ.refl _ _ _) _) _,qaG (by simpa using heap_alloc_new w _) _,by have:=heap_alloc_new (w.alloc (.cells #[.int .i64 0,.int .i64 0,.int .i64 0,.int .i64 0] 52)) (.cells #[.int .i64 0,.int .i64 0,.int .i64 0,.int .i64 0] 52);simpa using this,by omega,by omega,by omega,Nat.le_refl _,by omega,HB.out.size⟩
 clear hwa0
 obtain ⟨b1,hb1⟩:∃ b1,b1=w.heap.size+1:=⟨_,rfl⟩
 rw [← hb1] at H0 ⊢
 have H1:=Aside0.mk H0
 have N1:=Aside0.mk (show 1 ≠ b1 by omega)
 clear H0
 have N1':¬ 1=b1:=N1.out
 have N2:=Aside0.mk (show 1 ≠ g from fun e=>by have:=HI.out.ge;have:=var_lt gWds HG_.out.wds;omega)
 clear hb1
 refine (schedule_reader_part.calls g s0_0 s0_1 _ p1 l1 q1 w0 _ H1.out.st H1.out.bel A1.out).mono ?_
 rintro e w1 ⟨rfl,hi,hb,hk⟩
 have H2:=Aside0.mk (H1.out.call hi hb hk)
 clear H1 hi hb hk
 have hx0:=qaE H2.out.x 0
 have hy0:=qaD H2.out.x 0
 simp at hx0
 obtain ⟨-,hw1,-⟩:=words_at HG_ H2.out.bel
 go_wp2_with fail
 have H3:=Aside0.mk (H2.out.put (y0:=p1) (y1:=0) (y2:=0) (y3:=0) 0 p1 rfl)
 clear H2 hx0 hy0 hw1
 refine (schedule_reader_part.calls g l1 q1 _ p2 l2 q2 w0 _ H3.out.st H3.out.bel A2.out).mono ?_
 rintro e w2 ⟨rfl,hi,hb,hk⟩
 have H4:=Aside0.mk (H3.out.call hi hb hk)
 clear H3 hi hb hk
 have hx0:=qaE H4.out.x 0
 have hx1:=qaE H4.out.x 1
 have hy0:=qaD H4.out.x 0
 have hy1:=qaD H4.out.x 1
 obtain ⟨A0,c0,hgb,-⟩:=H4.out.st
 have hc1:=cellS65_1 hgb
 have hf1:=qaD hgb 1
 clear hgb
 have hnb:=H4.out.n1
 simp at hx0 hx1
 obtain ⟨-,-,hw2⟩:=words_at HG_ H4.out.bel
 have N2':¬ 1=g:=N2.out
 by_cases hz:wrap64 (p1+p2)=0
 ·rw [if_pos hz] at A3
  have hzb:(wrap64 (p1+p2) == 0)=true:=by simp [hz]
  clear hz
  go_wp2_with fail
  have H5:=Aside0.mk (H4.out.put (y0:=p1) (y1:=p2) (y2:=0) (y3:=0) 1 p2 rfl).bad
  clear H4 hx0 hx1 hy0 hy1 hc1 hf1 hw2
  refine (schedule_reader_take.calls g l2 true 1 _ t11 t12 t13 t14 l3 q3 w0 _ H5.out.st H5.out.bel A3.out).mono ?_
  rintro e w3 ⟨rfl,hi,hb,hk⟩
  have H6:=Aside0.mk (H5.out.call hi hb hk)
  clear H5 hi hb hk
  go_wp2_with fail
  refine (schedule_reader_take.calls g l3 q3 2 _ t21 t22 t23 t24 l4 q4 w0 _ H6.out.st H6.out.bel A4.out).mono ?_
  rintro e w4 ⟨rfl,hi,hb,hk⟩
  have H7:=Aside0.mk (H6.out.call hi hb hk)
  clear H6 hi hb hk
  have hx:=qaE H7.out.x 2
  have hy:=qaD H7.out.x 2
  simp at hx
  go_wp2_with fail
  have H8:=Aside0.mk (H7.out.put (y0:=p1) (y1:=p2) (y2:=t23) (y3:=0) 2 t23 rfl)
  clear H7 hx hy
  refine (schedule_reader_take.calls g l4 q4 3 _ t31 t32 t33 t34 l5 q5 w0 _ H8.out.st H8.out.bel A5.out).mono ?_
  rintro e w5 ⟨rfl,hi,hb,hk⟩
  have H9:=Aside0.mk (H8.out.call hi hb hk)
  clear H8 hi hb hk
  go_wp2_with fail
  refine (schedule_reader_take.calls g l5 q5 2 _ t41 t42 t43 t44 l6 q6 w0 _ H9.out.st H9.out.bel A6.out).mono ?_
  rintro e w6 ⟨rfl,hi,hb,hk⟩
  have H10:=Aside0.mk (H9.out.call hi hb hk)
  clear H9 hi hb hk
  have hx:=qaE H10.out.x 3
  have hy:=qaD H10.out.x 3
  simp at hx
  go_wp2_with fail
  have H11:=Aside0.mk (H10.out.put (y0:=p1) (y1:=p2) (y2:=t23) (y3:=t43) 3 t43 rfl)
  clear H10 hx hy
  refine (schedule_reader_take.calls g l6 q6 3 _ t51 t52 t53 t54 l7 q7 w0 _ H11.out.st H11.out.bel A7.out).mono ?_
  rintro e w7 ⟨rfl,hi,hb,hk⟩
  have H12:=Aside0.mk (H11.out.call hi hb hk)
  clear H11 hi hb hk
  have hx0:=qaE H12.out.x 0
  have hx1:=qaE H12.out.x 1
  have hx2:=qaE H12.out.x 2
  have hx3:=qaE H12.out.x 3
  have hr0:=qaE H12.out.r 0
  have hr1:=qaE H12.out.r 1
  have hr2:=qaE H12.out.r 2
  have hr3:=qaE H12.out.r 3
  have hq0:=qaD H12.out.r 0
  have hq1:=qaD H12.out.r 1
  have hq2:=qaD H12.out.r 2
  have hq3:=qaD H12.out.r 3
  simp at hx0 hx1 hx2 hx3 hr0 hr1 hr2 hr3
  have hnr:=H12.out.n2
  go_wp2_with fail
  have hs:=H12.out.s0
  have hs2:=H12.out.s2
  refine bodyPost_ret (results_cell_row rfl _ _ w.heap.size 52 #[.int .i64 p1,.int .i64 p2,.int .i64 t23,.int .i64 t43] (0,0) _ rfl (blk_put4 H12.out.r) hu rfl (by kernel_rfl)) rfl ⟨rfl,?_,?_,?_⟩
  ·exact (((H12.out.st.far H12.out.n0 _).far H12.out.n0 _).far H12.out.n0 _).far H12.out.n0 _
  ·exact (((H12.out.bel.setCell hs2 _).setCell hs2 _).setCell hs2 _).setCell hs2 _
  ·exact qbK (qbK (qbK (qbK H12.out.keep hs _) hs _) hs _) hs _
 ·rw [if_neg hz] at A3
  have hzb:(wrap64 (p1+p2) == 0)=false:=by simp [hz]
  clear hz
  go_wp2_with fail
  have H5:=Aside0.mk (H4.out.put (y0:=p1) (y1:=p2) (y2:=0) (y3:=0) 1 p2 rfl)
  clear H4 hx0 hx1 hy0 hy1 hc1 hf1 hw2
  refine (schedule_reader_take.calls g l2 q2 1 _ t11 t12 t13 t14 l3 q3 w0 _ H5.out.st H5.out.bel A3.out).mono ?_
  rintro e w3 ⟨rfl,hi,hb,hk⟩
  have H6:=Aside0.mk (H5.out.call hi hb hk)
  clear H5 hi hb hk
  go_wp2_with fail
  refine (schedule_reader_take.calls g l3 q3 2 _ t21 t22 t23 t24 l4 q4 w0 _ H6.out.st H6.out.bel A4.out).mono ?_
  rintro e w4 ⟨rfl,hi,hb,hk⟩
  have H7:=Aside0.mk (H6.out.call hi hb hk)
  clear H6 hi hb hk
  have hx:=qaE H7.out.x 2
  have hy:=qaD H7.out.x 2
  simp at hx
  go_wp2_with fail
  have H8:=Aside0.mk (H7.out.put (y0:=p1) (y1:=p2) (y2:=t23) (y3:=0) 2 t23 rfl)
  clear H7 hx hy
  refine (schedule_reader_take.calls g l4 q4 3 _ t31 t32 t33 t34 l5 q5 w0 _ H8.out.st H8.out.bel A5.out).mono ?_
  rintro e w5 ⟨rfl,hi,hb,hk⟩
  have H9:=Aside0.mk (H8.out.call hi hb hk)
  clear H8 hi hb hk
  go_wp2_with fail
  refine (schedule_reader_take.calls g l5 q5 2 _ t41 t42 t43 t44 l6 q6 w0 _ H9.out.st H9.out.bel A6.out).mono ?_
  rintro e w6 ⟨rfl,hi,hb,hk⟩
  have H10:=Aside0.mk (H9.out.call hi hb hk)
  clear H9 hi hb hk
  have hx:=qaE H10.out.x 3
  have hy:=qaD H10.out.x 3
  simp at hx
  go_wp2_with fail
  have H11:=Aside0.mk (H10.out.put (y0:=p1) (y1:=p2) (y2:=t23) (y3:=t43) 3 t43 rfl)
  clear H10 hx hy
  refine (schedule_reader_take.calls g l6 q6 3 _ t51 t52 t53 t54 l7 q7 w0 _ H11.out.st H11.out.bel A7.out).mono ?_
  rintro e w7 ⟨rfl,hi,hb,hk⟩
  have H12:=Aside0.mk (H11.out.call hi hb hk)
  clear H11 hi hb hk
  have hx0:=qaE H12.out.x 0
  have hx1:=qaE H12.out.x 1
  have hx2:=qaE H12.out.x 2
  have hx3:=qaE H12.out.x 3
  have hr0:=qaE H12.out.r 0
  have hr1:=qaE H12.out.r 1
  have hr2:=qaE H12.out.r 2
  have hr3:=qaE H12.out.r 3
  have hq0:=qaD H12.out.r 0
  have hq1:=qaD H12.out.r 1
  have hq2:=qaD H12.out.r 2
  have hq3:=qaD H12.out.r 3
  simp at hx0 hx1 hx2 hx3 hr0 hr1 hr2 hr3
  have hnr:=H12.out.n2
  go_wp2_with fail
  have hs:=H12.out.s0
  have hs2:=H12.out.s2
  refine bodyPost_ret (results_cell_row rfl _ _ w.heap.size 52 #[.int .i64 p1,.int .i64 p2,.int .i64 t23,.int .i64 t43] (0,0) _ rfl (blk_put4 H12.out.r) hu rfl (by kernel_rfl)) rfl ⟨rfl,?_,?_,?_⟩
  ·exact (((H12.out.st.far H12.out.n0 _).far H12.out.n0 _).far H12.out.n0 _).far H12.out.n0 _
  ·exact (((H12.out.bel.setCell hs2 _).setCell hs2 _).setCell hs2 _).setCell hs2 _
  ·exact qbK (qbK (qbK (qbK H12.out.keep hs _) hs _) hs _) hs _
end Go.Proofs.YtehdmplngmbnnaaDoor.P
namespace Go.Proofs.YtehdmplngmbnnaaDoor.P
open Go.RowKit Go.Proofs.YtehdmplngmbnnaaDoorW.PrintWords Go.Proofs.YtehdmplngmbnnaaDoorW.PrintLast
set_option linter.unusedVariables false
set_option linter.unusedSimpArgs false
def stChk (j:Nat) (x:S52):Bool:=match j with
 | 0=>!(decide (x.f0 < 0) || decide (20000 < x.f0))
 | 1=>!(decide (x.f1 < 0) || decide (10000 < x.f1))
 | 2=>!(decide (x.f2 < 200) || decide (1200 < x.f2))
 | _=>!(decide (x.f3 < 0) || decide (400 < x.f3))
def stOk (x:S52):Bool:=stChk 0 x && stChk 1 x && stChk 2 x && stChk 3 x && !(wrap64 (x.f0+x.f1) == 0)
def schedule_Check.f (n:ByteArray) (r:Int) (l:List S52):Option Int :=
 some (if isNm n=true then (if r < 1 ∨ 1200 < r then 9 else if l.length < 1 then 3 else if 12 < l.length then 4 else if l.all stOk=true then 0 else 9) else 6)
theorem all_no {x:S52} {l:List S52} (k:Nat) (hk:k < l.length) (e:x=qbJ l k) (h:stOk x=false):l.all stOk=false:=by
 rw [List.all_eq_false]
 refine ⟨x,?_,by simp [h]⟩
 rw [e]
 unfold qbJ
 rw [List.getD_eq_getElem?_getD,List.getElem?_eq_getElem (by simpa using hk)]
 simp
theorem all_step {l:List S52} (k:Nat) (hk:k < l.length) (ht:(l.take k).all stOk=true) (h:stOk (qbJ l k)=true):(l.take (k+1)).all stOk=true:=by
 rw [List.take_add_one,List.all_append,ht,List.getElem?_eq_getElem hk]
 unfold qbJ at h
 rw [List.getD_eq_getElem?_getD,List.getElem?_eq_getElem (by simpa using hk)] at h
 simpa using h
theorem lims_at {w0 w:World} (hg:Aside0 (Glob w0)) (hb:Below w0.heap.size w0 w) (i:Nat) (v:Value) (hv:(#[Value.int .i64 0,.int .i64 20000,.int .i64 0,.int .i64 10000,.int .i64 200,.int .i64 1200,.int .i64 0,.int .i64 400]:Array Value)[i]?=some v):w.cell? ⟨0,i,none⟩=some v :=
 (World.var?_cell gLim (hg.out.below hb).lim i).trans hv
set_option maxHeartbeats 4000000 in
set_option maxRecDepth 100000 in
theorem schedule_Check.calls (a0_0:ByteArray) (a0_1:Int) (A0_2:Option Addr) (c0_2:Nat) (l0_2:List S52) (r:Int) (w:World) (hr0_2:Kd.C k52 w A0_2 l0_2.length l0_2) (hc0_2:l0_2.length≤c0_2) (h:schedule_Check.f a0_0 a0_1 l0_2=some r) (HG_:Aside0 (Glob w)) :
  Calls Tryd.prog 16 #[.agg #[.string a0_0,.int .i64 a0_1,.slice A0_2 l0_2.length c0_2]] w fun e w'=>e=.returned (.int .i64 r)∧Below w.heap.size w w':=by
 have hus:=Tryd.underlying52
 have huh:=Tryd.underlying24
 have HR:=Aside0.mk hr0_2
 have HC:=Aside0.mk hc0_2
 have HH:=Aside0.mk (Option.some.inj h)
 clear hr0_2 hc0_2 h
 have HN:=Aside0.mk (ident_nm a0_0)
 go_enter Tryd.func16,Tryd.ntmps16
 go_wp2_with fail
 refine (ident_IsName.calls 20 a0_0 (isNm a0_0) _ HN.out).mono ?_
 rintro e w1 ⟨rfl,⟨nd,rfl⟩⟩
 cases hn:isNm a0_0
 ·have HM:=Aside0.mk (HH.out.symm.trans (if_neg (by simp [hn])))
  clear hn
  go_wp2_with fail
  go_ret
  exact ⟨by rw [HM.out];rfl,qaA (qaB (Below.refl _ w) _) _⟩
 ·have HM:=Aside0.mk (HH.out.symm.trans (if_pos hn))
  clear hn HH
  by_cases h1:a0_1 < 1
  ·have HM2:=Aside0.mk (HM.out.trans (if_pos (.inl h1)))
   clear HM
   go_wp2_with fail
   go_ret
   exact ⟨by rw [HM2.out];rfl,qaA (qaB (Below.refl _ w) _) _⟩
  ·by_cases h2:1200 < a0_1
   ·have HM2:=Aside0.mk (HM.out.trans (if_pos (.inr h2)))
    clear HM
    go_wp2_with fail
    go_ret
    exact ⟨by rw [HM2.out];rfl,qaA (qaB (Below.refl _ w) _) _⟩
   ·have HM2:=Aside0.mk (HM.out.trans (if_neg (by omega)))
    clear HM
    by_cases h3:l0_2.length < 1
    ·have HM3:=Aside0.mk (HM2.out.trans (if_pos h3))
     clear HM2
     have c3:decide ((l0_2.length:Int) < 1)=true:=decide_eq_true (by omega)
     go_wp2_with fail
     go_ret
     exact ⟨by rw [HM3.out];rfl,qaA (qaB (Below.refl _ w) _) _⟩
    ·have HM3:=Aside0.mk (HM2.out.trans (if_neg h3))
     clear HM2
     have c3:decide ((l0_2.length:Int) < 1)=false:=decide_eq_false (by omega)
     by_cases h4:12 < l0_2.length
     ·have HM4:=Aside0.mk (HM3.out.trans (if_pos h4))
      clear HM3
      have c4:decide (12 < (l0_2.length:Int))=true:=decide_eq_true (by omega)
      go_wp2_with fail
      go_ret
      exact ⟨by rw [HM4.out];rfl,qaA (qaB (Below.refl _ w) _) _⟩
     ·have HM4:=Aside0.mk (HM3.out.trans (if_neg h4))
      clear HM3
      have c4:decide (12 < (l0_2.length:Int))=false:=decide_eq_false (by omega)
      have HL:=Aside0.mk (show l0_2.length≤12 by omega)
      clear h3 h4
      go_wp2_with fail
      clear c3 c4 h1 h2
      go_loopg [34] l0_2.length (fun kq i wr=>∃ k:Nat,i=.int .i64 k∧Aside0 (k+kq=l0_2.length)∧Aside0 ((l0_2.take k).all stOk=true)∧Aside0 (Below w.heap.size w wr))
      case atStart=>exact ⟨0,rfl,⟨Nat.zero_add _⟩,⟨by simp⟩,⟨qaA (qaB (Below.refl _ w) _) _⟩⟩
      case round =>
       obtain ⟨k,rfl,HK,HT,HB⟩:=hrel
       have HK2:=Aside0.mk (show k≤l0_2.length by have:=HK.out;omega)
       by_cases hk:k < l0_2.length
       ·have c5:decide ((k:Int) < (l0_2.length:Int))=true:=decide_eq_true (by omega)
        obtain ⟨ad,ea,hx0,hx1,hx2,hx3⟩:=at_T52 HR.out k (by omega) (by omega)
        subst ea
        obtain ⟨x,hx⟩:∃ x,x=qbJ l0_2 k:=⟨_,rfl⟩
        rw [← hx] at hx0 hx1 hx2 hx3
        replace hx0:=qbP HB.out hx0
        replace hx1:=qbP HB.out hx1
        replace hx2:=qbP HB.out hx2
        replace hx3:=qbP HB.out hx3
        simp only [Int.toNat_natCast] at hx0 hx1 hx2 hx3
        have HX:=Aside0.mk hx
        clear hx
        have HNO:Aside0 (stOk x=false→r=9):=⟨fun e=>HM4.out.trans (if_neg (by rw [all_no k hk HX.out e];simp))⟩
        go_wp2_with fail
        have H1:(wr.alloc (.cells #[.int .i64 x.f0,.int .i64 x.f1,.int .i64 x.f2,.int .i64 x.f3] 52)).heap[wr.heap.size]?=some (.cells #[.int .i64 x.f0,.int .i64 x.f1,.int .i64 x.f2,.int .i64 x.f3] 52 (0,0)):=heap_alloc_new wr _
        have HB1:Below w.heap.size w (wr.alloc (.cells #[.int .i64 x.f0,.int .i64 x.f1,.int .i64 x.f2,.int .i64 x.f3] 52)):=qaB HB.out _
        obtain ⟨b,hb⟩:∃ b,b=wr.heap.size:=⟨_,rfl⟩
        rw [← hb] at H1 ⊢
        clear hb
        replace H1:=Aside0.mk H1
        replace HB1:=Aside0.mk HB1
        clear hx0 hx1 hx2 hx3 c5
        go_loopw [47] (fun i W=>∃ j:Int,i=.int .i64 j∧(j=0 ∨ j=1 ∨ j=2 ∨ j=3 ∨ j=4)∧Aside0 (∀ m:Nat,(m:Int) < j→stChk m x=true)∧Aside0 (W.heap[b]?=some (.cells #[.int .i64 x.f0,.int .i64 x.f1,.int .i64 x.f2,.int .i64 x.f3] 52 (0,0)))∧Aside0 (Below w.heap.size w W)) (fun i _=>4 - (intOf i).toNat)
        case atStart=>exact ⟨0,rfl,.inl rfl,⟨fun m h=>by omega⟩,H1,HB1⟩
        case round =>
         obtain ⟨j,rfl,hj,HJ,HW,HBW⟩:=hrel
         clear H1 HB1
         obtain rfl|rfl|rfl|rfl|rfl:=hj
         ·have hl0:=lims_at HG_ HBW.out 0 _ rfl
          have hix:∀ (v0_ v1_ v2_ v3_:Value) (W_:World),(Instr.index 58 (.agg #[v0_,v1_,v2_,v3_]) (.int .i64 0)).run Tryd.prog W_=.ok v0_ W_:=fun _ _ _ _ _=>by kernel_rfl
          have hl1:=lims_at HG_ HBW.out 1 _ rfl
          by_cases g0:x.f0 < 0
          ·have HR9:=Aside0.mk (HNO.out (by simp [stOk,stChk,g0]))
           go_wp2_with fail
           go_ret
           exact ⟨by rw [HR9.out];rfl,HBW.out⟩
          ·by_cases g1:20000 < x.f0
           ·have HR9:=Aside0.mk (HNO.out (by simp [stOk,stChk,g1]))
            go_wp2_with fail
            go_ret
            exact ⟨by rw [HR9.out];rfl,HBW.out⟩
           ·have HJ2:Aside0 (∀ m:Nat,(m:Int) < 1→stChk m x=true):=⟨fun m hm=>by
             by_cases he:(m:Int) < 0
             ·exact HJ.out m he
             ·obtain rfl:m=0:=by omega
              simp [stChk,g0,g1]⟩
            clear HJ
            go_wp2_with fail
            go_roundw
            case rel=>exact ⟨1,rfl,by omega,HJ2,HW,HBW⟩
            case measure=>simp [intOf]
         ·have hl0:=lims_at HG_ HBW.out 2 _ rfl
          have hix:∀ (v0_ v1_ v2_ v3_:Value) (W_:World),(Instr.index 58 (.agg #[v0_,v1_,v2_,v3_]) (.int .i64 1)).run Tryd.prog W_=.ok v1_ W_:=fun _ _ _ _ _=>by kernel_rfl
          have hl1:=lims_at HG_ HBW.out 3 _ rfl
          by_cases g0:x.f1 < 0
          ·have HR9:=Aside0.mk (HNO.out (by simp [stOk,stChk,g0]))
           go_wp2_with fail
           go_ret
           exact ⟨by rw [HR9.out];rfl,HBW.out⟩
          ·by_cases g1:10000 < x.f1
           ·have HR9:=Aside0.mk (HNO.out (by simp [stOk,stChk,g1]))
            go_wp2_with fail
            go_ret
            exact ⟨by rw [HR9.out];rfl,HBW.out⟩
           ·have HJ2:Aside0 (∀ m:Nat,(m:Int) < 2→stChk m x=true):=⟨fun m hm=>by
             by_cases he:(m:Int) < 1
             ·exact HJ.out m he
             ·obtain rfl:m=1:=by omega
              simp [stChk,g0,g1]⟩
            clear HJ
            go_wp2_with fail
            go_roundw
            case rel=>exact ⟨2,rfl,by omega,HJ2,HW,HBW⟩
            case measure=>simp [intOf]
         ·have hl0:=lims_at HG_ HBW.out 4 _ rfl
          have hix:∀ (v0_ v1_ v2_ v3_:Value) (W_:World),(Instr.index 58 (.agg #[v0_,v1_,v2_,v3_]) (.int .i64 2)).run Tryd.prog W_=.ok v2_ W_:=fun _ _ _ _ _=>by kernel_rfl
          have hl1:=lims_at HG_ HBW.out 5 _ rfl
          by_cases g0:x.f2 < 200
          ·have HR9:=Aside0.mk (HNO.out (by simp [stOk,stChk,g0]))
           go_wp2_with fail
           go_ret
           exact ⟨by rw [HR9.out];rfl,HBW.out⟩
          ·by_cases g1:1200 < x.f2
           ·have HR9:=Aside0.mk (HNO.out (by simp [stOk,stChk,g1]))
            go_wp2_with fail
            go_ret
            exact ⟨by rw [HR9.out];rfl,HBW.out⟩
           ·have HJ2:Aside0 (∀ m:Nat,(m:Int) < 3→stChk m x=true):=⟨fun m hm=>by
             by_cases he:(m:Int) < 2
             ·exact HJ.out m he
             ·obtain rfl:m=2:=by omega
              simp [stChk,g0,g1]⟩
            clear HJ
            go_wp2_with fail
            go_roundw
            case rel=>exact ⟨3,rfl,by omega,HJ2,HW,HBW⟩
            case measure=>simp [intOf]
         ·have hl0:=lims_at HG_ HBW.out 6 _ rfl
          have hix:∀ (v0_ v1_ v2_ v3_:Value) (W_:World),(Instr.index 58 (.agg #[v0_,v1_,v2_,v3_]) (.int .i64 3)).run Tryd.prog W_=.ok v3_ W_:=fun _ _ _ _ _=>by kernel_rfl
          have hl1:=lims_at HG_ HBW.out 7 _ rfl
          by_cases g0:x.f3 < 0
          ·have HR9:=Aside0.mk (HNO.out (by simp [stOk,stChk,g0]))
           go_wp2_with fail
           go_ret
           exact ⟨by rw [HR9.out];rfl,HBW.out⟩
          ·by_cases g1:400 < x.f3
           ·have HR9:=Aside0.mk (HNO.out (by simp [stOk,stChk,g1]))
            go_wp2_with fail
            go_ret
            exact ⟨by rw [HR9.out];rfl,HBW.out⟩
           ·have HJ2:Aside0 (∀ m:Nat,(m:Int) < 4→stChk m x=true):=⟨fun m hm=>by
             by_cases he:(m:Int) < 3
             ·exact HJ.out m he
             ·obtain rfl:m=3:=by omega
              simp [stChk,g0,g1]⟩
            clear HJ
            go_wp2_with fail
            go_roundw
            case rel=>exact ⟨4,rfl,by omega,HJ2,HW,HBW⟩
            case measure=>simp [intOf]
         ·have hx0:=qaE HW.out 0
          have hx1:=qaE HW.out 1
          have hy0:=qaD HW.out 0
          have hy1:=qaD HW.out 1
          simp at hx0 hx1
          have hq0:=HJ.out 0 (by omega)
          have hq1:=HJ.out 1 (by omega)
          have hq2:=HJ.out 2 (by omega)
          have hq3:=HJ.out 3 (by omega)
          by_cases g0:wrap64 (x.f0+x.f1)=0
          ·have HR9:=Aside0.mk (HNO.out (by simp [stOk,g0]))
           have g1:(wrap64 (x.f0+x.f1) == 0)=true:=by simp [g0]
           clear hq0 hq1 hq2 hq3 g0
           go_wp2_with fail
           go_ret
           exact ⟨by rw [HR9.out];rfl,HBW.out⟩
          ·have HOK:=Aside0.mk (show stOk x=true by simp [stOk,g0,hq0,hq1,hq2,hq3])
           have g1:(wrap64 (x.f0+x.f1) == 0)=false:=by simp [g0]
           clear hq0 hq1 hq2 hq3 g0
           go_wp2_with fail
           have e:wrap64 ((k:Int)+1)=(k:Int)+1:=by
            have:=HL.out
            unfold wrap64
            omega
           go_roundg (gk - 1)
           case measure=>have:=HK.out;omega
           case rel=>exact ⟨k+1,by simp [e],⟨by have:=HK.out;omega⟩,⟨all_step k hk HT.out (by rw [← HX.out];exact HOK.out)⟩,HBW⟩
       ·have HE:=Aside0.mk (show l0_2.all stOk=true by have:=HT.out;rwa [List.take_of_length_le (by omega)] at this)
        have HM5:=Aside0.mk (HM4.out.trans (if_pos HE.out))
        have c5:decide ((k:Int) < (l0_2.length:Int))=false:=decide_eq_false (by omega)
        clear HM4 HE HT
        go_wp2_with fail
        go_ret
        exact ⟨by rw [HM5.out];rfl,HB.out⟩
end Go.Proofs.YtehdmplngmbnnaaDoor.P
namespace Go.Proofs.YtehdmplngmbnnaaDoor.P
open Go.RowKit Go.Proofs.YtehdmplngmbnnaaDoorW.PrintWords Go.Proofs.YtehdmplngmbnnaaDoorW.PrintLast Go.Proofs.YtehdmplngmbnnaaDoorW.PrintMore
attribute [local go_sem] qbV qbW qcC qcD qbQ qbR qbX qbY
attribute [local go_sem] qbL
set_option linter.unusedVariables false
set_option linter.unusedSimpArgs false
def schedule_last.f (l0:List (S24)):Option (Int):=if (wrap64 ((l0.length:Int) - 1)) ≥ 8 then (some 4) else (if 0≤(wrap64 ((l0.length:Int) - 1)) then (if (wrap64 ((l0.length:Int) - 1)) < (l0.length:Int) then ((schedule_Check.f ((qaP l0 (wrap64 ((l0.length:Int) - 1))).f0) ((qaP l0 (wrap64 ((l0.length:Int) - 1))).f1) ((qaP l0 (wrap64 ((l0.length:Int) - 1))).f2)).bind fun t102=>(if t102=0 then (if (wrap64 ((l0.length:Int) - 1))≤(l0.length:Int) then ((schedule_Find.f (l0.take ((wrap64 ((l0.length:Int) - 1)):Int).toNat) ((qaP l0 (wrap64 ((l0.length:Int) - 1))).f0)).bind fun bt108=>(if bt108.2.2.2=true then (some 7) else (some 0))) else (none)) else (some t102))) else (none)) else (none))
def schedule_last.T7:Bool × List (List Nat × List Nat):=(true,[([],[]),([],[]),([0,1],[0,1]),([],[]),([],[]),([3,4],[3,4]),([5],[5]),([6],[6]),([2,7],[2,7]),([8],[8]),([9],[9]),([9],[9]),([],[]),([12,10,8,0,1,2,3,4,5,6,7,8,9,10,12],[10,12]),([11,13,0,1,2,3,4,5,6,7,8,9,10,11,12,13],[11])])
def schedule_last.B7:List Nat:=[0,0,3,0,0,24,56,120,255,511,1023,1023,0,6143,16383]
theorem schedule_last.tab7:rtab .any (opsOf Tryd.f34 7)=schedule_last.T7:=by kernel_rfl
theorem schedule_last.bits7:waitsOk schedule_last.T7.2 schedule_last.B7=true:=by kernel_rfl
set_option maxHeartbeats 8000000 in
set_option maxRecDepth 100000 in
theorem schedule_last.calls (A0:Option Addr) (c0:Nat) (l0:List (S24)) (r:Int) (w:World) (hr0:Kd.C k24 w A0 l0.length l0) (hc0:l0.length≤c0) (h:schedule_last.f l0=some r) (HG_:Aside0 (Glob w)) :
  Calls Tryd.prog 34 #[.slice A0 l0.length c0] w fun e w'=>e=.returned (.int .i64 r)∧Below w.heap.size w w':=by
 have hu24:=Tryd.underlying24
 have HR0:=Aside0.mk hr0
 have HC0:=Aside0.mk hc0
 clear hr0 hc0
 have HB:=Aside0.mk (Below.refl w.heap.size w)
 have H:(if (wrap64 ((l0.length:Int) - 1)) ≥ 8 then (some 4) else (if 0≤(wrap64 ((l0.length:Int) - 1)) then (if (wrap64 ((l0.length:Int) - 1)) < (l0.length:Int) then ((schedule_Check.f ((qaP l0 (wrap64 ((l0.length:Int) - 1))).f0) ((qaP l0 (wrap64 ((l0.length:Int) - 1))).f1) ((qaP l0 (wrap64 ((l0.length:Int) - 1))).f2)).bind fun t102=>(if t102=0 then (if (wrap64 ((l0.length:Int) - 1))≤(l0.length:Int) then ((schedule_Find.f (l0.take ((wrap64 ((l0.length:Int) - 1)):Int).toNat) ((qaP l0 (wrap64 ((l0.length:Int) - 1))).f0)).bind fun bt108=>(if bt108.2.2.2=true then (some 7) else (some 0))) else (none)) else (some t102))) else (none)) else (none)))=some r:=h
 clear h
 by_cases c2:(wrap64 ((l0.length:Int) - 1)) ≥ 8
 ·rw [if_pos c2] at H
  have c2b0:decide (8≤(wrap64 ((l0.length:Int) - 1)))=true:=decide_eq_true c2
  clear c2
  obtain rfl:=Option.some.inj H
  go_enter Tryd.func34,Tryd.ntmps34
  go_wp2
  go_ret
  exact ⟨by first|rfl|(simp [qaL,qaM]<;>rfl)|(simp [*,qaL,qaM]<;>rfl),by repeat (first|(with_reducible first|exact HB.out|apply qaB|apply qaA|apply qaC)|exact HB.out)⟩
 ·rw [if_neg c2] at H
  have c2b0:decide (8≤(wrap64 ((l0.length:Int) - 1)))=false:=decide_eq_false c2
  clear c2
  obtain ⟨ji3,hji3⟩:∃ j_:Int,(wrap64 ((l0.length:Int) - 1))=j_:=⟨_,rfl⟩
  replace H:(if 0≤(ji3) then (if (ji3) < (l0.length:Int) then ((schedule_Check.f ((qaP l0 (ji3)).f0) ((qaP l0 (ji3)).f1) ((qaP l0 (ji3)).f2)).bind fun t102=>(if t102=0 then (if (ji3)≤(l0.length:Int) then ((schedule_Find.f (l0.take ((ji3):Int).toNat) ((qaP l0 (ji3)).f0)).bind fun bt108=>(if bt108.2.2.2=true then (some 7) else (some 0))) else (none)) else (some t102))) else (none)) else (none))=some r:=by first|(rw [hji3] at H;exact H)|(simp only [hji3] at H ⊢;exact H)
  (try rw [hji3] at c2b0)
  have hji3w:(IntKind.i64.wrap ((l0.length:Int) - 1))=ji3:=(qaX _).trans hji3
  by_cases c4:0≤(ji3)
  ·rw [if_pos c4] at H
   have c4b0:decide (0≤(ji3))=true:=decide_eq_true c4
   clear c4
   by_cases c5:(ji3) < (l0.length:Int)
   ·rw [if_pos c5] at H
    have c5b0:decide ((ji3) < (l0.length:Int))=true:=decide_eq_true c5
    clear c5
    replace H:=Option.bind_eq_some_iff.mp H
    obtain ⟨t102,A60,H⟩:=H
    replace H:(if t102=0 then (if (ji3)≤(l0.length:Int) then ((schedule_Find.f (l0.take ((ji3):Int).toNat) ((qaP l0 (ji3)).f0)).bind fun bt108=>(if bt108.2.2.2=true then (some 7) else (some 0))) else (none)) else (some t102))=some r:=H
    have A6:=Aside0.mk A60
    clear A60
    by_cases c7:t102=0
    ·rw [if_pos c7] at H
     have c7b0:(t102 == 0)=true:=beq_iff_eq.mpr c7
     have c7b1:(t102 != 0)=false:=bne_eq_false_iff_eq.mpr c7
     clear c7
     have c8b0:=eq_true (of_decide_eq_true (by first|(with_reducible assumption)|assumption):0≤(ji3))
     by_cases c9:(ji3)≤(l0.length:Int)
     ·rw [if_pos c9] at H
      have c9b0:=eq_true c9
      have c9b1:decide ((ji3)≤(l0.length:Int))=true:=decide_eq_true c9
      clear c9
      obtain ⟨y103,hy103⟩:∃ y_:List (S24),y_=(l0.take ((ji3):Int).toNat):=⟨_,rfl⟩
      replace H:((schedule_Find.f y103 ((qaP l0 (ji3)).f0)).bind fun bt108=>(if bt108.2.2.2=true then (some 7) else (some 0)))=some r:=by first|(rw [hy103];with_reducible exact H)|(have H2_:=(Option.bind_some _ _).symm.trans H;rw [hy103];with_reducible exact H2_)|(have H2_:=(Option.bind_some _ _).symm.trans H;with_reducible exact H2_)|with_reducible exact H|(rw [hy103];exact H)|exact H
      have Ny103:=Aside0.mk hy103
      clear hy103
      replace H:=Option.bind_eq_some_iff.mp H
      obtain ⟨⟨t108,t109,t110,t113⟩,A100,H⟩:=H
      replace H:(if t113=true then (some 7) else (some 0))=some r:=H
      have A10:=Aside0.mk A100
      clear A100
      have HBr:=Aside0.mk H
      clear H
      have p101:0≤((ji3):Int):=of_decide_eq_true (by first|(with_reducible assumption)|assumption)
      have q101:(ji3) < (l0.length:Int):=of_decide_eq_true (by first|(with_reducible assumption)|assumption)
      obtain ⟨ad101,A101_2,c101_2,e101,hx101_0,hx101_1,hx101_2,hl101_2,hi101_2⟩:=at_T24 HR0.out (ji3) p101 q101
      cases e101
      have HR101_2:=Aside0.mk hi101_2
      have HC101_2:=Aside0.mk hl101_2
      clear hi101_2 hl101_2
      replace p101:=eq_true p101
      replace q101:=eq_true q101
      go_enter Tryd.func34,Tryd.ntmps34
      try go_wp2_with (first|((with_reducible refine qaO (f:=16) rfl ?_);refine qbG (some 16) rfl rfl Tryd.func16 (by kernel_rfl) rfl #[.agg #[.string ((qaP l0 (ji3)).f0),.int .i64 ((qaP l0 (ji3)).f1),.slice A101_2 ((qaP l0 (ji3)).f2).length c101_2]] rfl (by (try simp only [List.map_toArray,List.map_cons,List.map_nil]);first|done|(simp only [hji3];rfl)|rfl|(simp only [List.length_drop,List.length_take];rfl)) ?_;(with_reducible refine (schedule_Check.calls ((qaP l0 (ji3)).f0) ((qaP l0 (ji3)).f1) _ _ ((qaP l0 (ji3)).f2) t102 _ ?side1 ?side2 A6.out (glob_at HG_ (by repeat (first|(with_reducible first|exact HB.out|apply qaB|apply qaA|apply qaC|refine qaF ?_ (Aside0.out (by assumption)))|exact HB.out)))).mono ?_);(case side1=>repeat (first|exact HR101_2.out|(with_reducible refine Kd.C_alloc ?_ _)|(with_reducible refine Kd.C_drewN ?_ _)|(with_reducible refine Kd.C_drew ?_)));(case side2=>exact HC101_2.out);rintro e w12 ⟨rfl,hb⟩;refine ⟨_,rfl,?_⟩;have n0_:=Aside0.mk (qaN (by repeat (first|(with_reducible first|exact HB.out|apply qaB|apply qaA|apply qaC)|exact HB.out)) hb);clear HB;have HB:=n0_;clear n0_;(try clear hb);(try clear hb2);(try clear hk);(try clear hi)))
      have n0_:=Aside0.mk (qaC HB.out)
      clear HB
      have HB:=n0_
      clear n0_
      have q14:((ji3):Int)≤((l0.length:Int):Int):=of_decide_eq_true (by first|(with_reducible assumption)|assumption)
      obtain ⟨i014,hi014,_,hsz14,_⟩:=info_parts info24
      have hroom14:l0.length≤c0:=HC0.out
      have hC14:Kd.C k24 _ (some ad101) l0.length l0:=HR0.out
      have hcut14:=cut_to (P:=Tryd.prog) 25 24 .i64 Tryd.underlying25 hi014 (some ad101) l0.length c0 (ji3) (of_decide_eq_true (by first|(with_reducible assumption)|assumption)) q14 hroom14
      have hr14:=Kd.C_take (m:=((ji3):Int).toNat) hC14 (by omega)
      have hy14:y103.length=((ji3):Int).toNat:=(by rw [Ny103.out,List.length_take];omega)
      rw [← Ny103.out] at hr14
      rw [← hy14] at hcut14
      have HR106:=Aside0.mk hr14
      have HC106:=Aside0.mk (show y103.length≤c0 from by omega)
      clear hr14 hC14 hroom14 hi014 hsz14
      have KY14:=Aside0.mk hy14
      clear hy14
      replace q14:=eq_true q14
      have p107:0≤((ji3):Int):=of_decide_eq_true (by first|(with_reducible assumption)|assumption)
      have q107:(ji3) < (l0.length:Int):=of_decide_eq_true (by first|(with_reducible assumption)|assumption)
      obtain ⟨ad107,A107_2,c107_2,e107,hx107_0,hx107_1,hx107_2,hl107_2,hi107_2⟩:=at_T24 HR0.out (ji3) p107 q107
      have hw107_2:=hx107_2
      have hw107_1:=hx107_1
      have hw107_0:=hx107_0
      obtain rfl:ad101=ad107:=(by injection e107)
      replace hx107_0:=(HB.out.cell (World.block_lt_of_cell? w _ hx107_0)).trans hx107_0
      replace hx107_1:=(HB.out.cell (World.block_lt_of_cell? w _ hx107_1)).trans hx107_1
      replace hx107_2:=(HB.out.cell (World.block_lt_of_cell? w _ hx107_2)).trans hx107_2
      have HR107_2:=Aside0.mk hi107_2
      have HC107_2:=Aside0.mk hl107_2
      clear hi107_2 hl107_2
      replace p107:=eq_true p107
      replace q107:=eq_true q107
      refine start_ (n:=15) (S:=fun w'=>w'.cell? (ad101.add (((ji3)).toNat * 3))=some (.string ((qaP l0 (ji3)).f0))∧w'.cell? ⟨(ad101.add (((ji3)).toNat * 3)).block,(ad101.add (((ji3)).toNat * 3)).off+1,none⟩=some (.int .i64 ((qaP l0 (ji3)).f1))∧w'.cell? ⟨(ad101.add (((ji3)).toNat * 3)).block,(ad101.add (((ji3)).toNat * 3)).off+2,none⟩=some (.slice A107_2 ((qaP l0 (ji3)).f2).length c107_2)) (ds:=[]) (bitsA 15 0) (by kernel_rfl) rfl rfl ⟨((HB.out.cell (World.block_lt_of_cell? w _ hw107_0)).trans hw107_0),((HB.out.cell (World.block_lt_of_cell? w _ hw107_1)).trans hw107_1),((HB.out.cell (World.block_lt_of_cell? w _ hw107_2)).trans hw107_2)⟩ (fun hHeld=>?_);refine with_tabW schedule_last.tab7 schedule_last.bits7 (fun HT_ HW_=>?_)
      generalize w12.drew=w13 at HB HR106 HR107_2 hx107_0 hx107_1 hx107_2 hHeld ⊢
      refine qbD (i:=0) (N:=some 21) (v:=?_) (a':=?_) #[true,false,false,false,false,false,false,false,false,false,false,false,false,false,false] rfl rfl (qaW HT_.out (by kernel_rfl)) (fun _ _ _ h=>h) (Or.inl ⟨by rfl,?_⟩) ?_ ?_
      rotate_left;(intro w';go_simp;with_reducible rfl);rotate_left;(simp only [Act.put,List.setIfInBounds_toArray,List.set_cons_zero,List.set_cons_succ,qaX,qaY];rfl)
      refine qbD (i:=1) (N:=some 22) (v:=?_) (a':=?_) #[true,true,false,false,false,false,false,false,false,false,false,false,false,false,false] rfl rfl (qaW HT_.out (by kernel_rfl)) (fun _ _ _ h=>h) (Or.inl ⟨by rfl,?_⟩) ?_ ?_
      rotate_left;(intro w';go_simp;with_reducible rfl);rotate_left;(simp only [Act.put,List.setIfInBounds_toArray,List.set_cons_zero,List.set_cons_succ,qaX,qaY];rfl)
      refine qbD (i:=2) (N:=some 23) (v:=?_) (a':=?_) #[true,true,true,false,false,false,false,false,false,false,false,false,false,false,false] rfl rfl (qaW HT_.out (by kernel_rfl)) (fun _ _ _ h=>h) (Or.inl ⟨by rfl,?_⟩) ?_ ?_
      rotate_left;(intro w';go_simp;with_reducible rfl);rotate_left;(simp only [Act.put,List.setIfInBounds_toArray,List.set_cons_zero,List.set_cons_succ,qaX,qaY];rfl)
      refine qbD (i:=3) (N:=some 24) (v:=?_) (a':=?_) #[true,true,true,true,false,false,false,false,false,false,false,false,false,false,false] rfl rfl (qaW HT_.out (by kernel_rfl)) (fun _ _ _ h=>h) (Or.inl ⟨by rfl,?_⟩) ?_ ?_
      rotate_left;(intro w';go_simp;with_reducible rfl);rotate_left;(simp only [Act.put,List.setIfInBounds_toArray,List.set_cons_zero,List.set_cons_succ,qaX,qaY];rfl)
      refine qbD (i:=4) (N:=some 25) (v:=?_) (a':=?_) #[true,true,true,true,true,false,false,false,false,false,false,false,false,false,false] rfl rfl (qaW HT_.out (by kernel_rfl)) (fun _ _ _ h=>h) (Or.inl ⟨by rfl,?_⟩) ?_ ?_
      rotate_left;(intro w';go_simp;with_reducible rfl);rotate_left;(simp only [Act.put,List.setIfInBounds_toArray,List.set_cons_zero,List.set_cons_succ,qaX,qaY];rfl)
      refine qbD (i:=5) (N:=some 26) (v:=?_) (a':=?_) #[true,true,true,true,true,true,false,false,false,false,false,false,false,false,false] rfl rfl (qaW HT_.out (by kernel_rfl)) (fun _ _ _ h=>h) (Or.inl ⟨by rfl,?_⟩) ?_ ?_
      rotate_left;(intro w';go_simp;with_reducible rfl);rotate_left;(simp only [Act.put,List.setIfInBounds_toArray,List.set_cons_zero,List.set_cons_succ,qaX,qaY];rfl)
      refine qbD (i:=6) (N:=some 27) (v:=?_) (a':=?_) #[true,true,true,true,true,true,true,false,false,false,false,false,false,false,false] rfl rfl (qaW HT_.out (by kernel_rfl)) (fun _ _ _ h=>h) (Or.inl ⟨by rfl,?_⟩) ?_ ?_
      rotate_left;(intro w';go_simp;with_reducible rfl);rotate_left;(simp only [Act.put,List.setIfInBounds_toArray,List.set_cons_zero,List.set_cons_succ,qaX,qaY];rfl)
      refine take_ (i:=7) (N:=some 28) (v:=?_) (a':=?_) (bitsA 15 255) rfl rfl (qcK HT_.out HW_.out (by kernel_rfl)) (fun _ _ _ h=>h) (Or.inl ⟨by rfl,?_⟩) hHeld ?_ ?_
      rotate_left;(rintro w' ⟨s0,s1,s2⟩;go_simp;with_reducible rfl);rotate_left;(simp only [Act.put,List.setIfInBounds_toArray,List.set_cons_zero,List.set_cons_succ,qaX,qaY];rfl)
      refine join_ (σ:=Value × Nat) 2 #[true,true,true,true,true,true,true,true,true,true,true,true,true,false,false] (fun s_=>[(29,.tuple #[.agg #[.string t108,.int .i64 t109,s_.1],.bool t113]),(5,.pointer (some ⟨s_.2,0,none⟩)),(20,.tuple #[.agg #[.string t108,.int .i64 t109,s_.1],.bool t113]),(30,.agg #[.string t108,.int .i64 t109,s_.1]),(31,.bool t113)]) (fun s_ w'=>(w'.cell? (ad101.add (((ji3)).toNat * 3))=some (.string ((qaP l0 (ji3)).f0))∧w'.cell? ⟨(ad101.add (((ji3)).toNat * 3)).block,(ad101.add (((ji3)).toNat * 3)).off+1,none⟩=some (.int .i64 ((qaP l0 (ji3)).f1))∧w'.cell? ⟨(ad101.add (((ji3)).toNat * 3)).block,(ad101.add (((ji3)).toNat * 3)).off+2,none⟩=some (.slice A107_2 ((qaP l0 (ji3)).f2).length c107_2))∧(Kd.R k52 52 w' w.heap.size (fun _=>True) s_.1 t110)∧(w'.heap[s_.2]?=some (.cells #[.string (⟨#[]⟩:ByteArray),.int .i64 0,.slice none 0 0] 24 (0,0)))∧(w.heap.size≤s_.2)∧(w.heap.size≤s_.2)∧(Below w.heap.size w w')) ?_ ?_
      rotate_left
      ·intro hCont
       refine two_ (i:=8) (j:=12) (Ni:=some 29) (Nj:=some 5) #[true,true,true,true,true,true,true,true,true,false,false,false,false,false,false] #[true,true,true,true,true,true,true,true,false,false,false,false,true,false,false] rfl rfl rfl rfl (two_of HT_.out (by kernel_rfl)) (by decide) (by decide) (fun K hK=>?_) (fun K hK=>?_)
       ·skip
        refine goes_ Tryd.func14 (by kernel_rfl) rfl #[.slice (some ad101) y103.length c0,.string ((qaP l0 (ji3)).f0)] (by rfl) rfl rfl (by (try simp only [List.map_toArray,List.map_cons,List.map_nil]);first|done|(simp only [hji3];rfl)|rfl|(simp only [List.length_drop,List.length_take];rfl)) ?_
        with_reducible refine (schedule_Find.calls _ _ y103 ((qaP l0 (ji3)).f0) t108 t109 t110 t113 _ ?side1 ?side2 A10.out).mono ?_
        (case side1=>repeat (first|exact (Kd.C_below HR106.out HB.out)|(with_reducible refine Kd.C_alloc ?_ _)|(with_reducible refine Kd.C_drewN ?_ _)|(with_reducible refine Kd.C_drew ?_)))
        (case side2=>exact HC106.out)
        rintro e w15 ⟨v111,rfl,ho0,hb⟩
        refine ⟨_,rfl,?_⟩
        have n0_:=Aside0.mk (Kd.R_lower ho0 (qaK (by repeat (first|(with_reducible first|exact HB.out|apply qaB|apply qaA|apply qaC)|exact HB.out))))
        have n1_:=Aside0.mk (qaN (by repeat (first|(with_reducible first|exact HB.out|apply qaB|apply qaA|apply qaC)|exact HB.out)) hb)
        clear HB
        have HO112:=n0_
        have HB:=n1_
        clear n0_ n1_
        (try clear hb)
        (try clear hb2)
        (try clear hk)
        (try clear hi)
        (try clear ho0)
        refine hK.out _ _ ⟨((HB.out.cell (World.block_lt_of_cell? w _ hw107_0)).trans hw107_0),((HB.out.cell (World.block_lt_of_cell? w _ hw107_1)).trans hw107_1),((HB.out.cell (World.block_lt_of_cell? w _ hw107_2)).trans hw107_2)⟩ (fun hHeld=>?_)
        clear hK K
        refine norm_ (a':=?_) ?_ ?_
        rotate_left
        ·show Act.put _ (some 29) _=_
         simp only [Act.put,List.setIfInBounds_toArray,List.set_cons_zero,List.set_cons_succ,qaX,qaY]
         rfl
        refine qbD (i:=9) (N:=some 20) (v:=?_) (a':=?_) #[true,true,true,true,true,true,true,true,true,true,false,false,false,false,false] rfl rfl (qaW HT_.out (by kernel_rfl)) (fun _ _ _ h=>h) (Or.inl ⟨by rfl,?_⟩) ?_ ?_
        rotate_left;(intro w';go_simp;with_reducible rfl);rotate_left;(simp only [Act.put,List.setIfInBounds_toArray,List.set_cons_zero,List.set_cons_succ,qaX,qaY];rfl)
        refine qbD (i:=10) (N:=some 30) (v:=?_) (a':=?_) #[true,true,true,true,true,true,true,true,true,true,true,false,false,false,false] rfl rfl (qaW HT_.out (by kernel_rfl)) (fun _ _ _ h=>h) (Or.inl ⟨by rfl,?_⟩) ?_ ?_
        rotate_left;(intro w';go_simp;with_reducible rfl);rotate_left;(simp only [Act.put,List.setIfInBounds_toArray,List.set_cons_zero,List.set_cons_succ,qaX,qaY];rfl)
        refine qbD (i:=11) (N:=some 31) (v:=?_) (a':=?_) #[true,true,true,true,true,true,true,true,true,true,true,true,false,false,false] rfl rfl (qaW HT_.out (by kernel_rfl)) (fun _ _ _ h=>h) (Or.inl ⟨by rfl,?_⟩) ?_ ?_
        rotate_left;(intro w';go_simp;with_reducible rfl);rotate_left;(simp only [Act.put,List.setIfInBounds_toArray,List.set_cons_zero,List.set_cons_succ,qaX,qaY];rfl)
        refine one_ (i:=12) (N:=some 5) (bitsA 15 8191) rfl rfl (one_of HT_.out (by kernel_rfl)) (by decide) (fun K hK=>?_)
        refine box_step ?hg (N:=5) ?hd (cs:=#[.string (⟨#[]⟩:ByteArray),.int .i64 0,.slice none 0 0]) (t:=24) ?hr ?_;(case hd=>rfl);(case hg=>rfl);(case hr=>first|(go_simp;done)|(go_simp;rfl))
        intro gb114 hg w16 hbox hb
        have n0_:=Aside0.mk (Kd.R_below (by (with_reducible repeat (first|apply Kd.R_alloc|apply Kd.R_drewN|apply Kd.R_drew));exact HO112.out) hb)
        have n1_:=Aside0.mk (qaN (by repeat (first|(with_reducible first|exact HB.out|apply qaB|apply qaA|apply qaC)|exact HB.out)) hb)
        have n2_:=Aside0.mk (hbox)
        have n3_:=Aside0.mk ((by rw [hg];exact (qaK (by repeat (first|(with_reducible first|exact HB.out|apply qaB|apply qaA|apply qaC)|exact HB.out))):w.heap.size≤gb114))
        have n4_:=Aside0.mk ((by rw [hg];exact (qaK (by repeat (first|(with_reducible first|exact HB.out|apply qaB|apply qaA|apply qaC)|exact HB.out))):w.heap.size≤gb114))
        clear HO112
        clear HB
        have HO112:=n0_
        have HB:=n1_
        have BK114:=n2_
        have GW114:=n3_
        have GE114:=n4_
        clear n0_ n1_ n2_ n3_ n4_
        clear hb hbox hg
        refine hK.out _ _ ⟨((HB.out.cell (World.block_lt_of_cell? w _ hw107_0)).trans hw107_0),((HB.out.cell (World.block_lt_of_cell? w _ hw107_1)).trans hw107_1),((HB.out.cell (World.block_lt_of_cell? w _ hw107_2)).trans hw107_2)⟩ (fun hHeld=>?_)
        clear hK K
        refine norm_ (a':=?_) ?_ ?_
        rotate_left
        ·show Act.put _ (some 5) _=_
         simp only [Act.put,List.setIfInBounds_toArray,List.set_cons_zero,List.set_cons_succ,qaX,qaY]
         rfl
        exact norm_ (by simp only [putAll,Act.put,List.setIfInBounds_toArray,List.set_cons_zero,List.set_cons_succ]) (hCont (v111,gb114) _ ⟨hHeld,(by (with_reducible repeat (first|apply Kd.R_alloc|apply Kd.R_drewN|apply Kd.R_drew));exact HO112.out),(by (with_reducible repeat (first|refine qaH ?_ _|refine qaI ?_|refine qaG ?_ _));exact BK114.out),GW114.out,GE114.out,(by repeat (first|(with_reducible first|exact HB.out|apply qaB|apply qaA|apply qaC|refine qaF ?_ GE114.out)|exact HB.out))⟩)
       ·skip
        refine box_step ?hg (N:=5) ?hd (cs:=#[.string (⟨#[]⟩:ByteArray),.int .i64 0,.slice none 0 0]) (t:=24) ?hr ?_;(case hd=>rfl);(case hg=>rfl);(case hr=>first|(go_simp;done)|(go_simp;rfl))
        intro gb114 hg w15 hbox hb
        have n0_:=Aside0.mk (qaN (by repeat (first|(with_reducible first|exact HB.out|apply qaB|apply qaA|apply qaC)|exact HB.out)) hb)
        have n1_:=Aside0.mk (hbox)
        have n2_:=Aside0.mk ((by rw [hg];exact (qaK (by repeat (first|(with_reducible first|exact HB.out|apply qaB|apply qaA|apply qaC)|exact HB.out))):w.heap.size≤gb114))
        have n3_:=Aside0.mk ((by rw [hg];exact (qaK (by repeat (first|(with_reducible first|exact HB.out|apply qaB|apply qaA|apply qaC)|exact HB.out))):w.heap.size≤gb114))
        clear HB
        have HB:=n0_
        have BK114:=n1_
        have GW114:=n2_
        have GE114:=n3_
        clear n0_ n1_ n2_ n3_
        clear hb hbox hg
        refine hK.out _ _ ⟨((HB.out.cell (World.block_lt_of_cell? w _ hw107_0)).trans hw107_0),((HB.out.cell (World.block_lt_of_cell? w _ hw107_1)).trans hw107_1),((HB.out.cell (World.block_lt_of_cell? w _ hw107_2)).trans hw107_2)⟩ (fun hHeld=>?_)
        clear hK K
        refine norm_ (a':=?_) ?_ ?_
        rotate_left
        ·show Act.put _ (some 5) _=_
         simp only [Act.put,List.setIfInBounds_toArray,List.set_cons_zero,List.set_cons_succ,qaX,qaY]
         rfl
        refine one_ (i:=8) (N:=some 29) (bitsA 15 4607) rfl rfl (one_of HT_.out (by kernel_rfl)) (by decide) (fun K hK=>?_)
        refine goes_ Tryd.func14 (by kernel_rfl) rfl #[.slice (some ad101) y103.length c0,.string ((qaP l0 (ji3)).f0)] (by rfl) rfl rfl (by (try simp only [List.map_toArray,List.map_cons,List.map_nil]);first|done|(simp only [hji3];rfl)|rfl|(simp only [List.length_drop,List.length_take];rfl)) ?_
        with_reducible refine (schedule_Find.calls _ _ y103 ((qaP l0 (ji3)).f0) t108 t109 t110 t113 _ ?side1 ?side2 A10.out).mono ?_
        (case side1=>repeat (first|exact (Kd.C_below HR106.out HB.out)|(with_reducible refine Kd.C_alloc ?_ _)|(with_reducible refine Kd.C_drewN ?_ _)|(with_reducible refine Kd.C_drew ?_)))
        (case side2=>exact HC106.out)
        rintro e w16 ⟨v111,rfl,ho0,hb⟩
        refine ⟨_,rfl,?_⟩
        have n0_:=Aside0.mk (Kd.R_lower ho0 (qaK (by repeat (first|(with_reducible first|exact HB.out|apply qaB|apply qaA|apply qaC|refine qaF ?_ GE114.out)|exact HB.out))))
        have n1_:=Aside0.mk (qaS (g:=gb114) (o:=.cells #[.string (⟨#[]⟩:ByteArray),.int .i64 0,.slice none 0 0] 24 (0,0)) (by (with_reducible repeat (first|refine qaH ?_ _|refine qaI ?_|refine qaG ?_ _));exact BK114.out) hb)
        have n2_:=Aside0.mk (qaN (by repeat (first|(with_reducible first|exact HB.out|apply qaB|apply qaA|apply qaC|refine qaF ?_ GE114.out)|exact HB.out)) hb)
        clear BK114
        clear HB
        have HO112:=n0_
        have BK114:=n1_
        have HB:=n2_
        clear n0_ n1_ n2_
        (try clear hb)
        (try clear hb2)
        (try clear hk)
        (try clear hi)
        (try clear ho0)
        refine hK.out _ _ ⟨((HB.out.cell (World.block_lt_of_cell? w _ hw107_0)).trans hw107_0),((HB.out.cell (World.block_lt_of_cell? w _ hw107_1)).trans hw107_1),((HB.out.cell (World.block_lt_of_cell? w _ hw107_2)).trans hw107_2)⟩ (fun hHeld=>?_)
        clear hK K
        refine norm_ (a':=?_) ?_ ?_
        rotate_left
        ·show Act.put _ (some 29) _=_
         simp only [Act.put,List.setIfInBounds_toArray,List.set_cons_zero,List.set_cons_succ,qaX,qaY]
         rfl
        refine qbD (i:=9) (N:=some 20) (v:=?_) (a':=?_) #[true,true,true,true,true,true,true,true,true,true,false,false,true,false,false] rfl rfl (qaW HT_.out (by kernel_rfl)) (fun _ _ _ h=>h) (Or.inl ⟨by rfl,?_⟩) ?_ ?_
        rotate_left;(intro w';go_simp;with_reducible rfl);rotate_left;(simp only [Act.put,List.setIfInBounds_toArray,List.set_cons_zero,List.set_cons_succ,qaX,qaY];rfl)
        refine qbD (i:=10) (N:=some 30) (v:=?_) (a':=?_) #[true,true,true,true,true,true,true,true,true,true,true,false,true,false,false] rfl rfl (qaW HT_.out (by kernel_rfl)) (fun _ _ _ h=>h) (Or.inl ⟨by rfl,?_⟩) ?_ ?_
        rotate_left;(intro w';go_simp;with_reducible rfl);rotate_left;(simp only [Act.put,List.setIfInBounds_toArray,List.set_cons_zero,List.set_cons_succ,qaX,qaY];rfl)
        refine qbD (i:=11) (N:=some 31) (v:=?_) (a':=?_) #[true,true,true,true,true,true,true,true,true,true,true,true,true,false,false] rfl rfl (qaW HT_.out (by kernel_rfl)) (fun _ _ _ h=>h) (Or.inl ⟨by rfl,?_⟩) ?_ ?_
        rotate_left;(intro w';go_simp;with_reducible rfl);rotate_left;(simp only [Act.put,List.setIfInBounds_toArray,List.set_cons_zero,List.set_cons_succ,qaX,qaY];rfl)
        exact norm_ (by simp only [putAll,Act.put,List.setIfInBounds_toArray,List.set_cons_zero,List.set_cons_succ]) (hCont (v111,gb114) _ ⟨hHeld,(by (with_reducible repeat (first|apply Kd.R_alloc|apply Kd.R_drewN|apply Kd.R_drew));exact HO112.out),(by (with_reducible repeat (first|refine qaH ?_ _|refine qaI ?_|refine qaG ?_ _));exact BK114.out),GW114.out,GE114.out,(by repeat (first|(with_reducible first|exact HB.out|apply qaB|apply qaA|apply qaC|refine qaF ?_ GE114.out)|exact HB.out))⟩)
      rintro ⟨v111,gb114⟩ w17 ⟨hS_,h0_,h1_,h2_,h3_,h4_⟩
      have n0_:Aside0 (Kd.R k52 52 w17 w.heap.size (fun _=>True) v111 t110):=⟨h0_⟩
      have n1_:Aside0 (w17.heap[gb114]?=some (.cells #[.string (⟨#[]⟩:ByteArray),.int .i64 0,.slice none 0 0] 24 (0,0))):=⟨h1_⟩
      have n2_:Aside0 (w.heap.size≤gb114):=⟨h2_⟩
      have n3_:Aside0 (w.heap.size≤gb114):=⟨h3_⟩
      have n4_:Aside0 (Below w.heap.size w w17):=⟨h4_⟩
      clear HB
      clear h0_ h1_ h2_ h3_ h4_
      have HO112:=n0_
      have BK114:=n1_
      have GW114:=n2_
      have GE114:=n3_
      have HB:=n4_
      clear n0_ n1_ n2_ n3_ n4_
      have hHeld:w17.cell? (ad101.add (((ji3)).toNat * 3))=some (.string ((qaP l0 (ji3)).f0))∧w17.cell? ⟨(ad101.add (((ji3)).toNat * 3)).block,(ad101.add (((ji3)).toNat * 3)).off+1,none⟩=some (.int .i64 ((qaP l0 (ji3)).f1))∧w17.cell? ⟨(ad101.add (((ji3)).toNat * 3)).block,(ad101.add (((ji3)).toNat * 3)).off+2,none⟩=some (.slice A107_2 ((qaP l0 (ji3)).f2).length c107_2):=hS_
      obtain ⟨Ao20,co20,eo20⟩:=Kd.R_slice HO112.out
      (first|subst eo20|(injection eo20 with f1_ f2_ f3_;have f4_:=f1_.symm;have f5_:=f3_.symm;clear f1_ f2_ f3_;subst f4_;subst f5_))
      refine norm_ (a':=?_) ?_ ?_
      rotate_left
      ·simp only [putAll,Act.put,List.setIfInBounds_toArray,List.set_cons_zero,List.set_cons_succ]
       rfl
      refine one_ (i:=13) (N:=none) (bitsA 15 16383) rfl rfl (one_of HT_.out (by kernel_rfl)) (by decide) (fun K hK=>?_)
      have hs18:w17.cell? ⟨gb114,0,none⟩=some (.string (⟨#[]⟩:ByteArray)):=(qaE BK114.out 0).trans rfl
      have hfs18:=qaD BK114.out 0
      have hs19:w17.cell? ⟨gb114,1,none⟩=some (.int .i64 0):=(qaE BK114.out 1).trans rfl
      have hfs19:=qaD BK114.out 1
      have hs21:w17.cell? ⟨gb114,2,none⟩=some (.slice none 0 0):=(qaE BK114.out 2).trans rfl
      have hfs21:=qaD BK114.out 2
      refine skip_ (w1:=?_) (by rfl) rfl ?_ ?_
      rotate_left
      ·go_simp
       rfl
      refine hK.out _ _ ⟨((qbO (p:=⟨gb114,_,none⟩) (by first|exact Nat.ne_of_lt (Nat.lt_of_lt_of_le (by have:=World.block_lt_of_cell? _ _ hw107_0;first|rwa [qaT] at this|exact this) GW114.out)|(rw [qaT];exact Nat.ne_of_lt (Nat.lt_of_lt_of_le (by have:=World.block_lt_of_cell? _ _ hw107_0;first|rwa [qaT] at this|exact this) GW114.out))|(show (Addr.add _ _).block ≠ _;rw [qaT];exact Nat.ne_of_lt (Nat.lt_of_lt_of_le (by have:=World.block_lt_of_cell? _ _ hw107_0;first|rwa [qaT] at this|exact this) GW114.out))|(dsimp only;exact Nat.ne_of_lt (Nat.lt_of_lt_of_le (by have:=World.block_lt_of_cell? _ _ hw107_0;first|rwa [qaT] at this|exact this) GW114.out))) _).trans (((qbO (p:=⟨gb114,_,none⟩) (by first|exact Nat.ne_of_lt (Nat.lt_of_lt_of_le (by have:=World.block_lt_of_cell? _ _ hw107_0;first|rwa [qaT] at this|exact this) GW114.out)|(rw [qaT];exact Nat.ne_of_lt (Nat.lt_of_lt_of_le (by have:=World.block_lt_of_cell? _ _ hw107_0;first|rwa [qaT] at this|exact this) GW114.out))|(show (Addr.add _ _).block ≠ _;rw [qaT];exact Nat.ne_of_lt (Nat.lt_of_lt_of_le (by have:=World.block_lt_of_cell? _ _ hw107_0;first|rwa [qaT] at this|exact this) GW114.out))|(dsimp only;exact Nat.ne_of_lt (Nat.lt_of_lt_of_le (by have:=World.block_lt_of_cell? _ _ hw107_0;first|rwa [qaT] at this|exact this) GW114.out))) _).trans (((qbO (p:=⟨gb114,_,none⟩) (by first|exact Nat.ne_of_lt (Nat.lt_of_lt_of_le (by have:=World.block_lt_of_cell? _ _ hw107_0;first|rwa [qaT] at this|exact this) GW114.out)|(rw [qaT];exact Nat.ne_of_lt (Nat.lt_of_lt_of_le (by have:=World.block_lt_of_cell? _ _ hw107_0;first|rwa [qaT] at this|exact this) GW114.out))|(show (Addr.add _ _).block ≠ _;rw [qaT];exact Nat.ne_of_lt (Nat.lt_of_lt_of_le (by have:=World.block_lt_of_cell? _ _ hw107_0;first|rwa [qaT] at this|exact this) GW114.out))|(dsimp only;exact Nat.ne_of_lt (Nat.lt_of_lt_of_le (by have:=World.block_lt_of_cell? _ _ hw107_0;first|rwa [qaT] at this|exact this) GW114.out))) _).trans (hHeld.1)))))),((qbO (p:=⟨gb114,_,none⟩) (by first|exact Nat.ne_of_lt (Nat.lt_of_lt_of_le (by have:=World.block_lt_of_cell? _ _ hw107_1;first|rwa [qaT] at this|exact this) GW114.out)|(rw [qaT];exact Nat.ne_of_lt (Nat.lt_of_lt_of_le (by have:=World.block_lt_of_cell? _ _ hw107_1;first|rwa [qaT] at this|exact this) GW114.out))|(show (Addr.add _ _).block ≠ _;rw [qaT];exact Nat.ne_of_lt (Nat.lt_of_lt_of_le (by have:=World.block_lt_of_cell? _ _ hw107_1;first|rwa [qaT] at this|exact this) GW114.out))|(dsimp only;exact Nat.ne_of_lt (Nat.lt_of_lt_of_le (by have:=World.block_lt_of_cell? _ _ hw107_1;first|rwa [qaT] at this|exact this) GW114.out))) _).trans (((qbO (p:=⟨gb114,_,none⟩) (by first|exact Nat.ne_of_lt (Nat.lt_of_lt_of_le (by have:=World.block_lt_of_cell? _ _ hw107_1;first|rwa [qaT] at this|exact this) GW114.out)|(rw [qaT];exact Nat.ne_of_lt (Nat.lt_of_lt_of_le (by have:=World.block_lt_of_cell? _ _ hw107_1;first|rwa [qaT] at this|exact this) GW114.out))|(show (Addr.add _ _).block ≠ _;rw [qaT];exact Nat.ne_of_lt (Nat.lt_of_lt_of_le (by have:=World.block_lt_of_cell? _ _ hw107_1;first|rwa [qaT] at this|exact this) GW114.out))|(dsimp only;exact Nat.ne_of_lt (Nat.lt_of_lt_of_le (by have:=World.block_lt_of_cell? _ _ hw107_1;first|rwa [qaT] at this|exact this) GW114.out))) _).trans (((qbO (p:=⟨gb114,_,none⟩) (by first|exact Nat.ne_of_lt (Nat.lt_of_lt_of_le (by have:=World.block_lt_of_cell? _ _ hw107_1;first|rwa [qaT] at this|exact this) GW114.out)|(rw [qaT];exact Nat.ne_of_lt (Nat.lt_of_lt_of_le (by have:=World.block_lt_of_cell? _ _ hw107_1;first|rwa [qaT] at this|exact this) GW114.out))|(show (Addr.add _ _).block ≠ _;rw [qaT];exact Nat.ne_of_lt (Nat.lt_of_lt_of_le (by have:=World.block_lt_of_cell? _ _ hw107_1;first|rwa [qaT] at this|exact this) GW114.out))|(dsimp only;exact Nat.ne_of_lt (Nat.lt_of_lt_of_le (by have:=World.block_lt_of_cell? _ _ hw107_1;first|rwa [qaT] at this|exact this) GW114.out))) _).trans (hHeld.2.1)))))),((qbO (p:=⟨gb114,_,none⟩) (by first|exact Nat.ne_of_lt (Nat.lt_of_lt_of_le (by have:=World.block_lt_of_cell? _ _ hw107_2;first|rwa [qaT] at this|exact this) GW114.out)|(rw [qaT];exact Nat.ne_of_lt (Nat.lt_of_lt_of_le (by have:=World.block_lt_of_cell? _ _ hw107_2;first|rwa [qaT] at this|exact this) GW114.out))|(show (Addr.add _ _).block ≠ _;rw [qaT];exact Nat.ne_of_lt (Nat.lt_of_lt_of_le (by have:=World.block_lt_of_cell? _ _ hw107_2;first|rwa [qaT] at this|exact this) GW114.out))|(dsimp only;exact Nat.ne_of_lt (Nat.lt_of_lt_of_le (by have:=World.block_lt_of_cell? _ _ hw107_2;first|rwa [qaT] at this|exact this) GW114.out))) _).trans (((qbO (p:=⟨gb114,_,none⟩) (by first|exact Nat.ne_of_lt (Nat.lt_of_lt_of_le (by have:=World.block_lt_of_cell? _ _ hw107_2;first|rwa [qaT] at this|exact this) GW114.out)|(rw [qaT];exact Nat.ne_of_lt (Nat.lt_of_lt_of_le (by have:=World.block_lt_of_cell? _ _ hw107_2;first|rwa [qaT] at this|exact this) GW114.out))|(show (Addr.add _ _).block ≠ _;rw [qaT];exact Nat.ne_of_lt (Nat.lt_of_lt_of_le (by have:=World.block_lt_of_cell? _ _ hw107_2;first|rwa [qaT] at this|exact this) GW114.out))|(dsimp only;exact Nat.ne_of_lt (Nat.lt_of_lt_of_le (by have:=World.block_lt_of_cell? _ _ hw107_2;first|rwa [qaT] at this|exact this) GW114.out))) _).trans (((qbO (p:=⟨gb114,_,none⟩) (by first|exact Nat.ne_of_lt (Nat.lt_of_lt_of_le (by have:=World.block_lt_of_cell? _ _ hw107_2;first|rwa [qaT] at this|exact this) GW114.out)|(rw [qaT];exact Nat.ne_of_lt (Nat.lt_of_lt_of_le (by have:=World.block_lt_of_cell? _ _ hw107_2;first|rwa [qaT] at this|exact this) GW114.out))|(show (Addr.add _ _).block ≠ _;rw [qaT];exact Nat.ne_of_lt (Nat.lt_of_lt_of_le (by have:=World.block_lt_of_cell? _ _ hw107_2;first|rwa [qaT] at this|exact this) GW114.out))|(dsimp only;exact Nat.ne_of_lt (Nat.lt_of_lt_of_le (by have:=World.block_lt_of_cell? _ _ hw107_2;first|rwa [qaT] at this|exact this) GW114.out))) _).trans (hHeld.2.2))))))⟩ (fun hHeld=>?_)
      clear hK K
      refine qbD (i:=14) (N:=some 6) (v:=?_) (a':=?_) #[true,true,true,true,true,true,true,true,true,true,true,true,true,true,true] rfl rfl (qaW HT_.out (by kernel_rfl)) (fun _ _ _ h=>h) (Or.inl ⟨by rfl,?_⟩) ?_ ?_
      rotate_left;(intro w';go_simp;with_reducible rfl);rotate_left;(simp only [Act.put,List.setIfInBounds_toArray,List.set_cons_zero,List.set_cons_succ,qaX,qaY];rfl)
      refine done_ (done_of HT_.out (by kernel_rfl)) ?_
      have H:=HBr.out
      cases t113
      ·have H1:(some 0)=some r:=by rw [if_neg (show ¬ (false=true) by decide)] at H;exact H
       obtain rfl:=Option.some.inj H1
       try go_wp2
       go_ret
       exact ⟨by first|rfl|(simp [qaL,qaM]<;>rfl)|(simp only [← hji3];first|rfl|(simp [qaL,qaM]<;>rfl))|(simp [*,qaL,qaM]<;>rfl),by repeat (first|(with_reducible first|exact HB.out|apply qaB|apply qaA|apply qaC|refine qaF ?_ GE114.out)|exact HB.out)⟩
      ·have H1:(some 7)=some r:=by rw [if_pos rfl] at H;exact H
       obtain rfl:=Option.some.inj H1
       try go_wp2
       go_ret
       exact ⟨by first|rfl|(simp [qaL,qaM]<;>rfl)|(simp only [← hji3];first|rfl|(simp [qaL,qaM]<;>rfl))|(simp [*,qaL,qaM]<;>rfl),by repeat (first|(with_reducible first|exact HB.out|apply qaB|apply qaA|apply qaC|refine qaF ?_ GE114.out)|exact HB.out)⟩
     ·rw [if_neg c9] at H
      exact absurd H (by simp)
    ·rw [if_neg c7] at H
     have c7b0:(t102 == 0)=false:=beq_eq_false_iff_ne.mpr c7
     have c7b1:(t102 != 0)=true:=bne_iff_ne.mpr c7
     obtain rfl:=Option.some.inj H
     have p101:0≤((ji3):Int):=of_decide_eq_true (by first|(with_reducible assumption)|assumption)
     have q101:(ji3) < (l0.length:Int):=of_decide_eq_true (by first|(with_reducible assumption)|assumption)
     obtain ⟨ad101,A101_2,c101_2,e101,hx101_0,hx101_1,hx101_2,hl101_2,hi101_2⟩:=at_T24 HR0.out (ji3) p101 q101
     cases e101
     have HR101_2:=Aside0.mk hi101_2
     have HC101_2:=Aside0.mk hl101_2
     clear hi101_2 hl101_2
     replace p101:=eq_true p101
     replace q101:=eq_true q101
     go_enter Tryd.func34,Tryd.ntmps34
     go_wp2_with (first|((with_reducible refine qaO (f:=16) rfl ?_);refine qbG (some 16) rfl rfl Tryd.func16 (by kernel_rfl) rfl #[.agg #[.string ((qaP l0 (ji3)).f0),.int .i64 ((qaP l0 (ji3)).f1),.slice A101_2 ((qaP l0 (ji3)).f2).length c101_2]] rfl (by (try simp only [List.map_toArray,List.map_cons,List.map_nil]);first|done|(simp only [hji3];rfl)|rfl|(simp only [List.length_drop,List.length_take];rfl)) ?_;(with_reducible refine (schedule_Check.calls ((qaP l0 (ji3)).f0) ((qaP l0 (ji3)).f1) _ _ ((qaP l0 (ji3)).f2) t102 _ ?side1 ?side2 A6.out (glob_at HG_ (by repeat (first|(with_reducible first|exact HB.out|apply qaB|apply qaA|apply qaC|refine qaF ?_ (Aside0.out (by assumption)))|exact HB.out)))).mono ?_);(case side1=>repeat (first|exact HR101_2.out|(with_reducible refine Kd.C_alloc ?_ _)|(with_reducible refine Kd.C_drewN ?_ _)|(with_reducible refine Kd.C_drew ?_)));(case side2=>exact HC101_2.out);rintro e w32 ⟨rfl,hb⟩;refine ⟨_,rfl,?_⟩;have n0_:=Aside0.mk (qaN (by repeat (first|(with_reducible first|exact HB.out|apply qaB|apply qaA|apply qaC)|exact HB.out)) hb);clear HB;have HB:=n0_;clear n0_;(try clear hb);(try clear hb2);(try clear hk);(try clear hi)))
     go_ret
     exact ⟨by first|rfl|(simp [qaL,qaM]<;>rfl)|(simp only [← hji3];first|rfl|(simp [qaL,qaM]<;>rfl))|(simp [*,qaL,qaM]<;>rfl),by repeat (first|(with_reducible first|exact HB.out|apply qaB|apply qaA|apply qaC)|exact HB.out)⟩
   ·rw [if_neg c5] at H
    exact absurd H (by simp)
  ·rw [if_neg c4] at H
   exact absurd H (by simp)
end Go.Proofs.YtehdmplngmbnnaaDoor.P
namespace Go.Proofs.YtehdmplngmbnnaaDoor.P
open Go.RowKit Go.Proofs.YtehdmplngmbnnaaDoorW.PrintWords Go.Proofs.YtehdmplngmbnnaaDoorW.PrintLast Go.Proofs.YtehdmplngmbnnaaDoorW.PrintMore
set_option linter.unusedVariables false
set_option linter.unusedSimpArgs false
def apd (t u:ByteArray):Option ByteArray:=if t.size+u.size≤1000000000 then some (t++u) else none
def addPart (t wd:ByteArray) (n:Int):Option ByteArray:=if 0 < n then (strconv_Itoa.f n).bind fun d=>apd t ((((⟨#[32]⟩:ByteArray)++wd)++(⟨#[32]⟩:ByteArray))++d) else some t
def addStage (t:ByteArray) (x:S52):Option ByteArray :=
 (addPart t (⟨#[98,101,108,111,119]⟩:ByteArray) x.f0).bind fun t1=>(addPart t1 (⟨#[102,111,114]⟩:ByteArray) x.f1).bind fun t2=>(strconv_Itoa.f x.f2).bind fun d2=>(strconv_Itoa.f x.f3).bind fun d3=>apd t2 (((((((⟨#[32]⟩:ByteArray)++(⟨#[97,116]⟩:ByteArray))++(⟨#[32]⟩:ByteArray))++d2)++(⟨#[32,45,32]⟩:ByteArray))++d3)++(⟨#[59]⟩:ByteArray))
def addStages (t:ByteArray):List S52→Option ByteArray
 | []=>some t
 | x :: xs=>(addStage t x).bind fun t1=>addStages t1 xs
def addSched (t:ByteArray) (s:S24):Option ByteArray :=
 if s.f2.length≤1000000 then (strconv_Itoa.f s.f1).bind fun d=>(apd t (((((⟨#[115,99,104,101,100,117,108,101,32]⟩:ByteArray)++s.f0)++(⟨#[32,114,97,109,112,32]⟩:ByteArray))++d)++(⟨#[58]⟩:ByteArray))).bind fun t1=>(addStages t1 s.f2).bind fun t2=>apd t2 (⟨#[10]⟩:ByteArray) else none
def schedule_Format.go (l:List S24):Nat→Nat→ByteArray→Option ByteArray
 | 0,_,t=>some t
 | m+1,k,t=>(schedule_last.f (l.take (k+1))).bind fun e=>if e=0 then (addSched t (qaP l k)).bind fun t1=>schedule_Format.go l m (k+1) t1 else some ⟨#[]⟩
def schedule_Format.f (l:List S24):Option ByteArray:=if l.length≤1000000 then schedule_Format.go l l.length 0 ⟨#[]⟩ else none
theorem drop_rd (l:List S52) (j:Nat) (h:j < l.length):l.drop j=qbJ l j :: l.drop (j+1):=by
 rw [List.drop_eq_getElem_cons h]
 unfold qbJ
 rw [List.getD_eq_getElem?_getD,List.getElem?_eq_getElem (by simpa using h)]
 simp
theorem blk_bel_ {W W':World} {b:Nat} {o:Obj} (h:W.heap[b]?=some o) (hb:Below W.heap.size W W'):W'.heap[b]?=some o:=(hb.block b (qbF h)).trans h
def schedule_Format.T15:Bool × List (List Nat × List Nat):=(true,[([],[]),([],[]),([1],[1]),([2],[2]),([3],[3]),([4],[4]),([],[]),([6],[6]),([5,7],[5,7]),([0,8],[0,8]),([9,7,0,1,2,3,4,5,6,7,8,9],[0,9])])
def schedule_Format.B15:List Nat:=[0,0,2,6,14,30,0,64,254,511,1023]
theorem schedule_Format.tab15:rtab .any (opsOf Tryd.f23 15)=schedule_Format.T15:=by kernel_rfl
theorem schedule_Format.bits15:waitsOk schedule_Format.T15.2 schedule_Format.B15=true:=by kernel_rfl
def schedule_Format.T17:Bool × List (List Nat × List Nat):=(true,[([],[]),([],[]),([1],[1]),([2],[2]),([3],[3]),([],[]),([5],[5]),([6],[6]),([4,7],[4,7]),([8],[8]),([],[]),([10],[10]),([11,7],[11]),([9,12],[9,12]),([13],[13]),([0,14],[0,14]),([15,12,0,1,2,3,4,5,6,7,8,9,10,11,12,13,14,15],[0,15])])
def schedule_Format.B17:List Nat:=[0,0,2,6,14,0,32,96,254,510,0,1024,3296,8190,16382,32767,65535]
theorem schedule_Format.tab17:rtab .any (opsOf Tryd.f23 17)=schedule_Format.T17:=by kernel_rfl
theorem schedule_Format.bits17:waitsOk schedule_Format.T17.2 schedule_Format.B17=true:=by kernel_rfl
def schedule_Format.T7:Bool × List (List Nat × List Nat):=(true,[([],[]),([],[]),([1],[1]),([2],[2]),([3],[3]),([],[]),([5],[5]),([6],[6]),([4,7],[4,7]),([8],[8]),([0,9],[0,9]),([10,7,0,1,2,3,4,5,6,7,8,9,10],[0,10])])
def schedule_Format.B7:List Nat:=[0,0,2,6,14,0,32,96,254,510,1023,2047]
theorem schedule_Format.tab7:rtab .any (opsOf Tryd.f23 7)=schedule_Format.T7:=by kernel_rfl
theorem schedule_Format.bits7:waitsOk schedule_Format.T7.2 schedule_Format.B7=true:=by kernel_rfl
set_option maxHeartbeats 8000000 in
set_option maxRecDepth 100000 in
theorem schedule_Format.calls (A0:Option Addr) (c0:Nat) (l0:List S24) (r:ByteArray) (w:World) (hr0:Kd.C k24 w A0 l0.length l0) (hc0:l0.length≤c0) (h:schedule_Format.f l0=some r) (HG_:Aside0 (Glob w)) :
  Calls Tryd.prog 23 #[.slice A0 l0.length c0] w fun e w'=>e=.returned (.string r)∧Below w.heap.size w w':=by
 have hus:=Tryd.underlying52
 have huh:=Tryd.underlying24
 unfold schedule_Format.f at h
 by_cases hl:l0.length≤1000000
 case neg=>rw [if_neg hl] at h;cases h
 rw [if_pos hl] at h
 have HR:=Aside0.mk hr0
 have HC:=Aside0.mk hc0
 have HH:=Aside0.mk h
 have HL:=Aside0.mk hl
 clear hr0 hc0 h hl
 go_enter Tryd.func23,Tryd.ntmps23
 go_wp2_with fail
 go_loopg [3,12] l0.length (fun kq v3 i wr=>∃ (t:ByteArray) (k:Nat),v3=.string t∧i=.int .i64 k∧Aside0 (k+kq=l0.length)∧Aside0 (schedule_Format.go l0 kq k t=some r)∧Aside0 (Below w.heap.size w wr))
 case atStart=>exact ⟨⟨#[]⟩,0,rfl,rfl,⟨Nat.zero_add _⟩,HH,⟨Below.refl _ w⟩⟩
 case round =>
  obtain ⟨t,k,rfl,rfl,HK,HA,HB⟩:=hrel
  clear HH
  cases gk with
  | zero =>
   have HE:=Aside0.mk (Option.some.inj HA.out)
   have c5:decide ((k:Int) < (l0.length:Int))=false:=decide_eq_false (by have:=HK.out;omega)
   have hk:¬ k < l0.length:=by have:=HK.out;omega
   go_wp2_with fail
   go_ret
   exact ⟨by rw [HE.out];rfl,HB.out⟩
  | succ m =>
   have hk:k < l0.length:=by have:=HK.out;omega
   have c5:decide ((k:Int) < (l0.length:Int))=true:=decide_eq_true (by omega)
   have hA:=HA.out
   simp only [schedule_Format.go] at hA
   obtain ⟨e1,a1,hA⟩:=Option.bind_eq_some_iff.mp hA
   have HLa:=Aside0.mk a1
   obtain ⟨ad,A2,c2,ea,hx0,hx1,hx2,hl2,hC2⟩:=at_T24 HR.out k (by omega) (by omega)
   subst ea
   obtain ⟨x,hx⟩:∃ x,x=qaP l0 k:=⟨_,rfl⟩
   rw [← hx] at hx0 hx1 hx2 hl2 hC2 hA
   replace hx0:=qbP HB.out hx0
   replace hx1:=qbP HB.out hx1
   replace hx2:=qbP HB.out hx2
   simp only [Int.toNat_natCast] at hx0 hx1 hx2
   have HL2:=Aside0.mk hl2
   have HC2:=Aside0.mk hC2
   have HA1:=Aside0.mk hA
   have e:wrap64 ((k:Int)+1)=(k:Int)+1:=by
    have:=HL.out
    unfold wrap64
    omega
   obtain ⟨ji,hji⟩:∃ j_:Int,wrap64 ((k:Int)+1)=j_:=⟨_,rfl⟩
   have HJ:=Aside0.mk (hji.symm.trans e)
   have hjw:(IntKind.i64.wrap ((k:Int)+1))=ji:=(qaX _).trans hji
   obtain ⟨i08,hi08,_,hsz8,_⟩:=info_parts info24
   have hcut:=cut_to (P:=Tryd.prog) 25 24 .i64 Tryd.underlying25 hi08 (some ad) l0.length c0 ji (by have:=HJ.out;omega) (by have:=HJ.out;omega) HC.out
   have hjn:ji.toNat=k+1:=by have:=HJ.out;omega
   rw [hjn] at hcut
   have hlt:(l0.take (k+1)).length=k+1:=by rw [List.length_take];omega
   have HLT:=Aside0.mk hlt
   clear hA a1 hx hl2 hC2 HA e hjn hi08 hsz8 hlt
   have HBa:∀ o,Aside0 (Below w.heap.size w (wr.alloc o)):=fun o=>⟨qaB HB.out o⟩
   have HRT:∀ o,Aside0 (Kd.C k24 (wr.alloc o) (some ad) (l0.take (k+1)).length (l0.take (k+1))):=fun o=>⟨Kd.C_below (by have h_:=Kd.C_take (m:=k+1) HR.out (by omega);first|exact h_|(rw [HLT.out];exact h_)) (HBa o).out⟩
   go_wp2_with fail
   have hcall:=schedule_last.calls (some ad) c0 (l0.take (k+1)) e1 _ (HRT (.cells #[.string x.f0,.int .i64 x.f1,.slice A2 x.f2.length c2] 24)).out (by have:=HLT.out;have:=HC.out;omega) HLa.out (glob_at HG_ (HBa _).out)
   rw [HLT.out] at hcall
   refine hcall.mono ?_
   clear hcall
   rintro e w1 ⟨rfl,hb⟩
   have hb5:=blk_bel_ (heap_alloc_new wr (.cells #[.string x.f0,.int .i64 x.f1,.slice A2 x.f2.length c2] 24)) hb
   obtain ⟨b5,he5⟩:∃ b5,b5=wr.heap.size:=⟨_,rfl⟩
   rw [← he5] at hb5 ⊢
   have hsz:=qaK HB.out
   have H5:=Aside0.mk hb5
   have HG5:=Aside0.mk (show w.heap.size≤b5 by omega)
   have HB2:=Aside0.mk (qaN (HBa _).out hb)
   clear HB hb5 he5 hsz hb
   have HB:=HB2
   clear HB2
   clear HBa HRT hx0 hx1 hx2 hcut hjw hji
   by_cases he:e1=0
   ·subst he
    rw [if_pos rfl] at HA1
    obtain ⟨t9,a2,hA2⟩:=Option.bind_eq_some_iff.mp HA1.out
    have HA2:=Aside0.mk hA2
    unfold addSched at a2
    by_cases hs:x.f2.length≤1000000
    case neg=>rw [if_neg hs] at a2;cases a2
    rw [if_pos hs] at a2
    obtain ⟨d,a3,a4⟩:=Option.bind_eq_some_iff.mp a2
    obtain ⟨t1,a5,a6⟩:=Option.bind_eq_some_iff.mp a4
    obtain ⟨t2,a7,a8⟩:=Option.bind_eq_some_iff.mp a6
    have HD:=Aside0.mk a3
    have H7:=Aside0.mk a7
    have H8:=Aside0.mk a8
    have HS:=Aside0.mk hs
    unfold apd at a5
    by_cases hz:t.size+(((((⟨#[115,99,104,101,100,117,108,101,32]⟩:ByteArray)++x.f0)++(⟨#[32,114,97,109,112,32]⟩:ByteArray))++d)++(⟨#[58]⟩:ByteArray)).size≤1000000000
    case neg=>rw [if_neg hz] at a5;cases a5
    rw [if_pos hz] at a5
    have HT1:=Aside0.mk (Option.some.inj a5)
    have HZ:=Aside0.mk hz
    have hz':t.size+(9+x.f0.size+6+d.size+1)≤1000000000:=by
     have h_:=hz
     simp only [ByteArray.size_append] at h_
     exact h_
    have q1:(9223372036854775807 < 9+x.f0.size)=False:=eq_false (by omega)
    have q2:(9223372036854775807 < 9+x.f0.size+6)=False:=eq_false (by omega)
    have q3:(9223372036854775807 < 9+x.f0.size+6+d.size)=False:=eq_false (by omega)
    have q4:(9223372036854775807 < 9+x.f0.size+6+d.size+1)=False:=eq_false (by omega)
    have q5:(9223372036854775807 < t.size+(9+x.f0.size+6+d.size+1))=False:=eq_false (by omega)
    clear a2 a3 a4 a5 a6 a7 a8 hs hz hz' hA2 HA1
    go_wp2_with fail
    have n0_:=Aside0.mk (qaC HB.out)
    have n1_:=Aside0.mk (qaI H5.out)
    clear HB H5
    have HB:=n0_
    have H5:=n1_
    clear n0_ n1_
    refine start_ (n:=12) (S:=fun w'=>w'.cell? ⟨b5,0,none⟩=some (.string x.f0)∧w'.cell? ⟨b5,1,none⟩=some (.int .i64 x.f1)) (ds:=[]) (bitsA 12 0) (by kernel_rfl) rfl rfl ⟨(qaE H5.out 0).trans rfl,(qaE H5.out 1).trans rfl⟩ (fun hHeld=>?_)
    refine with_tabW schedule_Format.tab7 schedule_Format.bits7 (fun HT_ HW_=>?_)
    refine qbD (i:=0) (N:=some 23) (v:=?_) (a':=?_) #[true,false,false,false,false,false,false,false,false,false,false,false] rfl rfl (qaW HT_.out (by kernel_rfl)) (fun _ _ _ h=>h) (Or.inl ⟨by rfl,?_⟩) ?_ ?_
    rotate_left;(intro w';go_simp;with_reducible rfl);rotate_left;(simp only [Act.put,List.setIfInBounds_toArray,List.set_cons_zero,List.set_cons_succ,qaX,qaY];rfl)
    refine qbD (i:=1) (N:=some 24) (v:=?_) (a':=?_) #[true,true,false,false,false,false,false,false,false,false,false,false] rfl rfl (qaW HT_.out (by kernel_rfl)) (fun _ _ _ h=>h) (Or.inl ⟨by rfl,?_⟩) ?_ ?_
    rotate_left;(intro w';go_simp;with_reducible rfl);rotate_left;(simp only [Act.put,List.setIfInBounds_toArray,List.set_cons_zero,List.set_cons_succ,qaX,qaY];rfl)
    refine qbD (i:=5) (N:=some 28) (v:=?_) (a':=?_) #[true,true,false,false,false,true,false,false,false,false,false,false] rfl rfl (qaW HT_.out (by kernel_rfl)) (fun _ _ _ h=>h) (Or.inl ⟨by rfl,?_⟩) ?_ ?_
    rotate_left;(intro w';go_simp;with_reducible rfl);rotate_left;(simp only [Act.put,List.setIfInBounds_toArray,List.set_cons_zero,List.set_cons_succ,qaX,qaY];rfl)
    refine take_ (i:=2) (N:=some 25) (v:=?_) (a':=?_) (bitsA 12 39) rfl rfl (qcK HT_.out HW_.out (by kernel_rfl)) (fun _ _ _ h=>h) (Or.inl ⟨by rfl,?_⟩) hHeld ?_ ?_
    rotate_left;(rintro w' ⟨s0,s1⟩;go_simp;with_reducible rfl);rotate_left;(simp only [Act.put,List.setIfInBounds_toArray,List.set_cons_zero,List.set_cons_succ,qaX,qaY];rfl)
    refine qbD (i:=3) (N:=some 26) (v:=?_) (a':=?_) #[true,true,true,true,false,true,false,false,false,false,false,false] rfl rfl (qaW HT_.out (by kernel_rfl)) (fun _ _ _ h=>h) (Or.inl ⟨by rfl,?_⟩) ?_ ?_
    rotate_left;(intro w';go_simp;with_reducible rfl);rotate_left;(simp only [Act.put,List.setIfInBounds_toArray,List.set_cons_zero,List.set_cons_succ,qaX,qaY];rfl)
    refine qbD (i:=4) (N:=some 27) (v:=?_) (a':=?_) #[true,true,true,true,true,true,false,false,false,false,false,false] rfl rfl (qaW HT_.out (by kernel_rfl)) (fun _ _ _ h=>h) (Or.inl ⟨by rfl,?_⟩) ?_ ?_
    rotate_left;(intro w';go_simp;with_reducible rfl);rotate_left;(simp only [Act.put,List.setIfInBounds_toArray,List.set_cons_zero,List.set_cons_succ,qaX,qaY];rfl)
    refine take_ (i:=6) (N:=some 29) (v:=?_) (a':=?_) (bitsA 12 127) rfl rfl (qcK HT_.out HW_.out (by kernel_rfl)) (fun _ _ _ h=>h) (Or.inl ⟨by rfl,?_⟩) hHeld ?_ ?_
    rotate_left;(rintro w' ⟨s0,s1⟩;go_simp;with_reducible rfl);rotate_left;(simp only [Act.put,List.setIfInBounds_toArray,List.set_cons_zero,List.set_cons_succ,qaX,qaY];rfl)
    refine one_ (i:=7) (N:=some 30) (bitsA 12 255) rfl rfl (one_of HT_.out (by kernel_rfl)) (by decide) (fun K hK=>?_)
    refine goes_ Tryd.func35 (by kernel_rfl) rfl #[.int .i64 (x.f1)] (by rfl) rfl rfl (by simp only [List.map_toArray,List.map_cons,List.map_nil];rfl) ?_
    with_reducible refine (strconv_Itoa.calls (x.f1) d _ HD.out (glob_at HG_ HB.out)).mono ?_
    rintro e w14 ⟨rfl,hb⟩
    refine ⟨_,rfl,?_⟩
    have n0_:=Aside0.mk (qaN HB.out hb)
    have n1_:=Aside0.mk (blk_bel_ H5.out hb)
    clear hb
    have HB:=n0_
    have H5:=n1_
    clear n0_ n1_
    refine hK.out _ _ ⟨(qaE H5.out 0).trans rfl,(qaE H5.out 1).trans rfl⟩ (fun hHeld=>?_)
    clear hK K
    refine norm_ (a':=?_) ?_ ?_
    rotate_left
    ·show Act.put _ (some 30) _=_
     simp only [Act.put,List.setIfInBounds_toArray,List.set_cons_zero,List.set_cons_succ,qaX,qaY]
     rfl
    refine qbD (i:=8) (N:=some 31) (v:=?_) (a':=?_) #[true,true,true,true,true,true,true,true,true,false,false,false] rfl rfl (qaW HT_.out (by kernel_rfl)) (fun _ _ _ h=>h) (Or.inl ⟨by rfl,?_⟩) ?_ ?_
    rotate_left;(intro w';go_simp;with_reducible rfl);rotate_left;(simp only [Act.put,List.setIfInBounds_toArray,List.set_cons_zero,List.set_cons_succ,qaX,qaY];rfl)
    refine qbD (i:=9) (N:=some 32) (v:=?_) (a':=?_) #[true,true,true,true,true,true,true,true,true,true,false,false] rfl rfl (qaW HT_.out (by kernel_rfl)) (fun _ _ _ h=>h) (Or.inl ⟨by rfl,?_⟩) ?_ ?_
    rotate_left;(intro w';go_simp;with_reducible rfl);rotate_left;(simp only [Act.put,List.setIfInBounds_toArray,List.set_cons_zero,List.set_cons_succ,qaX,qaY];rfl)
    refine qbD (i:=10) (N:=some 33) (v:=?_) (a':=?_) #[true,true,true,true,true,true,true,true,true,true,true,false] rfl rfl (qaW HT_.out (by kernel_rfl)) (fun _ _ _ h=>h) (Or.inl ⟨by rfl,?_⟩) ?_ ?_
    rotate_left;(intro w';go_simp;with_reducible rfl);rotate_left;(simp only [Act.put,List.setIfInBounds_toArray,List.set_cons_zero,List.set_cons_succ,qaX,qaY];rfl)
    refine qbD (i:=11) (N:=some 3) (v:=?_) (a':=?_) #[true,true,true,true,true,true,true,true,true,true,true,true] rfl rfl (qaW HT_.out (by kernel_rfl)) (fun _ _ _ h=>h) (Or.inl ⟨by rfl,?_⟩) ?_ ?_
    rotate_left;(intro w';go_simp;with_reducible rfl);rotate_left;(simp only [Act.put,List.setIfInBounds_toArray,List.set_cons_zero,List.set_cons_succ,qaX,qaY];rfl)
    refine done_ (done_of HT_.out (by kernel_rfl)) ?_
    have hz2:=qaE H5.out 2
    simp at hz2
    go_wp2_with fail
    rw [HT1.out]
    clear q1 q2 q3 q4 q5 hz2 HT1 HZ HD
    go_loopg [3,37] x.f2.length (fun kq v3 i wr=>∃ (t:ByteArray) (j:Nat),v3=.string t∧i=.int .i64 j∧Aside0 (j+kq=x.f2.length)∧Aside0 (addStages t (x.f2.drop j)=some t2)∧Aside0 (wr.heap[b5]?=some (.cells #[.string x.f0,.int .i64 x.f1,.slice A2 x.f2.length c2] 24 (0,0)))∧Aside0 (Below w.heap.size w wr))
    case atStart=>exact ⟨t1,0,rfl,rfl,⟨Nat.zero_add _⟩,H7,H5,HB⟩
    case round =>
     clear H7
     obtain ⟨s,j,rfl,rfl,HJ,HA7,H5,HB⟩:=hrel
     cases gk with
     | zero =>
      have hj:j=x.f2.length:=by have:=HJ.out;omega
      have hA7:=HA7.out
      rw [hj,List.drop_length] at hA7
      obtain rfl:=Option.some.inj hA7
      have h8:=H8.out
      unfold apd at h8
      by_cases hz:s.size+(⟨#[10]⟩:ByteArray).size≤1000000000
      case neg=>rw [if_neg hz] at h8;cases h8
      rw [if_pos hz] at h8
      have HT9:=Aside0.mk (Option.some.inj h8)
      have hz':s.size+1≤1000000000:=hz
      have q1:(9223372036854775807 < s.size+1)=False:=eq_false (by omega)
      have c5:decide ((j:Int) < (x.f2.length:Int))=false:=decide_eq_false (by omega)
      have c6:¬ j < x.f2.length:=by omega
      have e:wrap64 ((k:Int)+1)=(k:Int)+1:=by
       have:=HL.out
       unfold wrap64
       omega
      clear hz hz' h8 hA7 HA7 H8
      go_wp2_with fail
      rw [HT9.out]
      go_roundg m
      case measure=>omega
      case rel=>exact ⟨t9,k+1,rfl,by simp [e],⟨by have:=HK.out;omega⟩,HA2,HB⟩
     | succ m2 =>
      have hj:j < x.f2.length:=by have:=HJ.out;omega
      have c5:decide ((j:Int) < (x.f2.length:Int))=true:=decide_eq_true (by omega)
      have hA7:=HA7.out
      rw [drop_rd x.f2 j hj] at hA7
      simp only [addStages] at hA7
      obtain ⟨ad2,ea2,hy0,hy1,hy2,hy3⟩:=at_T52 HC2.out j (by omega) (by omega)
      subst ea2
      obtain ⟨y,hy⟩:∃ y,y=qbJ x.f2 j:=⟨_,rfl⟩
      rw [← hy] at hA7 hy0 hy1 hy2 hy3
      replace hy0:=qbP HB.out hy0
      replace hy1:=qbP HB.out hy1
      replace hy2:=qbP HB.out hy2
      replace hy3:=qbP HB.out hy3
      simp only [Int.toNat_natCast] at hy0 hy1 hy2 hy3
      obtain ⟨s',b1,hA8⟩:=Option.bind_eq_some_iff.mp hA7
      have HA8:=Aside0.mk hA8
      unfold addStage at b1
      obtain ⟨sa,b2,b3⟩:=Option.bind_eq_some_iff.mp b1
      obtain ⟨sb,b4,b5'⟩:=Option.bind_eq_some_iff.mp b3
      obtain ⟨d2,b6,b7'⟩:=Option.bind_eq_some_iff.mp b5'
      obtain ⟨d3,b8,b9⟩:=Option.bind_eq_some_iff.mp b7'
      have HPA:=Aside0.mk b2
      have HPB:=Aside0.mk b4
      have HD2:=Aside0.mk b6
      have HD3:=Aside0.mk b8
      have HAP:=Aside0.mk b9
      clear b1 b2 b3 b4 b5' b6 b7' b8 b9 hA7 HA7 hA8 hy
      go_wp2_with fail
      have h7:=heap_alloc_new wr (.cells #[.int .i64 y.f0,.int .i64 y.f1,.int .i64 y.f2,.int .i64 y.f3] 52)
      obtain ⟨b7,hb7⟩:∃ b7,b7=wr.heap.size:=⟨_,rfl⟩
      rw [← hb7] at h7 ⊢
      have H7:=Aside0.mk h7
      have H5n:=Aside0.mk (qaG H5.out (.cells #[.int .i64 y.f0,.int .i64 y.f1,.int .i64 y.f2,.int .i64 y.f3] 52))
      have HBn:=Aside0.mk (qaB HB.out (.cells #[.int .i64 y.f0,.int .i64 y.f1,.int .i64 y.f2,.int .i64 y.f3] 52))
      clear h7 hb7 hy0 hy1 hy2 hy3
      go_loopg [3,46] 2 (fun kq v3 i wr=>∃ (z:ByteArray) (q:Int),v3=.string z∧i=.int .i64 q∧((kq=2∧q=0∧z=s) ∨ (kq=1∧q=1∧z=sa) ∨ (kq=0∧q=2∧z=sb))∧Aside0 (wr.heap[b7]?=some (.cells #[.int .i64 y.f0,.int .i64 y.f1,.int .i64 y.f2,.int .i64 y.f3] 52 (0,0)))∧Aside0 (wr.heap[b5]?=some (.cells #[.string x.f0,.int .i64 x.f1,.slice (some ad2) x.f2.length c2] 24 (0,0)))∧Aside0 (Below w.heap.size w wr))
      case atStart=>exact ⟨s,0,rfl,rfl,.inl ⟨rfl,rfl,rfl⟩,H7,H5n,HBn⟩
      case round =>
       clear H7 H5n HBn
       obtain ⟨z,q,rfl,rfl,hq,H7,H5,HB⟩:=hrel
       obtain ⟨rfl,rfl,rfl⟩|⟨rfl,rfl,rfl⟩|⟨rfl,rfl,rfl⟩:=hq
       ·have hix:∀ (v0_ v1_:Value) (W_:World),(Instr.index 49 (.agg #[v0_,v1_]) (.int .i64 0)).run Tryd.prog W_=.ok v0_ W_:=fun _ _ _=>by kernel_rfl
        have hp:=HPA.out
        unfold addPart at hp
        by_cases g:0 < y.f0
        ·rw [if_pos g] at hp
         obtain ⟨d,a1,a2⟩:=Option.bind_eq_some_iff.mp hp
         have HD:=Aside0.mk a1
         unfold apd at a2
         by_cases hz:z.size+((((⟨#[32]⟩:ByteArray)++(⟨#[98,101,108,111,119]⟩:ByteArray))++(⟨#[32]⟩:ByteArray))++d).size≤1000000000
         case neg=>rw [if_neg hz] at a2;cases a2
         rw [if_pos hz] at a2
         have HT:=Aside0.mk (Option.some.inj a2)
         have hz':z.size+(7+d.size)≤1000000000:=by
          have h_:=hz
          simp only [ByteArray.size_append] at h_
          exact h_
         have q3:(9223372036854775807 < 7+d.size)=False:=eq_false (by omega)
         have q5:(9223372036854775807 < z.size+(7+d.size))=False:=eq_false (by omega)
         clear a1 a2 hz hz' hp
         go_wp2_with fail
         have n0_:=Aside0.mk (qaC HB.out)
         have n1_:=Aside0.mk (qaI H5.out)
         have n2_:=Aside0.mk (qaI H7.out)
         have HB:=n0_
         have H5:=n1_
         have H7:=n2_
         clear n0_ n1_ n2_
         refine start_ (n:=11) (S:=fun w'=>w'.cell? ⟨1,0,none⟩=some (.string (⟨#[98,101,108,111,119]⟩:ByteArray))) (ds:=[]) (bitsA 11 0) (by kernel_rfl) rfl rfl ((words_at HG_ HB.out).1) (fun hHeld=>?_)
         refine with_tabW schedule_Format.tab15 schedule_Format.bits15 (fun HT_ HW_=>?_)
         refine qbD (i:=0) (N:=some 52) (v:=?_) (a':=?_) #[true,false,false,false,false,false,false,false,false,false,false] rfl rfl (qaW HT_.out (by kernel_rfl)) (fun _ _ _ h=>h) (Or.inl ⟨by rfl,?_⟩) ?_ ?_
         rotate_left;(intro w';go_simp;with_reducible rfl);rotate_left;(simp only [Act.put,List.setIfInBounds_toArray,List.set_cons_zero,List.set_cons_succ,qaX,qaY];rfl)
         refine qbD (i:=1) (N:=some 53) (v:=?_) (a':=?_) #[true,true,false,false,false,false,false,false,false,false,false] rfl rfl (qaW HT_.out (by kernel_rfl)) (fun _ _ _ h=>h) (Or.inl ⟨by rfl,?_⟩) ?_ ?_
         rotate_left;(intro w';go_simp;with_reducible rfl);rotate_left;(simp only [Act.put,List.setIfInBounds_toArray,List.set_cons_zero,List.set_cons_succ,qaX,qaY];rfl)
         refine qbD (i:=2) (N:=some 54) (v:=?_) (a':=?_) #[true,true,true,false,false,false,false,false,false,false,false] rfl rfl (qaW HT_.out (by kernel_rfl)) (fun _ _ _ h=>h) (Or.inl ⟨by rfl,?_⟩) ?_ ?_
         rotate_left;(intro w';go_simp;with_reducible rfl);rotate_left;(simp only [Act.put,List.setIfInBounds_toArray,List.set_cons_zero,List.set_cons_succ,qaX,qaY];rfl)
         refine qbD (i:=6) (N:=some 58) (v:=?_) (a':=?_) #[true,true,true,false,false,false,true,false,false,false,false] rfl rfl (qaW HT_.out (by kernel_rfl)) (fun _ _ _ h=>h) (Or.inl ⟨by rfl,?_⟩) ?_ ?_
         rotate_left;(intro w';go_simp;with_reducible rfl);rotate_left;(simp only [Act.put,List.setIfInBounds_toArray,List.set_cons_zero,List.set_cons_succ,qaX,qaY];rfl)
         refine take_ (i:=3) (N:=some 55) (v:=?_) (a':=?_) (bitsA 11 79) rfl rfl (qcK HT_.out HW_.out (by kernel_rfl)) (fun _ _ _ h=>h) (Or.inl ⟨by rfl,?_⟩) hHeld ?_ ?_
         rotate_left;(intro w' s0;go_simp;with_reducible rfl);rotate_left;(simp only [Act.put,List.setIfInBounds_toArray,List.set_cons_zero,List.set_cons_succ,qaX,qaY];rfl)
         refine qbD (i:=4) (N:=some 56) (v:=?_) (a':=?_) #[true,true,true,true,true,false,true,false,false,false,false] rfl rfl (qaW HT_.out (by kernel_rfl)) (fun _ _ _ h=>h) (Or.inl ⟨by rfl,?_⟩) ?_ ?_
         rotate_left;(intro w';go_simp;with_reducible rfl);rotate_left;(simp only [Act.put,List.setIfInBounds_toArray,List.set_cons_zero,List.set_cons_succ,qaX,qaY];rfl)
         refine qbD (i:=5) (N:=some 57) (v:=?_) (a':=?_) #[true,true,true,true,true,true,true,false,false,false,false] rfl rfl (qaW HT_.out (by kernel_rfl)) (fun _ _ _ h=>h) (Or.inl ⟨by rfl,?_⟩) ?_ ?_
         rotate_left;(intro w';go_simp;with_reducible rfl);rotate_left;(simp only [Act.put,List.setIfInBounds_toArray,List.set_cons_zero,List.set_cons_succ,qaX,qaY];rfl)
         refine one_ (i:=7) (N:=some 59) (bitsA 11 255) rfl rfl (one_of HT_.out (by kernel_rfl)) (by decide) (fun K hK=>?_)
         refine goes_ Tryd.func35 (by kernel_rfl) rfl #[.int .i64 (y.f0)] (by rfl) rfl rfl (by simp only [List.map_toArray,List.map_cons,List.map_nil];rfl) ?_
         with_reducible refine (strconv_Itoa.calls (y.f0) d _ HD.out (glob_at HG_ HB.out)).mono ?_
         rintro e w14 ⟨rfl,hb⟩
         refine ⟨_,rfl,?_⟩
         have n0_:=Aside0.mk (qaN HB.out hb)
         have n1_:=Aside0.mk (blk_bel_ H5.out hb)
         have n2_:=Aside0.mk (blk_bel_ H7.out hb)
         clear hb
         have HB:=n0_
         have H5:=n1_
         have H7:=n2_
         clear n0_ n1_ n2_
         refine hK.out _ _ ((words_at HG_ HB.out).1) (fun hHeld=>?_)
         clear hK K
         refine norm_ (a':=?_) ?_ ?_
         rotate_left
         ·show Act.put _ (some 59) _=_
          simp only [Act.put,List.setIfInBounds_toArray,List.set_cons_zero,List.set_cons_succ,qaX,qaY]
          rfl
         refine qbD (i:=8) (N:=some 60) (v:=?_) (a':=?_) #[true,true,true,true,true,true,true,true,true,false,false] rfl rfl (qaW HT_.out (by kernel_rfl)) (fun _ _ _ h=>h) (Or.inl ⟨by rfl,?_⟩) ?_ ?_
         rotate_left;(intro w';go_simp;with_reducible rfl);rotate_left;(simp only [Act.put,List.setIfInBounds_toArray,List.set_cons_zero,List.set_cons_succ,qaX,qaY];rfl)
         refine qbD (i:=9) (N:=some 61) (v:=?_) (a':=?_) #[true,true,true,true,true,true,true,true,true,true,false] rfl rfl (qaW HT_.out (by kernel_rfl)) (fun _ _ _ h=>h) (Or.inl ⟨by rfl,?_⟩) ?_ ?_
         rotate_left;(intro w';go_simp;with_reducible rfl);rotate_left;(simp only [Act.put,List.setIfInBounds_toArray,List.set_cons_zero,List.set_cons_succ,qaX,qaY];rfl)
         refine qbD (i:=10) (N:=some 3) (v:=?_) (a':=?_) #[true,true,true,true,true,true,true,true,true,true,true] rfl rfl (qaW HT_.out (by kernel_rfl)) (fun _ _ _ h=>h) (Or.inl ⟨by rfl,?_⟩) ?_ ?_
         rotate_left;(intro w';go_simp;with_reducible rfl);rotate_left;(simp only [Act.put,List.setIfInBounds_toArray,List.set_cons_zero,List.set_cons_succ,qaX,qaY];rfl)
         refine done_ (done_of HT_.out (by kernel_rfl)) ?_
         go_wp2_with fail
         rw [HT.out]
         go_roundg 1
         case measure=>omega
         case rel=>exact ⟨sa,1,rfl,rfl,.inr (.inl ⟨rfl,rfl,rfl⟩),H7,H5,HB⟩
        ·rw [if_neg g] at hp
         obtain rfl:=Option.some.inj hp
         clear hp
         go_wp2_with fail
         go_roundg 1
         case measure=>omega
         case rel=>exact ⟨z,1,rfl,rfl,.inr (.inl ⟨rfl,rfl,rfl⟩),H7,H5,HB⟩
       ·have hix:∀ (v0_ v1_:Value) (W_:World),(Instr.index 49 (.agg #[v0_,v1_]) (.int .i64 1)).run Tryd.prog W_=.ok v1_ W_:=fun _ _ _=>by kernel_rfl
        have hp:=HPB.out
        unfold addPart at hp
        by_cases g:0 < y.f1
        ·rw [if_pos g] at hp
         obtain ⟨d,a1,a2⟩:=Option.bind_eq_some_iff.mp hp
         have HD:=Aside0.mk a1
         unfold apd at a2
         by_cases hz:z.size+((((⟨#[32]⟩:ByteArray)++(⟨#[102,111,114]⟩:ByteArray))++(⟨#[32]⟩:ByteArray))++d).size≤1000000000
         case neg=>rw [if_neg hz] at a2;cases a2
         rw [if_pos hz] at a2
         have HT:=Aside0.mk (Option.some.inj a2)
         have hz':z.size+(5+d.size)≤1000000000:=by
          have h_:=hz
          simp only [ByteArray.size_append] at h_
          exact h_
         have q3:(9223372036854775807 < 5+d.size)=False:=eq_false (by omega)
         have q5:(9223372036854775807 < z.size+(5+d.size))=False:=eq_false (by omega)
         clear a1 a2 hz hz' hp
         go_wp2_with fail
         have n0_:=Aside0.mk (qaC HB.out)
         have n1_:=Aside0.mk (qaI H5.out)
         have n2_:=Aside0.mk (qaI H7.out)
         have HB:=n0_
         have H5:=n1_
         have H7:=n2_
         clear n0_ n1_ n2_
         refine start_ (n:=11) (S:=fun w'=>w'.cell? ⟨1,1,none⟩=some (.string (⟨#[102,111,114]⟩:ByteArray))) (ds:=[]) (bitsA 11 0) (by kernel_rfl) rfl rfl ((words_at HG_ HB.out).2.1) (fun hHeld=>?_)
         refine with_tabW schedule_Format.tab15 schedule_Format.bits15 (fun HT_ HW_=>?_)
         refine qbD (i:=0) (N:=some 52) (v:=?_) (a':=?_) #[true,false,false,false,false,false,false,false,false,false,false] rfl rfl (qaW HT_.out (by kernel_rfl)) (fun _ _ _ h=>h) (Or.inl ⟨by rfl,?_⟩) ?_ ?_
         rotate_left;(intro w';go_simp;with_reducible rfl);rotate_left;(simp only [Act.put,List.setIfInBounds_toArray,List.set_cons_zero,List.set_cons_succ,qaX,qaY];rfl)
         refine qbD (i:=1) (N:=some 53) (v:=?_) (a':=?_) #[true,true,false,false,false,false,false,false,false,false,false] rfl rfl (qaW HT_.out (by kernel_rfl)) (fun _ _ _ h=>h) (Or.inl ⟨by rfl,?_⟩) ?_ ?_
         rotate_left;(intro w';go_simp;with_reducible rfl);rotate_left;(simp only [Act.put,List.setIfInBounds_toArray,List.set_cons_zero,List.set_cons_succ,qaX,qaY];rfl)
         refine qbD (i:=2) (N:=some 54) (v:=?_) (a':=?_) #[true,true,true,false,false,false,false,false,false,false,false] rfl rfl (qaW HT_.out (by kernel_rfl)) (fun _ _ _ h=>h) (Or.inl ⟨by rfl,?_⟩) ?_ ?_
         rotate_left;(intro w';go_simp;with_reducible rfl);rotate_left;(simp only [Act.put,List.setIfInBounds_toArray,List.set_cons_zero,List.set_cons_succ,qaX,qaY];rfl)
         refine qbD (i:=6) (N:=some 58) (v:=?_) (a':=?_) #[true,true,true,false,false,false,true,false,false,false,false] rfl rfl (qaW HT_.out (by kernel_rfl)) (fun _ _ _ h=>h) (Or.inl ⟨by rfl,?_⟩) ?_ ?_
         rotate_left;(intro w';go_simp;with_reducible rfl);rotate_left;(simp only [Act.put,List.setIfInBounds_toArray,List.set_cons_zero,List.set_cons_succ,qaX,qaY];rfl)
         refine take_ (i:=3) (N:=some 55) (v:=?_) (a':=?_) (bitsA 11 79) rfl rfl (qcK HT_.out HW_.out (by kernel_rfl)) (fun _ _ _ h=>h) (Or.inl ⟨by rfl,?_⟩) hHeld ?_ ?_
         rotate_left;(intro w' s0;go_simp;with_reducible rfl);rotate_left;(simp only [Act.put,List.setIfInBounds_toArray,List.set_cons_zero,List.set_cons_succ,qaX,qaY];rfl)
         refine qbD (i:=4) (N:=some 56) (v:=?_) (a':=?_) #[true,true,true,true,true,false,true,false,false,false,false] rfl rfl (qaW HT_.out (by kernel_rfl)) (fun _ _ _ h=>h) (Or.inl ⟨by rfl,?_⟩) ?_ ?_
         rotate_left;(intro w';go_simp;with_reducible rfl);rotate_left;(simp only [Act.put,List.setIfInBounds_toArray,List.set_cons_zero,List.set_cons_succ,qaX,qaY];rfl)
         refine qbD (i:=5) (N:=some 57) (v:=?_) (a':=?_) #[true,true,true,true,true,true,true,false,false,false,false] rfl rfl (qaW HT_.out (by kernel_rfl)) (fun _ _ _ h=>h) (Or.inl ⟨by rfl,?_⟩) ?_ ?_
         rotate_left;(intro w';go_simp;with_reducible rfl);rotate_left;(simp only [Act.put,List.setIfInBounds_toArray,List.set_cons_zero,List.set_cons_succ,qaX,qaY];rfl)
         refine one_ (i:=7) (N:=some 59) (bitsA 11 255) rfl rfl (one_of HT_.out (by kernel_rfl)) (by decide) (fun K hK=>?_)
         refine goes_ Tryd.func35 (by kernel_rfl) rfl #[.int .i64 (y.f1)] (by rfl) rfl rfl (by simp only [List.map_toArray,List.map_cons,List.map_nil];rfl) ?_
         with_reducible refine (strconv_Itoa.calls (y.f1) d _ HD.out (glob_at HG_ HB.out)).mono ?_
         rintro e w14 ⟨rfl,hb⟩
         refine ⟨_,rfl,?_⟩
         have n0_:=Aside0.mk (qaN HB.out hb)
         have n1_:=Aside0.mk (blk_bel_ H5.out hb)
         have n2_:=Aside0.mk (blk_bel_ H7.out hb)
         clear hb
         have HB:=n0_
         have H5:=n1_
         have H7:=n2_
         clear n0_ n1_ n2_
         refine hK.out _ _ ((words_at HG_ HB.out).2.1) (fun hHeld=>?_)
         clear hK K
         refine norm_ (a':=?_) ?_ ?_
         rotate_left
         ·show Act.put _ (some 59) _=_
          simp only [Act.put,List.setIfInBounds_toArray,List.set_cons_zero,List.set_cons_succ,qaX,qaY]
          rfl
         refine qbD (i:=8) (N:=some 60) (v:=?_) (a':=?_) #[true,true,true,true,true,true,true,true,true,false,false] rfl rfl (qaW HT_.out (by kernel_rfl)) (fun _ _ _ h=>h) (Or.inl ⟨by rfl,?_⟩) ?_ ?_
         rotate_left;(intro w';go_simp;with_reducible rfl);rotate_left;(simp only [Act.put,List.setIfInBounds_toArray,List.set_cons_zero,List.set_cons_succ,qaX,qaY];rfl)
         refine qbD (i:=9) (N:=some 61) (v:=?_) (a':=?_) #[true,true,true,true,true,true,true,true,true,true,false] rfl rfl (qaW HT_.out (by kernel_rfl)) (fun _ _ _ h=>h) (Or.inl ⟨by rfl,?_⟩) ?_ ?_
         rotate_left;(intro w';go_simp;with_reducible rfl);rotate_left;(simp only [Act.put,List.setIfInBounds_toArray,List.set_cons_zero,List.set_cons_succ,qaX,qaY];rfl)
         refine qbD (i:=10) (N:=some 3) (v:=?_) (a':=?_) #[true,true,true,true,true,true,true,true,true,true,true] rfl rfl (qaW HT_.out (by kernel_rfl)) (fun _ _ _ h=>h) (Or.inl ⟨by rfl,?_⟩) ?_ ?_
         rotate_left;(intro w';go_simp;with_reducible rfl);rotate_left;(simp only [Act.put,List.setIfInBounds_toArray,List.set_cons_zero,List.set_cons_succ,qaX,qaY];rfl)
         refine done_ (done_of HT_.out (by kernel_rfl)) ?_
         go_wp2_with fail
         rw [HT.out]
         go_roundg 0
         case measure=>omega
         case rel=>exact ⟨sb,2,rfl,rfl,.inr (.inr ⟨rfl,rfl,rfl⟩),H7,H5,HB⟩
        ·rw [if_neg g] at hp
         obtain rfl:=Option.some.inj hp
         clear hp
         go_wp2_with fail
         go_roundg 0
         case measure=>omega
         case rel=>exact ⟨z,2,rfl,rfl,.inr (.inr ⟨rfl,rfl,rfl⟩),H7,H5,HB⟩
       ·have hap:=HAP.out
        unfold apd at hap
        by_cases hz:z.size+(((((((⟨#[32]⟩:ByteArray)++(⟨#[97,116]⟩:ByteArray))++(⟨#[32]⟩:ByteArray))++d2)++(⟨#[32,45,32]⟩:ByteArray))++d3)++(⟨#[59]⟩:ByteArray)).size≤1000000000
        case neg=>rw [if_neg hz] at hap;cases hap
        rw [if_pos hz] at hap
        have HT:=Aside0.mk (Option.some.inj hap)
        have hz':z.size+(4+d2.size+3+d3.size+1)≤1000000000:=by
         have h_:=hz
         simp only [ByteArray.size_append] at h_
         exact h_
        have q1:(9223372036854775807 < 4+d2.size)=False:=eq_false (by omega)
        have q2:(9223372036854775807 < 4+d2.size+3)=False:=eq_false (by omega)
        have q3:(9223372036854775807 < 4+d2.size+3+d3.size)=False:=eq_false (by omega)
        have q4:(9223372036854775807 < 4+d2.size+3+d3.size+1)=False:=eq_false (by omega)
        have q5:(9223372036854775807 < z.size+(4+d2.size+3+d3.size+1))=False:=eq_false (by omega)
        clear hap hz hz'
        go_wp2_with fail
        have n0_:=Aside0.mk (qaC HB.out)
        have n1_:=Aside0.mk (qaI H5.out)
        have n2_:=Aside0.mk (qaI H7.out)
        have HB:=n0_
        have H5:=n1_
        have H7:=n2_
        clear n0_ n1_ n2_
        refine start_ (n:=17) (S:=fun w'=>w'.cell? ⟨1,2,none⟩=some (.string (⟨#[97,116]⟩:ByteArray))∧w'.cell? ⟨b7,2,none⟩=some (.int .i64 y.f2)∧w'.cell? ⟨b7,3,none⟩=some (.int .i64 y.f3)) (ds:=[]) (bitsA 17 0) (by kernel_rfl) rfl rfl ⟨(words_at HG_ HB.out).2.2,(qaE H7.out 2).trans rfl,(qaE H7.out 3).trans rfl⟩ (fun hHeld=>?_)
        refine with_tabW schedule_Format.tab17 schedule_Format.bits17 (fun HT_ HW_=>?_)
        refine qbD (i:=0) (N:=some 63) (v:=?_) (a':=?_) #[true,false,false,false,false,false,false,false,false,false,false,false,false,false,false,false,false] rfl rfl (qaW HT_.out (by kernel_rfl)) (fun _ _ _ h=>h) (Or.inl ⟨by rfl,?_⟩) ?_ ?_
        rotate_left;(intro w';go_simp;with_reducible rfl);rotate_left;(simp only [Act.put,List.setIfInBounds_toArray,List.set_cons_zero,List.set_cons_succ,qaX,qaY];rfl)
        refine qbD (i:=1) (N:=some 64) (v:=?_) (a':=?_) #[true,true,false,false,false,false,false,false,false,false,false,false,false,false,false,false,false] rfl rfl (qaW HT_.out (by kernel_rfl)) (fun _ _ _ h=>h) (Or.inl ⟨by rfl,?_⟩) ?_ ?_
        rotate_left;(intro w';go_simp;with_reducible rfl);rotate_left;(simp only [Act.put,List.setIfInBounds_toArray,List.set_cons_zero,List.set_cons_succ,qaX,qaY];rfl)
        refine qbD (i:=5) (N:=some 68) (v:=?_) (a':=?_) #[true,true,false,false,false,true,false,false,false,false,false,false,false,false,false,false,false] rfl rfl (qaW HT_.out (by kernel_rfl)) (fun _ _ _ h=>h) (Or.inl ⟨by rfl,?_⟩) ?_ ?_
        rotate_left;(intro w';go_simp;with_reducible rfl);rotate_left;(simp only [Act.put,List.setIfInBounds_toArray,List.set_cons_zero,List.set_cons_succ,qaX,qaY];rfl)
        refine qbD (i:=10) (N:=some 73) (v:=?_) (a':=?_) #[true,true,false,false,false,true,false,false,false,false,true,false,false,false,false,false,false] rfl rfl (qaW HT_.out (by kernel_rfl)) (fun _ _ _ h=>h) (Or.inl ⟨by rfl,?_⟩) ?_ ?_
        rotate_left;(intro w';go_simp;with_reducible rfl);rotate_left;(simp only [Act.put,List.setIfInBounds_toArray,List.set_cons_zero,List.set_cons_succ,qaX,qaY];rfl)
        refine take_ (i:=2) (N:=some 65) (v:=?_) (a':=?_) (bitsA 17 1063) rfl rfl (qcK HT_.out HW_.out (by kernel_rfl)) (fun _ _ _ h=>h) (Or.inl ⟨by rfl,?_⟩) hHeld ?_ ?_
        rotate_left;(rintro w' ⟨s0,s1,s2⟩;go_simp;with_reducible rfl);rotate_left;(simp only [Act.put,List.setIfInBounds_toArray,List.set_cons_zero,List.set_cons_succ,qaX,qaY];rfl)
        refine qbD (i:=3) (N:=some 66) (v:=?_) (a':=?_) #[true,true,true,true,false,true,false,false,false,false,true,false,false,false,false,false,false] rfl rfl (qaW HT_.out (by kernel_rfl)) (fun _ _ _ h=>h) (Or.inl ⟨by rfl,?_⟩) ?_ ?_
        rotate_left;(intro w';go_simp;with_reducible rfl);rotate_left;(simp only [Act.put,List.setIfInBounds_toArray,List.set_cons_zero,List.set_cons_succ,qaX,qaY];rfl)
        refine qbD (i:=4) (N:=some 67) (v:=?_) (a':=?_) #[true,true,true,true,true,true,false,false,false,false,true,false,false,false,false,false,false] rfl rfl (qaW HT_.out (by kernel_rfl)) (fun _ _ _ h=>h) (Or.inl ⟨by rfl,?_⟩) ?_ ?_
        rotate_left;(intro w';go_simp;with_reducible rfl);rotate_left;(simp only [Act.put,List.setIfInBounds_toArray,List.set_cons_zero,List.set_cons_succ,qaX,qaY];rfl)
        refine take_ (i:=6) (N:=some 69) (v:=?_) (a':=?_) (bitsA 17 1151) rfl rfl (qcK HT_.out HW_.out (by kernel_rfl)) (fun _ _ _ h=>h) (Or.inl ⟨by rfl,?_⟩) hHeld ?_ ?_
        rotate_left;(rintro w' ⟨s0,s1,s2⟩;go_simp;with_reducible rfl);rotate_left;(simp only [Act.put,List.setIfInBounds_toArray,List.set_cons_zero,List.set_cons_succ,qaX,qaY];rfl)
        refine take_ (i:=11) (N:=some 74) (v:=?_) (a':=?_) (bitsA 17 3199) rfl rfl (qcK HT_.out HW_.out (by kernel_rfl)) (fun _ _ _ h=>h) (Or.inl ⟨by rfl,?_⟩) hHeld ?_ ?_
        rotate_left;(rintro w' ⟨s0,s1,s2⟩;go_simp;with_reducible rfl);rotate_left;(simp only [Act.put,List.setIfInBounds_toArray,List.set_cons_zero,List.set_cons_succ,qaX,qaY];rfl)
        refine one_ (i:=7) (N:=some 70) (bitsA 17 3327) rfl rfl (one_of HT_.out (by kernel_rfl)) (by decide) (fun K hK=>?_)
        refine goes_ Tryd.func35 (by kernel_rfl) rfl #[.int .i64 (y.f2)] (by rfl) rfl rfl (by simp only [List.map_toArray,List.map_cons,List.map_nil];rfl) ?_
        with_reducible refine (strconv_Itoa.calls (y.f2) d2 _ HD2.out (glob_at HG_ HB.out)).mono ?_
        rintro e w14 ⟨rfl,hb⟩
        refine ⟨_,rfl,?_⟩
        have n0_:=Aside0.mk (qaN HB.out hb)
        have n1_:=Aside0.mk (blk_bel_ H5.out hb)
        have n2_:=Aside0.mk (blk_bel_ H7.out hb)
        clear hb
        have HB:=n0_
        have H5:=n1_
        have H7:=n2_
        clear n0_ n1_ n2_
        refine hK.out _ _ ⟨(words_at HG_ HB.out).2.2,(qaE H7.out 2).trans rfl,(qaE H7.out 3).trans rfl⟩ (fun hHeld=>?_)
        clear hK K
        refine norm_ (a':=?_) ?_ ?_
        rotate_left
        ·show Act.put _ (some 70) _=_
         simp only [Act.put,List.setIfInBounds_toArray,List.set_cons_zero,List.set_cons_succ,qaX,qaY]
         rfl
        refine qbD (i:=8) (N:=some 71) (v:=?_) (a':=?_) #[true,true,true,true,true,true,true,true,true,false,true,true,false,false,false,false,false] rfl rfl (qaW HT_.out (by kernel_rfl)) (fun _ _ _ h=>h) (Or.inl ⟨by rfl,?_⟩) ?_ ?_
        rotate_left;(intro w';go_simp;with_reducible rfl);rotate_left;(simp only [Act.put,List.setIfInBounds_toArray,List.set_cons_zero,List.set_cons_succ,qaX,qaY];rfl)
        refine qbD (i:=9) (N:=some 72) (v:=?_) (a':=?_) #[true,true,true,true,true,true,true,true,true,true,true,true,false,false,false,false,false] rfl rfl (qaW HT_.out (by kernel_rfl)) (fun _ _ _ h=>h) (Or.inl ⟨by rfl,?_⟩) ?_ ?_
        rotate_left;(intro w';go_simp;with_reducible rfl);rotate_left;(simp only [Act.put,List.setIfInBounds_toArray,List.set_cons_zero,List.set_cons_succ,qaX,qaY];rfl)
        refine one_ (i:=12) (N:=some 75) (bitsA 17 8191) rfl rfl (one_of HT_.out (by kernel_rfl)) (by decide) (fun K hK=>?_)
        refine goes_ Tryd.func35 (by kernel_rfl) rfl #[.int .i64 (y.f3)] (by rfl) rfl rfl (by simp only [List.map_toArray,List.map_cons,List.map_nil];rfl) ?_
        with_reducible refine (strconv_Itoa.calls (y.f3) d3 _ HD3.out (glob_at HG_ HB.out)).mono ?_
        rintro e w14 ⟨rfl,hb⟩
        refine ⟨_,rfl,?_⟩
        have n0_:=Aside0.mk (qaN HB.out hb)
        have n1_:=Aside0.mk (blk_bel_ H5.out hb)
        have n2_:=Aside0.mk (blk_bel_ H7.out hb)
        clear hb
        have HB:=n0_
        have H5:=n1_
        have H7:=n2_
        clear n0_ n1_ n2_
        refine hK.out _ _ ⟨(words_at HG_ HB.out).2.2,(qaE H7.out 2).trans rfl,(qaE H7.out 3).trans rfl⟩ (fun hHeld=>?_)
        clear hK K
        refine norm_ (a':=?_) ?_ ?_
        rotate_left
        ·show Act.put _ (some 75) _=_
         simp only [Act.put,List.setIfInBounds_toArray,List.set_cons_zero,List.set_cons_succ,qaX,qaY]
         rfl
        refine qbD (i:=13) (N:=some 76) (v:=?_) (a':=?_) #[true,true,true,true,true,true,true,true,true,true,true,true,true,true,false,false,false] rfl rfl (qaW HT_.out (by kernel_rfl)) (fun _ _ _ h=>h) (Or.inl ⟨by rfl,?_⟩) ?_ ?_
        rotate_left;(intro w';go_simp;with_reducible rfl);rotate_left;(simp only [Act.put,List.setIfInBounds_toArray,List.set_cons_zero,List.set_cons_succ,qaX,qaY];rfl)
        refine qbD (i:=14) (N:=some 77) (v:=?_) (a':=?_) #[true,true,true,true,true,true,true,true,true,true,true,true,true,true,true,false,false] rfl rfl (qaW HT_.out (by kernel_rfl)) (fun _ _ _ h=>h) (Or.inl ⟨by rfl,?_⟩) ?_ ?_
        rotate_left;(intro w';go_simp;with_reducible rfl);rotate_left;(simp only [Act.put,List.setIfInBounds_toArray,List.set_cons_zero,List.set_cons_succ,qaX,qaY];rfl)
        refine qbD (i:=15) (N:=some 78) (v:=?_) (a':=?_) #[true,true,true,true,true,true,true,true,true,true,true,true,true,true,true,true,false] rfl rfl (qaW HT_.out (by kernel_rfl)) (fun _ _ _ h=>h) (Or.inl ⟨by rfl,?_⟩) ?_ ?_
        rotate_left;(intro w';go_simp;with_reducible rfl);rotate_left;(simp only [Act.put,List.setIfInBounds_toArray,List.set_cons_zero,List.set_cons_succ,qaX,qaY];rfl)
        refine qbD (i:=16) (N:=some 3) (v:=?_) (a':=?_) #[true,true,true,true,true,true,true,true,true,true,true,true,true,true,true,true,true] rfl rfl (qaW HT_.out (by kernel_rfl)) (fun _ _ _ h=>h) (Or.inl ⟨by rfl,?_⟩) ?_ ?_
        rotate_left;(intro w';go_simp;with_reducible rfl);rotate_left;(simp only [Act.put,List.setIfInBounds_toArray,List.set_cons_zero,List.set_cons_succ,qaX,qaY];rfl)
        refine done_ (done_of HT_.out (by kernel_rfl)) ?_
        go_wp2_with fail
        rw [HT.out]
        have e:wrap64 ((j:Int)+1)=(j:Int)+1:=by
         have:=HS.out
         unfold wrap64
         omega
        go_roundg m2
        case measure=>omega
        case rel=>exact ⟨s',j+1,rfl,by simp [e],⟨by have:=HJ.out;omega⟩,HA8,H5,HB⟩
   ·have HR0:=Aside0.mk (Option.some.inj ((if_neg he).symm.trans HA1.out))
    have hz:(e1 != 0)=true:=by simp [he]
    go_wp2_with fail
    go_ret
    exact ⟨by rw [← HR0.out];rfl,HB.out⟩
end Go.Proofs.YtehdmplngmbnnaaDoor.P
namespace Go.Proofs.YtehdmplngmbnnaaDoor.P
open Go.RowKit Go.Proofs.YtehdmplngmbnnaaDoorW.PrintWords Go.Proofs.YtehdmplngmbnnaaDoorW.PrintLast Go.Proofs.YtehdmplngmbnnaaDoorW.PrintMore
attribute [local go_sem] qbV qbW qcC qcD qbQ qbR qbX qbY
attribute [local go_sem] qbL
set_option linter.unusedVariables false
set_option linter.unusedSimpArgs false
def lexer_isDigit.f (a0:Int):Option (Bool):=if 48≤a0 then (some (decide (a0≤57))) else (some false)
set_option maxHeartbeats 8000000 in
set_option maxRecDepth 100000 in
theorem lexer_isDigit.calls (a0:Int) (r:Bool) (w:World) (h:lexer_isDigit.f a0=some r) :
  Calls Tryd.prog 63 #[.int .i32 a0] w fun e w'=>e=.returned (.bool r)∧Drawn0 w w':=by
 have H:(if 48≤a0 then (some (decide (a0≤57))) else (some false))=some r:=h
 clear h
 by_cases c2:48≤a0
 ·rw [if_pos c2] at H
  have c2b0:decide (48≤a0)=true:=decide_eq_true c2
  clear c2
  obtain rfl:=Option.some.inj H
  go_enter Tryd.func63,Tryd.ntmps63
  go_wp2
  go_ret
  exact ⟨by first|rfl|(simp;done)|(simp [*];done),by repeat (first|exact Drawn0.refl _|apply Drawn0.step)⟩
 ·rw [if_neg c2] at H
  have c2b0:decide (48≤a0)=false:=decide_eq_false c2
  clear c2
  obtain rfl:=Option.some.inj H
  go_enter Tryd.func63,Tryd.ntmps63
  go_wp2
  go_ret
  exact ⟨by first|rfl|(simp;done)|(simp [*];done),by repeat (first|exact Drawn0.refl _|apply Drawn0.step)⟩
end Go.Proofs.YtehdmplngmbnnaaDoor.P
namespace Go.Proofs.YtehdmplngmbnnaaDoor.P
open Go.RowKit Go.Proofs.YtehdmplngmbnnaaDoorW.PrintWords Go.Proofs.YtehdmplngmbnnaaDoorW.PrintLast Go.Proofs.YtehdmplngmbnnaaDoorW.PrintMore
attribute [local go_sem] qbV qbW qcC qcD qbQ qbR qbX qbY
attribute [local go_sem] qbL
set_option linter.unusedVariables false
set_option linter.unusedSimpArgs false
def lexer_isWord.f (a0:Int):Option (Bool):=(lexer_isDigit.f a0).bind fun t101=>(if t101=true then (some true) else (if 97≤a0 then (if a0≤122 then (some true) else (if 65≤a0 then (if a0≤90 then (some true) else (some (a0 == 95))) else (some (a0 == 95)))) else (if 65≤a0 then (if a0≤90 then (some true) else (some (a0 == 95))) else (some (a0 == 95)))))
set_option maxHeartbeats 8000000 in
set_option maxRecDepth 100000 in
theorem lexer_isWord.calls (a0:Int) (r:Bool) (w:World) (h:lexer_isWord.f a0=some r) :
  Calls Tryd.prog 65 #[.int .i32 a0] w fun e w'=>e=.returned (.bool r)∧Drawn0 w w':=by
 have H:((lexer_isDigit.f a0).bind fun t101=>(if t101=true then (some true) else (if 97≤a0 then (if a0≤122 then (some true) else (if 65≤a0 then (if a0≤90 then (some true) else (some (a0 == 95))) else (some (a0 == 95)))) else (if 65≤a0 then (if a0≤90 then (some true) else (some (a0 == 95))) else (some (a0 == 95))))))=some r:=h
 clear h
 replace H:=Option.bind_eq_some_iff.mp H
 obtain ⟨t101,A20,H⟩:=H
 replace H:(if t101=true then (some true) else (if 97≤a0 then (if a0≤122 then (some true) else (if 65≤a0 then (if a0≤90 then (some true) else (some (a0 == 95))) else (some (a0 == 95)))) else (if 65≤a0 then (if a0≤90 then (some true) else (some (a0 == 95))) else (some (a0 == 95)))))=some r:=H
 have A2:=Aside0.mk A20
 clear A20
 by_cases c3:t101=true
 ·subst c3
  have H1:(some true)=some r:=by rw [if_pos rfl] at H;exact H
  clear H
  have H:=H1
  clear H1
  obtain rfl:=Option.some.inj H
  go_enter Tryd.func65,Tryd.ntmps65
  go_wp2_with (first|((with_reducible refine qaO (f:=63) rfl ?_);refine qbG (some 4) rfl rfl Tryd.func63 (by kernel_rfl) rfl #[.int .i32 a0] rfl (by (try simp only [List.map_toArray,List.map_cons,List.map_nil]);first|done|rfl|(simp only [List.length_drop,List.length_take];rfl)) ?_;(with_reducible refine (lexer_isDigit.calls a0 true _ A2.out).mono ?_);rintro e w' ⟨rfl,⟨nd,rfl⟩⟩;refine ⟨_,rfl,?_⟩))
  go_ret
  exact ⟨by first|rfl|(simp;done)|(simp [*];done),by repeat (first|exact Drawn0.refl _|apply Drawn0.step)⟩
 ·replace c3:=Bool.eq_false_iff.mpr c3
  subst c3
  have H1:(if 97≤a0 then (if a0≤122 then (some true) else (if 65≤a0 then (if a0≤90 then (some true) else (some (a0 == 95))) else (some (a0 == 95)))) else (if 65≤a0 then (if a0≤90 then (some true) else (some (a0 == 95))) else (some (a0 == 95))))=some r:=by rw [if_neg (show ¬ (false=true) by decide)] at H;exact H
  clear H
  have H:=H1
  clear H1
  by_cases c4:97≤a0
  ·rw [if_pos c4] at H
   have c4b0:decide (97≤a0)=true:=decide_eq_true c4
   clear c4
   by_cases c5:a0≤122
   ·rw [if_pos c5] at H
    have c5b0:decide (a0≤122)=true:=decide_eq_true c5
    clear c5
    obtain rfl:=Option.some.inj H
    go_enter Tryd.func65,Tryd.ntmps65
    go_wp2_with (first|((with_reducible refine qaO (f:=63) rfl ?_);refine qbG (some 4) rfl rfl Tryd.func63 (by kernel_rfl) rfl #[.int .i32 a0] rfl (by (try simp only [List.map_toArray,List.map_cons,List.map_nil]);first|done|rfl|(simp only [List.length_drop,List.length_take];rfl)) ?_;(with_reducible refine (lexer_isDigit.calls a0 false _ A2.out).mono ?_);rintro e w' ⟨rfl,⟨nd,rfl⟩⟩;refine ⟨_,rfl,?_⟩))
    go_ret
    exact ⟨by first|rfl|(simp;done)|(simp [*];done),by repeat (first|exact Drawn0.refl _|apply Drawn0.step)⟩
   ·rw [if_neg c5] at H
    have c5b0:decide (a0≤122)=false:=decide_eq_false c5
    clear c5
    by_cases c6:65≤a0
    ·rw [if_pos c6] at H
     have c6b0:decide (65≤a0)=true:=decide_eq_true c6
     clear c6
     by_cases c7:a0≤90
     ·rw [if_pos c7] at H
      have c7b0:decide (a0≤90)=true:=decide_eq_true c7
      clear c7
      obtain rfl:=Option.some.inj H
      go_enter Tryd.func65,Tryd.ntmps65
      go_wp2_with (first|((with_reducible refine qaO (f:=63) rfl ?_);refine qbG (some 4) rfl rfl Tryd.func63 (by kernel_rfl) rfl #[.int .i32 a0] rfl (by (try simp only [List.map_toArray,List.map_cons,List.map_nil]);first|done|rfl|(simp only [List.length_drop,List.length_take];rfl)) ?_;(with_reducible refine (lexer_isDigit.calls a0 false _ A2.out).mono ?_);rintro e w' ⟨rfl,⟨nd,rfl⟩⟩;refine ⟨_,rfl,?_⟩))
      go_ret
      exact ⟨by first|rfl|(simp;done)|(simp [*];done),by repeat (first|exact Drawn0.refl _|apply Drawn0.step)⟩
     ·rw [if_neg c7] at H
      have c7b0:decide (a0≤90)=false:=decide_eq_false c7
      clear c7
      obtain rfl:=Option.some.inj H
      go_enter Tryd.func65,Tryd.ntmps65
      go_wp2_with (first|((with_reducible refine qaO (f:=63) rfl ?_);refine qbG (some 4) rfl rfl Tryd.func63 (by kernel_rfl) rfl #[.int .i32 a0] rfl (by (try simp only [List.map_toArray,List.map_cons,List.map_nil]);first|done|rfl|(simp only [List.length_drop,List.length_take];rfl)) ?_;(with_reducible refine (lexer_isDigit.calls a0 false _ A2.out).mono ?_);rintro e w' ⟨rfl,⟨nd,rfl⟩⟩;refine ⟨_,rfl,?_⟩))
      go_ret
      exact ⟨by first|rfl|(simp;done)|(simp [*];done),by repeat (first|exact Drawn0.refl _|apply Drawn0.step)⟩
    ·rw [if_neg c6] at H
     have c6b0:decide (65≤a0)=false:=decide_eq_false c6
     clear c6
     obtain rfl:=Option.some.inj H
     go_enter Tryd.func65,Tryd.ntmps65
     go_wp2_with (first|((with_reducible refine qaO (f:=63) rfl ?_);refine qbG (some 4) rfl rfl Tryd.func63 (by kernel_rfl) rfl #[.int .i32 a0] rfl (by (try simp only [List.map_toArray,List.map_cons,List.map_nil]);first|done|rfl|(simp only [List.length_drop,List.length_take];rfl)) ?_;(with_reducible refine (lexer_isDigit.calls a0 false _ A2.out).mono ?_);rintro e w' ⟨rfl,⟨nd,rfl⟩⟩;refine ⟨_,rfl,?_⟩))
     go_ret
     exact ⟨by first|rfl|(simp;done)|(simp [*];done),by repeat (first|exact Drawn0.refl _|apply Drawn0.step)⟩
  ·rw [if_neg c4] at H
   have c4b0:decide (97≤a0)=false:=decide_eq_false c4
   clear c4
   by_cases c8:65≤a0
   ·rw [if_pos c8] at H
    have c8b0:decide (65≤a0)=true:=decide_eq_true c8
    clear c8
    by_cases c9:a0≤90
    ·rw [if_pos c9] at H
     have c9b0:decide (a0≤90)=true:=decide_eq_true c9
     clear c9
     obtain rfl:=Option.some.inj H
     go_enter Tryd.func65,Tryd.ntmps65
     go_wp2_with (first|((with_reducible refine qaO (f:=63) rfl ?_);refine qbG (some 4) rfl rfl Tryd.func63 (by kernel_rfl) rfl #[.int .i32 a0] rfl (by (try simp only [List.map_toArray,List.map_cons,List.map_nil]);first|done|rfl|(simp only [List.length_drop,List.length_take];rfl)) ?_;(with_reducible refine (lexer_isDigit.calls a0 false _ A2.out).mono ?_);rintro e w' ⟨rfl,⟨nd,rfl⟩⟩;refine ⟨_,rfl,?_⟩))
     go_ret
     exact ⟨by first|rfl|(simp;done)|(simp [*];done),by repeat (first|exact Drawn0.refl _|apply Drawn0.step)⟩
    ·rw [if_neg c9] at H
     have c9b0:decide (a0≤90)=false:=decide_eq_false c9
     clear c9
     obtain rfl:=Option.some.inj H
     go_enter Tryd.func65,Tryd.ntmps65
     go_wp2_with (first|((with_reducible refine qaO (f:=63) rfl ?_);refine qbG (some 4) rfl rfl Tryd.func63 (by kernel_rfl) rfl #[.int .i32 a0] rfl (by (try simp only [List.map_toArray,List.map_cons,List.map_nil]);first|done|rfl|(simp only [List.length_drop,List.length_take];rfl)) ?_;(with_reducible refine (lexer_isDigit.calls a0 false _ A2.out).mono ?_);rintro e w' ⟨rfl,⟨nd,rfl⟩⟩;refine ⟨_,rfl,?_⟩))
     go_ret
     exact ⟨by first|rfl|(simp;done)|(simp [*];done),by repeat (first|exact Drawn0.refl _|apply Drawn0.step)⟩
   ·rw [if_neg c8] at H
    have c8b0:decide (65≤a0)=false:=decide_eq_false c8
    clear c8
    obtain rfl:=Option.some.inj H
    go_enter Tryd.func65,Tryd.ntmps65
    go_wp2_with (first|((with_reducible refine qaO (f:=63) rfl ?_);refine qbG (some 4) rfl rfl Tryd.func63 (by kernel_rfl) rfl #[.int .i32 a0] rfl (by (try simp only [List.map_toArray,List.map_cons,List.map_nil]);first|done|rfl|(simp only [List.length_drop,List.length_take];rfl)) ?_;(with_reducible refine (lexer_isDigit.calls a0 false _ A2.out).mono ?_);rintro e w' ⟨rfl,⟨nd,rfl⟩⟩;refine ⟨_,rfl,?_⟩))
    go_ret
    exact ⟨by first|rfl|(simp;done)|(simp [*];done),by repeat (first|exact Drawn0.refl _|apply Drawn0.step)⟩
end Go.Proofs.YtehdmplngmbnnaaDoor.P
namespace Go.Proofs.YtehdmplngmbnnaaDoor.P
open Go.RowKit Go.Proofs.YtehdmplngmbnnaaDoorW.PrintWords Go.Proofs.YtehdmplngmbnnaaDoorW.PrintLast
set_option linter.unusedVariables false
set_option linter.unusedSimpArgs false
def qcL (c:UInt8):Bool:=48≤c && c≤57
def isWrd (c:UInt8):Bool:=qcL c || (97≤c && c≤122) || (65≤c && c≤90) || c == 95
def notLf (c:UInt8):Bool:=c != 10
def lenP (p:UInt8→Bool) (s:ByteArray):Nat:=(s.data.toList.takeWhile p).length
theorem lenP_le (p:UInt8→Bool) (s:ByteArray):lenP p s≤s.size:=List.Sublist.length_le (List.takeWhile_sublist p)
theorem tw_stop (p:UInt8→Bool) (l:List UInt8):∀ (k:Nat) (x:UInt8),l[k]?=some x→k≤(l.takeWhile p).length→p x=false→(l.takeWhile p).length=k:=by
 induction l with
 | nil=>intro k x h;simp at h
 | cons y l ih =>
  intro k x h hl hp
  cases k with
  | zero =>
   obtain rfl:y=x:=by simpa using h
   simp [List.takeWhile_cons,hp]
  | succ k =>
   by_cases hx:p y=true
   ·simp only [List.takeWhile_cons,hx,if_true,List.length_cons] at hl ⊢
    rw [ih k x (by simpa using h) (by omega) hp]
   ·simp [List.takeWhile_cons,hx] at hl
theorem tw_more (p:UInt8→Bool) (l:List UInt8):∀ (k:Nat) (x:UInt8),l[k]?=some x→k≤(l.takeWhile p).length→p x=true→k+1≤(l.takeWhile p).length:=by
 induction l with
 | nil=>intro k x h;simp at h
 | cons y l ih =>
  intro k x h hl hp
  cases k with
  | zero =>
   obtain rfl:y=x:=by simpa using h
   simp [List.takeWhile_cons,hp]
  | succ k =>
   by_cases hx:p y=true
   ·simp only [List.takeWhile_cons,hx,if_true,List.length_cons] at hl ⊢
    have:=ih k x (by simpa using h) (by omega) hp
    omega
   ·simp [List.takeWhile_cons,hx] at hl
theorem at_k (s:ByteArray) (k:Nat) (h:k < s.size):s.data.toList[k]?=some s[k]:=by
 rw [List.getElem?_eq_getElem (show k < s.data.toList.length from h)]
 rfl
theorem lenP_stop (p:UInt8→Bool) (s:ByteArray) (k:Nat) (h:k < s.size) (hl:k≤lenP p s) (hp:p s[k]=false):lenP p s=k:=tw_stop p _ k _ (at_k s k h) hl hp
theorem lenP_more (p:UInt8→Bool) (s:ByteArray) (k:Nat) (h:k < s.size) (hl:k≤lenP p s) (hp:p s[k]=true):k+1≤lenP p s:=tw_more p _ k _ (at_k s k h) hl hp
theorem ret_int {k:IntKind} {a b:Int} (h:a=b):Ending.returned (.int k a)=.returned (.int k b):=by rw [h]
set_option maxHeartbeats 400000 in
theorem length_walk (F:Nat) (p:UInt8→Bool) (s:ByteArray) (w:World) (hs:s.size≤9223372036854775807)
  (hcf:∀ (args:Array Value) (w:World),Sem.run Tryd.prog (callFunc F args) w=.ok (.enter F args) w)
  (hk:∀ (c:UInt8) (w:World),Calls Tryd.prog F #[.int .i32 (wrap32 (c.toNat:Int))] w fun e w'=>e=.returned (.bool (p c))∧Drawn0 w w') :
  Calls Tryd.prog 61 #[.string s,.func (.func F) #[] #[]] w fun e w'=>e=.returned (.int .i64 (lenP p s))∧Drawn0 w w':=by
 have HK:=Lib.hid hk
 clear hk
 go_enter Tryd.func61,Tryd.ntmps61
 go_wp2_with fail
 go_loopw [8] (fun i wr=>∃ k:Nat,k≤s.size∧i=.int .i64 k∧Aside0 (k≤lenP p s)∧Drawn0 w wr) (fun i _=>s.size - (intOf i).toNat)
 case atStart=>exact ⟨0,Nat.zero_le _,rfl,⟨Nat.zero_le _⟩,Drawn0.refl w⟩
 case round =>
  obtain ⟨k,hk,rfl,HL,HD⟩:=hrel
  by_cases hlt:k < s.size
  ·cases hp:p s[k] with
   | true =>
    have HM:=Aside0.mk (lenP_more p s k hlt HL.out hp)
    have HP:=Lib.hid hp
    clear hp
    go_wp2_with fail
    refine (HK.out s[k] wr).mono ?_
    rw [HP.out]
    rintro e w' ⟨rfl,⟨nd,rfl⟩⟩
    have HD2:=HD.step nd
    clear HD
    go_wp2_with fail
    go_roundw
    case rel=>exact ⟨k+1,by omega,by go_num,HM,HD2⟩
    case measure=>simp [intOf];omega
   | false =>
    have HM:=Aside0.mk (lenP_stop p s k hlt HL.out hp)
    have HP:=Lib.hid hp
    clear hp
    go_wp2_with fail
    refine (HK.out s[k] wr).mono ?_
    rw [HP.out]
    rintro e w' ⟨rfl,⟨nd,rfl⟩⟩
    have HD2:=HD.step nd
    clear HD
    go_wp2_with fail
    go_ret
    exact ⟨ret_int (by rw [HM.out]),HD2⟩
  ·have HM:=Aside0.mk (show lenP p s=s.size by have:=lenP_le p s;have:=HL.out;omega)
   go_wp2_with fail
   go_ret
   exact ⟨ret_int (by rw [HM.out]),HD⟩
def lexer_length.f (a0:ByteArray) (a1:Nat):Option Int :=
 if a0.size≤9223372036854775807 then
  (if a1=62 then some (lenP notLf a0) else if a1=63 then some (lenP qcL a0) else if a1=65 then some (lenP isWrd a0) else none)
 else none
theorem wrap32_byte (c:UInt8):wrap32 (c.toNat:Int)=c.toNat:=by
 have:=c.toNat_lt
 unfold wrap32
 omega
theorem dig_f (c:UInt8):lexer_isDigit.f (wrap32 (c.toNat:Int))=some (qcL c):=by
 rw [wrap32_byte]
 unfold lexer_isDigit.f qcL
 have h1:(48≤c) ↔ (48:Int)≤c.toNat:=by rw [UInt8.le_iff_toNat_le];simp;omega
 have h2:(c≤57) ↔ (c.toNat:Int)≤57:=by rw [UInt8.le_iff_toNat_le];simp;omega
 rw [show (48≤c && c≤57)=(decide ((48:Int)≤c.toNat) && decide ((c.toNat:Int)≤57)) by rw [Bool.eq_iff_iff];simp only [Bool.and_eq_true,decide_eq_true_eq,h1,h2]]
 split
 ·rename_i g;simp [g]
 ·rename_i g;simp [g]
theorem wrd_f (c:UInt8):lexer_isWord.f (wrap32 (c.toNat:Int))=some (isWrd c):=by
 unfold lexer_isWord.f isWrd
 rw [dig_f,wrap32_byte]
 have e:∀ n:UInt8,(n≤c) ↔ (n.toNat:Int)≤c.toNat:=fun n=>by rw [UInt8.le_iff_toNat_le];omega
 have e':∀ n:UInt8,(c≤n) ↔ (c.toNat:Int)≤n.toNat:=fun n=>by rw [UInt8.le_iff_toNat_le];omega
 have e3:(c == 95)=decide ((c.toNat:Int)=95):=by
  rw [Bool.eq_iff_iff];simp [← UInt8.toNat_inj];omega
 have a1:=e 97;have a2:=e' 122;have a3:=e 65;have a4:=e' 90
 simp at a1 a2 a3 a4
 cases qcL c
 ·rw [e3]
  simp only [a1,a2,a3,a4,Option.bind_some]
  by_cases b1:(97:Int)≤c.toNat<;>by_cases b2:(c.toNat:Int)≤122<;>by_cases b3:(65:Int)≤c.toNat<;>by_cases b4:(c.toNat:Int)≤90<;>by_cases b5:(c.toNat:Int)=95<;>simp [b1,b2,b3,b4,b5]
 ·simp
theorem lf_calls (c:UInt8) (w:World):Calls Tryd.prog 62 #[.int .i32 (wrap32 (c.toNat:Int))] w fun e w'=>e=.returned (.bool (notLf c))∧Drawn0 w w':=by
 rw [wrap32_byte]
 have hb:((c.toNat:Int) != 10)=notLf c:=by
  unfold notLf
  rw [Bool.eq_iff_iff]
  simp [← UInt8.toNat_inj]
  omega
 cases hc:notLf c
 ·rw [hc] at hb
  have HC:=Lib.hid hc
  clear hc
  go_enter Tryd.func62,Tryd.ntmps62
  go_wp2
  go_ret
  exact ⟨rfl,Drawn0.refl w⟩
 ·rw [hc] at hb
  have HC:=Lib.hid hc
  clear hc
  go_enter Tryd.func62,Tryd.ntmps62
  go_wp2
  go_ret
  exact ⟨rfl,Drawn0.refl w⟩
theorem cf62 (args:Array Value) (w:World):Sem.run Tryd.prog (callFunc 62 args) w=.ok (.enter 62 args) w:=by go_simp
theorem cf63 (args:Array Value) (w:World):Sem.run Tryd.prog (callFunc 63 args) w=.ok (.enter 63 args) w:=by go_simp
theorem cf65 (args:Array Value) (w:World):Sem.run Tryd.prog (callFunc 65 args) w=.ok (.enter 65 args) w:=by go_simp
theorem lexer_length.calls (a0:ByteArray) (a1:Nat) (r:Int) (w:World) (h:lexer_length.f a0 a1=some r) :
  Calls Tryd.prog 61 #[.string a0,.func (.func a1) #[] #[]] w fun e w'=>e=.returned (.int .i64 r)∧Drawn0 w w':=by
 unfold lexer_length.f at h
 split at h
 ·rename_i hs
  split at h
  ·rename_i ha
   subst ha
   obtain rfl:=Option.some.inj h
   exact length_walk _ notLf a0 w hs cf62 lf_calls
  ·split at h
   ·rename_i ha
    subst ha
    obtain rfl:=Option.some.inj h
    exact length_walk _ qcL a0 w hs cf63 (fun c w=>lexer_isDigit.calls _ _ w (dig_f c))
   ·split at h
    ·rename_i ha
     subst ha
     obtain rfl:=Option.some.inj h
     exact length_walk _ isWrd a0 w hs cf65 (fun c w=>lexer_isWord.calls _ _ w (wrd_f c))
    ·cases h
 ·cases h
end Go.Proofs.YtehdmplngmbnnaaDoor.P
namespace Go.Proofs.YtehdmplngmbnnaaDoor.P
open Go.RowKit Go.Proofs.YtehdmplngmbnnaaDoorW.PrintWords Go.Proofs.YtehdmplngmbnnaaDoorW.PrintLast Go.Proofs.YtehdmplngmbnnaaDoorW.PrintMore
attribute [local go_sem] qbV qbW qcC qcD qbQ qbR qbX qbY
attribute [local go_sem] qbL
set_option linter.unusedVariables false
set_option linter.unusedSimpArgs false
def lexer_IsMark.f (a0:ByteArray):Option (Bool):=if a0.toList=([60,61]:List UInt8) then (some true) else (if a0.toList=([62,61]:List UInt8) then (some true) else (if a0.toList=([33,61]:List UInt8) then (some true) else (if a0.toList=([46,46]:List UInt8) then (some true) else (if a0.toList=([60]:List UInt8) then (some true) else (if a0.toList=([61]:List UInt8) then (some true) else (if a0.toList=([62]:List UInt8) then (some true) else (if a0.toList=([40]:List UInt8) then (some true) else (if a0.toList=([41]:List UInt8) then (some true) else (if a0.toList=([123]:List UInt8) then (some true) else (if a0.toList=([125]:List UInt8) then (some true) else (if a0.toList=([44]:List UInt8) then (some true) else (if a0.toList=([59]:List UInt8) then (some true) else (if a0.toList=([58]:List UInt8) then (some true) else (if a0.toList=([43]:List UInt8) then (some true) else (if a0.toList=([45]:List UInt8) then (some true) else (if a0.toList=([42]:List UInt8) then (some true) else (if a0.toList=([47]:List UInt8) then (some true) else (if a0.toList=([64]:List UInt8) then (some true) else (some false)))))))))))))))))))
set_option maxHeartbeats 8000000 in
set_option maxRecDepth 100000 in
theorem lexer_IsMark.calls (a0:ByteArray) (r:Bool) (w:World) (h:lexer_IsMark.f a0=some r) :
  Calls Tryd.prog 66 #[.string a0] w fun e w'=>e=.returned (.bool r)∧Drawn0 w w':=by
 have H:(if a0.toList=([60,61]:List UInt8) then (some true) else (if a0.toList=([62,61]:List UInt8) then (some true) else (if a0.toList=([33,61]:List UInt8) then (some true) else (if a0.toList=([46,46]:List UInt8) then (some true) else (if a0.toList=([60]:List UInt8) then (some true) else (if a0.toList=([61]:List UInt8) then (some true) else (if a0.toList=([62]:List UInt8) then (some true) else (if a0.toList=([40]:List UInt8) then (some true) else (if a0.toList=([41]:List UInt8) then (some true) else (if a0.toList=([123]:List UInt8) then (some true) else (if a0.toList=([125]:List UInt8) then (some true) else (if a0.toList=([44]:List UInt8) then (some true) else (if a0.toList=([59]:List UInt8) then (some true) else (if a0.toList=([58]:List UInt8) then (some true) else (if a0.toList=([43]:List UInt8) then (some true) else (if a0.toList=([45]:List UInt8) then (some true) else (if a0.toList=([42]:List UInt8) then (some true) else (if a0.toList=([47]:List UInt8) then (some true) else (if a0.toList=([64]:List UInt8) then (some true) else (some false))))))))))))))))))))=some r:=h
 clear h
 by_cases c2:a0.toList=([60,61]:List UInt8)
 ·rw [if_pos c2] at H
  have c2b0:(a0.toList == ([60,61]:List UInt8))=true:=beq_iff_eq.mpr c2
  have c2b1:(a0.toList != ([60,61]:List UInt8))=false:=bne_eq_false_iff_eq.mpr c2
  clear c2
  obtain rfl:=Option.some.inj H
  go_enter Tryd.func66,Tryd.ntmps66
  go_wp2
  go_ret
  exact ⟨by first|rfl|(simp;done)|(simp [*];done),by repeat (first|exact Drawn0.refl _|apply Drawn0.step)⟩
 ·rw [if_neg c2] at H
  have c2b0:(a0.toList == ([60,61]:List UInt8))=false:=beq_eq_false_iff_ne.mpr c2
  have c2b1:(a0.toList != ([60,61]:List UInt8))=true:=bne_iff_ne.mpr c2
  by_cases c3:a0.toList=([62,61]:List UInt8)
  ·rw [if_pos c3] at H
   have c3b0:(a0.toList == ([62,61]:List UInt8))=true:=beq_iff_eq.mpr c3
   have c3b1:(a0.toList != ([62,61]:List UInt8))=false:=bne_eq_false_iff_eq.mpr c3
   clear c3
   obtain rfl:=Option.some.inj H
   go_enter Tryd.func66,Tryd.ntmps66
   go_wp2
   go_ret
   exact ⟨by first|rfl|(simp;done)|(simp [*];done),by repeat (first|exact Drawn0.refl _|apply Drawn0.step)⟩
  ·rw [if_neg c3] at H
   have c3b0:(a0.toList == ([62,61]:List UInt8))=false:=beq_eq_false_iff_ne.mpr c3
   have c3b1:(a0.toList != ([62,61]:List UInt8))=true:=bne_iff_ne.mpr c3
   by_cases c4:a0.toList=([33,61]:List UInt8)
   ·rw [if_pos c4] at H
    have c4b0:(a0.toList == ([33,61]:List UInt8))=true:=beq_iff_eq.mpr c4
    have c4b1:(a0.toList != ([33,61]:List UInt8))=false:=bne_eq_false_iff_eq.mpr c4
    clear c4
    obtain rfl:=Option.some.inj H
    go_enter Tryd.func66,Tryd.ntmps66
    go_wp2
    go_ret
    exact ⟨by first|rfl|(simp;done)|(simp [*];done),by repeat (first|exact Drawn0.refl _|apply Drawn0.step)⟩
   ·rw [if_neg c4] at H
    have c4b0:(a0.toList == ([33,61]:List UInt8))=false:=beq_eq_false_iff_ne.mpr c4
    have c4b1:(a0.toList != ([33,61]:List UInt8))=true:=bne_iff_ne.mpr c4
    by_cases c5:a0.toList=([46,46]:List UInt8)
    ·rw [if_pos c5] at H
     have c5b0:(a0.toList == ([46,46]:List UInt8))=true:=beq_iff_eq.mpr c5
     have c5b1:(a0.toList != ([46,46]:List UInt8))=false:=bne_eq_false_iff_eq.mpr c5
     clear c5
     obtain rfl:=Option.some.inj H
     go_enter Tryd.func66,Tryd.ntmps66
     go_wp2
     go_ret
     exact ⟨by first|rfl|(simp;done)|(simp [*];done),by repeat (first|exact Drawn0.refl _|apply Drawn0.step)⟩
    ·rw [if_neg c5] at H
     have c5b0:(a0.toList == ([46,46]:List UInt8))=false:=beq_eq_false_iff_ne.mpr c5
     have c5b1:(a0.toList != ([46,46]:List UInt8))=true:=bne_iff_ne.mpr c5
     by_cases c6:a0.toList=([60]:List UInt8)
     ·rw [if_pos c6] at H
      have c6b0:(a0.toList == ([60]:List UInt8))=true:=beq_iff_eq.mpr c6
      have c6b1:(a0.toList != ([60]:List UInt8))=false:=bne_eq_false_iff_eq.mpr c6
      clear c6
      obtain rfl:=Option.some.inj H
      go_enter Tryd.func66,Tryd.ntmps66
      go_wp2
      go_ret
      exact ⟨by first|rfl|(simp;done)|(simp [*];done),by repeat (first|exact Drawn0.refl _|apply Drawn0.step)⟩
     ·rw [if_neg c6] at H
      have c6b0:(a0.toList == ([60]:List UInt8))=false:=beq_eq_false_iff_ne.mpr c6
      have c6b1:(a0.toList != ([60]:List UInt8))=true:=bne_iff_ne.mpr c6
      by_cases c7:a0.toList=([61]:List UInt8)
      ·rw [if_pos c7] at H
       have c7b0:(a0.toList == ([61]:List UInt8))=true:=beq_iff_eq.mpr c7
       have c7b1:(a0.toList != ([61]:List UInt8))=false:=bne_eq_false_iff_eq.mpr c7
       clear c7
       obtain rfl:=Option.some.inj H
       go_enter Tryd.func66,Tryd.ntmps66
       go_wp2
       go_ret
       exact ⟨by first|rfl|(simp;done)|(simp [*];done),by repeat (first|exact Drawn0.refl _|apply Drawn0.step)⟩
      ·rw [if_neg c7] at H
       have c7b0:(a0.toList == ([61]:List UInt8))=false:=beq_eq_false_iff_ne.mpr c7
       have c7b1:(a0.toList != ([61]:List UInt8))=true:=bne_iff_ne.mpr c7
       by_cases c8:a0.toList=([62]:List UInt8)
       ·rw [if_pos c8] at H
        have c8b0:(a0.toList == ([62]:List UInt8))=true:=beq_iff_eq.mpr c8
        have c8b1:(a0.toList != ([62]:List UInt8))=false:=bne_eq_false_iff_eq.mpr c8
        clear c8
        obtain rfl:=Option.some.inj H
        go_enter Tryd.func66,Tryd.ntmps66
        go_wp2
        go_ret
        exact ⟨by first|rfl|(simp;done)|(simp [*];done),by repeat (first|exact Drawn0.refl _|apply Drawn0.step)⟩
       ·rw [if_neg c8] at H
        have c8b0:(a0.toList == ([62]:List UInt8))=false:=beq_eq_false_iff_ne.mpr c8
        have c8b1:(a0.toList != ([62]:List UInt8))=true:=bne_iff_ne.mpr c8
        by_cases c9:a0.toList=([40]:List UInt8)
        ·rw [if_pos c9] at H
         have c9b0:(a0.toList == ([40]:List UInt8))=true:=beq_iff_eq.mpr c9
         have c9b1:(a0.toList != ([40]:List UInt8))=false:=bne_eq_false_iff_eq.mpr c9
         clear c9
         obtain rfl:=Option.some.inj H
         go_enter Tryd.func66,Tryd.ntmps66
         go_wp2
         go_ret
         exact ⟨by first|rfl|(simp;done)|(simp [*];done),by repeat (first|exact Drawn0.refl _|apply Drawn0.step)⟩
        ·rw [if_neg c9] at H
         have c9b0:(a0.toList == ([40]:List UInt8))=false:=beq_eq_false_iff_ne.mpr c9
         have c9b1:(a0.toList != ([40]:List UInt8))=true:=bne_iff_ne.mpr c9
         by_cases c10:a0.toList=([41]:List UInt8)
         ·rw [if_pos c10] at H
          have c10b0:(a0.toList == ([41]:List UInt8))=true:=beq_iff_eq.mpr c10
          have c10b1:(a0.toList != ([41]:List UInt8))=false:=bne_eq_false_iff_eq.mpr c10
          clear c10
          obtain rfl:=Option.some.inj H
          go_enter Tryd.func66,Tryd.ntmps66
          go_wp2
          go_ret
          exact ⟨by first|rfl|(simp;done)|(simp [*];done),by repeat (first|exact Drawn0.refl _|apply Drawn0.step)⟩
         ·rw [if_neg c10] at H
          have c10b0:(a0.toList == ([41]:List UInt8))=false:=beq_eq_false_iff_ne.mpr c10
          have c10b1:(a0.toList != ([41]:List UInt8))=true:=bne_iff_ne.mpr c10
          by_cases c11:a0.toList=([123]:List UInt8)
          ·rw [if_pos c11] at H
           have c11b0:(a0.toList == ([123]:List UInt8))=true:=beq_iff_eq.mpr c11
           have c11b1:(a0.toList != ([123]:List UInt8))=false:=bne_eq_false_iff_eq.mpr c11
           clear c11
           obtain rfl:=Option.some.inj H
           go_enter Tryd.func66,Tryd.ntmps66
           go_wp2
           go_ret
           exact ⟨by first|rfl|(simp;done)|(simp [*];done),by repeat (first|exact Drawn0.refl _|apply Drawn0.step)⟩
          ·rw [if_neg c11] at H
           have c11b0:(a0.toList == ([123]:List UInt8))=false:=beq_eq_false_iff_ne.mpr c11
           have c11b1:(a0.toList != ([123]:List UInt8))=true:=bne_iff_ne.mpr c11
           by_cases c12:a0.toList=([125]:List UInt8)
           ·rw [if_pos c12] at H
            have c12b0:(a0.toList == ([125]:List UInt8))=true:=beq_iff_eq.mpr c12
            have c12b1:(a0.toList != ([125]:List UInt8))=false:=bne_eq_false_iff_eq.mpr c12
            clear c12
            obtain rfl:=Option.some.inj H
            go_enter Tryd.func66,Tryd.ntmps66
            go_wp2
            go_ret
            exact ⟨by first|rfl|(simp;done)|(simp [*];done),by repeat (first|exact Drawn0.refl _|apply Drawn0.step)⟩
           ·rw [if_neg c12] at H
            have c12b0:(a0.toList == ([125]:List UInt8))=false:=beq_eq_false_iff_ne.mpr c12
            have c12b1:(a0.toList != ([125]:List UInt8))=true:=bne_iff_ne.mpr c12
            by_cases c13:a0.toList=([44]:List UInt8)
            ·rw [if_pos c13] at H
             have c13b0:(a0.toList == ([44]:List UInt8))=true:=beq_iff_eq.mpr c13
             have c13b1:(a0.toList != ([44]:List UInt8))=false:=bne_eq_false_iff_eq.mpr c13
             clear c13
             obtain rfl:=Option.some.inj H
             go_enter Tryd.func66,Tryd.ntmps66
             go_wp2
             go_ret
             exact ⟨by first|rfl|(simp;done)|(simp [*];done),by repeat (first|exact Drawn0.refl _|apply Drawn0.step)⟩
            ·rw [if_neg c13] at H
             have c13b0:(a0.toList == ([44]:List UInt8))=false:=beq_eq_false_iff_ne.mpr c13
             have c13b1:(a0.toList != ([44]:List UInt8))=true:=bne_iff_ne.mpr c13
             by_cases c14:a0.toList=([59]:List UInt8)
             ·rw [if_pos c14] at H
              have c14b0:(a0.toList == ([59]:List UInt8))=true:=beq_iff_eq.mpr c14
              have c14b1:(a0.toList != ([59]:List UInt8))=false:=bne_eq_false_iff_eq.mpr c14
              clear c14
              obtain rfl:=Option.some.inj H
              go_enter Tryd.func66,Tryd.ntmps66
              go_wp2
              go_ret
              exact ⟨by first|rfl|(simp;done)|(simp [*];done),by repeat (first|exact Drawn0.refl _|apply Drawn0.step)⟩
             ·rw [if_neg c14] at H
              have c14b0:(a0.toList == ([59]:List UInt8))=false:=beq_eq_false_iff_ne.mpr c14
              have c14b1:(a0.toList != ([59]:List UInt8))=true:=bne_iff_ne.mpr c14
              by_cases c15:a0.toList=([58]:List UInt8)
              ·rw [if_pos c15] at H
               have c15b0:(a0.toList == ([58]:List UInt8))=true:=beq_iff_eq.mpr c15
               have c15b1:(a0.toList != ([58]:List UInt8))=false:=bne_eq_false_iff_eq.mpr c15
               clear c15
               obtain rfl:=Option.some.inj H
               go_enter Tryd.func66,Tryd.ntmps66
               go_wp2
               go_ret
               exact ⟨by first|rfl|(simp;done)|(simp [*];done),by repeat (first|exact Drawn0.refl _|apply Drawn0.step)⟩
              ·rw [if_neg c15] at H
               have c15b0:(a0.toList == ([58]:List UInt8))=false:=beq_eq_false_iff_ne.mpr c15
               have c15b1:(a0.toList != ([58]:List UInt8))=true:=bne_iff_ne.mpr c15
               by_cases c16:a0.toList=([43]:List UInt8)
               ·rw [if_pos c16] at H
                have c16b0:(a0.toList == ([43]:List UInt8))=true:=beq_iff_eq.mpr c16
                have c16b1:(a0.toList != ([43]:List UInt8))=false:=bne_eq_false_iff_eq.mpr c16
                clear c16
                obtain rfl:=Option.some.inj H
                go_enter Tryd.func66,Tryd.ntmps66
                go_wp2
                go_ret
                exact ⟨by first|rfl|(simp;done)|(simp [*];done),by repeat (first|exact Drawn0.refl _|apply Drawn0.step)⟩
               ·rw [if_neg c16] at H
                have c16b0:(a0.toList == ([43]:List UInt8))=false:=beq_eq_false_iff_ne.mpr c16
                have c16b1:(a0.toList != ([43]:List UInt8))=true:=bne_iff_ne.mpr c16
                by_cases c17:a0.toList=([45]:List UInt8)
                ·rw [if_pos c17] at H
                 have c17b0:(a0.toList == ([45]:List UInt8))=true:=beq_iff_eq.mpr c17
                 have c17b1:(a0.toList != ([45]:List UInt8))=false:=bne_eq_false_iff_eq.mpr c17
                 clear c17
                 obtain rfl:=Option.some.inj H
                 go_enter Tryd.func66,Tryd.ntmps66
                 go_wp2
                 go_ret
                 exact ⟨by first|rfl|(simp;done)|(simp [*];done),by repeat (first|exact Drawn0.refl _|apply Drawn0.step)⟩
                ·rw [if_neg c17] at H
                 have c17b0:(a0.toList == ([45]:List UInt8))=false:=beq_eq_false_iff_ne.mpr c17
                 have c17b1:(a0.toList != ([45]:List UInt8))=true:=bne_iff_ne.mpr c17
                 by_cases c18:a0.toList=([42]:List UInt8)
                 ·rw [if_pos c18] at H
                  have c18b0:(a0.toList == ([42]:List UInt8))=true:=beq_iff_eq.mpr c18
                  have c18b1:(a0.toList != ([42]:List UInt8))=false:=bne_eq_false_iff_eq.mpr c18
                  clear c18
                  obtain rfl:=Option.some.inj H
                  go_enter Tryd.func66,Tryd.ntmps66
                  go_wp2
                  go_ret
                  exact ⟨by first|rfl|(simp;done)|(simp [*];done),by repeat (first|exact Drawn0.refl _|apply Drawn0.step)⟩
                 ·rw [if_neg c18] at H
                  have c18b0:(a0.toList == ([42]:List UInt8))=false:=beq_eq_false_iff_ne.mpr c18
                  have c18b1:(a0.toList != ([42]:List UInt8))=true:=bne_iff_ne.mpr c18
                  by_cases c19:a0.toList=([47]:List UInt8)
                  ·rw [if_pos c19] at H
                   have c19b0:(a0.toList == ([47]:List UInt8))=true:=beq_iff_eq.mpr c19
                   have c19b1:(a0.toList != ([47]:List UInt8))=false:=bne_eq_false_iff_eq.mpr c19
                   clear c19
                   obtain rfl:=Option.some.inj H
                   go_enter Tryd.func66,Tryd.ntmps66
                   go_wp2
                   go_ret
                   exact ⟨by first|rfl|(simp;done)|(simp [*];done),by repeat (first|exact Drawn0.refl _|apply Drawn0.step)⟩
                  ·rw [if_neg c19] at H
                   have c19b0:(a0.toList == ([47]:List UInt8))=false:=beq_eq_false_iff_ne.mpr c19
                   have c19b1:(a0.toList != ([47]:List UInt8))=true:=bne_iff_ne.mpr c19
                   by_cases c20:a0.toList=([64]:List UInt8)
                   ·rw [if_pos c20] at H
                    have c20b0:(a0.toList == ([64]:List UInt8))=true:=beq_iff_eq.mpr c20
                    have c20b1:(a0.toList != ([64]:List UInt8))=false:=bne_eq_false_iff_eq.mpr c20
                    clear c20
                    obtain rfl:=Option.some.inj H
                    go_enter Tryd.func66,Tryd.ntmps66
                    go_wp2
                    go_ret
                    exact ⟨by first|rfl|(simp;done)|(simp [*];done),by repeat (first|exact Drawn0.refl _|apply Drawn0.step)⟩
                   ·rw [if_neg c20] at H
                    have c20b0:(a0.toList == ([64]:List UInt8))=false:=beq_eq_false_iff_ne.mpr c20
                    have c20b1:(a0.toList != ([64]:List UInt8))=true:=bne_iff_ne.mpr c20
                    obtain rfl:=Option.some.inj H
                    go_enter Tryd.func66,Tryd.ntmps66
                    go_wp2
                    go_ret
                    exact ⟨by first|rfl|(simp;done)|(simp [*];done),by repeat (first|exact Drawn0.refl _|apply Drawn0.step)⟩
end Go.Proofs.YtehdmplngmbnnaaDoor.P
namespace Go.Proofs.YtehdmplngmbnnaaDoor.P
open Go.RowKit Go.Proofs.YtehdmplngmbnnaaDoorW.PrintWords Go.Proofs.YtehdmplngmbnnaaDoorW.PrintLast Go.Proofs.YtehdmplngmbnnaaDoorW.PrintMore
attribute [local go_sem] qbV qbW qcC qcD qbQ qbR qbX qbY
attribute [local go_sem] qbL
set_option linter.unusedVariables false
set_option linter.unusedSimpArgs false
mutual
def lexer_number.j0:Nat→ByteArray→Bool→Option (Int × ByteArray × Int × Int × Int)
 | 0,_,_=>none
 | k+1,x0,x13=>if x13=true then (some (0,(⟨#[]⟩:ByteArray),0,0,5)) else (lexer_number.l0 k x0 0 (x0.size:Int) 0)
def lexer_number.l0:Nat→ByteArray→Int→Int→Int→Option (Int × ByteArray × Int × Int × Int)
 | 0,_,_,_,_=>none
 | k+1,x0,x4,x16,x17=>if x17 < x16 then (if 0≤x17 then (if x17 < (x0.size:Int) then (if (wrap64 ((wrap64 (10 * x4))+(((bt x0 x17) - 48) % 256))) > 1099511627776 then (some (0,(⟨#[]⟩:ByteArray),0,0,9)) else (lexer_number.l0 k x0 (wrap64 ((wrap64 (10 * x4))+(((bt x0 x17) - 48) % 256))) x16 (wrap64 (x17+1)))) else (none)) else (none)) else (some (2,x0,x4,0,0))
end
def lexer_number.f (k:Nat) (a0:ByteArray):Option (Int × ByteArray × Int × Int × Int):=if (a0.size:Int) > 1 then (if 0 < (a0.size:Int) then (lexer_number.j0 k a0 ((bt a0 0) == 48)) else (none)) else (lexer_number.j0 k a0 false)
set_option maxHeartbeats 8000000 in
set_option maxRecDepth 100000 in
theorem lexer_number.calls (k:Nat) (a0:ByteArray) (r1:Int) (r2:ByteArray) (r3:Int) (r4:Int) (r5:Int) (w:World) (h:lexer_number.f k a0=some (r1,r2,r3,r4,r5)) :
  Calls Tryd.prog 64 #[.string a0] w fun e w'=>e=.returned (.tuple #[.agg #[.int .i64 r1,.string r2,.int .i64 r3,.int .i64 r4],.int .i64 r5])∧Below w.heap.size w w':=by
 have hu68:=Tryd.underlying68
 have HB:=Aside0.mk (Below.refl w.heap.size w)
 have H:(if (a0.size:Int) > 1 then (if 0 < (a0.size:Int) then (lexer_number.j0 k a0 ((bt a0 0) == 48)) else (none)) else (lexer_number.j0 k a0 false))=some (r1,r2,r3,r4,r5):=h
 clear h
 have HC2:=Aside0.mk H
 clear H
 go_enter Tryd.func64,Tryd.ntmps64
 go_upto_region 1 with (first|((with_reducible refine qbE (N:=2) rfl ?_);refine qbC ?hg (N:=2) ?hd (cs:=#[.int .i64 0,.string (⟨#[]⟩:ByteArray),.int .i64 0,.int .i64 0]) (t:=68) ?hr ?_;(case hd=>rfl);(case hg=>rfl);(case hr=>first|(go_simp;done)|(go_simp;rfl));intro gb101 hg w3 hbox hb;have n0_:=Aside0.mk (qaN (by repeat (first|(with_reducible first|exact HB.out|apply qaB|apply qaA|apply qaC)|exact HB.out)) hb);have n1_:=Aside0.mk (hbox);have n2_:=Aside0.mk ((by rw [hg];exact (qaK (by repeat (first|(with_reducible first|exact HB.out|apply qaB|apply qaA|apply qaC)|exact HB.out))):w.heap.size≤gb101));have n3_:=Aside0.mk ((by rw [hg];exact (qaK (by repeat (first|(with_reducible first|exact HB.out|apply qaB|apply qaA|apply qaC)|exact HB.out))):w.heap.size≤gb101));clear HB;have HB:=n0_;have BK101:=n1_;have GW101:=n2_;have GE101:=n3_;clear n0_ n1_ n2_ n3_;clear hb hbox hg))
 (try simp only [Act.put,List.setIfInBounds_toArray,List.set_cons_zero,List.set_cons_succ])
 go_cut [13] (fun v13 wc=>∃ (kq:Nat) (x13_1:Bool),v13=.bool x13_1∧Aside0 (lexer_number.j0 kq a0 x13_1=some (r1,r2,r3,r4,r5))∧Aside0 (kq≤k)∧Aside0 (wc.heap[gb101]?=some (.cells #[.int .i64 0,.string (⟨#[]⟩:ByteArray),.int .i64 0,.int .i64 0] 68 (0,0)))∧Aside0 (Below w.heap.size w wc))
 case first =>
  have H:=HC2.out
  clear HC2
  by_cases c4:(a0.size:Int) > 1
  ·rw [if_pos c4] at H
   have c4b0:decide (1 < (a0.size:Int))=true:=decide_eq_true c4
   have c4b1:decide (1 < a0.size)=true:=decide_eq_true (by omega)
   clear c4
   (first|rw [c4b0]|(simp only [qaX,qaY];rw [c4b0])|skip)
   by_cases c5:0 < (a0.size:Int)
   ·rw [if_pos c5] at H
    have c5b0:decide (0 < (a0.size:Int))=true:=decide_eq_true c5
    have c5b1:decide (0 < a0.size)=true:=decide_eq_true (by omega)
    clear c5
    have H':=Aside0.mk H
    clear H
    have p6:0≤(0:Int):=(by omega)
    have q6:0 < a0.size:=(by have:(0:Int) < (a0.size:Int):=of_decide_eq_true (by first|(with_reducible assumption)|assumption);omega)
    have hx6:∀ h:0 < a0.size,((a0[0]'h).toNat:Int)=bt a0 0:=qcI a0 0
    clear p6
    have qi6:(0 < (a0.size:Int))=True:=eq_true (of_decide_eq_true (by first|(with_reducible assumption)|assumption))
    replace q6:=eq_true q6
    go_wp2
    go_meet
    case rel=>exact ⟨_,(((bt a0 0) == 48)),(by first|rfl|(simp;done)|(simp [*];done)),H',⟨by first|omega|exact Nat.le_refl _⟩,⟨by (with_reducible repeat (first|refine qaH ?_ _|refine qaI ?_|refine qaG ?_ _));exact BK101.out⟩,⟨by repeat (first|(with_reducible first|exact HB.out|apply qaB|apply qaA|apply qaC|refine qaF ?_ GE101.out)|exact HB.out)⟩⟩
   ·rw [if_neg c5] at H
    exact absurd H (by simp)
  ·rw [if_neg c4] at H
   have c4b0:decide (1 < (a0.size:Int))=false:=decide_eq_false c4
   have c4b1:decide (1 < a0.size)=false:=decide_eq_false (by omega)
   clear c4
   (first|rw [c4b0]|(simp only [qaX,qaY];rw [c4b0])|skip)
   have H':=Aside0.mk H
   clear H
   go_wp2
   go_meet
   case rel=>exact ⟨_,(false),(by first|rfl|(simp;done)|(simp [*];done)),H',⟨by first|omega|exact Nat.le_refl _⟩,⟨by (with_reducible repeat (first|refine qaH ?_ _|refine qaI ?_|refine qaG ?_ _));exact BK101.out⟩,⟨by repeat (first|(with_reducible first|exact HB.out|apply qaB|apply qaA|apply qaC|refine qaF ?_ GE101.out)|exact HB.out)⟩⟩
 case rest =>
  clear HC2
  try clear p2
  try clear c4
  try clear c4b0
  try clear c4b1
  try clear c5
  try clear c5b0
  try clear c5b1
  try clear c6
  try clear p6
  try clear q6
  try clear hx6
  try clear qi6
  try clear p6
  try clear q6
  obtain ⟨kq,x13_1,rfl,HA,HJ1,BK101,HB⟩:=hcut
  cases kq with
  | zero=>exact absurd HA.out (by simp [lexer_number.j0])
  | succ kj1 =>
   have H:=HA.out
   clear HA
   simp only [lexer_number.j0] at H
   by_cases c7:x13_1=true
   ·subst c7
    have H1:(some (0,(⟨#[]⟩:ByteArray),0,0,5))=some (r1,r2,r3,r4,r5):=by rw [if_pos rfl] at H;exact H
    clear H
    have H:=H1
    clear H1
    simp only [Option.some.injEq,Prod.mk.injEq] at H
    obtain ⟨rfl,rfl,rfl,rfl,rfl⟩:=H
    have hcz8_0:wc.cell? ⟨gb101,0,none⟩=some (.int .i64 0):=(qaE BK101.out 0).trans rfl
    have hcz8_1:wc.cell? ⟨gb101,1,none⟩=some (.string (⟨#[]⟩:ByteArray)):=(qaE BK101.out 1).trans rfl
    have hcz8_2:wc.cell? ⟨gb101,2,none⟩=some (.int .i64 0):=(qaE BK101.out 2).trans rfl
    have hcz8_3:wc.cell? ⟨gb101,3,none⟩=some (.int .i64 0):=(qaE BK101.out 3).trans rfl
    have hfz8_0:=qaD BK101.out 0
    have hfz8_1:=qaD BK101.out 1
    have hfz8_2:=qaD BK101.out 2
    have hfz8_3:=qaD BK101.out 3
    go_wp2
    refine bodyPost_ret (qcF rfl _ _ gb101 68 #[.int .i64 0,.string (⟨#[]⟩:ByteArray),.int .i64 0,.int .i64 0] (0,0) _ rfl (by (with_reducible repeat (first|refine qaH ?_ _|refine qaI ?_|refine qaG ?_ _));refine qaR (cs:=#[.int .i64 0,.string (⟨#[]⟩:ByteArray),.int .i64 0,.int .i64 0]) ?_ 3 _ rfl;(with_reducible repeat (first|refine qaH ?_ _|refine qaI ?_|refine qaG ?_ _));refine qaR (cs:=#[.int .i64 0,.string (⟨#[]⟩:ByteArray),.int .i64 0,.int .i64 0]) ?_ 2 _ rfl;(with_reducible repeat (first|refine qaH ?_ _|refine qaI ?_|refine qaG ?_ _));refine qaR (cs:=#[.int .i64 0,.string (⟨#[]⟩:ByteArray),.int .i64 0,.int .i64 0]) ?_ 1 _ rfl;(with_reducible repeat (first|refine qaH ?_ _|refine qaI ?_|refine qaG ?_ _));refine qaR (cs:=#[.int .i64 0,.string (⟨#[]⟩:ByteArray),.int .i64 0,.int .i64 0]) ?_ 0 _ rfl;(with_reducible repeat (first|refine qaH ?_ _|refine qaI ?_|refine qaG ?_ _));exact BK101.out) Tryd.underlying68 rfl (by kernel_rfl)) rfl ?_
    exact ⟨by first|rfl|(simp [qaL,qaM]<;>rfl)|(simp [*,qaL,qaM]<;>rfl),by repeat (first|(with_reducible first|exact HB.out|apply qaB|apply qaA|apply qaC|refine qaF ?_ GE101.out)|exact HB.out)⟩
   ·replace c7:=Bool.eq_false_iff.mpr c7
    subst c7
    have H1:(lexer_number.l0 kj1 a0 0 (a0.size:Int) 0)=some (r1,r2,r3,r4,r5):=by rw [if_neg (show ¬ (false=true) by decide)] at H;exact H
    clear H
    have H:=H1
    clear H1
    have H':=Aside0.mk H
    clear H
    go_wp2
    go_loopg [4,17] kj1 (fun kq v4 v17 w'=>∃ (x4_2:Int) (x17_2:Int) (x102000_2:Int) (x102001_2:ByteArray) (x102002_2:Int) (x102003_2:Int),v4=.int .i64 x4_2∧v17=.int .i64 x17_2∧Aside0 (lexer_number.l0 kq a0 x4_2 (a0.size:Int) x17_2=some (r1,r2,r3,r4,r5))∧Aside0 (kq≤kj1)∧Aside0 (w'.heap[gb101]?=some (.cells #[.int .i64 x102000_2,.string x102001_2,.int .i64 x102002_2,.int .i64 x102003_2] 68 (0,0)))∧Aside0 (Below w.heap.size w w'))
    case atStart=>exact ⟨(0),(0),(0),((⟨#[]⟩:ByteArray)),(0),(0),(by first|rfl|(simp;done)|(simp [*];done)),(by first|rfl|(simp;done)|(simp [*];done)),H',⟨Nat.le_refl _⟩,⟨by (with_reducible repeat (first|refine qaH ?_ _|refine qaI ?_|refine qaG ?_ _));exact BK101.out⟩,⟨by repeat (first|(with_reducible first|exact HB.out|apply qaB|apply qaA|apply qaC|refine qaF ?_ GE101.out)|exact HB.out)⟩⟩
    case round =>
     clear H'
     try clear p2
     try clear c4
     try clear c4b0
     try clear c4b1
     try clear c5
     try clear c5b0
     try clear c5b1
     try clear c6
     try clear p6
     try clear q6
     try clear hx6
     try clear qi6
     try clear c7
     try clear hcz8_0
     try clear hcz8_1
     try clear hcz8_2
     try clear hcz8_3
     try clear hfz8_0
     try clear hfz8_1
     try clear hfz8_2
     try clear hfz8_3
     try clear p2
     try clear p6
     try clear q6
     obtain ⟨x4_2,x17_2,x102000_2,x102001_2,x102002_2,x102003_2,rfl,rfl,HA,HK2,BK101,HB⟩:=hrel
     cases gk with
     | zero=>exact absurd HA.out (by simp [lexer_number.l0])
     | succ k2 =>
      have H:=HA.out
      clear HA
      simp only [lexer_number.l0] at H
      by_cases c9:x17_2 < (a0.size:Int)
      ·rw [if_pos c9] at H
       have c9b0:decide (x17_2 < (a0.size:Int))=true:=decide_eq_true c9
       clear c9
       by_cases c10:0≤x17_2
       ·rw [if_pos c10] at H
        have c10b0:decide (0≤x17_2)=true:=decide_eq_true c10
        clear c10
        by_cases c11:x17_2 < (a0.size:Int)
        ·rw [if_pos c11] at H
         have c11b0:decide (x17_2 < (a0.size:Int))=true:=decide_eq_true c11
         clear c11
         by_cases c13:(wrap64 ((wrap64 (10 * x4_2))+(((bt a0 x17_2) - 48) % 256))) > 1099511627776
         ·rw [if_pos c13] at H
          have c13b0:decide (1099511627776 < (wrap64 ((wrap64 (10 * x4_2))+(((bt a0 x17_2) - 48) % 256))))=true:=decide_eq_true c13
          clear c13
          simp only [Option.some.injEq,Prod.mk.injEq] at H
          obtain ⟨rfl,rfl,rfl,rfl,rfl⟩:=H
          have p12:0≤(x17_2:Int):=of_decide_eq_true (by first|(with_reducible assumption)|assumption)
          have q12:x17_2 < (a0.size:Int):=of_decide_eq_true (by first|(with_reducible assumption)|assumption)
          have hx12:=qcI a0 x17_2
          replace p12:=eq_true p12
          replace q12:=eq_true q12
          have hcz14_0:wr.cell? ⟨gb101,0,none⟩=some (.int .i64 x102000_2):=(qaE BK101.out 0).trans rfl
          have hcz14_1:wr.cell? ⟨gb101,1,none⟩=some (.string x102001_2):=(qaE BK101.out 1).trans rfl
          have hcz14_2:wr.cell? ⟨gb101,2,none⟩=some (.int .i64 x102002_2):=(qaE BK101.out 2).trans rfl
          have hcz14_3:wr.cell? ⟨gb101,3,none⟩=some (.int .i64 x102003_2):=(qaE BK101.out 3).trans rfl
          have hfz14_0:=qaD BK101.out 0
          have hfz14_1:=qaD BK101.out 1
          have hfz14_2:=qaD BK101.out 2
          have hfz14_3:=qaD BK101.out 3
          go_wp2
          refine bodyPost_ret (qcF rfl _ _ gb101 68 #[.int .i64 0,.string (⟨#[]⟩:ByteArray),.int .i64 0,.int .i64 0] (0,0) _ rfl (by (with_reducible repeat (first|refine qaH ?_ _|refine qaI ?_|refine qaG ?_ _));refine qaR (cs:=#[.int .i64 0,.string (⟨#[]⟩:ByteArray),.int .i64 0,.int .i64 x102003_2]) ?_ 3 _ rfl;(with_reducible repeat (first|refine qaH ?_ _|refine qaI ?_|refine qaG ?_ _));refine qaR (cs:=#[.int .i64 0,.string (⟨#[]⟩:ByteArray),.int .i64 x102002_2,.int .i64 x102003_2]) ?_ 2 _ rfl;(with_reducible repeat (first|refine qaH ?_ _|refine qaI ?_|refine qaG ?_ _));refine qaR (cs:=#[.int .i64 0,.string x102001_2,.int .i64 x102002_2,.int .i64 x102003_2]) ?_ 1 _ rfl;(with_reducible repeat (first|refine qaH ?_ _|refine qaI ?_|refine qaG ?_ _));refine qaR (cs:=#[.int .i64 x102000_2,.string x102001_2,.int .i64 x102002_2,.int .i64 x102003_2]) ?_ 0 _ rfl;(with_reducible repeat (first|refine qaH ?_ _|refine qaI ?_|refine qaG ?_ _));exact BK101.out) Tryd.underlying68 rfl (by kernel_rfl)) rfl ?_
          exact ⟨by first|rfl|(simp [qaL,qaM]<;>rfl)|(simp [*,qaL,qaM]<;>rfl),by repeat (first|(with_reducible first|exact HB.out|apply qaB|apply qaA|apply qaC|refine qaF ?_ GE101.out)|exact HB.out)⟩
         ·rw [if_neg c13] at H
          have c13b0:decide (1099511627776 < (wrap64 ((wrap64 (10 * x4_2))+(((bt a0 x17_2) - 48) % 256))))=false:=decide_eq_false c13
          clear c13
          have H':=Aside0.mk H
          clear H
          have p12:0≤(x17_2:Int):=of_decide_eq_true (by first|(with_reducible assumption)|assumption)
          have q12:x17_2 < (a0.size:Int):=of_decide_eq_true (by first|(with_reducible assumption)|assumption)
          have hx12:=qcI a0 x17_2
          replace p12:=eq_true p12
          replace q12:=eq_true q12
          go_wp2
          go_roundg k2
          case measure=>have:=HJ1.out;have:=HK2.out;omega
          case rel=>exact ⟨(wrap64 ((wrap64 (10 * x4_2))+(((bt a0 x17_2) - 48) % 256))),(wrap64 (x17_2+1)),(x102000_2),(x102001_2),(x102002_2),(x102003_2),(by first|rfl|(simp;done)|(simp [*];done)),(by first|rfl|(simp;done)|(simp [*];done)),H',⟨by have:=HJ1.out;have:=HK2.out;omega⟩,⟨by (with_reducible repeat (first|refine qaH ?_ _|refine qaI ?_|refine qaG ?_ _));exact BK101.out⟩,⟨by repeat (first|(with_reducible first|exact HB.out|apply qaB|apply qaA|apply qaC|refine qaF ?_ GE101.out)|exact HB.out)⟩⟩
        ·rw [if_neg c11] at H
         exact absurd H (by simp)
       ·rw [if_neg c10] at H
        exact absurd H (by simp)
      ·rw [if_neg c9] at H
       have c9b0:decide (x17_2 < (a0.size:Int))=false:=decide_eq_false c9
       clear c9
       simp only [Option.some.injEq,Prod.mk.injEq] at H
       obtain ⟨rfl,rfl,rfl,rfl,rfl⟩:=H
       have hcz15_0:wr.cell? ⟨gb101,0,none⟩=some (.int .i64 x102000_2):=(qaE BK101.out 0).trans rfl
       have hcz15_1:wr.cell? ⟨gb101,1,none⟩=some (.string x102001_2):=(qaE BK101.out 1).trans rfl
       have hcz15_2:wr.cell? ⟨gb101,2,none⟩=some (.int .i64 x102002_2):=(qaE BK101.out 2).trans rfl
       have hcz15_3:wr.cell? ⟨gb101,3,none⟩=some (.int .i64 x102003_2):=(qaE BK101.out 3).trans rfl
       have hfz15_0:=qaD BK101.out 0
       have hfz15_1:=qaD BK101.out 1
       have hfz15_2:=qaD BK101.out 2
       have hfz15_3:=qaD BK101.out 3
       go_wp2
       refine bodyPost_ret (qcF rfl _ _ gb101 68 #[.int .i64 2,.string a0,.int .i64 x4_2,.int .i64 0] (0,0) _ rfl (by (with_reducible repeat (first|refine qaH ?_ _|refine qaI ?_|refine qaG ?_ _));refine qaR (cs:=#[.int .i64 2,.string a0,.int .i64 x4_2,.int .i64 x102003_2]) ?_ 3 _ rfl;(with_reducible repeat (first|refine qaH ?_ _|refine qaI ?_|refine qaG ?_ _));refine qaR (cs:=#[.int .i64 2,.string a0,.int .i64 x102002_2,.int .i64 x102003_2]) ?_ 2 _ rfl;(with_reducible repeat (first|refine qaH ?_ _|refine qaI ?_|refine qaG ?_ _));refine qaR (cs:=#[.int .i64 2,.string x102001_2,.int .i64 x102002_2,.int .i64 x102003_2]) ?_ 1 _ rfl;(with_reducible repeat (first|refine qaH ?_ _|refine qaI ?_|refine qaG ?_ _));refine qaR (cs:=#[.int .i64 x102000_2,.string x102001_2,.int .i64 x102002_2,.int .i64 x102003_2]) ?_ 0 _ rfl;(with_reducible repeat (first|refine qaH ?_ _|refine qaI ?_|refine qaG ?_ _));exact BK101.out) Tryd.underlying68 rfl (by kernel_rfl)) rfl ?_
       exact ⟨by first|rfl|(simp [qaL,qaM]<;>rfl)|(simp [*,qaL,qaM]<;>rfl),by repeat (first|(with_reducible first|exact HB.out|apply qaB|apply qaA|apply qaC|refine qaF ?_ GE101.out)|exact HB.out)⟩
end Go.Proofs.YtehdmplngmbnnaaDoor.P
