/-
  DERIVED: THE SHELF's CONTRACTS AT THIS DUMP, IN PLAIN WORDS (tools/lay-plain.mjs out of 'TryzShelf2.lean', which tools/lay-shelf.mjs wrote): THE SAME DECLARATIONS UNDER THE SAME NAMES: 'import', 'namespace', 'open', 'def', 'theorem' AND NOTHING ELSE: no command of the shelf's: FOR A HAND-IN. Each laying: the table of numbers ('.._ren') and one theorem, a field a fact of the dump's own or the kernel's comparison; each contract: ONE APPLICATION.
-/
import Derived.Shelf.Strings.Builder1
import Derived.Shelf.Strings.Builder2
import Derived.Shelf.Strings.OnBuilder
import Derived.Shelf.Small.Bits
import Derived.Shelf.Strconv.Itoa0
import Derived.Shelf.Strconv.Itoa1
import Derived.Shelf.LaysM
import Derived.Shelf.Strconv.Itoa2
import Derived.Shelf.Strconv.Itoa3
import Derived.Ground.Names2Prog
import Derived.Shelf.Slices.Clone
import Derived.Shelf.Slices.CompactI
import Derived.Shelf.Slices.SearchI
import Derived.Shelf.Slices.Cells
import Derived.Ground.SlgnProg
import Derived.Shelf.SlicesE.Clone
import Derived.Test.YtmeibjhimcgplaaGreatDoorProg
set_option linter.all false
namespace Go.Proofs
open Go.Shelf
def Tryz.lays156_ren : Go.Shelf.Ren := ⟨fun | 156 => 291 | 165 => 367 | 166 => 368 | 169 => 369 | 240 => 429 | 241 => 430 | 276 => 458 | 277 => 459 | n => n, fun | 31 => 324 | 9 => 9 | 3 => 3 | 4 => 4 | 0 => 0 | 20 => 20 | 72 => 398 | 76 => 401 | 70 => 395 | 37 => 396 | 75 => 400 | 127 => 443 | 164 => 462 | 5 => 5 | 80 => 403 | n => n, fun | n => n⟩
theorem Tryz.lays156 : Go.Proofs.Lays.n156 Tryz.prog Tryz.lays156_ren := {
  mixed := by kernel_rfl
  f156 := Tryz.func291.trans (congrArg some (by kernel_rfl))
  f165 := Tryz.func367.trans (congrArg some (by kernel_rfl))
  f166 := Tryz.func368.trans (congrArg some (by kernel_rfl))
  f169 := Tryz.func369.trans (congrArg some (by kernel_rfl))
  f240 := Tryz.func429.trans (congrArg some (by kernel_rfl))
  f241 := Tryz.func430.trans (congrArg some (by kernel_rfl))
  f276 := Tryz.func458.trans (congrArg some (by kernel_rfl))
  f277 := Tryz.func459.trans (congrArg some (by kernel_rfl))
  t0 := Tryz.underlying0
  a0 := Tryz.isAgg0
  z0 := Tryz.sizeOf0
  v0 := Tryz.zeroValue0
  t3 := Tryz.underlying3
  a3 := Tryz.isAgg3
  z3 := Tryz.sizeOf3
  v3 := Tryz.zeroValue3
  t4 := Tryz.underlying4
  a4 := Tryz.isAgg4
  z4 := Tryz.sizeOf4
  v4 := Tryz.zeroValue4
  t9 := Tryz.underlying9
  a9 := Tryz.isAgg9
  z9 := Tryz.sizeOf9
  v9 := Tryz.zeroValue9
  t20 := Tryz.underlying20
  a20 := Tryz.isAgg20
  z20 := Tryz.sizeOf20
  v20 := Tryz.zeroValue20
  t31 := Tryz.underlying324
  a31 := Tryz.isAgg324
  z31 := Tryz.sizeOf324
  v31 := Tryz.zeroValue324
  t37 := Tryz.underlying396
  a37 := Tryz.isAgg396
  z37 := Tryz.sizeOf396
  v37 := Tryz.zeroValue396
  t70 := Tryz.underlying395
  a70 := Tryz.isAgg395
  z70 := Tryz.sizeOf395
  v70 := Tryz.zeroValue395
  t72 := Tryz.underlying398
  a72 := Tryz.isAgg398
  z72 := Tryz.sizeOf398
  v72 := Tryz.zeroValue398
  t75 := Tryz.underlying400
  a75 := Tryz.isAgg400
  z75 := Tryz.sizeOf400
  v75 := Tryz.zeroValue400
  t76 := Tryz.underlying401
  a76 := Tryz.isAgg401
  z76 := Tryz.sizeOf401
  v76 := Tryz.zeroValue401
  t127 := Tryz.underlying443
  a127 := Tryz.isAgg443
  z127 := Tryz.sizeOf443
  v127 := Tryz.zeroValue443
  t164 := Tryz.underlying462
  a164 := Tryz.isAgg462
  z164 := Tryz.sizeOf462
  v164 := Tryz.zeroValue462 }
theorem Tryz.Builder_Extra_156 : Builder.Extra Tryz.prog Tryz.lays156_ren := {
  sizeBuilder := by kernel_rfl
  liesBuilder := by kernel_rfl
  t5 := Tryz.underlying5
  a5 := Tryz.isAgg5
  z5 := Tryz.sizeOf5
  v5 := Tryz.zeroValue5
  infoByte := by kernel_rfl
  cellsByte := by kernel_rfl
  sizeByte := by kernel_rfl
  neB5 := by decide }
open Go.RowKit in
/-- No element: the empty string; the world is as it was. (Whatever the slice's address and capacity: a nil slice too.) (LAID: no walk: one application.) -/
theorem Tryz.strings_Join_none (a : Option Addr) (c : Nat) (sep : ByteArray) (w : World) :
    Calls Tryz.prog 291 #[.slice a 0 c, .string sep] w fun e w' => e = .returned (.string ⟨#[]⟩) ∧ w' = w := Any.strings_Join_none Tryz.lays156 Tryz.Builder_Extra_156 a c sep w
open Go.RowKit in
/-- strings.Join: "Join concatenates the elements of its first argument to create a single string. The separator string sep is placed between elements in the resulting string.": HOWEVER MANY ELEMENTS. Below the heap's end the world is as it was. (LAID: no walk: one application.) -/
theorem Tryz.strings_Join (bk o c : Nat) (xs : List ByteArray) (sep : ByteArray) (w : World) (hcells : ∀ (j : Nat) x, xs[j]? = some x → w.cell? ⟨bk, o + j, none⟩ = some (.string x)) (hbk : bk < w.heap.size) (hN : xs.length ≤ 140737488355328) (hcap : xs.length ≤ c) (hlen : (Lib.join (xs.map (·.data.toList)) sep.data.toList).length ≤ 140737488355328) :
    Calls Tryz.prog 291 #[.slice (some ⟨bk, o, none⟩) xs.length c, .string sep] w fun e w' => e = .returned (.string ⟨(Lib.join (xs.map (·.data.toList)) sep.data.toList).toArray⟩) ∧ Below w.heap.size w w' := Any.strings_Join Tryz.lays156 Tryz.Builder_Extra_156 bk o c xs sep w hcells hbk hN hcap hlen
def Tryz.lays135_ren : Go.Shelf.Ren := ⟨fun | 135 => 465 | n => n, fun | 5 => 5 | 3 => 3 | 9 => 9 | n => n, fun | n => n⟩
theorem Tryz.lays135 : Go.Proofs.Lays.n135 Tryz.prog Tryz.lays135_ren := {
  mixed := by kernel_rfl
  f135 := Tryz.func465.trans (congrArg some (by kernel_rfl))
  t3 := Tryz.underlying3
  a3 := Tryz.isAgg3
  z3 := Tryz.sizeOf3
  v3 := Tryz.zeroValue3
  t5 := Tryz.underlying5
  a5 := Tryz.isAgg5
  z5 := Tryz.sizeOf5
  v5 := Tryz.zeroValue5
  t9 := Tryz.underlying9
  a9 := Tryz.isAgg9
  z9 := Tryz.sizeOf9
  v9 := Tryz.zeroValue9 }
/-- bits.OnesCount8: "OnesCount8 returns the number of one bits ("population count") in x.": IT RETURNS 'Lib.onesCount x'; the world is as it was. ('h0', 'h1': x is a uint8.) (LAID: no walk: one application.) -/
theorem Tryz.bits_OnesCount8 (x : Int) (w : World) (h0 : 0 ≤ x) (h1 : x ≤ 255) :
    Calls Tryz.prog 465 #[.int .u8 x] w fun e w' => e = .returned (.int .i64 (Lib.onesCount x.toNat)) ∧ w' = w := Any.bits_OnesCount8 Tryz.lays135 x w h0 h1
def Tryz.laysM171_ren : Go.Shelf.Ren := ⟨fun | 171 => 290 | 243 => 366 | 246 => 428 | 283 => 454 | 284 => 455 | 285 => 456 | 286 => 457 | 129 => 379 | 317 => 481 | 318 => 482 | 319 => 483 | 320 => 484 | 337 => 491 | 338 => 492 | n => n, fun | 3 => 3 | 9 => 9 | 2 => 2 | 4 => 4 | 171 => 458 | 0 => 0 | 53 => 353 | 37 => 396 | 5 => 5 | 173 => 460 | 212 => 481 | 51 => 124 | 20 => 20 | 213 => 482 | 46 => 278 | 232 => 490 | 233 => 491 | n => n, fun | 17 => 0 | 18 => 2 | 19 => 3 | n => n⟩
theorem Tryz.laysM171 : Go.Proofs.LaysM.n171 Tryz.prog Tryz.laysM171_ren := {
  mixed := by kernel_rfl
  f129 := Tryz.func379.trans (congrArg some (by kernel_rfl))
  f171 := Tryz.func290.trans (congrArg some (by kernel_rfl))
  f243 := Tryz.func366.trans (congrArg some (by kernel_rfl))
  f246 := Tryz.func428.trans (congrArg some (by kernel_rfl))
  f283 := Tryz.func454.trans (congrArg some (by kernel_rfl))
  f284 := Tryz.func455.trans (congrArg some (by kernel_rfl))
  f285 := Tryz.func456.trans (congrArg some (by kernel_rfl))
  f286 := Tryz.func457.trans (congrArg some (by kernel_rfl))
  f317 := Tryz.func481.trans (congrArg some (by kernel_rfl))
  f318 := Tryz.func482.trans (congrArg some (by kernel_rfl))
  f319 := Tryz.func483.trans (congrArg some (by kernel_rfl))
  f320 := Tryz.func484.trans (congrArg some (by kernel_rfl))
  f337 := Tryz.func491.trans (congrArg some (by kernel_rfl))
  f338 := Tryz.func492.trans (congrArg some (by kernel_rfl))
  t0 := Tryz.underlying0
  a0 := Tryz.isAgg0
  z0 := Tryz.sizeOf0
  v0 := Tryz.zeroValue0
  t2 := Tryz.underlying2
  a2 := Tryz.isAgg2
  z2 := Tryz.sizeOf2
  v2 := Tryz.zeroValue2
  t3 := Tryz.underlying3
  a3 := Tryz.isAgg3
  z3 := Tryz.sizeOf3
  v3 := Tryz.zeroValue3
  t4 := Tryz.underlying4
  a4 := Tryz.isAgg4
  z4 := Tryz.sizeOf4
  v4 := Tryz.zeroValue4
  t5 := Tryz.underlying5
  a5 := Tryz.isAgg5
  z5 := Tryz.sizeOf5
  v5 := Tryz.zeroValue5
  t9 := Tryz.underlying9
  a9 := Tryz.isAgg9
  z9 := Tryz.sizeOf9
  v9 := Tryz.zeroValue9
  t20 := Tryz.underlying20
  a20 := Tryz.isAgg20
  z20 := Tryz.sizeOf20
  v20 := Tryz.zeroValue20
  t37 := Tryz.underlying396
  a37 := Tryz.isAgg396
  z37 := Tryz.sizeOf396
  v37 := Tryz.zeroValue396
  t46 := Tryz.underlying278
  a46 := Tryz.isAgg278
  z46 := Tryz.sizeOf278
  v46 := Tryz.zeroValue278
  t51 := Tryz.underlying124
  a51 := Tryz.isAgg124
  z51 := Tryz.sizeOf124
  v51 := Tryz.zeroValue124
  t53 := Tryz.underlying353
  a53 := Tryz.isAgg353
  z53 := Tryz.sizeOf353
  v53 := Tryz.zeroValue353
  t171 := Tryz.underlying458
  a171 := Tryz.isAgg458
  z171 := Tryz.sizeOf458
  v171 := Tryz.zeroValue458
  t173 := Tryz.underlying460
  a173 := Tryz.isAgg460
  z173 := Tryz.sizeOf460
  v173 := Tryz.zeroValue460
  t212 := Tryz.underlying481
  a212 := Tryz.isAgg481
  z212 := Tryz.sizeOf481
  v212 := Tryz.zeroValue481
  t213 := Tryz.underlying482
  a213 := Tryz.isAgg482
  z213 := Tryz.sizeOf482
  t232 := Tryz.underlying490
  a232 := Tryz.isAgg490
  z232 := Tryz.sizeOf490
  v232 := Tryz.zeroValue490
  t233 := Tryz.underlying491
  a233 := Tryz.isAgg491
  z233 := Tryz.sizeOf491
  v233 := Tryz.zeroValue491
  g17 := by kernel_rfl
  g18 := by kernel_rfl
  g19 := by kernel_rfl
  i0 := by kernel_rfl
  i2 := by kernel_rfl
  i3 := by kernel_rfl
  i4 := by kernel_rfl
  i5 := by kernel_rfl
  i9 := by kernel_rfl
  i20 := by kernel_rfl
  i37 := by kernel_rfl
  i46 := by kernel_rfl
  i51 := by kernel_rfl
  i53 := by kernel_rfl
  i171 := by kernel_rfl
  i173 := by kernel_rfl
  i212 := by kernel_rfl
  i232 := by kernel_rfl
  i233 := by kernel_rfl
  m17 := by kernel_rfl
  m18 := by kernel_rfl
  m19 := by kernel_rfl }
open Go.RowKit Go.Sort Go.Lib in
/-- strconv.Itoa: "Itoa is equivalent to FormatInt(int64(i), 10).": i's DECIMAL NUMERAL ('Lib.itoa': a '-' where i is negative, then the digits), FOR EVERY int. The world behind the call: the world before it, new blocks behind the heap (the library's 'var a [24]byte'), draws. (LAID: no walk: one application.) -/
theorem Tryz.strconv_Itoa (n : Int) (h0 : -9223372036854775808 ≤ n) (h1 : n ≤ 9223372036854775807) (w : World) (htab : Lib.TabIs Tryz.prog w "internal/strconv.uint64pow10" .u64 Lib.pow10Tab) :
    Calls Tryz.prog 290 #[.int .i64 n] w fun e w' => e = .returned (.string ⟨(Lib.itoa n).toArray⟩) ∧ ∃ k os, w' = grow (w.drewN k) os := Any.strconv_Itoa Tryz.laysM171 n h0 h1 w htab
end Go.Proofs
