/- What a law's walk and its plain proof need, part 5: no condition of its own. -/
import Derived.Shelf.Strings.OnBuilder
import Derived.Shelf.Small.Strs
import Derived.Shelf.Small.Wraps
import Derived.Shelf.Strings.Search2
import Derived.Shelf.Strings.Search3
import Derived.Shelf.Strings.Prefix
import Derived.Ground.Names2Prog
import Derived.Shelf.Slices.Clone
import Derived.Test.YtnpknmmlpjnpeaaDoorProg
import Derived.Test.YtnpknmmlpjnpeaaDoorAmC
import Derived.Test.YtnpknmmlpjnpeaaDoorAmD
set_option linter.unusedSimpArgs false
set_option linter.unusedVariables false
set_option linter.unusedSectionVars false
namespace Go.Proofs
open Go.Shelf
def Tryd.lays156_ren : Go.Shelf.Ren := ⟨fun | 156 => 45 | 165 => 70 | 166 => 71 | 169 => 72 | 240 => 85 | 241 => 86 | 276 => 93 | 277 => 94 | n => n, fun | 31 => 22 | 9 => 9 | 3 => 3 | 4 => 4 | 0 => 0 | 20 => 20 | 72 => 104 | 76 => 108 | 70 => 102 | 37 => 42 | 75 => 107 | 127 => 116 | 164 => 120 | 5 => 5 | 80 => 110 | n => n, fun | n => n⟩
theorem Tryd.lays156 : Go.Proofs.Lays.n156 Tryd.prog Tryd.lays156_ren := {
  mixed := by kernel_rfl
  f156 := Tryd.func45.trans (congrArg some (by kernel_rfl))
  f165 := Tryd.func70.trans (congrArg some (by kernel_rfl))
  f166 := Tryd.func71.trans (congrArg some (by kernel_rfl))
  f169 := Tryd.func72.trans (congrArg some (by kernel_rfl))
  f240 := Tryd.func85.trans (congrArg some (by kernel_rfl))
  f241 := Tryd.func86.trans (congrArg some (by kernel_rfl))
  f276 := Tryd.func93.trans (congrArg some (by kernel_rfl))
  f277 := Tryd.func94.trans (congrArg some (by kernel_rfl))
  t0 := Tryd.underlying0
  a0 := Tryd.isAgg0
  z0 := Tryd.sizeOf0
  v0 := Tryd.zeroValue0
  t3 := Tryd.underlying3
  a3 := Tryd.isAgg3
  z3 := Tryd.sizeOf3
  v3 := Tryd.zeroValue3
  t4 := Tryd.underlying4
  a4 := Tryd.isAgg4
  z4 := Tryd.sizeOf4
  v4 := Tryd.zeroValue4
  t9 := Tryd.underlying9
  a9 := Tryd.isAgg9
  z9 := Tryd.sizeOf9
  v9 := Tryd.zeroValue9
  t20 := Tryd.underlying20
  a20 := Tryd.isAgg20
  z20 := Tryd.sizeOf20
  v20 := Tryd.zeroValue20
  t31 := Tryd.underlying22
  a31 := Tryd.isAgg22
  z31 := Tryd.sizeOf22
  v31 := Tryd.zeroValue22
  t37 := Tryd.underlying42
  a37 := Tryd.isAgg42
  z37 := Tryd.sizeOf42
  v37 := Tryd.zeroValue42
  t70 := Tryd.underlying102
  a70 := Tryd.isAgg102
  z70 := Tryd.sizeOf102
  v70 := Tryd.zeroValue102
  t72 := Tryd.underlying104
  a72 := Tryd.isAgg104
  z72 := Tryd.sizeOf104
  v72 := Tryd.zeroValue104
  t75 := Tryd.underlying107
  a75 := Tryd.isAgg107
  z75 := Tryd.sizeOf107
  v75 := Tryd.zeroValue107
  t76 := Tryd.underlying108
  a76 := Tryd.isAgg108
  z76 := Tryd.sizeOf108
  v76 := Tryd.zeroValue108
  t127 := Tryd.underlying116
  a127 := Tryd.isAgg116
  z127 := Tryd.sizeOf116
  v127 := Tryd.zeroValue116
  t164 := Tryd.underlying120
  a164 := Tryd.isAgg120
  z164 := Tryd.sizeOf120
  v164 := Tryd.zeroValue120 }
theorem Tryd.Builder_Extra_156 : Builder.Extra Tryd.prog Tryd.lays156_ren := {
  sizeBuilder := by kernel_rfl
  liesBuilder := by kernel_rfl
  t5 := Tryd.underlying5
  a5 := Tryd.isAgg5
  z5 := Tryd.sizeOf5
  v5 := Tryd.zeroValue5
  infoByte := by kernel_rfl
  cellsByte := by kernel_rfl
  sizeByte := by kernel_rfl
  neB5 := by decide }
open Go.RowKit in
theorem Tryd.strings_Join_none (a : Option Addr) (c : Nat) (sep : ByteArray) (w : World) :
    Calls Tryd.prog 45 #[.slice a 0 c, .string sep] w fun e w' => e = .returned (.string ⟨#[]⟩) ∧ w' = w := Any.strings_Join_none Tryd.lays156 Tryd.Builder_Extra_156 a c sep w
open Go.RowKit in
theorem Tryd.strings_Join (bk o c : Nat) (xs : List ByteArray) (sep : ByteArray) (w : World) (hcells : ∀ (j : Nat) x, xs[j]? = some x → w.cell? ⟨bk, o + j, none⟩ = some (.string x)) (hbk : bk < w.heap.size) (hN : xs.length ≤ 140737488355328) (hcap : xs.length ≤ c) (hlen : (Lib.join (xs.map (·.data.toList)) sep.data.toList).length ≤ 140737488355328) :
    Calls Tryd.prog 45 #[.slice (some ⟨bk, o, none⟩) xs.length c, .string sep] w fun e w' => e = .returned (.string ⟨(Lib.join (xs.map (·.data.toList)) sep.data.toList).toArray⟩) ∧ Below w.heap.size w w' := Any.strings_Join Tryd.lays156 Tryd.Builder_Extra_156 bk o c xs sep w hcells hbk hN hcap hlen
def Tryd.lays137_ren : Go.Shelf.Ren := ⟨fun | 137 => 60 | 217 => 79 | 266 => 89 | n => n, fun | 9 => 9 | 5 => 5 | 3 => 3 | n => n, fun | n => n⟩
theorem Tryd.lays137 : Go.Proofs.Lays.n137 Tryd.prog Tryd.lays137_ren := {
  mixed := by kernel_rfl
  f137 := Tryd.func60.trans (congrArg some (by kernel_rfl))
  f217 := Tryd.func79.trans (congrArg some (by kernel_rfl))
  f266 := Tryd.func89.trans (congrArg some (by kernel_rfl))
  t3 := Tryd.underlying3
  a3 := Tryd.isAgg3
  z3 := Tryd.sizeOf3
  v3 := Tryd.zeroValue3
  t5 := Tryd.underlying5
  a5 := Tryd.isAgg5
  z5 := Tryd.sizeOf5
  v5 := Tryd.zeroValue5
  t9 := Tryd.underlying9
  a9 := Tryd.isAgg9
  z9 := Tryd.sizeOf9
  v9 := Tryd.zeroValue9 }
open Go.RowKit in
theorem Tryd.strings_IndexByte (s : ByteArray) (c : Int) (w : World) :
    Calls Tryd.prog 60 #[.string s, .int .u8 c] w fun e w' => e = .returned (.int .i64 (Lib.indexByte s.data.toList c.toNat.toUInt8)) ∧ w' = w := Any.strings_IndexByte Tryd.lays137 s c w
def Tryd.lays210_ren : Go.Shelf.Ren := ⟨fun | 210 => 75 | 206 => 61 | n => n, fun | 9 => 9 | 4 => 4 | 3 => 3 | n => n, fun | n => n⟩
theorem Tryd.lays210 : Go.Proofs.Lays.n210 Tryd.prog Tryd.lays210_ren := {
  mixed := by kernel_rfl
  f206 := Tryd.func61.trans (congrArg some (by kernel_rfl))
  f210 := Tryd.func75.trans (congrArg some (by kernel_rfl))
  t3 := Tryd.underlying3
  a3 := Tryd.isAgg3
  z3 := Tryd.sizeOf3
  v3 := Tryd.zeroValue3
  t4 := Tryd.underlying4
  a4 := Tryd.isAgg4
  z4 := Tryd.sizeOf4
  v4 := Tryd.zeroValue4
  t9 := Tryd.underlying9
  a9 := Tryd.isAgg9
  z9 := Tryd.sizeOf9
  v9 := Tryd.zeroValue9 }
open Go.RowKit in
theorem Tryd.stringslite_CutPrefix (s p : ByteArray) (w : World) :
    Calls Tryd.prog 75 #[.string s, .string p] w fun e w' => e = .returned (.tuple #[.string ⟨(Lib.trimPrefix s.data.toList p.data.toList).toArray⟩, .bool (Lib.hasPrefix s.data.toList p.data.toList)]) ∧ w' = w := Any.stringslite_CutPrefix Tryd.lays210 s p w
def Tryd.lays103_ren : Go.Shelf.Ren := ⟨fun | 103 => 50 | 210 => 75 | 206 => 61 | n => n, fun | 9 => 9 | 4 => 4 | 24 => 53 | 3 => 3 | n => n, fun | n => n⟩
theorem Tryd.lays103 : Go.Proofs.Lays.n103 Tryd.prog Tryd.lays103_ren := {
  mixed := by kernel_rfl
  f103 := Tryd.func50.trans (congrArg some (by kernel_rfl))
  f206 := Tryd.func61.trans (congrArg some (by kernel_rfl))
  f210 := Tryd.func75.trans (congrArg some (by kernel_rfl))
  t3 := Tryd.underlying3
  a3 := Tryd.isAgg3
  z3 := Tryd.sizeOf3
  v3 := Tryd.zeroValue3
  t4 := Tryd.underlying4
  a4 := Tryd.isAgg4
  z4 := Tryd.sizeOf4
  v4 := Tryd.zeroValue4
  t9 := Tryd.underlying9
  a9 := Tryd.isAgg9
  z9 := Tryd.sizeOf9
  v9 := Tryd.zeroValue9
  t24 := Tryd.underlying53
  a24 := Tryd.isAgg53
  z24 := Tryd.sizeOf53
  v24 := Tryd.zeroValue53 }
open Go.RowKit in
theorem Tryd.strings_CutPrefix (s p : ByteArray) (w : World) :
    Calls Tryd.prog 50 #[.string s, .string p] w fun e w' => e = .returned (.tuple #[.string ⟨(Lib.trimPrefix s.data.toList p.data.toList).toArray⟩, .bool (Lib.hasPrefix s.data.toList p.data.toList)]) ∧ w' = w := Any.strings_CutPrefix Tryd.lays103 s p w
def Tryd.lays219_ren : Go.Shelf.Ren := ⟨fun | 219 => 92 | 217 => 79 | 225 => 96 | 224 => 97 | 267 => 98 | 266 => 89 | 314 => 99 | n => n, fun | 9 => 9 | 3 => 3 | 4 => 4 | 5 => 5 | 46 => 124 | 146 => 129 | 51 => 29 | n => n, fun | 1 => 0 | n => n⟩
theorem Tryd.lays219 : Go.Proofs.Lays.n219 Tryd.prog Tryd.lays219_ren := {
  mixed := by kernel_rfl
  f217 := Tryd.func79.trans (congrArg some (by kernel_rfl))
  f219 := Tryd.func92.trans (congrArg some (by kernel_rfl))
  f224 := Tryd.func97.trans (congrArg some (by kernel_rfl))
  f225 := Tryd.func96.trans (congrArg some (by kernel_rfl))
  f266 := Tryd.func89.trans (congrArg some (by kernel_rfl))
  f267 := Tryd.func98.trans (congrArg some (by kernel_rfl))
  f314 := Tryd.func99.trans (congrArg some (by kernel_rfl))
  t3 := Tryd.underlying3
  a3 := Tryd.isAgg3
  z3 := Tryd.sizeOf3
  v3 := Tryd.zeroValue3
  t4 := Tryd.underlying4
  a4 := Tryd.isAgg4
  z4 := Tryd.sizeOf4
  v4 := Tryd.zeroValue4
  t5 := Tryd.underlying5
  a5 := Tryd.isAgg5
  z5 := Tryd.sizeOf5
  v5 := Tryd.zeroValue5
  t9 := Tryd.underlying9
  a9 := Tryd.isAgg9
  z9 := Tryd.sizeOf9
  v9 := Tryd.zeroValue9
  t46 := Tryd.underlying124
  a46 := Tryd.isAgg124
  z46 := Tryd.sizeOf124
  v46 := Tryd.zeroValue124
  t51 := Tryd.underlying29
  a51 := Tryd.isAgg29
  z51 := Tryd.sizeOf29
  v51 := Tryd.zeroValue29
  t146 := Tryd.underlying129
  a146 := Tryd.isAgg129
  z146 := Tryd.sizeOf129
  v146 := Tryd.zeroValue129
  g1 := by kernel_rfl }
open Go.RowKit Go.Lib in
theorem Tryd.stringslite_Index_one (s : ByteArray) (c : UInt8) (w : World) :
    Calls Tryd.prog 92 #[.string s, .string ⟨#[c]⟩] w fun e w' => e = .returned (.int .i64 (Lib.indexByte s.data.toList c)) ∧ w' = w := Any.stringslite_Index_one Tryd.lays219 s c w
open Go.RowKit Go.Lib in
theorem Tryd.stringslite_Index (s sub : ByteArray) (m : Int) (w : World) (hs : s.size < 4294967281) (hm : w.cell? ⟨0, 0, none⟩ = some (.int .i64 m)) :
    Calls Tryd.prog 92 #[.string s, .string sub] w fun e w' => e = .returned (.int .i64 (Lib.index s.data.toList sub.data.toList)) ∧ w' = w := Any.stringslite_Index Tryd.lays219 s sub m w hs hm
def Tryd.lays143_ren : Go.Shelf.Ren := ⟨fun | 143 => 84 | 219 => 92 | 217 => 79 | 225 => 96 | 224 => 97 | 267 => 98 | 266 => 89 | 314 => 99 | n => n, fun | 9 => 9 | 3 => 3 | 4 => 4 | 5 => 5 | 46 => 124 | 146 => 129 | 51 => 29 | n => n, fun | 1 => 0 | n => n⟩
theorem Tryd.lays143 : Go.Proofs.Lays.n143 Tryd.prog Tryd.lays143_ren := {
  mixed := by kernel_rfl
  f143 := Tryd.func84.trans (congrArg some (by kernel_rfl))
  f217 := Tryd.func79.trans (congrArg some (by kernel_rfl))
  f219 := Tryd.func92.trans (congrArg some (by kernel_rfl))
  f224 := Tryd.func97.trans (congrArg some (by kernel_rfl))
  f225 := Tryd.func96.trans (congrArg some (by kernel_rfl))
  f266 := Tryd.func89.trans (congrArg some (by kernel_rfl))
  f267 := Tryd.func98.trans (congrArg some (by kernel_rfl))
  f314 := Tryd.func99.trans (congrArg some (by kernel_rfl))
  t3 := Tryd.underlying3
  a3 := Tryd.isAgg3
  z3 := Tryd.sizeOf3
  v3 := Tryd.zeroValue3
  t4 := Tryd.underlying4
  a4 := Tryd.isAgg4
  z4 := Tryd.sizeOf4
  v4 := Tryd.zeroValue4
  t5 := Tryd.underlying5
  a5 := Tryd.isAgg5
  z5 := Tryd.sizeOf5
  v5 := Tryd.zeroValue5
  t9 := Tryd.underlying9
  a9 := Tryd.isAgg9
  z9 := Tryd.sizeOf9
  v9 := Tryd.zeroValue9
  t46 := Tryd.underlying124
  a46 := Tryd.isAgg124
  z46 := Tryd.sizeOf124
  v46 := Tryd.zeroValue124
  t51 := Tryd.underlying29
  a51 := Tryd.isAgg29
  z51 := Tryd.sizeOf29
  v51 := Tryd.zeroValue29
  t146 := Tryd.underlying129
  a146 := Tryd.isAgg129
  z146 := Tryd.sizeOf129
  v146 := Tryd.zeroValue129
  g1 := by kernel_rfl }
open Go.RowKit Go.Lib in
theorem Tryd.strings_Index_one (s : ByteArray) (c : UInt8) (w : World) :
    Calls Tryd.prog 84 #[.string s, .string ⟨#[c]⟩] w fun e w' => e = .returned (.int .i64 (Lib.indexByte s.data.toList c)) ∧ w' = w := Any.strings_Index_one Tryd.lays143 s c w
open Go.RowKit Go.Lib in
theorem Tryd.strings_Index (s sub : ByteArray) (m : Int) (w : World) (hs : s.size < 4294967281) (hm : w.cell? ⟨0, 0, none⟩ = some (.int .i64 m)) :
    Calls Tryd.prog 84 #[.string s, .string sub] w fun e w' => e = .returned (.int .i64 (Lib.index s.data.toList sub.data.toList)) ∧ w' = w := Any.strings_Index Tryd.lays143 s sub m w hs hm
def Tryd.lays206_ren : Go.Shelf.Ren := ⟨fun | 206 => 61 | n => n, fun | 9 => 9 | 4 => 4 | 3 => 3 | n => n, fun | n => n⟩
theorem Tryd.lays206 : Go.Proofs.Lays.n206 Tryd.prog Tryd.lays206_ren := {
  mixed := by kernel_rfl
  f206 := Tryd.func61.trans (congrArg some (by kernel_rfl))
  t3 := Tryd.underlying3
  a3 := Tryd.isAgg3
  z3 := Tryd.sizeOf3
  v3 := Tryd.zeroValue3
  t4 := Tryd.underlying4
  a4 := Tryd.isAgg4
  z4 := Tryd.sizeOf4
  v4 := Tryd.zeroValue4
  t9 := Tryd.underlying9
  a9 := Tryd.isAgg9
  z9 := Tryd.sizeOf9
  v9 := Tryd.zeroValue9 }
open Go.RowKit Go.Lib in
theorem Tryd.stringslite_HasPrefix (s p : ByteArray) (w : World) :
    Calls Tryd.prog 61 #[.string s, .string p] w fun e w' => e = .returned (.bool (Lib.hasPrefix s.data.toList p.data.toList)) ∧ w' = w := Any.stringslite_HasPrefix Tryd.lays206 s p w
def Tryd.lays99_ren : Go.Shelf.Ren := ⟨fun | 99 => 25 | 206 => 61 | n => n, fun | 9 => 9 | 4 => 4 | 3 => 3 | n => n, fun | n => n⟩
theorem Tryd.lays99 : Go.Proofs.Lays.n99 Tryd.prog Tryd.lays99_ren := {
  mixed := by kernel_rfl
  f99 := Tryd.func25.trans (congrArg some (by kernel_rfl))
  f206 := Tryd.func61.trans (congrArg some (by kernel_rfl))
  t3 := Tryd.underlying3
  a3 := Tryd.isAgg3
  z3 := Tryd.sizeOf3
  v3 := Tryd.zeroValue3
  t4 := Tryd.underlying4
  a4 := Tryd.isAgg4
  z4 := Tryd.sizeOf4
  v4 := Tryd.zeroValue4
  t9 := Tryd.underlying9
  a9 := Tryd.isAgg9
  z9 := Tryd.sizeOf9
  v9 := Tryd.zeroValue9 }
open Go.RowKit Go.Lib in
theorem Tryd.strings_HasPrefix (s p : ByteArray) (w : World) :
    Calls Tryd.prog 25 #[.string s, .string p] w fun e w' => e = .returned (.bool (Lib.hasPrefix s.data.toList p.data.toList)) ∧ w' = w := Any.strings_HasPrefix Tryd.lays99 s p w
def Tryd.lays208_ren : Go.Shelf.Ren := ⟨fun | 208 => 62 | 206 => 61 | n => n, fun | 9 => 9 | 4 => 4 | 3 => 3 | n => n, fun | n => n⟩
theorem Tryd.lays208 : Go.Proofs.Lays.n208 Tryd.prog Tryd.lays208_ren := {
  mixed := by kernel_rfl
  f206 := Tryd.func61.trans (congrArg some (by kernel_rfl))
  f208 := Tryd.func62.trans (congrArg some (by kernel_rfl))
  t3 := Tryd.underlying3
  a3 := Tryd.isAgg3
  z3 := Tryd.sizeOf3
  v3 := Tryd.zeroValue3
  t4 := Tryd.underlying4
  a4 := Tryd.isAgg4
  z4 := Tryd.sizeOf4
  v4 := Tryd.zeroValue4
  t9 := Tryd.underlying9
  a9 := Tryd.isAgg9
  z9 := Tryd.sizeOf9
  v9 := Tryd.zeroValue9 }
open Go.RowKit Go.Lib in
theorem Tryd.stringslite_TrimPrefix (s p : ByteArray) (w : World) :
    Calls Tryd.prog 62 #[.string s, .string p] w fun e w' => e = .returned (.string ⟨(Lib.trimPrefix s.data.toList p.data.toList).toArray⟩) ∧ w' = w := Any.stringslite_TrimPrefix Tryd.lays208 s p w
def Tryd.lays101_ren : Go.Shelf.Ren := ⟨fun | 101 => 26 | 208 => 62 | 206 => 61 | n => n, fun | 9 => 9 | 4 => 4 | 3 => 3 | n => n, fun | n => n⟩
theorem Tryd.lays101 : Go.Proofs.Lays.n101 Tryd.prog Tryd.lays101_ren := {
  mixed := by kernel_rfl
  f101 := Tryd.func26.trans (congrArg some (by kernel_rfl))
  f206 := Tryd.func61.trans (congrArg some (by kernel_rfl))
  f208 := Tryd.func62.trans (congrArg some (by kernel_rfl))
  t3 := Tryd.underlying3
  a3 := Tryd.isAgg3
  z3 := Tryd.sizeOf3
  v3 := Tryd.zeroValue3
  t4 := Tryd.underlying4
  a4 := Tryd.isAgg4
  z4 := Tryd.sizeOf4
  v4 := Tryd.zeroValue4
  t9 := Tryd.underlying9
  a9 := Tryd.isAgg9
  z9 := Tryd.sizeOf9
  v9 := Tryd.zeroValue9 }
open Go.RowKit Go.Lib in
theorem Tryd.strings_TrimPrefix (s p : ByteArray) (w : World) :
    Calls Tryd.prog 26 #[.string s, .string p] w fun e w' => e = .returned (.string ⟨(Lib.trimPrefix s.data.toList p.data.toList).toArray⟩) ∧ w' = w := Any.strings_TrimPrefix Tryd.lays101 s p w
def Tryd.laysNm216_ren : Go.Shelf.Ren := ⟨fun | 16 => 30 | n => n, fun | 24 => 22 | 9 => 9 | 4 => 4 | n => n, fun | n => n⟩
theorem Tryd.laysNm216 : Go.Proofs.Lays2.n16 Tryd.prog Tryd.laysNm216_ren := {
  mixed := by kernel_rfl
  f16 := Tryd.func30.trans (congrArg some (by kernel_rfl))
  t4 := Tryd.underlying4
  a4 := Tryd.isAgg4
  z4 := Tryd.sizeOf4
  v4 := Tryd.zeroValue4
  t9 := Tryd.underlying9
  a9 := Tryd.isAgg9
  z9 := Tryd.sizeOf9
  v9 := Tryd.zeroValue9
  t24 := Tryd.underlying22
  a24 := Tryd.isAgg22
  z24 := Tryd.sizeOf22
  v24 := Tryd.zeroValue22
  i9 := by kernel_rfl }
open Go.RowKit Go.Lib in
theorem Tryd.slices_Clone_string (b off n c : Nat) (zs : List ByteArray) (w : World) (hz : n ≤ zs.length) (hbig : n * 16 ≤ 140737488355328) (hc : ∀ j, j < zs.length → w.cell? ⟨b, off + j, none⟩ = some (.string (zs.getD j ByteArray.empty))) :
    Calls Tryd.prog 30 #[.slice (some ⟨b, off, none⟩) n c] w fun e w' => ∃ v', e = .returned v' ∧ w'.ownsRow w.heap.size 9 1 v' n ((zs.take n).map (Value.string)) ∧ v' ≠ .slice none 0 0 ∧ Below w.heap.size w w' := Any.slices_Clone_string Tryd.laysNm216 b off n c zs w hz hbig hc
open Go.RowKit Go.Lib in
theorem Tryd.slices_Clone_string_nil (n c : Nat) (w : World) :
    Calls Tryd.prog 30 #[.slice none n c] w fun e w' => e = .returned (.slice none 0 0) ∧ w' = w := Any.slices_Clone_string_nil Tryd.laysNm216 n c w
open Go.RowKit Go.Lib in
theorem Tryd.slices_Clone_string_zero (a : Addr) (c : Nat) (w : World) :
    Calls Tryd.prog 30 #[.slice (some a) 0 c] w fun e w' => ∃ v', e = .returned v' ∧ w'.ownsRow w.heap.size 9 1 v' 0 [] ∧ v' ≠ .slice none 0 0 ∧ Below w.heap.size w w' := Any.slices_Clone_string_zero Tryd.laysNm216 a c w
end Go.Proofs
namespace Go.AM
open Go.Proofs
abbrev k_ablautlaw03_InventoryBundles : Nat := 3
theorem f_ablautlaw03_InventoryBundles : Tryd.prog.funcs[k_ablautlaw03_InventoryBundles]? = some Tryd.f3 := Tryd.func3
abbrev k_ablautlaw03_InventoryTexts : Nat := 4
theorem f_ablautlaw03_InventoryTexts : Tryd.prog.funcs[k_ablautlaw03_InventoryTexts]? = some Tryd.f4 := Tryd.func4
abbrev k_ablautlaw03_InventoryFull : Nat := 5
theorem f_ablautlaw03_InventoryFull : Tryd.prog.funcs[k_ablautlaw03_InventoryFull]? = some Tryd.f5 := Tryd.func5
abbrev k_ablautlaw03_InventoryBack : Nat := 6
theorem f_ablautlaw03_InventoryBack : Tryd.prog.funcs[k_ablautlaw03_InventoryBack]? = some Tryd.f6 := Tryd.func6
abbrev k_ablautlaw03_InventoryLongest : Nat := 7
theorem f_ablautlaw03_InventoryLongest : Tryd.prog.funcs[k_ablautlaw03_InventoryLongest]? = some Tryd.f7 := Tryd.func7
abbrev k_ablautlaw03_InventoryNews : Nat := 8
theorem f_ablautlaw03_InventoryNews : Tryd.prog.funcs[k_ablautlaw03_InventoryNews]? = some Tryd.f8 := Tryd.func8
abbrev k_ablautlaw03_InventoryCopies : Nat := 9
theorem f_ablautlaw03_InventoryCopies : Tryd.prog.funcs[k_ablautlaw03_InventoryCopies]? = some Tryd.f9 := Tryd.func9
abbrev k_ablautlaw03_InventoryPlays : Nat := 10
theorem f_ablautlaw03_InventoryPlays : Tryd.prog.funcs[k_ablautlaw03_InventoryPlays]? = some Tryd.f10 := Tryd.func10
abbrev k_ablautlaw03_InventoryFinds : Nat := 11
theorem f_ablautlaw03_InventoryFinds : Tryd.prog.funcs[k_ablautlaw03_InventoryFinds]? = some Tryd.f11 := Tryd.func11
abbrev k_ablautlaw03_InventoryNil : Nat := 12
theorem f_ablautlaw03_InventoryNil : Tryd.prog.funcs[k_ablautlaw03_InventoryNil]? = some Tryd.f12 := Tryd.func12
abbrev k_ablautlaw03_InventoryAny : Nat := 13
theorem f_ablautlaw03_InventoryAny : Tryd.prog.funcs[k_ablautlaw03_InventoryAny]? = some Tryd.f13 := Tryd.func13
abbrev k_ablautlaw03_few : Nat := 14
theorem f_ablautlaw03_few : Tryd.prog.funcs[k_ablautlaw03_few]? = some Tryd.f14 := Tryd.func14
abbrev k_ablautlaw03_works : Nat := 15
theorem f_ablautlaw03_works : Tryd.prog.funcs[k_ablautlaw03_works]? = some Tryd.f15 := Tryd.func15
abbrev k_ablautlaw03_both : Nat := 16
theorem f_ablautlaw03_both : Tryd.prog.funcs[k_ablautlaw03_both]? = some Tryd.f16 := Tryd.func16
abbrev k_inventory_Inv_Bundle : Nat := 17
theorem f_inventory_Inv_Bundle : Tryd.prog.funcs[k_inventory_Inv_Bundle]? = some Tryd.f17 := Tryd.func17
abbrev k_ablautref03_Inv_Bundle : Nat := 18
theorem f_ablautref03_Inv_Bundle : Tryd.prog.funcs[k_ablautref03_Inv_Bundle]? = some Tryd.f18 := Tryd.func18
abbrev k_inventory_Inv_Text : Nat := 19
theorem f_inventory_Inv_Text : Tryd.prog.funcs[k_inventory_Inv_Text]? = some Tryd.f19 := Tryd.func19
abbrev k_ablautref03_Inv_Text : Nat := 20
theorem f_ablautref03_Inv_Text : Tryd.prog.funcs[k_ablautref03_Inv_Text]? = some Tryd.f20 := Tryd.func20
abbrev k_ablautlaw03_numbered : Nat := 21
theorem f_ablautlaw03_numbered : Tryd.prog.funcs[k_ablautlaw03_numbered]? = some Tryd.f21 := Tryd.func21
abbrev k_inventory_Inv_Add : Nat := 22
theorem f_inventory_Inv_Add : Tryd.prog.funcs[k_inventory_Inv_Add]? = some Tryd.f22 := Tryd.func22
abbrev k_inventory_Inv_Len : Nat := 23
theorem f_inventory_Inv_Len : Tryd.prog.funcs[k_inventory_Inv_Len]? = some Tryd.f23 := Tryd.func23
abbrev k_ablautlaw03_clean : Nat := 24
theorem f_ablautlaw03_clean : Tryd.prog.funcs[k_ablautlaw03_clean]? = some Tryd.f24 := Tryd.func24
abbrev k_strings_HasPrefix : Nat := 25
theorem f_strings_HasPrefix : Tryd.prog.funcs[k_strings_HasPrefix]? = some Tryd.f25 := Tryd.func25
abbrev k_strings_TrimPrefix : Nat := 26
theorem f_strings_TrimPrefix : Tryd.prog.funcs[k_strings_TrimPrefix]? = some Tryd.f26 := Tryd.func26
abbrev k_ablautlaw03_grown : Nat := 27
theorem f_ablautlaw03_grown : Tryd.prog.funcs[k_ablautlaw03_grown]? = some Tryd.f27 := Tryd.func27
abbrev k_inventory_Inv_Longest : Nat := 28
theorem f_inventory_Inv_Longest : Tryd.prog.funcs[k_inventory_Inv_Longest]? = some Tryd.f28 := Tryd.func28
abbrev k_inventory_Inv_Sound : Nat := 29
theorem f_inventory_Inv_Sound : Tryd.prog.funcs[k_inventory_Inv_Sound]? = some Tryd.f29 := Tryd.func29
abbrev k_slices_Clone_sl_string_string : Nat := 30
theorem f_slices_Clone_sl_string_string : Tryd.prog.funcs[k_slices_Clone_sl_string_string]? = some Tryd.f30 := Tryd.func30
abbrev k_slices_Equal_sl_string_string : Nat := 31
theorem f_slices_Equal_sl_string_string : Tryd.prog.funcs[k_slices_Equal_sl_string_string]? = some Tryd.f31 := Tryd.func31
abbrev k_inventory_Inv_Feat : Nat := 32
theorem f_inventory_Inv_Feat : Tryd.prog.funcs[k_inventory_Inv_Feat]? = some Tryd.f32 := Tryd.func32
abbrev k_ablautref03_Inv_Feat : Nat := 33
theorem f_ablautref03_Inv_Feat : Tryd.prog.funcs[k_ablautref03_Inv_Feat]? = some Tryd.f33 := Tryd.func33
abbrev k_inventory_Inv_Feats : Nat := 34
theorem f_inventory_Inv_Feats : Tryd.prog.funcs[k_inventory_Inv_Feats]? = some Tryd.f34 := Tryd.func34
abbrev k_ablautref03_Inv_Feats : Nat := 35
theorem f_ablautref03_Inv_Feats : Tryd.prog.funcs[k_ablautref03_Inv_Feats]? = some Tryd.f35 := Tryd.func35
abbrev k_inventory_New : Nat := 36
theorem f_inventory_New : Tryd.prog.funcs[k_inventory_New]? = some Tryd.f36 := Tryd.func36
abbrev k_inventory_Inv_Copy : Nat := 37
theorem f_inventory_Inv_Copy : Tryd.prog.funcs[k_inventory_Inv_Copy]? = some Tryd.f37 := Tryd.func37
abbrev k_slices_Equal_sl_api_Named_api_Named : Nat := 38
theorem f_slices_Equal_sl_api_Named_api_Named : Tryd.prog.funcs[k_slices_Equal_sl_api_Named_api_Named]? = some Tryd.f38 := Tryd.func38
abbrev k_inventory_Inv_Sounds : Nat := 39
theorem f_inventory_Inv_Sounds : Tryd.prog.funcs[k_inventory_Inv_Sounds]? = some Tryd.f39 := Tryd.func39
abbrev k_ablautref03_Inv_Add : Nat := 40
theorem f_ablautref03_Inv_Add : Tryd.prog.funcs[k_ablautref03_Inv_Add]? = some Tryd.f40 := Tryd.func40
abbrev k_ablautlaw03_agree : Nat := 41
theorem f_ablautlaw03_agree : Tryd.prog.funcs[k_ablautlaw03_agree]? = some Tryd.f41 := Tryd.func41
abbrev k_ablautref03_Inv_Sounds : Nat := 42
theorem f_ablautref03_Inv_Sounds : Tryd.prog.funcs[k_ablautref03_Inv_Sounds]? = some Tryd.f42 := Tryd.func42
abbrev k_inventory_Inv_Symbol : Nat := 43
theorem f_inventory_Inv_Symbol : Tryd.prog.funcs[k_inventory_Inv_Symbol]? = some Tryd.f43 := Tryd.func43
abbrev k_strings_Split : Nat := 44
theorem f_strings_Split : Tryd.prog.funcs[k_strings_Split]? = some Tryd.f44 := Tryd.func44
abbrev k_strings_Join : Nat := 45
theorem f_strings_Join : Tryd.prog.funcs[k_strings_Join]? = some Tryd.f45 := Tryd.func45
abbrev k_slices_Reverse_sl_string_string : Nat := 46
theorem f_slices_Reverse_sl_string_string : Tryd.prog.funcs[k_slices_Reverse_sl_string_string]? = some Tryd.f46 := Tryd.func46
abbrev k_ablautref03_New : Nat := 47
theorem f_ablautref03_New : Tryd.prog.funcs[k_ablautref03_New]? = some Tryd.f47 := Tryd.func47
abbrev k_inventory_Inv_made : Nat := 48
theorem f_inventory_Inv_made : Tryd.prog.funcs[k_inventory_Inv_made]? = some Tryd.f48 := Tryd.func48
abbrev k_strings_SplitSeq : Nat := 49
theorem f_strings_SplitSeq : Tryd.prog.funcs[k_strings_SplitSeq]? = some Tryd.f49 := Tryd.func49
abbrev k_strings_CutPrefix : Nat := 50
theorem f_strings_CutPrefix : Tryd.prog.funcs[k_strings_CutPrefix]? = some Tryd.f50 := Tryd.func50
abbrev k_ablautref03_Inv_made : Nat := 51
theorem f_ablautref03_Inv_made : Tryd.prog.funcs[k_ablautref03_Inv_made]? = some Tryd.f51 := Tryd.func51
abbrev k_ablautref03_items : Nat := 52
theorem f_ablautref03_items : Tryd.prog.funcs[k_ablautref03_items]? = some Tryd.f52 := Tryd.func52
abbrev k_ablautref01_Get : Nat := 53
theorem f_ablautref01_Get : Tryd.prog.funcs[k_ablautref01_Get]? = some Tryd.f53 := Tryd.func53
abbrev k_ablautref01_With : Nat := 54
theorem f_ablautref01_With : Tryd.prog.funcs[k_ablautref01_With]? = some Tryd.f54 := Tryd.func54
abbrev k_inventory_Inv_belongs : Nat := 55
theorem f_inventory_Inv_belongs : Tryd.prog.funcs[k_inventory_Inv_belongs]? = some Tryd.f55 := Tryd.func55
abbrev k_ablautref03_Inv_Belongs : Nat := 56
theorem f_ablautref03_Inv_Belongs : Tryd.prog.funcs[k_ablautref03_Inv_Belongs]? = some Tryd.f56 := Tryd.func56
abbrev k_inventory_consists : Nat := 57
theorem f_inventory_consists : Tryd.prog.funcs[k_inventory_consists]? = some Tryd.f57 := Tryd.func57
abbrev k_inventory_Inv_Add_1 : Nat := 58
theorem f_inventory_Inv_Add_1 : Tryd.prog.funcs[k_inventory_Inv_Add_1]? = some Tryd.f58 := Tryd.func58
abbrev k_inventory_small : Nat := 59
theorem f_inventory_small : Tryd.prog.funcs[k_inventory_small]? = some Tryd.f59 := Tryd.func59
abbrev k_strings_IndexByte : Nat := 60
theorem f_strings_IndexByte : Tryd.prog.funcs[k_strings_IndexByte]? = some Tryd.f60 := Tryd.func60
abbrev k_stringslite_HasPrefix : Nat := 61
theorem f_stringslite_HasPrefix : Tryd.prog.funcs[k_stringslite_HasPrefix]? = some Tryd.f61 := Tryd.func61
abbrev k_stringslite_TrimPrefix : Nat := 62
theorem f_stringslite_TrimPrefix : Tryd.prog.funcs[k_stringslite_TrimPrefix]? = some Tryd.f62 := Tryd.func62
abbrev k_slices_Clone_sl_api_Named_api_Named : Nat := 63
theorem f_slices_Clone_sl_api_Named_api_Named : Tryd.prog.funcs[k_slices_Clone_sl_api_Named_api_Named]? = some Tryd.f63 := Tryd.func63
abbrev k_ablautref03_IsSymbol : Nat := 64
theorem f_ablautref03_IsSymbol : Tryd.prog.funcs[k_ablautref03_IsSymbol]? = some Tryd.f64 := Tryd.func64
abbrev k_ablautref03_Inv_Sound : Nat := 65
theorem f_ablautref03_Inv_Sound : Tryd.prog.funcs[k_ablautref03_Inv_Sound]? = some Tryd.f65 := Tryd.func65
abbrev k_ablautref03_Inv_Symbol : Nat := 66
theorem f_ablautref03_Inv_Symbol : Tryd.prog.funcs[k_ablautref03_Inv_Symbol]? = some Tryd.f66 := Tryd.func66
abbrev k_ablautref03_Inv_Longest : Nat := 67
theorem f_ablautref03_Inv_Longest : Tryd.prog.funcs[k_ablautref03_Inv_Longest]? = some Tryd.f67 := Tryd.func67
abbrev k_ablautref03_Inv_Len : Nat := 68
theorem f_ablautref03_Inv_Len : Tryd.prog.funcs[k_ablautref03_Inv_Len]? = some Tryd.f68 := Tryd.func68
abbrev k_strings_genSplit : Nat := 69
theorem f_strings_genSplit : Tryd.prog.funcs[k_strings_genSplit]? = some Tryd.f69 := Tryd.func69
abbrev k_strings_Builder_Grow : Nat := 70
theorem f_strings_Builder_Grow : Tryd.prog.funcs[k_strings_Builder_Grow]? = some Tryd.f70 := Tryd.func70
abbrev k_strings_Builder_WriteString : Nat := 71
theorem f_strings_Builder_WriteString : Tryd.prog.funcs[k_strings_Builder_WriteString]? = some Tryd.f71 := Tryd.func71
abbrev k_strings_Builder_String : Nat := 72
theorem f_strings_Builder_String : Tryd.prog.funcs[k_strings_Builder_String]? = some Tryd.f72 := Tryd.func72
abbrev k_ablautref03_IsFeat : Nat := 73
theorem f_ablautref03_IsFeat : Tryd.prog.funcs[k_ablautref03_IsFeat]? = some Tryd.f73 := Tryd.func73
abbrev k_strings_splitSeq : Nat := 74
theorem f_strings_splitSeq : Tryd.prog.funcs[k_strings_splitSeq]? = some Tryd.f74 := Tryd.func74
abbrev k_stringslite_CutPrefix : Nat := 75
theorem f_stringslite_CutPrefix : Tryd.prog.funcs[k_stringslite_CutPrefix]? = some Tryd.f75 := Tryd.func75
abbrev k_ablautref01_Valid : Nat := 76
theorem f_ablautref01_Valid : Tryd.prog.funcs[k_ablautref01_Valid]? = some Tryd.f76 := Tryd.func76
abbrev k_ablautref01_feature : Nat := 77
theorem f_ablautref01_feature : Tryd.prog.funcs[k_ablautref01_feature]? = some Tryd.f77 := Tryd.func77
abbrev k_ablautref01_put : Nat := 78
theorem f_ablautref01_put : Tryd.prog.funcs[k_ablautref01_put]? = some Tryd.f78 := Tryd.func78
abbrev k_stringslite_IndexByte : Nat := 79
theorem f_stringslite_IndexByte : Tryd.prog.funcs[k_stringslite_IndexByte]? = some Tryd.f79 := Tryd.func79
abbrev k_ablautref03_letter : Nat := 80
theorem f_ablautref03_letter : Tryd.prog.funcs[k_ablautref03_letter]? = some Tryd.f80 := Tryd.func80
abbrev k_ablautref03_big : Nat := 81
theorem f_ablautref03_big : Tryd.prog.funcs[k_ablautref03_big]? = some Tryd.f81 := Tryd.func81
abbrev k_strings_explode : Nat := 82
theorem f_strings_explode : Tryd.prog.funcs[k_strings_explode]? = some Tryd.f82 := Tryd.func82
abbrev k_strings_Count : Nat := 83
theorem f_strings_Count : Tryd.prog.funcs[k_strings_Count]? = some Tryd.f83 := Tryd.func83
abbrev k_strings_Index : Nat := 84
theorem f_strings_Index : Tryd.prog.funcs[k_strings_Index]? = some Tryd.f84 := Tryd.func84
abbrev k_strings_Builder_copyCheck : Nat := 85
theorem f_strings_Builder_copyCheck : Tryd.prog.funcs[k_strings_Builder_copyCheck]? = some Tryd.f85 := Tryd.func85
abbrev k_strings_Builder_grow : Nat := 86
theorem f_strings_Builder_grow : Tryd.prog.funcs[k_strings_Builder_grow]? = some Tryd.f86 := Tryd.func86
abbrev k_strings_splitSeq_1 : Nat := 87
theorem f_strings_splitSeq_1 : Tryd.prog.funcs[k_strings_splitSeq_1]? = some Tryd.f87 := Tryd.func87
abbrev k_unicode_utf8_DecodeRuneInString : Nat := 88
theorem f_unicode_utf8_DecodeRuneInString : Tryd.prog.funcs[k_unicode_utf8_DecodeRuneInString]? = some Tryd.f88 := Tryd.func88
abbrev k_unicode_utf8_RuneCountInString : Nat := 90
theorem f_unicode_utf8_RuneCountInString : Tryd.prog.funcs[k_unicode_utf8_RuneCountInString]? = some Tryd.f90 := Tryd.func90
abbrev k_stringslite_Index : Nat := 92
theorem f_stringslite_Index : Tryd.prog.funcs[k_stringslite_Index]? = some Tryd.f92 := Tryd.func92
abbrev k_unicode_utf8_decodeRuneInStringSlow : Nat := 95
theorem f_unicode_utf8_decodeRuneInStringSlow : Tryd.prog.funcs[k_unicode_utf8_decodeRuneInStringSlow]? = some Tryd.f95 := Tryd.func95
abbrev k_bytealg_Cutover : Nat := 97
theorem f_bytealg_Cutover : Tryd.prog.funcs[k_bytealg_Cutover]? = some Tryd.f97 := Tryd.func97
abbrev k_bytealg_IndexRabinKarp_string : Nat := 98
theorem f_bytealg_IndexRabinKarp_string : Tryd.prog.funcs[k_bytealg_IndexRabinKarp_string]? = some Tryd.f98 := Tryd.func98
abbrev k_bytealg_hashStr_string : Nat := 99
theorem f_bytealg_hashStr_string : Tryd.prog.funcs[k_bytealg_hashStr_string]? = some Tryd.f99 := Tryd.func99
abbrev t_func : Nat := 1
theorem tb_func : tbytes Tryd.prog t_func = 8 := by decide +kernel
abbrev t_int64 : Nat := 2
theorem tb_int64 : tbytes Tryd.prog t_int64 = 8 := by decide +kernel
abbrev t_int : Nat := 3
theorem tb_int : tbytes Tryd.prog t_int = 8 := by decide +kernel
abbrev t_bool : Nat := 4
theorem tb_bool : tbytes Tryd.prog t_bool = 1 := by decide +kernel
abbrev t_uint8 : Nat := 5
theorem tb_uint8 : tbytes Tryd.prog t_uint8 = 1 := by decide +kernel
abbrev t_abi_BoundsErrorCode : Nat := 6
theorem tb_abi_BoundsErrorCode : tbytes Tryd.prog t_abi_BoundsErrorCode = 1 := by decide +kernel
abbrev t_runtime_boundsError : Nat := 8
theorem tb_runtime_boundsError : tbytes Tryd.prog t_runtime_boundsError = 24 := by decide +kernel
abbrev t_string : Nat := 9
theorem tb_string : tbytes Tryd.prog t_string = 16 := by decide +kernel
abbrev t_runtime_errorString : Nat := 10
theorem tb_runtime_errorString : tbytes Tryd.prog t_runtime_errorString = 16 := by decide +kernel
abbrev t_runtime_plainError : Nat := 11
theorem tb_runtime_plainError : tbytes Tryd.prog t_runtime_plainError = 16 := by decide +kernel
abbrev t_uintptr : Nat := 12
theorem tb_uintptr : tbytes Tryd.prog t_uintptr = 8 := by decide +kernel
abbrev t_struct_msg_string_addr_uintptr : Nat := 13
theorem tb_struct_msg_string_addr_uintptr : tbytes Tryd.prog t_struct_msg_string_addr_uintptr = 24 := by decide +kernel
abbrev t_runtime_errorAddressString : Nat := 14
theorem tb_runtime_errorAddressString : tbytes Tryd.prog t_runtime_errorAddressString = 24 := by decide +kernel
abbrev t_runtime_TypeAssertionError : Nat := 15
theorem tb_runtime_TypeAssertionError : tbytes Tryd.prog t_runtime_TypeAssertionError = 8 := by decide +kernel
abbrev t_runtime_PanicNilError : Nat := 16
theorem tb_runtime_PanicNilError : tbytes Tryd.prog t_runtime_PanicNilError = 8 := by decide +kernel
abbrev t_abi_Type : Nat := 17
theorem tb_abi_Type : tbytes Tryd.prog t_abi_Type = 8 := by decide +kernel
abbrev t_struct_typ_abi_Type : Nat := 18
theorem tb_struct_typ_abi_Type : tbytes Tryd.prog t_struct_typ_abi_Type = 8 := by decide +kernel
abbrev t_maps_unhashableTypeError : Nat := 19
theorem tb_maps_unhashableTypeError : tbytes Tryd.prog t_maps_unhashableTypeError = 8 := by decide +kernel
abbrev t_interface : Nat := 20
theorem tb_interface : tbytes Tryd.prog t_interface = 16 := by decide +kernel
abbrev t_int32 : Nat := 21
theorem tb_int32 : tbytes Tryd.prog t_int32 = 4 := by decide +kernel
abbrev t_sl_string : Nat := 22
theorem tb_sl_string : tbytes Tryd.prog t_sl_string = 24 := by decide +kernel
abbrev t_func_sl_string_string_bool : Nat := 23
theorem tb_func_sl_string_string_bool : tbytes Tryd.prog t_func_sl_string_string_bool = 8 := by decide +kernel
abbrev t_func_bool : Nat := 24
theorem tb_func_bool : tbytes Tryd.prog t_func_bool = 8 := by decide +kernel
abbrev t_inventory_Inv : Nat := 25
theorem tb_inventory_Inv : tbytes Tryd.prog t_inventory_Inv = 8 := by decide +kernel
abbrev t_ablautref03_Inv : Nat := 26
theorem tb_ablautref03_Inv : tbytes Tryd.prog t_ablautref03_Inv = 8 := by decide +kernel
abbrev t_inventory_Inv_ablautref03_Inv_bool : Nat := 27
theorem tb_inventory_Inv_ablautref03_Inv_bool : tbytes Tryd.prog t_inventory_Inv_ablautref03_Inv_bool = 0 := by decide +kernel
abbrev t_func_sl_string_inventory_Inv_ablautref03_Inv_bool : Nat := 28
theorem tb_func_sl_string_inventory_Inv_ablautref03_Inv_bool : tbytes Tryd.prog t_func_sl_string_inventory_Inv_ablautref03_Inv_bool = 8 := by decide +kernel
abbrev t_uint32 : Nat := 29
theorem tb_uint32 : tbytes Tryd.prog t_uint32 = 4 := by decide +kernel
abbrev t_struct_Plus_uint32_Minus_uint32 : Nat := 30
theorem tb_struct_Plus_uint32_Minus_uint32 : tbytes Tryd.prog t_struct_Plus_uint32_Minus_uint32 = 8 := by decide +kernel
abbrev t_api_Sound : Nat := 31
theorem tb_api_Sound : tbytes Tryd.prog t_api_Sound = 8 := by decide +kernel
abbrev t_api_Errno : Nat := 32
theorem tb_api_Errno : tbytes Tryd.prog t_api_Errno = 8 := by decide +kernel
abbrev t_api_Sound_api_Errno : Nat := 33
theorem tb_api_Sound_api_Errno : tbytes Tryd.prog t_api_Sound_api_Errno = 0 := by decide +kernel
abbrev t_func_string_api_Sound_api_Errno : Nat := 34
theorem tb_func_string_api_Sound_api_Errno : tbytes Tryd.prog t_func_string_api_Sound_api_Errno = 8 := by decide +kernel
abbrev t_string_api_Errno : Nat := 36
theorem tb_string_api_Errno : tbytes Tryd.prog t_string_api_Errno = 0 := by decide +kernel
abbrev t_func_api_Sound_string_api_Errno : Nat := 37
theorem tb_func_api_Sound_string_api_Errno : tbytes Tryd.prog t_func_api_Sound_string_api_Errno = 8 := by decide +kernel
abbrev t_func_sl_string_api_Sound_bool : Nat := 38
theorem tb_func_sl_string_api_Sound_bool : tbytes Tryd.prog t_func_sl_string_api_Sound_bool = 8 := by decide +kernel
abbrev t_inventory_Inv_sl_string : Nat := 39
theorem tb_inventory_Inv_sl_string : tbytes Tryd.prog t_inventory_Inv_sl_string = 0 := by decide +kernel
abbrev t_func_int_inventory_Inv_sl_string : Nat := 40
theorem tb_func_int_inventory_Inv_sl_string : tbytes Tryd.prog t_func_int_inventory_Inv_sl_string = 8 := by decide +kernel
abbrev t_sl_uint8 : Nat := 42
theorem tb_sl_uint8 : tbytes Tryd.prog t_sl_uint8 = 24 := by decide +kernel
abbrev t_func_int : Nat := 43
theorem tb_func_int : tbytes Tryd.prog t_func_int = 8 := by decide +kernel
abbrev t_func_uint8_bool : Nat := 44
theorem tb_func_uint8_bool : tbytes Tryd.prog t_func_uint8_bool = 8 := by decide +kernel
abbrev t_func_api_Sound_int_api_Sound : Nat := 45
theorem tb_func_api_Sound_int_api_Sound : tbytes Tryd.prog t_func_api_Sound_int_api_Sound = 8 := by decide +kernel
abbrev t_func_string_string_bool : Nat := 46
theorem tb_func_string_string_bool : tbytes Tryd.prog t_func_string_string_bool = 8 := by decide +kernel
abbrev t_func_string_string_string : Nat := 47
theorem tb_func_string_string_string : tbytes Tryd.prog t_func_string_string_string = 8 := by decide +kernel
abbrev t_func_uint8_api_Sound_bool : Nat := 48
theorem tb_func_uint8_api_Sound_bool : tbytes Tryd.prog t_func_uint8_api_Sound_bool = 8 := by decide +kernel
abbrev t_sl_ablautlaw03_Step : Nat := 49
theorem tb_sl_ablautlaw03_Step : tbytes Tryd.prog t_sl_ablautlaw03_Step = 24 := by decide +kernel
abbrev t_sl_api_Named : Nat := 50
theorem tb_sl_api_Named : tbytes Tryd.prog t_sl_api_Named = 24 := by decide +kernel
abbrev t_inventory_Inv_sl_api_Named : Nat := 51
theorem tb_inventory_Inv_sl_api_Named : tbytes Tryd.prog t_inventory_Inv_sl_api_Named = 0 := by decide +kernel
abbrev t_func_sl_ablautlaw03_Step_inventory_Inv_sl_api_Named : Nat := 52
theorem tb_func_sl_ablautlaw03_Step_inventory_Inv_sl_api_Named : tbytes Tryd.prog t_func_sl_ablautlaw03_Step_inventory_Inv_sl_api_Named = 8 := by decide +kernel
abbrev t_string_bool : Nat := 53
theorem tb_string_bool : tbytes Tryd.prog t_string_bool = 0 := by decide +kernel
abbrev t_api_Sound_bool : Nat := 55
theorem tb_api_Sound_bool : tbytes Tryd.prog t_api_Sound_bool = 0 := by decide +kernel
abbrev t_func_string_api_Sound_bool : Nat := 56
theorem tb_func_string_api_Sound_bool : tbytes Tryd.prog t_func_string_api_Sound_bool = 8 := by decide +kernel
abbrev t_struct_Symbol_string_S_api_Sound : Nat := 57
theorem tb_struct_Symbol_string_S_api_Sound : tbytes Tryd.prog t_struct_Symbol_string_S_api_Sound = 24 := by decide +kernel
abbrev t_api_Named : Nat := 58
theorem tb_api_Named : tbytes Tryd.prog t_api_Named = 24 := by decide +kernel
abbrev t_func_sl_ablautlaw03_Step_string_bool : Nat := 59
theorem tb_func_sl_ablautlaw03_Step_string_bool : tbytes Tryd.prog t_func_sl_ablautlaw03_Step_string_bool = 8 := by decide +kernel
abbrev t_func_sl_string_sl_string : Nat := 60
theorem tb_func_sl_string_sl_string : tbytes Tryd.prog t_func_sl_string_sl_string = 8 := by decide +kernel
abbrev t_func_sl_string_sl_string_bool : Nat := 61
theorem tb_func_sl_string_sl_string_bool : tbytes Tryd.prog t_func_sl_string_sl_string_bool = 8 := by decide +kernel
abbrev t_int_bool : Nat := 62
theorem tb_int_bool : tbytes Tryd.prog t_int_bool = 0 := by decide +kernel
abbrev t_func_string_int_bool : Nat := 63
theorem tb_func_string_int_bool : tbytes Tryd.prog t_func_string_int_bool = 8 := by decide +kernel
abbrev t_func_sl_string : Nat := 64
theorem tb_func_sl_string : tbytes Tryd.prog t_func_sl_string = 8 := by decide +kernel
abbrev t_inventory_Inv_api_Errno : Nat := 65
theorem tb_inventory_Inv_api_Errno : tbytes Tryd.prog t_inventory_Inv_api_Errno = 0 := by decide +kernel
abbrev t_func_sl_string_inventory_Inv_api_Errno : Nat := 66
theorem tb_func_sl_string_inventory_Inv_api_Errno : tbytes Tryd.prog t_func_sl_string_inventory_Inv_api_Errno = 8 := by decide +kernel
abbrev t_func_inventory_Inv : Nat := 67
theorem tb_func_inventory_Inv : tbytes Tryd.prog t_func_inventory_Inv = 8 := by decide +kernel
abbrev t_func_sl_api_Named_sl_api_Named_bool : Nat := 68
theorem tb_func_sl_api_Named_sl_api_Named_bool : tbytes Tryd.prog t_func_sl_api_Named_sl_api_Named_bool = 8 := by decide +kernel
abbrev t_func_sl_api_Named : Nat := 69
theorem tb_func_sl_api_Named : tbytes Tryd.prog t_func_sl_api_Named = 8 := by decide +kernel
abbrev t_sl_inventory_Inv : Nat := 70
theorem tb_sl_inventory_Inv : tbytes Tryd.prog t_sl_inventory_Inv = 24 := by decide +kernel
abbrev t_func_sl_ablautlaw03_Step_string_api_Sound_bool : Nat := 71
theorem tb_func_sl_ablautlaw03_Step_string_api_Sound_bool : tbytes Tryd.prog t_func_sl_ablautlaw03_Step_string_api_Sound_bool = 8 := by decide +kernel
abbrev t_ablautlaw03_Step : Nat := 72
theorem tb_ablautlaw03_Step : tbytes Tryd.prog t_ablautlaw03_Step = 24 := by decide +kernel
abbrev t_func_sl_string_sl_ablautlaw03_Step_string_bool : Nat := 74
theorem tb_func_sl_string_sl_ablautlaw03_Step_string_bool : tbytes Tryd.prog t_func_sl_string_sl_ablautlaw03_Step_string_bool = 8 := by decide +kernel
abbrev t_func_api_Sound_string_bool : Nat := 75
theorem tb_func_api_Sound_string_bool : tbytes Tryd.prog t_func_api_Sound_string_bool = 8 := by decide +kernel
abbrev t_map_string_int : Nat := 76
theorem tb_map_string_int : tbytes Tryd.prog t_map_string_int = 8 := by decide +kernel
abbrev t_map_api_Sound_int : Nat := 77
theorem tb_map_api_Sound_int : tbytes Tryd.prog t_map_api_Sound_int = 8 := by decide +kernel
abbrev t_func_string_string_sl_string : Nat := 81
theorem tb_func_string_string_sl_string : tbytes Tryd.prog t_func_string_string_sl_string = 8 := by decide +kernel
abbrev t_func_sl_string_string_string : Nat := 82
theorem tb_func_sl_string_string_string : tbytes Tryd.prog t_func_sl_string_string_string = 8 := by decide +kernel
abbrev t_func_uint8_api_Sound_uint8_bool : Nat := 84
theorem tb_func_uint8_api_Sound_uint8_bool : tbytes Tryd.prog t_func_uint8_api_Sound_uint8_bool = 8 := by decide +kernel
abbrev t_ablautref03_Inv_api_Errno : Nat := 85
theorem tb_ablautref03_Inv_api_Errno : tbytes Tryd.prog t_ablautref03_Inv_api_Errno = 0 := by decide +kernel
abbrev t_func_sl_string_ablautref03_Inv_api_Errno : Nat := 86
theorem tb_func_sl_string_ablautref03_Inv_api_Errno : tbytes Tryd.prog t_func_sl_string_ablautref03_Inv_api_Errno = 8 := by decide +kernel
abbrev t_func_func_string_bool : Nat := 87
theorem tb_func_func_string_bool : tbytes Tryd.prog t_func_func_string_bool = 8 := by decide +kernel
abbrev t_iter_Seq_string : Nat := 88
theorem tb_iter_Seq_string : tbytes Tryd.prog t_iter_Seq_string = 8 := by decide +kernel
abbrev t_func_string_string_iter_Seq_string : Nat := 89
theorem tb_func_string_string_iter_Seq_string : tbytes Tryd.prog t_func_string_string_iter_Seq_string = 8 := by decide +kernel
abbrev t_func_string_string_string_bool : Nat := 90
theorem tb_func_string_string_string_bool : tbytes Tryd.prog t_func_string_string_string_bool = 8 := by decide +kernel
abbrev t_func_string_sl_string : Nat := 91
theorem tb_func_string_sl_string : tbytes Tryd.prog t_func_string_sl_string = 8 := by decide +kernel
abbrev t_func_api_Sound_int_int : Nat := 92
theorem tb_func_api_Sound_int_int : tbytes Tryd.prog t_func_api_Sound_int_int = 8 := by decide +kernel
abbrev t_func_api_Sound_int_int_api_Sound_api_Errno : Nat := 93
theorem tb_func_api_Sound_int_int_api_Sound_api_Errno : tbytes Tryd.prog t_func_api_Sound_int_int_api_Sound_api_Errno = 8 := by decide +kernel
abbrev t_func_api_Sound_bool : Nat := 94
theorem tb_func_api_Sound_bool : tbytes Tryd.prog t_func_api_Sound_bool = 8 := by decide +kernel
abbrev t_struct_Made_bool_F_sl_string_S_sl_api_Named : Nat := 95
theorem tb_struct_Made_bool_F_sl_string_S_sl_api_Named : tbytes Tryd.prog t_struct_Made_bool_F_sl_string_S_sl_api_Named = 56 := by decide +kernel
abbrev t_func_string_int_func_uint8_bool_bool : Nat := 97
theorem tb_func_string_int_func_uint8_bool_bool : tbytes Tryd.prog t_func_string_int_func_uint8_bool_bool = 8 := by decide +kernel
abbrev t_func_string_uint8_int : Nat := 98
theorem tb_func_string_uint8_int : tbytes Tryd.prog t_func_string_uint8_int = 8 := by decide +kernel
abbrev t_func_sl_api_Named_sl_api_Named : Nat := 99
theorem tb_func_sl_api_Named_sl_api_Named : tbytes Tryd.prog t_func_sl_api_Named_sl_api_Named = 8 := by decide +kernel
abbrev t_func_string_bool : Nat := 100
theorem tb_func_string_bool : tbytes Tryd.prog t_func_string_bool = 8 := by decide +kernel
abbrev t_func_string_string_int_int_sl_string : Nat := 101
theorem tb_func_string_string_int_int_sl_string : tbytes Tryd.prog t_func_string_string_int_int_sl_string = 8 := by decide +kernel
abbrev t_strings_Builder : Nat := 102
theorem tb_strings_Builder : tbytes Tryd.prog t_strings_Builder = 8 := by decide +kernel
abbrev t_struct_addr_strings_Builder_buf_sl_uint8 : Nat := 103
theorem tb_struct_addr_strings_Builder_buf_sl_uint8 : tbytes Tryd.prog t_struct_addr_strings_Builder_buf_sl_uint8 = 32 := by decide +kernel
abbrev t_interface_Error_string : Nat := 106
theorem tb_interface_Error_string : tbytes Tryd.prog t_interface_Error_string = 16 := by decide +kernel
abbrev t_error : Nat := 107
theorem tb_error : tbytes Tryd.prog t_error = 16 := by decide +kernel
abbrev t_int_error : Nat := 108
theorem tb_int_error : tbytes Tryd.prog t_int_error = 0 := by decide +kernel
abbrev t_func_string_int_error : Nat := 109
theorem tb_func_string_int_error : tbytes Tryd.prog t_func_string_int_error = 8 := by decide +kernel
abbrev t_func_string : Nat := 110
theorem tb_func_string : tbytes Tryd.prog t_func_string = 8 := by decide +kernel
abbrev t_func_string_string_int_iter_Seq_string : Nat := 111
theorem tb_func_string_string_int_iter_Seq_string : tbytes Tryd.prog t_func_string_string_int_iter_Seq_string = 8 := by decide +kernel
abbrev t_func_int_bool : Nat := 112
theorem tb_func_int_bool : tbytes Tryd.prog t_func_int_bool = 8 := by decide +kernel
abbrev t_func_api_Sound_int_int_api_Sound : Nat := 113
theorem tb_func_api_Sound_int_int_api_Sound : tbytes Tryd.prog t_func_api_Sound_int_int_api_Sound = 8 := by decide +kernel
abbrev t_func_string_int_sl_string : Nat := 114
theorem tb_func_string_int_sl_string : tbytes Tryd.prog t_func_string_int_sl_string = 8 := by decide +kernel
abbrev t_func_string_string_int : Nat := 115
theorem tb_func_string_string_int : tbytes Tryd.prog t_func_string_string_int = 8 := by decide +kernel
abbrev t_int32_int : Nat := 117
theorem tb_int32_int : tbytes Tryd.prog t_int32_int = 0 := by decide +kernel
abbrev t_func_string_int32_int : Nat := 118
theorem tb_func_string_int32_int : tbytes Tryd.prog t_func_string_int32_int = 8 := by decide +kernel
abbrev t_func_string_int : Nat := 119
theorem tb_func_string_int : tbytes Tryd.prog t_func_string_int = 8 := by decide +kernel
abbrev t_unsafe_Pointer : Nat := 120
theorem tb_unsafe_Pointer : tbytes Tryd.prog t_unsafe_Pointer = 8 := by decide +kernel
abbrev t_func_unsafe_Pointer_unsafe_Pointer : Nat := 121
theorem tb_func_unsafe_Pointer_unsafe_Pointer : tbytes Tryd.prog t_func_unsafe_Pointer_unsafe_Pointer = 8 := by decide +kernel
abbrev t_func_int_sl_uint8 : Nat := 122
theorem tb_func_int_sl_uint8 : tbytes Tryd.prog t_func_int_sl_uint8 = 8 := by decide +kernel
abbrev t_func_int_int : Nat := 123
theorem tb_func_int_int : tbytes Tryd.prog t_func_int_int = 8 := by decide +kernel
abbrev t_uint : Nat := 124
theorem tb_uint : tbytes Tryd.prog t_uint = 8 := by decide +kernel
abbrev t_256_uint8 : Nat := 125
theorem tb_256_uint8 : tbytes Tryd.prog t_256_uint8 = 256 := by decide +kernel
abbrev t_struct_lo_uint8_hi_uint8 : Nat := 126
theorem tb_struct_lo_uint8_hi_uint8 : tbytes Tryd.prog t_struct_lo_uint8_hi_uint8 = 2 := by decide +kernel
abbrev t_utf8_acceptRange : Nat := 127
theorem tb_utf8_acceptRange : tbytes Tryd.prog t_utf8_acceptRange = 2 := by decide +kernel
abbrev t_16_utf8_acceptRange : Nat := 128
theorem tb_16_utf8_acceptRange : tbytes Tryd.prog t_16_utf8_acceptRange = 32 := by decide +kernel
abbrev t_uint32_uint32 : Nat := 129
theorem tb_uint32_uint32 : tbytes Tryd.prog t_uint32_uint32 = 0 := by decide +kernel
abbrev t_func_string_uint32_uint32 : Nat := 130
theorem tb_func_string_uint32_uint32 : tbytes Tryd.prog t_func_string_uint32_uint32 = 8 := by decide +kernel
abbrev t_0_runtime_PanicNilError : Nat := 133
theorem tb_0_runtime_PanicNilError : tbytes Tryd.prog t_0_runtime_PanicNilError = 0 := by decide +kernel
abbrev t_struct_0_runtime_PanicNilError : Nat := 134
theorem tb_struct_0_runtime_PanicNilError : tbytes Tryd.prog t_struct_0_runtime_PanicNilError = 0 := by decide +kernel
abbrev t_abi_TFlag : Nat := 136
theorem tb_abi_TFlag : tbytes Tryd.prog t_abi_TFlag = 1 := by decide +kernel
abbrev t_abi_Kind : Nat := 137
theorem tb_abi_Kind : tbytes Tryd.prog t_abi_Kind = 1 := by decide +kernel
abbrev t_func_unsafe_Pointer_unsafe_Pointer_bool : Nat := 138
theorem tb_func_unsafe_Pointer_unsafe_Pointer_bool : tbytes Tryd.prog t_func_unsafe_Pointer_unsafe_Pointer_bool = 8 := by decide +kernel
abbrev t_abi_NameOff : Nat := 139
theorem tb_abi_NameOff : tbytes Tryd.prog t_abi_NameOff = 4 := by decide +kernel
abbrev t_abi_TypeOff : Nat := 140
theorem tb_abi_TypeOff : tbytes Tryd.prog t_abi_TypeOff = 4 := by decide +kernel
end Go.AM
set_option linter.unusedVariables false
namespace Go.AM
structure Sound where
  Plus : Int
  Minus : Int
  deriving Inhabited, DecidableEq
abbrev c_Sound (x : Sound) : List PV := [(pI .u32 x.Plus), (pI .u32 x.Minus)]
structure Named where
  Symbol : Str
  S : Sound
  deriving Inhabited, DecidableEq
abbrev c_Named (x : Named) : List PV := [(.str x.Symbol), (pI .u32 x.S.Plus), (pI .u32 x.S.Minus)]
structure Step where
  Symbol : Str
  S : Sound
  deriving Inhabited, DecidableEq
abbrev c_Step (x : Step) : List PV := [(.str x.Symbol), (pI .u32 x.S.Plus), (pI .u32 x.S.Minus)]
structure ablautref03_Inv where
  Made : Bool
  F : (Sl Str)
  S : (Sl Named)
  deriving Inhabited
abbrev c_ablautref03_Inv (x : ablautref03_Inv) : List PV := [(.bb x.Made), (vSl 1 cS x.F), (vSl 3 c_Named x.S)]
structure O_inventory_Inv where
  feats : (Sl Str)
  number : List (Str × Int)
  sounds : (Sl Named)
  symbols : List (Str × Int)
  values : List (Sound × Int)
  deriving Inhabited
abbrev eq_Sound (a b : Sound) : Bool := ((a.Plus == b.Plus) && (a.Minus == b.Minus))
structure O_ablautref03_Inv where
  Made : Bool
  F : (Sl Str)
  S : (Sl Named)
  deriving Inhabited
end Go.AM
set_option linter.unusedVariables false
set_option linter.unusedSectionVars false
namespace Go.AM
open Go.Proofs
abbrev strs (nn : Bool) (n : Nat) (g : Nat → List UInt8) : PV := .sl nn 1 n fun i => [.str (g i)]
structure LibC (S : Sems) : Prop where
  join : ∀ (nn : Bool) (n : Nat) (g : Nat → List UInt8) (sep : List UInt8), n ≤ 140737488355328 → (Lib.join ((List.range n).map g) sep).length ≤ 140737488355328 →
    Pure S k_strings_Join [.p (strs nn n g), .p (.str sep)] (.p (.str (Lib.join ((List.range n).map g) sep)))
  indexByte : ∀ (s : List UInt8) (c : UInt8), Pure S k_strings_IndexByte [.p (.str s), .p (.v (.int .u8 c.toNat))] (.p (.v (.int .i64 (Lib.indexByte s c))))
  cutPrefix : ∀ (s p : List UInt8), Pure S k_strings_CutPrefix [.p (.str s), .p (.str p)] (.tup [.p (.str (Lib.trimPrefix s p)), .p (.bb (Lib.hasPrefix s p))])
  hasPrefix : ∀ (s p : List UInt8), Pure S k_strings_HasPrefix [.p (.str s), .p (.str p)] (.p (.bb (Lib.hasPrefix s p)))
  trimPrefix : ∀ (s p : List UInt8), Pure S k_strings_TrimPrefix [.p (.str s), .p (.str p)] (.p (.str (Lib.trimPrefix s p)))
  index1 : ∀ (s : List UInt8) (c : UInt8), Pure S k_strings_Index [.p (.str s), .p (.str [c])] (.p (.v (.int .i64 (Lib.indexByte s c))))
  clone : ∀ (nn : Bool) (n : Nat) (g : Nat → List UInt8), n ≤ 1000000000000 → FunO S k_slices_Clone_sl_string_string [.p (strs nn n g)] [] (.vec 0) [.vec t_string 1 n (fun i => cS (g i)) true] []
theorem owns_vec {w w' : World} {Pi : Nat → Nat → Prop} {v : Value} {n : Nat} {g : Nat → List UInt8} {e : TypeId} {xs : List ByteArray} (hx : xs.length = n) (hg : ∀ i, i < n → xs[i]? = some ⟨(g i).toArray⟩)
    (h : w'.ownsRow w.heap.size e 1 v n (xs.map Value.string)) : (v = .slice none 0 0 ∧ n = 0) ∨ ∃ b cap c, v = .slice (some ⟨b, 0, none⟩) n cap ∧ w.heap.size ≤ b ∧ w'.heap[b]? = some (.cells c e (0, 0)) ∧ n ≤ cap ∧ c.size = cap * 1 ∧ cap ≤ maxLen ∧
        ∀ i j, i < n → j < 1 → RepP w Pi (c.getD (i * 1 + j) undef) ((cS (g i)).getD j default) ∧ (c.getD (i * 1 + j) undef).oneCell' = true := by
  obtain ⟨hl, h⟩ := h
  rcases h with h | ⟨b, cap, cur, rfl, hbb, hh, hcap, hml, hsz, hx2⟩
  · exact .inl h
  · refine .inr ⟨b, cap, cur, rfl, hbb, hh, hcap, hsz, hml, fun i j hi hj => ?_⟩
    have hj0 : j = 0 := by omega
    subst hj0
    have hc : cur.getD i undef = .string ⟨(g i).toArray⟩ := by
      have h1 : (cur.toList.take (n * 1))[i]? = some (.string ⟨(g i).toArray⟩) := by rw [hx2, List.getElem?_map, hg i hi]; rfl
      rw [List.getElem?_take_of_lt (by omega), Array.getElem?_toList] at h1
      rw [Array.getD_eq_getD_getElem?, h1]; rfl
    simp only [Nat.mul_one, Nat.add_zero, hc]
    exact ⟨.str _, rfl⟩
theorem vs1 {vs : Array Value} {x : PV} {w : World} {Pi : Nat → Nat → Prop} (hsz : vs.size = [x].length) (hr : ∀ i, i < [x].length → RepP w Pi (vs.getD i undef) ([x].getD i default)) : ∃ a, vs = #[a] ∧ RepP w Pi a x := by
  obtain ⟨l⟩ := vs
  match l, hsz with
  | [a], _ => exact ⟨a, rfl, hr 0 (by simp)⟩
theorem vs2 {vs : Array Value} {x y : PV} {w : World} {Pi : Nat → Nat → Prop} (hsz : vs.size = [x, y].length) (hr : ∀ i, i < [x, y].length → RepP w Pi (vs.getD i undef) ([x, y].getD i default)) :
    ∃ a b, vs = #[a, b] ∧ RepP w Pi a x ∧ RepP w Pi b y := by
  obtain ⟨l⟩ := vs
  match l, hsz with
  | [a, b], _ => exact ⟨a, b, rfl, hr 0 (by simp), hr 1 (by simp)⟩
theorem str_inv {w : World} {Pi : Nat → Nat → Prop} {v : Value} {l : List UInt8} (h : RepP w Pi v (.str l)) : v = .string ⟨l.toArray⟩ := by cases h; rfl
theorem calls_str {P : Program} {f : FuncId} {vs : Array Value} {w : World} {Pi : Nat → Nat → Prop} {v : Value} {r : AV} (h : Calls P f vs w fun e w' => e = .returned v ∧ w' = w) (hr : ∀ live rho, RepA w Pi live rho v r) :
    Calls P f vs w fun e w' => ∃ v, e = .returned v ∧ RowKit.Below w.heap.size w w' ∧ ∀ live rho, RepA w' Pi live rho v r :=
  h.mono fun e w' ⟨he, hw⟩ => ⟨v, he, by rw [hw]; exact RowKit.Below.refl _ _, by rw [hw]; exact hr⟩
theorem libC : LibC (sems Tryd.prog) where
  join nn n g sep hn hl := by
    refine pure_of_calls (args := [strs nn n g, .str sep]) (enters_of f_strings_Join (by decide +kernel) rfl) fun w Pi vs hb hs hr => ?_
    obtain ⟨a, b, rfl, ha, hb'⟩ := vs2 hs hr
    cases str_inv hb'
    have hR : ∀ (w : World) live rho, RepA w Pi live rho (.string ⟨(Lib.join ((List.range n).map g) sep).toArray⟩) (.p (.str (Lib.join ((List.range n).map g) sep))) := fun w live rho => .p _ _ (.str _)
    by_cases h0 : n = 0
    · subst h0
      have he : Lib.join ((List.range 0).map g) sep = [] := by simp [Lib.join_nil]
      cases ha with
      | slnil => exact calls_str (Tryd.strings_Join_none none 0 ⟨sep.toArray⟩ w) (fun _ _ => .p _ _ (.str []))
      | sl _ bk off cap _ _ _ c hn hk hc h sp hsp => exact calls_str (Tryd.strings_Join_none _ cap ⟨sep.toArray⟩ w) (fun _ _ => .p _ _ (.str []))
    · cases ha with
      | slnil => exact absurd rfl h0
      | sl _ bk off cap _ _ _ c hcap hk hc h sp hsp =>
        obtain rfl := hsp (by omega)
        have hst : ∀ i, i < n → c i 0 = .string ⟨(g i).toArray⟩ := fun i hi => str_inv (h i 0 hi (by omega))
        have hm : (((List.range n).map fun i => (⟨(g i).toArray⟩ : ByteArray)).map (·.data.toList)) = (List.range n).map g := by simp
        have := Tryd.strings_Join bk off cap ((List.range n).map fun i => ⟨(g i).toArray⟩) ⟨sep.toArray⟩ w (fun j x hx => by
            simp only [List.getElem?_map, Option.map_eq_some_iff] at hx
            obtain ⟨i, hi, rfl⟩ := hx
            rw [List.getElem?_eq_some_iff] at hi
            obtain ⟨h1, h2⟩ := hi
            simp only [List.length_range] at h1
            simp only [List.getElem_range] at h2
            subst h2
            have := (hc j 0 h1 (by omega)).1
            rw [hst j h1] at this
            simpa using this)
          (World.block_lt_of_cell? w ⟨bk, off, none⟩ (by simpa using (hc 0 0 (by omega) (by omega)).1)) (by simpa using hn) (by simpa using hcap) (by rw [hm]; exact hl)
        rw [hm] at this
        simp only [List.length_map, List.length_range] at this
        exact this.mono fun e w' ⟨he, hbl⟩ => ⟨_, he, hbl, hR w'⟩
  indexByte s c := by
    refine pure_of_calls (args := [.str s, .v (.int .u8 c.toNat)]) (enters_of f_strings_IndexByte (by decide +kernel) rfl) fun w Pi vs hb hs hr => ?_
    obtain ⟨a, b, rfl, ha, hb'⟩ := vs2 hs hr
    cases str_inv ha
    cases hb'
    have := Tryd.strings_IndexByte ⟨s.toArray⟩ c.toNat w
    have e : (c.toNat : Int).toNat.toUInt8 = c := by simp
    rw [e] at this
    exact calls_str this fun _ _ => .p _ _ (.v _)
  cutPrefix s p := by
    refine pure_of_calls (args := [.str s, .str p]) (enters_of f_strings_CutPrefix (by decide +kernel) rfl) fun w Pi vs hb hs hr => ?_
    obtain ⟨a, b, rfl, ha, hb'⟩ := vs2 hs hr
    cases str_inv ha; cases str_inv hb'
    refine calls_str (Tryd.strings_CutPrefix ⟨s.toArray⟩ ⟨p.toArray⟩ w) fun _ _ => .tup _ _ rfl fun i hi => ?_
    match i, hi with
    | 0, _ => exact .p _ _ (.str _)
    | 1, _ => exact .p _ _ (.bb _)
  hasPrefix s p := by
    refine pure_of_calls (args := [.str s, .str p]) (enters_of f_strings_HasPrefix (by decide +kernel) rfl) fun w Pi vs hb hs hr => ?_
    obtain ⟨a, b, rfl, ha, hb'⟩ := vs2 hs hr
    cases str_inv ha; cases str_inv hb'
    exact calls_str (Tryd.strings_HasPrefix ⟨s.toArray⟩ ⟨p.toArray⟩ w) fun _ _ => .p _ _ (.bb _)
  trimPrefix s p := by
    refine pure_of_calls (args := [.str s, .str p]) (enters_of f_strings_TrimPrefix (by decide +kernel) rfl) fun w Pi vs hb hs hr => ?_
    obtain ⟨a, b, rfl, ha, hb'⟩ := vs2 hs hr
    cases str_inv ha; cases str_inv hb'
    exact calls_str (Tryd.strings_TrimPrefix ⟨s.toArray⟩ ⟨p.toArray⟩ w) fun _ _ => .p _ _ (.str _)
  index1 s c := by
    refine pure_of_calls (args := [.str s, .str [c]]) (enters_of f_strings_Index (by decide +kernel) rfl) fun w Pi vs hb hs hr => ?_
    obtain ⟨a, b, rfl, ha, hb'⟩ := vs2 hs hr
    cases str_inv ha; cases str_inv hb'
    exact calls_str (Tryd.strings_Index_one ⟨s.toArray⟩ c w) fun _ _ => .p _ _ (.v _)
  clone nn n g hn := by
    refine own_of_calls (args := [strs nn n g]) (enters_of f_slices_Clone_sl_string_string (by decide +kernel) rfl) (fun i hi => rfl) fun w Pi vs hb hs hr => ?_
    obtain ⟨a, rfl, ha⟩ := vs1 hs hr
    cases ha with
    | slnil => exact (Tryd.slices_Clone_string_nil 0 0 w).mono fun x w' ⟨he, hw⟩ => ⟨_, he, by rw [hw]; exact RowKit.Below.refl _ _, .inl ⟨rfl, rfl⟩⟩
    | sl _ bk off cap _ _ _ c hcap hk hc h sp hsp =>
      by_cases h0 : n = 0
      · subst h0
        refine (Tryd.slices_Clone_string_zero ⟨bk, off, sp⟩ cap w).mono ?_
        rintro e w' ⟨v', he, ho, _, hbl⟩
        exact ⟨v', he, hbl, owns_vec (xs := []) rfl (fun i hi => absurd hi (by omega)) ho⟩
      · obtain rfl := hsp (by omega)
        have hst : ∀ i, i < n → c i 0 = .string ⟨(g i).toArray⟩ := fun i hi => str_inv (h i 0 hi (by omega))
        refine (Tryd.slices_Clone_string bk off n cap ((List.range n).map fun i => ⟨(g i).toArray⟩) w (by simp) (by omega) fun j hj => ?_).mono ?_
        · simp only [List.length_map, List.length_range] at hj
          have := (hc j 0 hj (by omega)).1
          rw [hst j hj] at this
          simp only [Nat.mul_one, Nat.add_zero] at this
          rw [this]
          simp [hj]
        · rintro e w' ⟨v', he, ho, _, hbl⟩
          refine ⟨v', he, hbl, owns_vec (xs := ((List.range n).map fun i => (⟨(g i).toArray⟩ : ByteArray)).take n) (by simp) (fun i hi => ?_) ho⟩
          simp [hi]
section
variable {S : Sems} (hS : Good S Tryd.prog) (hL : LibC S)
include hS hL
def m_strings_Join (N : Nat) (s : Sl Str) (t : Str) : Option Str :=
  if s.n ≤ 140737488355328 ∧ (Lib.join ((List.range s.n).map s.g) t).length ≤ 140737488355328 then some (Lib.join ((List.range s.n).map s.g) t) else none
theorem w_strings_Join {N : Nat} {s : Sl Str} {t : Str} {y : Str} (h : m_strings_Join N s t = some y) : FunO S k_strings_Join [.p (vSl 1 cS s), .p (.str t)] [] (.p (.str y)) [] [] := by
  simp only [m_strings_Join, Option.ite_none_right_eq_some, Option.some.injEq] at h
  obtain ⟨⟨h1, h2⟩, rfl⟩ := h
  exact hL.join false s.n s.g t h1 h2
def m_strings_IndexByte (N : Nat) (s : Str) (t : Int) : Option Int :=
  if 0 ≤ t ∧ t < 256 then some (Lib.indexByte s (UInt8.ofNat t.toNat)) else none
theorem w_strings_IndexByte {N : Nat} {s : Str} {t : Int} {y : Int} (h : m_strings_IndexByte N s t = some y) : FunO S k_strings_IndexByte [.p (.str s), .p (pI .u8 t)] [] (.p (pI .i64 y)) [] [] := by
  simp only [m_strings_IndexByte, Option.ite_none_right_eq_some, Option.some.injEq] at h
  obtain ⟨h1, rfl⟩ := h
  have := hL.indexByte s (UInt8.ofNat t.toNat)
  have e : (((UInt8.ofNat t.toNat).toNat : Nat) : Int) = t := by
    have : (UInt8.ofNat t.toNat).toNat = t.toNat := UInt8.toNat_ofNat_of_lt' (by show t.toNat < 256; omega)
    omega
  rw [e] at this
  exact this
def m_strings_CutPrefix (N : Nat) (s t : Str) : Option (Str × Bool) := some (Lib.trimPrefix s t, Lib.hasPrefix s t)
theorem w_strings_CutPrefix {N : Nat} {s t : Str} {y : Str × Bool} (h : m_strings_CutPrefix N s t = some y) : FunO S k_strings_CutPrefix [.p (.str s), .p (.str t)] [] (.tup [.p (.str y.1), .p (.bb y.2)]) [] [] := by
  cases h
  exact hL.cutPrefix s t
def m_strings_HasPrefix (N : Nat) (s t : Str) : Option Bool := some (Lib.hasPrefix s t)
theorem w_strings_HasPrefix {N : Nat} {s t : Str} {y : Bool} (h : m_strings_HasPrefix N s t = some y) : FunO S k_strings_HasPrefix [.p (.str s), .p (.str t)] [] (.p (.bb y)) [] [] := by
  cases h
  exact hL.hasPrefix s t
def m_strings_TrimPrefix (N : Nat) (s t : Str) : Option Str := some (Lib.trimPrefix s t)
theorem w_strings_TrimPrefix {N : Nat} {s t : Str} {y : Str} (h : m_strings_TrimPrefix N s t = some y) : FunO S k_strings_TrimPrefix [.p (.str s), .p (.str t)] [] (.p (.str y)) [] [] := by
  cases h
  exact hL.trimPrefix s t
def m_strings_Index (N : Nat) (s t : Str) : Option Int := match t with
  | [c] => some (Lib.indexByte s c)
  | _ => none
theorem w_strings_Index {N : Nat} {s t : Str} {y : Int} (h : m_strings_Index N s t = some y) : FunO S k_strings_Index [.p (.str s), .p (.str t)] [] (.p (pI .i64 y)) [] [] := by
  unfold m_strings_Index at h
  split at h
  · cases h; exact hL.index1 s _
  · cases h
def m_slices_Clone_sl_string_string (N : Nat) (s : Sl Str) : Option (Sl Str) := if s.n ≤ 1000000000000 then some s else none
theorem w_slices_Clone_sl_string_string {N : Nat} {s y : Sl Str} (h : m_slices_Clone_sl_string_string N s = some y) : FunO S k_slices_Clone_sl_string_string [.p (vSl 1 cS s)] [] (.vec 0) [.vec t_string 1 y.n (fun i => cS (y.g i)) true] [] := by
  simp only [m_slices_Clone_sl_string_string, Option.ite_none_right_eq_some, Option.some.injEq] at h
  obtain ⟨h1, rfl⟩ := h
  exact hL.clone false s.n s.g h1
def m_slices_Clone_sl_api_Named_api_Named (N : Nat) (s : Sl Named) : Option (Sl Named) := if (0 + s.n) * 24 ≤ 140737488355328 ∧ 0 + s.n ≤ 140737488355328 then some s else none
theorem w_slices_Clone_sl_api_Named_api_Named {N : Nat} {s y : Sl Named} (h : m_slices_Clone_sl_api_Named_api_Named N s = some y) : FunO S k_slices_Clone_sl_api_Named_api_Named [.p (vSl 3 c_Named s)] [] (.vec 0) [.vec t_api_Named 3 y.n (fun i => c_Named (y.g i)) true] [] := by
  unfold m_slices_Clone_sl_api_Named_api_Named at h
  obtain ⟨c1, h⟩ := chkE h
  obtain rfl := someI h
  refine K_start hS f_slices_Clone_sl_api_Named_api_Named ?_
  refine K_nil hS trivial 3 (k := 3) (n := s.n) (f := fun i => c_Named (s.g i)) (fun h0 => ?_) ?_
  · obtain ⟨n, g⟩ := s
    obtain rfl : n = 0 := h0
    exact K_retO hS trivial ⟨[(2, .vec 3700)], [(3700, .vec t_api_Named 3 0 (fun i => c_Named (g i)) true)]⟩ [3700] (ids := []) ⟨rfl, rfl, rfl⟩
  · exact K_retO hS (And.intro (rfl : true = true) c1) ⟨[(2, .vec 8000)], [(8000, .vec t_api_Named 3 s.n (fun i => c_Named (s.g i)) true)]⟩ [8000] (ids := [(8000, 8000)]) ⟨rfl, rfl, rfl⟩
      (hle := klR [(0, .fn (0 + s.n) s.n (appF 0 (lookF [.str [], pI .u32 0, pI .u32 0] []) (fun i => c_Named (s.g i))) (fun i => c_Named (s.g i)))] (al1 ⟨Nat.zero_add _, fun i _ => by simp [appF]⟩ al0))
end
end Go.AM
set_option linter.unusedVariables false
set_option linter.unusedSectionVars false
namespace Go.AM
open Go.Proofs
set_option maxRecDepth 10000
set_option maxHeartbeats 2000000
variable {S : Sems} (hS : Good S Tryd.prog) (hL : LibC S)
include hS hL
def m_ablautref03_letter (N : Nat) (p_c : Int) : Option Bool :=
  some (((decide (97 ≤ p_c)) && (decide (p_c ≤ 122))) || ((decide (48 ≤ p_c)) && (decide (p_c ≤ 57))))
theorem w_ablautref03_letter {N : Nat} {p_c : Int}   {y : Bool} (h : m_ablautref03_letter N p_c = some y) :
    FunO S k_ablautref03_letter [(.p (pI .u8 p_c))] [] (.p (.bb y)) ([]) [] := by
  unfold m_ablautref03_letter at h
  refine K_start hS f_ablautref03_letter ?_
  obtain ⟨t1, ht1⟩ : ∃ x : Bool, x = (((decide (97 ≤ p_c)) && (decide (p_c ≤ 122))) || ((decide (48 ≤ p_c)) && (decide (p_c ≤ 57)))) := ⟨_, rfl⟩
  refine K_cut hS trivial (fnPost_up hS) 0 ⟨[(2, (.p (.bb t1)))], []⟩ (fun M1 hb1 => ?_) ?_
  · refine K_guard hS trivial (b := decide (97 ≤ p_c)) (fun c5 => ?_) (fun c5 => ?_)
    · refine K_guard hS trivial (b := decide (p_c ≤ 122)) (fun c6 => ?_) (fun c6 => ?_)
      · exact hb1 _ [] _ trivial (by kernel_rfl) (by kernel_rfl) (klR [(0, .eq (.bb true) (.bb t1))] (al1 (by simp only [ht1, c5, c6, Leaf.ok, pm, if_true, if_false]) al0))
      · refine K_guard hS trivial (b := decide (48 ≤ p_c)) (fun c7 => ?_) (fun c7 => ?_)
        · exact hb1 _ [] _ trivial (by kernel_rfl) (by kernel_rfl) (klR [(0, .eq (.bb (decide (p_c ≤ 57))) (.bb t1))] (al1 (by simp only [ht1, c5, c6, c7, Leaf.ok, pm, if_true, if_false]) al0))
        · exact hb1 _ [] _ trivial (by kernel_rfl) (by kernel_rfl) (klR [(0, .eq (.bb false) (.bb t1))] (al1 (by simp only [ht1, c5, c6, c7, Leaf.ok, pm, if_true, if_false]) al0))
    · refine K_guard hS trivial (b := decide (48 ≤ p_c)) (fun c8 => ?_) (fun c8 => ?_)
      · exact hb1 _ [] _ trivial (by kernel_rfl) (by kernel_rfl) (klR [(0, .eq (.bb (decide (p_c ≤ 57))) (.bb t1))] (al1 (by simp only [ht1, c5, c8, Leaf.ok, pm, if_true, if_false]) al0))
      · exact hb1 _ [] _ trivial (by kernel_rfl) (by kernel_rfl) (klR [(0, .eq (.bb false) (.bb t1))] (al1 (by simp only [ht1, c5, c8, Leaf.ok, pm, if_true, if_false]) al0))
  · subst ht1
    obtain rfl := someI h
    exact K_ret hS trivial [] ⟨rfl, rfl, rfl⟩
def m_ablautref03_big (N : Nat) (p_c : Int) : Option Bool :=
  some (((((((((decide (65 ≤ p_c)) && (decide (p_c ≤ 90))) || (p_c == 64)) || (p_c == 63)) || (p_c == 33)) || (p_c == 38)) || (p_c == 42)) || (p_c == 36)) || (p_c == 37))
theorem w_ablautref03_big {N : Nat} {p_c : Int}   {y : Bool} (h : m_ablautref03_big N p_c = some y) :
    FunO S k_ablautref03_big [(.p (pI .u8 p_c))] [] (.p (.bb y)) ([]) [] := by
  unfold m_ablautref03_big at h
  refine K_start hS f_ablautref03_big ?_
  obtain ⟨t1, ht1⟩ : ∃ x : Bool, x = (((((((((decide (65 ≤ p_c)) && (decide (p_c ≤ 90))) || (p_c == 64)) || (p_c == 63)) || (p_c == 33)) || (p_c == 38)) || (p_c == 42)) || (p_c == 36)) || (p_c == 37)) := ⟨_, rfl⟩
  refine K_cut hS trivial (fnPost_up hS) 0 ⟨[(2, (.p (.bb t1)))], []⟩ (fun M1 hb1 => ?_) ?_
  · refine K_guard hS trivial (b := decide (65 ≤ p_c)) (fun c15 => ?_) (fun c15 => ?_)
    · refine K_guard hS trivial (b := decide (p_c ≤ 90)) (fun c16 => ?_) (fun c16 => ?_)
      · exact hb1 _ [] _ trivial (by kernel_rfl) (by kernel_rfl) (klR [(0, .eq (.bb true) (.bb t1))] (al1 (by simp only [ht1, c15, c16, Leaf.ok, pm, if_true, if_false]) al0))
      · refine K_guard hS trivial (b := p_c == 64) (fun c17 => ?_) (fun c17 => ?_)
        · exact hb1 _ [] _ trivial (by kernel_rfl) (by kernel_rfl) (klR [(0, .eq (.bb true) (.bb t1))] (al1 (by simp only [ht1, c15, c16, c17, Leaf.ok, pm, if_true, if_false]) al0))
        · refine K_guard hS trivial (b := p_c == 63) (fun c18 => ?_) (fun c18 => ?_)
          · exact hb1 _ [] _ trivial (by kernel_rfl) (by kernel_rfl) (klR [(0, .eq (.bb true) (.bb t1))] (al1 (by simp only [ht1, c15, c16, c17, c18, Leaf.ok, pm, if_true, if_false]) al0))
          · refine K_guard hS trivial (b := p_c == 33) (fun c19 => ?_) (fun c19 => ?_)
            · exact hb1 _ [] _ trivial (by kernel_rfl) (by kernel_rfl) (klR [(0, .eq (.bb true) (.bb t1))] (al1 (by simp only [ht1, c15, c16, c17, c18, c19, Leaf.ok, pm, if_true, if_false]) al0))
            · refine K_guard hS trivial (b := p_c == 38) (fun c20 => ?_) (fun c20 => ?_)
              · exact hb1 _ [] _ trivial (by kernel_rfl) (by kernel_rfl) (klR [(0, .eq (.bb true) (.bb t1))] (al1 (by simp only [ht1, c15, c16, c17, c18, c19, c20, Leaf.ok, pm, if_true, if_false]) al0))
              · refine K_guard hS trivial (b := p_c == 42) (fun c21 => ?_) (fun c21 => ?_)
                · exact hb1 _ [] _ trivial (by kernel_rfl) (by kernel_rfl) (klR [(0, .eq (.bb true) (.bb t1))] (al1 (by simp only [ht1, c15, c16, c17, c18, c19, c20, c21, Leaf.ok, pm, if_true, if_false]) al0))
                · refine K_guard hS trivial (b := p_c == 36) (fun c22 => ?_) (fun c22 => ?_)
                  · exact hb1 _ [] _ trivial (by kernel_rfl) (by kernel_rfl) (klR [(0, .eq (.bb true) (.bb t1))] (al1 (by simp only [ht1, c15, c16, c17, c18, c19, c20, c21, c22, Leaf.ok, pm, if_true, if_false]) al0))
                  · exact hb1 _ [] _ trivial (by kernel_rfl) (by kernel_rfl) (klR [(0, .eq (.bb (p_c == 37)) (.bb t1))] (al1 (by simp only [ht1, c15, c16, c17, c18, c19, c20, c21, c22, Leaf.ok, pm, if_true, if_false]) al0))
    · refine K_guard hS trivial (b := p_c == 64) (fun c23 => ?_) (fun c23 => ?_)
      · exact hb1 _ [] _ trivial (by kernel_rfl) (by kernel_rfl) (klR [(0, .eq (.bb true) (.bb t1))] (al1 (by simp only [ht1, c15, c23, Leaf.ok, pm, if_true, if_false]) al0))
      · refine K_guard hS trivial (b := p_c == 63) (fun c24 => ?_) (fun c24 => ?_)
        · exact hb1 _ [] _ trivial (by kernel_rfl) (by kernel_rfl) (klR [(0, .eq (.bb true) (.bb t1))] (al1 (by simp only [ht1, c15, c23, c24, Leaf.ok, pm, if_true, if_false]) al0))
        · refine K_guard hS trivial (b := p_c == 33) (fun c25 => ?_) (fun c25 => ?_)
          · exact hb1 _ [] _ trivial (by kernel_rfl) (by kernel_rfl) (klR [(0, .eq (.bb true) (.bb t1))] (al1 (by simp only [ht1, c15, c23, c24, c25, Leaf.ok, pm, if_true, if_false]) al0))
          · refine K_guard hS trivial (b := p_c == 38) (fun c26 => ?_) (fun c26 => ?_)
            · exact hb1 _ [] _ trivial (by kernel_rfl) (by kernel_rfl) (klR [(0, .eq (.bb true) (.bb t1))] (al1 (by simp only [ht1, c15, c23, c24, c25, c26, Leaf.ok, pm, if_true, if_false]) al0))
            · refine K_guard hS trivial (b := p_c == 42) (fun c27 => ?_) (fun c27 => ?_)
              · exact hb1 _ [] _ trivial (by kernel_rfl) (by kernel_rfl) (klR [(0, .eq (.bb true) (.bb t1))] (al1 (by simp only [ht1, c15, c23, c24, c25, c26, c27, Leaf.ok, pm, if_true, if_false]) al0))
              · refine K_guard hS trivial (b := p_c == 36) (fun c28 => ?_) (fun c28 => ?_)
                · exact hb1 _ [] _ trivial (by kernel_rfl) (by kernel_rfl) (klR [(0, .eq (.bb true) (.bb t1))] (al1 (by simp only [ht1, c15, c23, c24, c25, c26, c27, c28, Leaf.ok, pm, if_true, if_false]) al0))
                · exact hb1 _ [] _ trivial (by kernel_rfl) (by kernel_rfl) (klR [(0, .eq (.bb (p_c == 37)) (.bb t1))] (al1 (by simp only [ht1, c15, c23, c24, c25, c26, c27, c28, Leaf.ok, pm, if_true, if_false]) al0))
  · subst ht1
    obtain rfl := someI h
    exact K_ret hS trivial [] ⟨rfl, rfl, rfl⟩
def m_ablautref01_Valid (N : Nat) (p_s : Sound) : Option Bool :=
  fix1 N (fun self1 (x1 : Int) =>
      if (decide (x1 < 32)) = true then
        if ((0 : Int) ≤ x1 ∧ (0 : Int) ≤ x1) then
          if ((((bitI .and .u32 (shI .shr .u32 p_s.Plus x1) 1) == 1) && ((bitI .and .u32 (shI .shr .u32 p_s.Minus x1) 1) == 1)) || ((((bitI .and .u32 (shI .shr .u32 p_s.Plus x1) 1) == 1) || ((bitI .and .u32 (shI .shr .u32 p_s.Minus x1) 1) == 1)) && (decide (24 ≤ x1)))) = true then
            some false
          else
            self1 (IntKind.wrap .i64 (x1 + 1))
        else none
      else
        some true
    ) 0
theorem w_ablautref01_Valid {N : Nat} {p_s : Sound}   {y : Bool} (h : m_ablautref01_Valid N p_s = some y) :
    FunO S k_ablautref01_Valid [(.p (.agg (c_Sound p_s)))] [] (.p (.bb y)) ([]) [] := by
  unfold m_ablautref01_Valid at h
  refine K_start hS f_ablautref01_Valid ?_
  refine K_fix1 hS trivial h (fun x1 => ⟨[(3, (.p (pI .i64 x1))), (1, (.reg 2000 0))], [(2000, (.cells [(.p (pI .u32 p_s.Plus)), (.p (pI .u32 p_s.Minus))]))]⟩) (ids := [(2000, 2000)]) (fun _ _ _ _ _ self1 x1 hb3 h => ?_)
  refine K_cond hS trivial (b := decide (x1 < 32)) (fun c26 => ?_) (fun c26 => ?_)
  · replace h := itT c26 h
    obtain ⟨c27, h⟩ := chkE h
    obtain ⟨t3, ht3⟩ : ∃ x : Bool, x = ((((bitI .and .u32 (shI .shr .u32 p_s.Plus x1) 1) == 1) && ((bitI .and .u32 (shI .shr .u32 p_s.Minus x1) 1) == 1)) || ((((bitI .and .u32 (shI .shr .u32 p_s.Plus x1) 1) == 1) || ((bitI .and .u32 (shI .shr .u32 p_s.Minus x1) 1) == 1)) && (decide (24 ≤ x1)))) := ⟨_, rfl⟩
    refine K_cut hS c27 (fnPost_up hS) 0 ⟨[(35, (.p (.bb t3))), (3, (.p (pI .i64 x1))), (1, (.reg 2000 0))], [(2000, (.cells [(.p (pI .u32 p_s.Plus)), (.p (pI .u32 p_s.Minus))]))]⟩ (fun M3 hb4 => ?_) ?_
    · refine K_guard hS trivial (b := (bitI .and .u32 (shI .shr .u32 p_s.Plus x1) 1) == 1) (fun c33 => ?_) (fun c33 => ?_)
      · refine K_guard hS trivial (b := (bitI .and .u32 (shI .shr .u32 p_s.Minus x1) 1) == 1) (fun c34 => ?_) (fun c34 => ?_)
        · exact hb4 _ [(2000, 2000)] _ trivial (by kernel_rfl) (by kernel_rfl) (klR [(0, .eq (.bb true) (.bb t3))] (al1 (by simp only [ht3, c33, c34, Leaf.ok, pm, if_true, if_false]) al0))
        · refine K_guard hS trivial (b := (bitI .and .u32 (shI .shr .u32 p_s.Plus x1) 1) == 1) (fun c35 => ?_) (fun c35 => ?_)
          · exact hb4 _ [(2000, 2000)] _ trivial (by kernel_rfl) (by kernel_rfl) (klR [(0, .eq (.bb (decide (24 ≤ x1))) (.bb t3))] (al1 (by simp only [ht3, c33, c34, Leaf.ok, pm, if_true, if_false]) al0))
          · exact Bool.noConfusion (c33.symm.trans c35)
      · refine K_guard hS trivial (b := (bitI .and .u32 (shI .shr .u32 p_s.Plus x1) 1) == 1) (fun c36 => ?_) (fun c36 => ?_)
        · exact Bool.noConfusion (c33.symm.trans c36)
        · refine K_guard hS trivial (b := (bitI .and .u32 (shI .shr .u32 p_s.Minus x1) 1) == 1) (fun c37 => ?_) (fun c37 => ?_)
          · exact hb4 _ [(2000, 2000)] _ trivial (by kernel_rfl) (by kernel_rfl) (klR [(0, .eq (.bb (decide (24 ≤ x1))) (.bb t3))] (al1 (by simp only [ht3, c33, c37, Leaf.ok, pm, if_true, if_false]) al0))
          · exact hb4 _ [(2000, 2000)] _ trivial (by kernel_rfl) (by kernel_rfl) (klR [(0, .eq (.bb false) (.bb t3))] (al1 (by simp only [ht3, c33, c37, Leaf.ok, pm, if_true, if_false]) al0))
    · subst ht3
      refine K_cond hS trivial (b := ((((bitI .and .u32 (shI .shr .u32 p_s.Plus x1) 1) == 1) && ((bitI .and .u32 (shI .shr .u32 p_s.Minus x1) 1) == 1)) || ((((bitI .and .u32 (shI .shr .u32 p_s.Plus x1) 1) == 1) || ((bitI .and .u32 (shI .shr .u32 p_s.Minus x1) 1) == 1)) && (decide (24 ≤ x1))))) (fun c38 => ?_) (fun c38 => ?_)
      · replace h := itT c38 h
        obtain rfl := someI h
        exact K_ret hS trivial [] ⟨rfl, rfl, rfl⟩
      · replace h := itF c38 h
        exact hb3 _ [(2000, 2000)] _ (IntKind.wrap .i64 (x1 + 1)) trivial h
  · replace h := itF c26 h
    obtain rfl := someI h
    exact K_ret hS trivial [] ⟨rfl, rfl, rfl⟩
def m_ablautref01_feature (N : Nat) (p_f : Int) : Option Bool :=
  some ((decide (0 ≤ p_f)) && (decide (p_f < 24)))
theorem w_ablautref01_feature {N : Nat} {p_f : Int}   {y : Bool} (h : m_ablautref01_feature N p_f = some y) :
    FunO S k_ablautref01_feature [(.p (pI .i64 p_f))] [] (.p (.bb y)) ([]) [] := by
  unfold m_ablautref01_feature at h
  refine K_start hS f_ablautref01_feature ?_
  obtain ⟨t1, ht1⟩ : ∃ x : Bool, x = ((decide (0 ≤ p_f)) && (decide (p_f < 24))) := ⟨_, rfl⟩
  refine K_cut hS trivial (fnPost_up hS) 0 ⟨[(2, (.p (.bb t1)))], []⟩ (fun M1 hb1 => ?_) ?_
  · refine K_guard hS trivial (b := decide (0 ≤ p_f)) (fun c2 => ?_) (fun c2 => ?_)
    · exact hb1 _ [] _ trivial (by kernel_rfl) (by kernel_rfl) (klR [(0, .eq (.bb (decide (p_f < 24))) (.bb t1))] (al1 (by simp only [ht1, c2, Leaf.ok, pm, if_true, if_false]) al0))
    · exact hb1 _ [] _ trivial (by kernel_rfl) (by kernel_rfl) (klR [(0, .eq (.bb false) (.bb t1))] (al1 (by simp only [ht1, c2, Leaf.ok, pm, if_true, if_false]) al0))
  · subst ht1
    obtain rfl := someI h
    exact K_ret hS trivial [] ⟨rfl, rfl, rfl⟩
def m_ablautref01_Get (N : Nat) (p_s : Sound) (p_f : Int) : Option Int :=
  (m_ablautref01_Valid N p_s).bind fun y1 =>
  lt (fun (z1 : Bool) =>
      if z1 = true then
        some 0
      else
        if (0 : Int) ≤ p_f then
          if ((bitI .and .u32 (shI .shr .u32 p_s.Plus p_f) 1) == 1) = true then
            some 1
          else
            if (0 : Int) ≤ p_f then
              if ((bitI .and .u32 (shI .shr .u32 p_s.Minus p_f) 1) == 1) = true then
                some (-1)
              else
                some 0
            else none
        else none
    ) fun k1 =>
    if (!y1) = true then
      k1 true
    else
      (m_ablautref01_feature N p_f).bind fun y3 =>
      k1 (!y3)
theorem w_ablautref01_Get {N : Nat} {p_s : Sound} {p_f : Int}   {y : Int} (h : m_ablautref01_Get N p_s p_f = some y) :
    FunO S k_ablautref01_Get [(.p (.agg (c_Sound p_s))), (.p (pI .i64 p_f))] [] (.p (pI .i64 y)) ([]) [] := by
  unfold m_ablautref01_Get at h
  refine K_start hS f_ablautref01_Get ?_
  obtain ⟨y1, e1, h⟩ := bindE h
  refine K_call hS [] trivial (w_ablautref01_Valid hS hL e1) ?_
  refine K_lt hS trivial (fnPost_up hS) h 0 (fun z1 => ⟨[(12, (.p (.bb z1))), (2, (.reg 3000 0)), (1, (.p (pI .i64 p_f)))], [(3000, (.cells [(.p (pI .u32 p_s.Plus)), (.p (pI .u32 p_s.Minus))]))]⟩) (fun M1 k1 hb1 h => ?_) (fun z1 h => ?_)
  · refine K_guard hS trivial (b := !y1) (fun c3 => ?_) (fun c3 => ?_)
    · replace h := itT c3 h
      exact hb1 _ [(3000, 3000)] _ true trivial h
    · replace h := itF c3 h
      obtain ⟨y3, e3, h⟩ := bindE h
      refine K_call hS [] trivial (w_ablautref01_feature hS hL e3) ?_
      exact hb1 _ [(3000, 3000)] _ (!y3) trivial h
  · refine K_cond hS trivial (b := z1) (fun c4 => ?_) (fun c4 => ?_)
    · replace h := itT c4 h
      obtain rfl := someI h
      exact K_ret hS trivial [] ⟨rfl, rfl, rfl⟩
    · replace h := itF c4 h
      obtain ⟨c5, h⟩ := chkE h
      refine K_cond hS c5 (b := (bitI .and .u32 (shI .shr .u32 p_s.Plus p_f) 1) == 1) (fun c6 => ?_) (fun c6 => ?_)
      · replace h := itT c6 h
        obtain rfl := someI h
        exact K_ret hS trivial [] ⟨rfl, rfl, rfl⟩
      · replace h := itF c6 h
        obtain ⟨c7, h⟩ := chkE h
        refine K_cond hS c7 (b := (bitI .and .u32 (shI .shr .u32 p_s.Minus p_f) 1) == 1) (fun c8 => ?_) (fun c8 => ?_)
        · replace h := itT c8 h
          obtain rfl := someI h
          exact K_ret hS trivial [] ⟨rfl, rfl, rfl⟩
        · replace h := itF c8 h
          obtain rfl := someI h
          exact K_ret hS trivial [] ⟨rfl, rfl, rfl⟩
def m_ablautref01_put (N : Nat) (p_s : Sound) (p_f : Int) (p_v : Int) : Option Sound :=
  if (0 : Int) ≤ p_f then
    if (p_v == 1) = true then
      if (p_v == (-1)) = true then
        some (⟨bitI .or .u32 (bitI .andNot .u32 p_s.Plus (shI .shl .u32 1 p_f)) (shI .shl .u32 1 p_f), bitI .or .u32 (bitI .andNot .u32 p_s.Minus (shI .shl .u32 1 p_f)) (shI .shl .u32 1 p_f)⟩ : Sound)
      else
        some (⟨bitI .or .u32 (bitI .andNot .u32 p_s.Plus (shI .shl .u32 1 p_f)) (shI .shl .u32 1 p_f), bitI .andNot .u32 p_s.Minus (shI .shl .u32 1 p_f)⟩ : Sound)
    else
      if (p_v == (-1)) = true then
        some (⟨bitI .andNot .u32 p_s.Plus (shI .shl .u32 1 p_f), bitI .or .u32 (bitI .andNot .u32 p_s.Minus (shI .shl .u32 1 p_f)) (shI .shl .u32 1 p_f)⟩ : Sound)
      else
        some (⟨bitI .andNot .u32 p_s.Plus (shI .shl .u32 1 p_f), bitI .andNot .u32 p_s.Minus (shI .shl .u32 1 p_f)⟩ : Sound)
  else none
theorem w_ablautref01_put {N : Nat} {p_s : Sound} {p_f : Int} {p_v : Int}   {y : Sound} (h : m_ablautref01_put N p_s p_f p_v = some y) :
    FunO S k_ablautref01_put [(.p (.agg (c_Sound p_s))), (.p (pI .i64 p_f)), (.p (pI .i64 p_v))] [] (.p (.agg (c_Sound y))) ([]) [] := by
  unfold m_ablautref01_put at h
  refine K_start hS f_ablautref01_put ?_
  obtain ⟨c1, h⟩ := chkE h
  refine K_cond hS c1 (b := p_v == 1) (fun c2 => ?_) (fun c2 => ?_)
  · replace h := itT c2 h
    refine K_cond hS trivial (b := p_v == (-1)) (fun c3 => ?_) (fun c3 => ?_)
    · replace h := itT c3 h
      obtain rfl := someI h
      exact K_ret hS trivial [] ⟨rfl, rfl, rfl⟩
    · replace h := itF c3 h
      obtain rfl := someI h
      exact K_ret hS trivial [] ⟨rfl, rfl, rfl⟩
  · replace h := itF c2 h
    refine K_cond hS trivial (b := p_v == (-1)) (fun c4 => ?_) (fun c4 => ?_)
    · replace h := itT c4 h
      obtain rfl := someI h
      exact K_ret hS trivial [] ⟨rfl, rfl, rfl⟩
    · replace h := itF c4 h
      obtain rfl := someI h
      exact K_ret hS trivial [] ⟨rfl, rfl, rfl⟩
def m_ablautref01_With (N : Nat) (p_s : Sound) (p_f : Int) (p_v : Int) : Option (Sound × Int) :=
  (m_ablautref01_Valid N p_s).bind fun y1 =>
  if (!y1) = true then
    some ((⟨0, 0⟩ : Sound), 14)
  else
    (m_ablautref01_feature N p_f).bind fun y2 =>
    if (!y2) = true then
      some ((⟨0, 0⟩ : Sound), 3)
    else
      if ((decide (p_v < (-1))) || (decide (1 < p_v))) = true then
        some ((⟨0, 0⟩ : Sound), 2)
      else
        (m_ablautref01_put N p_s p_f p_v).bind fun y3 =>
        some (y3, 0)
theorem w_ablautref01_With {N : Nat} {p_s : Sound} {p_f : Int} {p_v : Int}   {y : (Sound × Int)} (h : m_ablautref01_With N p_s p_f p_v = some y) :
    FunO S k_ablautref01_With [(.p (.agg (c_Sound p_s))), (.p (pI .i64 p_f)), (.p (pI .i64 p_v))] [] (.tup [(.p (.agg (c_Sound y.1))), (.p (pI .i64 y.2))]) ([]) [] := by
  unfold m_ablautref01_With at h
  refine K_start hS f_ablautref01_With ?_
  obtain ⟨y1, e1, h⟩ := bindE h
  refine K_call hS [] trivial (w_ablautref01_Valid hS hL e1) ?_
  refine K_cond hS trivial (b := !y1) (fun c1 => ?_) (fun c1 => ?_)
  · replace h := itT c1 h
    obtain rfl := someI h
    exact K_ret hS trivial [] ⟨rfl, rfl, rfl⟩
  · replace h := itF c1 h
    obtain ⟨y2, e2, h⟩ := bindE h
    refine K_call hS [] trivial (w_ablautref01_feature hS hL e2) ?_
    refine K_cond hS trivial (b := !y2) (fun c2 => ?_) (fun c2 => ?_)
    · replace h := itT c2 h
      obtain rfl := someI h
      exact K_ret hS trivial [] ⟨rfl, rfl, rfl⟩
    · replace h := itF c2 h
      obtain ⟨t1, ht1⟩ : ∃ x : Bool, x = ((decide (p_v < (-1))) || (decide (1 < p_v))) := ⟨_, rfl⟩
      refine K_cut hS trivial (fnPost_up hS) 0 ⟨[(21, (.p (.bb t1))), (6, (.reg 7000 0)), (3, (.reg 4000 0)), (2, (.p (pI .i64 p_v))), (1, (.p (pI .i64 p_f)))], [(7000, (.cells [(.p (pI .u32 0)), (.p (pI .u32 0))])), (4000, (.cells [(.p (pI .u32 p_s.Plus)), (.p (pI .u32 p_s.Minus))]))]⟩ (fun M1 hb1 => ?_) ?_
      · refine K_guard hS trivial (b := decide (p_v < (-1))) (fun c4 => ?_) (fun c4 => ?_)
        · exact hb1 _ [(4000, 4000), (7000, 7000)] _ trivial (by kernel_rfl) (by kernel_rfl) (klR [(0, .eq (.bb true) (.bb t1))] (al1 (by simp only [ht1, c4, Leaf.ok, pm, if_true, if_false]) al0))
        · exact hb1 _ [(4000, 4000), (7000, 7000)] _ trivial (by kernel_rfl) (by kernel_rfl) (klR [(0, .eq (.bb (decide (1 < p_v))) (.bb t1))] (al1 (by simp only [ht1, c4, Leaf.ok, pm, if_true, if_false]) al0))
      · subst ht1
        refine K_cond hS trivial (b := ((decide (p_v < (-1))) || (decide (1 < p_v)))) (fun c5 => ?_) (fun c5 => ?_)
        · replace h := itT c5 h
          obtain rfl := someI h
          exact K_ret hS trivial [] ⟨rfl, rfl, rfl⟩
        · replace h := itF c5 h
          obtain ⟨y3, e3, h⟩ := bindE h
          refine K_call hS [] trivial (w_ablautref01_put hS hL e3) ?_
          obtain rfl := someI h
          exact K_ret hS trivial [] ⟨rfl, rfl, rfl⟩
def m_ablautref03_IsFeat (N : Nat) (p_s : Str) : Option Bool :=
  if (((decide (((p_s.length : Nat) : Int) < 1)) = false → ((decide (16 < ((p_s.length : Nat) : Int))) = false → ((0 : Int) ≤ 0 ∧ 0 < ((p_s.length : Nat) : Int)))) ∧ ((decide (((p_s.length : Nat) : Int) < 1)) = false → ((decide (16 < ((p_s.length : Nat) : Int))) = false → ((decide ((byteAt p_s 0) < 97)) = false → ((0 : Int) ≤ 0 ∧ 0 < ((p_s.length : Nat) : Int)))))) then
    if ((((decide (((p_s.length : Nat) : Int) < 1)) || (decide (16 < ((p_s.length : Nat) : Int)))) || (decide ((byteAt p_s 0) < 97))) || (decide (122 < (byteAt p_s 0)))) = true then
      some false
    else
      fix1 N (fun self1 (x1 : Int) =>
          if (decide (x1 < ((p_s.length : Nat) : Int))) = true then
            if ((0 : Int) ≤ x1 ∧ x1 < ((p_s.length : Nat) : Int)) then
              (m_ablautref03_letter N (byteAt p_s x1)).bind fun y3 =>
              if (!y3) = true then
                some false
              else
                self1 (IntKind.wrap .i64 (x1 + 1))
            else none
          else
            some true
        ) 0
  else none
theorem w_ablautref03_IsFeat {N : Nat} {p_s : Str}   {y : Bool} (h : m_ablautref03_IsFeat N p_s = some y) :
    FunO S k_ablautref03_IsFeat [(.p (.str p_s))] [] (.p (.bb y)) ([]) [] := by
  unfold m_ablautref03_IsFeat at h
  refine K_start hS f_ablautref03_IsFeat ?_
  obtain ⟨c4, h⟩ := chkE h
  obtain ⟨t1, ht1⟩ : ∃ x : Bool, x = ((((decide (((p_s.length : Nat) : Int) < 1)) || (decide (16 < ((p_s.length : Nat) : Int)))) || (decide ((byteAt p_s 0) < 97))) || (decide (122 < (byteAt p_s 0)))) := ⟨_, rfl⟩
  refine K_cut hS trivial (fnPost_up hS) 0 ⟨[(21, (.p (.bb t1))), (0, (.p (.str p_s)))], []⟩ (fun M1 hb1 => ?_) ?_
  · refine K_guard hS trivial (b := decide (((p_s.length : Nat) : Int) < 1)) (fun c5 => ?_) (fun c5 => ?_)
    · exact hb1 _ [] _ trivial (by kernel_rfl) (by kernel_rfl) (klR [(0, .eq (.bb true) (.bb t1))] (al1 (by simp only [ht1, c5, Leaf.ok, pm, if_true, if_false]) al0))
    · refine K_guard hS trivial (b := decide (16 < ((p_s.length : Nat) : Int))) (fun c6 => ?_) (fun c6 => ?_)
      · exact hb1 _ [] _ trivial (by kernel_rfl) (by kernel_rfl) (klR [(0, .eq (.bb true) (.bb t1))] (al1 (by simp only [ht1, c5, c6, Leaf.ok, pm, if_true, if_false]) al0))
      · refine K_guard hS (c4.1 c5 c6) (b := decide ((byteAt p_s 0) < 97)) (fun c7 => ?_) (fun c7 => ?_)
        · exact hb1 _ [] _ trivial (by kernel_rfl) (by kernel_rfl) (klR [(0, .eq (.bb true) (.bb t1))] (al1 (by simp only [ht1, c5, c6, c7, Leaf.ok, pm, if_true, if_false]) al0))
        · exact hb1 _ [] _ (c4.2 c5 c6 c7) (by kernel_rfl) (by kernel_rfl) (klR [(0, .eq (.bb (decide (122 < (byteAt p_s 0)))) (.bb t1))] (al1 (by simp only [ht1, c5, c6, c7, Leaf.ok, pm, if_true, if_false]) al0))
  · subst ht1
    refine K_cond hS trivial (b := ((((decide (((p_s.length : Nat) : Int) < 1)) || (decide (16 < ((p_s.length : Nat) : Int)))) || (decide ((byteAt p_s 0) < 97))) || (decide (122 < (byteAt p_s 0))))) (fun c8 => ?_) (fun c8 => ?_)
    · replace h := itT c8 h
      obtain rfl := someI h
      exact K_ret hS trivial [] ⟨rfl, rfl, rfl⟩
    · replace h := itF c8 h
      refine K_fix1 hS trivial h (fun x1 => ⟨[(3, (.p (pI .i64 x1))), (0, (.p (.str p_s)))], []⟩) (ids := []) (fun _ _ _ _ _ self1 x1 hb2 h => ?_)
      refine K_cond hS trivial (b := decide (x1 < ((p_s.length : Nat) : Int))) (fun c15 => ?_) (fun c15 => ?_)
      · replace h := itT c15 h
        obtain ⟨c16, h⟩ := chkE h
        obtain ⟨y3, e3, h⟩ := bindE h
        refine K_call hS [] c16 (w_ablautref03_letter hS hL e3) ?_
        refine K_cond hS trivial (b := !y3) (fun c17 => ?_) (fun c17 => ?_)
        · replace h := itT c17 h
          obtain rfl := someI h
          exact K_ret hS trivial [] ⟨rfl, rfl, rfl⟩
        · replace h := itF c17 h
          exact hb2 _ [] _ (IntKind.wrap .i64 (x1 + 1)) trivial h
      · replace h := itF c15 h
        obtain rfl := someI h
        exact K_ret hS trivial [] ⟨rfl, rfl, rfl⟩
def m_ablautref03_IsSymbol (N : Nat) (p_s : Str) : Option Bool :=
  if ((decide (((p_s.length : Nat) : Int) < 1)) || (decide (4 < ((p_s.length : Nat) : Int)))) = true then
    some false
  else
    fix1 N (fun self1 (x2 : Int) =>
        if (decide (x2 < ((p_s.length : Nat) : Int))) = true then
          if ((0 : Int) ≤ x2 ∧ x2 < ((p_s.length : Nat) : Int)) then
            (m_ablautref03_letter N (byteAt p_s x2)).bind fun y7 =>
            lt (fun (z3 : Bool) =>
                if z3 = true then
                  some false
                else
                  self1 (IntKind.wrap .i64 (x2 + 1))
              ) fun k3 =>
              if (!y7) = true then
                if ((0 : Int) ≤ x2 ∧ x2 < ((p_s.length : Nat) : Int)) then
                  (m_ablautref03_big N (byteAt p_s x2)).bind fun y9 =>
                  k3 (!y9)
                else none
              else
                k3 false
          else none
        else
          some true
      ) 0
theorem w_ablautref03_IsSymbol {N : Nat} {p_s : Str}   {y : Bool} (h : m_ablautref03_IsSymbol N p_s = some y) :
    FunO S k_ablautref03_IsSymbol [(.p (.str p_s))] [] (.p (.bb y)) ([]) [] := by
  unfold m_ablautref03_IsSymbol at h
  refine K_start hS f_ablautref03_IsSymbol ?_
  obtain ⟨t1, ht1⟩ : ∃ x : Bool, x = ((decide (((p_s.length : Nat) : Int) < 1)) || (decide (4 < ((p_s.length : Nat) : Int)))) := ⟨_, rfl⟩
  refine K_cut hS trivial (fnPost_up hS) 0 ⟨[(11, (.p (.bb t1))), (0, (.p (.str p_s)))], []⟩ (fun M1 hb1 => ?_) ?_
  · refine K_guard hS trivial (b := decide (((p_s.length : Nat) : Int) < 1)) (fun c2 => ?_) (fun c2 => ?_)
    · exact hb1 _ [] _ trivial (by kernel_rfl) (by kernel_rfl) (klR [(0, .eq (.bb true) (.bb t1))] (al1 (by simp only [ht1, c2, Leaf.ok, pm, if_true, if_false]) al0))
    · exact hb1 _ [] _ trivial (by kernel_rfl) (by kernel_rfl) (klR [(0, .eq (.bb (decide (4 < ((p_s.length : Nat) : Int)))) (.bb t1))] (al1 (by simp only [ht1, c2, Leaf.ok, pm, if_true, if_false]) al0))
  · subst ht1
    refine K_cond hS trivial (b := ((decide (((p_s.length : Nat) : Int) < 1)) || (decide (4 < ((p_s.length : Nat) : Int))))) (fun c3 => ?_) (fun c3 => ?_)
    · replace h := itT c3 h
      obtain rfl := someI h
      exact K_ret hS trivial [] ⟨rfl, rfl, rfl⟩
    · replace h := itF c3 h
      refine K_fix1 hS trivial h (fun x2 => ⟨[(3, (.p (pI .i64 x2))), (0, (.p (.str p_s)))], []⟩) (ids := []) (fun _ _ _ _ _ self1 x2 hb4 h => ?_)
      refine K_cond hS trivial (b := decide (x2 < ((p_s.length : Nat) : Int))) (fun c20 => ?_) (fun c20 => ?_)
      · replace h := itT c20 h
        obtain ⟨c21, h⟩ := chkE h
        obtain ⟨y7, e7, h⟩ := bindE h
        refine K_call hS [] c21 (w_ablautref03_letter hS hL e7) ?_
        refine K_lt hS trivial (fnPost_up hS) h 0 (fun z3 => ⟨[(29, (.p (.bb z3))), (3, (.p (pI .i64 x2))), (0, (.p (.str p_s)))], []⟩) (fun M4 k3 hb5 h => ?_) (fun z3 h => ?_)
        · refine K_guard hS trivial (b := !y7) (fun c25 => ?_) (fun c25 => ?_)
          · replace h := itT c25 h
            obtain ⟨c26, h⟩ := chkE h
            obtain ⟨y9, e9, h⟩ := bindE h
            refine K_call hS [] c26 (w_ablautref03_big hS hL e9) ?_
            exact hb5 _ [] _ (!y9) trivial h
          · replace h := itF c25 h
            exact hb5 _ [] _ false trivial h
        · refine K_cond hS trivial (b := z3) (fun c27 => ?_) (fun c27 => ?_)
          · replace h := itT c27 h
            obtain rfl := someI h
            exact K_ret hS trivial [] ⟨rfl, rfl, rfl⟩
          · replace h := itF c27 h
            exact hb4 _ [] _ (IntKind.wrap .i64 (x2 + 1)) trivial h
      · replace h := itF c20 h
        obtain rfl := someI h
        exact K_ret hS trivial [] ⟨rfl, rfl, rfl⟩
def m_ablautref03_items (N : Nat) (p_text : Str) : Option (Sl Str) :=
  fix3 N (fun self1 (x1 : Sl Str) (x2 : Int) (x3 : Int) =>
      if (decide (x3 ≤ ((p_text.length : Nat) : Int))) = true then
        if ((x3 == ((p_text.length : Nat) : Int)) = false → ((0 : Int) ≤ x3 ∧ x3 < ((p_text.length : Nat) : Int))) then
          if ((x3 == ((p_text.length : Nat) : Int)) || ((byteAt p_text x3) == 32)) = true then
            if (((0 : Int) ≤ x2 ∧ x2 ≤ x3 ∧ x3 ≤ ((p_text.length : Nat) : Int)) ∧ ((x1.n + (Sl.of [((p_text.take x3.toNat).drop x2.toNat)] : Sl Str).n) * 16 ≤ 140737488355328 ∧ x1.n + (Sl.of [((p_text.take x3.toNat).drop x2.toNat)] : Sl Str).n ≤ 140737488355328)) then
              self1 (x1.push ((p_text.take x3.toNat).drop x2.toNat)) (IntKind.wrap .i64 (x3 + 1)) (IntKind.wrap .i64 (x3 + 1))
            else none
          else
            self1 x1 x2 (IntKind.wrap .i64 (x3 + 1))
        else none
      else
        some x1
    ) (Sl.nil : Sl Str) 0 0
theorem w_ablautref03_items {N : Nat} {p_text : Str}   {y : (Sl Str)} (h : m_ablautref03_items N p_text = some y) :
    FunO S k_ablautref03_items [(.p (.str p_text))] [] (.vec 0) ([(.vec t_string 1 y.n (fun i => cS (y.g i)) true)]) [] := by
  unfold m_ablautref03_items at h
  refine K_start hS f_ablautref03_items ?_
  refine K_fix3 hS trivial h (fun x1 x2 x3 => ⟨[(5, (.p (pI .i64 x3))), (4, (.p (pI .i64 x2))), (3, (.vec 4500)), (0, (.p (.str p_text)))], [(4500, (.vec t_string 1 x1.n (fun i => cS (x1.g i)) false))]⟩) (ids := []) (fun _ _ _ _ _ self1 x1 x2 x3 hb3 h => ?_)
  refine K_cond hS trivial (b := decide (x3 ≤ ((p_text.length : Nat) : Int))) (fun c11 => ?_) (fun c11 => ?_)
  · replace h := itT c11 h
    obtain ⟨c13, h⟩ := chkE h
    obtain ⟨t3, ht3⟩ : ∃ x : Bool, x = ((x3 == ((p_text.length : Nat) : Int)) || ((byteAt p_text x3) == 32)) := ⟨_, rfl⟩
    refine K_cut hS trivial (fnPost_up hS) 0 ⟨[(21, (.p (.bb t3))), (5, (.p (pI .i64 x3))), (4, (.p (pI .i64 x2))), (3, (.vec 4500)), (0, (.p (.str p_text)))], [(4500, (.vec t_string 1 x1.n (fun i => cS (x1.g i)) false))]⟩ (fun M3 hb4 => ?_) ?_
    · refine K_guard hS trivial (b := x3 == ((p_text.length : Nat) : Int)) (fun c14 => ?_) (fun c14 => ?_)
      · exact hb4 _ [(4500, 4500)] _ trivial (by kernel_rfl) (by kernel_rfl) (klR [(0, .eq (.bb true) (.bb t3))] (al1 (by simp only [ht3, c14, Leaf.ok, pm, if_true, if_false]) al0))
      · exact hb4 _ [(4500, 4500)] _ (c13 c14) (by kernel_rfl) (by kernel_rfl) (klR [(0, .eq (.bb ((byteAt p_text x3) == 32)) (.bb t3))] (al1 (by simp only [ht3, c14, Leaf.ok, pm, if_true, if_false]) al0))
    · subst ht3
      refine K_cond hS trivial (b := ((x3 == ((p_text.length : Nat) : Int)) || ((byteAt p_text x3) == 32))) (fun c15 => ?_) (fun c15 => ?_)
      · replace h := itT c15 h
        obtain ⟨c16, h⟩ := chkE h
        exact hb3 _ [(4500, 29000)] _ (x1.push ((p_text.take x3.toNat).drop x2.toNat)) (IntKind.wrap .i64 (x3 + 1)) (IntKind.wrap .i64 (x3 + 1)) (And.intro (And.intro c16.1 (rfl : true = true)) c16.2) h (by kernel_rfl) (by kernel_rfl) (klR [(3, .fn (x1.n + 1) (x1.push ((p_text.take x3.toNat).drop x2.toNat)).n (appF x1.n (fun i => cS (x1.g i)) (lookF [(.str [])] [(0, cS ((p_text.take x3.toNat).drop x2.toNat))])) (fun i => cS ((x1.push ((p_text.take x3.toNat).drop x2.toNat)).g i)))] (al1 ⟨rfl, (app1 (c := cS) (v := x1) (x := ((p_text.take x3.toNat).drop x2.toNat)) (z := [(.str [])]) same rfl rfl)⟩ al0))
      · replace h := itF c15 h
        exact hb3 _ [(4500, 4500)] _ x1 x2 (IntKind.wrap .i64 (x3 + 1)) trivial h
  · replace h := itF c11 h
    obtain rfl := someI h
    exact K_retO hS trivial ⟨[(2, (.vec 4500))], [(4500, (.vec t_string 1 x1.n (fun i => cS (x1.g i)) true))]⟩ [4500] (ids := [(4500, 4500)]) ⟨rfl, rfl, rfl⟩
def m_inventory_small (N : Nat) (p_c : Int) : Option Bool :=
  some (((decide (97 ≤ p_c)) && (decide (p_c ≤ 122))) || ((decide (48 ≤ p_c)) && (decide (p_c ≤ 57))))
theorem w_inventory_small {N : Nat} {p_c : Int}   {y : Bool} (h : m_inventory_small N p_c = some y) :
    FunO S k_inventory_small [(.p (pI .u8 p_c))] [] (.p (.bb y)) ([]) [] := by
  unfold m_inventory_small at h
  refine K_start hS f_inventory_small ?_
  obtain ⟨t1, ht1⟩ : ∃ x : Bool, x = (((decide (97 ≤ p_c)) && (decide (p_c ≤ 122))) || ((decide (48 ≤ p_c)) && (decide (p_c ≤ 57)))) := ⟨_, rfl⟩
  refine K_cut hS trivial (fnPost_up hS) 0 ⟨[(2, (.p (.bb t1)))], []⟩ (fun M1 hb1 => ?_) ?_
  · refine K_guard hS trivial (b := decide (97 ≤ p_c)) (fun c5 => ?_) (fun c5 => ?_)
    · refine K_guard hS trivial (b := decide (p_c ≤ 122)) (fun c6 => ?_) (fun c6 => ?_)
      · exact hb1 _ [] _ trivial (by kernel_rfl) (by kernel_rfl) (klR [(0, .eq (.bb true) (.bb t1))] (al1 (by simp only [ht1, c5, c6, Leaf.ok, pm, if_true, if_false]) al0))
      · refine K_guard hS trivial (b := decide (48 ≤ p_c)) (fun c7 => ?_) (fun c7 => ?_)
        · exact hb1 _ [] _ trivial (by kernel_rfl) (by kernel_rfl) (klR [(0, .eq (.bb (decide (p_c ≤ 57))) (.bb t1))] (al1 (by simp only [ht1, c5, c6, c7, Leaf.ok, pm, if_true, if_false]) al0))
        · exact hb1 _ [] _ trivial (by kernel_rfl) (by kernel_rfl) (klR [(0, .eq (.bb false) (.bb t1))] (al1 (by simp only [ht1, c5, c6, c7, Leaf.ok, pm, if_true, if_false]) al0))
    · refine K_guard hS trivial (b := decide (48 ≤ p_c)) (fun c8 => ?_) (fun c8 => ?_)
      · exact hb1 _ [] _ trivial (by kernel_rfl) (by kernel_rfl) (klR [(0, .eq (.bb (decide (p_c ≤ 57))) (.bb t1))] (al1 (by simp only [ht1, c5, c8, Leaf.ok, pm, if_true, if_false]) al0))
      · exact hb1 _ [] _ trivial (by kernel_rfl) (by kernel_rfl) (klR [(0, .eq (.bb false) (.bb t1))] (al1 (by simp only [ht1, c5, c8, Leaf.ok, pm, if_true, if_false]) al0))
  · subst ht1
    obtain rfl := someI h
    exact K_ret hS trivial [] ⟨rfl, rfl, rfl⟩
def m_ablautlaw03_few (N : Nat) (p_l : (Sl Str)) (p_more : (Sl Str)) : Option Bool :=
  fix2 N (fun self1 (x1 : Int) (x2 : Int) =>
      if (decide (x2 < ((p_l.n : Nat) : Int))) = true then
        if ((0 : Int) ≤ x2 ∧ x2 < ((p_l.n : Nat) : Int)) then
          self1 (IntKind.wrap .i64 (x1 + (((p_l.g x2.toNat).length : Nat) : Int))) (IntKind.wrap .i64 (x2 + 1))
        else none
      else
        fix2 N (fun self2 (x3 : Int) (x4 : Int) =>
            if (decide (x4 < ((p_more.n : Nat) : Int))) = true then
              if ((0 : Int) ≤ x4 ∧ x4 < ((p_more.n : Nat) : Int)) then
                self2 (IntKind.wrap .i64 (x3 + (((p_more.g x4.toNat).length : Nat) : Int))) (IntKind.wrap .i64 (x4 + 1))
              else none
            else
              some ((decide (((p_l.n : Nat) : Int) ≤ 100)) && (decide (x3 ≤ 4000)))
          ) x1 0
    ) 0 0
theorem w_ablautlaw03_few {N : Nat} {p_l : (Sl Str)} {p_more : (Sl Str)}   {y : Bool} (h : m_ablautlaw03_few N p_l p_more = some y) :
    FunO S k_ablautlaw03_few [(.p (vSl 1 cS p_l)), (.p (vSl 1 cS p_more))] [] (.p (.bb y)) ([]) [] := by
  unfold m_ablautlaw03_few at h
  refine K_start hS f_ablautlaw03_few ?_
  refine K_fix2 hS trivial h (fun x1 x2 => ⟨[(12, (.p (pI .i64 x2))), (11, (.p (pI .i64 ((p_l.n : Nat) : Int)))), (10, (.p (vSl 1 cS p_l))), (5, (.p (pI .i64 x1))), (1, (.p (vSl 1 cS p_more))), (0, (.p (vSl 1 cS p_l)))], []⟩) (ids := []) (fun _ _ _ _ _ self1 x1 x2 hb1 h => ?_)
  refine K_cond hS trivial (b := decide (x2 < ((p_l.n : Nat) : Int))) (fun c3 => ?_) (fun c3 => ?_)
  · replace h := itT c3 h
    obtain ⟨c4, h⟩ := chkE h
    exact hb1 _ [] _ (IntKind.wrap .i64 (x1 + (((p_l.g x2.toNat).length : Nat) : Int))) (IntKind.wrap .i64 (x2 + 1)) c4 h
  · replace h := itF c3 h
    refine K_fix2 hS trivial h (fun x3 x4 => ⟨[(23, (.p (pI .i64 x4))), (22, (.p (pI .i64 ((p_more.n : Nat) : Int)))), (21, (.p (vSl 1 cS p_more))), (5, (.p (pI .i64 x3))), (0, (.p (vSl 1 cS p_l)))], []⟩) (ids := []) (fun _ _ _ _ _ self2 x3 x4 hb2 h => ?_)
    refine K_cond hS trivial (b := decide (x4 < ((p_more.n : Nat) : Int))) (fun c7 => ?_) (fun c7 => ?_)
    · replace h := itT c7 h
      obtain ⟨c8, h⟩ := chkE h
      exact hb2 _ [] _ (IntKind.wrap .i64 (x3 + (((p_more.g x4.toNat).length : Nat) : Int))) (IntKind.wrap .i64 (x4 + 1)) c8 h
    · replace h := itF c7 h
      obtain ⟨t1, ht1⟩ : ∃ x : Bool, x = ((decide (((p_l.n : Nat) : Int) ≤ 100)) && (decide (x3 ≤ 4000))) := ⟨_, rfl⟩
      refine K_cut hS trivial (fnPost_up hS) 0 ⟨[(4, (.p (.bb t1)))], []⟩ (fun M1 hb3 => ?_) ?_
      · refine K_guard hS trivial (b := decide (((p_l.n : Nat) : Int) ≤ 100)) (fun c10 => ?_) (fun c10 => ?_)
        · exact hb3 _ [] _ trivial (by kernel_rfl) (by kernel_rfl) (klR [(0, .eq (.bb (decide (x3 ≤ 4000))) (.bb t1))] (al1 (by simp only [ht1, c10, Leaf.ok, pm, if_true, if_false]) al0))
        · exact hb3 _ [] _ trivial (by kernel_rfl) (by kernel_rfl) (klR [(0, .eq (.bb false) (.bb t1))] (al1 (by simp only [ht1, c10, Leaf.ok, pm, if_true, if_false]) al0))
      · subst ht1
        obtain rfl := someI h
        exact K_ret hS trivial [] ⟨rfl, rfl, rfl⟩
def m_ablautlaw03_clean (N : Nat) (p_s : Sound) (p_n : Int) : Option Sound :=
  if (0 : Int) ≤ p_n then
    some (⟨bitI .and .u32 p_s.Plus (IntKind.wrap .u32 ((shI .shl .u32 1 p_n) - 1)), bitI .and .u32 (bitI .andNot .u32 p_s.Minus p_s.Plus) (IntKind.wrap .u32 ((shI .shl .u32 1 p_n) - 1))⟩ : Sound)
  else none
theorem w_ablautlaw03_clean {N : Nat} {p_s : Sound} {p_n : Int}   {y : Sound} (h : m_ablautlaw03_clean N p_s p_n = some y) :
    FunO S k_ablautlaw03_clean [(.p (.agg (c_Sound p_s))), (.p (pI .i64 p_n))] [] (.p (.agg (c_Sound y))) ([]) [] := by
  unfold m_ablautlaw03_clean at h
  refine K_start hS f_ablautlaw03_clean ?_
  obtain ⟨c1, h⟩ := chkE h
  obtain rfl := someI h
  exact K_ret hS c1 [] ⟨rfl, rfl, rfl⟩
def m_slices_Equal_sl_string_string (N : Nat) (p_s1 : (Sl Str)) (p_s2 : (Sl Str)) : Option Bool :=
  if (((p_s1.n : Nat) : Int) != ((p_s2.n : Nat) : Int)) = true then
    some false
  else
    fix1 N (fun self1 (x1 : Int) =>
        if (decide (x1 < ((p_s1.n : Nat) : Int))) = true then
          if (((0 : Int) ≤ x1 ∧ x1 < ((p_s1.n : Nat) : Int)) ∧ ((0 : Int) ≤ x1 ∧ x1 < ((p_s2.n : Nat) : Int))) then
            if (((p_s1.g x1.toNat) == (p_s2.g x1.toNat)) != true) = true then
              some false
            else
              self1 (IntKind.wrap .i64 (x1 + 1))
          else none
        else
          some true
      ) 0
theorem w_slices_Equal_sl_string_string {N : Nat} {p_s1 : (Sl Str)} {p_s2 : (Sl Str)}   {y : Bool} (h : m_slices_Equal_sl_string_string N p_s1 p_s2 = some y) :
    FunO S k_slices_Equal_sl_string_string [(.p (vSl 1 cS p_s1)), (.p (vSl 1 cS p_s2))] [] (.p (.bb y)) ([]) [] := by
  unfold m_slices_Equal_sl_string_string at h
  refine K_start hS f_slices_Equal_sl_string_string ?_
  refine K_cond hS trivial (b := ((p_s1.n : Nat) : Int) != ((p_s2.n : Nat) : Int)) (fun c1 => ?_) (fun c1 => ?_)
  · replace h := itT c1 h
    obtain rfl := someI h
    exact K_ret hS trivial [] ⟨rfl, rfl, rfl⟩
  · replace h := itF c1 h
    refine K_fix1 hS trivial h (fun x1 => ⟨[(13, (.p (pI .i64 x1))), (12, (.p (pI .i64 ((p_s1.n : Nat) : Int)))), (1, (.p (vSl 1 cS p_s2))), (0, (.p (vSl 1 cS p_s1)))], []⟩) (ids := []) (fun _ _ _ _ _ self1 x1 hb1 h => ?_)
    refine K_cond hS trivial (b := decide (x1 < ((p_s1.n : Nat) : Int))) (fun c8 => ?_) (fun c8 => ?_)
    · replace h := itT c8 h
      refine K_drawn hS trivial ?_
      obtain ⟨c9, h⟩ := chkE h
      refine D_end c9 ?_
      refine K_cond hS trivial (b := (((p_s1.g x1.toNat) == (p_s2.g x1.toNat)) != true)) (fun c10 => ?_) (fun c10 => ?_)
      · replace h := itT c10 h
        obtain rfl := someI h
        exact K_ret hS trivial [] ⟨rfl, rfl, rfl⟩
      · replace h := itF c10 h
        exact hb1 _ [] _ (IntKind.wrap .i64 (x1 + 1)) trivial h
    · replace h := itF c8 h
      obtain rfl := someI h
      exact K_ret hS trivial [] ⟨rfl, rfl, rfl⟩
def m_slices_Equal_sl_api_Named_api_Named (N : Nat) (p_s1 : (Sl Named)) (p_s2 : (Sl Named)) : Option Bool :=
  if (((p_s1.n : Nat) : Int) != ((p_s2.n : Nat) : Int)) = true then
    some false
  else
    fix1 N (fun self1 (x1 : Int) =>
        if (decide (x1 < ((p_s1.n : Nat) : Int))) = true then
          if (((0 : Int) ≤ x1 ∧ x1 < ((p_s1.n : Nat) : Int)) ∧ ((0 : Int) ≤ x1 ∧ x1 < ((p_s2.n : Nat) : Int))) then
            if ((((p_s1.g x1.toNat).Symbol == (p_s2.g x1.toNat).Symbol) && (((p_s1.g x1.toNat).S.Plus == (p_s2.g x1.toNat).S.Plus) && ((p_s1.g x1.toNat).S.Minus == (p_s2.g x1.toNat).S.Minus))) != true) = true then
              some false
            else
              self1 (IntKind.wrap .i64 (x1 + 1))
          else none
        else
          some true
      ) 0
theorem w_slices_Equal_sl_api_Named_api_Named {N : Nat} {p_s1 : (Sl Named)} {p_s2 : (Sl Named)}   {y : Bool} (h : m_slices_Equal_sl_api_Named_api_Named N p_s1 p_s2 = some y) :
    FunO S k_slices_Equal_sl_api_Named_api_Named [(.p (vSl 3 c_Named p_s1)), (.p (vSl 3 c_Named p_s2))] [] (.p (.bb y)) ([]) [] := by
  unfold m_slices_Equal_sl_api_Named_api_Named at h
  refine K_start hS f_slices_Equal_sl_api_Named_api_Named ?_
  refine K_cond hS trivial (b := ((p_s1.n : Nat) : Int) != ((p_s2.n : Nat) : Int)) (fun c1 => ?_) (fun c1 => ?_)
  · replace h := itT c1 h
    obtain rfl := someI h
    exact K_ret hS trivial [] ⟨rfl, rfl, rfl⟩
  · replace h := itF c1 h
    refine K_fix1 hS trivial h (fun x1 => ⟨[(13, (.p (pI .i64 x1))), (12, (.p (pI .i64 ((p_s1.n : Nat) : Int)))), (1, (.p (vSl 3 c_Named p_s2))), (0, (.p (vSl 3 c_Named p_s1)))], []⟩) (ids := []) (fun _ _ _ _ _ self1 x1 hb1 h => ?_)
    refine K_cond hS trivial (b := decide (x1 < ((p_s1.n : Nat) : Int))) (fun c8 => ?_) (fun c8 => ?_)
    · replace h := itT c8 h
      refine K_drawn hS trivial ?_
      obtain ⟨c9, h⟩ := chkE h
      refine D_end (And.intro (And.intro (And.intro (And.intro c9.1 (by decide : (3 : Nat) ≤ 3)) c9.2) (by decide : (3 : Nat) ≤ 3)) (by decide +kernel : eqOk Tryd.prog t_api_Named = true)) ?_
      refine K_cond hS trivial (b := ((((p_s1.g x1.toNat).Symbol == (p_s2.g x1.toNat).Symbol) && (((p_s1.g x1.toNat).S.Plus == (p_s2.g x1.toNat).S.Plus) && ((p_s1.g x1.toNat).S.Minus == (p_s2.g x1.toNat).S.Minus))) != true)) (fun c10 => ?_) (fun c10 => ?_)
      · replace h := itT c10 h
        obtain rfl := someI h
        exact K_ret hS trivial [] ⟨rfl, rfl, rfl⟩
      · replace h := itF c10 h
        exact hb1 _ [] _ (IntKind.wrap .i64 (x1 + 1)) trivial h
    · replace h := itF c8 h
      obtain rfl := someI h
      exact K_ret hS trivial [] ⟨rfl, rfl, rfl⟩
end Go.AM
set_option linter.unusedVariables false
set_option linter.unusedSectionVars false
namespace Go.AM
open Go.Proofs
set_option maxRecDepth 10000
set_option maxHeartbeats 2000000
variable {S : Sems} (hS : Good S Tryd.prog) (hL : LibC S)
include hS hL
def m_ablautref03_Inv_made (N : Nat) (p_v : O_ablautref03_Inv) : Option Bool :=
  some p_v.Made
theorem w_ablautref03_Inv_made {N : Nat} {p_v : O_ablautref03_Inv}   {y : Bool} (h : m_ablautref03_Inv_made N p_v = some y) :
    FunO S k_ablautref03_Inv_made [(.reg 0 0)] [(.cells [(.p (.bb p_v.Made)), (.p (vSl 1 cS p_v.F)), (.vec 1)]), (.vec t_api_Named 3 p_v.S.n (fun i => c_Named (p_v.S.g i)) true)] (.p (.bb y)) ([(.cells [(.p (.bb p_v.Made)), (.p (vSl 1 cS p_v.F)), (.vec 1)]), (.vec t_api_Named 3 p_v.S.n (fun i => c_Named (p_v.S.g i)) true)]) [true, true] := by
  unfold m_ablautref03_Inv_made at h
  refine K_start hS f_ablautref03_Inv_made ?_
  obtain rfl := someI h
  exact K_retO hS trivial ⟨[(2, (.p (.bb p_v.Made)))], [(1, (.vec t_api_Named 3 p_v.S.n (fun i => c_Named (p_v.S.g i)) true)), (0, (.cells [(.p (.bb p_v.Made)), (.p (vSl 1 cS p_v.F)), (.vec 1)]))]⟩ [0, 1] (ids := [(0, 0), (1, 1)]) ⟨rfl, rfl, rfl⟩
def m_ablautref03_Inv_made_nil (N : Nat)  : Option Bool :=
  some false
theorem w_ablautref03_Inv_made_nil {N : Nat}    {y : Bool} (h : m_ablautref03_Inv_made_nil N  = some y) :
    FunO S k_ablautref03_Inv_made [(.p nilP)] [] (.p (.bb y)) ([]) [] := by
  unfold m_ablautref03_Inv_made_nil at h
  refine K_start hS f_ablautref03_Inv_made ?_
  obtain rfl := someI h
  exact K_ret hS trivial [] ⟨rfl, rfl, rfl⟩
def m_ablautref03_Inv_Belongs (N : Nat) (p_v : O_ablautref03_Inv) (p_s : Sound) : Option Bool :=
  (m_ablautref01_Valid N p_s).bind fun y1 =>
  if (!y1) = true then
    some false
  else
    fix1 N (fun self1 (x1 : Int) =>
        if (decide (x1 < 24)) = true then
          (m_ablautref01_Get N p_s x1).bind fun y4 =>
          if (y4 != 0) = true then
            some false
          else
            self1 (IntKind.wrap .i64 (x1 + 1))
        else
          some true
      ) ((p_v.F.n : Nat) : Int)
theorem w_ablautref03_Inv_Belongs {N : Nat} {p_v : O_ablautref03_Inv} {p_s : Sound}   {y : Bool} (h : m_ablautref03_Inv_Belongs N p_v p_s = some y) :
    FunO S k_ablautref03_Inv_Belongs [(.reg 0 0), (.p (.agg (c_Sound p_s)))] [(.cells [(.p (.bb p_v.Made)), (.p (vSl 1 cS p_v.F)), (.vec 1)]), (.vec t_api_Named 3 p_v.S.n (fun i => c_Named (p_v.S.g i)) true)] (.p (.bb y)) ([(.cells [(.p (.bb p_v.Made)), (.p (vSl 1 cS p_v.F)), (.vec 1)]), (.vec t_api_Named 3 p_v.S.n (fun i => c_Named (p_v.S.g i)) true)]) [true, true] := by
  unfold m_ablautref03_Inv_Belongs at h
  refine K_start hS f_ablautref03_Inv_Belongs ?_
  obtain ⟨y1, e1, h⟩ := bindE h
  refine K_call hS [] trivial (w_ablautref01_Valid hS hL e1) ?_
  refine K_cond hS trivial (b := !y1) (fun c1 => ?_) (fun c1 => ?_)
  · replace h := itT c1 h
    obtain rfl := someI h
    exact K_retO hS trivial ⟨[(4, (.p (.bb false)))], [(1, (.vec t_api_Named 3 p_v.S.n (fun i => c_Named (p_v.S.g i)) true)), (0, (.cells [(.p (.bb p_v.Made)), (.p (vSl 1 cS p_v.F)), (.vec 1)]))]⟩ [0, 1] (ids := [(0, 0), (1, 1)]) ⟨rfl, rfl, rfl⟩
  · replace h := itF c1 h
    refine K_fix1 hS trivial h (fun x1 => ⟨[(5, (.p (pI .i64 x1))), (3, (.reg 4000 0))], [(4000, (.cells [(.p (pI .u32 p_s.Plus)), (.p (pI .u32 p_s.Minus))])), (1, (.vec t_api_Named 3 p_v.S.n (fun i => c_Named (p_v.S.g i)) true)), (0, (.cells [(.p (.bb p_v.Made)), (.p (vSl 1 cS p_v.F)), (.vec 1)]))]⟩) (ids := [(0, 0), (1, 1), (4000, 4000)]) (fun _ _ _ _ _ self1 x1 hb1 h => ?_)
    refine K_cond hS trivial (b := decide (x1 < 24)) (fun c6 => ?_) (fun c6 => ?_)
    · replace h := itT c6 h
      obtain ⟨y4, e4, h⟩ := bindE h
      refine K_call hS [] trivial (w_ablautref01_Get hS hL e4) ?_
      refine K_cond hS trivial (b := y4 != 0) (fun c7 => ?_) (fun c7 => ?_)
      · replace h := itT c7 h
        obtain rfl := someI h
        exact K_retO hS trivial ⟨[(4, (.p (.bb false)))], [(1, (.vec t_api_Named 3 p_v.S.n (fun i => c_Named (p_v.S.g i)) true)), (0, (.cells [(.p (.bb p_v.Made)), (.p (vSl 1 cS p_v.F)), (.vec 1)]))]⟩ [0, 1] (ids := [(0, 0), (1, 1)]) ⟨rfl, rfl, rfl⟩
      · replace h := itF c7 h
        exact hb1 _ [(0, 0), (1, 1), (4000, 4000)] _ (IntKind.wrap .i64 (x1 + 1)) trivial h
    · replace h := itF c6 h
      obtain rfl := someI h
      exact K_retO hS trivial ⟨[(4, (.p (.bb true)))], [(1, (.vec t_api_Named 3 p_v.S.n (fun i => c_Named (p_v.S.g i)) true)), (0, (.cells [(.p (.bb p_v.Made)), (.p (vSl 1 cS p_v.F)), (.vec 1)]))]⟩ [0, 1] (ids := [(0, 0), (1, 1)]) ⟨rfl, rfl, rfl⟩
def m_ablautref03_Inv_Feat (N : Nat) (p_v : O_ablautref03_Inv) (p_name : Str) : Option (Int × Bool) :=
  (m_ablautref03_Inv_made N p_v).bind fun y1 =>
  if (!y1) = true then
    some (0, false)
  else
    fix1 N (fun self1 (x1 : Int) =>
        if (decide (x1 < ((p_v.F.n : Nat) : Int))) = true then
          if ((0 : Int) ≤ x1 ∧ x1 < ((p_v.F.n : Nat) : Int)) then
            if (((p_v.F.g x1.toNat) == p_name) != false) = true then
              some (x1, true)
            else
              self1 (IntKind.wrap .i64 (x1 + 1))
          else none
        else
          some (0, false)
      ) 0
theorem w_ablautref03_Inv_Feat {N : Nat} {p_v : O_ablautref03_Inv} {p_name : Str}   {y : (Int × Bool)} (h : m_ablautref03_Inv_Feat N p_v p_name = some y) :
    FunO S k_ablautref03_Inv_Feat [(.reg 0 0), (.p (.str p_name))] [(.cells [(.p (.bb p_v.Made)), (.p (vSl 1 cS p_v.F)), (.vec 1)]), (.vec t_api_Named 3 p_v.S.n (fun i => c_Named (p_v.S.g i)) true)] (.tup [(.p (pI .i64 y.1)), (.p (.bb y.2))]) ([(.cells [(.p (.bb p_v.Made)), (.p (vSl 1 cS p_v.F)), (.vec 1)]), (.vec t_api_Named 3 p_v.S.n (fun i => c_Named (p_v.S.g i)) true)]) [true, true] := by
  unfold m_ablautref03_Inv_Feat at h
  refine K_start hS f_ablautref03_Inv_Feat ?_
  obtain ⟨y1, e1, h⟩ := bindE h
  refine K_call hS [0, 1] trivial (w_ablautref03_Inv_made hS hL e1) ?_
  refine K_cond hS trivial (b := !y1) (fun c1 => ?_) (fun c1 => ?_)
  · replace h := itT c1 h
    obtain rfl := someI h
    exact K_retO hS trivial ⟨[(5, (.p (.bb false))), (4, (.p (pI .i64 0)))], [(1, (.vec t_api_Named 3 p_v.S.n (fun i => c_Named (p_v.S.g i)) true)), (0, (.cells [(.p (.bb p_v.Made)), (.p (vSl 1 cS p_v.F)), (.vec 1)]))]⟩ [0, 1] (ids := [(0, 0), (1, 1)]) ⟨rfl, rfl, rfl⟩
  · replace h := itF c1 h
    refine K_fix1 hS trivial h (fun x1 => ⟨[(6, (.p (pI .i64 x1))), (1, (.p (.str p_name))), (0, (.reg 0 0))], [(1, (.vec t_api_Named 3 p_v.S.n (fun i => c_Named (p_v.S.g i)) true)), (0, (.cells [(.p (.bb p_v.Made)), (.p (vSl 1 cS p_v.F)), (.vec 1)]))]⟩) (ids := [(0, 0), (1, 1)]) (fun _ _ _ _ _ self1 x1 hb1 h => ?_)
    refine K_cond hS trivial (b := decide (x1 < ((p_v.F.n : Nat) : Int))) (fun c8 => ?_) (fun c8 => ?_)
    · replace h := itT c8 h
      obtain ⟨c9, h⟩ := chkE h
      refine K_cond hS c9 (b := (((p_v.F.g x1.toNat) == p_name) != false)) (fun c10 => ?_) (fun c10 => ?_)
      · replace h := itT c10 h
        obtain rfl := someI h
        exact K_retO hS trivial ⟨[(5, (.p (.bb true))), (4, (.p (pI .i64 x1)))], [(1, (.vec t_api_Named 3 p_v.S.n (fun i => c_Named (p_v.S.g i)) true)), (0, (.cells [(.p (.bb p_v.Made)), (.p (vSl 1 cS p_v.F)), (.vec 1)]))]⟩ [0, 1] (ids := [(0, 0), (1, 1)]) ⟨rfl, rfl, rfl⟩
      · replace h := itF c10 h
        exact hb1 _ [(0, 0), (1, 1)] _ (IntKind.wrap .i64 (x1 + 1)) trivial h
    · replace h := itF c8 h
      obtain rfl := someI h
      exact K_retO hS trivial ⟨[(5, (.p (.bb false))), (4, (.p (pI .i64 0)))], [(1, (.vec t_api_Named 3 p_v.S.n (fun i => c_Named (p_v.S.g i)) true)), (0, (.cells [(.p (.bb p_v.Made)), (.p (vSl 1 cS p_v.F)), (.vec 1)]))]⟩ [0, 1] (ids := [(0, 0), (1, 1)]) ⟨rfl, rfl, rfl⟩
def m_ablautref03_Inv_Bundle (N : Nat) (p_v : O_ablautref03_Inv) (p_text : Str) : Option (Sound × Int) :=
  (m_ablautref03_Inv_made N p_v).bind fun y1 =>
  if (!y1) = true then
    some ((⟨0, 0⟩ : Sound), 1)
  else
    if ((p_text == []) != false) = true then
      some ((⟨0, 0⟩ : Sound), 0)
    else
      (m_ablautref03_items N p_text).bind fun y2 =>
      fix3 N (fun self1 (x2 : Int) (x3 : Int) (x4 : Int) =>
          if (decide (x4 < ((y2.n : Nat) : Int))) = true then
            if (((0 : Int) ≤ x4 ∧ x4 < ((y2.n : Nat) : Int)) ∧ x4.toNat < y2.n) then
              if (((decide ((((y2.g x4.toNat).length : Nat) : Int) < 1)) = false → ((((0 : Int) ≤ x4 ∧ x4 < ((y2.n : Nat) : Int)) ∧ x4.toNat < y2.n) ∧ ((0 : Int) ≤ 0 ∧ 0 < (((y2.g x4.toNat).length : Nat) : Int)))) ∧ ((decide ((((y2.g x4.toNat).length : Nat) : Int) < 1)) = false → (((byteAt (y2.g x4.toNat) 0) != 43) = true → ((((0 : Int) ≤ x4 ∧ x4 < ((y2.n : Nat) : Int)) ∧ x4.toNat < y2.n) ∧ ((0 : Int) ≤ 0 ∧ 0 < (((y2.g x4.toNat).length : Nat) : Int)))))) then
                if ((decide ((((y2.g x4.toNat).length : Nat) : Int) < 1)) || (((byteAt (y2.g x4.toNat) 0) != 43) && ((byteAt (y2.g x4.toNat) 0) != 45))) = true then
                  some ((⟨0, 0⟩ : Sound), 10)
                else
                  if ((((0 : Int) ≤ x4 ∧ x4 < ((y2.n : Nat) : Int)) ∧ x4.toNat < y2.n) ∧ ((0 : Int) ≤ 1 ∧ 1 ≤ (((y2.g x4.toNat).length : Nat) : Int))) then
                    (m_ablautref03_Inv_Feat N p_v ((y2.g x4.toNat).drop 1)).bind fun y13 =>
                    lt (fun (z3 : Bool) =>
                        if z3 = true then
                          some ((⟨0, 0⟩ : Sound), 10)
                        else
                          if ((((0 : Int) ≤ x4 ∧ x4 < ((y2.n : Nat) : Int)) ∧ x4.toNat < y2.n) ∧ ((0 : Int) ≤ 0 ∧ 0 < (((y2.g x4.toNat).length : Nat) : Int))) then
                            if ((byteAt (y2.g x4.toNat) 0) == 45) = true then
                              (m_ablautref01_With N (⟨x2, x3⟩ : Sound) y13.1 (-1)).bind fun y16 =>
                              self1 y16.1.Plus y16.1.Minus (IntKind.wrap .i64 (x4 + 1))
                            else
                              (m_ablautref01_With N (⟨x2, x3⟩ : Sound) y13.1 1).bind fun y17 =>
                              self1 y17.1.Plus y17.1.Minus (IntKind.wrap .i64 (x4 + 1))
                          else none
                      ) fun k3 =>
                      if (!y13.2) = true then
                        k3 true
                      else
                        (m_ablautref01_Get N (⟨x2, x3⟩ : Sound) y13.1).bind fun y15 =>
                        k3 (y15 != 0)
                  else none
              else none
            else none
          else
            some ((⟨x2, x3⟩ : Sound), 0)
        ) 0 0 0
theorem w_ablautref03_Inv_Bundle {N : Nat} {p_v : O_ablautref03_Inv} {p_text : Str}   {y : (Sound × Int)} (h : m_ablautref03_Inv_Bundle N p_v p_text = some y) :
    FunO S k_ablautref03_Inv_Bundle [(.reg 0 0), (.p (.str p_text))] [(.cells [(.p (.bb p_v.Made)), (.p (vSl 1 cS p_v.F)), (.vec 1)]), (.vec t_api_Named 3 p_v.S.n (fun i => c_Named (p_v.S.g i)) true)] (.tup [(.p (.agg (c_Sound y.1))), (.p (pI .i64 y.2))]) ([(.cells [(.p (.bb p_v.Made)), (.p (vSl 1 cS p_v.F)), (.vec 1)]), (.vec t_api_Named 3 p_v.S.n (fun i => c_Named (p_v.S.g i)) true)]) [true, true] := by
  unfold m_ablautref03_Inv_Bundle at h
  refine K_start hS f_ablautref03_Inv_Bundle ?_
  obtain ⟨y1, e1, h⟩ := bindE h
  refine K_call hS [0, 1] trivial (w_ablautref03_Inv_made hS hL e1) ?_
  refine K_cond hS trivial (b := !y1) (fun c1 => ?_) (fun c1 => ?_)
  · replace h := itT c1 h
    obtain rfl := someI h
    exact K_retO hS trivial ⟨[(5, (.p (pI .i64 1))), (4, (.reg 5000 0))], [(5000, (.cells [(.p (pI .u32 0)), (.p (pI .u32 0))])), (1, (.vec t_api_Named 3 p_v.S.n (fun i => c_Named (p_v.S.g i)) true)), (0, (.cells [(.p (.bb p_v.Made)), (.p (vSl 1 cS p_v.F)), (.vec 1)]))]⟩ [0, 1] (ids := [(0, 0), (1, 1), (5000, 5000)]) ⟨rfl, rfl, rfl⟩
  · replace h := itF c1 h
    refine K_cond hS trivial (b := ((p_text == []) != false)) (fun c2 => ?_) (fun c2 => ?_)
    · replace h := itT c2 h
      obtain rfl := someI h
      exact K_retO hS trivial ⟨[(5, (.p (pI .i64 0))), (4, (.reg 5000 0))], [(5000, (.cells [(.p (pI .u32 0)), (.p (pI .u32 0))])), (1, (.vec t_api_Named 3 p_v.S.n (fun i => c_Named (p_v.S.g i)) true)), (0, (.cells [(.p (.bb p_v.Made)), (.p (vSl 1 cS p_v.F)), (.vec 1)]))]⟩ [0, 1] (ids := [(0, 0), (1, 1), (5000, 5000)]) ⟨rfl, rfl, rfl⟩
    · replace h := itF c2 h
      obtain ⟨y2, e2, h⟩ := bindE h
      refine K_call hS [] trivial (w_ablautref03_items hS hL e2) ?_
      refine K_fix3 hS trivial h (fun x2 x3 x4 => ⟨[(8, (.p (pI .i64 x4))), (7, (.vec 22000)), (6, (.reg 7000 0)), (4, (.reg 5000 0)), (0, (.reg 0 0))], [(22000, (.vec t_string 1 y2.n (fun i => cS (y2.g i)) true)), (7000, (.cells [(.p (pI .u32 x2)), (.p (pI .u32 x3))])), (5000, (.cells [(.p (pI .u32 0)), (.p (pI .u32 0))])), (1, (.vec t_api_Named 3 p_v.S.n (fun i => c_Named (p_v.S.g i)) true)), (0, (.cells [(.p (.bb p_v.Made)), (.p (vSl 1 cS p_v.F)), (.vec 1)]))]⟩) (ids := [(0, 0), (1, 1), (5000, 5000), (7000, 7000), (22000, 22000)]) (fun _ _ _ _ _ self1 x2 x3 x4 hb5 h => ?_)
      refine K_cond hS trivial (b := decide (x4 < ((y2.n : Nat) : Int))) (fun c33 => ?_) (fun c33 => ?_)
      · replace h := itT c33 h
        obtain ⟨c34, h⟩ := chkE h
        obtain ⟨c37, h⟩ := chkE h
        obtain ⟨t3, ht3⟩ : ∃ x : Bool, x = ((decide ((((y2.g x4.toNat).length : Nat) : Int) < 1)) || (((byteAt (y2.g x4.toNat) 0) != 43) && ((byteAt (y2.g x4.toNat) 0) != 45))) := ⟨_, rfl⟩
        refine K_cut hS c34 (fnPost_up hS) 0 ⟨[(49, (.p (.bb t3))), (8, (.p (pI .i64 x4))), (7, (.vec 22000)), (6, (.reg 7000 0)), (4, (.reg 5000 0)), (0, (.reg 0 0))], [(22000, (.vec t_string 1 y2.n (fun i => cS (y2.g i)) true)), (7000, (.cells [(.p (pI .u32 x2)), (.p (pI .u32 x3))])), (5000, (.cells [(.p (pI .u32 0)), (.p (pI .u32 0))])), (1, (.vec t_api_Named 3 p_v.S.n (fun i => c_Named (p_v.S.g i)) true)), (0, (.cells [(.p (.bb p_v.Made)), (.p (vSl 1 cS p_v.F)), (.vec 1)]))]⟩ (fun M5 hb6 => ?_) ?_
        · refine K_guard hS trivial (b := decide ((((y2.g x4.toNat).length : Nat) : Int) < 1)) (fun c38 => ?_) (fun c38 => ?_)
          · exact hb6 _ [(0, 0), (1, 1), (5000, 5000), (7000, 7000), (22000, 22000)] _ trivial (by kernel_rfl) (by kernel_rfl) (klR [(0, .eq (.bb true) (.bb t3))] (al1 (by simp only [ht3, c38, Leaf.ok, pm, if_true, if_false]) al0))
          · refine K_guard hS (c37.1 c38) (b := (byteAt (y2.g x4.toNat) 0) != 43) (fun c39 => ?_) (fun c39 => ?_)
            · exact hb6 _ [(0, 0), (1, 1), (5000, 5000), (7000, 7000), (22000, 22000)] _ (c37.2 c38 c39) (by kernel_rfl) (by kernel_rfl) (klR [(0, .eq (.bb ((byteAt (y2.g x4.toNat) 0) != 45)) (.bb t3))] (al1 (by simp only [ht3, c38, c39, Leaf.ok, pm, if_true, if_false]) al0))
            · exact hb6 _ [(0, 0), (1, 1), (5000, 5000), (7000, 7000), (22000, 22000)] _ trivial (by kernel_rfl) (by kernel_rfl) (klR [(0, .eq (.bb false) (.bb t3))] (al1 (by simp only [ht3, c38, c39, Leaf.ok, pm, if_true, if_false]) al0))
        · subst ht3
          refine K_cond hS trivial (b := ((decide ((((y2.g x4.toNat).length : Nat) : Int) < 1)) || (((byteAt (y2.g x4.toNat) 0) != 43) && ((byteAt (y2.g x4.toNat) 0) != 45)))) (fun c40 => ?_) (fun c40 => ?_)
          · replace h := itT c40 h
            obtain rfl := someI h
            exact K_retO hS trivial ⟨[(5, (.p (pI .i64 10))), (4, (.reg 5000 0))], [(5000, (.cells [(.p (pI .u32 0)), (.p (pI .u32 0))])), (1, (.vec t_api_Named 3 p_v.S.n (fun i => c_Named (p_v.S.g i)) true)), (0, (.cells [(.p (.bb p_v.Made)), (.p (vSl 1 cS p_v.F)), (.vec 1)]))]⟩ [0, 1] (ids := [(0, 0), (1, 1), (5000, 5000)]) ⟨rfl, rfl, rfl⟩
          · replace h := itF c40 h
            obtain ⟨c41, h⟩ := chkE h
            obtain ⟨y13, e13, h⟩ := bindE h
            refine K_call hS [0, 1] c41 (w_ablautref03_Inv_Feat hS hL e13) ?_
            refine K_lt hS trivial (fnPost_up hS) h 0 (fun z3 => ⟨[(68, (.p (.bb z3))), (9, (.p (pI .i64 y13.1))), (8, (.p (pI .i64 x4))), (7, (.vec 22000)), (6, (.reg 7000 0)), (4, (.reg 5000 0)), (0, (.reg 0 0))], [(22000, (.vec t_string 1 y2.n (fun i => cS (y2.g i)) true)), (7000, (.cells [(.p (pI .u32 x2)), (.p (pI .u32 x3))])), (5000, (.cells [(.p (pI .u32 0)), (.p (pI .u32 0))])), (1, (.vec t_api_Named 3 p_v.S.n (fun i => c_Named (p_v.S.g i)) true)), (0, (.cells [(.p (.bb p_v.Made)), (.p (vSl 1 cS p_v.F)), (.vec 1)]))]⟩) (fun M6 k3 hb7 h => ?_) (fun z3 h => ?_)
            · refine K_guard hS trivial (b := !y13.2) (fun c44 => ?_) (fun c44 => ?_)
              · replace h := itT c44 h
                exact hb7 _ [(0, 0), (1, 1), (5000, 5000), (7000, 7000), (22000, 22000)] _ true trivial h
              · replace h := itF c44 h
                obtain ⟨y15, e15, h⟩ := bindE h
                refine K_call hS [] trivial (w_ablautref01_Get hS hL e15) ?_
                exact hb7 _ [(0, 0), (1, 1), (5000, 5000), (7000, 7000), (22000, 22000)] _ (y15 != 0) trivial h
            · refine K_cond hS trivial (b := z3) (fun c45 => ?_) (fun c45 => ?_)
              · replace h := itT c45 h
                obtain rfl := someI h
                exact K_retO hS trivial ⟨[(5, (.p (pI .i64 10))), (4, (.reg 5000 0))], [(5000, (.cells [(.p (pI .u32 0)), (.p (pI .u32 0))])), (1, (.vec t_api_Named 3 p_v.S.n (fun i => c_Named (p_v.S.g i)) true)), (0, (.cells [(.p (.bb p_v.Made)), (.p (vSl 1 cS p_v.F)), (.vec 1)]))]⟩ [0, 1] (ids := [(0, 0), (1, 1), (5000, 5000)]) ⟨rfl, rfl, rfl⟩
              · replace h := itF c45 h
                obtain ⟨c46, h⟩ := chkE h
                refine K_cond hS c46 (b := (byteAt (y2.g x4.toNat) 0) == 45) (fun c47 => ?_) (fun c47 => ?_)
                · replace h := itT c47 h
                  obtain ⟨y16, e16, h⟩ := bindE h
                  refine K_call hS [] trivial (w_ablautref01_With hS hL e16) ?_
                  exact hb5 _ [(0, 0), (1, 1), (5000, 5000), (7000, 7000), (22000, 22000)] _ y16.1.Plus y16.1.Minus (IntKind.wrap .i64 (x4 + 1)) trivial h
                · replace h := itF c47 h
                  obtain ⟨y17, e17, h⟩ := bindE h
                  refine K_call hS [] trivial (w_ablautref01_With hS hL e17) ?_
                  exact hb5 _ [(0, 0), (1, 1), (5000, 5000), (7000, 7000), (22000, 22000)] _ y17.1.Plus y17.1.Minus (IntKind.wrap .i64 (x4 + 1)) trivial h
      · replace h := itF c33 h
        obtain rfl := someI h
        exact K_retO hS trivial ⟨[(5, (.p (pI .i64 0))), (4, (.reg 5000 0))], [(5000, (.cells [(.p (pI .u32 x2)), (.p (pI .u32 x3))])), (1, (.vec t_api_Named 3 p_v.S.n (fun i => c_Named (p_v.S.g i)) true)), (0, (.cells [(.p (.bb p_v.Made)), (.p (vSl 1 cS p_v.F)), (.vec 1)]))]⟩ [0, 1] (ids := [(0, 0), (1, 1), (5000, 5000)]) ⟨rfl, rfl, rfl⟩
def m_ablautref03_Inv_Text (N : Nat) (p_v : O_ablautref03_Inv) (p_s : Sound) : Option (Str × Int) :=
  (m_ablautref03_Inv_made N p_v).bind fun y1 =>
  if (!y1) = true then
    some ([], 1)
  else
    (m_ablautref03_Inv_Belongs N p_v p_s).bind fun y2 =>
    if (!y2) = true then
      some ([], 14)
    else
      fix2 N (fun self1 (x1 : Str) (x2 : Int) =>
          if (decide (x2 < ((p_v.F.n : Nat) : Int))) = true then
            (m_ablautref01_Get N p_s x2).bind fun y5 =>
            if (y5 == 0) = true then
              self1 x1 (IntKind.wrap .i64 (x2 + 1))
            else
              if (((x1 == []) != true) = true → (((x1.length + [32].length : Nat) : Int) ≤ 9223372036854775807)) then
                if (y5 == 1) = true then
                  if ((((((if ((x1 == []) != true) = true then (x1 ++ [32]) else x1).length + [43].length : Nat) : Int) ≤ 9223372036854775807) ∧ ((0 : Int) ≤ x2 ∧ x2 < ((p_v.F.n : Nat) : Int))) ∧ (((((if ((x1 == []) != true) = true then (x1 ++ [32]) else x1) ++ [43]).length + (p_v.F.g x2.toNat).length : Nat) : Int) ≤ 9223372036854775807)) then
                    self1 (((if ((x1 == []) != true) = true then (x1 ++ [32]) else x1) ++ [43]) ++ (p_v.F.g x2.toNat)) (IntKind.wrap .i64 (x2 + 1))
                  else none
                else
                  if ((((((if ((x1 == []) != true) = true then (x1 ++ [32]) else x1).length + [45].length : Nat) : Int) ≤ 9223372036854775807) ∧ ((0 : Int) ≤ x2 ∧ x2 < ((p_v.F.n : Nat) : Int))) ∧ (((((if ((x1 == []) != true) = true then (x1 ++ [32]) else x1) ++ [45]).length + (p_v.F.g x2.toNat).length : Nat) : Int) ≤ 9223372036854775807)) then
                    self1 (((if ((x1 == []) != true) = true then (x1 ++ [32]) else x1) ++ [45]) ++ (p_v.F.g x2.toNat)) (IntKind.wrap .i64 (x2 + 1))
                  else none
              else none
          else
            some (x1, 0)
        ) [] 0
theorem w_ablautref03_Inv_Text {N : Nat} {p_v : O_ablautref03_Inv} {p_s : Sound}   {y : (Str × Int)} (h : m_ablautref03_Inv_Text N p_v p_s = some y) :
    FunO S k_ablautref03_Inv_Text [(.reg 0 0), (.p (.agg (c_Sound p_s)))] [(.cells [(.p (.bb p_v.Made)), (.p (vSl 1 cS p_v.F)), (.vec 1)]), (.vec t_api_Named 3 p_v.S.n (fun i => c_Named (p_v.S.g i)) true)] (.tup [(.p (.str y.1)), (.p (pI .i64 y.2))]) ([(.cells [(.p (.bb p_v.Made)), (.p (vSl 1 cS p_v.F)), (.vec 1)]), (.vec t_api_Named 3 p_v.S.n (fun i => c_Named (p_v.S.g i)) true)]) [true, true] := by
  unfold m_ablautref03_Inv_Text at h
  refine K_start hS f_ablautref03_Inv_Text ?_
  obtain ⟨y1, e1, h⟩ := bindE h
  refine K_call hS [0, 1] trivial (w_ablautref03_Inv_made hS hL e1) ?_
  refine K_cond hS trivial (b := !y1) (fun c1 => ?_) (fun c1 => ?_)
  · replace h := itT c1 h
    obtain rfl := someI h
    exact K_retO hS trivial ⟨[(5, (.p (pI .i64 1))), (4, (.p (.str [])))], [(1, (.vec t_api_Named 3 p_v.S.n (fun i => c_Named (p_v.S.g i)) true)), (0, (.cells [(.p (.bb p_v.Made)), (.p (vSl 1 cS p_v.F)), (.vec 1)]))]⟩ [0, 1] (ids := [(0, 0), (1, 1)]) ⟨rfl, rfl, rfl⟩
  · replace h := itF c1 h
    obtain ⟨y2, e2, h⟩ := bindE h
    refine K_call hS [0, 1] trivial (w_ablautref03_Inv_Belongs hS hL e2) ?_
    refine K_cond hS trivial (b := !y2) (fun c2 => ?_) (fun c2 => ?_)
    · replace h := itT c2 h
      obtain rfl := someI h
      exact K_retO hS trivial ⟨[(5, (.p (pI .i64 14))), (4, (.p (.str [])))], [(1, (.vec t_api_Named 3 p_v.S.n (fun i => c_Named (p_v.S.g i)) true)), (0, (.cells [(.p (.bb p_v.Made)), (.p (vSl 1 cS p_v.F)), (.vec 1)]))]⟩ [0, 1] (ids := [(0, 0), (1, 1)]) ⟨rfl, rfl, rfl⟩
    · replace h := itF c2 h
      refine K_fix2 hS trivial h (fun x1 x2 => ⟨[(7, (.p (pI .i64 x2))), (6, (.p (.str x1))), (3, (.reg 4000 0)), (0, (.reg 0 0))], [(4000, (.cells [(.p (pI .u32 p_s.Plus)), (.p (pI .u32 p_s.Minus))])), (1, (.vec t_api_Named 3 p_v.S.n (fun i => c_Named (p_v.S.g i)) true)), (0, (.cells [(.p (.bb p_v.Made)), (.p (vSl 1 cS p_v.F)), (.vec 1)]))]⟩) (ids := [(0, 0), (1, 1), (4000, 4000)]) (fun _ _ _ _ _ self1 x1 x2 hb3 h => ?_)
      refine K_cond hS trivial (b := decide (x2 < ((p_v.F.n : Nat) : Int))) (fun c15 => ?_) (fun c15 => ?_)
      · replace h := itT c15 h
        obtain ⟨y5, e5, h⟩ := bindE h
        refine K_call hS [] trivial (w_ablautref01_Get hS hL e5) ?_
        refine K_cond hS trivial (b := y5 == 0) (fun c16 => ?_) (fun c16 => ?_)
        · replace h := itT c16 h
          exact hb3 _ [(0, 0), (1, 1), (4000, 4000)] _ x1 (IntKind.wrap .i64 (x2 + 1)) trivial h
        · replace h := itF c16 h
          obtain ⟨c18, h⟩ := chkE h
          obtain ⟨t3, ht3⟩ : ∃ x : Str, x = (if ((x1 == []) != true) = true then (x1 ++ [32]) else x1) := ⟨_, rfl⟩
          refine K_cut hS trivial (fnPost_up hS) 0 ⟨[(8, (.p (pI .i64 y5))), (7, (.p (pI .i64 x2))), (6, (.p (.str t3))), (3, (.reg 4000 0)), (0, (.reg 0 0))], [(4000, (.cells [(.p (pI .u32 p_s.Plus)), (.p (pI .u32 p_s.Minus))])), (1, (.vec t_api_Named 3 p_v.S.n (fun i => c_Named (p_v.S.g i)) true)), (0, (.cells [(.p (.bb p_v.Made)), (.p (vSl 1 cS p_v.F)), (.vec 1)]))]⟩ (fun M3 hb4 => ?_) ?_
          · refine K_cond hS trivial (b := ((x1 == []) != true)) (fun c19 => ?_) (fun c19 => ?_)
            · exact hb4 _ [(0, 0), (1, 1), (4000, 4000)] _ (c18 c19) (by kernel_rfl) (by kernel_rfl) (klR [(2, .eq (.str (x1 ++ [32])) (.str t3))] (al1 (by simp only [ht3, c19, Leaf.ok, pm, if_true, if_false]) al0))
            · exact hb4 _ [(0, 0), (1, 1), (4000, 4000)] _ trivial (by kernel_rfl) (by kernel_rfl) (klR [(2, .eq (.str x1) (.str t3))] (al1 (by simp only [ht3, c19, Leaf.ok, pm, if_true, if_false]) al0))
          · subst ht3
            refine K_cond hS trivial (b := y5 == 1) (fun c20 => ?_) (fun c20 => ?_)
            · replace h := itT c20 h
              obtain ⟨c21, h⟩ := chkE h
              exact hb3 _ [(0, 0), (1, 1), (4000, 4000)] _ (((if ((x1 == []) != true) = true then (x1 ++ [32]) else x1) ++ [43]) ++ (p_v.F.g x2.toNat)) (IntKind.wrap .i64 (x2 + 1)) c21 h
            · replace h := itF c20 h
              obtain ⟨c22, h⟩ := chkE h
              exact hb3 _ [(0, 0), (1, 1), (4000, 4000)] _ (((if ((x1 == []) != true) = true then (x1 ++ [32]) else x1) ++ [45]) ++ (p_v.F.g x2.toNat)) (IntKind.wrap .i64 (x2 + 1)) c22 h
      · replace h := itF c15 h
        obtain rfl := someI h
        exact K_retO hS trivial ⟨[(5, (.p (pI .i64 0))), (4, (.p (.str x1)))], [(1, (.vec t_api_Named 3 p_v.S.n (fun i => c_Named (p_v.S.g i)) true)), (0, (.cells [(.p (.bb p_v.Made)), (.p (vSl 1 cS p_v.F)), (.vec 1)]))]⟩ [0, 1] (ids := [(0, 0), (1, 1)]) ⟨rfl, rfl, rfl⟩
def m_ablautref03_Inv_Sound (N : Nat) (p_v : O_ablautref03_Inv) (p_symbol : Str) : Option (Sound × Bool) :=
  (m_ablautref03_Inv_made N p_v).bind fun y1 =>
  if (!y1) = true then
    some ((⟨0, 0⟩ : Sound), false)
  else
    fix1 N (fun self1 (x1 : Int) =>
        if (decide (x1 < ((p_v.S.n : Nat) : Int))) = true then
          if (((0 : Int) ≤ x1 ∧ x1 < ((p_v.S.n : Nat) : Int)) ∧ x1.toNat < p_v.S.n) then
            if (((p_v.S.g x1.toNat).Symbol == p_symbol) != false) = true then
              if (((0 : Int) ≤ x1 ∧ x1 < ((p_v.S.n : Nat) : Int)) ∧ x1.toNat < p_v.S.n) then
                some ((p_v.S.g x1.toNat).S, true)
              else none
            else
              self1 (IntKind.wrap .i64 (x1 + 1))
          else none
        else
          some ((⟨0, 0⟩ : Sound), false)
      ) 0
theorem w_ablautref03_Inv_Sound {N : Nat} {p_v : O_ablautref03_Inv} {p_symbol : Str}   {y : (Sound × Bool)} (h : m_ablautref03_Inv_Sound N p_v p_symbol = some y) :
    FunO S k_ablautref03_Inv_Sound [(.reg 0 0), (.p (.str p_symbol))] [(.cells [(.p (.bb p_v.Made)), (.p (vSl 1 cS p_v.F)), (.vec 1)]), (.vec t_api_Named 3 p_v.S.n (fun i => c_Named (p_v.S.g i)) true)] (.tup [(.p (.agg (c_Sound y.1))), (.p (.bb y.2))]) ([(.cells [(.p (.bb p_v.Made)), (.p (vSl 1 cS p_v.F)), (.vec 1)]), (.vec t_api_Named 3 p_v.S.n (fun i => c_Named (p_v.S.g i)) true)]) [true, true] := by
  unfold m_ablautref03_Inv_Sound at h
  refine K_start hS f_ablautref03_Inv_Sound ?_
  obtain ⟨y1, e1, h⟩ := bindE h
  refine K_call hS [0, 1] trivial (w_ablautref03_Inv_made hS hL e1) ?_
  refine K_cond hS trivial (b := !y1) (fun c1 => ?_) (fun c1 => ?_)
  · replace h := itT c1 h
    obtain rfl := someI h
    exact K_retO hS trivial ⟨[(5, (.p (.bb false))), (4, (.reg 5000 0))], [(5000, (.cells [(.p (pI .u32 0)), (.p (pI .u32 0))])), (1, (.vec t_api_Named 3 p_v.S.n (fun i => c_Named (p_v.S.g i)) true)), (0, (.cells [(.p (.bb p_v.Made)), (.p (vSl 1 cS p_v.F)), (.vec 1)]))]⟩ [0, 1] (ids := [(0, 0), (1, 1), (5000, 5000)]) ⟨rfl, rfl, rfl⟩
  · replace h := itF c1 h
    refine K_fix1 hS trivial h (fun x1 => ⟨[(6, (.p (pI .i64 x1))), (4, (.reg 5000 0)), (1, (.p (.str p_symbol))), (0, (.reg 0 0))], [(5000, (.cells [(.p (pI .u32 0)), (.p (pI .u32 0))])), (1, (.vec t_api_Named 3 p_v.S.n (fun i => c_Named (p_v.S.g i)) true)), (0, (.cells [(.p (.bb p_v.Made)), (.p (vSl 1 cS p_v.F)), (.vec 1)]))]⟩) (ids := [(0, 0), (1, 1), (5000, 5000)]) (fun _ _ _ _ _ self1 x1 hb1 h => ?_)
    refine K_cond hS trivial (b := decide (x1 < ((p_v.S.n : Nat) : Int))) (fun c8 => ?_) (fun c8 => ?_)
    · replace h := itT c8 h
      obtain ⟨c9, h⟩ := chkE h
      refine K_cond hS c9 (b := (((p_v.S.g x1.toNat).Symbol == p_symbol) != false)) (fun c10 => ?_) (fun c10 => ?_)
      · replace h := itT c10 h
        obtain ⟨c11, h⟩ := chkE h
        obtain rfl := someI h
        exact K_retO hS (And.intro (And.intro c11.1 (by decide : (2 : Nat) ≤ 2)) c11.2) ⟨[(5, (.p (.bb true))), (4, (.reg 5000 0))], [(5000, (.cells [(.p (pI .u32 (p_v.S.g x1.toNat).S.Plus)), (.p (pI .u32 (p_v.S.g x1.toNat).S.Minus))])), (1, (.vec t_api_Named 3 p_v.S.n (fun i => c_Named (p_v.S.g i)) true)), (0, (.cells [(.p (.bb p_v.Made)), (.p (vSl 1 cS p_v.F)), (.vec 1)]))]⟩ [0, 1] (ids := [(0, 0), (1, 1), (5000, 5000)]) ⟨rfl, rfl, rfl⟩
      · replace h := itF c10 h
        exact hb1 _ [(0, 0), (1, 1), (5000, 5000)] _ (IntKind.wrap .i64 (x1 + 1)) trivial h
    · replace h := itF c8 h
      obtain rfl := someI h
      exact K_retO hS trivial ⟨[(5, (.p (.bb false))), (4, (.reg 5000 0))], [(5000, (.cells [(.p (pI .u32 0)), (.p (pI .u32 0))])), (1, (.vec t_api_Named 3 p_v.S.n (fun i => c_Named (p_v.S.g i)) true)), (0, (.cells [(.p (.bb p_v.Made)), (.p (vSl 1 cS p_v.F)), (.vec 1)]))]⟩ [0, 1] (ids := [(0, 0), (1, 1), (5000, 5000)]) ⟨rfl, rfl, rfl⟩
def m_ablautref03_Inv_Symbol (N : Nat) (p_v : O_ablautref03_Inv) (p_s : Sound) : Option (Str × Bool) :=
  (m_ablautref03_Inv_made N p_v).bind fun y1 =>
  if (!y1) = true then
    some ([], false)
  else
    fix1 N (fun self1 (x1 : Int) =>
        if (decide (x1 < ((p_v.S.n : Nat) : Int))) = true then
          if (((0 : Int) ≤ x1 ∧ x1 < ((p_v.S.n : Nat) : Int)) ∧ x1.toNat < p_v.S.n) then
            if ((((p_v.S.g x1.toNat).S.Plus == p_s.Plus) && ((p_v.S.g x1.toNat).S.Minus == p_s.Minus)) != false) = true then
              if (((0 : Int) ≤ x1 ∧ x1 < ((p_v.S.n : Nat) : Int)) ∧ x1.toNat < p_v.S.n) then
                some ((p_v.S.g x1.toNat).Symbol, true)
              else none
            else
              self1 (IntKind.wrap .i64 (x1 + 1))
          else none
        else
          some ([], false)
      ) 0
theorem w_ablautref03_Inv_Symbol {N : Nat} {p_v : O_ablautref03_Inv} {p_s : Sound}   {y : (Str × Bool)} (h : m_ablautref03_Inv_Symbol N p_v p_s = some y) :
    FunO S k_ablautref03_Inv_Symbol [(.reg 0 0), (.p (.agg (c_Sound p_s)))] [(.cells [(.p (.bb p_v.Made)), (.p (vSl 1 cS p_v.F)), (.vec 1)]), (.vec t_api_Named 3 p_v.S.n (fun i => c_Named (p_v.S.g i)) true)] (.tup [(.p (.str y.1)), (.p (.bb y.2))]) ([(.cells [(.p (.bb p_v.Made)), (.p (vSl 1 cS p_v.F)), (.vec 1)]), (.vec t_api_Named 3 p_v.S.n (fun i => c_Named (p_v.S.g i)) true)]) [true, true] := by
  unfold m_ablautref03_Inv_Symbol at h
  refine K_start hS f_ablautref03_Inv_Symbol ?_
  obtain ⟨y1, e1, h⟩ := bindE h
  refine K_call hS [0, 1] trivial (w_ablautref03_Inv_made hS hL e1) ?_
  refine K_cond hS trivial (b := !y1) (fun c1 => ?_) (fun c1 => ?_)
  · replace h := itT c1 h
    obtain rfl := someI h
    exact K_retO hS trivial ⟨[(5, (.p (.bb false))), (4, (.p (.str [])))], [(1, (.vec t_api_Named 3 p_v.S.n (fun i => c_Named (p_v.S.g i)) true)), (0, (.cells [(.p (.bb p_v.Made)), (.p (vSl 1 cS p_v.F)), (.vec 1)]))]⟩ [0, 1] (ids := [(0, 0), (1, 1)]) ⟨rfl, rfl, rfl⟩
  · replace h := itF c1 h
    refine K_fix1 hS trivial h (fun x1 => ⟨[(6, (.p (pI .i64 x1))), (3, (.reg 4000 0)), (0, (.reg 0 0))], [(4000, (.cells [(.p (pI .u32 p_s.Plus)), (.p (pI .u32 p_s.Minus))])), (1, (.vec t_api_Named 3 p_v.S.n (fun i => c_Named (p_v.S.g i)) true)), (0, (.cells [(.p (.bb p_v.Made)), (.p (vSl 1 cS p_v.F)), (.vec 1)]))]⟩) (ids := [(0, 0), (1, 1), (4000, 4000)]) (fun _ _ _ _ _ self1 x1 hb1 h => ?_)
    refine K_cond hS trivial (b := decide (x1 < ((p_v.S.n : Nat) : Int))) (fun c8 => ?_) (fun c8 => ?_)
    · replace h := itT c8 h
      refine K_drawn hS trivial ?_
      obtain ⟨c9, h⟩ := chkE h
      refine D_end (And.intro (And.intro (And.intro c9.1 (by decide : (2 : Nat) ≤ 2)) c9.2) (by decide +kernel : eqOk Tryd.prog t_api_Sound = true)) ?_
      refine K_cond hS trivial (b := ((((p_v.S.g x1.toNat).S.Plus == p_s.Plus) && ((p_v.S.g x1.toNat).S.Minus == p_s.Minus)) != false)) (fun c10 => ?_) (fun c10 => ?_)
      · replace h := itT c10 h
        obtain ⟨c11, h⟩ := chkE h
        obtain rfl := someI h
        exact K_retO hS c11 ⟨[(5, (.p (.bb true))), (4, (.p (.str (p_v.S.g x1.toNat).Symbol)))], [(1, (.vec t_api_Named 3 p_v.S.n (fun i => c_Named (p_v.S.g i)) true)), (0, (.cells [(.p (.bb p_v.Made)), (.p (vSl 1 cS p_v.F)), (.vec 1)]))]⟩ [0, 1] (ids := [(0, 0), (1, 1)]) ⟨rfl, rfl, rfl⟩
      · replace h := itF c10 h
        exact hb1 _ [(0, 0), (1, 1), (4000, 4000)] _ (IntKind.wrap .i64 (x1 + 1)) trivial h
    · replace h := itF c8 h
      obtain rfl := someI h
      exact K_retO hS trivial ⟨[(5, (.p (.bb false))), (4, (.p (.str [])))], [(1, (.vec t_api_Named 3 p_v.S.n (fun i => c_Named (p_v.S.g i)) true)), (0, (.cells [(.p (.bb p_v.Made)), (.p (vSl 1 cS p_v.F)), (.vec 1)]))]⟩ [0, 1] (ids := [(0, 0), (1, 1)]) ⟨rfl, rfl, rfl⟩
def m_ablautref03_Inv_Longest (N : Nat) (p_v : O_ablautref03_Inv) (p_text : Str) : Option (Str × Bool) :=
  (m_ablautref03_Inv_made N p_v).bind fun y1 =>
  if (!y1) = true then
    some ([], false)
  else
    fix2 N (fun self1 (x1 : Str) (x2 : Int) =>
        if (decide (x2 < ((p_v.S.n : Nat) : Int))) = true then
          if (((0 : Int) ≤ x2 ∧ x2 < ((p_v.S.n : Nat) : Int)) ∧ x2.toNat < p_v.S.n) then
            if ((decide (((x1.length : Nat) : Int) < (((p_v.S.g x2.toNat).Symbol.length : Nat) : Int))) = true → ((decide ((((p_v.S.g x2.toNat).Symbol.length : Nat) : Int) ≤ ((p_text.length : Nat) : Int))) = true → ((0 : Int) ≤ (((p_v.S.g x2.toNat).Symbol.length : Nat) : Int) ∧ (((p_v.S.g x2.toNat).Symbol.length : Nat) : Int) ≤ ((p_text.length : Nat) : Int)))) then
              if (((decide (((x1.length : Nat) : Int) < (((p_v.S.g x2.toNat).Symbol.length : Nat) : Int))) && (decide ((((p_v.S.g x2.toNat).Symbol.length : Nat) : Int) ≤ ((p_text.length : Nat) : Int)))) && (((p_text.take (((p_v.S.g x2.toNat).Symbol.length : Nat) : Int).toNat) == (p_v.S.g x2.toNat).Symbol) != false)) = true then
                self1 (p_v.S.g x2.toNat).Symbol (IntKind.wrap .i64 (x2 + 1))
              else
                self1 x1 (IntKind.wrap .i64 (x2 + 1))
            else none
          else none
        else
          some (x1, ((x1 == []) != true))
      ) [] 0
theorem w_ablautref03_Inv_Longest {N : Nat} {p_v : O_ablautref03_Inv} {p_text : Str}   {y : (Str × Bool)} (h : m_ablautref03_Inv_Longest N p_v p_text = some y) :
    FunO S k_ablautref03_Inv_Longest [(.reg 0 0), (.p (.str p_text))] [(.cells [(.p (.bb p_v.Made)), (.p (vSl 1 cS p_v.F)), (.vec 1)]), (.vec t_api_Named 3 p_v.S.n (fun i => c_Named (p_v.S.g i)) true)] (.tup [(.p (.str y.1)), (.p (.bb y.2))]) ([(.cells [(.p (.bb p_v.Made)), (.p (vSl 1 cS p_v.F)), (.vec 1)]), (.vec t_api_Named 3 p_v.S.n (fun i => c_Named (p_v.S.g i)) true)]) [true, true] := by
  unfold m_ablautref03_Inv_Longest at h
  refine K_start hS f_ablautref03_Inv_Longest ?_
  obtain ⟨y1, e1, h⟩ := bindE h
  refine K_call hS [0, 1] trivial (w_ablautref03_Inv_made hS hL e1) ?_
  refine K_cond hS trivial (b := !y1) (fun c1 => ?_) (fun c1 => ?_)
  · replace h := itT c1 h
    obtain rfl := someI h
    exact K_retO hS trivial ⟨[(5, (.p (.bb false))), (4, (.p (.str [])))], [(1, (.vec t_api_Named 3 p_v.S.n (fun i => c_Named (p_v.S.g i)) true)), (0, (.cells [(.p (.bb p_v.Made)), (.p (vSl 1 cS p_v.F)), (.vec 1)]))]⟩ [0, 1] (ids := [(0, 0), (1, 1)]) ⟨rfl, rfl, rfl⟩
  · replace h := itF c1 h
    refine K_fix2 hS trivial h (fun x1 x2 => ⟨[(7, (.p (pI .i64 x2))), (6, (.p (.str x1))), (1, (.p (.str p_text))), (0, (.reg 0 0))], [(1, (.vec t_api_Named 3 p_v.S.n (fun i => c_Named (p_v.S.g i)) true)), (0, (.cells [(.p (.bb p_v.Made)), (.p (vSl 1 cS p_v.F)), (.vec 1)]))]⟩) (ids := [(0, 0), (1, 1)]) (fun _ _ _ _ _ self1 x1 x2 hb3 h => ?_)
    refine K_cond hS trivial (b := decide (x2 < ((p_v.S.n : Nat) : Int))) (fun c18 => ?_) (fun c18 => ?_)
    · replace h := itT c18 h
      obtain ⟨c19, h⟩ := chkE h
      obtain ⟨c22, h⟩ := chkE h
      obtain ⟨t3, ht3⟩ : ∃ x : Bool, x = (((decide (((x1.length : Nat) : Int) < (((p_v.S.g x2.toNat).Symbol.length : Nat) : Int))) && (decide ((((p_v.S.g x2.toNat).Symbol.length : Nat) : Int) ≤ ((p_text.length : Nat) : Int)))) && (((p_text.take (((p_v.S.g x2.toNat).Symbol.length : Nat) : Int).toNat) == (p_v.S.g x2.toNat).Symbol) != false)) := ⟨_, rfl⟩
      refine K_cut hS c19 (fnPost_up hS) 0 ⟨[(48, (.p (.bb t3))), (8, (.p (.str (p_v.S.g x2.toNat).Symbol))), (7, (.p (pI .i64 x2))), (6, (.p (.str x1))), (1, (.p (.str p_text))), (0, (.reg 0 0))], [(1, (.vec t_api_Named 3 p_v.S.n (fun i => c_Named (p_v.S.g i)) true)), (0, (.cells [(.p (.bb p_v.Made)), (.p (vSl 1 cS p_v.F)), (.vec 1)]))]⟩ (fun M3 hb4 => ?_) ?_
      · refine K_guard hS trivial (b := decide (((x1.length : Nat) : Int) < (((p_v.S.g x2.toNat).Symbol.length : Nat) : Int))) (fun c23 => ?_) (fun c23 => ?_)
        · refine K_guard hS trivial (b := decide ((((p_v.S.g x2.toNat).Symbol.length : Nat) : Int) ≤ ((p_text.length : Nat) : Int))) (fun c24 => ?_) (fun c24 => ?_)
          · exact hb4 _ [(0, 0), (1, 1)] _ (c22 c23 c24) (by kernel_rfl) (by kernel_rfl) (klR [(0, .eq (.bb (((p_text.take (((p_v.S.g x2.toNat).Symbol.length : Nat) : Int).toNat) == (p_v.S.g x2.toNat).Symbol) != false)) (.bb t3))] (al1 (by simp only [ht3, c23, c24, Leaf.ok, pm, if_true, if_false]) al0))
          · exact hb4 _ [(0, 0), (1, 1)] _ trivial (by kernel_rfl) (by kernel_rfl) (klR [(0, .eq (.bb false) (.bb t3))] (al1 (by simp only [ht3, c23, c24, Leaf.ok, pm, if_true, if_false]) al0))
        · exact hb4 _ [(0, 0), (1, 1)] _ trivial (by kernel_rfl) (by kernel_rfl) (klR [(0, .eq (.bb false) (.bb t3))] (al1 (by simp only [ht3, c23, Leaf.ok, pm, if_true, if_false]) al0))
      · subst ht3
        refine K_cond hS trivial (b := (((decide (((x1.length : Nat) : Int) < (((p_v.S.g x2.toNat).Symbol.length : Nat) : Int))) && (decide ((((p_v.S.g x2.toNat).Symbol.length : Nat) : Int) ≤ ((p_text.length : Nat) : Int)))) && (((p_text.take (((p_v.S.g x2.toNat).Symbol.length : Nat) : Int).toNat) == (p_v.S.g x2.toNat).Symbol) != false))) (fun c25 => ?_) (fun c25 => ?_)
        · replace h := itT c25 h
          exact hb3 _ [(0, 0), (1, 1)] _ (p_v.S.g x2.toNat).Symbol (IntKind.wrap .i64 (x2 + 1)) trivial h
        · replace h := itF c25 h
          exact hb3 _ [(0, 0), (1, 1)] _ x1 (IntKind.wrap .i64 (x2 + 1)) trivial h
    · replace h := itF c18 h
      obtain rfl := someI h
      exact K_retO hS trivial ⟨[(5, (.p (.bb ((x1 == []) != true)))), (4, (.p (.str x1)))], [(1, (.vec t_api_Named 3 p_v.S.n (fun i => c_Named (p_v.S.g i)) true)), (0, (.cells [(.p (.bb p_v.Made)), (.p (vSl 1 cS p_v.F)), (.vec 1)]))]⟩ [0, 1] (ids := [(0, 0), (1, 1)]) ⟨rfl, rfl, rfl⟩
def m_ablautref03_Inv_Feats (N : Nat) (p_v : O_ablautref03_Inv) : Option (Sl Str) :=
  (m_ablautref03_Inv_made N p_v).bind fun y1 =>
  if (!y1) = true then
    some (Sl.nil : Sl Str)
  else
    if (((Sl.of [] : Sl Str).n + p_v.F.n) * 16 ≤ 140737488355328 ∧ (Sl.of [] : Sl Str).n + p_v.F.n ≤ 140737488355328) then
      some ((Sl.of [] : Sl Str).app p_v.F)
    else none
theorem w_ablautref03_Inv_Feats {N : Nat} {p_v : O_ablautref03_Inv}   {y : (Sl Str)} (h : m_ablautref03_Inv_Feats N p_v = some y) :
    FunO S k_ablautref03_Inv_Feats [(.reg 0 0)] [(.cells [(.p (.bb p_v.Made)), (.p (vSl 1 cS p_v.F)), (.vec 1)]), (.vec t_api_Named 3 p_v.S.n (fun i => c_Named (p_v.S.g i)) true)] (.vec 2) ([(.cells [(.p (.bb p_v.Made)), (.p (vSl 1 cS p_v.F)), (.vec 1)]), (.vec t_api_Named 3 p_v.S.n (fun i => c_Named (p_v.S.g i)) true), (.vec t_string 1 y.n (fun i => cS (y.g i)) true)]) [true, true] := by
  unfold m_ablautref03_Inv_Feats at h
  refine K_start hS f_ablautref03_Inv_Feats ?_
  obtain ⟨y1, e1, h⟩ := bindE h
  refine K_call hS [0, 1] trivial (w_ablautref03_Inv_made hS hL e1) ?_
  refine K_cond hS trivial (b := !y1) (fun c1 => ?_) (fun c1 => ?_)
  · replace h := itT c1 h
    obtain rfl := someI h
    exact K_retO hS trivial ⟨[(2, (.vec 3700))], [(3700, (.vec t_string 1 (Sl.nil : Sl Str).n (fun i => cS ((Sl.nil : Sl Str).g i)) true)), (1, (.vec t_api_Named 3 p_v.S.n (fun i => c_Named (p_v.S.g i)) true)), (0, (.cells [(.p (.bb p_v.Made)), (.p (vSl 1 cS p_v.F)), (.vec 1)]))]⟩ [0, 1, 3700] (ids := [(0, 0), (1, 1)]) ⟨rfl, rfl, rfl⟩
  · replace h := itF c1 h
    obtain ⟨c2, h⟩ := chkE h
    obtain rfl := someI h
    exact K_retO hS (And.intro (rfl : true = true) c2) ⟨[(2, (.vec 12000))], [(12000, (.vec t_string 1 ((Sl.of [] : Sl Str).app p_v.F).n (fun i => cS (((Sl.of [] : Sl Str).app p_v.F).g i)) true)), (1, (.vec t_api_Named 3 p_v.S.n (fun i => c_Named (p_v.S.g i)) true)), (0, (.cells [(.p (.bb p_v.Made)), (.p (vSl 1 cS p_v.F)), (.vec 1)]))]⟩ [0, 1, 12000] (ids := [(0, 0), (1, 1), (12000, 12000)]) ⟨rfl, rfl, rfl⟩ (hle := (klR [(0, .fn (0 + p_v.F.n) ((Sl.of [] : Sl Str).app p_v.F).n (appF 0 (lookF [(.str [])] []) (fun i => cS (p_v.F.g i))) (fun i => cS (((Sl.of [] : Sl Str).app p_v.F).g i)))] (al1 ⟨rfl, (appL (c := cS) (v := (Sl.of [] : Sl Str)) (w := p_v.F) (fun i hi => absurd hi (by omega)) rfl same rfl)⟩ al0)))
def m_ablautref03_Inv_Sounds (N : Nat) (p_v : O_ablautref03_Inv) : Option (Sl Named) :=
  (m_ablautref03_Inv_made N p_v).bind fun y1 =>
  if (!y1) = true then
    some (Sl.nil : Sl Named)
  else
    if (((Sl.of [] : Sl Named).n + p_v.S.n) * 24 ≤ 140737488355328 ∧ (Sl.of [] : Sl Named).n + p_v.S.n ≤ 140737488355328) then
      some ((Sl.of [] : Sl Named).app p_v.S)
    else none
theorem w_ablautref03_Inv_Sounds {N : Nat} {p_v : O_ablautref03_Inv}   {y : (Sl Named)} (h : m_ablautref03_Inv_Sounds N p_v = some y) :
    FunO S k_ablautref03_Inv_Sounds [(.reg 0 0)] [(.cells [(.p (.bb p_v.Made)), (.p (vSl 1 cS p_v.F)), (.vec 1)]), (.vec t_api_Named 3 p_v.S.n (fun i => c_Named (p_v.S.g i)) true)] (.vec 2) ([(.cells [(.p (.bb p_v.Made)), (.p (vSl 1 cS p_v.F)), (.vec 1)]), (.vec t_api_Named 3 p_v.S.n (fun i => c_Named (p_v.S.g i)) true), (.vec t_api_Named 3 y.n (fun i => c_Named (y.g i)) true)]) [true, true] := by
  unfold m_ablautref03_Inv_Sounds at h
  refine K_start hS f_ablautref03_Inv_Sounds ?_
  obtain ⟨y1, e1, h⟩ := bindE h
  refine K_call hS [0, 1] trivial (w_ablautref03_Inv_made hS hL e1) ?_
  refine K_cond hS trivial (b := !y1) (fun c1 => ?_) (fun c1 => ?_)
  · replace h := itT c1 h
    obtain rfl := someI h
    exact K_retO hS trivial ⟨[(2, (.vec 3700))], [(3700, (.vec t_api_Named 3 (Sl.nil : Sl Named).n (fun i => c_Named ((Sl.nil : Sl Named).g i)) true)), (1, (.vec t_api_Named 3 p_v.S.n (fun i => c_Named (p_v.S.g i)) true)), (0, (.cells [(.p (.bb p_v.Made)), (.p (vSl 1 cS p_v.F)), (.vec 1)]))]⟩ [0, 1, 3700] (ids := [(0, 0), (1, 1)]) ⟨rfl, rfl, rfl⟩
  · replace h := itF c1 h
    obtain ⟨c2, h⟩ := chkE h
    obtain rfl := someI h
    exact K_retO hS (And.intro (rfl : true = true) c2) ⟨[(2, (.vec 12000))], [(12000, (.vec t_api_Named 3 ((Sl.of [] : Sl Named).app p_v.S).n (fun i => c_Named (((Sl.of [] : Sl Named).app p_v.S).g i)) true)), (1, (.vec t_api_Named 3 p_v.S.n (fun i => c_Named (p_v.S.g i)) true)), (0, (.cells [(.p (.bb p_v.Made)), (.p (vSl 1 cS p_v.F)), (.vec 1)]))]⟩ [0, 1, 12000] (ids := [(0, 0), (1, 1), (12000, 12000)]) ⟨rfl, rfl, rfl⟩ (hle := (klR [(0, .fn (0 + p_v.S.n) ((Sl.of [] : Sl Named).app p_v.S).n (appF 0 (lookF [(.str []), (pI .u32 0), (pI .u32 0)] []) (fun i => c_Named (p_v.S.g i))) (fun i => c_Named (((Sl.of [] : Sl Named).app p_v.S).g i)))] (al1 ⟨rfl, (appL (c := c_Named) (v := (Sl.of [] : Sl Named)) (w := p_v.S) (fun i hi => absurd hi (by omega)) rfl same rfl)⟩ al0)))
def m_ablautref03_Inv_Len (N : Nat) (p_v : O_ablautref03_Inv) : Option Int :=
  (m_ablautref03_Inv_Sounds N p_v).bind fun y1 =>
  some ((y1.n : Nat) : Int)
theorem w_ablautref03_Inv_Len {N : Nat} {p_v : O_ablautref03_Inv}   {y : Int} (h : m_ablautref03_Inv_Len N p_v = some y) :
    FunO S k_ablautref03_Inv_Len [(.reg 0 0)] [(.cells [(.p (.bb p_v.Made)), (.p (vSl 1 cS p_v.F)), (.vec 1)]), (.vec t_api_Named 3 p_v.S.n (fun i => c_Named (p_v.S.g i)) true)] (.p (pI .i64 y)) ([(.cells [(.p (.bb p_v.Made)), (.p (vSl 1 cS p_v.F)), (.vec 1)]), (.vec t_api_Named 3 p_v.S.n (fun i => c_Named (p_v.S.g i)) true)]) [true, true] := by
  unfold m_ablautref03_Inv_Len at h
  refine K_start hS f_ablautref03_Inv_Len ?_
  obtain ⟨y1, e1, h⟩ := bindE h
  refine K_call hS [0, 1] trivial (w_ablautref03_Inv_Sounds hS hL e1) ?_
  obtain rfl := someI h
  exact K_retO hS trivial ⟨[(2, (.p (pI .i64 ((y1.n : Nat) : Int))))], [(1, (.vec t_api_Named 3 p_v.S.n (fun i => c_Named (p_v.S.g i)) true)), (0, (.cells [(.p (.bb p_v.Made)), (.p (vSl 1 cS p_v.F)), (.vec 1)]))]⟩ [0, 1] (ids := [(0, 0), (1, 1)]) ⟨rfl, rfl, rfl⟩
def m_ablautref03_New (N : Nat) (p_feats : (Sl Str)) : Option ((Option O_ablautref03_Inv) × Int) :=
  if (decide (24 < ((p_feats.n : Nat) : Int))) = true then
    some (none, 12)
  else
    fix1 N (fun self1 (x1 : Int) =>
        if (decide (x1 < ((p_feats.n : Nat) : Int))) = true then
          if ((0 : Int) ≤ x1 ∧ x1 < ((p_feats.n : Nat) : Int)) then
            (m_ablautref03_IsFeat N (p_feats.g x1.toNat)).bind fun y3 =>
            if (!y3) = true then
              some (none, 15)
            else
              self1 (IntKind.wrap .i64 (x1 + 1))
          else none
        else
          fix1 N (fun self4 (x3 : Int) =>
              if (decide (x3 < ((p_feats.n : Nat) : Int))) = true then
                fix1 N (fun self5 (x5 : Int) =>
                    if (decide (x5 < x3)) = true then
                      if (((0 : Int) ≤ x3 ∧ x3 < ((p_feats.n : Nat) : Int)) ∧ ((0 : Int) ≤ x5 ∧ x5 < ((p_feats.n : Nat) : Int))) then
                        if (((p_feats.g x3.toNat) == (p_feats.g x5.toNat)) != false) = true then
                          some (none, 6)
                        else
                          self5 (IntKind.wrap .i64 (x5 + 1))
                      else none
                    else
                      self4 (IntKind.wrap .i64 (x3 + 1))
                  ) 0
              else
                if (((Sl.of [] : Sl Str).n + p_feats.n) * 16 ≤ 140737488355328 ∧ (Sl.of [] : Sl Str).n + p_feats.n ≤ 140737488355328) then
                  some (some (⟨true, ((Sl.of [] : Sl Str).app p_feats), (Sl.nil : Sl Named)⟩ : O_ablautref03_Inv), 0)
                else none
            ) 0
      ) 0
theorem w_ablautref03_New {N : Nat} {p_feats : (Sl Str)}   {y : ((Option O_ablautref03_Inv) × Int)} (h : m_ablautref03_New N p_feats = some y) :
    FunO S k_ablautref03_New [(.p (vSl 1 cS p_feats))] [] (.tup [(optE y.1 (.p nilP) fun _ => .reg 0 0), (.p (pI .i64 y.2))]) (optE y.1 [] fun o => [(.cells [(.p (.bb o.Made)), (.p (vSl 1 cS o.F)), (.vec 1)]), (.vec t_api_Named 3 o.S.n (fun i => c_Named (o.S.g i)) true)]) [] := by
  unfold m_ablautref03_New at h
  refine K_start hS f_ablautref03_New ?_
  refine K_cond hS trivial (b := decide (24 < ((p_feats.n : Nat) : Int))) (fun c1 => ?_) (fun c1 => ?_)
  · replace h := itT c1 h
    obtain rfl := someI h
    exact K_retO hS trivial ⟨[(3, (.p (pI .i64 12))), (2, (.p nilP))], []⟩ [] (ids := []) ⟨rfl, rfl, rfl⟩
  · replace h := itF c1 h
    refine K_fix1 hS trivial h (fun x1 => ⟨[(4, (.p (pI .i64 x1))), (0, (.p (vSl 1 cS p_feats)))], []⟩) (ids := []) (fun _ _ _ _ _ self1 x1 hb1 h => ?_)
    refine K_cond hS trivial (b := decide (x1 < ((p_feats.n : Nat) : Int))) (fun c8 => ?_) (fun c8 => ?_)
    · replace h := itT c8 h
      obtain ⟨c9, h⟩ := chkE h
      obtain ⟨y3, e3, h⟩ := bindE h
      refine K_call hS [] c9 (w_ablautref03_IsFeat hS hL e3) ?_
      refine K_cond hS trivial (b := !y3) (fun c10 => ?_) (fun c10 => ?_)
      · replace h := itT c10 h
        obtain rfl := someI h
        exact K_retO hS trivial ⟨[(3, (.p (pI .i64 15))), (2, (.p nilP))], []⟩ [] (ids := []) ⟨rfl, rfl, rfl⟩
      · replace h := itF c10 h
        exact hb1 _ [] _ (IntKind.wrap .i64 (x1 + 1)) trivial h
    · replace h := itF c8 h
      refine K_fix1 hS trivial h (fun x3 => ⟨[(5, (.p (pI .i64 x3))), (0, (.p (vSl 1 cS p_feats)))], []⟩) (ids := []) (fun _ _ _ _ _ self4 x3 hb4 h => ?_)
      refine K_cond hS trivial (b := decide (x3 < ((p_feats.n : Nat) : Int))) (fun c31 => ?_) (fun c31 => ?_)
      · replace h := itT c31 h
        refine K_fix1 hS trivial h (fun x5 => ⟨[(6, (.p (pI .i64 x5))), (5, (.p (pI .i64 x3))), (0, (.p (vSl 1 cS p_feats)))], []⟩) (ids := []) (fun _ _ _ _ _ self5 x5 hb5 h => ?_)
        refine K_cond hS trivial (b := decide (x5 < x3)) (fun c38 => ?_) (fun c38 => ?_)
        · replace h := itT c38 h
          refine K_drawn hS trivial ?_
          obtain ⟨c39, h⟩ := chkE h
          refine D_end c39 ?_
          refine K_cond hS trivial (b := (((p_feats.g x3.toNat) == (p_feats.g x5.toNat)) != false)) (fun c40 => ?_) (fun c40 => ?_)
          · replace h := itT c40 h
            obtain rfl := someI h
            exact K_retO hS trivial ⟨[(3, (.p (pI .i64 6))), (2, (.p nilP))], []⟩ [] (ids := []) ⟨rfl, rfl, rfl⟩
          · replace h := itF c40 h
            exact hb5 _ [] _ (IntKind.wrap .i64 (x5 + 1)) trivial h
        · replace h := itF c38 h
          exact hb4 _ [] _ (IntKind.wrap .i64 (x3 + 1)) trivial h
      · replace h := itF c31 h
        obtain ⟨c41, h⟩ := chkE h
        obtain rfl := someI h
        exact K_retO hS (And.intro (rfl : true = true) c41) ⟨[(3, (.p (pI .i64 0))), (2, (.reg 47000 0))], [(47000, (.cells [(.p (.bb true)), (.p (vSl 1 cS ((Sl.of [] : Sl Str).app p_feats))), (.vec 3801)])), (3801, (.vec t_api_Named 3 (Sl.nil : Sl Named).n (fun i => c_Named ((Sl.nil : Sl Named).g i)) true))]⟩ [47000, 3801] (ids := [(47000, 47000)]) ⟨rfl, rfl, rfl⟩ (hle := (klR [(2, .fn (0 + p_feats.n) ((Sl.of [] : Sl Str).app p_feats).n (appF 0 (lookF [(.str [])] []) (fun i => cS (p_feats.g i))) (fun i => cS (((Sl.of [] : Sl Str).app p_feats).g i)))] (al1 ⟨rfl, (appL (c := cS) (v := (Sl.of [] : Sl Str)) (w := p_feats) (fun i hi => absurd hi (by omega)) rfl same rfl)⟩ al0)))
def m_inventory_Inv_made (N : Nat) (p_v : O_inventory_Inv) : Option Bool :=
  some true
theorem w_inventory_Inv_made {N : Nat} {p_v : O_inventory_Inv}   {y : Bool} (h : m_inventory_Inv_made N p_v = some y) :
    FunO S k_inventory_Inv_made [(.reg 0 0)] [(.cells [(.p (vSl 1 cS p_v.feats)), (.mref 1), (.vec 2), (.mref 3), (.mref 4)]), (.map (encM PV.str (pI .i64) p_v.number)), (.vec t_api_Named 3 p_v.sounds.n (fun i => c_Named (p_v.sounds.g i)) true), (.map (encM PV.str (pI .i64) p_v.symbols)), (.map (encM (fun x => .agg (c_Sound x)) (pI .i64) p_v.values))] (.p (.bb y)) ([(.cells [(.p (vSl 1 cS p_v.feats)), (.mref 1), (.vec 2), (.mref 3), (.mref 4)]), (.map (encM PV.str (pI .i64) p_v.number)), (.vec t_api_Named 3 p_v.sounds.n (fun i => c_Named (p_v.sounds.g i)) true), (.map (encM PV.str (pI .i64) p_v.symbols)), (.map (encM (fun x => .agg (c_Sound x)) (pI .i64) p_v.values))]) [true, true, true, true, true] := by
  unfold m_inventory_Inv_made at h
  refine K_start hS f_inventory_Inv_made ?_
  obtain rfl := someI h
  exact K_retO hS trivial ⟨[(2, (.p (.bb true)))], [(4, (.map (encM (fun x => .agg (c_Sound x)) (pI .i64) p_v.values))), (3, (.map (encM PV.str (pI .i64) p_v.symbols))), (2, (.vec t_api_Named 3 p_v.sounds.n (fun i => c_Named (p_v.sounds.g i)) true)), (1, (.map (encM PV.str (pI .i64) p_v.number))), (0, (.cells [(.p (vSl 1 cS p_v.feats)), (.mref 1), (.vec 2), (.mref 3), (.mref 4)]))]⟩ [0, 1, 2, 3, 4] (ids := [(0, 0), (1, 1), (2, 2), (3, 3), (4, 4)]) ⟨rfl, rfl, rfl⟩
def m_inventory_Inv_belongs (N : Nat) (p_v : O_inventory_Inv) (p_s : Sound) : Option Bool :=
  if (0 : Int) ≤ ((p_v.feats.n : Nat) : Int) then
    some (((bitI .and .u32 p_s.Plus p_s.Minus) == 0) && ((bitI .andNot .u32 (bitI .or .u32 p_s.Plus p_s.Minus) (IntKind.wrap .u32 ((shI .shl .u32 1 ((p_v.feats.n : Nat) : Int)) - 1))) == 0))
  else none
theorem w_inventory_Inv_belongs {N : Nat} {p_v : O_inventory_Inv} {p_s : Sound}   {y : Bool} (h : m_inventory_Inv_belongs N p_v p_s = some y) :
    FunO S k_inventory_Inv_belongs [(.reg 0 0), (.p (.agg (c_Sound p_s)))] [(.cells [(.p (vSl 1 cS p_v.feats)), (.mref 1), (.vec 2), (.mref 3), (.mref 4)]), (.map (encM PV.str (pI .i64) p_v.number)), (.vec t_api_Named 3 p_v.sounds.n (fun i => c_Named (p_v.sounds.g i)) true), (.map (encM PV.str (pI .i64) p_v.symbols)), (.map (encM (fun x => .agg (c_Sound x)) (pI .i64) p_v.values))] (.p (.bb y)) ([(.cells [(.p (vSl 1 cS p_v.feats)), (.mref 1), (.vec 2), (.mref 3), (.mref 4)]), (.map (encM PV.str (pI .i64) p_v.number)), (.vec t_api_Named 3 p_v.sounds.n (fun i => c_Named (p_v.sounds.g i)) true), (.map (encM PV.str (pI .i64) p_v.symbols)), (.map (encM (fun x => .agg (c_Sound x)) (pI .i64) p_v.values))]) [true, true, true, true, true] := by
  unfold m_inventory_Inv_belongs at h
  refine K_start hS f_inventory_Inv_belongs ?_
  obtain ⟨c1, h⟩ := chkE h
  obtain ⟨t1, ht1⟩ : ∃ x : Bool, x = (((bitI .and .u32 p_s.Plus p_s.Minus) == 0) && ((bitI .andNot .u32 (bitI .or .u32 p_s.Plus p_s.Minus) (IntKind.wrap .u32 ((shI .shl .u32 1 ((p_v.feats.n : Nat) : Int)) - 1))) == 0)) := ⟨_, rfl⟩
  refine K_cut hS c1 (fnPost_up hS) 0 ⟨[(4, (.p (.bb t1)))], [(4, (.map (encM (fun x => .agg (c_Sound x)) (pI .i64) p_v.values))), (3, (.map (encM PV.str (pI .i64) p_v.symbols))), (2, (.vec t_api_Named 3 p_v.sounds.n (fun i => c_Named (p_v.sounds.g i)) true)), (1, (.map (encM PV.str (pI .i64) p_v.number))), (0, (.cells [(.p (vSl 1 cS p_v.feats)), (.mref 1), (.vec 2), (.mref 3), (.mref 4)]))]⟩ (fun M1 hb1 => ?_) ?_
  · refine K_guard hS trivial (b := (bitI .and .u32 p_s.Plus p_s.Minus) == 0) (fun c3 => ?_) (fun c3 => ?_)
    · exact hb1 _ [(0, 0), (1, 1), (2, 2), (3, 3), (4, 4)] _ trivial (by kernel_rfl) (by kernel_rfl) (klR [(0, .eq (.bb ((bitI .andNot .u32 (bitI .or .u32 p_s.Plus p_s.Minus) (IntKind.wrap .u32 ((shI .shl .u32 1 ((p_v.feats.n : Nat) : Int)) - 1))) == 0)) (.bb t1))] (al1 (by simp only [ht1, c3, Leaf.ok, pm, if_true, if_false]) al0))
    · exact hb1 _ [(0, 0), (1, 1), (2, 2), (3, 3), (4, 4)] _ trivial (by kernel_rfl) (by kernel_rfl) (klR [(0, .eq (.bb false) (.bb t1))] (al1 (by simp only [ht1, c3, Leaf.ok, pm, if_true, if_false]) al0))
  · subst ht1
    obtain rfl := someI h
    exact K_retO hS trivial ⟨[(4, (.p (.bb (((bitI .and .u32 p_s.Plus p_s.Minus) == 0) && ((bitI .andNot .u32 (bitI .or .u32 p_s.Plus p_s.Minus) (IntKind.wrap .u32 ((shI .shl .u32 1 ((p_v.feats.n : Nat) : Int)) - 1))) == 0)))))], [(4, (.map (encM (fun x => .agg (c_Sound x)) (pI .i64) p_v.values))), (3, (.map (encM PV.str (pI .i64) p_v.symbols))), (2, (.vec t_api_Named 3 p_v.sounds.n (fun i => c_Named (p_v.sounds.g i)) true)), (1, (.map (encM PV.str (pI .i64) p_v.number))), (0, (.cells [(.p (vSl 1 cS p_v.feats)), (.mref 1), (.vec 2), (.mref 3), (.mref 4)]))]⟩ [0, 1, 2, 3, 4] (ids := [(0, 0), (1, 1), (2, 2), (3, 3), (4, 4)]) ⟨rfl, rfl, rfl⟩
def m_inventory_consists (N : Nat) (p_s : Str) (p_most : Int) (p_of : Int → Option Bool) : Option Bool :=
  if ((decide (((p_s.length : Nat) : Int) < 1)) || (decide (p_most < ((p_s.length : Nat) : Int)))) = true then
    some false
  else
    fix1 N (fun self1 (x1 : Int) =>
        if (decide (x1 < ((p_s.length : Nat) : Int))) = true then
          if ((0 : Int) ≤ x1 ∧ x1 < ((p_s.length : Nat) : Int)) then
            (p_of (byteAt p_s x1)).bind fun y3 =>
            if (!y3) = true then
              some false
            else
              self1 (IntKind.wrap .i64 (x1 + 1))
          else none
        else
          some true
      ) 0
theorem w_inventory_consists {N : Nat} {p_s : Str} {p_most : Int} {p_of : Int → Option Bool} {kp_of : Nat} (hp_of : ∀ {a0 : Int} {b : Bool}, p_of a0 = some b → FunO S kp_of [(.p (pI .u8 a0))] [] (.p (.bb b)) [] []) {y : Bool} (h : m_inventory_consists N p_s p_most p_of = some y) :
    FunO S k_inventory_consists [(.p (.str p_s)), (.p (pI .i64 p_most)), (.clo kp_of [] [])] [] (.p (.bb y)) ([]) [] := by
  unfold m_inventory_consists at h
  refine K_start hS f_inventory_consists ?_
  obtain ⟨t1, ht1⟩ : ∃ x : Bool, x = ((decide (((p_s.length : Nat) : Int) < 1)) || (decide (p_most < ((p_s.length : Nat) : Int)))) := ⟨_, rfl⟩
  refine K_cut hS trivial (fnPost_up hS) 0 ⟨[(16, (.p (.bb t1))), (2, (.clo kp_of [] [])), (0, (.p (.str p_s)))], []⟩ (fun M1 hb1 => ?_) ?_
  · refine K_guard hS trivial (b := decide (((p_s.length : Nat) : Int) < 1)) (fun c2 => ?_) (fun c2 => ?_)
    · exact hb1 _ [] _ trivial (by kernel_rfl) (by kernel_rfl) (klR [(0, .eq (.bb true) (.bb t1))] (al1 (by simp only [ht1, c2, Leaf.ok, pm, if_true, if_false]) al0))
    · exact hb1 _ [] _ trivial (by kernel_rfl) (by kernel_rfl) (klR [(0, .eq (.bb (decide (p_most < ((p_s.length : Nat) : Int)))) (.bb t1))] (al1 (by simp only [ht1, c2, Leaf.ok, pm, if_true, if_false]) al0))
  · subst ht1
    refine K_cond hS trivial (b := ((decide (((p_s.length : Nat) : Int) < 1)) || (decide (p_most < ((p_s.length : Nat) : Int))))) (fun c3 => ?_) (fun c3 => ?_)
    · replace h := itT c3 h
      obtain rfl := someI h
      exact K_ret hS trivial [] ⟨rfl, rfl, rfl⟩
    · replace h := itF c3 h
      refine K_fix1 hS trivial h (fun x1 => ⟨[(19, (.p (pI .i64 x1))), (18, (.p (pI .i64 ((p_s.length : Nat) : Int)))), (2, (.clo kp_of [] [])), (0, (.p (.str p_s)))], []⟩) (ids := []) (fun _ _ _ _ _ self1 x1 hb2 h => ?_)
      refine K_cond hS trivial (b := decide (x1 < ((p_s.length : Nat) : Int))) (fun c10 => ?_) (fun c10 => ?_)
      · replace h := itT c10 h
        obtain ⟨c11, h⟩ := chkE h
        obtain ⟨y3, e3, h⟩ := bindE h
        refine K_call hS [] c11 (hp_of e3) ?_
        refine K_cond hS trivial (b := !y3) (fun c12 => ?_) (fun c12 => ?_)
        · replace h := itT c12 h
          obtain rfl := someI h
          exact K_ret hS trivial [] ⟨rfl, rfl, rfl⟩
        · replace h := itF c12 h
          exact hb2 _ [] _ (IntKind.wrap .i64 (x1 + 1)) trivial h
      · replace h := itF c10 h
        obtain rfl := someI h
        exact K_ret hS trivial [] ⟨rfl, rfl, rfl⟩
def m_inventory_Inv_Add_1 (N : Nat) (p_c : Int) : Option Bool :=
  (m_inventory_small N p_c).bind fun y1 =>
  lt (fun (z1 : Bool) =>
      some z1
    ) fun k1 =>
    if y1 = true then
      k1 true
    else
      if (decide (65 ≤ p_c)) = true then
        if (decide (p_c ≤ 90)) = true then
          k1 true
        else
          (m_strings_IndexByte N [64, 63, 33, 38, 42, 36, 37] p_c).bind fun y4 =>
          k1 (decide (0 ≤ y4))
      else
        (m_strings_IndexByte N [64, 63, 33, 38, 42, 36, 37] p_c).bind fun y5 =>
        k1 (decide (0 ≤ y5))
theorem w_inventory_Inv_Add_1 {N : Nat} {p_c : Int}   {y : Bool} (h : m_inventory_Inv_Add_1 N p_c = some y) :
    FunO S k_inventory_Inv_Add_1 [(.p (pI .u8 p_c))] [] (.p (.bb y)) ([]) [] := by
  unfold m_inventory_Inv_Add_1 at h
  refine K_start hS f_inventory_Inv_Add_1 ?_
  obtain ⟨y1, e1, h⟩ := bindE h
  refine K_call hS [] trivial (w_inventory_small hS hL e1) ?_
  refine K_lt hS trivial (fnPost_up hS) h 0 (fun z1 => ⟨[(2, (.p (.bb z1)))], []⟩) (fun M1 k1 hb1 h => ?_) (fun z1 h => ?_)
  · refine K_guard hS trivial (b := y1) (fun c7 => ?_) (fun c7 => ?_)
    · replace h := itT c7 h
      exact hb1 _ [] _ true trivial h
    · replace h := itF c7 h
      refine K_guard hS trivial (b := decide (65 ≤ p_c)) (fun c8 => ?_) (fun c8 => ?_)
      · replace h := itT c8 h
        refine K_guard hS trivial (b := decide (p_c ≤ 90)) (fun c9 => ?_) (fun c9 => ?_)
        · replace h := itT c9 h
          exact hb1 _ [] _ true trivial h
        · replace h := itF c9 h
          obtain ⟨y4, e4, h⟩ := bindE h
          refine K_call hS [] trivial (w_strings_IndexByte hS hL e4) ?_
          exact hb1 _ [] _ (decide (0 ≤ y4)) trivial h
      · replace h := itF c8 h
        obtain ⟨y5, e5, h⟩ := bindE h
        refine K_call hS [] trivial (w_strings_IndexByte hS hL e5) ?_
        exact hb1 _ [] _ (decide (0 ≤ y5)) trivial h
  · obtain rfl := someI h
    exact K_ret hS trivial [] ⟨rfl, rfl, rfl⟩
def m_inventory_Inv_Add (N : Nat) (p_v : O_inventory_Inv) (p_symbol : Str) (p_s : Sound) : Option (Int × O_inventory_Inv) :=
  (m_inventory_Inv_made N p_v).bind fun y1 =>
  if (!y1) = true then
    some (1, p_v)
  else
    (m_inventory_consists N p_symbol 4 (fun (u1 : Int) => m_inventory_Inv_Add_1 N u1)).bind fun y2 =>
    if (!y2) = true then
      some (15, p_v)
    else
      (m_inventory_Inv_belongs N p_v p_s).bind fun y3 =>
      if (!y3) = true then
        some (14, p_v)
      else
        optE (alook eqS p_symbol p_v.symbols) (
            optE (alook eq_Sound p_s p_v.values) (
                if (((p_v.sounds.n : Nat) : Int) == 256) = true then
                  some (4, p_v)
                else
                  if ((p_v.sounds.n + (Sl.of [(⟨p_symbol, p_s⟩ : Named)] : Sl Named).n) * 24 ≤ 140737488355328 ∧ p_v.sounds.n + (Sl.of [(⟨p_symbol, p_s⟩ : Named)] : Sl Named).n ≤ 140737488355328) then
                    some (0, (⟨p_v.feats, p_v.number, (p_v.sounds.push (⟨p_symbol, p_s⟩ : Named)), (aupd eqS p_symbol ((p_v.sounds.n : Nat) : Int) p_v.symbols), (aupd eq_Sound p_s ((p_v.sounds.n : Nat) : Int) p_v.values)⟩ : O_inventory_Inv))
                  else none
              ) fun v2 =>
              some (6, p_v)
          ) fun v1 =>
          optE (alook eq_Sound p_s p_v.values) (
              some (6, p_v)
            ) fun v3 =>
            some (6, p_v)
theorem w_inventory_Inv_Add {N : Nat} {p_v : O_inventory_Inv} {p_symbol : Str} {p_s : Sound}   {y : (Int × O_inventory_Inv)} (h : m_inventory_Inv_Add N p_v p_symbol p_s = some y) :
    FunO S k_inventory_Inv_Add [(.reg 0 0), (.p (.str p_symbol)), (.p (.agg (c_Sound p_s)))] [(.cells [(.p (vSl 1 cS p_v.feats)), (.mref 1), (.vec 2), (.mref 3), (.mref 4)]), (.map (encM PV.str (pI .i64) p_v.number)), (.vec t_api_Named 3 p_v.sounds.n (fun i => c_Named (p_v.sounds.g i)) true), (.map (encM PV.str (pI .i64) p_v.symbols)), (.map (encM (fun x => .agg (c_Sound x)) (pI .i64) p_v.values))] (.p (pI .i64 y.1)) ([(.cells [(.p (vSl 1 cS y.2.feats)), (.mref 1), (.vec 2), (.mref 3), (.mref 4)]), (.map (encM PV.str (pI .i64) y.2.number)), (.vec t_api_Named 3 y.2.sounds.n (fun i => c_Named (y.2.sounds.g i)) true), (.map (encM PV.str (pI .i64) y.2.symbols)), (.map (encM (fun x => .agg (c_Sound x)) (pI .i64) y.2.values))]) [true, true, false, true, true] := by
  unfold m_inventory_Inv_Add at h
  refine K_start hS f_inventory_Inv_Add ?_
  obtain ⟨y1, e1, h⟩ := bindE h
  refine K_call hS [0, 1, 2, 3, 4] trivial (w_inventory_Inv_made hS hL e1) ?_
  refine K_cond hS trivial (b := !y1) (fun c1 => ?_) (fun c1 => ?_)
  · replace h := itT c1 h
    obtain rfl := someI h
    exact K_retO hS trivial ⟨[(6, (.p (pI .i64 1)))], [(990002, (.vec t_api_Named 3 p_v.sounds.n (fun i => c_Named (p_v.sounds.g i)) true)), (4, (.map (encM (fun x => .agg (c_Sound x)) (pI .i64) p_v.values))), (3, (.map (encM PV.str (pI .i64) p_v.symbols))), (1, (.map (encM PV.str (pI .i64) p_v.number))), (0, (.cells [(.p (vSl 1 cS p_v.feats)), (.mref 1), (.vec 990002), (.mref 3), (.mref 4)]))]⟩ [0, 1, 990002, 3, 4] (ids := [(0, 0), (1, 1), (3, 3), (4, 4), (990002, 2)]) ⟨rfl, rfl, rfl⟩
  · replace h := itF c1 h
    obtain ⟨y2, e2, h⟩ := bindE h
    refine K_call hS [] trivial (w_inventory_consists hS hL (fun e => w_inventory_Inv_Add_1 hS hL e) e2) ?_
    refine K_cond hS trivial (b := !y2) (fun c2 => ?_) (fun c2 => ?_)
    · replace h := itT c2 h
      obtain rfl := someI h
      exact K_retO hS trivial ⟨[(6, (.p (pI .i64 15)))], [(990002, (.vec t_api_Named 3 p_v.sounds.n (fun i => c_Named (p_v.sounds.g i)) true)), (4, (.map (encM (fun x => .agg (c_Sound x)) (pI .i64) p_v.values))), (3, (.map (encM PV.str (pI .i64) p_v.symbols))), (1, (.map (encM PV.str (pI .i64) p_v.number))), (0, (.cells [(.p (vSl 1 cS p_v.feats)), (.mref 1), (.vec 990002), (.mref 3), (.mref 4)]))]⟩ [0, 1, 990002, 3, 4] (ids := [(0, 0), (1, 1), (3, 3), (4, 4), (990002, 2)]) ⟨rfl, rfl, rfl⟩
    · replace h := itF c2 h
      obtain ⟨y3, e3, h⟩ := bindE h
      refine K_call hS [0, 1, 2, 3, 4] trivial (w_inventory_Inv_belongs hS hL e3) ?_
      refine K_cond hS trivial (b := !y3) (fun c3 => ?_) (fun c3 => ?_)
      · replace h := itT c3 h
        obtain rfl := someI h
        exact K_retO hS trivial ⟨[(6, (.p (pI .i64 14)))], [(990002, (.vec t_api_Named 3 p_v.sounds.n (fun i => c_Named (p_v.sounds.g i)) true)), (4, (.map (encM (fun x => .agg (c_Sound x)) (pI .i64) p_v.values))), (3, (.map (encM PV.str (pI .i64) p_v.symbols))), (1, (.map (encM PV.str (pI .i64) p_v.number))), (0, (.cells [(.p (vSl 1 cS p_v.feats)), (.mref 1), (.vec 990002), (.mref 3), (.mref 4)]))]⟩ [0, 1, 990002, 3, 4] (ids := [(0, 0), (1, 1), (3, 3), (4, 4), (990002, 2)]) ⟨rfl, rfl, rfl⟩
      · replace h := itF c3 h
        rcases o1 : alook eqS p_symbol p_v.symbols with _ | v1
        · replace h := optN o1 h
          refine K_lookup hS trivial (kt := t_string) (e := t_int) (key := PV.str p_symbol) (es := (encM PV.str (pI .i64) p_v.symbols)) (x := (pI .i64 0)) (b := false) (fd := none) ((find_encM (kP := PV.str) (vP := (pI .i64)) (eq := eqS) (fun _ _ => by kernel_rfl) p_symbol p_v.symbols).trans (by rw [o1]; rfl)) trivial ?_
          refine K_drawn hS trivial ?_
          rcases o2 : alook eq_Sound p_s p_v.values with _ | v2
          · replace h := optN o2 h
            refine D_lookup trivial (kt := t_api_Sound) (e := t_int) (key := (fun x => .agg (c_Sound x)) p_s) (es := (encM (fun x => .agg (c_Sound x)) (pI .i64) p_v.values)) (x := (pI .i64 0)) (b := false) (fd := none) ((find_encM (kP := (fun x => .agg (c_Sound x))) (vP := (pI .i64)) (eq := eq_Sound) (fun _ _ => by kernel_rfl) p_s p_v.values).trans (by rw [o2]; rfl)) (by decide +kernel : eqOk Tryd.prog t_api_Sound = true) ?_
            refine D_end trivial ?_
            refine K_guard hS trivial (b := false) (fun c6 => ?_) (fun c6 => ?_)
            · exact Bool.noConfusion ((rfl : false = false).symm.trans c6)
            · refine K_cond hS trivial (b := false) (fun c7 => ?_) (fun c7 => ?_)
              · exact Bool.noConfusion ((rfl : false = false).symm.trans c7)
              · refine K_cond hS trivial (b := ((p_v.sounds.n : Nat) : Int) == 256) (fun c8 => ?_) (fun c8 => ?_)
                · replace h := itT c8 h
                  obtain rfl := someI h
                  exact K_retO hS trivial ⟨[(6, (.p (pI .i64 4)))], [(990002, (.vec t_api_Named 3 p_v.sounds.n (fun i => c_Named (p_v.sounds.g i)) true)), (4, (.map (encM (fun x => .agg (c_Sound x)) (pI .i64) p_v.values))), (3, (.map (encM PV.str (pI .i64) p_v.symbols))), (1, (.map (encM PV.str (pI .i64) p_v.number))), (0, (.cells [(.p (vSl 1 cS p_v.feats)), (.mref 1), (.vec 990002), (.mref 3), (.mref 4)]))]⟩ [0, 1, 990002, 3, 4] (ids := [(0, 0), (1, 1), (3, 3), (4, 4), (990002, 2)]) ⟨rfl, rfl, rfl⟩
                · replace h := itF c8 h
                  refine K_drawn hS trivial ?_
                  refine D_update trivial (kt := t_string) (key := PV.str p_symbol) (y := (pI .i64) ((p_v.sounds.n : Nat) : Int)) (es := (encM PV.str (pI .i64) p_v.symbols)) (upd_encM (kP := PV.str) (vP := (pI .i64)) (eq := eqS) (fun _ _ => by kernel_rfl) p_symbol ((p_v.sounds.n : Nat) : Int) p_v.symbols) trivial ?_
                  refine D_end trivial ?_
                  refine K_drawn hS trivial ?_
                  refine D_update trivial (kt := t_api_Sound) (key := (fun x => .agg (c_Sound x)) p_s) (y := (pI .i64) ((p_v.sounds.n : Nat) : Int)) (es := (encM (fun x => .agg (c_Sound x)) (pI .i64) p_v.values)) (upd_encM (kP := (fun x => .agg (c_Sound x))) (vP := (pI .i64)) (eq := eq_Sound) (fun _ _ => by kernel_rfl) p_s ((p_v.sounds.n : Nat) : Int) p_v.values) (by decide +kernel : eqOk Tryd.prog t_api_Sound = true) ?_
                  refine D_end trivial ?_
                  refine K_drawn hS trivial ?_
                  refine D_build trivial (x := (.sl true 3 1 (lookF [(.str []), (pI .u32 0), (pI .u32 0)] [(0, c_Named (⟨p_symbol, p_s⟩ : Named))]))) ?_
                  obtain ⟨c9, h⟩ := chkE h
                  refine D_end c9 ?_
                  obtain rfl := someI h
                  exact K_retO hS trivial ⟨[(6, (.p (pI .i64 0)))], [(79000, (.vec t_api_Named 3 (p_v.sounds.push (⟨p_symbol, p_s⟩ : Named)).n (fun i => c_Named ((p_v.sounds.push (⟨p_symbol, p_s⟩ : Named)).g i)) true)), (4, (.map (encM (fun x => .agg (c_Sound x)) (pI .i64) (aupd eq_Sound p_s ((p_v.sounds.n : Nat) : Int) p_v.values)))), (3, (.map (encM PV.str (pI .i64) (aupd eqS p_symbol ((p_v.sounds.n : Nat) : Int) p_v.symbols)))), (1, (.map (encM PV.str (pI .i64) p_v.number))), (0, (.cells [(.p (vSl 1 cS p_v.feats)), (.mref 1), (.vec 79000), (.mref 3), (.mref 4)]))]⟩ [0, 1, 79000, 3, 4] (ids := [(0, 0), (1, 1), (3, 3), (4, 4), (79000, 79000)]) ⟨rfl, rfl, rfl⟩ (hle := (klR [(1, .fn (p_v.sounds.n + 1) (p_v.sounds.push (⟨p_symbol, p_s⟩ : Named)).n (appF p_v.sounds.n (fun i => c_Named (p_v.sounds.g i)) (lookF [(.str []), (pI .u32 0), (pI .u32 0)] [(0, c_Named (⟨p_symbol, p_s⟩ : Named))])) (fun i => c_Named ((p_v.sounds.push (⟨p_symbol, p_s⟩ : Named)).g i)))] (al1 ⟨rfl, (app1 (c := c_Named) (v := p_v.sounds) (x := (⟨p_symbol, p_s⟩ : Named)) (z := [(.str []), (pI .u32 0), (pI .u32 0)]) same rfl rfl)⟩ al0)))
          · replace h := optS o2 h
            refine D_lookup trivial (kt := t_api_Sound) (e := t_int) (key := (fun x => .agg (c_Sound x)) p_s) (es := (encM (fun x => .agg (c_Sound x)) (pI .i64) p_v.values)) (x := ((pI .i64) v2)) (b := true) (fd := some ((pI .i64) v2)) ((find_encM (kP := (fun x => .agg (c_Sound x))) (vP := (pI .i64)) (eq := eq_Sound) (fun _ _ => by kernel_rfl) p_s p_v.values).trans (by rw [o2]; rfl)) (by decide +kernel : eqOk Tryd.prog t_api_Sound = true) ?_
            refine D_end trivial ?_
            refine K_guard hS trivial (b := false) (fun c12 => ?_) (fun c12 => ?_)
            · exact Bool.noConfusion ((rfl : false = false).symm.trans c12)
            · refine K_cond hS trivial (b := true) (fun c13 => ?_) (fun c13 => ?_)
              · obtain rfl := someI h
                exact K_retO hS trivial ⟨[(6, (.p (pI .i64 6)))], [(990002, (.vec t_api_Named 3 p_v.sounds.n (fun i => c_Named (p_v.sounds.g i)) true)), (4, (.map (encM (fun x => .agg (c_Sound x)) (pI .i64) p_v.values))), (3, (.map (encM PV.str (pI .i64) p_v.symbols))), (1, (.map (encM PV.str (pI .i64) p_v.number))), (0, (.cells [(.p (vSl 1 cS p_v.feats)), (.mref 1), (.vec 990002), (.mref 3), (.mref 4)]))]⟩ [0, 1, 990002, 3, 4] (ids := [(0, 0), (1, 1), (3, 3), (4, 4), (990002, 2)]) ⟨rfl, rfl, rfl⟩
              · exact Bool.noConfusion ((rfl : true = true).symm.trans c13)
        · replace h := optS o1 h
          refine K_lookup hS trivial (kt := t_string) (e := t_int) (key := PV.str p_symbol) (es := (encM PV.str (pI .i64) p_v.symbols)) (x := ((pI .i64) v1)) (b := true) (fd := some ((pI .i64) v1)) ((find_encM (kP := PV.str) (vP := (pI .i64)) (eq := eqS) (fun _ _ => by kernel_rfl) p_symbol p_v.symbols).trans (by rw [o1]; rfl)) trivial ?_
          refine K_drawn hS trivial ?_
          rcases o3 : alook eq_Sound p_s p_v.values with _ | v3
          · replace h := optN o3 h
            refine D_lookup trivial (kt := t_api_Sound) (e := t_int) (key := (fun x => .agg (c_Sound x)) p_s) (es := (encM (fun x => .agg (c_Sound x)) (pI .i64) p_v.values)) (x := (pI .i64 0)) (b := false) (fd := none) ((find_encM (kP := (fun x => .agg (c_Sound x))) (vP := (pI .i64)) (eq := eq_Sound) (fun _ _ => by kernel_rfl) p_s p_v.values).trans (by rw [o3]; rfl)) (by decide +kernel : eqOk Tryd.prog t_api_Sound = true) ?_
            refine D_end trivial ?_
            refine K_guard hS trivial (b := true) (fun c16 => ?_) (fun c16 => ?_)
            · obtain rfl := someI h
              exact K_retO hS trivial ⟨[(6, (.p (pI .i64 6)))], [(990002, (.vec t_api_Named 3 p_v.sounds.n (fun i => c_Named (p_v.sounds.g i)) true)), (4, (.map (encM (fun x => .agg (c_Sound x)) (pI .i64) p_v.values))), (3, (.map (encM PV.str (pI .i64) p_v.symbols))), (1, (.map (encM PV.str (pI .i64) p_v.number))), (0, (.cells [(.p (vSl 1 cS p_v.feats)), (.mref 1), (.vec 990002), (.mref 3), (.mref 4)]))]⟩ [0, 1, 990002, 3, 4] (ids := [(0, 0), (1, 1), (3, 3), (4, 4), (990002, 2)]) ⟨rfl, rfl, rfl⟩
            · exact Bool.noConfusion ((rfl : true = true).symm.trans c16)
          · replace h := optS o3 h
            refine D_lookup trivial (kt := t_api_Sound) (e := t_int) (key := (fun x => .agg (c_Sound x)) p_s) (es := (encM (fun x => .agg (c_Sound x)) (pI .i64) p_v.values)) (x := ((pI .i64) v3)) (b := true) (fd := some ((pI .i64) v3)) ((find_encM (kP := (fun x => .agg (c_Sound x))) (vP := (pI .i64)) (eq := eq_Sound) (fun _ _ => by kernel_rfl) p_s p_v.values).trans (by rw [o3]; rfl)) (by decide +kernel : eqOk Tryd.prog t_api_Sound = true) ?_
            refine D_end trivial ?_
            refine K_guard hS trivial (b := true) (fun c19 => ?_) (fun c19 => ?_)
            · obtain rfl := someI h
              exact K_retO hS trivial ⟨[(6, (.p (pI .i64 6)))], [(990002, (.vec t_api_Named 3 p_v.sounds.n (fun i => c_Named (p_v.sounds.g i)) true)), (4, (.map (encM (fun x => .agg (c_Sound x)) (pI .i64) p_v.values))), (3, (.map (encM PV.str (pI .i64) p_v.symbols))), (1, (.map (encM PV.str (pI .i64) p_v.number))), (0, (.cells [(.p (vSl 1 cS p_v.feats)), (.mref 1), (.vec 990002), (.mref 3), (.mref 4)]))]⟩ [0, 1, 990002, 3, 4] (ids := [(0, 0), (1, 1), (3, 3), (4, 4), (990002, 2)]) ⟨rfl, rfl, rfl⟩
            · exact Bool.noConfusion ((rfl : true = true).symm.trans c19)
def m_inventory_New (N : Nat) (p_feats : (Sl Str)) : Option ((Option O_inventory_Inv) × Int) :=
  if (decide (24 < ((p_feats.n : Nat) : Int))) = true then
    some (none, 12)
  else
    fix1 N (fun self1 (x1 : Int) =>
        if (decide (x1 < ((p_feats.n : Nat) : Int))) = true then
          if ((0 : Int) ≤ x1 ∧ x1 < ((p_feats.n : Nat) : Int)) then
            (m_inventory_consists N (p_feats.g x1.toNat) 16 (fun (u3 : Int) => m_inventory_small N u3)).bind fun y3 =>
            if ((!y3) = false → ((0 : Int) ≤ 0 ∧ 0 < (((p_feats.g x1.toNat).length : Nat) : Int))) then
              if ((!y3) || (decide ((byteAt (p_feats.g x1.toNat) 0) ≤ 57))) = true then
                some (none, 15)
              else
                self1 (IntKind.wrap .i64 (x1 + 1))
            else none
          else none
        else
          fix2 N (fun self2 (x2 : List (Str × Int)) (x3 : Int) =>
              if (decide (x3 < ((p_feats.n : Nat) : Int))) = true then
                if ((0 : Int) ≤ x3 ∧ x3 < ((p_feats.n : Nat) : Int)) then
                  optE (alook eqS (p_feats.g x3.toNat) x2) (
                      self2 (aupd eqS (p_feats.g x3.toNat) x3 x2) (IntKind.wrap .i64 (x3 + 1))
                    ) fun v3 =>
                    some (none, 6)
                else none
              else
                (m_slices_Clone_sl_string_string N p_feats).bind fun y4 =>
                some (some (⟨y4, x2, (Sl.nil : Sl Named), [], []⟩ : O_inventory_Inv), 0)
            ) [] 0
      ) 0
theorem w_inventory_New {N : Nat} {p_feats : (Sl Str)}   {y : ((Option O_inventory_Inv) × Int)} (h : m_inventory_New N p_feats = some y) :
    FunO S k_inventory_New [(.p (vSl 1 cS p_feats))] [] (.tup [(optE y.1 (.p nilP) fun _ => .reg 0 0), (.p (pI .i64 y.2))]) (optE y.1 [] fun o => [(.cells [(.p (vSl 1 cS o.feats)), (.mref 1), (.vec 2), (.mref 3), (.mref 4)]), (.map (encM PV.str (pI .i64) o.number)), (.vec t_api_Named 3 o.sounds.n (fun i => c_Named (o.sounds.g i)) true), (.map (encM PV.str (pI .i64) o.symbols)), (.map (encM (fun x => .agg (c_Sound x)) (pI .i64) o.values))]) [] := by
  unfold m_inventory_New at h
  refine K_start hS f_inventory_New ?_
  refine K_cond hS trivial (b := decide (24 < ((p_feats.n : Nat) : Int))) (fun c1 => ?_) (fun c1 => ?_)
  · replace h := itT c1 h
    obtain rfl := someI h
    exact K_retO hS trivial ⟨[(3, (.p (pI .i64 12))), (2, (.p nilP))], []⟩ [] (ids := []) ⟨rfl, rfl, rfl⟩
  · replace h := itF c1 h
    refine K_fix1 hS trivial h (fun x1 => ⟨[(21, (.p (pI .i64 x1))), (20, (.p (pI .i64 ((p_feats.n : Nat) : Int)))), (19, (.p (vSl 1 cS p_feats))), (4, (.reg 19000 0)), (0, (.p (vSl 1 cS p_feats)))], [(19000, (.cells [(.p nilS), (.mref 15000), (.p nilS), (.mref 16000), (.mref 17000)])), (17000, (.map (encM (fun x => .agg (c_Sound x)) (pI .i64) []))), (16000, (.map (encM PV.str (pI .i64) []))), (15000, (.map (encM PV.str (pI .i64) [])))]⟩) (ids := [(15000, 15000), (16000, 16000), (17000, 17000), (19000, 19000)]) (fun _ _ _ _ _ self1 x1 hb3 h => ?_)
    refine K_cond hS trivial (b := decide (x1 < ((p_feats.n : Nat) : Int))) (fun c14 => ?_) (fun c14 => ?_)
    · replace h := itT c14 h
      obtain ⟨c15, h⟩ := chkE h
      obtain ⟨y3, e3, h⟩ := bindE h
      refine K_call hS [] c15 (w_inventory_consists hS hL (fun e => w_inventory_small hS hL e) e3) ?_
      obtain ⟨c17, h⟩ := chkE h
      obtain ⟨t3, ht3⟩ : ∃ x : Bool, x = ((!y3) || (decide ((byteAt (p_feats.g x1.toNat) 0) ≤ 57))) := ⟨_, rfl⟩
      refine K_cut hS trivial (fnPost_up hS) 0 ⟨[(32, (.p (.bb t3))), (21, (.p (pI .i64 x1))), (20, (.p (pI .i64 ((p_feats.n : Nat) : Int)))), (19, (.p (vSl 1 cS p_feats))), (4, (.reg 19000 0)), (0, (.p (vSl 1 cS p_feats)))], [(19000, (.cells [(.p nilS), (.mref 15000), (.p nilS), (.mref 16000), (.mref 17000)])), (17000, (.map (encM (fun x => .agg (c_Sound x)) (pI .i64) []))), (16000, (.map (encM PV.str (pI .i64) []))), (15000, (.map (encM PV.str (pI .i64) [])))]⟩ (fun M3 hb4 => ?_) ?_
      · refine K_guard hS trivial (b := !y3) (fun c18 => ?_) (fun c18 => ?_)
        · exact hb4 _ [(15000, 15000), (16000, 16000), (17000, 17000), (19000, 19000)] _ trivial (by kernel_rfl) (by kernel_rfl) (klR [(0, .eq (.bb true) (.bb t3))] (al1 (by simp only [ht3, c18, Leaf.ok, pm, if_true, if_false]) al0))
        · exact hb4 _ [(15000, 15000), (16000, 16000), (17000, 17000), (19000, 19000)] _ (c17 c18) (by kernel_rfl) (by kernel_rfl) (klR [(0, .eq (.bb (decide ((byteAt (p_feats.g x1.toNat) 0) ≤ 57))) (.bb t3))] (al1 (by simp only [ht3, c18, Leaf.ok, pm, if_true, if_false]) al0))
      · subst ht3
        refine K_cond hS trivial (b := ((!y3) || (decide ((byteAt (p_feats.g x1.toNat) 0) ≤ 57)))) (fun c19 => ?_) (fun c19 => ?_)
        · replace h := itT c19 h
          obtain rfl := someI h
          exact K_retO hS trivial ⟨[(3, (.p (pI .i64 15))), (2, (.p nilP))], []⟩ [] (ids := []) ⟨rfl, rfl, rfl⟩
        · replace h := itF c19 h
          exact hb3 _ [(15000, 15000), (16000, 16000), (17000, 17000), (19000, 19000)] _ (IntKind.wrap .i64 (x1 + 1)) trivial h
    · replace h := itF c14 h
      refine K_fix2 hS trivial h (fun x2 x3 => ⟨[(36, (.p (pI .i64 x3))), (35, (.p (pI .i64 ((p_feats.n : Nat) : Int)))), (34, (.p (vSl 1 cS p_feats))), (4, (.reg 19000 0)), (0, (.p (vSl 1 cS p_feats)))], [(19000, (.cells [(.p nilS), (.mref 15000), (.p nilS), (.mref 16000), (.mref 17000)])), (17000, (.map (encM (fun x => .agg (c_Sound x)) (pI .i64) []))), (16000, (.map (encM PV.str (pI .i64) []))), (15000, (.map (encM PV.str (pI .i64) x2)))]⟩) (ids := [(15000, 15000), (16000, 16000), (17000, 17000), (19000, 19000)]) (fun _ _ _ _ _ self2 x2 x3 hb5 h => ?_)
      refine K_cond hS trivial (b := decide (x3 < ((p_feats.n : Nat) : Int))) (fun c28 => ?_) (fun c28 => ?_)
      · replace h := itT c28 h
        obtain ⟨c29, h⟩ := chkE h
        rcases o3 : alook eqS (p_feats.g x3.toNat) x2 with _ | v3
        · replace h := optN o3 h
          refine K_lookup hS c29 (kt := t_string) (e := t_int) (key := PV.str (p_feats.g x3.toNat)) (es := (encM PV.str (pI .i64) x2)) (x := (pI .i64 0)) (b := false) (fd := none) ((find_encM (kP := PV.str) (vP := (pI .i64)) (eq := eqS) (fun _ _ => by kernel_rfl) (p_feats.g x3.toNat) x2).trans (by rw [o3]; rfl)) trivial ?_
          refine K_cond hS trivial (b := false) (fun c30 => ?_) (fun c30 => ?_)
          · exact Bool.noConfusion ((rfl : false = false).symm.trans c30)
          · refine K_update hS trivial (kt := t_string) (key := PV.str (p_feats.g x3.toNat)) (y := (pI .i64) x3) (es := (encM PV.str (pI .i64) x2)) (upd_encM (kP := PV.str) (vP := (pI .i64)) (eq := eqS) (fun _ _ => by kernel_rfl) (p_feats.g x3.toNat) x3 x2) trivial ?_
            exact hb5 _ [(15000, 15000), (16000, 16000), (17000, 17000), (19000, 19000)] _ (aupd eqS (p_feats.g x3.toNat) x3 x2) (IntKind.wrap .i64 (x3 + 1)) trivial h
        · replace h := optS o3 h
          refine K_lookup hS c29 (kt := t_string) (e := t_int) (key := PV.str (p_feats.g x3.toNat)) (es := (encM PV.str (pI .i64) x2)) (x := ((pI .i64) v3)) (b := true) (fd := some ((pI .i64) v3)) ((find_encM (kP := PV.str) (vP := (pI .i64)) (eq := eqS) (fun _ _ => by kernel_rfl) (p_feats.g x3.toNat) x2).trans (by rw [o3]; rfl)) trivial ?_
          refine K_cond hS trivial (b := true) (fun c31 => ?_) (fun c31 => ?_)
          · obtain rfl := someI h
            exact K_retO hS trivial ⟨[(3, (.p (pI .i64 6))), (2, (.p nilP))], []⟩ [] (ids := []) ⟨rfl, rfl, rfl⟩
          · exact Bool.noConfusion ((rfl : true = true).symm.trans c31)
      · replace h := itF c28 h
        obtain ⟨y4, e4, h⟩ := bindE h
        refine K_call hS [] trivial (w_slices_Clone_sl_string_string hS hL e4) ?_
        obtain rfl := someI h
        exact K_retO hS trivial ⟨[(3, (.p (pI .i64 0))), (2, (.reg 19000 0))], [(19000, (.cells [(.p (vSl 1 cS y4)), (.mref 15000), (.vec 3802), (.mref 16000), (.mref 17000)])), (17000, (.map (encM (fun x => .agg (c_Sound x)) (pI .i64) []))), (16000, (.map (encM PV.str (pI .i64) []))), (15000, (.map (encM PV.str (pI .i64) x2))), (3802, (.vec t_api_Named 3 (Sl.nil : Sl Named).n (fun i => c_Named ((Sl.nil : Sl Named).g i)) true))]⟩ [19000, 15000, 3802, 16000, 17000] (ids := [(15000, 15000), (16000, 16000), (17000, 17000), (19000, 19000)]) ⟨rfl, rfl, rfl⟩
def m_inventory_Inv_Text (N : Nat) (p_v : O_inventory_Inv) (p_s : Sound) : Option (Str × Int) :=
  (m_inventory_Inv_made N p_v).bind fun y1 =>
  if (!y1) = true then
    some ([], 1)
  else
    (m_inventory_Inv_belongs N p_v p_s).bind fun y2 =>
    if (!y2) = true then
      some ([], 14)
    else
      fix2 N (fun self1 (x1 : Sl Str) (x2 : Int) =>
          if (decide (x2 < ((p_v.feats.n : Nat) : Int))) = true then
            if (((0 : Int) ≤ x2 ∧ x2 < ((p_v.feats.n : Nat) : Int)) ∧ (0 : Int) ≤ x2) then
              if ((bitI .and .u32 (shI .shr .u32 p_s.Plus x2) 1) == 1) = true then
                if (((([43].length + (p_v.feats.g x2.toNat).length : Nat) : Int) ≤ 9223372036854775807) ∧ ((x1.n + (Sl.of [([43] ++ (p_v.feats.g x2.toNat))] : Sl Str).n) * 16 ≤ 140737488355328 ∧ x1.n + (Sl.of [([43] ++ (p_v.feats.g x2.toNat))] : Sl Str).n ≤ 140737488355328)) then
                  self1 (x1.push ([43] ++ (p_v.feats.g x2.toNat))) (IntKind.wrap .i64 (x2 + 1))
                else none
              else
                if (0 : Int) ≤ x2 then
                  if ((bitI .and .u32 (shI .shr .u32 p_s.Minus x2) 1) == 1) = true then
                    if (((([45].length + (p_v.feats.g x2.toNat).length : Nat) : Int) ≤ 9223372036854775807) ∧ ((x1.n + (Sl.of [([45] ++ (p_v.feats.g x2.toNat))] : Sl Str).n) * 16 ≤ 140737488355328 ∧ x1.n + (Sl.of [([45] ++ (p_v.feats.g x2.toNat))] : Sl Str).n ≤ 140737488355328)) then
                      self1 (x1.push ([45] ++ (p_v.feats.g x2.toNat))) (IntKind.wrap .i64 (x2 + 1))
                    else none
                  else
                    self1 x1 (IntKind.wrap .i64 (x2 + 1))
                else none
            else none
          else
            (m_strings_Join N x1 [32]).bind fun y3 =>
            some (y3, 0)
        ) (Sl.nil : Sl Str) 0
theorem w_inventory_Inv_Text {N : Nat} {p_v : O_inventory_Inv} {p_s : Sound}   {y : (Str × Int)} (h : m_inventory_Inv_Text N p_v p_s = some y) :
    FunO S k_inventory_Inv_Text [(.reg 0 0), (.p (.agg (c_Sound p_s)))] [(.cells [(.p (vSl 1 cS p_v.feats)), (.mref 1), (.vec 2), (.mref 3), (.mref 4)]), (.map (encM PV.str (pI .i64) p_v.number)), (.vec t_api_Named 3 p_v.sounds.n (fun i => c_Named (p_v.sounds.g i)) true), (.map (encM PV.str (pI .i64) p_v.symbols)), (.map (encM (fun x => .agg (c_Sound x)) (pI .i64) p_v.values))] (.tup [(.p (.str y.1)), (.p (pI .i64 y.2))]) ([(.cells [(.p (vSl 1 cS p_v.feats)), (.mref 1), (.vec 2), (.mref 3), (.mref 4)]), (.map (encM PV.str (pI .i64) p_v.number)), (.vec t_api_Named 3 p_v.sounds.n (fun i => c_Named (p_v.sounds.g i)) true), (.map (encM PV.str (pI .i64) p_v.symbols)), (.map (encM (fun x => .agg (c_Sound x)) (pI .i64) p_v.values))]) [true, true, true, true, true] := by
  unfold m_inventory_Inv_Text at h
  refine K_start hS f_inventory_Inv_Text ?_
  obtain ⟨y1, e1, h⟩ := bindE h
  refine K_call hS [0, 1, 2, 3, 4] trivial (w_inventory_Inv_made hS hL e1) ?_
  refine K_cond hS trivial (b := !y1) (fun c1 => ?_) (fun c1 => ?_)
  · replace h := itT c1 h
    obtain rfl := someI h
    exact K_retO hS trivial ⟨[(5, (.p (pI .i64 1))), (4, (.p (.str [])))], [(4, (.map (encM (fun x => .agg (c_Sound x)) (pI .i64) p_v.values))), (3, (.map (encM PV.str (pI .i64) p_v.symbols))), (2, (.vec t_api_Named 3 p_v.sounds.n (fun i => c_Named (p_v.sounds.g i)) true)), (1, (.map (encM PV.str (pI .i64) p_v.number))), (0, (.cells [(.p (vSl 1 cS p_v.feats)), (.mref 1), (.vec 2), (.mref 3), (.mref 4)]))]⟩ [0, 1, 2, 3, 4] (ids := [(0, 0), (1, 1), (2, 2), (3, 3), (4, 4)]) ⟨rfl, rfl, rfl⟩
  · replace h := itF c1 h
    obtain ⟨y2, e2, h⟩ := bindE h
    refine K_call hS [0, 1, 2, 3, 4] trivial (w_inventory_Inv_belongs hS hL e2) ?_
    refine K_cond hS trivial (b := !y2) (fun c2 => ?_) (fun c2 => ?_)
    · replace h := itT c2 h
      obtain rfl := someI h
      exact K_retO hS trivial ⟨[(5, (.p (pI .i64 14))), (4, (.p (.str [])))], [(4, (.map (encM (fun x => .agg (c_Sound x)) (pI .i64) p_v.values))), (3, (.map (encM PV.str (pI .i64) p_v.symbols))), (2, (.vec t_api_Named 3 p_v.sounds.n (fun i => c_Named (p_v.sounds.g i)) true)), (1, (.map (encM PV.str (pI .i64) p_v.number))), (0, (.cells [(.p (vSl 1 cS p_v.feats)), (.mref 1), (.vec 2), (.mref 3), (.mref 4)]))]⟩ [0, 1, 2, 3, 4] (ids := [(0, 0), (1, 1), (2, 2), (3, 3), (4, 4)]) ⟨rfl, rfl, rfl⟩
    · replace h := itF c2 h
      refine K_fix2 hS trivial h (fun x1 x2 => ⟨[(21, (.p (pI .i64 x2))), (20, (.p (pI .i64 ((p_v.feats.n : Nat) : Int)))), (19, (.p (vSl 1 cS p_v.feats))), (6, (.vec 7500)), (3, (.reg 4000 0))], [(7500, (.vec t_string 1 x1.n (fun i => cS (x1.g i)) false)), (4000, (.cells [(.p (pI .u32 p_s.Plus)), (.p (pI .u32 p_s.Minus))])), (4, (.map (encM (fun x => .agg (c_Sound x)) (pI .i64) p_v.values))), (3, (.map (encM PV.str (pI .i64) p_v.symbols))), (2, (.vec t_api_Named 3 p_v.sounds.n (fun i => c_Named (p_v.sounds.g i)) true)), (1, (.map (encM PV.str (pI .i64) p_v.number))), (0, (.cells [(.p (vSl 1 cS p_v.feats)), (.mref 1), (.vec 2), (.mref 3), (.mref 4)]))]⟩) (ids := [(0, 0), (1, 1), (2, 2), (3, 3), (4, 4), (4000, 4000)]) (fun _ _ _ _ _ self1 x1 x2 hb1 h => ?_)
      refine K_cond hS trivial (b := decide (x2 < ((p_v.feats.n : Nat) : Int))) (fun c12 => ?_) (fun c12 => ?_)
      · replace h := itT c12 h
        obtain ⟨c13, h⟩ := chkE h
        refine K_cond hS c13 (b := (bitI .and .u32 (shI .shr .u32 p_s.Plus x2) 1) == 1) (fun c14 => ?_) (fun c14 => ?_)
        · replace h := itT c14 h
          obtain ⟨c15, h⟩ := chkE h
          exact hb1 _ [(0, 0), (1, 1), (2, 2), (3, 3), (4, 4), (4000, 4000), (7500, 38000)] _ (x1.push ([43] ++ (p_v.feats.g x2.toNat))) (IntKind.wrap .i64 (x2 + 1)) (And.intro (And.intro c15.1 (rfl : true = true)) c15.2) h (by kernel_rfl) (by kernel_rfl) (klR [(3, .fn (x1.n + 1) (x1.push ([43] ++ (p_v.feats.g x2.toNat))).n (appF x1.n (fun i => cS (x1.g i)) (lookF [(.str [])] [(0, cS ([43] ++ (p_v.feats.g x2.toNat)))])) (fun i => cS ((x1.push ([43] ++ (p_v.feats.g x2.toNat))).g i)))] (al1 ⟨rfl, (app1 (c := cS) (v := x1) (x := ([43] ++ (p_v.feats.g x2.toNat))) (z := [(.str [])]) same rfl rfl)⟩ al0))
        · replace h := itF c14 h
          obtain ⟨c16, h⟩ := chkE h
          refine K_cond hS c16 (b := (bitI .and .u32 (shI .shr .u32 p_s.Minus x2) 1) == 1) (fun c17 => ?_) (fun c17 => ?_)
          · replace h := itT c17 h
            obtain ⟨c18, h⟩ := chkE h
            exact hb1 _ [(0, 0), (1, 1), (2, 2), (3, 3), (4, 4), (4000, 4000), (7500, 50000)] _ (x1.push ([45] ++ (p_v.feats.g x2.toNat))) (IntKind.wrap .i64 (x2 + 1)) (And.intro (And.intro c18.1 (rfl : true = true)) c18.2) h (by kernel_rfl) (by kernel_rfl) (klR [(3, .fn (x1.n + 1) (x1.push ([45] ++ (p_v.feats.g x2.toNat))).n (appF x1.n (fun i => cS (x1.g i)) (lookF [(.str [])] [(0, cS ([45] ++ (p_v.feats.g x2.toNat)))])) (fun i => cS ((x1.push ([45] ++ (p_v.feats.g x2.toNat))).g i)))] (al1 ⟨rfl, (app1 (c := cS) (v := x1) (x := ([45] ++ (p_v.feats.g x2.toNat))) (z := [(.str [])]) same rfl rfl)⟩ al0))
          · replace h := itF c17 h
            exact hb1 _ [(0, 0), (1, 1), (2, 2), (3, 3), (4, 4), (4000, 4000), (7500, 7500)] _ x1 (IntKind.wrap .i64 (x2 + 1)) trivial h
      · replace h := itF c12 h
        obtain ⟨y3, e3, h⟩ := bindE h
        refine K_call hS [] trivial (w_strings_Join hS hL e3) ?_
        obtain rfl := someI h
        exact K_retO hS trivial ⟨[(5, (.p (pI .i64 0))), (4, (.p (.str y3)))], [(4, (.map (encM (fun x => .agg (c_Sound x)) (pI .i64) p_v.values))), (3, (.map (encM PV.str (pI .i64) p_v.symbols))), (2, (.vec t_api_Named 3 p_v.sounds.n (fun i => c_Named (p_v.sounds.g i)) true)), (1, (.map (encM PV.str (pI .i64) p_v.number))), (0, (.cells [(.p (vSl 1 cS p_v.feats)), (.mref 1), (.vec 2), (.mref 3), (.mref 4)]))]⟩ [0, 1, 2, 3, 4] (ids := [(0, 0), (1, 1), (2, 2), (3, 3), (4, 4)]) ⟨rfl, rfl, rfl⟩
def m_inventory_Inv_Longest (N : Nat) (p_v : O_inventory_Inv) (p_text : Str) : Option (Str × Bool) :=
  (m_inventory_Inv_made N p_v).bind fun y1 =>
  if (!y1) = true then
    some ([], false)
  else
    fix1 N (fun self1 (x1 : Int) =>
        if (decide (x1 < 4)) = true then
          if (decide (((p_text.length : Nat) : Int) < (IntKind.wrap .i64 (4 - x1)))) = true then
            self1 (IntKind.wrap .i64 (x1 + 1))
          else
            if ((0 : Int) ≤ (IntKind.wrap .i64 (4 - x1)) ∧ (IntKind.wrap .i64 (4 - x1)) ≤ ((p_text.length : Nat) : Int)) then
              optE (alook eqS (p_text.take (IntKind.wrap .i64 (4 - x1)).toNat) p_v.symbols) (
                  self1 (IntKind.wrap .i64 (x1 + 1))
                ) fun v3 =>
                if (((0 : Int) ≤ v3 ∧ v3 < ((p_v.sounds.n : Nat) : Int)) ∧ v3.toNat < p_v.sounds.n) then
                  some ((p_v.sounds.g v3.toNat).Symbol, true)
                else none
            else none
        else
          some ([], false)
      ) 0
theorem w_inventory_Inv_Longest {N : Nat} {p_v : O_inventory_Inv} {p_text : Str}   {y : (Str × Bool)} (h : m_inventory_Inv_Longest N p_v p_text = some y) :
    FunO S k_inventory_Inv_Longest [(.reg 0 0), (.p (.str p_text))] [(.cells [(.p (vSl 1 cS p_v.feats)), (.mref 1), (.vec 2), (.mref 3), (.mref 4)]), (.map (encM PV.str (pI .i64) p_v.number)), (.vec t_api_Named 3 p_v.sounds.n (fun i => c_Named (p_v.sounds.g i)) true), (.map (encM PV.str (pI .i64) p_v.symbols)), (.map (encM (fun x => .agg (c_Sound x)) (pI .i64) p_v.values))] (.tup [(.p (.str y.1)), (.p (.bb y.2))]) ([(.cells [(.p (vSl 1 cS p_v.feats)), (.mref 1), (.vec 2), (.mref 3), (.mref 4)]), (.map (encM PV.str (pI .i64) p_v.number)), (.vec t_api_Named 3 p_v.sounds.n (fun i => c_Named (p_v.sounds.g i)) true), (.map (encM PV.str (pI .i64) p_v.symbols)), (.map (encM (fun x => .agg (c_Sound x)) (pI .i64) p_v.values))]) [true, true, true, true, true] := by
  unfold m_inventory_Inv_Longest at h
  refine K_start hS f_inventory_Inv_Longest ?_
  obtain ⟨y1, e1, h⟩ := bindE h
  refine K_call hS [0, 1, 2, 3, 4] trivial (w_inventory_Inv_made hS hL e1) ?_
  refine K_cond hS trivial (b := !y1) (fun c1 => ?_) (fun c1 => ?_)
  · replace h := itT c1 h
    obtain rfl := someI h
    exact K_retO hS trivial ⟨[(5, (.p (.bb false))), (4, (.p (.str [])))], [(4, (.map (encM (fun x => .agg (c_Sound x)) (pI .i64) p_v.values))), (3, (.map (encM PV.str (pI .i64) p_v.symbols))), (2, (.vec t_api_Named 3 p_v.sounds.n (fun i => c_Named (p_v.sounds.g i)) true)), (1, (.map (encM PV.str (pI .i64) p_v.number))), (0, (.cells [(.p (vSl 1 cS p_v.feats)), (.mref 1), (.vec 2), (.mref 3), (.mref 4)]))]⟩ [0, 1, 2, 3, 4] (ids := [(0, 0), (1, 1), (2, 2), (3, 3), (4, 4)]) ⟨rfl, rfl, rfl⟩
  · replace h := itF c1 h
    refine K_fix1 hS trivial h (fun x1 => ⟨[(13, (.p (pI .i64 x1))), (1, (.p (.str p_text))), (0, (.reg 0 0))], [(4, (.map (encM (fun x => .agg (c_Sound x)) (pI .i64) p_v.values))), (3, (.map (encM PV.str (pI .i64) p_v.symbols))), (2, (.vec t_api_Named 3 p_v.sounds.n (fun i => c_Named (p_v.sounds.g i)) true)), (1, (.map (encM PV.str (pI .i64) p_v.number))), (0, (.cells [(.p (vSl 1 cS p_v.feats)), (.mref 1), (.vec 2), (.mref 3), (.mref 4)]))]⟩) (ids := [(0, 0), (1, 1), (2, 2), (3, 3), (4, 4)]) (fun _ _ _ _ _ self1 x1 hb1 h => ?_)
    refine K_cond hS trivial (b := decide (x1 < 4)) (fun c12 => ?_) (fun c12 => ?_)
    · replace h := itT c12 h
      refine K_cond hS trivial (b := decide (((p_text.length : Nat) : Int) < (IntKind.wrap .i64 (4 - x1)))) (fun c13 => ?_) (fun c13 => ?_)
      · replace h := itT c13 h
        exact hb1 _ [(0, 0), (1, 1), (2, 2), (3, 3), (4, 4)] _ (IntKind.wrap .i64 (x1 + 1)) trivial h
      · replace h := itF c13 h
        refine K_drawn hS trivial ?_
        obtain ⟨c14, h⟩ := chkE h
        rcases o3 : alook eqS (p_text.take (IntKind.wrap .i64 (4 - x1)).toNat) p_v.symbols with _ | v3
        · replace h := optN o3 h
          refine D_lookup c14 (kt := t_string) (e := t_int) (key := PV.str (p_text.take (IntKind.wrap .i64 (4 - x1)).toNat)) (es := (encM PV.str (pI .i64) p_v.symbols)) (x := (pI .i64 0)) (b := false) (fd := none) ((find_encM (kP := PV.str) (vP := (pI .i64)) (eq := eqS) (fun _ _ => by kernel_rfl) (p_text.take (IntKind.wrap .i64 (4 - x1)).toNat) p_v.symbols).trans (by rw [o3]; rfl)) trivial ?_
          refine D_end trivial ?_
          refine K_cond hS trivial (b := false) (fun c15 => ?_) (fun c15 => ?_)
          · exact Bool.noConfusion ((rfl : false = false).symm.trans c15)
          · exact hb1 _ [(0, 0), (1, 1), (2, 2), (3, 3), (4, 4)] _ (IntKind.wrap .i64 (x1 + 1)) trivial h
        · replace h := optS o3 h
          refine D_lookup c14 (kt := t_string) (e := t_int) (key := PV.str (p_text.take (IntKind.wrap .i64 (4 - x1)).toNat)) (es := (encM PV.str (pI .i64) p_v.symbols)) (x := ((pI .i64) v3)) (b := true) (fd := some ((pI .i64) v3)) ((find_encM (kP := PV.str) (vP := (pI .i64)) (eq := eqS) (fun _ _ => by kernel_rfl) (p_text.take (IntKind.wrap .i64 (4 - x1)).toNat) p_v.symbols).trans (by rw [o3]; rfl)) trivial ?_
          refine D_end trivial ?_
          refine K_cond hS trivial (b := true) (fun c16 => ?_) (fun c16 => ?_)
          · obtain ⟨c17, h⟩ := chkE h
            obtain rfl := someI h
            exact K_retO hS c17 ⟨[(5, (.p (.bb true))), (4, (.p (.str (p_v.sounds.g v3.toNat).Symbol)))], [(4, (.map (encM (fun x => .agg (c_Sound x)) (pI .i64) p_v.values))), (3, (.map (encM PV.str (pI .i64) p_v.symbols))), (2, (.vec t_api_Named 3 p_v.sounds.n (fun i => c_Named (p_v.sounds.g i)) true)), (1, (.map (encM PV.str (pI .i64) p_v.number))), (0, (.cells [(.p (vSl 1 cS p_v.feats)), (.mref 1), (.vec 2), (.mref 3), (.mref 4)]))]⟩ [0, 1, 2, 3, 4] (ids := [(0, 0), (1, 1), (2, 2), (3, 3), (4, 4)]) ⟨rfl, rfl, rfl⟩
          · exact Bool.noConfusion ((rfl : true = true).symm.trans c16)
    · replace h := itF c12 h
      obtain rfl := someI h
      exact K_retO hS trivial ⟨[(5, (.p (.bb false))), (4, (.p (.str [])))], [(4, (.map (encM (fun x => .agg (c_Sound x)) (pI .i64) p_v.values))), (3, (.map (encM PV.str (pI .i64) p_v.symbols))), (2, (.vec t_api_Named 3 p_v.sounds.n (fun i => c_Named (p_v.sounds.g i)) true)), (1, (.map (encM PV.str (pI .i64) p_v.number))), (0, (.cells [(.p (vSl 1 cS p_v.feats)), (.mref 1), (.vec 2), (.mref 3), (.mref 4)]))]⟩ [0, 1, 2, 3, 4] (ids := [(0, 0), (1, 1), (2, 2), (3, 3), (4, 4)]) ⟨rfl, rfl, rfl⟩
def m_inventory_Inv_Sound (N : Nat) (p_v : O_inventory_Inv) (p_symbol : Str) : Option (Sound × Bool) :=
  (m_inventory_Inv_made N p_v).bind fun y1 =>
  if (!y1) = true then
    some ((⟨0, 0⟩ : Sound), false)
  else
    optE (alook eqS p_symbol p_v.symbols) (
        some ((⟨0, 0⟩ : Sound), false)
      ) fun v1 =>
      if (((0 : Int) ≤ v1 ∧ v1 < ((p_v.sounds.n : Nat) : Int)) ∧ v1.toNat < p_v.sounds.n) then
        some ((p_v.sounds.g v1.toNat).S, true)
      else none
theorem w_inventory_Inv_Sound {N : Nat} {p_v : O_inventory_Inv} {p_symbol : Str}   {y : (Sound × Bool)} (h : m_inventory_Inv_Sound N p_v p_symbol = some y) :
    FunO S k_inventory_Inv_Sound [(.reg 0 0), (.p (.str p_symbol))] [(.cells [(.p (vSl 1 cS p_v.feats)), (.mref 1), (.vec 2), (.mref 3), (.mref 4)]), (.map (encM PV.str (pI .i64) p_v.number)), (.vec t_api_Named 3 p_v.sounds.n (fun i => c_Named (p_v.sounds.g i)) true), (.map (encM PV.str (pI .i64) p_v.symbols)), (.map (encM (fun x => .agg (c_Sound x)) (pI .i64) p_v.values))] (.tup [(.p (.agg (c_Sound y.1))), (.p (.bb y.2))]) ([(.cells [(.p (vSl 1 cS p_v.feats)), (.mref 1), (.vec 2), (.mref 3), (.mref 4)]), (.map (encM PV.str (pI .i64) p_v.number)), (.vec t_api_Named 3 p_v.sounds.n (fun i => c_Named (p_v.sounds.g i)) true), (.map (encM PV.str (pI .i64) p_v.symbols)), (.map (encM (fun x => .agg (c_Sound x)) (pI .i64) p_v.values))]) [true, true, true, true, true] := by
  unfold m_inventory_Inv_Sound at h
  refine K_start hS f_inventory_Inv_Sound ?_
  obtain ⟨y1, e1, h⟩ := bindE h
  refine K_call hS [0, 1, 2, 3, 4] trivial (w_inventory_Inv_made hS hL e1) ?_
  refine K_cond hS trivial (b := !y1) (fun c1 => ?_) (fun c1 => ?_)
  · replace h := itT c1 h
    obtain rfl := someI h
    exact K_retO hS trivial ⟨[(5, (.p (.bb false))), (4, (.reg 5000 0))], [(5000, (.cells [(.p (pI .u32 0)), (.p (pI .u32 0))])), (4, (.map (encM (fun x => .agg (c_Sound x)) (pI .i64) p_v.values))), (3, (.map (encM PV.str (pI .i64) p_v.symbols))), (2, (.vec t_api_Named 3 p_v.sounds.n (fun i => c_Named (p_v.sounds.g i)) true)), (1, (.map (encM PV.str (pI .i64) p_v.number))), (0, (.cells [(.p (vSl 1 cS p_v.feats)), (.mref 1), (.vec 2), (.mref 3), (.mref 4)]))]⟩ [0, 1, 2, 3, 4] (ids := [(0, 0), (1, 1), (2, 2), (3, 3), (4, 4), (5000, 5000)]) ⟨rfl, rfl, rfl⟩
  · replace h := itF c1 h
    rcases o1 : alook eqS p_symbol p_v.symbols with _ | v1
    · replace h := optN o1 h
      refine K_lookup hS trivial (kt := t_string) (e := t_int) (key := PV.str p_symbol) (es := (encM PV.str (pI .i64) p_v.symbols)) (x := (pI .i64 0)) (b := false) (fd := none) ((find_encM (kP := PV.str) (vP := (pI .i64)) (eq := eqS) (fun _ _ => by kernel_rfl) p_symbol p_v.symbols).trans (by rw [o1]; rfl)) trivial ?_
      refine K_cond hS trivial (b := true) (fun c2 => ?_) (fun c2 => ?_)
      · obtain rfl := someI h
        exact K_retO hS trivial ⟨[(5, (.p (.bb false))), (4, (.reg 5000 0))], [(5000, (.cells [(.p (pI .u32 0)), (.p (pI .u32 0))])), (4, (.map (encM (fun x => .agg (c_Sound x)) (pI .i64) p_v.values))), (3, (.map (encM PV.str (pI .i64) p_v.symbols))), (2, (.vec t_api_Named 3 p_v.sounds.n (fun i => c_Named (p_v.sounds.g i)) true)), (1, (.map (encM PV.str (pI .i64) p_v.number))), (0, (.cells [(.p (vSl 1 cS p_v.feats)), (.mref 1), (.vec 2), (.mref 3), (.mref 4)]))]⟩ [0, 1, 2, 3, 4] (ids := [(0, 0), (1, 1), (2, 2), (3, 3), (4, 4), (5000, 5000)]) ⟨rfl, rfl, rfl⟩
      · exact Bool.noConfusion ((rfl : true = true).symm.trans c2)
    · replace h := optS o1 h
      refine K_lookup hS trivial (kt := t_string) (e := t_int) (key := PV.str p_symbol) (es := (encM PV.str (pI .i64) p_v.symbols)) (x := ((pI .i64) v1)) (b := true) (fd := some ((pI .i64) v1)) ((find_encM (kP := PV.str) (vP := (pI .i64)) (eq := eqS) (fun _ _ => by kernel_rfl) p_symbol p_v.symbols).trans (by rw [o1]; rfl)) trivial ?_
      refine K_cond hS trivial (b := false) (fun c3 => ?_) (fun c3 => ?_)
      · exact Bool.noConfusion ((rfl : false = false).symm.trans c3)
      · obtain ⟨c4, h⟩ := chkE h
        obtain rfl := someI h
        exact K_retO hS (And.intro (And.intro c4.1 (by decide : (2 : Nat) ≤ 2)) c4.2) ⟨[(5, (.p (.bb true))), (4, (.reg 5000 0))], [(5000, (.cells [(.p (pI .u32 (p_v.sounds.g v1.toNat).S.Plus)), (.p (pI .u32 (p_v.sounds.g v1.toNat).S.Minus))])), (4, (.map (encM (fun x => .agg (c_Sound x)) (pI .i64) p_v.values))), (3, (.map (encM PV.str (pI .i64) p_v.symbols))), (2, (.vec t_api_Named 3 p_v.sounds.n (fun i => c_Named (p_v.sounds.g i)) true)), (1, (.map (encM PV.str (pI .i64) p_v.number))), (0, (.cells [(.p (vSl 1 cS p_v.feats)), (.mref 1), (.vec 2), (.mref 3), (.mref 4)]))]⟩ [0, 1, 2, 3, 4] (ids := [(0, 0), (1, 1), (2, 2), (3, 3), (4, 4), (5000, 5000)]) ⟨rfl, rfl, rfl⟩
def m_inventory_Inv_Symbol (N : Nat) (p_v : O_inventory_Inv) (p_s : Sound) : Option (Str × Bool) :=
  (m_inventory_Inv_made N p_v).bind fun y1 =>
  if (!y1) = true then
    some ([], false)
  else
    optE (alook eq_Sound p_s p_v.values) (
        some ([], false)
      ) fun v1 =>
      if (((0 : Int) ≤ v1 ∧ v1 < ((p_v.sounds.n : Nat) : Int)) ∧ v1.toNat < p_v.sounds.n) then
        some ((p_v.sounds.g v1.toNat).Symbol, true)
      else none
theorem w_inventory_Inv_Symbol {N : Nat} {p_v : O_inventory_Inv} {p_s : Sound}   {y : (Str × Bool)} (h : m_inventory_Inv_Symbol N p_v p_s = some y) :
    FunO S k_inventory_Inv_Symbol [(.reg 0 0), (.p (.agg (c_Sound p_s)))] [(.cells [(.p (vSl 1 cS p_v.feats)), (.mref 1), (.vec 2), (.mref 3), (.mref 4)]), (.map (encM PV.str (pI .i64) p_v.number)), (.vec t_api_Named 3 p_v.sounds.n (fun i => c_Named (p_v.sounds.g i)) true), (.map (encM PV.str (pI .i64) p_v.symbols)), (.map (encM (fun x => .agg (c_Sound x)) (pI .i64) p_v.values))] (.tup [(.p (.str y.1)), (.p (.bb y.2))]) ([(.cells [(.p (vSl 1 cS p_v.feats)), (.mref 1), (.vec 2), (.mref 3), (.mref 4)]), (.map (encM PV.str (pI .i64) p_v.number)), (.vec t_api_Named 3 p_v.sounds.n (fun i => c_Named (p_v.sounds.g i)) true), (.map (encM PV.str (pI .i64) p_v.symbols)), (.map (encM (fun x => .agg (c_Sound x)) (pI .i64) p_v.values))]) [true, true, true, true, true] := by
  unfold m_inventory_Inv_Symbol at h
  refine K_start hS f_inventory_Inv_Symbol ?_
  obtain ⟨y1, e1, h⟩ := bindE h
  refine K_call hS [0, 1, 2, 3, 4] trivial (w_inventory_Inv_made hS hL e1) ?_
  refine K_cond hS trivial (b := !y1) (fun c1 => ?_) (fun c1 => ?_)
  · replace h := itT c1 h
    obtain rfl := someI h
    exact K_retO hS trivial ⟨[(5, (.p (.bb false))), (4, (.p (.str [])))], [(4, (.map (encM (fun x => .agg (c_Sound x)) (pI .i64) p_v.values))), (3, (.map (encM PV.str (pI .i64) p_v.symbols))), (2, (.vec t_api_Named 3 p_v.sounds.n (fun i => c_Named (p_v.sounds.g i)) true)), (1, (.map (encM PV.str (pI .i64) p_v.number))), (0, (.cells [(.p (vSl 1 cS p_v.feats)), (.mref 1), (.vec 2), (.mref 3), (.mref 4)]))]⟩ [0, 1, 2, 3, 4] (ids := [(0, 0), (1, 1), (2, 2), (3, 3), (4, 4)]) ⟨rfl, rfl, rfl⟩
  · replace h := itF c1 h
    refine K_drawn hS trivial ?_
    rcases o1 : alook eq_Sound p_s p_v.values with _ | v1
    · replace h := optN o1 h
      refine D_lookup trivial (kt := t_api_Sound) (e := t_int) (key := (fun x => .agg (c_Sound x)) p_s) (es := (encM (fun x => .agg (c_Sound x)) (pI .i64) p_v.values)) (x := (pI .i64 0)) (b := false) (fd := none) ((find_encM (kP := (fun x => .agg (c_Sound x))) (vP := (pI .i64)) (eq := eq_Sound) (fun _ _ => by kernel_rfl) p_s p_v.values).trans (by rw [o1]; rfl)) (by decide +kernel : eqOk Tryd.prog t_api_Sound = true) ?_
      refine D_end trivial ?_
      refine K_cond hS trivial (b := true) (fun c2 => ?_) (fun c2 => ?_)
      · obtain rfl := someI h
        exact K_retO hS trivial ⟨[(5, (.p (.bb false))), (4, (.p (.str [])))], [(4, (.map (encM (fun x => .agg (c_Sound x)) (pI .i64) p_v.values))), (3, (.map (encM PV.str (pI .i64) p_v.symbols))), (2, (.vec t_api_Named 3 p_v.sounds.n (fun i => c_Named (p_v.sounds.g i)) true)), (1, (.map (encM PV.str (pI .i64) p_v.number))), (0, (.cells [(.p (vSl 1 cS p_v.feats)), (.mref 1), (.vec 2), (.mref 3), (.mref 4)]))]⟩ [0, 1, 2, 3, 4] (ids := [(0, 0), (1, 1), (2, 2), (3, 3), (4, 4)]) ⟨rfl, rfl, rfl⟩
      · exact Bool.noConfusion ((rfl : true = true).symm.trans c2)
    · replace h := optS o1 h
      refine D_lookup trivial (kt := t_api_Sound) (e := t_int) (key := (fun x => .agg (c_Sound x)) p_s) (es := (encM (fun x => .agg (c_Sound x)) (pI .i64) p_v.values)) (x := ((pI .i64) v1)) (b := true) (fd := some ((pI .i64) v1)) ((find_encM (kP := (fun x => .agg (c_Sound x))) (vP := (pI .i64)) (eq := eq_Sound) (fun _ _ => by kernel_rfl) p_s p_v.values).trans (by rw [o1]; rfl)) (by decide +kernel : eqOk Tryd.prog t_api_Sound = true) ?_
      refine D_end trivial ?_
      refine K_cond hS trivial (b := false) (fun c3 => ?_) (fun c3 => ?_)
      · exact Bool.noConfusion ((rfl : false = false).symm.trans c3)
      · obtain ⟨c4, h⟩ := chkE h
        obtain rfl := someI h
        exact K_retO hS c4 ⟨[(5, (.p (.bb true))), (4, (.p (.str (p_v.sounds.g v1.toNat).Symbol)))], [(4, (.map (encM (fun x => .agg (c_Sound x)) (pI .i64) p_v.values))), (3, (.map (encM PV.str (pI .i64) p_v.symbols))), (2, (.vec t_api_Named 3 p_v.sounds.n (fun i => c_Named (p_v.sounds.g i)) true)), (1, (.map (encM PV.str (pI .i64) p_v.number))), (0, (.cells [(.p (vSl 1 cS p_v.feats)), (.mref 1), (.vec 2), (.mref 3), (.mref 4)]))]⟩ [0, 1, 2, 3, 4] (ids := [(0, 0), (1, 1), (2, 2), (3, 3), (4, 4)]) ⟨rfl, rfl, rfl⟩
def m_inventory_Inv_Feat (N : Nat) (p_v : O_inventory_Inv) (p_name : Str) : Option (Int × Bool) :=
  (m_inventory_Inv_made N p_v).bind fun y1 =>
  if (!y1) = true then
    some (0, false)
  else
    optE (alook eqS p_name p_v.number) (
        some (0, false)
      ) fun v1 =>
      some (v1, true)
theorem w_inventory_Inv_Feat {N : Nat} {p_v : O_inventory_Inv} {p_name : Str}   {y : (Int × Bool)} (h : m_inventory_Inv_Feat N p_v p_name = some y) :
    FunO S k_inventory_Inv_Feat [(.reg 0 0), (.p (.str p_name))] [(.cells [(.p (vSl 1 cS p_v.feats)), (.mref 1), (.vec 2), (.mref 3), (.mref 4)]), (.map (encM PV.str (pI .i64) p_v.number)), (.vec t_api_Named 3 p_v.sounds.n (fun i => c_Named (p_v.sounds.g i)) true), (.map (encM PV.str (pI .i64) p_v.symbols)), (.map (encM (fun x => .agg (c_Sound x)) (pI .i64) p_v.values))] (.tup [(.p (pI .i64 y.1)), (.p (.bb y.2))]) ([(.cells [(.p (vSl 1 cS p_v.feats)), (.mref 1), (.vec 2), (.mref 3), (.mref 4)]), (.map (encM PV.str (pI .i64) p_v.number)), (.vec t_api_Named 3 p_v.sounds.n (fun i => c_Named (p_v.sounds.g i)) true), (.map (encM PV.str (pI .i64) p_v.symbols)), (.map (encM (fun x => .agg (c_Sound x)) (pI .i64) p_v.values))]) [true, true, true, true, true] := by
  unfold m_inventory_Inv_Feat at h
  refine K_start hS f_inventory_Inv_Feat ?_
  obtain ⟨y1, e1, h⟩ := bindE h
  refine K_call hS [0, 1, 2, 3, 4] trivial (w_inventory_Inv_made hS hL e1) ?_
  refine K_cond hS trivial (b := !y1) (fun c1 => ?_) (fun c1 => ?_)
  · replace h := itT c1 h
    obtain rfl := someI h
    exact K_retO hS trivial ⟨[(5, (.p (.bb false))), (4, (.p (pI .i64 0)))], [(4, (.map (encM (fun x => .agg (c_Sound x)) (pI .i64) p_v.values))), (3, (.map (encM PV.str (pI .i64) p_v.symbols))), (2, (.vec t_api_Named 3 p_v.sounds.n (fun i => c_Named (p_v.sounds.g i)) true)), (1, (.map (encM PV.str (pI .i64) p_v.number))), (0, (.cells [(.p (vSl 1 cS p_v.feats)), (.mref 1), (.vec 2), (.mref 3), (.mref 4)]))]⟩ [0, 1, 2, 3, 4] (ids := [(0, 0), (1, 1), (2, 2), (3, 3), (4, 4)]) ⟨rfl, rfl, rfl⟩
  · replace h := itF c1 h
    rcases o1 : alook eqS p_name p_v.number with _ | v1
    · replace h := optN o1 h
      refine K_lookup hS trivial (kt := t_string) (e := t_int) (key := PV.str p_name) (es := (encM PV.str (pI .i64) p_v.number)) (x := (pI .i64 0)) (b := false) (fd := none) ((find_encM (kP := PV.str) (vP := (pI .i64)) (eq := eqS) (fun _ _ => by kernel_rfl) p_name p_v.number).trans (by rw [o1]; rfl)) trivial ?_
      obtain rfl := someI h
      exact K_retO hS trivial ⟨[(5, (.p (.bb false))), (4, (.p (pI .i64 0)))], [(4, (.map (encM (fun x => .agg (c_Sound x)) (pI .i64) p_v.values))), (3, (.map (encM PV.str (pI .i64) p_v.symbols))), (2, (.vec t_api_Named 3 p_v.sounds.n (fun i => c_Named (p_v.sounds.g i)) true)), (1, (.map (encM PV.str (pI .i64) p_v.number))), (0, (.cells [(.p (vSl 1 cS p_v.feats)), (.mref 1), (.vec 2), (.mref 3), (.mref 4)]))]⟩ [0, 1, 2, 3, 4] (ids := [(0, 0), (1, 1), (2, 2), (3, 3), (4, 4)]) ⟨rfl, rfl, rfl⟩
    · replace h := optS o1 h
      refine K_lookup hS trivial (kt := t_string) (e := t_int) (key := PV.str p_name) (es := (encM PV.str (pI .i64) p_v.number)) (x := ((pI .i64) v1)) (b := true) (fd := some ((pI .i64) v1)) ((find_encM (kP := PV.str) (vP := (pI .i64)) (eq := eqS) (fun _ _ => by kernel_rfl) p_name p_v.number).trans (by rw [o1]; rfl)) trivial ?_
      obtain rfl := someI h
      exact K_retO hS trivial ⟨[(5, (.p (.bb true))), (4, (.p (pI .i64 v1)))], [(4, (.map (encM (fun x => .agg (c_Sound x)) (pI .i64) p_v.values))), (3, (.map (encM PV.str (pI .i64) p_v.symbols))), (2, (.vec t_api_Named 3 p_v.sounds.n (fun i => c_Named (p_v.sounds.g i)) true)), (1, (.map (encM PV.str (pI .i64) p_v.number))), (0, (.cells [(.p (vSl 1 cS p_v.feats)), (.mref 1), (.vec 2), (.mref 3), (.mref 4)]))]⟩ [0, 1, 2, 3, 4] (ids := [(0, 0), (1, 1), (2, 2), (3, 3), (4, 4)]) ⟨rfl, rfl, rfl⟩
def m_inventory_Inv_Feats (N : Nat) (p_v : O_inventory_Inv) : Option (Sl Str) :=
  (m_inventory_Inv_made N p_v).bind fun y1 =>
  if (!y1) = true then
    some (Sl.nil : Sl Str)
  else
    (m_slices_Clone_sl_string_string N p_v.feats).bind fun y2 =>
    some y2
theorem w_inventory_Inv_Feats {N : Nat} {p_v : O_inventory_Inv}   {y : (Sl Str)} (h : m_inventory_Inv_Feats N p_v = some y) :
    FunO S k_inventory_Inv_Feats [(.reg 0 0)] [(.cells [(.p (vSl 1 cS p_v.feats)), (.mref 1), (.vec 2), (.mref 3), (.mref 4)]), (.map (encM PV.str (pI .i64) p_v.number)), (.vec t_api_Named 3 p_v.sounds.n (fun i => c_Named (p_v.sounds.g i)) true), (.map (encM PV.str (pI .i64) p_v.symbols)), (.map (encM (fun x => .agg (c_Sound x)) (pI .i64) p_v.values))] (.vec 5) ([(.cells [(.p (vSl 1 cS p_v.feats)), (.mref 1), (.vec 2), (.mref 3), (.mref 4)]), (.map (encM PV.str (pI .i64) p_v.number)), (.vec t_api_Named 3 p_v.sounds.n (fun i => c_Named (p_v.sounds.g i)) true), (.map (encM PV.str (pI .i64) p_v.symbols)), (.map (encM (fun x => .agg (c_Sound x)) (pI .i64) p_v.values)), (.vec t_string 1 y.n (fun i => cS (y.g i)) true)]) [true, true, true, true, true] := by
  unfold m_inventory_Inv_Feats at h
  refine K_start hS f_inventory_Inv_Feats ?_
  obtain ⟨y1, e1, h⟩ := bindE h
  refine K_call hS [0, 1, 2, 3, 4] trivial (w_inventory_Inv_made hS hL e1) ?_
  refine K_cond hS trivial (b := !y1) (fun c1 => ?_) (fun c1 => ?_)
  · replace h := itT c1 h
    obtain rfl := someI h
    exact K_retO hS trivial ⟨[(2, (.vec 3700))], [(3700, (.vec t_string 1 (Sl.nil : Sl Str).n (fun i => cS ((Sl.nil : Sl Str).g i)) true)), (4, (.map (encM (fun x => .agg (c_Sound x)) (pI .i64) p_v.values))), (3, (.map (encM PV.str (pI .i64) p_v.symbols))), (2, (.vec t_api_Named 3 p_v.sounds.n (fun i => c_Named (p_v.sounds.g i)) true)), (1, (.map (encM PV.str (pI .i64) p_v.number))), (0, (.cells [(.p (vSl 1 cS p_v.feats)), (.mref 1), (.vec 2), (.mref 3), (.mref 4)]))]⟩ [0, 1, 2, 3, 4, 3700] (ids := [(0, 0), (1, 1), (2, 2), (3, 3), (4, 4)]) ⟨rfl, rfl, rfl⟩
  · replace h := itF c1 h
    obtain ⟨y2, e2, h⟩ := bindE h
    refine K_call hS [] trivial (w_slices_Clone_sl_string_string hS hL e2) ?_
    obtain rfl := someI h
    exact K_retO hS trivial ⟨[(2, (.vec 11000))], [(11000, (.vec t_string 1 y2.n (fun i => cS (y2.g i)) true)), (4, (.map (encM (fun x => .agg (c_Sound x)) (pI .i64) p_v.values))), (3, (.map (encM PV.str (pI .i64) p_v.symbols))), (2, (.vec t_api_Named 3 p_v.sounds.n (fun i => c_Named (p_v.sounds.g i)) true)), (1, (.map (encM PV.str (pI .i64) p_v.number))), (0, (.cells [(.p (vSl 1 cS p_v.feats)), (.mref 1), (.vec 2), (.mref 3), (.mref 4)]))]⟩ [0, 1, 2, 3, 4, 11000] (ids := [(0, 0), (1, 1), (2, 2), (3, 3), (4, 4), (11000, 11000)]) ⟨rfl, rfl, rfl⟩
def m_inventory_Inv_Sounds (N : Nat) (p_v : O_inventory_Inv) : Option (Sl Named) :=
  (m_inventory_Inv_made N p_v).bind fun y1 =>
  if (!y1) = true then
    some (Sl.nil : Sl Named)
  else
    (m_slices_Clone_sl_api_Named_api_Named N p_v.sounds).bind fun y2 =>
    some y2
theorem w_inventory_Inv_Sounds {N : Nat} {p_v : O_inventory_Inv}   {y : (Sl Named)} (h : m_inventory_Inv_Sounds N p_v = some y) :
    FunO S k_inventory_Inv_Sounds [(.reg 0 0)] [(.cells [(.p (vSl 1 cS p_v.feats)), (.mref 1), (.vec 2), (.mref 3), (.mref 4)]), (.map (encM PV.str (pI .i64) p_v.number)), (.vec t_api_Named 3 p_v.sounds.n (fun i => c_Named (p_v.sounds.g i)) true), (.map (encM PV.str (pI .i64) p_v.symbols)), (.map (encM (fun x => .agg (c_Sound x)) (pI .i64) p_v.values))] (.vec 5) ([(.cells [(.p (vSl 1 cS p_v.feats)), (.mref 1), (.vec 2), (.mref 3), (.mref 4)]), (.map (encM PV.str (pI .i64) p_v.number)), (.vec t_api_Named 3 p_v.sounds.n (fun i => c_Named (p_v.sounds.g i)) true), (.map (encM PV.str (pI .i64) p_v.symbols)), (.map (encM (fun x => .agg (c_Sound x)) (pI .i64) p_v.values)), (.vec t_api_Named 3 y.n (fun i => c_Named (y.g i)) true)]) [true, true, true, true, true] := by
  unfold m_inventory_Inv_Sounds at h
  refine K_start hS f_inventory_Inv_Sounds ?_
  obtain ⟨y1, e1, h⟩ := bindE h
  refine K_call hS [0, 1, 2, 3, 4] trivial (w_inventory_Inv_made hS hL e1) ?_
  refine K_cond hS trivial (b := !y1) (fun c1 => ?_) (fun c1 => ?_)
  · replace h := itT c1 h
    obtain rfl := someI h
    exact K_retO hS trivial ⟨[(2, (.vec 3700))], [(3700, (.vec t_api_Named 3 (Sl.nil : Sl Named).n (fun i => c_Named ((Sl.nil : Sl Named).g i)) true)), (4, (.map (encM (fun x => .agg (c_Sound x)) (pI .i64) p_v.values))), (3, (.map (encM PV.str (pI .i64) p_v.symbols))), (2, (.vec t_api_Named 3 p_v.sounds.n (fun i => c_Named (p_v.sounds.g i)) true)), (1, (.map (encM PV.str (pI .i64) p_v.number))), (0, (.cells [(.p (vSl 1 cS p_v.feats)), (.mref 1), (.vec 2), (.mref 3), (.mref 4)]))]⟩ [0, 1, 2, 3, 4, 3700] (ids := [(0, 0), (1, 1), (2, 2), (3, 3), (4, 4)]) ⟨rfl, rfl, rfl⟩
  · replace h := itF c1 h
    obtain ⟨y2, e2, h⟩ := bindE h
    refine K_call hS [] trivial (w_slices_Clone_sl_api_Named_api_Named hS hL e2) ?_
    obtain rfl := someI h
    exact K_retO hS trivial ⟨[(2, (.vec 11000))], [(11000, (.vec t_api_Named 3 y2.n (fun i => c_Named (y2.g i)) true)), (4, (.map (encM (fun x => .agg (c_Sound x)) (pI .i64) p_v.values))), (3, (.map (encM PV.str (pI .i64) p_v.symbols))), (2, (.vec t_api_Named 3 p_v.sounds.n (fun i => c_Named (p_v.sounds.g i)) true)), (1, (.map (encM PV.str (pI .i64) p_v.number))), (0, (.cells [(.p (vSl 1 cS p_v.feats)), (.mref 1), (.vec 2), (.mref 3), (.mref 4)]))]⟩ [0, 1, 2, 3, 4, 11000] (ids := [(0, 0), (1, 1), (2, 2), (3, 3), (4, 4), (11000, 11000)]) ⟨rfl, rfl, rfl⟩
def m_inventory_Inv_Len (N : Nat) (p_v : O_inventory_Inv) : Option Int :=
  (m_inventory_Inv_made N p_v).bind fun y1 =>
  if (!y1) = true then
    some 0
  else
    some ((p_v.sounds.n : Nat) : Int)
theorem w_inventory_Inv_Len {N : Nat} {p_v : O_inventory_Inv}   {y : Int} (h : m_inventory_Inv_Len N p_v = some y) :
    FunO S k_inventory_Inv_Len [(.reg 0 0)] [(.cells [(.p (vSl 1 cS p_v.feats)), (.mref 1), (.vec 2), (.mref 3), (.mref 4)]), (.map (encM PV.str (pI .i64) p_v.number)), (.vec t_api_Named 3 p_v.sounds.n (fun i => c_Named (p_v.sounds.g i)) true), (.map (encM PV.str (pI .i64) p_v.symbols)), (.map (encM (fun x => .agg (c_Sound x)) (pI .i64) p_v.values))] (.p (pI .i64 y)) ([(.cells [(.p (vSl 1 cS p_v.feats)), (.mref 1), (.vec 2), (.mref 3), (.mref 4)]), (.map (encM PV.str (pI .i64) p_v.number)), (.vec t_api_Named 3 p_v.sounds.n (fun i => c_Named (p_v.sounds.g i)) true), (.map (encM PV.str (pI .i64) p_v.symbols)), (.map (encM (fun x => .agg (c_Sound x)) (pI .i64) p_v.values))]) [true, true, true, true, true] := by
  unfold m_inventory_Inv_Len at h
  refine K_start hS f_inventory_Inv_Len ?_
  obtain ⟨y1, e1, h⟩ := bindE h
  refine K_call hS [0, 1, 2, 3, 4] trivial (w_inventory_Inv_made hS hL e1) ?_
  refine K_cond hS trivial (b := !y1) (fun c1 => ?_) (fun c1 => ?_)
  · replace h := itT c1 h
    obtain rfl := someI h
    exact K_retO hS trivial ⟨[(2, (.p (pI .i64 0)))], [(4, (.map (encM (fun x => .agg (c_Sound x)) (pI .i64) p_v.values))), (3, (.map (encM PV.str (pI .i64) p_v.symbols))), (2, (.vec t_api_Named 3 p_v.sounds.n (fun i => c_Named (p_v.sounds.g i)) true)), (1, (.map (encM PV.str (pI .i64) p_v.number))), (0, (.cells [(.p (vSl 1 cS p_v.feats)), (.mref 1), (.vec 2), (.mref 3), (.mref 4)]))]⟩ [0, 1, 2, 3, 4] (ids := [(0, 0), (1, 1), (2, 2), (3, 3), (4, 4)]) ⟨rfl, rfl, rfl⟩
  · replace h := itF c1 h
    obtain rfl := someI h
    exact K_retO hS trivial ⟨[(2, (.p (pI .i64 ((p_v.sounds.n : Nat) : Int))))], [(4, (.map (encM (fun x => .agg (c_Sound x)) (pI .i64) p_v.values))), (3, (.map (encM PV.str (pI .i64) p_v.symbols))), (2, (.vec t_api_Named 3 p_v.sounds.n (fun i => c_Named (p_v.sounds.g i)) true)), (1, (.map (encM PV.str (pI .i64) p_v.number))), (0, (.cells [(.p (vSl 1 cS p_v.feats)), (.mref 1), (.vec 2), (.mref 3), (.mref 4)]))]⟩ [0, 1, 2, 3, 4] (ids := [(0, 0), (1, 1), (2, 2), (3, 3), (4, 4)]) ⟨rfl, rfl, rfl⟩
end Go.AM