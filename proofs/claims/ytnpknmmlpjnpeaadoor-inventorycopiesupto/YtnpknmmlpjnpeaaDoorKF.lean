/- Part 6. -/
import Derived.Shelf.Strings.OnBuilder
import Derived.Shelf.Small.Strs
import Derived.Shelf.Small.Wraps
import Derived.Shelf.Strings.Search2
import Derived.Shelf.Strings.Search3
import Derived.Shelf.Strings.Prefix
import Derived.Ground.Names2Prog
import Derived.Shelf.Slices.Clone
import Derived.Test.YtnpknmmlpjnpeaaDoorProg
import Derived.Test.YtnpknmmlpjnpeaaDoorKE
set_option linter.unusedSimpArgs false
set_option linter.unusedVariables false
set_option linter.unusedSectionVars false
namespace Go.Proofs
open Go.Shelf
def Tryd.lays156_ren:Go.Shelf.Ren:=⟨fun|156=>45|165=>70|166=>71|169=>72|240=>85|241=>86|276=>93|277=>94|n=>n,fun|31=>22|9=>9|3=>3|4=>4|0=>0|20=>20|72=>104|76=>108|70=>102|37=>42|75=>107|127=>116|164=>120|5=>5|80=>110|n=>n,fun|n=>n⟩
theorem Tryd.lays156:Go.Proofs.Lays.n156 Tryd.prog Tryd.lays156_ren:={
 mixed:=by kernel_rfl
 f156:=Tryd.func45.trans (congrArg some (by kernel_rfl))
 f165:=Tryd.func70.trans (congrArg some (by kernel_rfl))
 f166:=Tryd.func71.trans (congrArg some (by kernel_rfl))
 f169:=Tryd.func72.trans (congrArg some (by kernel_rfl))
 f240:=Tryd.func85.trans (congrArg some (by kernel_rfl))
 f241:=Tryd.func86.trans (congrArg some (by kernel_rfl))
 f276:=Tryd.func93.trans (congrArg some (by kernel_rfl))
 f277:=Tryd.func94.trans (congrArg some (by kernel_rfl))
 t0:=Tryd.underlying0
 a0:=Tryd.isAgg0
 z0:=Tryd.sizeOf0
 v0:=Tryd.zeroValue0
 t3:=Tryd.underlying3
 a3:=Tryd.isAgg3
 z3:=Tryd.sizeOf3
 v3:=Tryd.zeroValue3
 t4:=Tryd.underlying4
 a4:=Tryd.isAgg4
 z4:=Tryd.sizeOf4
 v4:=Tryd.zeroValue4
 t9:=Tryd.underlying9
 a9:=Tryd.isAgg9
 z9:=Tryd.sizeOf9
 v9:=Tryd.zeroValue9
 t20:=Tryd.underlying20
 a20:=Tryd.isAgg20
 z20:=Tryd.sizeOf20
 v20:=Tryd.zeroValue20
 t31:=Tryd.underlying22
 a31:=Tryd.isAgg22
 z31:=Tryd.sizeOf22
 v31:=Tryd.zeroValue22
 t37:=Tryd.underlying42
 a37:=Tryd.isAgg42
 z37:=Tryd.sizeOf42
 v37:=Tryd.zeroValue42
 t70:=Tryd.underlying102
 a70:=Tryd.isAgg102
 z70:=Tryd.sizeOf102
 v70:=Tryd.zeroValue102
 t72:=Tryd.underlying104
 a72:=Tryd.isAgg104
 z72:=Tryd.sizeOf104
 v72:=Tryd.zeroValue104
 t75:=Tryd.underlying107
 a75:=Tryd.isAgg107
 z75:=Tryd.sizeOf107
 v75:=Tryd.zeroValue107
 t76:=Tryd.underlying108
 a76:=Tryd.isAgg108
 z76:=Tryd.sizeOf108
 v76:=Tryd.zeroValue108
 t127:=Tryd.underlying116
 a127:=Tryd.isAgg116
 z127:=Tryd.sizeOf116
 v127:=Tryd.zeroValue116
 t164:=Tryd.underlying120
 a164:=Tryd.isAgg120
 z164:=Tryd.sizeOf120
 v164:=Tryd.zeroValue120 }
theorem Tryd.Builder_Extra_156:Builder.Extra Tryd.prog Tryd.lays156_ren:={
 sizeBuilder:=by kernel_rfl
 liesBuilder:=by kernel_rfl
 t5:=Tryd.underlying5
 a5:=Tryd.isAgg5
 z5:=Tryd.sizeOf5
 v5:=Tryd.zeroValue5
 infoByte:=by kernel_rfl
 cellsByte:=by kernel_rfl
 sizeByte:=by kernel_rfl
 neB5:=by decide }
open Go.RowKit in
theorem Tryd.strings_Join_none (a:Option Addr)(c:Nat)(sep:ByteArray)(w:World) :Calls Tryd.prog 45 #[.slice a 0 c,.string sep] w fun e w'=>e=.returned (.string ⟨#[]⟩)/\w' = w:=Any.strings_Join_none Tryd.lays156 Tryd.Builder_Extra_156 a c sep w
open Go.RowKit in
theorem Tryd.strings_Join (bk o c:Nat)(xs:List ByteArray)(sep:ByteArray)(w:World)(hcells:∀(j:Nat) x,xs[j]? = some x->w.cell? ⟨bk,o+j,none⟩=some (.string x))(hbk:bk<w.heap.size)(hN:xs.length<=140737488355328)(hcap:xs.length<=c)(hlen:(Lib.join (xs.map (·.data.toList)) sep.data.toList).length<=140737488355328) :Calls Tryd.prog 45 #[.slice (some ⟨bk,o,none⟩) xs.length c,.string sep] w fun e w'=>e=.returned (.string ⟨(Lib.join (xs.map (·.data.toList)) sep.data.toList).toArray⟩)/\Below w.heap.size w w':=Any.strings_Join Tryd.lays156 Tryd.Builder_Extra_156 bk o c xs sep w hcells hbk hN hcap hlen
def Tryd.lays137_ren:Go.Shelf.Ren:=⟨fun|137=>60|217=>79|266=>89|n=>n,fun|9=>9|5=>5|3=>3|n=>n,fun|n=>n⟩
theorem Tryd.lays137:Go.Proofs.Lays.n137 Tryd.prog Tryd.lays137_ren:={
 mixed:=by kernel_rfl
 f137:=Tryd.func60.trans (congrArg some (by kernel_rfl))
 f217:=Tryd.func79.trans (congrArg some (by kernel_rfl))
 f266:=Tryd.func89.trans (congrArg some (by kernel_rfl))
 t3:=Tryd.underlying3
 a3:=Tryd.isAgg3
 z3:=Tryd.sizeOf3
 v3:=Tryd.zeroValue3
 t5:=Tryd.underlying5
 a5:=Tryd.isAgg5
 z5:=Tryd.sizeOf5
 v5:=Tryd.zeroValue5
 t9:=Tryd.underlying9
 a9:=Tryd.isAgg9
 z9:=Tryd.sizeOf9
 v9:=Tryd.zeroValue9 }
open Go.RowKit in
theorem Tryd.strings_IndexByte (s:ByteArray)(c:Int)(w:World) :Calls Tryd.prog 60 #[.string s,.int .u8 c] w fun e w'=>e=.returned (.int .i64 (Lib.indexByte s.data.toList c.toNat.toUInt8))/\w' = w:=Any.strings_IndexByte Tryd.lays137 s c w
def Tryd.lays210_ren:Go.Shelf.Ren:=⟨fun|210=>75|206=>61|n=>n,fun|9=>9|4=>4|3=>3|n=>n,fun|n=>n⟩
def Tryd.lays103_ren:Go.Shelf.Ren:=⟨fun|103=>50|210=>75|206=>61|n=>n,fun|9=>9|4=>4|24=>53|3=>3|n=>n,fun|n=>n⟩
theorem Tryd.lays103:Go.Proofs.Lays.n103 Tryd.prog Tryd.lays103_ren:={
 mixed:=by kernel_rfl
 f103:=Tryd.func50.trans (congrArg some (by kernel_rfl))
 f206:=Tryd.func61.trans (congrArg some (by kernel_rfl))
 f210:=Tryd.func75.trans (congrArg some (by kernel_rfl))
 t3:=Tryd.underlying3
 a3:=Tryd.isAgg3
 z3:=Tryd.sizeOf3
 v3:=Tryd.zeroValue3
 t4:=Tryd.underlying4
 a4:=Tryd.isAgg4
 z4:=Tryd.sizeOf4
 v4:=Tryd.zeroValue4
 t9:=Tryd.underlying9
 a9:=Tryd.isAgg9
 z9:=Tryd.sizeOf9
 v9:=Tryd.zeroValue9
 t24:=Tryd.underlying53
 a24:=Tryd.isAgg53
 z24:=Tryd.sizeOf53
 v24:=Tryd.zeroValue53 }
open Go.RowKit in
theorem Tryd.strings_CutPrefix (s p:ByteArray)(w:World) :Calls Tryd.prog 50 #[.string s,.string p] w fun e w'=>e=.returned (.tuple #[.string ⟨(Lib.trimPrefix s.data.toList p.data.toList).toArray⟩,.bool (Lib.hasPrefix s.data.toList p.data.toList)])/\w' = w:=Any.strings_CutPrefix Tryd.lays103 s p w
def Tryd.lays219_ren:Go.Shelf.Ren:=⟨fun|219=>92|217=>79|225=>96|224=>97|267=>98|266=>89|314=>99|n=>n,fun|9=>9|3=>3|4=>4|5=>5|46=>124|146=>129|51=>29|n=>n,fun|1=>0|n=>n⟩
def Tryd.lays143_ren:Go.Shelf.Ren:=⟨fun|143=>84|219=>92|217=>79|225=>96|224=>97|267=>98|266=>89|314=>99|n=>n,fun|9=>9|3=>3|4=>4|5=>5|46=>124|146=>129|51=>29|n=>n,fun|1=>0|n=>n⟩
theorem Tryd.lays143:Go.Proofs.Lays.n143 Tryd.prog Tryd.lays143_ren:={
 mixed:=by kernel_rfl
 f143:=Tryd.func84.trans (congrArg some (by kernel_rfl))
 f217:=Tryd.func79.trans (congrArg some (by kernel_rfl))
 f219:=Tryd.func92.trans (congrArg some (by kernel_rfl))
 f224:=Tryd.func97.trans (congrArg some (by kernel_rfl))
 f225:=Tryd.func96.trans (congrArg some (by kernel_rfl))
 f266:=Tryd.func89.trans (congrArg some (by kernel_rfl))
 f267:=Tryd.func98.trans (congrArg some (by kernel_rfl))
 f314:=Tryd.func99.trans (congrArg some (by kernel_rfl))
 t3:=Tryd.underlying3
 a3:=Tryd.isAgg3
 z3:=Tryd.sizeOf3
 v3:=Tryd.zeroValue3
 t4:=Tryd.underlying4
 a4:=Tryd.isAgg4
 z4:=Tryd.sizeOf4
 v4:=Tryd.zeroValue4
 t5:=Tryd.underlying5
 a5:=Tryd.isAgg5
 z5:=Tryd.sizeOf5
 v5:=Tryd.zeroValue5
 t9:=Tryd.underlying9
 a9:=Tryd.isAgg9
 z9:=Tryd.sizeOf9
 v9:=Tryd.zeroValue9
 t46:=Tryd.underlying124
 a46:=Tryd.isAgg124
 z46:=Tryd.sizeOf124
 v46:=Tryd.zeroValue124
 t51:=Tryd.underlying29
 a51:=Tryd.isAgg29
 z51:=Tryd.sizeOf29
 v51:=Tryd.zeroValue29
 t146:=Tryd.underlying129
 a146:=Tryd.isAgg129
 z146:=Tryd.sizeOf129
 v146:=Tryd.zeroValue129
 g1:=by kernel_rfl }
open Go.RowKit Go.Lib in
theorem Tryd.strings_Index_one (s:ByteArray)(c:UInt8)(w:World) :Calls Tryd.prog 84 #[.string s,.string ⟨#[c]⟩] w fun e w'=>e=.returned (.int .i64 (Lib.indexByte s.data.toList c))/\w' = w:=Any.strings_Index_one Tryd.lays143 s c w
def Tryd.lays99_ren:Go.Shelf.Ren:=⟨fun|99=>25|206=>61|n=>n,fun|9=>9|4=>4|3=>3|n=>n,fun|n=>n⟩
theorem Tryd.lays99:Go.Proofs.Lays.n99 Tryd.prog Tryd.lays99_ren:={
 mixed:=by kernel_rfl
 f99:=Tryd.func25.trans (congrArg some (by kernel_rfl))
 f206:=Tryd.func61.trans (congrArg some (by kernel_rfl))
 t3:=Tryd.underlying3
 a3:=Tryd.isAgg3
 z3:=Tryd.sizeOf3
 v3:=Tryd.zeroValue3
 t4:=Tryd.underlying4
 a4:=Tryd.isAgg4
 z4:=Tryd.sizeOf4
 v4:=Tryd.zeroValue4
 t9:=Tryd.underlying9
 a9:=Tryd.isAgg9
 z9:=Tryd.sizeOf9
 v9:=Tryd.zeroValue9 }
open Go.RowKit Go.Lib in
theorem Tryd.strings_HasPrefix (s p:ByteArray)(w:World) :Calls Tryd.prog 25 #[.string s,.string p] w fun e w'=>e=.returned (.bool (Lib.hasPrefix s.data.toList p.data.toList))/\w' = w:=Any.strings_HasPrefix Tryd.lays99 s p w
def Tryd.lays101_ren:Go.Shelf.Ren:=⟨fun|101=>26|208=>62|206=>61|n=>n,fun|9=>9|4=>4|3=>3|n=>n,fun|n=>n⟩
theorem Tryd.lays101:Go.Proofs.Lays.n101 Tryd.prog Tryd.lays101_ren:={
 mixed:=by kernel_rfl
 f101:=Tryd.func26.trans (congrArg some (by kernel_rfl))
 f206:=Tryd.func61.trans (congrArg some (by kernel_rfl))
 f208:=Tryd.func62.trans (congrArg some (by kernel_rfl))
 t3:=Tryd.underlying3
 a3:=Tryd.isAgg3
 z3:=Tryd.sizeOf3
 v3:=Tryd.zeroValue3
 t4:=Tryd.underlying4
 a4:=Tryd.isAgg4
 z4:=Tryd.sizeOf4
 v4:=Tryd.zeroValue4
 t9:=Tryd.underlying9
 a9:=Tryd.isAgg9
 z9:=Tryd.sizeOf9
 v9:=Tryd.zeroValue9 }
open Go.RowKit Go.Lib in
theorem Tryd.strings_TrimPrefix (s p:ByteArray)(w:World) :Calls Tryd.prog 26 #[.string s,.string p] w fun e w'=>e=.returned (.string ⟨(Lib.trimPrefix s.data.toList p.data.toList).toArray⟩)/\w' = w:=Any.strings_TrimPrefix Tryd.lays101 s p w
def Tryd.laysNm216_ren:Go.Shelf.Ren:=⟨fun|16=>30|n=>n,fun|24=>22|9=>9|4=>4|n=>n,fun|n=>n⟩
theorem Tryd.laysNm216:Go.Proofs.Lays2.n16 Tryd.prog Tryd.laysNm216_ren:={
 mixed:=by kernel_rfl
 f16:=Tryd.func30.trans (congrArg some (by kernel_rfl))
 t4:=Tryd.underlying4
 a4:=Tryd.isAgg4
 z4:=Tryd.sizeOf4
 v4:=Tryd.zeroValue4
 t9:=Tryd.underlying9
 a9:=Tryd.isAgg9
 z9:=Tryd.sizeOf9
 v9:=Tryd.zeroValue9
 t24:=Tryd.underlying22
 a24:=Tryd.isAgg22
 z24:=Tryd.sizeOf22
 v24:=Tryd.zeroValue22
 i9:=by kernel_rfl }
open Go.RowKit Go.Lib in
theorem Tryd.slices_Clone_string (b off n c:Nat)(zs:List ByteArray)(w:World)(hz:n<=zs.length)(hbig:n*16<=140737488355328)(hc:∀j,j<zs.length->w.cell? ⟨b,off+j,none⟩=some (.string (zs.getD j ByteArray.empty))) :Calls Tryd.prog 30 #[.slice (some ⟨b,off,none⟩) n c] w fun e w'=>∃v',e=.returned v' /\ w'.ownsRow w.heap.size 9 1 v' n ((zs.take n).map (Value.string))/\v' ≠ .slice none 0 0/\Below w.heap.size w w':=Any.slices_Clone_string Tryd.laysNm216 b off n c zs w hz hbig hc
open Go.RowKit Go.Lib in
theorem Tryd.slices_Clone_string_nil (n c:Nat)(w:World) :Calls Tryd.prog 30 #[.slice none n c] w fun e w'=>e=.returned (.slice none 0 0)/\w' = w:=Any.slices_Clone_string_nil Tryd.laysNm216 n c w
open Go.RowKit Go.Lib in
theorem Tryd.slices_Clone_string_zero (a:Addr)(c:Nat)(w:World) :Calls Tryd.prog 30 #[.slice (some a) 0 c] w fun e w'=>∃v',e=.returned v' /\ w'.ownsRow w.heap.size 9 1 v' 0 []/\v' ≠ .slice none 0 0/\Below w.heap.size w w':=Any.slices_Clone_string_zero Tryd.laysNm216 a c w
end Go.Proofs
