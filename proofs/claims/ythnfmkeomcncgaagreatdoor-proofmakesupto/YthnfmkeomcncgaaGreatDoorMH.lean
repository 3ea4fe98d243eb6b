/- Part 8. -/
import Derived.Shelf.Spec.TrailingZeros
import Derived.Shelf.Spec.SlicesGrow
import Derived.Shelf.Strings.SlTrimAscii
import Derived.Ground.NamesProg
import Derived.Ground.Names7Prog
import Derived.Ground.Names8Prog
import Derived.Test.YthnfmkeomcncgaaGreatDoorProg
import Derived.Shelf.Strings.OnBuilder
import Derived.Shelf.Strings.BuilderK
import Derived.Shelf.Small.Strs
import Derived.Shelf.Small.Wraps
import Derived.Shelf.Strings.Search2
import Derived.Ground.Names2Prog
import Derived.Shelf.Strconv.Itoa4
import Derived.Test.YthnfmkeomcncgaaGreatDoorMD
import Derived.Test.YthnfmkeomcncgaaGreatDoorMB
import Derived.Test.YthnfmkeomcncgaaGreatDoorMC
import Derived.Test.YthnfmkeomcncgaaGreatDoorMG
set_option linter.unusedSimpArgs false
set_option linter.unusedVariables false
set_option linter.unusedSectionVars false
namespace Go.Proofs
open Go.Shelf
def Tryz.tz_ren:Go.Shelf.Ren:=⟨fun|29=>214|n=>n,fun|22=>209|3=>3|4=>4|25=>214|54=>307|0=>0|5=>5|n=>n,fun|1=>3|n=>n⟩
theorem Tryz.tz:Go.Proofs.Lays7.n29 Tryz.prog Tryz.tz_ren:={
 mixed:=by kernel_rfl
 f29:=Tryz.func214.trans (congrArg some (by kernel_rfl))
 t0:=Tryz.underlying0
 a0:=Tryz.isAgg0
 z0:=Tryz.sizeOf0
 v0:=Tryz.zeroValue0
 i0:=by kernel_rfl
 t3:=Tryz.underlying3
 a3:=Tryz.isAgg3
 z3:=Tryz.sizeOf3
 v3:=Tryz.zeroValue3
 i3:=by kernel_rfl
 t4:=Tryz.underlying4
 a4:=Tryz.isAgg4
 z4:=Tryz.sizeOf4
 v4:=Tryz.zeroValue4
 i4:=by kernel_rfl
 t5:=Tryz.underlying5
 a5:=Tryz.isAgg5
 z5:=Tryz.sizeOf5
 v5:=Tryz.zeroValue5
 i5:=by kernel_rfl
 t22:=Tryz.underlying209
 a22:=Tryz.isAgg209
 z22:=Tryz.sizeOf209
 v22:=Tryz.zeroValue209
 i22:=by kernel_rfl
 t25:=Tryz.underlying214
 a25:=Tryz.isAgg214
 z25:=Tryz.sizeOf214
 v25:=Tryz.zeroValue214
 i25:=by kernel_rfl
 t54:=Tryz.underlying307
 a54:=Tryz.isAgg307
 z54:=Tryz.sizeOf307
 g1:=by kernel_rfl }
def Tryz.trim_ren:Go.Shelf.Ren:=⟨fun|160=>148|232=>202|231=>201|227=>203|234=>205|233=>204|236=>207|235=>206|228=>225|271=>228|151=>227|197=>226|120=>243|152=>242|260=>241|137=>198|119=>248|224=>249|225=>250|217=>224|266=>240|n=>n,fun|9=>9|4=>4|3=>3|5=>5|117=>281|116=>280|0=>0|124=>284|21=>21|105=>301|46=>214|119=>314|139=>317|138=>316|n=>n,fun|3=>4|4=>5|n=>n⟩
theorem Tryz.trim:Go.Proofs.Lays.n160 Tryz.prog Tryz.trim_ren:={
 mixed:=by kernel_rfl
 f119:=Tryz.func248.trans (congrArg some (by kernel_rfl))
 f120:=Tryz.func243.trans (congrArg some (by kernel_rfl))
 f137:=Tryz.func198.trans (congrArg some (by kernel_rfl))
 f151:=Tryz.func227.trans (congrArg some (by kernel_rfl))
 f152:=Tryz.func242.trans (congrArg some (by kernel_rfl))
 f160:=Tryz.func148.trans (congrArg some (by kernel_rfl))
 f197:=Tryz.func226.trans (congrArg some (by kernel_rfl))
 f217:=Tryz.func224.trans (congrArg some (by kernel_rfl))
 f224:=Tryz.func249.trans (congrArg some (by kernel_rfl))
 f225:=Tryz.func250.trans (congrArg some (by kernel_rfl))
 f227:=Tryz.func203.trans (congrArg some (by kernel_rfl))
 f228:=Tryz.func225.trans (congrArg some (by kernel_rfl))
 f231:=Tryz.func201.trans (congrArg some (by kernel_rfl))
 f232:=Tryz.func202.trans (congrArg some (by kernel_rfl))
 f233:=Tryz.func204.trans (congrArg some (by kernel_rfl))
 f234:=Tryz.func205.trans (congrArg some (by kernel_rfl))
 f235:=Tryz.func206.trans (congrArg some (by kernel_rfl))
 f236:=Tryz.func207.trans (congrArg some (by kernel_rfl))
 f260:=Tryz.func241.trans (congrArg some (by kernel_rfl))
 f266:=Tryz.func240.trans (congrArg some (by kernel_rfl))
 f271:=Tryz.func228.trans (congrArg some (by kernel_rfl))
 t0:=Tryz.underlying0
 a0:=Tryz.isAgg0
 z0:=Tryz.sizeOf0
 v0:=Tryz.zeroValue0
 t3:=Tryz.underlying3
 a3:=Tryz.isAgg3
 z3:=Tryz.sizeOf3
 v3:=Tryz.zeroValue3
 t4:=Tryz.underlying4
 a4:=Tryz.isAgg4
 z4:=Tryz.sizeOf4
 v4:=Tryz.zeroValue4
 t5:=Tryz.underlying5
 a5:=Tryz.isAgg5
 z5:=Tryz.sizeOf5
 v5:=Tryz.zeroValue5
 t9:=Tryz.underlying9
 a9:=Tryz.isAgg9
 z9:=Tryz.sizeOf9
 v9:=Tryz.zeroValue9
 t21:=Tryz.underlying21
 a21:=Tryz.isAgg21
 z21:=Tryz.sizeOf21
 v21:=Tryz.zeroValue21
 t46:=Tryz.underlying214
 a46:=Tryz.isAgg214
 z46:=Tryz.sizeOf214
 v46:=Tryz.zeroValue214
 t105:=Tryz.underlying301
 a105:=Tryz.isAgg301
 z105:=Tryz.sizeOf301
 v105:=Tryz.zeroValue301
 t116:=Tryz.underlying280
 a116:=Tryz.isAgg280
 z116:=Tryz.sizeOf280
 t117:=Tryz.underlying281
 a117:=Tryz.isAgg281
 z117:=Tryz.sizeOf281
 v117:=Tryz.zeroValue281
 t119:=Tryz.underlying314
 a119:=Tryz.isAgg314
 z119:=Tryz.sizeOf314
 t124:=Tryz.underlying284
 a124:=Tryz.isAgg284
 z124:=Tryz.sizeOf284
 v124:=Tryz.zeroValue284
 t138:=Tryz.underlying316
 a138:=Tryz.isAgg316
 z138:=Tryz.sizeOf316
 v138:=Tryz.zeroValue316
 t139:=Tryz.underlying317
 a139:=Tryz.isAgg317
 z139:=Tryz.sizeOf317
 v139:=Tryz.zeroValue317
 g3:=by kernel_rfl
 g4:=by kernel_rfl }
def Tryz.growS_ren:Go.Shelf.Ren:=⟨fun|4=>270|n=>n,fun|22=>67|25=>95|3=>3|4=>4|9=>9|20=>20|0=>0|n=>n,fun|n=>n⟩
theorem Tryz.growS:Go.Proofs.Lays8.n4 Tryz.prog Tryz.growS_ren:={
 mixed:=by kernel_rfl
 f4:=⟨Tryz.f270.name,by decide,Tryz.func270.trans (congrArg some (by kernel_rfl))⟩
 t0:=Tryz.underlying0
 a0:=Tryz.isAgg0
 z0:=Tryz.sizeOf0
 v0:=Tryz.zeroValue0
 t3:=Tryz.underlying3
 a3:=Tryz.isAgg3
 z3:=Tryz.sizeOf3
 v3:=Tryz.zeroValue3
 t4:=Tryz.underlying4
 a4:=Tryz.isAgg4
 z4:=Tryz.sizeOf4
 v4:=Tryz.zeroValue4
 t9:=Tryz.underlying9
 a9:=Tryz.isAgg9
 z9:=Tryz.sizeOf9
 v9:=Tryz.zeroValue9
 t20:=Tryz.underlying20
 a20:=Tryz.isAgg20
 z20:=Tryz.sizeOf20
 v20:=Tryz.zeroValue20
 t22:=Tryz.underlying67
 a22:=Tryz.isAgg67
 z22:=Tryz.sizeOf67
 v22:=Tryz.zeroValue67 }
end Go.Proofs
namespace Go.Proofs
open Go.Shelf
def Tryz.lays156_ren:Go.Shelf.Ren:=⟨fun|156=>49|165=>84|166=>48|169=>54|240=>83|241=>120|276=>119|277=>163|n=>n,fun|31=>22|9=>9|3=>3|4=>4|0=>0|20=>20|72=>121|76=>124|70=>118|37=>119|75=>123|127=>176|164=>205|5=>5|80=>135|n=>n,fun|n=>n⟩
theorem Tryz.lays156:Go.Proofs.Lays.n156 Tryz.prog Tryz.lays156_ren:={
 mixed:=by kernel_rfl
 f156:=Tryz.func49.trans (congrArg some (by kernel_rfl))
 f165:=Tryz.func84.trans (congrArg some (by kernel_rfl))
 f166:=Tryz.func48.trans (congrArg some (by kernel_rfl))
 f169:=Tryz.func54.trans (congrArg some (by kernel_rfl))
 f240:=Tryz.func83.trans (congrArg some (by kernel_rfl))
 f241:=Tryz.func120.trans (congrArg some (by kernel_rfl))
 f276:=Tryz.func119.trans (congrArg some (by kernel_rfl))
 f277:=Tryz.func163.trans (congrArg some (by kernel_rfl))
 t0:=Tryz.underlying0
 a0:=Tryz.isAgg0
 z0:=Tryz.sizeOf0
 v0:=Tryz.zeroValue0
 t3:=Tryz.underlying3
 a3:=Tryz.isAgg3
 z3:=Tryz.sizeOf3
 v3:=Tryz.zeroValue3
 t4:=Tryz.underlying4
 a4:=Tryz.isAgg4
 z4:=Tryz.sizeOf4
 v4:=Tryz.zeroValue4
 t9:=Tryz.underlying9
 a9:=Tryz.isAgg9
 z9:=Tryz.sizeOf9
 v9:=Tryz.zeroValue9
 t20:=Tryz.underlying20
 a20:=Tryz.isAgg20
 z20:=Tryz.sizeOf20
 v20:=Tryz.zeroValue20
 t31:=Tryz.underlying22
 a31:=Tryz.isAgg22
 z31:=Tryz.sizeOf22
 v31:=Tryz.zeroValue22
 t37:=Tryz.underlying119
 a37:=Tryz.isAgg119
 z37:=Tryz.sizeOf119
 v37:=Tryz.zeroValue119
 t70:=Tryz.underlying118
 a70:=Tryz.isAgg118
 z70:=Tryz.sizeOf118
 v70:=Tryz.zeroValue118
 t72:=Tryz.underlying121
 a72:=Tryz.isAgg121
 z72:=Tryz.sizeOf121
 v72:=Tryz.zeroValue121
 t75:=Tryz.underlying123
 a75:=Tryz.isAgg123
 z75:=Tryz.sizeOf123
 v75:=Tryz.zeroValue123
 t76:=Tryz.underlying124
 a76:=Tryz.isAgg124
 z76:=Tryz.sizeOf124
 v76:=Tryz.zeroValue124
 t127:=Tryz.underlying176
 a127:=Tryz.isAgg176
 z127:=Tryz.sizeOf176
 v127:=Tryz.zeroValue176
 t164:=Tryz.underlying205
 a164:=Tryz.isAgg205
 z164:=Tryz.sizeOf205
 v164:=Tryz.zeroValue205 }
theorem Tryz.Builder_Extra_156:Builder.Extra Tryz.prog Tryz.lays156_ren:={
 sizeBuilder:=by kernel_rfl
 liesBuilder:=by kernel_rfl
 t5:=Tryz.underlying5
 a5:=Tryz.isAgg5
 z5:=Tryz.sizeOf5
 v5:=Tryz.zeroValue5
 infoByte:=by kernel_rfl
 cellsByte:=by kernel_rfl
 sizeByte:=by kernel_rfl
 neB5:=by decide }
open Go.RowKit in
theorem Tryz.strings_Join_none (a:Option Addr)(c:Nat)(sep:ByteArray)(w:World) :Calls Tryz.prog 49 #[.slice a 0 c,.string sep] w fun e w'=>e=.returned (.string ⟨#[]⟩)/\w' = w:=Any.strings_Join_none Tryz.lays156 Tryz.Builder_Extra_156 a c sep w
open Go.RowKit in
theorem Tryz.strings_Join (bk o c:Nat)(xs:List ByteArray)(sep:ByteArray)(w:World)(hcells:∀(j:Nat) x,xs[j]? = some x->w.cell? ⟨bk,o+j,none⟩=some (.string x))(hbk:bk<w.heap.size)(hN:xs.length<=140737488355328)(hcap:xs.length<=c)(hlen:(Lib.join (xs.map (·.data.toList)) sep.data.toList).length<=140737488355328) :Calls Tryz.prog 49 #[.slice (some ⟨bk,o,none⟩) xs.length c,.string sep] w fun e w'=>e=.returned (.string ⟨(Lib.join (xs.map (·.data.toList)) sep.data.toList).toArray⟩)/\Below w.heap.size w w':=Any.strings_Join Tryz.lays156 Tryz.Builder_Extra_156 bk o c xs sep w hcells hbk hN hcap hlen
def Tryz.lays137_ren:Go.Shelf.Ren:=⟨fun|137=>198|217=>224|266=>240|n=>n,fun|9=>9|5=>5|3=>3|n=>n,fun|n=>n⟩
theorem Tryz.lays137:Go.Proofs.Lays.n137 Tryz.prog Tryz.lays137_ren:={
 mixed:=by kernel_rfl
 f137:=Tryz.func198.trans (congrArg some (by kernel_rfl))
 f217:=Tryz.func224.trans (congrArg some (by kernel_rfl))
 f266:=Tryz.func240.trans (congrArg some (by kernel_rfl))
 t3:=Tryz.underlying3
 a3:=Tryz.isAgg3
 z3:=Tryz.sizeOf3
 v3:=Tryz.zeroValue3
 t5:=Tryz.underlying5
 a5:=Tryz.isAgg5
 z5:=Tryz.sizeOf5
 v5:=Tryz.zeroValue5
 t9:=Tryz.underlying9
 a9:=Tryz.isAgg9
 z9:=Tryz.sizeOf9
 v9:=Tryz.zeroValue9 }
open Go.RowKit in
theorem Tryz.strings_IndexByte (s:ByteArray)(c:Int)(w:World) :Calls Tryz.prog 198 #[.string s,.int .u8 c] w fun e w'=>e=.returned (.int .i64 (Lib.indexByte s.data.toList c.toNat.toUInt8))/\w' = w:=Any.strings_IndexByte Tryz.lays137 s c w
end Go.Proofs
namespace Go.Proofs
open Go.Shelf
def Tryz.lays173_ren:Go.Shelf.Ren:=⟨fun|173=>51|246=>85|283=>121|284=>122|285=>123|286=>124|129=>165|317=>164|318=>166|319=>167|320=>168|337=>213|338=>214|n=>n,fun|2=>2|3=>3|9=>9|4=>4|171=>208|0=>0|53=>209|37=>119|5=>5|173=>212|212=>258|51=>93|20=>20|213=>259|46=>214|232=>306|233=>307|n=>n,fun|17=>0|18=>2|19=>3|n=>n⟩
theorem Tryz.lays173:Go.Proofs.LaysM.n173 Tryz.prog Tryz.lays173_ren:={
 mixed:=by kernel_rfl
 f129:=Tryz.func165.trans (congrArg some (by kernel_rfl))
 f173:=Tryz.func51.trans (congrArg some (by kernel_rfl))
 f246:=Tryz.func85.trans (congrArg some (by kernel_rfl))
 f283:=Tryz.func121.trans (congrArg some (by kernel_rfl))
 f284:=Tryz.func122.trans (congrArg some (by kernel_rfl))
 f285:=Tryz.func123.trans (congrArg some (by kernel_rfl))
 f286:=Tryz.func124.trans (congrArg some (by kernel_rfl))
 f317:=Tryz.func164.trans (congrArg some (by kernel_rfl))
 f318:=Tryz.func166.trans (congrArg some (by kernel_rfl))
 f319:=Tryz.func167.trans (congrArg some (by kernel_rfl))
 f320:=Tryz.func168.trans (congrArg some (by kernel_rfl))
 f337:=Tryz.func213.trans (congrArg some (by kernel_rfl))
 f338:=Tryz.func214.trans (congrArg some (by kernel_rfl))
 t0:=Tryz.underlying0
 a0:=Tryz.isAgg0
 z0:=Tryz.sizeOf0
 v0:=Tryz.zeroValue0
 t2:=Tryz.underlying2
 a2:=Tryz.isAgg2
 z2:=Tryz.sizeOf2
 v2:=Tryz.zeroValue2
 t3:=Tryz.underlying3
 a3:=Tryz.isAgg3
 z3:=Tryz.sizeOf3
 v3:=Tryz.zeroValue3
 t4:=Tryz.underlying4
 a4:=Tryz.isAgg4
 z4:=Tryz.sizeOf4
 v4:=Tryz.zeroValue4
 t5:=Tryz.underlying5
 a5:=Tryz.isAgg5
 z5:=Tryz.sizeOf5
 v5:=Tryz.zeroValue5
 t9:=Tryz.underlying9
 a9:=Tryz.isAgg9
 z9:=Tryz.sizeOf9
 v9:=Tryz.zeroValue9
 t20:=Tryz.underlying20
 a20:=Tryz.isAgg20
 z20:=Tryz.sizeOf20
 v20:=Tryz.zeroValue20
 t37:=Tryz.underlying119
 a37:=Tryz.isAgg119
 z37:=Tryz.sizeOf119
 v37:=Tryz.zeroValue119
 t46:=Tryz.underlying214
 a46:=Tryz.isAgg214
 z46:=Tryz.sizeOf214
 v46:=Tryz.zeroValue214
 t51:=Tryz.underlying93
 a51:=Tryz.isAgg93
 z51:=Tryz.sizeOf93
 v51:=Tryz.zeroValue93
 t53:=Tryz.underlying209
 a53:=Tryz.isAgg209
 z53:=Tryz.sizeOf209
 v53:=Tryz.zeroValue209
 t171:=Tryz.underlying208
 a171:=Tryz.isAgg208
 z171:=Tryz.sizeOf208
 v171:=Tryz.zeroValue208
 t173:=Tryz.underlying212
 a173:=Tryz.isAgg212
 z173:=Tryz.sizeOf212
 v173:=Tryz.zeroValue212
 t212:=Tryz.underlying258
 a212:=Tryz.isAgg258
 z212:=Tryz.sizeOf258
 v212:=Tryz.zeroValue258
 t213:=Tryz.underlying259
 a213:=Tryz.isAgg259
 z213:=Tryz.sizeOf259
 t232:=Tryz.underlying306
 a232:=Tryz.isAgg306
 z232:=Tryz.sizeOf306
 v232:=Tryz.zeroValue306
 t233:=Tryz.underlying307
 a233:=Tryz.isAgg307
 z233:=Tryz.sizeOf307
 v233:=Tryz.zeroValue307
 g17:=by kernel_rfl
 g18:=by kernel_rfl
 g19:=by kernel_rfl
 i0:=by kernel_rfl
 i2:=by kernel_rfl
 i3:=by kernel_rfl
 i4:=by kernel_rfl
 i5:=by kernel_rfl
 i9:=by kernel_rfl
 i20:=by kernel_rfl
 i37:=by kernel_rfl
 i46:=by kernel_rfl
 i51:=by kernel_rfl
 i53:=by kernel_rfl
 i171:=by kernel_rfl
 i173:=by kernel_rfl
 i212:=by kernel_rfl
 i232:=by kernel_rfl
 i233:=by kernel_rfl
 m17:=by kernel_rfl
 m18:=by kernel_rfl
 m19:=by kernel_rfl }
end Go.Proofs
namespace Go.AM
open Go.Proofs
theorem vs2' {vs:Array Value}{x y:PV}{w:World}{Pi:Nat->Nat->Prop}(hsz:vs.size=[x,y].length)(hr:∀i,i<[x,y].length->Uy w Pi (vs.getD i undef) ([x,y].getD i default)) :∃a b,vs = #[a,b]/\Uy w Pi a x/\Uy w Pi b y:=by
 obtain⟨l⟩:=vs
 match l,hsz with
 |[a,b],_=>exact⟨a,b,rfl,hr 0 (by simp),hr 1 (by simp)⟩
theorem Zp {w:World}{Pi:Nat->Nat->Prop}{v:Value}{l:List UInt8}(h:Uy w Pi v (.str l)):v=.string ⟨l.toArray⟩:=by cases h;rfl
theorem TZ {P:Program}{f:FuncId}{vs:Array Value}{w:World}{Pi:Nat->Nat->Prop}{v:Value}{r:AV}(h:Calls P f vs w fun e w'=>e=.returned v/\w' = w)(hr:∀live rho,Yj w Pi live rho v r) :Calls P f vs w fun e w'=>∃v,e=.returned v/\RowKit.Below w.heap.size w w' /\ ∀live rho,Yj w' Pi live rho v r:=
 h.mono fun e w' ⟨he,hw⟩=>⟨v,he,by rw[hw];grind[RowKit.Below.refl],by rw[hw];omega⟩
abbrev strs (nn:Bool)(n:Nat)(g:Nat->List UInt8):PV:=.sl nn 1 n fun i=>[.str (g i)]
theorem BQ7 (nn:Bool)(n:Nat)(g:Nat->List UInt8)(sep:List UInt8)(hn:n<=140737488355328)(hl:(Lib.join ((List.range n).map g) sep).length<=140737488355328) :ZH (Ia Tryz.prog) Hg [.p (.sl nn 1 n fun i=>[.str (g i)]),.p (.str sep)] (.p (.str (Lib.join ((List.range n).map g) sep))):=by
 refine Im (args:=[strs nn n g,.str sep]) (by simp) fun w Pi vs hb hs hr=>?_;obtain⟨a,b,rfl,ha,hb'⟩:=vs2' hs hr;cases Zp hb';have hR:∀(w:World) live rho,Yj w Pi live rho (.string ⟨(Lib.join ((List.range n).map g) sep).toArray⟩) (.p (.str (Lib.join ((List.range n).map g) sep))):=fun w live rho=>.p _ _ (.str _);by_cases h0:n=0
 ·subst h0;have he:Lib.join ((List.range 0).map g) sep=[]:=by simp[Lib.join_nil]
  cases ha with
  |slnil=>exact TZ (Tryz.strings_Join_none none 0 ⟨sep.toArray⟩ w) (by grind)
  |sl _ bk off cap _ _ _ c hn hk hc h sp hsp=>exact TZ (Tryz.strings_Join_none _ cap ⟨sep.toArray⟩ w) (by grind)
 ·cases ha with
  |slnil=>omega
  |sl _ bk off cap _ _ _ c hcap hk hc h sp hsp=>
   obtain rfl:=hsp (by omega);have hst:∀i,i<n->c i 0=.string ⟨(g i).toArray⟩:=fun i hi=>Zp (h i 0 hi (by omega));have hm:(((List.range n).map fun i=>(⟨(g i).toArray⟩:ByteArray)).map (·.data.toList))=(List.range n).map g:=by simp
   have:=Tryz.strings_Join bk off cap ((List.range n).map fun i=>⟨(g i).toArray⟩) ⟨sep.toArray⟩ w (fun j x hx=>by
    grind)
    (World.block_lt_of_cell? w ⟨bk,off,none⟩ (by simpa using (hc 0 0 (by omega) (by omega)).1)) (by grind) (by grind) (by rw[hm];omega)
   rw[hm]at this;simp at this;exact this.mono (by grind)
theorem An1 (s:List UInt8)(c:UInt8):ZH (Ia Tryz.prog) CL [.p (.str s),.p (.v (.int .u8 c.toNat))] (.p (.v (.int .i64 (Lib.indexByte s c)))):=by
 refine Im (args:=[.str s,.v (.int .u8 c.toNat)]) (by simp) fun w Pi vs hb hs hr=>?_;obtain⟨a,b,rfl,ha,hb'⟩:=vs2' hs hr;cases Zp ha;cases hb'
 have:=Tryz.strings_IndexByte ⟨s.toArray⟩ c.toNat w
 have e:(c.toNat:Int).toNat.toUInt8=c:=by simp
 rw[e]at this;exact TZ this fun _ _=>.p _ _ (.v _)
end Go.AM
namespace Go.AM
open Go.Proofs
theorem An2 (u n:Nat)(f:Nat->List PV):Uw (Ia Tryz.prog) U4 [.reg 0 0] [.blk [0,121,u] 1,.vec I2 1 n f false] (.tup []) [.blk [0,121,1] 1,.vec I2 1 n f false] [true,true]:=by
 intro 𝒢 C w vs rho hG hs hsz;obtain⟨l⟩:=vs
 match l,hsz with
 |[v0],_=>
  have h0:Yj w (Prv C.X (A2 (Uv [.blk [0,121,u] 1,.vec I2 1 n f false])) rho) (Lv (A2 (Uv [.blk [0,121,u] 1,.vec I2 1 n f false]))) rho v0 (.reg 0 0):=hs.env 0;have hR0:A2 (Uv [.blk [0,121,u] 1,.vec I2 1 n f false]) 0=some (.blk [0,121,u] 1):=rfl;obtain⟨hl,hsb,b,hrb,hheap⟩:=hs.hp.holds 0 _ hR0;have hv:v0=.pointer (some ⟨b,0,none⟩):=by cases h0<;>grind
  subst hv;have hheap:w.heap[b]? = some (.cells #[if u=0 then .pointer none else .pointer (some ⟨b,0,none⟩),rho 1] 121 (0,0)):=hheap;have fin:∀w' : World,w'.heap.size=w.heap.size->(∀b',b' ≠ b->w'.heap[b']? = w.heap[b']?)->w'.heap[b]? = some (.cells #[.pointer (some ⟨b,0,none⟩),rho 1] 121 (0,0))->Ext w w' ->
   ∃C' r objs' ks rho', 𝒢.G C' /\ (r=ARes.ret (.tup [])/\objs' = [Obj.blk [0,121,1] 1,.vec I2 1 n f false]/\ks=[true,true])/\SatE C' (Uv objs') w' rho' /\
    Bp9 w' (Prv C'.X (A2 (Uv objs')) rho') (Lv (A2 (Uv objs'))) rho' (.returned (.tuple #[])) r/\∀i:Nat,ks[i]? = some true->i<objs'.length/\rho' i=rho i:=by
   intro w' h1 h2 h3 h4;obtain⟨k1,_,_⟩:=hs.modify (ob:=.blk [0,121,1] 1) hR0 (b:=b) (by grind[G0,R8]) (fun _=>trivial) (fun b' hb'=>by grind[G0,R8]) (w':=w') h1 h2
    (fun hk=>⟨hl,⟨hsb.1,fun _=>hsb.2 rfl⟩,b,hrb,h3⟩) (hext:=h4)
   refine⟨C,_,_,_,rho,hG,⟨rfl,rfl,rfl⟩,k1.toSatE,⟨_,rfl,.tup _ _ rfl (by grind)⟩,fun i hi=>?_⟩
   match i,hi with
   |0,_=>exact⟨by show 0<2;omega,rfl⟩
   |1,_=>exact⟨by show 1<2;omega,rfl⟩
  have hent:=enters_of Tryz.func83 (by decide +kernel) rfl;by_cases hu:u=0
  ·rw[if_pos hu]at hheap;refine⟨_,_,hent _ _,callsIn_wide.2 ((Any.Builder_copyCheck_fresh { Tryz.lays156 with } Tryz.Builder_Extra_156.toX72 b w (by rw[Lib.cell_of_heap hheap];rfl) (by simp[World.shape?,hheap];rfl) (Lib.frozen_of_heap hheap 0)).mono ?_)⟩;rintro e w' ⟨rfl,rfl⟩;refine fin _ (by simp_all) (fun b' hb'=>RowKit.Below.heap_setCell _ _ _ _ hb') ?_ ⟨rfl,rfl⟩
   grind[World.setCell]
  ·rw[if_neg hu]at hheap;refine⟨_,_,hent _ _,callsIn_wide.2 ((Any.Builder_copyCheck_used { Tryz.lays156 with } Tryz.Builder_Extra_156.toX72 b w (by rw[Lib.cell_of_heap hheap];rfl)).mono ?_)⟩;rintro e w' ⟨rfl,rfl⟩;exact fin _ rfl (fun _ _=>rfl) hheap ⟨rfl,rfl⟩
end Go.AM
namespace Go.AM
open Go.Proofs
theorem AW5 (w:World)(k:Nat)(os:Array Go.Obj):RowKit.Below w.heap.size w (Sort.grow (w.drewN k) os):=
 ⟨rfl,rfl,rfl,by simp[Sort.grow,World.drewN],fun b hb=>by show (w.heap++os)[b]? = w.heap[b]?;rw[Array.getElem?_append_left hb]⟩
theorem Cc0 {w:World}{Pi:Nat->Nat->Prop}{E:Nat->Prop}(h:TabE Tryz.prog w Pi E):Lib.TabIs Tryz.prog w "internal/strconv.uint64pow10" .u64 Lib.pow10Tab:=by
 have hg:Tryz.prog.globalNamed "internal/strconv.uint64pow10" = some 0:=by decide +kernel
 obtain⟨s,hs,hn⟩:∃s,Tryz.prog.globals[0]? = some s/\RB s.name=Lib.pow10Tab.map fun n=>.int .u64 n:=⟨_,rfl,by kernel_rfl⟩;obtain⟨⟨t,fr,h1⟩,_⟩:=h.2 0 s hs (by rw[hn];simp[Lib.pow10Tab]);unfold Lib.TabIs World.var?;rw[hg];simp only[Option.bind_some,h1,hn]
theorem Bn3 (n:Int)(h0 : -9223372036854775808<=n)(h1:n<=9223372036854775807):ZH (Ia Tryz.prog) Z8 [.p (pI .i64 n),.p (pI .i64 10)] (.p (.str (Lib.itoa n))):=by refine LB (args:=[pI .i64 n,pI .i64 10]) (enters_of Tryz.func51 (by decide +kernel) rfl) fun w Pi vs hT hb hs hr=>?_;obtain⟨a,b,rfl,ha,hb'⟩:=vs2' hs hr;cases ha;cases hb';refine (Any.strconv_FormatInt_10 Tryz.lays173 n h0 h1 w (Cc0 hT)).mono ?_;rintro e w' ⟨rfl,k,os,rfl⟩;exact⟨_,rfl,AW5 w k os,fun _ _=>.p _ _ (.str _)⟩
end Go.AM
set_option maxRecDepth 100000
set_option maxHeartbeats 2000000
namespace Go.Proofs
open Go.Shelf
section
variable {P:Program}{ρ : Ren}
theorem AW6 (L:Lays.n169 P ρ)(X:Builder.Extra P ρ)(b:Nat)(p:Value)(base q:Option Addr)(n cap:Nat)(w w1 w2:World)(s:ByteArray)
 (c1:w.drew.cell? ⟨b,1,none⟩=some (.slice base n cap))
 (hSD:(Builtin.unsafeSliceData_ #[(ρ.t 37)] (ρ.t 127) #[.slice base n cap]).run P w.drew=.ok (.pointer q) w1)
 (c2:w1.cell? ⟨b,1,none⟩=some (.slice base n cap))
 (hUS:(Builtin.unsafeString_ #[(ρ.t 127),ρ.t 3] (ρ.t 9) #[.pointer q,.int .i64 n]).run P w1=.ok (.string s) w2) :
 Calls P (ρ.f 169) #[.pointer (some ⟨b,0,none⟩)] w fun e w'=>e=.returned (.string s)/\w' = w2:=by
 have mixed:=L.mixed;have t72:=L.t72;have a72:=L.a72;have z72:=L.z72;have v72:=L.v72;have u72:=run_underlying L.t72;have t70:=L.t70;have a70:=L.a70;have z70:=L.z70;have v70:=L.v70;have u70:=run_underlying L.t70;have t37:=L.t37;have a37:=L.a37;have z37:=L.z37;have v37:=L.v37;have u37:=run_underlying L.t37;have t127:=L.t127;have a127:=L.a127;have z127:=L.z127;have v127:=L.v127;have u127:=run_underlying L.t127;have t3:=L.t3;have a3:=L.a3;have z3:=L.z3;have v3:=L.v3;have u3:=run_underlying L.t3;have t9:=L.t9;have a9:=L.a9;have z9:=L.z9;have v9:=L.v9;have u9:=run_underlying L.t9;have t5:=X.t5;have a5:=X.a5;have z5:=X.z5;have v5:=X.v5;have u5:=run_underlying X.t5
 go_enter L.f169,Body.n169_ntmps ρ
 go_wp2
 go_region_o
 all_goals (go_wp2;go_ret;exact⟨rfl,rfl⟩)
end
end Go.Proofs
set_option maxHeartbeats 1000000
namespace Go.AM
open Go.Proofs
theorem An3 (w:World)(g n b:Nat)(h:b≠g):(w.freeze ⟨g,0,none⟩ n).heap[b]? = w.heap[b]?:=by
 unfold World.freeze
 grind
theorem Ua (w:World)(g n:Nat):(w.freeze ⟨g,0,none⟩ n).heap.size=w.heap.size/\Ext w (w.freeze ⟨g,0,none⟩ n):=by
 unfold World.freeze;by_cases h0:n=0
 ·rw[if_pos h0];exact⟨rfl,rfl,rfl⟩
 ·rw[if_neg h0];exact⟨by simp,rfl,rfl⟩
theorem Bn4 {u n:Nat}{f:Nat->List PV}(s:List UInt8)(hl:s.length=n)(hf:∀i,i<n->f i=[.v (.int .u8 (s.getD i 0).toNat)]) :Uw (Ia Tryz.prog) Y0 [.reg 0 0] [.blk [0,121,u] 1,.vec I2 1 n f false] (.p (.str s)) [] []:=by
 intro 𝒢 C w vs rho hG hs hsz;obtain⟨l⟩:=vs
 match l,hsz with
 |[v0],_=>
  have h0:Yj w (Prv C.X (A2 (Uv [.blk [0,121,u] 1,.vec I2 1 n f false])) rho) (Lv (A2 (Uv [.blk [0,121,u] 1,.vec I2 1 n f false]))) rho v0 (.reg 0 0):=hs.env 0;have hR0:A2 (Uv [.blk [0,121,u] 1,.vec I2 1 n f false]) 0=some (.blk [0,121,u] 1):=rfl;have hR1:A2 (Uv [.blk [0,121,u] 1,.vec I2 1 n f false]) 1=some (.vec I2 1 n f false):=rfl;obtain⟨_,hsb,b,hrb,hheap⟩:=hs.hp.holds 0 _ hR0;have hv:v0=.pointer (some ⟨b,0,none⟩):=by cases h0<;>grind
  subst hv;have hheap:w.heap[b]? = some (.cells #[if u=0 then .pointer none else .pointer (some ⟨b,0,none⟩),rho 1] 121 (0,0)):=hheap;have hno:∀j,A2 (Uv []) j=none:=fun j=>by simp[Uv,Uv.go,A2]
  have fin:∀w' : World,w.heap.size<=w'.heap.size->(∀b',b' < w.heap.size->R8 (rho 1) (.vec I2 1 n f false)≠some b' -> w'.heap[b']? = w.heap[b']?)->Ext w w' ->
   ∃C' r objs' ks rho', 𝒢.G C' /\ (r=ARes.ret (.p (.str s))/\objs' = []/\ks=[])/\SatE C' (Uv objs') w' rho' /\
    Bp9 w' (Prv C'.X (A2 (Uv objs')) rho') (Lv (A2 (Uv objs'))) rho' (.returned (.string ⟨s.toArray⟩)) r/\∀i:Nat,ks[i]? = some true->i<objs'.length/\rho' i=rho i:=by
   intro w' h1 h2 h4;refine⟨C,_,_,_,rho,hG,⟨rfl,rfl,rfl⟩,?_,⟨_,rfl,.p _ _ (.str s)⟩,by grind⟩;refine⟨⟨by grind,by grind,by grind,fun b off hp=>Nat.lt_of_lt_of_le (hs.hp.bound b off hp) h1⟩,hs.ext.trans h4,Nat.le_trans hs.size h1,fun b' hlt hE=>?_,?_,fun b' hbo=>?_,by grind⟩
   ·rw[h2 b' (Nat.lt_of_lt_of_le hlt hs.size) fun hb'=>?_]
    ·exact hs.same b' hlt hE
    ·rcases hs.own b' ⟨1,_,hR1,hb'⟩with h|h
     all_goals grind
   ·refine hs.keep.trans fun b' o v hp hc=>⟨?_,?_⟩
    ·rw[<- hc];refine World.cell?_of_block (h2 b' (World.block_lt_of_cell? w ⟨b',o,none⟩ hc) fun hb'=>hp (.inr ⟨1,_,hR1,hb',trivial⟩))
    ·rintro (hX|⟨j,o',hj,_⟩)
     ·exact hp (.inl hX)
     grind
   ·obtain⟨j,o,hj,_⟩:=hbo;grind
  have hent:=enters_of Tryz.func54 (by decide +kernel) rfl
  suffices hm:∃(base q:Option Addr) (cap:Nat) (w1 w2:World),rho 1=.slice base n cap /\
   (Builtin.unsafeSliceData_ #[(Tryz.lays156_ren.t 37)] (Tryz.lays156_ren.t 127) #[.slice base n cap]).run Tryz.prog w.drew=.ok (.pointer q) w1/\w1.heap[b]? = w.heap[b]? /\
   (Builtin.unsafeString_ #[(Tryz.lays156_ren.t 127),Tryz.lays156_ren.t 3] (Tryz.lays156_ren.t 9) #[.pointer q,.int .i64 n]).run Tryz.prog w1=.ok (.string ⟨s.toArray⟩) w2 /\
   w.heap.size<=w2.heap.size/\(∀b',b' < w.heap.size->R8 (rho 1) (.vec I2 1 n f false)≠some b' -> w2.heap[b']? = w.heap[b']?)/\Ext w w2 by
   obtain⟨base,q,cap,w1,w2,hr,hSD,hb1,hUS,g1,g2,g3⟩:=hm;refine⟨_,_,hent _ _,callsIn_wide.2 ((AW6 { Tryz.lays156 with } Tryz.Builder_Extra_156 b (.pointer none) base q n cap w w1 w2 ⟨s.toArray⟩ ?_ hSD ?_ hUS).mono ?_)⟩
   ·have:w.drew.heap[b]? = w.heap[b]?:=rfl
    rw[Lib.cell_of_heap (this.trans hheap),hr];rfl
   ·rw[Lib.cell_of_heap (hb1.trans hheap),hr];rfl
   grind
  have hblt:b<w.heap.size:=(by grind);rcases hs.hp.holds 1 _ hR1 with⟨h1,h2⟩ | ⟨g,cap,c,h1,h2,h3,h4,h5,h6,h7⟩
  ·subst h2;obtain rfl:=List.length_eq_zero_iff.1 hl;exact⟨none,none,0,w.drew,w.drew,h1,rfl,rfl,Lib.run_unsafeString_none _ _ _ _ _,Nat.le_refl _,fun _ _ _=>rfl,rfl,rfl⟩
  ·by_cases hc:cap=0
   ·subst hc;obtain rfl:n=0:=by omega
    obtain rfl:=List.length_eq_zero_iff.1 hl;refine⟨_,_,0,_,_,h1,Lib.run_unsafeSliceData_zero w.drew _ _ (Tryz.lays156_ren.t 5) Tryz.lays156.t127 ⟨g,0,none⟩ 0 (I2,c.size) (by have hg' : w.drew.heap[g]? = some (.cells c I2 (0,0)):=h2;grind[World.shape?]),?_,Lib.run_unsafeString_none _ _ _ _ _,?_,fun b' hb' _=>?_,rfl,rfl⟩
    ·show (w.heap.push _)[b]? = _;rw[Array.getElem?_push,if_neg (by omega)]
    ·simp_all
    ·show (w.heap.push _)[b']? = _;rw[Array.getElem?_push,if_neg (by omega)]
   ·by_cases hn:n=0
    ·subst hn;obtain rfl:=List.length_eq_zero_iff.1 hl;exact⟨_,_,cap,w.drew,w.drew,h1,Lib.run_unsafeSliceData_row _ _ _ _ _ _ hc,rfl,Lib.run_unsafeString_none _ _ _ _ _,Nat.le_refl _,fun _ _ _=>rfl,rfl,rfl⟩
    ·subst hl;refine⟨_,_,cap,w.drew,w.drew.freeze ⟨g,0,none⟩ s.length,h1,Lib.run_unsafeSliceData_row _ _ _ _ _ _ hc,rfl,
      Lib.run_unsafeString_row w.drew _ _ _ (Tryz.lays156_ren.t 5) Tryz.lays156.t127 Tryz.Builder_Extra_156.cellsByte g c.size (by have hg' : w.drew.heap[g]? = some (.cells c I2 (0,0)):=h2;simp[World.shape?,hg'];rfl) s (by grind) (by omega) (by grind[maxLen]) (fun j x hx=>?_),
      Nat.le_of_eq (Ua w.drew g _).1.symm,fun b' hb' hne=>An3 w.drew g _ b' fun e=>hne (by rw[h1,e];rfl),(Ua w.drew g _).2⟩
     obtain⟨hj,rfl⟩:=List.getElem?_eq_some_iff.1 hx;have hcell:=(h7 j 0 hj (by omega)).1;rw[hf j hj]at hcell;have hcv:c.getD (j*1+0) undef=.int .u8 (s.getD j 0).toNat:=by generalize c.getD (j*1+0) undef=cv at hcell;cases hcell;rfl
     have hjc:j<c.size:=by omega
     have hd:w.drew.heap[g]? = some (.cells c I2 (0,0)):=h2;have ea:(⟨g,0,none⟩:Addr).add j=⟨g,j,none⟩:=by grind[Addr.add]
     rw[ea,Lib.cell_of_heap hd,Array.getElem?_eq_getElem hjc];rw[Nat.mul_one,Nat.add_zero,Array.getD_eq_getD_getElem?,Array.getElem?_eq_getElem hjc,Option.getD_some,List.getD_eq_getElem?_getD,List.getElem?_eq_getElem hj,Option.getD_some]at hcv;rw[hcv]
end Go.AM
namespace Go.AM
open Go.Proofs
theorem vs1 {vs:Array Value}{x:PV}{w:World}{Pi:Nat->Nat->Prop}(hsz:vs.size=[x].length)(hr:∀i,i<[x].length->Uy w Pi (vs.getD i undef) ([x].getD i default)):∃a,vs = #[a]/\Uy w Pi a x:=by
 obtain⟨l⟩:=vs
 match l,hsz with
 |[a],_=>simp_all
theorem vs2 {vs:Array Value}{x y:PV}{w:World}{Pi:Nat->Nat->Prop}(hsz:vs.size=[x,y].length)(hr:∀i,i<[x,y].length->Uy w Pi (vs.getD i undef) ([x,y].getD i default)) :∃a b,vs = #[a,b]/\Uy w Pi a x/\Uy w Pi b y:=by
 obtain⟨l⟩:=vs
 match l,hsz with
 |[a,b],_=>exact⟨a,b,rfl,hr 0 (by simp),hr 1 (by simp)⟩
theorem Bn5 {w:World}{Pi:Nat->Nat->Prop}{v:Value}{l:List UInt8}(h:Uy w Pi v (.str l)):v=.string ⟨l.toArray⟩:=by cases h;rfl
theorem BQ8 {w:World}{Pi:Nat->Nat->Prop}{v x:Value}(h:Uy w Pi v (.v x)):v=x:=by cases h;rfl
theorem Cc1 {w:World}{Pi:Nat->Nat->Prop}(h:TabOk Tryz.prog w Pi):TabAt 3 Lib.deBruijn64tab w:=fun j hj=>by
 obtain⟨s,hs,hn⟩:∃s,Tryz.prog.globals[3]? = some s/\(s.name == "math/bits.deBruijn64tab")=true:=⟨_,rfl,by decide +kernel⟩;refine (h 3 s j (.int .u8 ((Lib.deBruijn64tab.getD j 0:Nat):Int)) hs ?_).1
 simp_all[RB,if_pos,List.getElem?_map,List.getElem?_eq_getElem,List.getD_eq_getElem?_getD]
theorem BB1 {P:Program}{f:FuncId}{e:TypeId}{k n:Nat}{i0:TypeInfo}{z:Value}{vw:Bool}{g:Nat->List PV}(hent:∀xs w,(callFunc f xs).run P w=.ok (.enter f xs) w)(hz:z.cells.size=k)(hn:n<=maxLen)
 (h0:∀w,Calls P f #[.slice none 0 0,.int .i64 (0:Nat)] w fun e w'=>e=.returned (.slice none 0 0)/\w' = w)
 (h:∀w,0<n->Calls P f #[.slice none 0 0,.int .i64 n] w fun x w'=>x=.returned (.slice (some ⟨w.heap.size,0,none⟩) 0 (grownCap w (0+n) 0 e)) /\
  w' = w.drew.alloc (.cells (([]:List Value).toArray++Builtin.zeroCells z.cells (0+n-0)++Builtin.zeroCells z.cells (grownCap w (0+n) 0 e-(0+n))) e)) :
 Uw (Ia P) f [.p I1,.p (pI .i64 (n:Int))] [] (.vec 0) [.vec e k 0 g vw] []:=by
 refine Ac6 (args:=[I1,pI .i64 (n:Int)]) hent (by omega) fun w Pi vs hb hs hr=>?_;obtain⟨a,b,rfl,ha,hb'⟩:=vs2 hs hr;cases BQ8 ha;cases BQ8 hb';by_cases hz0:n=0
 ·subst hz0;exact (h0 w).mono fun x w' ⟨he,hw⟩=>⟨_,he,by rw[hw];grind[RowKit.Below.refl],.inl ⟨rfl,rfl⟩⟩
 ·refine (h w (by omega)).mono ?_;rintro x w' ⟨he,rfl⟩;have hge:=grownCap_ge w (0+n) 0 e;refine⟨_,he,(RowKit.Below.drew (RowKit.Below.refl _ _)).alloc (Nat.le_refl _) _,.inr ⟨w.heap.size,grownCap w (0+n) 0 e,([]:List Value).toArray++Builtin.zeroCells z.cells (0+n-0)++Builtin.zeroCells z.cells (grownCap w (0+n) 0 e-(0+n)),rfl,Nat.le_refl _,?_,Nat.zero_le _,?_,grownCap_le_maxLen _ _ _ _ (by omega),by omega⟩⟩
  ·show (w.drew.heap.push _)[w.heap.size]? = _
   have:w.drew.heap=w.heap:=rfl
   rw[this];simp
  ·simp only[Builtin.zeroCells,Array.size_append,Array.size_map,Array.size_range,List.size_toArray,List.length_nil,hz];rw[Nat.zero_add,<- Nat.add_mul]
   grind
set_option maxRecDepth 100000 in
theorem libC:KY (Ia Tryz.prog) where
 attR:=Aw1
 attP:=YA
 tz x:=by refine LC (args:=[pI .u64 (U x)]) (enters_of Tryz.func214 (by decide +kernel) rfl) fun w Pi vs hT hb hs hr=>?_;obtain⟨a,rfl,ha⟩:=vs1 hs hr;cases BQ8 ha;exact (Any7.bits_TrailingZeros64 Tryz.tz x.toNat x.isLt w fun _=>Cc1 hT).mono fun e w' ⟨he,hw⟩=>⟨_,he,by rw[hw];exact RowKit.Below.refl _ _,fun _ _=>.p _ _ (.v _)⟩
 trim s c hs hc ha:=by refine Im (args:=[.str s,.str c]) (enters_of Tryz.func148 (by decide +kernel) rfl) fun w Pi vs hb hs' hr=>?_;obtain⟨a,b,rfl,h1,h2⟩:=vs2 hs' hr;cases Bn5 h1;cases Bn5 h2;refine (Any.strings_Trim_laid Tryz.trim (by kernel_rfl) ⟨s.toArray⟩ ⟨c.toArray⟩ w (by show s.toArray.size<=_;simp;omega) (by show c.toArray.size<_;simp;omega) fun j b hj=>ha b (List.mem_of_getElem? hj)).mono ?_;rintro e w' ⟨he,hbl⟩;exact⟨_,he,hbl,fun _ _=>.p _ _ (.str _)⟩
 growS f n hn:=BB1 (i0:=(Tryz.prog.info? A8).getD default) (z:=.agg #[.int .u32 0,.int .u32 0]) (enters_of Tryz.func270 (by decide +kernel) rfl) rfl (by unfold maxLen;omega)
  (fun w=>Any8.slices_Grow_room Tryz.growS none 0 0 0 w (by omega) (by omega) (by omega) (by omega))
  (fun w h0=>Any8.slices_Grow_grow Tryz.growS ((Tryz.prog.info? A8).getD default) (.agg #[.int .u32 0,.int .u32 0]) (by kernel_rfl) (by kernel_rfl) (by decide +kernel) none 0 0 n [] w (by omega) (by omega) (Nat.le_trans (Nat.le_of_eq (congrArg (fun b=>(0+n)*b) (show ((Tryz.prog.info? A8).getD default).bytes=8 by kernel_rfl))) (by show (0+n)*8<=_;omega)) (by omega) rfl (fun _=>rfl) (fun a h=>by cases h))
 join nn n g sep:=BQ7 nn n g sep
 indexByte s c:=An1 s c
 fmtInt n h0 h1:=Bn3 n h0 h1
 copyCheck T u n f hT:=by subst hT;exact An2 u n f
 bstr T u n f s hT hl hf:=by subst hT;exact Bn4 s hl hf
end Go.AM
