/- Part 8. -/
import Derived.Shelf.Spec.TrailingZeros
import Derived.Shelf.Spec.SlicesGrow
import Derived.Shelf.Strings.SlTrimAscii
import Derived.Ground.NamesProg
import Derived.Ground.Names7Prog
import Derived.Ground.Names8Prog
import Derived.Test.YtodhnkfgkgkngaaGreatDoorProg
import Derived.Test.YtodhnkfgkgkngaaGreatDoorKE
import Derived.Test.YtodhnkfgkgkngaaGreatDoorKG
set_option linter.unusedSimpArgs false
set_option linter.unusedVariables false
set_option linter.unusedSectionVars false
namespace Go.Proofs
open Go.Shelf
def Tryz.tz_ren:Go.Shelf.Ren:=⟨fun|29=>211|n=>n,fun|22=>198|3=>3|4=>4|25=>140|54=>229|0=>0|5=>5|n=>n,fun|1=>3|n=>n⟩
theorem Tryz.tz:Go.Proofs.Lays7.n29 Tryz.prog Tryz.tz_ren:={
 mixed:=by kernel_rfl
 f29:=Tryz.func211.trans (congrArg some (by kernel_rfl))
 t0:=Tryz.underlying0
 a0:=Tryz.isAgg0
 z0:=Tryz.sizeOf0
 v0:=Tryz.zeroValue0
 i0:=by kernel_rfl
 t3:=Tryz.underlying3
 a3:=Tryz.isAgg3
 z3:=Tryz.sizeOf3
 v3:=Tryz.zeroValue3
 i3:=by kernel_rfl
 t4:=Tryz.underlying4
 a4:=Tryz.isAgg4
 z4:=Tryz.sizeOf4
 v4:=Tryz.zeroValue4
 i4:=by kernel_rfl
 t5:=Tryz.underlying5
 a5:=Tryz.isAgg5
 z5:=Tryz.sizeOf5
 v5:=Tryz.zeroValue5
 i5:=by kernel_rfl
 t22:=Tryz.underlying198
 a22:=Tryz.isAgg198
 z22:=Tryz.sizeOf198
 v22:=Tryz.zeroValue198
 i22:=by kernel_rfl
 t25:=Tryz.underlying140
 a25:=Tryz.isAgg140
 z25:=Tryz.sizeOf140
 v25:=Tryz.zeroValue140
 i25:=by kernel_rfl
 t54:=Tryz.underlying229
 a54:=Tryz.isAgg229
 z54:=Tryz.sizeOf229
 g1:=by kernel_rfl }
def Tryz.trim_ren:Go.Shelf.Ren:=⟨fun|160=>120|232=>135|231=>134|227=>136|234=>138|233=>137|236=>140|235=>139|228=>148|271=>151|151=>150|197=>149|120=>159|152=>158|260=>157|137=>165|119=>166|224=>167|225=>168|217=>180|266=>191|n=>n,fun|9=>9|4=>4|3=>3|5=>5|117=>159|116=>158|0=>0|124=>162|21=>21|105=>168|46=>140|119=>177|139=>180|138=>179|n=>n,fun|3=>0|4=>1|n=>n⟩
theorem Tryz.trim:Go.Proofs.Lays.n160 Tryz.prog Tryz.trim_ren:={
 mixed:=by kernel_rfl
 f119:=Tryz.func166.trans (congrArg some (by kernel_rfl))
 f120:=Tryz.func159.trans (congrArg some (by kernel_rfl))
 f137:=Tryz.func165.trans (congrArg some (by kernel_rfl))
 f151:=Tryz.func150.trans (congrArg some (by kernel_rfl))
 f152:=Tryz.func158.trans (congrArg some (by kernel_rfl))
 f160:=Tryz.func120.trans (congrArg some (by kernel_rfl))
 f197:=Tryz.func149.trans (congrArg some (by kernel_rfl))
 f217:=Tryz.func180.trans (congrArg some (by kernel_rfl))
 f224:=Tryz.func167.trans (congrArg some (by kernel_rfl))
 f225:=Tryz.func168.trans (congrArg some (by kernel_rfl))
 f227:=Tryz.func136.trans (congrArg some (by kernel_rfl))
 f228:=Tryz.func148.trans (congrArg some (by kernel_rfl))
 f231:=Tryz.func134.trans (congrArg some (by kernel_rfl))
 f232:=Tryz.func135.trans (congrArg some (by kernel_rfl))
 f233:=Tryz.func137.trans (congrArg some (by kernel_rfl))
 f234:=Tryz.func138.trans (congrArg some (by kernel_rfl))
 f235:=Tryz.func139.trans (congrArg some (by kernel_rfl))
 f236:=Tryz.func140.trans (congrArg some (by kernel_rfl))
 f260:=Tryz.func157.trans (congrArg some (by kernel_rfl))
 f266:=Tryz.func191.trans (congrArg some (by kernel_rfl))
 f271:=Tryz.func151.trans (congrArg some (by kernel_rfl))
 t0:=Tryz.underlying0
 a0:=Tryz.isAgg0
 z0:=Tryz.sizeOf0
 v0:=Tryz.zeroValue0
 t3:=Tryz.underlying3
 a3:=Tryz.isAgg3
 z3:=Tryz.sizeOf3
 v3:=Tryz.zeroValue3
 t4:=Tryz.underlying4
 a4:=Tryz.isAgg4
 z4:=Tryz.sizeOf4
 v4:=Tryz.zeroValue4
 t5:=Tryz.underlying5
 a5:=Tryz.isAgg5
 z5:=Tryz.sizeOf5
 v5:=Tryz.zeroValue5
 t9:=Tryz.underlying9
 a9:=Tryz.isAgg9
 z9:=Tryz.sizeOf9
 v9:=Tryz.zeroValue9
 t21:=Tryz.underlying21
 a21:=Tryz.isAgg21
 z21:=Tryz.sizeOf21
 v21:=Tryz.zeroValue21
 t46:=Tryz.underlying140
 a46:=Tryz.isAgg140
 z46:=Tryz.sizeOf140
 v46:=Tryz.zeroValue140
 t105:=Tryz.underlying168
 a105:=Tryz.isAgg168
 z105:=Tryz.sizeOf168
 v105:=Tryz.zeroValue168
 t116:=Tryz.underlying158
 a116:=Tryz.isAgg158
 z116:=Tryz.sizeOf158
 t117:=Tryz.underlying159
 a117:=Tryz.isAgg159
 z117:=Tryz.sizeOf159
 v117:=Tryz.zeroValue159
 t119:=Tryz.underlying177
 a119:=Tryz.isAgg177
 z119:=Tryz.sizeOf177
 t124:=Tryz.underlying162
 a124:=Tryz.isAgg162
 z124:=Tryz.sizeOf162
 v124:=Tryz.zeroValue162
 t138:=Tryz.underlying179
 a138:=Tryz.isAgg179
 z138:=Tryz.sizeOf179
 v138:=Tryz.zeroValue179
 t139:=Tryz.underlying180
 a139:=Tryz.isAgg180
 z139:=Tryz.sizeOf180
 v139:=Tryz.zeroValue180
 g3:=by kernel_rfl
 g4:=by kernel_rfl }
def Tryz.growS_ren:Go.Shelf.Ren:=⟨fun|4=>184|n=>n,fun|22=>27|25=>51|3=>3|4=>4|9=>9|20=>20|0=>0|n=>n,fun|n=>n⟩
theorem Tryz.growS:Go.Proofs.Lays8.n4 Tryz.prog Tryz.growS_ren:={
 mixed:=by kernel_rfl
 f4:=⟨Tryz.f184.name,by decide,Tryz.func184.trans (congrArg some (by kernel_rfl))⟩
 t0:=Tryz.underlying0
 a0:=Tryz.isAgg0
 z0:=Tryz.sizeOf0
 v0:=Tryz.zeroValue0
 t3:=Tryz.underlying3
 a3:=Tryz.isAgg3
 z3:=Tryz.sizeOf3
 v3:=Tryz.zeroValue3
 t4:=Tryz.underlying4
 a4:=Tryz.isAgg4
 z4:=Tryz.sizeOf4
 v4:=Tryz.zeroValue4
 t9:=Tryz.underlying9
 a9:=Tryz.isAgg9
 z9:=Tryz.sizeOf9
 v9:=Tryz.zeroValue9
 t20:=Tryz.underlying20
 a20:=Tryz.isAgg20
 z20:=Tryz.sizeOf20
 v20:=Tryz.zeroValue20
 t22:=Tryz.underlying27
 a22:=Tryz.isAgg27
 z22:=Tryz.sizeOf27
 v22:=Tryz.zeroValue27 }
end Go.Proofs
namespace Go.AM
open Go.Proofs
theorem vs1 {vs:Array Value}{x:PV}{w:World}{Pi:Nat->Nat->Prop}(hsz:vs.size=[x].length)(hr:∀i,i<[x].length->RepP w Pi (vs.getD i undef) ([x].getD i default)):∃a,vs = #[a]/\RepP w Pi a x:=by
 obtain⟨l⟩:=vs
 match l,hsz with
 |[a],_=>exact⟨a,rfl,hr 0 (by simp)⟩
theorem vs2 {vs:Array Value}{x y:PV}{w:World}{Pi:Nat->Nat->Prop}(hsz:vs.size=[x,y].length)(hr:∀i,i<[x,y].length->RepP w Pi (vs.getD i undef) ([x,y].getD i default)) :∃a b,vs = #[a,b]/\RepP w Pi a x/\RepP w Pi b y:=by
 obtain⟨l⟩:=vs
 match l,hsz with
 |[a,b],_=>exact⟨a,b,rfl,hr 0 (by simp),hr 1 (by simp)⟩
theorem Re {w:World}{Pi:Nat->Nat->Prop}{v:Value}{l:List UInt8}(h:RepP w Pi v (.str l)):v=.string ⟨l.toArray⟩:=by cases h;rfl
theorem Us {w:World}{Pi:Nat->Nat->Prop}{v x:Value}(h:RepP w Pi v (.v x)):v=x:=by cases h;rfl
theorem VH {w:World}{Pi:Nat->Nat->Prop}(h:TabOk Tryz.prog w Pi):TabAt 3 Lib.deBruijn64tab w:=fun j hj=>by obtain⟨s,hs,hn⟩:∃s,Tryz.prog.globals[3]? = some s/\(s.name == "math/bits.deBruijn64tab")=true:=⟨_,rfl,by decide +kernel⟩;refine (h 3 s j (.int .u8 ((Lib.deBruijn64tab.getD j 0:Nat):Int)) hs ?_).1;unfold NZ;rw[if_pos hn,List.getElem?_map,List.getElem?_eq_getElem hj];simp[List.getD_eq_getElem?_getD,hj]
theorem SF {P:Program}{f:FuncId}{e:TypeId}{k n:Nat}{i0:TypeInfo}{z:Value}{vw:Bool}{g:Nat->List PV}(hent:∀xs w,(callFunc f xs).run P w=.ok (.enter f xs) w)(hz:z.cells.size=k)(hn:n<=maxLen)
 (h0:∀w,Calls P f #[.slice none 0 0,.int .i64 (0:Nat)] w fun e w'=>e=.returned (.slice none 0 0)/\w' = w)
 (h:∀w,0<n->Calls P f #[.slice none 0 0,.int .i64 n] w fun x w'=>x=.returned (.slice (some ⟨w.heap.size,0,none⟩) 0 (grownCap w (0+n) 0 e)) /\
  w' = w.drew.alloc (.cells (([]:List Value).toArray++Builtin.zeroCells z.cells (0+n-0)++Builtin.zeroCells z.cells (grownCap w (0+n) 0 e-(0+n))) e)) :
 FunO (DO P) f [.p E3,.p (pI .i64 (n:Int))] [] (.vec 0) [.vec e k 0 g vw] []:=by
 refine Mh (args:=[E3,pI .i64 (n:Int)]) hent (fun i hi=>absurd hi (by omega)) fun w Pi vs hb hs hr=>?_;obtain⟨a,b,rfl,ha,hb'⟩:=vs2 hs hr;cases Us ha;cases Us hb';by_cases hz0:n=0
 ·subst hz0;exact (h0 w).mono fun x w' ⟨he,hw⟩=>⟨_,he,by rw[hw];exact RowKit.Below.refl _ _,.inl ⟨rfl,rfl⟩⟩
 ·refine (h w (by omega)).mono ?_;rintro x w' ⟨he,rfl⟩;have hge:=grownCap_ge w (0+n) 0 e;refine⟨_,he,(RowKit.Below.drew (RowKit.Below.refl _ _)).alloc (Nat.le_refl _) _,.inr ⟨w.heap.size,grownCap w (0+n) 0 e,([]:List Value).toArray++Builtin.zeroCells z.cells (0+n-0)++Builtin.zeroCells z.cells (grownCap w (0+n) 0 e-(0+n)),rfl,Nat.le_refl _,?_,Nat.zero_le _,?_,grownCap_le_maxLen _ _ _ _ (by omega),fun i j hi=>absurd hi (by omega)⟩⟩
  ·show (w.drew.heap.push _)[w.heap.size]? = _
   have:w.drew.heap=w.heap:=rfl
   rw[this];simp
  ·simp only[Builtin.zeroCells,Array.size_append,Array.size_map,Array.size_range,List.size_toArray,List.length_nil,hz];rw[Nat.zero_add,<- Nat.add_mul];congr 1;omega
set_option maxRecDepth 100000 in
theorem libC:GK (DO Tryz.prog) where
 attR:=NI
 attP:=KX
 tz x:=by refine Ef (args:=[pI .u64 (U x)]) (enters_of Tryz.func211 (by decide +kernel) rfl) fun w Pi vs hT hb hs hr=>?_;obtain⟨a,rfl,ha⟩:=vs1 hs hr;cases Us ha;exact (Any7.bits_TrailingZeros64 Tryz.tz x.toNat x.isLt w fun _=>VH hT).mono fun e w' ⟨he,hw⟩=>⟨_,he,by rw[hw];exact RowKit.Below.refl _ _,fun _ _=>.p _ _ (.v _)⟩
 trim s c hs hc ha:=by refine Kx (args:=[.str s,.str c]) (enters_of Tryz.func120 (by decide +kernel) rfl) fun w Pi vs hb hs' hr=>?_;obtain⟨a,b,rfl,h1,h2⟩:=vs2 hs' hr;cases Re h1;cases Re h2;refine (Any.strings_Trim_laid Tryz.trim (by kernel_rfl) ⟨s.toArray⟩ ⟨c.toArray⟩ w (by show s.toArray.size<=_;simp;omega) (by show c.toArray.size<_;simp;omega) fun j b hj=>ha b (List.mem_of_getElem? hj)).mono ?_;rintro e w' ⟨he,hbl⟩;exact⟨_,he,hbl,fun _ _=>.p _ _ (.str _)⟩
 growS f n hn:=SF (i0:=(Tryz.prog.info? B3).getD default) (z:=.agg #[.int .u32 0,.int .u32 0]) (enters_of Tryz.func184 (by decide +kernel) rfl) rfl (by unfold maxLen;omega)
  (fun w=>Any8.slices_Grow_room Tryz.growS none 0 0 0 w (by omega) (by omega) (by omega) (by omega))
  (fun w h0=>Any8.slices_Grow_grow Tryz.growS ((Tryz.prog.info? B3).getD default) (.agg #[.int .u32 0,.int .u32 0]) (by kernel_rfl) (by kernel_rfl) (by decide +kernel) none 0 0 n [] w (by omega) (by omega) (Nat.le_trans (Nat.le_of_eq (congrArg (fun b=>(0+n)*b) (show ((Tryz.prog.info? B3).getD default).bytes=8 by kernel_rfl))) (by show (0+n)*8<=_;omega)) (by omega) rfl (fun _=>rfl) (fun a h=>by cases h))
end Go.AM
