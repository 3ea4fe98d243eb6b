/- Part 11. -/
import Derived.Shelf.Spec.TrailingZeros
import Derived.Shelf.Spec.SlicesGrow
import Derived.Shelf.Strings.SlTrimAscii
import Derived.Ground.NamesProg
import Derived.Ground.Names7Prog
import Derived.Ground.Names8Prog
import Derived.Test.YtppapmfonjmfbaaGreatDoorProg
import Derived.Test.YtppapmfonjmfbaaGreatDoorRF
import Derived.Test.YtppapmfonjmfbaaGreatDoorRJ
set_option linter.unusedSimpArgs false
set_option linter.unusedVariables false
set_option linter.unusedSectionVars false
namespace Go.Proofs
open Go.Shelf
def Tryz.tz_ren:Go.Shelf.Ren:=⟨fun|29=>158|n=>n,fun|22=>183|3=>3|4=>4|25=>145|54=>237|0=>0|5=>5|n=>n,fun|1=>2|n=>n⟩
theorem Tryz.tz:Go.Proofs.Lays7.n29 Tryz.prog Tryz.tz_ren:={
 mixed:=by kernel_rfl
 f29:=Tryz.func158.trans (congrArg some (by kernel_rfl))
 t0:=Tryz.underlying0
 a0:=Tryz.isAgg0
 z0:=Tryz.sizeOf0
 v0:=Tryz.zeroValue0
 i0:=by kernel_rfl
 t3:=Tryz.underlying3
 a3:=Tryz.isAgg3
 z3:=Tryz.sizeOf3
 v3:=Tryz.zeroValue3
 i3:=by kernel_rfl
 t4:=Tryz.underlying4
 a4:=Tryz.isAgg4
 z4:=Tryz.sizeOf4
 v4:=Tryz.zeroValue4
 i4:=by kernel_rfl
 t5:=Tryz.underlying5
 a5:=Tryz.isAgg5
 z5:=Tryz.sizeOf5
 v5:=Tryz.zeroValue5
 i5:=by kernel_rfl
 t22:=Tryz.underlying183
 a22:=Tryz.isAgg183
 z22:=Tryz.sizeOf183
 v22:=Tryz.zeroValue183
 i22:=by kernel_rfl
 t25:=Tryz.underlying145
 a25:=Tryz.isAgg145
 z25:=Tryz.sizeOf145
 v25:=Tryz.zeroValue145
 i25:=by kernel_rfl
 t54:=Tryz.underlying237
 a54:=Tryz.isAgg237
 z54:=Tryz.sizeOf237
 g1:=by kernel_rfl }
def Tryz.trim_ren:Go.Shelf.Ren:=⟨fun|160=>100|232=>126|231=>125|227=>127|234=>129|233=>128|236=>131|235=>130|228=>144|271=>147|151=>146|197=>145|120=>154|152=>153|260=>152|137=>159|119=>160|224=>161|225=>162|217=>163|266=>164|n=>n,fun|9=>9|4=>4|3=>3|5=>5|117=>187|116=>186|0=>0|124=>190|21=>21|105=>201|46=>145|119=>219|139=>222|138=>221|n=>n,fun|3=>0|4=>1|n=>n⟩
theorem Tryz.trim:Go.Proofs.Lays.n160 Tryz.prog Tryz.trim_ren:={
 mixed:=by kernel_rfl
 f119:=Tryz.func160.trans (congrArg some (by kernel_rfl))
 f120:=Tryz.func154.trans (congrArg some (by kernel_rfl))
 f137:=Tryz.func159.trans (congrArg some (by kernel_rfl))
 f151:=Tryz.func146.trans (congrArg some (by kernel_rfl))
 f152:=Tryz.func153.trans (congrArg some (by kernel_rfl))
 f160:=Tryz.func100.trans (congrArg some (by kernel_rfl))
 f197:=Tryz.func145.trans (congrArg some (by kernel_rfl))
 f217:=Tryz.func163.trans (congrArg some (by kernel_rfl))
 f224:=Tryz.func161.trans (congrArg some (by kernel_rfl))
 f225:=Tryz.func162.trans (congrArg some (by kernel_rfl))
 f227:=Tryz.func127.trans (congrArg some (by kernel_rfl))
 f228:=Tryz.func144.trans (congrArg some (by kernel_rfl))
 f231:=Tryz.func125.trans (congrArg some (by kernel_rfl))
 f232:=Tryz.func126.trans (congrArg some (by kernel_rfl))
 f233:=Tryz.func128.trans (congrArg some (by kernel_rfl))
 f234:=Tryz.func129.trans (congrArg some (by kernel_rfl))
 f235:=Tryz.func130.trans (congrArg some (by kernel_rfl))
 f236:=Tryz.func131.trans (congrArg some (by kernel_rfl))
 f260:=Tryz.func152.trans (congrArg some (by kernel_rfl))
 f266:=Tryz.func164.trans (congrArg some (by kernel_rfl))
 f271:=Tryz.func147.trans (congrArg some (by kernel_rfl))
 t0:=Tryz.underlying0
 a0:=Tryz.isAgg0
 z0:=Tryz.sizeOf0
 v0:=Tryz.zeroValue0
 t3:=Tryz.underlying3
 a3:=Tryz.isAgg3
 z3:=Tryz.sizeOf3
 v3:=Tryz.zeroValue3
 t4:=Tryz.underlying4
 a4:=Tryz.isAgg4
 z4:=Tryz.sizeOf4
 v4:=Tryz.zeroValue4
 t5:=Tryz.underlying5
 a5:=Tryz.isAgg5
 z5:=Tryz.sizeOf5
 v5:=Tryz.zeroValue5
 t9:=Tryz.underlying9
 a9:=Tryz.isAgg9
 z9:=Tryz.sizeOf9
 v9:=Tryz.zeroValue9
 t21:=Tryz.underlying21
 a21:=Tryz.isAgg21
 z21:=Tryz.sizeOf21
 v21:=Tryz.zeroValue21
 t46:=Tryz.underlying145
 a46:=Tryz.isAgg145
 z46:=Tryz.sizeOf145
 v46:=Tryz.zeroValue145
 t105:=Tryz.underlying201
 a105:=Tryz.isAgg201
 z105:=Tryz.sizeOf201
 v105:=Tryz.zeroValue201
 t116:=Tryz.underlying186
 a116:=Tryz.isAgg186
 z116:=Tryz.sizeOf186
 t117:=Tryz.underlying187
 a117:=Tryz.isAgg187
 z117:=Tryz.sizeOf187
 v117:=Tryz.zeroValue187
 t119:=Tryz.underlying219
 a119:=Tryz.isAgg219
 z119:=Tryz.sizeOf219
 t124:=Tryz.underlying190
 a124:=Tryz.isAgg190
 z124:=Tryz.sizeOf190
 v124:=Tryz.zeroValue190
 t138:=Tryz.underlying221
 a138:=Tryz.isAgg221
 z138:=Tryz.sizeOf221
 v138:=Tryz.zeroValue221
 t139:=Tryz.underlying222
 a139:=Tryz.isAgg222
 z139:=Tryz.sizeOf222
 v139:=Tryz.zeroValue222
 g3:=by kernel_rfl
 g4:=by kernel_rfl }
def Tryz.growS_ren:Go.Shelf.Ren:=⟨fun|4=>112|n=>n,fun|22=>28|25=>54|3=>3|4=>4|9=>9|20=>20|0=>0|n=>n,fun|n=>n⟩
theorem Tryz.growS:Go.Proofs.Lays8.n4 Tryz.prog Tryz.growS_ren:={
 mixed:=by kernel_rfl
 f4:=⟨Tryz.f112.name,by decide,Tryz.func112.trans (congrArg some (by kernel_rfl))⟩
 t0:=Tryz.underlying0
 a0:=Tryz.isAgg0
 z0:=Tryz.sizeOf0
 v0:=Tryz.zeroValue0
 t3:=Tryz.underlying3
 a3:=Tryz.isAgg3
 z3:=Tryz.sizeOf3
 v3:=Tryz.zeroValue3
 t4:=Tryz.underlying4
 a4:=Tryz.isAgg4
 z4:=Tryz.sizeOf4
 v4:=Tryz.zeroValue4
 t9:=Tryz.underlying9
 a9:=Tryz.isAgg9
 z9:=Tryz.sizeOf9
 v9:=Tryz.zeroValue9
 t20:=Tryz.underlying20
 a20:=Tryz.isAgg20
 z20:=Tryz.sizeOf20
 v20:=Tryz.zeroValue20
 t22:=Tryz.underlying28
 a22:=Tryz.isAgg28
 z22:=Tryz.sizeOf28
 v22:=Tryz.zeroValue28 }
end Go.Proofs
namespace Go.AM
open Go.Proofs
theorem vs1 {vs:Array Value}{x:PV}{w:World}{Pi:Nat->Nat->Prop}(hsz:vs.size=[x].length)(hr:∀i,i<[x].length->RepP w Pi (vs.getD i undef) ([x].getD i default)):∃a,vs = #[a]/\RepP w Pi a x:=by
 obtain⟨l⟩:=vs
 match l,hsz with
 |[a],_=>exact⟨a,rfl,hr 0 (by simp)⟩
theorem vs2 {vs:Array Value}{x y:PV}{w:World}{Pi:Nat->Nat->Prop}(hsz:vs.size=[x,y].length)(hr:∀i,i<[x,y].length->RepP w Pi (vs.getD i undef) ([x,y].getD i default)) :∃a b,vs = #[a,b]/\RepP w Pi a x/\RepP w Pi b y:=by
 obtain⟨l⟩:=vs
 match l,hsz with
 |[a,b],_=>exact⟨a,b,rfl,hr 0 (by simp),hr 1 (by simp)⟩
theorem Ag0 {w:World}{Pi:Nat->Nat->Prop}{v:Value}{l:List UInt8}(h:RepP w Pi v (.str l)):v=.string ⟨l.toArray⟩:=by cases h;rfl
theorem AF7 {w:World}{Pi:Nat->Nat->Prop}{v x:Value}(h:RepP w Pi v (.v x)):v=x:=by cases h;rfl
theorem AP1 {w:World}{Pi:Nat->Nat->Prop}(h:TabOk Tryz.prog w Pi):TabAt 2 Lib.deBruijn64tab w:=fun j hj=>by obtain⟨s,hs,hn⟩:∃s,Tryz.prog.globals[2]? = some s/\(s.name == "math/bits.deBruijn64tab")=true:=⟨_,rfl,by decide +kernel⟩;refine (h 2 s j (.int .u8 ((Lib.deBruijn64tab.getD j 0:Nat):Int)) hs ?_).1;unfold VX;rw[if_pos hn,List.getElem?_map,List.getElem?_eq_getElem hj];simp[List.getD_eq_getElem?_getD,hj]
theorem Ar6 {P:Program}{f:FuncId}{e:TypeId}{k n:Nat}{i0:TypeInfo}{z:Value}{vw:Bool}{g:Nat->List PV}(hent:∀xs w,(callFunc f xs).run P w=.ok (.enter f xs) w)(hz:z.cells.size=k)(hn:n<=maxLen)
 (h0:∀w,Calls P f #[.slice none 0 0,.int .i64 (0:Nat)] w fun e w'=>e=.returned (.slice none 0 0)/\w' = w)
 (h:∀w,0<n->Calls P f #[.slice none 0 0,.int .i64 n] w fun x w'=>x=.returned (.slice (some ⟨w.heap.size,0,none⟩) 0 (grownCap w (0+n) 0 e)) /\
  w' = w.drew.alloc (.cells (([]:List Value).toArray++Builtin.zeroCells z.cells (0+n-0)++Builtin.zeroCells z.cells (grownCap w (0+n) 0 e-(0+n))) e)) :
 FunO (Ga P) f [.p AH,.p (pI .i64 (n:Int))] [] (.vec 0) [.vec e k 0 g vw] []:=by
 refine SN (args:=[AH,pI .i64 (n:Int)]) hent (fun i hi=>absurd hi (by omega)) fun w Pi vs hb hs hr=>?_;obtain⟨a,b,rfl,ha,hb'⟩:=vs2 hs hr;cases AF7 ha;cases AF7 hb';by_cases hz0:n=0
 ·subst hz0;exact (h0 w).mono fun x w' ⟨he,hw⟩=>⟨_,he,by rw[hw];exact RowKit.Below.refl _ _,.inl ⟨rfl,rfl⟩⟩
 ·refine (h w (by omega)).mono ?_;rintro x w' ⟨he,rfl⟩;have hge:=grownCap_ge w (0+n) 0 e;refine⟨_,he,(RowKit.Below.drew (RowKit.Below.refl _ _)).alloc (Nat.le_refl _) _,.inr ⟨w.heap.size,grownCap w (0+n) 0 e,([]:List Value).toArray++Builtin.zeroCells z.cells (0+n-0)++Builtin.zeroCells z.cells (grownCap w (0+n) 0 e-(0+n)),rfl,Nat.le_refl _,?_,Nat.zero_le _,?_,grownCap_le_maxLen _ _ _ _ (by omega),fun i j hi=>absurd hi (by omega)⟩⟩
  ·show (w.drew.heap.push _)[w.heap.size]? = _
   have:w.drew.heap=w.heap:=rfl
   rw[this];simp
  ·simp only[Builtin.zeroCells,Array.size_append,Array.size_map,Array.size_range,List.size_toArray,List.length_nil,hz];rw[Nat.zero_add,<- Nat.add_mul];congr 1;omega
set_option maxRecDepth 100000 in
theorem libC:Oh (Ga Tryz.prog) where
 attR:=Ve
 attP:=Rf
 tz x:=by refine Hv (args:=[pI .u64 (U x)]) (enters_of Tryz.func158 (by decide +kernel) rfl) fun w Pi vs hT hb hs hr=>?_;obtain⟨a,rfl,ha⟩:=vs1 hs hr;cases AF7 ha;exact (Any7.bits_TrailingZeros64 Tryz.tz x.toNat x.isLt w fun _=>AP1 hT).mono fun e w' ⟨he,hw⟩=>⟨_,he,by rw[hw];exact RowKit.Below.refl _ _,fun _ _=>.p _ _ (.v _)⟩
 trim s c hs hc ha:=by refine Qt (args:=[.str s,.str c]) (enters_of Tryz.func100 (by decide +kernel) rfl) fun w Pi vs hb hs' hr=>?_;obtain⟨a,b,rfl,h1,h2⟩:=vs2 hs' hr;cases Ag0 h1;cases Ag0 h2;refine (Any.strings_Trim_laid Tryz.trim (by kernel_rfl) ⟨s.toArray⟩ ⟨c.toArray⟩ w (by show s.toArray.size<=_;simp;omega) (by show c.toArray.size<_;simp;omega) fun j b hj=>ha b (List.mem_of_getElem? hj)).mono ?_;rintro e w' ⟨he,hbl⟩;exact⟨_,he,hbl,fun _ _=>.p _ _ (.str _)⟩
 growS f n hn:=Ar6 (i0:=(Tryz.prog.info? A4).getD default) (z:=.agg #[.int .u32 0,.int .u32 0]) (enters_of Tryz.func112 (by decide +kernel) rfl) rfl (by unfold maxLen;omega)
  (fun w=>Any8.slices_Grow_room Tryz.growS none 0 0 0 w (by omega) (by omega) (by omega) (by omega))
  (fun w h0=>Any8.slices_Grow_grow Tryz.growS ((Tryz.prog.info? A4).getD default) (.agg #[.int .u32 0,.int .u32 0]) (by kernel_rfl) (by kernel_rfl) (by decide +kernel) none 0 0 n [] w (by omega) (by omega) (Nat.le_trans (Nat.le_of_eq (congrArg (fun b=>(0+n)*b) (show ((Tryz.prog.info? A4).getD default).bytes=8 by kernel_rfl))) (by show (0+n)*8<=_;omega)) (by omega) rfl (fun _=>rfl) (fun a h=>by cases h))
end Go.AM
