/- What a law's walk and its plain proof need, part 8: no condition of its own. -/
import Derived.Shelf.Spec.TrailingZeros
import Derived.Shelf.Spec.SlicesGrow
import Derived.Shelf.Strings.SlTrimAscii
import Derived.Ground.NamesProg
import Derived.Ground.Names7Prog
import Derived.Ground.Names8Prog
import Derived.Test.YtfcfdofmgkpmbaaGreatDoorProg
import Derived.Shelf.Strings.BuilderK
import Derived.Test.YtfcfdofmgkpmbaaGreatDoorNE
import Derived.WalkKit
import Derived.BigCall
import Derived.Shelf.Bits.Mul64
import Derived.Shelf.RegionOpenPlain
import Derived.Deep.LoopGhost
import Derived.Lib.Walk
import Derived.Lib.SliceRun
import Derived.Laws.CopyOwn
import Derived.Test.YtfcfdofmgkpmbaaGreatDoorNG
set_option linter.unusedSimpArgs false
set_option linter.unusedVariables false
set_option linter.unusedSectionVars false
namespace Go.Proofs
open Go.Shelf
def Tryz.tz_ren:Go.Shelf.Ren:=⟨fun|29=>42|n=>n,fun|22=>44|3=>3|4=>4|25=>151|54=>150|0=>0|5=>5|n=>n,fun|1=>0|n=>n⟩
theorem Tryz.tz:Go.Proofs.Lays7.n29 Tryz.prog Tryz.tz_ren:={
 mixed:=by kernel_rfl
 f29:=Tryz.func42.trans (congrArg some (by kernel_rfl))
 t0:=Tryz.underlying0
 a0:=Tryz.isAgg0
 z0:=Tryz.sizeOf0
 v0:=Tryz.zeroValue0
 i0:=by kernel_rfl
 t3:=Tryz.underlying3
 a3:=Tryz.isAgg3
 z3:=Tryz.sizeOf3
 v3:=Tryz.zeroValue3
 i3:=by kernel_rfl
 t4:=Tryz.underlying4
 a4:=Tryz.isAgg4
 z4:=Tryz.sizeOf4
 v4:=Tryz.zeroValue4
 i4:=by kernel_rfl
 t5:=Tryz.underlying5
 a5:=Tryz.isAgg5
 z5:=Tryz.sizeOf5
 v5:=Tryz.zeroValue5
 i5:=by kernel_rfl
 t22:=Tryz.underlying44
 a22:=Tryz.isAgg44
 z22:=Tryz.sizeOf44
 v22:=Tryz.zeroValue44
 i22:=by kernel_rfl
 t25:=Tryz.underlying151
 a25:=Tryz.isAgg151
 z25:=Tryz.sizeOf151
 v25:=Tryz.zeroValue151
 i25:=by kernel_rfl
 t54:=Tryz.underlying150
 a54:=Tryz.isAgg150
 z54:=Tryz.sizeOf150
 g1:=by kernel_rfl }
def Tryz.trim_ren:Go.Shelf.Ren:=⟨fun|160=>147|232=>165|231=>164|227=>166|234=>168|233=>167|236=>170|235=>169|228=>178|271=>181|151=>180|197=>179|120=>188|152=>187|260=>186|137=>192|119=>193|224=>194|225=>195|217=>206|266=>216|n=>n,fun|9=>9|4=>4|3=>3|5=>5|117=>217|116=>216|0=>0|124=>220|21=>21|105=>227|46=>151|119=>235|139=>238|138=>237|n=>n,fun|3=>1|4=>2|n=>n⟩
theorem Tryz.trim:Go.Proofs.Lays.n160 Tryz.prog Tryz.trim_ren:={
 mixed:=by kernel_rfl
 f119:=Tryz.func193.trans (congrArg some (by kernel_rfl))
 f120:=Tryz.func188.trans (congrArg some (by kernel_rfl))
 f137:=Tryz.func192.trans (congrArg some (by kernel_rfl))
 f151:=Tryz.func180.trans (congrArg some (by kernel_rfl))
 f152:=Tryz.func187.trans (congrArg some (by kernel_rfl))
 f160:=Tryz.func147.trans (congrArg some (by kernel_rfl))
 f197:=Tryz.func179.trans (congrArg some (by kernel_rfl))
 f217:=Tryz.func206.trans (congrArg some (by kernel_rfl))
 f224:=Tryz.func194.trans (congrArg some (by kernel_rfl))
 f225:=Tryz.func195.trans (congrArg some (by kernel_rfl))
 f227:=Tryz.func166.trans (congrArg some (by kernel_rfl))
 f228:=Tryz.func178.trans (congrArg some (by kernel_rfl))
 f231:=Tryz.func164.trans (congrArg some (by kernel_rfl))
 f232:=Tryz.func165.trans (congrArg some (by kernel_rfl))
 f233:=Tryz.func167.trans (congrArg some (by kernel_rfl))
 f234:=Tryz.func168.trans (congrArg some (by kernel_rfl))
 f235:=Tryz.func169.trans (congrArg some (by kernel_rfl))
 f236:=Tryz.func170.trans (congrArg some (by kernel_rfl))
 f260:=Tryz.func186.trans (congrArg some (by kernel_rfl))
 f266:=Tryz.func216.trans (congrArg some (by kernel_rfl))
 f271:=Tryz.func181.trans (congrArg some (by kernel_rfl))
 t0:=Tryz.underlying0
 a0:=Tryz.isAgg0
 z0:=Tryz.sizeOf0
 v0:=Tryz.zeroValue0
 t3:=Tryz.underlying3
 a3:=Tryz.isAgg3
 z3:=Tryz.sizeOf3
 v3:=Tryz.zeroValue3
 t4:=Tryz.underlying4
 a4:=Tryz.isAgg4
 z4:=Tryz.sizeOf4
 v4:=Tryz.zeroValue4
 t5:=Tryz.underlying5
 a5:=Tryz.isAgg5
 z5:=Tryz.sizeOf5
 v5:=Tryz.zeroValue5
 t9:=Tryz.underlying9
 a9:=Tryz.isAgg9
 z9:=Tryz.sizeOf9
 v9:=Tryz.zeroValue9
 t21:=Tryz.underlying21
 a21:=Tryz.isAgg21
 z21:=Tryz.sizeOf21
 v21:=Tryz.zeroValue21
 t46:=Tryz.underlying151
 a46:=Tryz.isAgg151
 z46:=Tryz.sizeOf151
 v46:=Tryz.zeroValue151
 t105:=Tryz.underlying227
 a105:=Tryz.isAgg227
 z105:=Tryz.sizeOf227
 v105:=Tryz.zeroValue227
 t116:=Tryz.underlying216
 a116:=Tryz.isAgg216
 z116:=Tryz.sizeOf216
 t117:=Tryz.underlying217
 a117:=Tryz.isAgg217
 z117:=Tryz.sizeOf217
 v117:=Tryz.zeroValue217
 t119:=Tryz.underlying235
 a119:=Tryz.isAgg235
 z119:=Tryz.sizeOf235
 t124:=Tryz.underlying220
 a124:=Tryz.isAgg220
 z124:=Tryz.sizeOf220
 v124:=Tryz.zeroValue220
 t138:=Tryz.underlying237
 a138:=Tryz.isAgg237
 z138:=Tryz.sizeOf237
 v138:=Tryz.zeroValue237
 t139:=Tryz.underlying238
 a139:=Tryz.isAgg238
 z139:=Tryz.sizeOf238
 v139:=Tryz.zeroValue238
 g3:=by kernel_rfl
 g4:=by kernel_rfl }
def Tryz.growS_ren:Go.Shelf.Ren:=⟨fun|4=>210|n=>n,fun|22=>76|25=>87|3=>3|4=>4|9=>9|20=>20|0=>0|n=>n,fun|n=>n⟩
theorem Tryz.growS:Go.Proofs.Lays8.n4 Tryz.prog Tryz.growS_ren:={
 mixed:=by kernel_rfl
 f4:=⟨Tryz.f210.name,by decide,Tryz.func210.trans (congrArg some (by kernel_rfl))⟩
 t0:=Tryz.underlying0
 a0:=Tryz.isAgg0
 z0:=Tryz.sizeOf0
 v0:=Tryz.zeroValue0
 t3:=Tryz.underlying3
 a3:=Tryz.isAgg3
 z3:=Tryz.sizeOf3
 v3:=Tryz.zeroValue3
 t4:=Tryz.underlying4
 a4:=Tryz.isAgg4
 z4:=Tryz.sizeOf4
 v4:=Tryz.zeroValue4
 t9:=Tryz.underlying9
 a9:=Tryz.isAgg9
 z9:=Tryz.sizeOf9
 v9:=Tryz.zeroValue9
 t20:=Tryz.underlying20
 a20:=Tryz.isAgg20
 z20:=Tryz.sizeOf20
 v20:=Tryz.zeroValue20
 t22:=Tryz.underlying76
 a22:=Tryz.isAgg76
 z22:=Tryz.sizeOf76
 v22:=Tryz.zeroValue76 }
end Go.Proofs
namespace Go.Proofs
open Go.Shelf
def Tryz.lays167_ren:Go.Shelf.Ren:=⟨fun|167=>109|240=>138|276=>158|n=>n,fun|0=>0|4=>4|5=>5|9=>9|20=>20|37=>72|70=>165|72=>167|75=>169|80=>171|127=>190|3=>3|164=>207|n=>n,fun n=>n⟩
theorem Tryz.lays167:Go.Proofs.Lays.n167 Tryz.prog Tryz.lays167_ren:={
 mixed:=by kernel_rfl
 f167:=Tryz.func109.trans (congrArg some (by kernel_rfl))
 f240:=Tryz.func138.trans (congrArg some (by kernel_rfl))
 f276:=Tryz.func158.trans (congrArg some (by kernel_rfl))
 t0:=Tryz.underlying0
 a0:=Tryz.isAgg0
 z0:=Tryz.sizeOf0
 v0:=Tryz.zeroValue0
 t4:=Tryz.underlying4
 a4:=Tryz.isAgg4
 z4:=Tryz.sizeOf4
 v4:=Tryz.zeroValue4
 t5:=Tryz.underlying5
 a5:=Tryz.isAgg5
 z5:=Tryz.sizeOf5
 v5:=Tryz.zeroValue5
 t9:=Tryz.underlying9
 a9:=Tryz.isAgg9
 z9:=Tryz.sizeOf9
 v9:=Tryz.zeroValue9
 t20:=Tryz.underlying20
 a20:=Tryz.isAgg20
 z20:=Tryz.sizeOf20
 v20:=Tryz.zeroValue20
 t37:=Tryz.underlying72
 a37:=Tryz.isAgg72
 z37:=Tryz.sizeOf72
 v37:=Tryz.zeroValue72
 t70:=Tryz.underlying165
 a70:=Tryz.isAgg165
 z70:=Tryz.sizeOf165
 v70:=Tryz.zeroValue165
 t72:=Tryz.underlying167
 a72:=Tryz.isAgg167
 z72:=Tryz.sizeOf167
 v72:=Tryz.zeroValue167
 t75:=Tryz.underlying169
 a75:=Tryz.isAgg169
 z75:=Tryz.sizeOf169
 v75:=Tryz.zeroValue169
 t164:=Tryz.underlying207
 a164:=Tryz.isAgg207
 z164:=Tryz.sizeOf207
 v164:=Tryz.zeroValue207 }
theorem Tryz.Builder_Extra_167:Builder.Extra Tryz.prog Tryz.lays167_ren:={
 sizeBuilder:=by kernel_rfl
 liesBuilder:=by kernel_rfl
 t5:=Tryz.underlying5
 a5:=Tryz.isAgg5
 z5:=Tryz.sizeOf5
 v5:=Tryz.zeroValue5
 infoByte:=by kernel_rfl
 cellsByte:=by kernel_rfl
 sizeByte:=by kernel_rfl
 neB5:=by decide }
open Go.RowKit in
theorem Tryz.Builder_WriteByte_k (B b:Nat)(bs:List Value)(c:Int)(w:World)(h:Lib.IsBuilderF 167 5 B b bs w)(hlen:bs.length+1<=140737488355328)(hBw:B<=w.heap.size) :Calls Tryz.prog 109 #[.pointer (some ⟨b,0,none⟩),.int .u8 c] w fun e w'=>e=.returned .nilIface/\(Lib.BuilderAtF 167 5 B b (.pointer (some ⟨b,0,none⟩)) (bs++[.int .u8 c]) w' /\ Below B w w' /\ Lib.OthersKept 5 (some b) w w'):=Any.Builder_WriteByte_k Tryz.lays167 Tryz.Builder_Extra_167 B b bs c w h hlen hBw
def Tryz.lays169_ren:Go.Shelf.Ren:=⟨fun|169=>110|n=>n,fun|70=>165|9=>9|0=>0|72=>167|37=>72|127=>190|3=>3|5=>5|n=>n,fun|n=>n⟩
theorem Tryz.lays169:Go.Proofs.Lays.n169 Tryz.prog Tryz.lays169_ren:={
 mixed:=by kernel_rfl
 f169:=Tryz.func110.trans (congrArg some (by kernel_rfl))
 t0:=Tryz.underlying0
 a0:=Tryz.isAgg0
 z0:=Tryz.sizeOf0
 v0:=Tryz.zeroValue0
 t3:=Tryz.underlying3
 a3:=Tryz.isAgg3
 z3:=Tryz.sizeOf3
 v3:=Tryz.zeroValue3
 t9:=Tryz.underlying9
 a9:=Tryz.isAgg9
 z9:=Tryz.sizeOf9
 v9:=Tryz.zeroValue9
 t37:=Tryz.underlying72
 a37:=Tryz.isAgg72
 z37:=Tryz.sizeOf72
 v37:=Tryz.zeroValue72
 t70:=Tryz.underlying165
 a70:=Tryz.isAgg165
 z70:=Tryz.sizeOf165
 v70:=Tryz.zeroValue165
 t72:=Tryz.underlying167
 a72:=Tryz.isAgg167
 z72:=Tryz.sizeOf167
 v72:=Tryz.zeroValue167
 t127:=Tryz.underlying190
 a127:=Tryz.isAgg190
 z127:=Tryz.sizeOf190
 v127:=Tryz.zeroValue190 }
theorem Tryz.Builder_Extra_169:Builder.Extra Tryz.prog Tryz.lays169_ren:={
 sizeBuilder:=by kernel_rfl
 liesBuilder:=by kernel_rfl
 t5:=Tryz.underlying5
 a5:=Tryz.isAgg5
 z5:=Tryz.sizeOf5
 v5:=Tryz.zeroValue5
 infoByte:=by kernel_rfl
 cellsByte:=by kernel_rfl
 sizeByte:=by kernel_rfl
 neB5:=by decide }
open Go.RowKit in
theorem Tryz.Builder_String_any_f (B b:Nat)(l:List UInt8)(w:World)(h:Lib.IsBuilderF 167 5 B b (Lib.byteCells l) w)(hBw:B<=w.heap.size) :Calls Tryz.prog 110 #[.pointer (some ⟨b,0,none⟩)] w fun e w'=>e=.returned (.string ⟨l.toArray⟩)/\(Lib.IsBuilderF 167 5 B b (Lib.byteCells l) w' /\ Below B w w'):=Any.Builder_String_any_f Tryz.lays169 Tryz.Builder_Extra_169 B b l w h hBw
end Go.Proofs
namespace Go.Proofs
open Go.RowKit Go.AM
theorem AB1 (x:Int)(i:Nat):((byB x i).toNat:Int)=x / 2 ^ (8*i) % 256:=by unfold byB;have h0:0<=x / 2 ^ (8*i) % 256:=Int.emod_nonneg _ (by decide);have h1:x / 2 ^ (8*i) % 256<256:=Int.emod_lt_of_pos _ (by decide);generalize x / 2 ^ (8*i) % 256=y at h0 h1;simp only[UInt8.toNat_ofNat'];omega
theorem Un (s:Int×Int)(q:Nat):Zc s (q+1)=Zc s q++[byB s.1 q,byB s.2 q]:=by simp[Zc,List.range_succ]
theorem Uo (g:Nat->Int×Int)(n:Nat):Xz g (n+1)=Xz g n++Zc (g n) 4:=by simp[Xz,List.range_succ]
theorem XC (s:Int×Int)(q:Nat):(Zc s q).length=2*q:=by
 induction q with
 |zero=>rfl
 |succ q ih=>rw[Un,List.length_append,ih];simp;omega
theorem Aq5 (g:Nat->Int×Int)(n:Nat):(Xz g n).length=8*n:=by
 induction n with
 |zero=>rfl
 |succ q ih=>rw[Uo,List.length_append,ih,XC];omega
theorem Tryz.hid {p:Prop}(h:p):Hid p:=h
set_option maxHeartbeats 4000000 in
set_option maxRecDepth 1000000 in
theorem Tryz.text_walk (n:Nat)(g:Nat->Int×Int)(b off cap:Nat)(w:World)(hn:n*8<=140737488355328)
 (hb:b<w.heap.size) (hcap:n<=cap) (hc0:∀i,i<n->w.cell? ⟨b,off+i*2,none⟩=some (.int .u32 (g i).1)) (hc1:∀i,i<n->w.cell? ⟨b,off+i*2+1,none⟩=some (.int .u32 (g i).2)) :
 Calls Tryz.prog 77 #[.slice (some ⟨b,off,none⟩) n cap,.int .i64 0] w fun r w'=>r=.returned (.string ⟨(Xz g n).toArray⟩)/\Below w.heap.size w w':=by
 go_enter Tryz.func77,Tryz.ntmps77
 go_wp2
 go_loopw [13] (fun i wr=>∃k,k<=n/\i=.int .i64 (k:Nat)/\Hid (Lib.IsBuilderF 167 5 w.heap.size w.heap.size (Lib.byteCells (Xz g k)) wr)/\Hid (Below w.heap.size w wr)) (fun i wr=>n-(intOf i).toNat)
 case atStart=>exact⟨0,Nat.zero_le _,rfl,Tryz.hid (Lib.IsBuilderF.of (Lib.fresh_isBuilder 167 5 w)),Tryz.hid ((Below.refl _ w).alloc (Nat.le_refl _) _)⟩
 case round=>
  obtain⟨k,hk,rfl,HB,HW⟩:=hrel;by_cases hlt:k<n
  ·have h0:=hc0 k hlt;have h1:=hc1 k hlt;have h0' : wr.cell? ⟨b,off+k*2,none⟩=some (.int .u32 (g k).1):=by rw[HW.out.cell (p:=⟨b,off+k*2,none⟩) hb];exact h0
   have h1' : wr.cell? ⟨b,off+k*2+1,none⟩=some (.int .u32 (g k).2):=by rw[HW.out.cell (p:=⟨b,off+k*2+1,none⟩) hb];exact h1
   generalize wr=W0 at HB HW h0' h1'⊢
   go_wp2
   have HB0:Lib.IsBuilderF 167 5 w.heap.size w.heap.size (Lib.byteCells (Xz g k++Zc (g k) 0)) (W0.alloc (.cells #[.int .u32 (g k).1,.int .u32 (g k).2] 87)):=by rw[show Zc (g k) 0=[] from rfl,List.append_nil];exact HB.out.alloc _
   go_loopw [17] (fun i wr2=>∃q,q<=4/\i=.int .i64 (q:Nat)/\Hid (Lib.IsBuilderF 167 5 w.heap.size w.heap.size (Lib.byteCells (Xz g k++Zc (g k) q)) wr2)/\Hid (Below w.heap.size w wr2)/\Hid (wr2.heap[W0.heap.size]? = some (.cells #[.int .u32 (g k).1,.int .u32 (g k).2] 87 (0,0)))) (fun i _=>4-(intOf i).toNat)
   case atStart=>exact⟨0,by omega,rfl,Tryz.hid HB0,Tryz.hid (HW.out.alloc HW.out.size _),Tryz.hid (heap_alloc_new W0 _)⟩
   case round=>
    obtain⟨q,hq,rfl,HB2,HW2,HC⟩:=hrel;have hwr:w.heap.size<W0.heap.size:=by rcases HB.out with h|h<;>exact h.lt
    have d0:wr.cell? ⟨W0.heap.size,0,none⟩=some (.int .u32 (g k).1):=by rw[Lib.cell_of_heap HC.out];rfl
    have d1:wr.cell? ⟨W0.heap.size,1,none⟩=some (.int .u32 (g k).2):=by rw[Lib.cell_of_heap HC.out];rfl
    by_cases hq4:q<4
    ·have hl:(Xz g k++Zc (g k) q).length+2<=140737488355328:=by rw[List.length_append,Aq5,XC];omega
     go_wp2_with (go_at_call 109;refine (Tryz.Builder_WriteByte_k w.heap.size w.heap.size _ _ _ HB2.out (by rw[Lib.byteCells_length];omega) HW2.out.size).mono ?_)
     rintro e W1 ⟨rfl,g1,b1,k1⟩;have HC1:=k1 _ _ HC.out (by simp;omega) (by intro c fz h;cases h);have d1' : W1.cell? ⟨W0.heap.size,1,none⟩=some (.int .u32 (g k).2):=by rw[Lib.cell_of_heap HC1];rfl
     have b1':=HW2.out.trans b1
     go_wp2_with (go_at_call 109;refine (Tryz.Builder_WriteByte_k w.heap.size w.heap.size _ _ _ (Or.inr g1) (by rw[List.length_append,Lib.byteCells_length];simp only[List.length_singleton];omega) b1'.size).mono ?_)
     rintro e W2 ⟨rfl,g2,b2,k2⟩;have HC2:=k2 _ _ HC1 (by simp;omega) (by intro c fz h;cases h);have b2':=b1'.trans b2;have g2' : Lib.IsBuilderF 167 5 w.heap.size w.heap.size (Lib.byteCells (Xz g k++Zc (g k) (q+1))) W2:=by
      refine Or.inr ?_;have e:Lib.byteCells (Xz g k++Zc (g k) (q+1))=Lib.byteCells (Xz g k++Zc (g k) q)++[.int .u8 ((g k).1 / 2 ^ (8*q) % 256)]++[.int .u8 ((g k).2 / 2 ^ (8*q) % 256)]:=by rw[Un];simp[Lib.byteCells,AB1]
      rw[e];exact g2
     have G2:=Tryz.hid g2';have B2:=Tryz.hid b2';have C2:=Tryz.hid HC2;clear g1 g2 g2' b1 b2 b1' b2' k1 k2 HC1 HC2
     go_wp2
     exact⟨⟨q+1,by omega,rfl,G2,B2,C2⟩,by simp[intOf];omega⟩
    ·have:q=4:=by omega
     subst this;have G4:Hid (Lib.IsBuilderF 167 5 w.heap.size w.heap.size (Lib.byteCells (Xz g (k+1))) wr):=by rw[Uo];exact HB2
     go_wp2
     exact⟨⟨k+1,by omega,rfl,G4,HW2⟩,by simp[intOf];omega⟩
  ·have hke:k=n:=by omega
   subst hke
   go_wp2_with (go_at_call 110;refine (Tryz.Builder_String_any_f w.heap.size w.heap.size _ _ HB.out HW.out.size).mono ?_)
   rintro e W5 ⟨rfl,_,b5⟩
   go_wp2
   go_ret
   exact⟨rfl,HW.out.trans b5⟩
set_option maxHeartbeats 4000000 in
set_option maxRecDepth 1000000 in
theorem Tryz.text_walk0 (base:Option Addr)(cap:Nat)(w:World) :Calls Tryz.prog 77 #[.slice base 0 cap,.int .i64 0] w fun r w'=>r=.returned (.string ⟨#[]⟩)/\Below w.heap.size w w':=by
 go_enter Tryz.func77,Tryz.ntmps77
 go_wp2
 go_loopw [13] (fun i wr=>i=.int .i64 (0:Nat)/\Hid (Lib.IsBuilderF 167 5 w.heap.size w.heap.size (Lib.byteCells []) wr)/\Hid (Below w.heap.size w wr)) (fun i wr=>0)
 case atStart=>exact⟨rfl,Tryz.hid (Lib.IsBuilderF.of (Lib.fresh_isBuilder 167 5 w)),Tryz.hid ((Below.refl _ w).alloc (Nat.le_refl _) _)⟩
 case round=>
  obtain⟨rfl,HB,HW⟩:=hrel
  go_wp2_with (go_at_call 110;refine (Tryz.Builder_String_any_f w.heap.size w.heap.size _ _ HB.out HW.out.size).mono ?_)
  rintro e W5 ⟨rfl,_,b5⟩
  go_wp2
  go_ret
  exact⟨rfl,HW.out.trans b5⟩
set_option maxHeartbeats 4000000 in
theorem Tryz.text_walkE (v:Value)(e:Int)(he:e≠0)(w:World) :Calls Tryz.prog 77 #[v,.int .i64 e] w fun r w'=>r=.returned (.string ⟨#[45]⟩)/\Below w.heap.size w w':=by
 have he' : (e==0)=false:=beq_eq_false_iff_ne.2 he
 go_enter Tryz.func77,Tryz.ntmps77
 go_wp2
 go_ret
 exact⟨rfl,(Below.refl _ w).alloc (Nat.le_refl _) _⟩
end Go.Proofs
namespace Go.Proofs
open Go.Shelf Go.RowKit Go.Lib
def Tryz.mul_ren:Go.Shelf.Ren:=⟨fun|212=>95|263=>129|264=>130|n=>n,fun|46=>151|53=>44|51=>85|146=>186|148=>188|n=>n,fun n=>n⟩
theorem Tryz.mulL:Go.Proofs.Lays.n212 Tryz.prog Tryz.mul_ren:={
 mixed:=by kernel_rfl
 f212:=Tryz.func95.trans (congrArg some (by kernel_rfl))
 f263:=Tryz.func129.trans (congrArg some (by kernel_rfl))
 f264:=Tryz.func130.trans (congrArg some (by kernel_rfl))
 t46:=Tryz.underlying151
 a46:=Tryz.isAgg151
 z46:=Tryz.sizeOf151
 v46:=Tryz.zeroValue151
 t51:=Tryz.underlying85
 a51:=Tryz.isAgg85
 z51:=Tryz.sizeOf85
 v51:=Tryz.zeroValue85
 t53:=Tryz.underlying44
 a53:=Tryz.isAgg44
 z53:=Tryz.sizeOf44
 v53:=Tryz.zeroValue44
 t146:=Tryz.underlying186
 a146:=Tryz.isAgg186
 z146:=Tryz.sizeOf186
 v146:=Tryz.zeroValue186
 t148:=Tryz.underlying188
 a148:=Tryz.isAgg188
 z148:=Tryz.sizeOf188
 v148:=Tryz.zeroValue188 }
theorem Tryz.bits_Mul (y:Nat)(hy:y<18446744073709551616)(w:World):Calls Tryz.prog 95 #[.int .u64 1,.int .u64 y] w fun e w'=>e=.returned (.tuple #[.int .u64 0,.int .u64 y])/\w' = w:=by have h:=Any.bits_Mul Tryz.mulL 1 y (by omega) hy w;rw[Nat.one_mul,Nat.div_eq_of_lt hy,Nat.mod_eq_of_lt hy]at h;exact h
theorem HX (c m k:Nat)(v z:Value)(h:m+k<=c):splice (List.replicate m v++List.replicate (c-m) z) m (List.replicate k v)=List.replicate (m+k) v++List.replicate (c-(m+k)) z:=by unfold splice;rw[List.take_append_of_le_length (by simp),List.take_of_length_le (by simp),List.drop_append,List.drop_eq_nil_of_le (by simp)];simp only[List.length_replicate,List.nil_append,List.drop_replicate,<- List.append_assoc,List.replicate_append_replicate];congr 2;omega
set_option maxHeartbeats 4000000 in
set_option maxRecDepth 100000 in
theorem Tryz.rep_int (b off cap c:Nat)(v0:Value)(hv1:v0.oneCell' = true)(w:World)(hc:w.cell? ⟨b,off,none⟩=some v0)(hbig:c*8<=140737488355328) :Calls Tryz.prog 47 #[.slice (some ⟨b,off,none⟩) 1 cap,.int .i64 c] w fun e w'=>
  e=.returned (.slice (some ⟨w.heap.size,0,none⟩) c c)/\Below w.heap.size w w' /\ w'.heap[w.heap.size]? = some (.cells (List.replicate c v0).toArray 3 (0,0)):=by
 have hMul:=Tryz.bits_Mul c (by omega) w;have A:Aside (w.cell? ⟨b,off,none⟩=some v0):=hc;clear hc;have hb0:¬((c:Int)<0):=by omega
 have hwc:IntKind.u64.wrap (c:Int)=c:=by rw[IntKind.wrap_u64];omega
 have hwi:IntKind.i64.wrap (c:Int)=c:=by rw[IntKind.wrap_i64];omega
 have hlo:¬((9223372036854775807:Int)<(c:Int)):=by omega
 have hmk:∀w:World,(Instr.makeSlice 29 (.int .i64 (c:Int)) (.int .i64 (c:Int))).run Tryz.prog w=.ok (.slice (some ⟨w.heap.size,0,none⟩) c c) (w.alloc (.cells (List.replicate c (Value.int .i64 0)).toArray 3)):=fun w=>by
  obtain⟨i,hi,h0,h1,h2⟩:∃i,Tryz.prog.info? 3=some i/\i.zero=some (Value.int .i64 0)/\i.size=1/\i.bytes=8:=⟨_,rfl,rfl,rfl,rfl⟩;rw[run_make (P:=Tryz.prog) w 29 3 i _ Tryz.underlying29 hi h0 .i64 .i64 c c (by omega) (Int.le_refl _) (by rw[h2];omega) (by omega)];rw[h1,Int.toNat_natCast];congr 3;rw[Nat.mul_one];apply Array.ext
  ·simp[madeCells]
  ·intro k h1 h2;have hk:k % 1=0:=Nat.mod_one k;simp[madeCells,Value.cells,hk]
 go_enter Tryz.func47,Tryz.ntmps47
 go_wp2_with (first
  |(refine Calls.mono hMul ?_;rintro e w' ⟨rfl,hw⟩;subst w')
  |refine wpList_copy_splice rfl _ _ 29 29 rfl 3 Tryz.underlying29 (by kernel_rfl) (some ⟨w.heap.size,0,none⟩) (some ⟨b,off,none⟩) c c 1 cap rfl rfl w.heap.size 0 (List.replicate c (.int .i64 0)) 3 ?q1 (List.replicate (min 1 c) v0) (by simp) ?q2 ?q3 ?q4 w.heap.size w ?q5 (Nat.le_refl _) ?_)
 case q1=>show (w.heap.push _)[w.heap.size]? = _;rw[Array.getElem?_push_size];simp only[List.toArray_replicate]
 case q2=>
  intro h0;intro j v hj;have hj0:=(List.getElem?_eq_some_iff.1 hj).1;rw[List.length_replicate]at hj0;obtain rfl:j=0:=by omega
  rw[Nat.add_zero];refine Lib.cell?_alloc_some _ ?_;rw[A.out];rw[List.getElem?_replicate,if_pos h0]at hj;exact hj
 case q3=>simp;omega
 case q4=>intro v hv;rw[List.eq_of_mem_replicate hv];exact hv1
 case q5=>exact (Below.refl _ w).alloc (Nat.le_refl _) _
 intro w2 hg2 hb2;have hr0:w2.heap[w.heap.size]? = some (.cells (List.replicate (min 1 c) v0++List.replicate (c-min 1 c) (Value.int .i64 0)).toArray 3 (0,0)):=by have e:=HX c 0 (min 1 c) v0 (Value.int .i64 0) (by omega);rw[List.replicate_zero,List.nil_append,Nat.sub_zero,Nat.zero_add]at e;rw[<- e];exact hg2
 clear hg2 hMul hmk A
 go_wp2
 go_loopg [8] c (fun k s8 wr=>∃m:Nat,s8=.int .i64 m/\m<=c/\(0<c->0<m)/\c-m<=k/\wr.heap[w.heap.size]? = some (.cells (List.replicate m v0++List.replicate (c-m) (Value.int .i64 0)).toArray 3 (0,0))/\Below w.heap.size w wr)
 case atStart=>exact⟨min 1 c,rfl,by omega,by omega,by omega,hr0,hb2⟩
 case round=>
  obtain⟨m,rfl,hm,h0,hk,hrow,hb⟩:=hrel;have A:Aside (wr.heap[w.heap.size]? = some (.cells (List.replicate m v0++List.replicate (c-m) (Value.int .i64 0)).toArray 3 (0,0))/\Below w.heap.size w wr/\(0<c->0<m)/\c-m<=gk):=⟨hrow,hb,h0,hk⟩;clear hrow hb h0 hk hr0 hb2;by_cases hlt:m<c
  ·have hlt' : (m:Int)<c:=by omega
   obtain⟨hrow,hb,h0,hk⟩:=A.out;have B:Aside ((0<c->0<m)/\c-m<=gk):=⟨h0,hk⟩;have hcur:(List.replicate m v0++List.replicate (c-m) (Value.int .i64 0)).length=c:=by simp;omega
   have hsrc:∀j v,(List.replicate (min m (c-m)) v0)[j]? = some v->wr.cell? ⟨w.heap.size,j,none⟩=some v:=by
    intro j v hj;have hj0:=(List.getElem?_eq_some_iff.1 hj).1;rw[List.length_replicate]at hj0;have hjm:j<m:=by omega
    rw[List.getElem?_replicate,if_pos hj0]at hj;simp only[World.cell?,hrow];rw[List.getElem?_toArray,List.getElem?_append_left (by rw[List.length_replicate];exact hjm),List.getElem?_replicate,if_pos hjm];exact hj
   have S:Aside (∀j v,(List.replicate (min m (c-m)) v0)[j]? = some v->wr.cell? ⟨w.heap.size,j,none⟩=some v):=hsrc;clear hsrc;have mixed:Tryz.prog.follows .mixedOrders=true:=by kernel_rfl
   have hne:¬(c=m):=by omega
   clear hrow hb h0 hk;have hm64:(m:Int)<=c:=by omega
   go_wp2_with fail
   go_region_law_o (refine step_copy_splice rfl (.tmp 41) (.tmp 44) 29 29 rfl 3 Tryz.underlying29 (by kernel_rfl) (some ⟨w.heap.size,m,none⟩) (some ⟨w.heap.size,0,none⟩) (c-m) (c-m) m c (by simp[Act.eval,Act.put]) (by simp[Act.eval,Act.put]) w.heap.size m _ 3 A.out.1 (List.replicate (min m (c-m)) v0) (by simp) (fun _=>⟨rfl,_,rfl,fun j v hj=>by rw[Addr.add_lit,Nat.zero_add];exact S.out j v hj⟩) (by rw[hcur];simp;omega) (by intro v hv;rw[List.eq_of_mem_replicate hv];exact hv1) w.heap.size w A.out.2.1.drew (Nat.le_refl _) ?_;intro w4 hg4 hb4)
   have hws:IntKind.i64.wrap ((m:Int)+((min m (c-m):Nat):Int))=((m+min m (c-m):Nat):Int):=by rw[IntKind.wrap_i64];omega
   have hrow2:w4.heap[w.heap.size]? = some (.cells (List.replicate (m+min m (c-m)) v0++List.replicate (c-(m+min m (c-m))) (Value.int .i64 0)).toArray 3 (0,0)):=by rw[<- HX c m (min m (c-m)) v0 (Value.int .i64 0) (by omega)];exact hg4
   obtain⟨h0,hk⟩:=B.out;have hb5:=hb4;have R:Aside (w4.heap[w.heap.size]? = some (.cells (List.replicate (m+min m (c-m)) v0++List.replicate (c-(m+min m (c-m))) (Value.int .i64 0)).toArray 3 (0,0))/\Below w.heap.size w w4):=⟨hrow2,hb5⟩;clear hrow2 hb5 hg4 hb4
   go_wp2
   go_roundg (c-(m+min m (c-m)))
   case measure=>omega
   case rel=>exact⟨m+min m (c-m),by simp only[hws],by omega,by omega,Nat.le_refl _,R.out.1,R.out.2⟩
  ·have hlt' : ¬(m:Int)<c:=by omega
   go_wp2
   go_ret
   obtain⟨h1,h2,h3,h4⟩:=A.out;obtain rfl:m=c:=by omega
   refine⟨rfl,h2,?_⟩;simpa using h1
set_option maxHeartbeats 4000000 in
set_option maxRecDepth 100000 in
theorem Tryz.rep_word (b off cap c:Nat)(v0:Value)(hv1:v0.oneCell' = true)(w:World)(hc:w.cell? ⟨b,off,none⟩=some v0)(hbig:c*24<=140737488355328) :Calls Tryz.prog 50 #[.slice (some ⟨b,off,none⟩) 1 cap,.int .i64 c] w fun e w'=>
  e=.returned (.slice (some ⟨w.heap.size,0,none⟩) c c)/\Below w.heap.size w w' /\ w'.heap[w.heap.size]? = some (.cells (List.replicate c v0).toArray 76 (0,0)):=by
 have hMul:=Tryz.bits_Mul c (by omega) w;have A:Aside (w.cell? ⟨b,off,none⟩=some v0):=hc;clear hc;have hb0:¬((c:Int)<0):=by omega
 have hwc:IntKind.u64.wrap (c:Int)=c:=by rw[IntKind.wrap_u64];omega
 have hwi:IntKind.i64.wrap (c:Int)=c:=by rw[IntKind.wrap_i64];omega
 have hlo:¬((9223372036854775807:Int)<(c:Int)):=by omega
 have hmk:∀w:World,(Instr.makeSlice 59 (.int .i64 (c:Int)) (.int .i64 (c:Int))).run Tryz.prog w=.ok (.slice (some ⟨w.heap.size,0,none⟩) c c) (w.alloc (.cells (List.replicate c (Value.slice none 0 0)).toArray 76)):=fun w=>by
  obtain⟨i,hi,h0,h1,h2⟩:∃i,Tryz.prog.info? 76=some i/\i.zero=some (Value.slice none 0 0)/\i.size=1/\i.bytes=24:=⟨_,rfl,rfl,rfl,rfl⟩;rw[run_make (P:=Tryz.prog) w 59 76 i _ Tryz.underlying59 hi h0 .i64 .i64 c c (by omega) (Int.le_refl _) (by rw[h2];omega) (by omega)];rw[h1,Int.toNat_natCast];congr 3;rw[Nat.mul_one];apply Array.ext
  ·simp[madeCells]
  ·intro k h1 h2;have hk:k % 1=0:=Nat.mod_one k;simp[madeCells,Value.cells,hk]
 go_enter Tryz.func50,Tryz.ntmps50
 go_wp2_with (first
  |(refine Calls.mono hMul ?_;rintro e w' ⟨rfl,hw⟩;subst w')
  |refine wpList_copy_splice rfl _ _ 59 59 rfl 76 Tryz.underlying59 (by kernel_rfl) (some ⟨w.heap.size,0,none⟩) (some ⟨b,off,none⟩) c c 1 cap rfl rfl w.heap.size 0 (List.replicate c (.slice none 0 0)) 76 ?q1 (List.replicate (min 1 c) v0) (by simp) ?q2 ?q3 ?q4 w.heap.size w ?q5 (Nat.le_refl _) ?_)
 case q1=>show (w.heap.push _)[w.heap.size]? = _;rw[Array.getElem?_push_size];simp only[List.toArray_replicate]
 case q2=>
  intro h0;intro j v hj;have hj0:=(List.getElem?_eq_some_iff.1 hj).1;rw[List.length_replicate]at hj0;obtain rfl:j=0:=by omega
  rw[Nat.add_zero];refine Lib.cell?_alloc_some _ ?_;rw[A.out];rw[List.getElem?_replicate,if_pos h0]at hj;exact hj
 case q3=>simp;omega
 case q4=>intro v hv;rw[List.eq_of_mem_replicate hv];exact hv1
 case q5=>exact (Below.refl _ w).alloc (Nat.le_refl _) _
 intro w2 hg2 hb2;have hr0:w2.heap[w.heap.size]? = some (.cells (List.replicate (min 1 c) v0++List.replicate (c-min 1 c) (Value.slice none 0 0)).toArray 76 (0,0)):=by have e:=HX c 0 (min 1 c) v0 (Value.slice none 0 0) (by omega);rw[List.replicate_zero,List.nil_append,Nat.sub_zero,Nat.zero_add]at e;rw[<- e];exact hg2
 clear hg2 hMul hmk A
 go_wp2
 go_loopg [8] c (fun k s8 wr=>∃m:Nat,s8=.int .i64 m/\m<=c/\(0<c->0<m)/\c-m<=k/\wr.heap[w.heap.size]? = some (.cells (List.replicate m v0++List.replicate (c-m) (Value.slice none 0 0)).toArray 76 (0,0))/\Below w.heap.size w wr)
 case atStart=>exact⟨min 1 c,rfl,by omega,by omega,by omega,hr0,hb2⟩
 case round=>
  obtain⟨m,rfl,hm,h0,hk,hrow,hb⟩:=hrel;have A:Aside (wr.heap[w.heap.size]? = some (.cells (List.replicate m v0++List.replicate (c-m) (Value.slice none 0 0)).toArray 76 (0,0))/\Below w.heap.size w wr/\(0<c->0<m)/\c-m<=gk):=⟨hrow,hb,h0,hk⟩;clear hrow hb h0 hk hr0 hb2;by_cases hlt:m<c
  ·have hlt' : (m:Int)<c:=by omega
   obtain⟨hrow,hb,h0,hk⟩:=A.out;have B:Aside ((0<c->0<m)/\c-m<=gk):=⟨h0,hk⟩;have hcur:(List.replicate m v0++List.replicate (c-m) (Value.slice none 0 0)).length=c:=by simp;omega
   have hsrc:∀j v,(List.replicate (min m (c-m)) v0)[j]? = some v->wr.cell? ⟨w.heap.size,j,none⟩=some v:=by
    intro j v hj;have hj0:=(List.getElem?_eq_some_iff.1 hj).1;rw[List.length_replicate]at hj0;have hjm:j<m:=by omega
    rw[List.getElem?_replicate,if_pos hj0]at hj;simp only[World.cell?,hrow];rw[List.getElem?_toArray,List.getElem?_append_left (by rw[List.length_replicate];exact hjm),List.getElem?_replicate,if_pos hjm];exact hj
   have S:Aside (∀j v,(List.replicate (min m (c-m)) v0)[j]? = some v->wr.cell? ⟨w.heap.size,j,none⟩=some v):=hsrc;clear hsrc;have mixed:Tryz.prog.follows .mixedOrders=true:=by kernel_rfl
   have hne:¬(c=m):=by omega
   clear hrow hb h0 hk;have hm64:(m:Int)<=c:=by omega
   go_wp2_with fail
   go_region_law_o (refine step_copy_splice rfl (.tmp 41) (.tmp 44) 59 59 rfl 76 Tryz.underlying59 (by kernel_rfl) (some ⟨w.heap.size,m,none⟩) (some ⟨w.heap.size,0,none⟩) (c-m) (c-m) m c (by simp[Act.eval,Act.put]) (by simp[Act.eval,Act.put]) w.heap.size m _ 76 A.out.1 (List.replicate (min m (c-m)) v0) (by simp) (fun _=>⟨rfl,_,rfl,fun j v hj=>by rw[Addr.add_lit,Nat.zero_add];exact S.out j v hj⟩) (by rw[hcur];simp;omega) (by intro v hv;rw[List.eq_of_mem_replicate hv];exact hv1) w.heap.size w A.out.2.1.drew (Nat.le_refl _) ?_;intro w4 hg4 hb4)
   have hws:IntKind.i64.wrap ((m:Int)+((min m (c-m):Nat):Int))=((m+min m (c-m):Nat):Int):=by rw[IntKind.wrap_i64];omega
   have hrow2:w4.heap[w.heap.size]? = some (.cells (List.replicate (m+min m (c-m)) v0++List.replicate (c-(m+min m (c-m))) (Value.slice none 0 0)).toArray 76 (0,0)):=by rw[<- HX c m (min m (c-m)) v0 (Value.slice none 0 0) (by omega)];exact hg4
   obtain⟨h0,hk⟩:=B.out;have hb5:=hb4;have R:Aside (w4.heap[w.heap.size]? = some (.cells (List.replicate (m+min m (c-m)) v0++List.replicate (c-(m+min m (c-m))) (Value.slice none 0 0)).toArray 76 (0,0))/\Below w.heap.size w w4):=⟨hrow2,hb5⟩;clear hrow2 hb5 hg4 hb4
   go_wp2
   go_roundg (c-(m+min m (c-m)))
   case measure=>omega
   case rel=>exact⟨m+min m (c-m),by simp only[hws],by omega,by omega,Nat.le_refl _,R.out.1,R.out.2⟩
  ·have hlt' : ¬(m:Int)<c:=by omega
   go_wp2
   go_ret
   obtain⟨h1,h2,h3,h4⟩:=A.out;obtain rfl:m=c:=by omega
   refine⟨rfl,h2,?_⟩;simpa using h1
end Go.Proofs
