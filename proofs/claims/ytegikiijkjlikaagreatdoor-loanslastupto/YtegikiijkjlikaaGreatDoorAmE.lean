/- What a law's walk and its plain proof need, part 5: no condition of its own. -/
import Derived.Test.YtegikiijkjlikaaGreatDoorAmD
import Derived.Test.YtegikiijkjlikaaGreatDoorAmC
import Derived.RecoverIn
import Derived.Test.YtegikiijkjlikaaGreatDoorProg
import Derived.Lib.SlTrimSet
import Derived.TacticsInMore
set_option linter.unusedSimpArgs false
set_option linter.unusedVariables false
set_option linter.unusedSectionVars false
set_option linter.unusedVariables false
namespace Go.AM
def BZ9 (D:List Deferred) (a:Act):Act:={ a with defers:=a.defers ++ D }
theorem Ar2 (D:List Deferred) (a:Act) (d:Option Tmp) (v:Value):(BZ9 D a).put d v=BZ9 D (a.put d v):=by cases d <;> rfl
theorem AH3 {F:Fence} {n:Nat} {P:Program} {ops:Array Oper} {Q:Exit->Act->World->Prop} (D:List Deferred):∀ (l:List Nat) (a:Act) (w:World),wpOpsIn F n P ops Q l a w ->
 wpOpsIn F n P ops (fun e a' w'=>∃ a0,a' = BZ9 D a0/\Q e a0 w') l (BZ9 D a) w
 | [],a,w,h=>⟨a,rfl,h⟩
 | i :: l,a,w,h=>by
  have ih:=AH3 (F:=F) (n:=n) (P:=P) (ops:=ops) (Q:=Q) D l
  simp only [wpOpsIn] at h ⊢
  have e1:(BZ9 D a).eval=a.eval:=by funext x;cases x <;> rfl
  have e2:(BZ9 D a).tmps=a.tmps:=rfl
  cases ho:ops[i]? with
  | none=>simp only [ho] at h ⊢;exact ih a w h
  | some o=>
   simp only [ho] at h ⊢
   rw [e2,e1]
   by_cases hw:Region.wanted o (yielded ops a.tmps)=true
   ·rw [if_pos hw] at h ⊢
    refine ⟨by rw [e1];exact h.1, ?_⟩
    have h2:=h.2
    rw [e1]
    generalize (o.semAt F.round a.eval).run P w=r at h2
    unfold Oper.uponIn at h2 ⊢
    split at h2
    ·rw [Ar2];exact ih _ _ h2
    ·rw [Ar2];exact ih _ _ h2
    ·exact ih _ _ h2 |> fun x=>by
      rename_i d w'
      have:({ (BZ9 D a) with defers:=d :: (BZ9 D a).defers }:Act).put o.dst undef=BZ9 D (({ a with defers:=d :: a.defers }:Act).put o.dst undef):=by rw [<- Ar2];rfl
      rw [this];exact x
    ·refine ⟨h2.1,h2.2.mono ?_⟩
     intro e w' he
     cases e with
     | returned v=>have:=ih _ _ he;rw [<- Ar2] at this;exact this
     | panicked ch=>exact ⟨a,rfl,he⟩
     | outgrown=>obtain ⟨a1,w1,h3⟩:=he;exact ⟨BZ9 D a1,w1,a1,rfl,h3⟩
    ·refine ⟨h2.1,fun c cs hr=>?_⟩
     obtain ⟨v,w',g1,g2⟩:=h2.2 c cs hr
     exact ⟨v,w',by have:=ih _ _ g1;rw [<- Ar2] at this;exact this,g2⟩
    ·refine ⟨h2.1,h2.2.mono ?_⟩
     intro e w' he
     cases e with
     | returned v=>have:=ih _ _ he;rw [<- Ar2] at this;exact this
     | panicked ch=>exact ⟨a,rfl,he⟩
     | outgrown=>obtain ⟨a1,w1,h3⟩:=he;exact ⟨BZ9 D a1,w1,a1,rfl,h3⟩
    ·exact ⟨a,rfl,h2⟩
    ·exact h2.elim
   ·rw [if_neg hw] at h ⊢
    rw [Ar2]
    exact ⟨h.1,ih _ _ h.2⟩
section
variable {P:Program} {C:Ctx} {st:St} {rho:Nat->Value}
theorem Ar3 {fn:Func} {R:Ending->World->Prop} {u:FrameMode} (hu:u ≠ .run) {tmps:Array Value} {D:List Deferred} (hfin:∀ a w,Sat C st a w rho->a.tmps=tmps->LeavesInM Fence.wide 0 P fn tmps R D u w) :
 ∀ (ds:List Deferred) (a:Act) (w:World),a.defers=ds->a.tmps=tmps->Sat C st a w rho->LeavesInM Fence.wide 0 P fn tmps R (ds ++ D) u w
 | [],a,w,hd,ht,h=>hfin a w h ht
 | d :: ds,a,w,hd,ht,h=>by
  obtain ⟨r,w',h1,h2,h3⟩:=h.unmark hd
  exact ⟨hu, .inl ⟨r,w',h1,h2,Ar3 hu hfin ds { a with defers:=ds } w' rfl ht h3⟩⟩
end
end Go.AM
set_option linter.unusedVariables false
namespace Go.AM
structure G0 where
 First:Int
 Last:Int
 deriving Inhabited,DecidableEq
abbrev Al3 (x:G0):List PV:=[(pI .i64 x.First),(pI .i64 x.Last)]
structure S4 where
 First:Int
 Last:Int
 deriving Inhabited,DecidableEq
abbrev BR0 (x:S4):List PV:=[(pI .i64 x.First),(pI .i64 x.Last)]
structure Sound where
 Plus:Int
 Minus:Int
 deriving Inhabited,DecidableEq
abbrev A0 (x:Sound):List PV:=[(pI .u32 x.Plus),(pI .u32 x.Minus)]
structure O1 where
 From:(Sl Sound)
 To:(Sl Sound)
 deriving Inhabited
abbrev D5 (x:O1):List PV:=[(vSl 2 A0 x.From),(vSl 2 A0 x.To)]
inductive Pat where
 | nil
 | mk (Kind:Int) (Is:Sound) (Not:Bool) (Min:Int) (Max:Int) (n:Nat) (g:Nat->Pat)
instance:Inhabited Pat:=⟨.nil⟩
def Pat.Kind:Pat->Int
 | .nil=>0
 | .mk x _ _ _ _ _ _=>x
def Pat.Is:Pat->Sound
 | .nil=>default
 | .mk _ x _ _ _ _ _=>x
def Pat.Not:Pat->Bool
 | .nil=>false
 | .mk _ _ x _ _ _ _=>x
def Pat.Min:Pat->Int
 | .nil=>0
 | .mk _ _ _ x _ _ _=>x
def Pat.Max:Pat->Int
 | .nil=>0
 | .mk _ _ _ _ x _ _=>x
def Pat.L:Pat->Sl Pat
 | .nil=>⟨0,fun _=>.nil⟩
 | .mk _ _ _ _ _ n g=>⟨n,g⟩
def Ao7:Pat->Nat->List PV
 | .nil=>fun _=>[]
 | .mk _ _ _ _ _ n g=>fun i=>[(pI .i64 (g i).Kind),(pI .u32 (g i).Is.Plus),(pI .u32 (g i).Is.Minus),(.bb (g i).Not),(pI .i64 (g i).Min),(pI .i64 (g i).Max),(.sl false 7 (g i).L.n (Ao7 (g i)))]
abbrev C6 (x:Pat):List PV:=[(pI .i64 x.Kind),(pI .u32 x.Is.Plus),(pI .u32 x.Is.Minus),(.bb x.Not),(pI .i64 x.Min),(pI .i64 x.Max),(.sl false 7 x.L.n (Ao7 x))]
theorem Af3 (x:Pat):∀ i,i < x.L.n->Ao7 x i=C6 (x.L.g i):=by
 cases x with
 | nil=>intro i hi;exact absurd (show i < 0 from hi) (by omega)
 | mk Kind Is Not Min Max n g=>exact fun _ _=>rfl
structure Ad8 where
 From:Int
 Clear:Int
 Set:Sound
 Take:Int
 Of:Int
 deriving Inhabited,DecidableEq
abbrev X9 (x:Ad8):List PV:=[(pI .i64 x.From),(pI .u32 x.Clear),(pI .u32 x.Set.Plus),(pI .u32 x.Set.Minus),(pI .u32 x.Take),(pI .i64 x.Of)]
structure Law where
 Name:Str
 Left:Pat
 Right:Pat
 If:(Sl Sound)
 Out:(Sl Ad8)
 Mode:Int
 deriving Inhabited
abbrev A6 (x:Law):List PV:=[(.str x.Name),(pI .i64 x.Left.Kind),(pI .u32 x.Left.Is.Plus),(pI .u32 x.Left.Is.Minus),(.bb x.Left.Not),(pI .i64 x.Left.Min),(pI .i64 x.Left.Max),(.sl false 7 x.Left.L.n (Ao7 x.Left)),(pI .i64 x.Right.Kind),(pI .u32 x.Right.Is.Plus),(pI .u32 x.Right.Is.Minus),(.bb x.Right.Not),(pI .i64 x.Right.Min),(pI .i64 x.Right.Max),(.sl false 7 x.Right.L.n (Ao7 x.Right)),(vSl 2 A0 x.If),(vSl 6 X9 x.Out),(pI .i64 x.Mode)]
inductive Part where
 | nil
 | sound (x:Sound) (no:Bool)
 | edge (e:Bool)
 | seq (n:Nat) (g:Nat->Part)
 | alt (n:Nat) (g:Nat->Part)
 | rep (o:Part) (mn mx:Int)
instance:Inhabited Part:=⟨.nil⟩
def Part.t:Part->Nat
 | .nil=>0
 | .sound _ _=>248
 | .edge _=>250
 | .seq _ _=>255
 | .alt _ _=>252
 | .rep _ _ _=>254
def Part.v:Part->PV
 | .nil=>.bb false
 | .sound x no=>.agg [pI .u32 x.Plus,pI .u32 x.Minus, .bb no]
 | .edge e=>.agg [.bb e]
 | .seq n g=>.agg [.sl false 1 n fun i=>[.iface (g i).t (g i).v]]
 | .alt n g=>.agg [.sl false 1 n fun i=>[.iface (g i).t (g i).v]]
 | .rep o mn mx=>.agg [.iface o.t o.v,pI .i64 mn,pI .i64 mx]
abbrev Aw1 (x:Part):PV:=.iface x.t x.v
abbrev Ao8 (x:Part):List PV:=[Aw1 x]
structure Ca0 where
 is:Sound
 not:Bool
 deriving Inhabited,DecidableEq
abbrev BL2 (x:Ca0):List PV:=[(pI .u32 x.is.Plus),(pI .u32 x.is.Minus),(.bb x.not)]
structure Cx5 where
 end_:Bool
 deriving Inhabited,DecidableEq
abbrev Cx6 (x:Cx5):List PV:=[(.bb x.end_)]
structure Palt where
 l:(Sl Part)
 deriving Inhabited
abbrev CG0 (x:Palt):List PV:=[(vSl 1 Ao8 x.l)]
structure CG1 where
 of:Part
 min:Int
 max:Int
 deriving Inhabited
abbrev CG2 (x:CG1):List PV:=[(Aw1 x.of),(pI .i64 x.min),(pI .i64 x.max)]
structure Pseq where
 l:(Sl Part)
 deriving Inhabited
abbrev CG3 (x:Pseq):List PV:=[(vSl 1 Ao8 x.l)]
end Go.AM
namespace Go.AM
open Go.Proofs
abbrev Aj5:Nat:=5
theorem Aw2:Tryz.prog.funcs[Aj5]? = some Tryz.f5:=Tryz.func5
abbrev Ac3:Nat:=6
theorem Al4:Tryz.prog.funcs[Ac3]? = some Tryz.f6:=Tryz.func6
abbrev Ah5:Nat:=7
theorem At3:Tryz.prog.funcs[Ah5]? = some Tryz.f7:=Tryz.func7
abbrev Ah6:Nat:=8
theorem At4:Tryz.prog.funcs[Ah6]? = some Tryz.f8:=Tryz.func8
abbrev Aj6:Nat:=10
theorem Aw3:Tryz.prog.funcs[Aj6]? = some Tryz.f10:=Tryz.func10
abbrev Bh7:Nat:=14
theorem BR1:Tryz.prog.funcs[Bh7]? = some Tryz.f14:=Tryz.func14
abbrev AW7:Nat:=15
theorem BD6:Tryz.prog.funcs[AW7]? = some Tryz.f15:=Tryz.func15
abbrev AB9:Nat:=16
theorem Bc1:Tryz.prog.funcs[AB9]? = some Tryz.f16:=Tryz.func16
abbrev AP1:Nat:=18
theorem Bv3:Tryz.prog.funcs[AP1]? = some Tryz.f18:=Tryz.func18
abbrev AC0:Nat:=20
theorem Bc2:Tryz.prog.funcs[AC0]? = some Tryz.f20:=Tryz.func20
abbrev Bh8:Nat:=22
theorem BR2:Tryz.prog.funcs[Bh8]? = some Tryz.f22:=Tryz.func22
abbrev Bh9:Nat:=23
theorem BR3:Tryz.prog.funcs[Bh9]? = some Tryz.f23:=Tryz.func23
abbrev AC1:Nat:=24
theorem Bc3:Tryz.prog.funcs[AC1]? = some Tryz.f24:=Tryz.func24
abbrev Bv4:Nat:=26
theorem Ca1:Tryz.prog.funcs[Bv4]? = some Tryz.f26:=Tryz.func26
abbrev AP2:Nat:=27
theorem Bv5:Tryz.prog.funcs[AP2]? = some Tryz.f27:=Tryz.func27
abbrev AH4:Nat:=28
theorem Bm0:Tryz.prog.funcs[AH4]? = some Tryz.f28:=Tryz.func28
abbrev AH5:Nat:=29
theorem Bm1:Tryz.prog.funcs[AH5]? = some Tryz.f29:=Tryz.func29
abbrev AC2:Nat:=31
theorem Bc4:Tryz.prog.funcs[AC2]? = some Tryz.f31:=Tryz.func31
abbrev Bi0:Nat:=39
theorem BR4:Tryz.prog.funcs[Bi0]? = some Tryz.f39:=Tryz.func39
abbrev Ai4:Nat:=40
theorem Bm2:Tryz.prog.funcs[Ai4]? = some Tryz.f40:=Tryz.func40
abbrev Ca2:Nat:=41
theorem Cx7:Tryz.prog.funcs[Ca2]? = some Tryz.f41:=Tryz.func41
abbrev Ca3:Nat:=42
theorem Cx8:Tryz.prog.funcs[Ca3]? = some Tryz.f42:=Tryz.func42
abbrev Bv6:Nat:=43
theorem Ca4:Tryz.prog.funcs[Bv6]? = some Tryz.f43:=Tryz.func43
abbrev Ca5:Nat:=44
theorem Cx9:Tryz.prog.funcs[Ca5]? = some Tryz.f44:=Tryz.func44
abbrev AH6:Nat:=45
theorem Bm3:Tryz.prog.funcs[AH6]? = some Tryz.f45:=Tryz.func45
abbrev P2:Nat:=46
theorem W7:Tryz.prog.funcs[P2]? = some Tryz.f46:=Tryz.func46
abbrev AC3:Nat:=47
theorem Bc5:Tryz.prog.funcs[AC3]? = some Tryz.f47:=Tryz.func47
abbrev AP3:Nat:=50
theorem Bv7:Tryz.prog.funcs[AP3]? = some Tryz.f50:=Tryz.func50
abbrev AH7:Nat:=52
theorem Bm4:Tryz.prog.funcs[AH7]? = some Tryz.f52:=Tryz.func52
abbrev AC4:Nat:=54
theorem Bc6:Tryz.prog.funcs[AC4]? = some Tryz.f54:=Tryz.func54
abbrev K5:Nat:=56
theorem W8:Tryz.prog.funcs[K5]? = some Tryz.f56:=Tryz.func56
abbrev AC5:Nat:=57
theorem Bc7:Tryz.prog.funcs[AC5]? = some Tryz.f57:=Tryz.func57
abbrev Aw4:Nat:=58
theorem AW8:Tryz.prog.funcs[Aw4]? = some Tryz.f58:=Tryz.func58
abbrev Al5:Nat:=59
theorem AH8:Tryz.prog.funcs[Al5]? = some Tryz.f59:=Tryz.func59
abbrev K6:Nat:=61
theorem W9:Tryz.prog.funcs[K6]? = some Tryz.f61:=Tryz.func61
abbrev Ar4:Nat:=74
theorem BD7:Tryz.prog.funcs[Ar4]? = some Tryz.f74:=Tryz.func74
abbrev AC6:Nat:=75
theorem Bc8:Tryz.prog.funcs[AC6]? = some Tryz.f75:=Tryz.func75
abbrev AP4:Nat:=76
theorem Bv8:Tryz.prog.funcs[AP4]? = some Tryz.f76:=Tryz.func76
abbrev G7:Nat:=77
theorem K3:Tryz.prog.funcs[G7]? = some Tryz.f77:=Tryz.func77
abbrev Z2:Nat:=78
theorem Z3:Tryz.prog.funcs[Z2]? = some Tryz.f78:=Tryz.func78
abbrev AW9:Nat:=82
theorem BD8:Tryz.prog.funcs[AW9]? = some Tryz.f82:=Tryz.func82
abbrev Z4:Nat:=83
theorem At5:Tryz.prog.funcs[Z4]? = some Tryz.f83:=Tryz.func83
abbrev O0:Nat:=84
theorem Ab5:Tryz.prog.funcs[O0]? = some Tryz.f84:=Tryz.func84
abbrev At6:Nat:=85
theorem AR2:Tryz.prog.funcs[At6]? = some Tryz.f85:=Tryz.func85
abbrev P6:Nat:=86
theorem Aw5:Tryz.prog.funcs[P6]? = some Tryz.f86:=Tryz.func86
abbrev AC7:Nat:=87
theorem Bc9:Tryz.prog.funcs[AC7]? = some Tryz.f87:=Tryz.func87
abbrev AX0:Nat:=89
theorem BD9:Tryz.prog.funcs[AX0]? = some Tryz.f89:=Tryz.func89
abbrev I7:Nat:=113
theorem S6:Tryz.prog.funcs[I7]? = some Tryz.f113:=Tryz.func113
abbrev At7:Nat:=114
theorem AR3:Tryz.prog.funcs[At7]? = some Tryz.f114:=Tryz.func114
abbrev AP5:Nat:=115
theorem Bv9:Tryz.prog.funcs[AP5]? = some Tryz.f115:=Tryz.func115
abbrev H9:Nat:=118
theorem Ad5:Tryz.prog.funcs[H9]? = some Tryz.f118:=Tryz.func118
abbrev H3:Nat:=119
theorem Al6:Tryz.prog.funcs[H3]? = some Tryz.f119:=Tryz.func119
abbrev G8:Nat:=120
theorem At8:Tryz.prog.funcs[G8]? = some Tryz.f120:=Tryz.func120
abbrev O2:Nat:=121
theorem AR4:Tryz.prog.funcs[O2]? = some Tryz.f121:=Tryz.func121
abbrev AX1:Nat:=122
theorem BE0:Tryz.prog.funcs[AX1]? = some Tryz.f122:=Tryz.func122
abbrev Ar5:Nat:=124
theorem Bm5:Tryz.prog.funcs[Ar5]? = some Tryz.f124:=Tryz.func124
abbrev Bi1:Nat:=125
theorem BR5:Tryz.prog.funcs[Bi1]? = some Tryz.f125:=Tryz.func125
abbrev Ar6:Nat:=126
theorem Bm6:Tryz.prog.funcs[Ar6]? = some Tryz.f126:=Tryz.func126
abbrev AH9:Nat:=127
theorem Bm7:Tryz.prog.funcs[AH9]? = some Tryz.f127:=Tryz.func127
abbrev AX2:Nat:=128
theorem BE1:Tryz.prog.funcs[AX2]? = some Tryz.f128:=Tryz.func128
abbrev AP6:Nat:=129
theorem Bw0:Tryz.prog.funcs[AP6]? = some Tryz.f129:=Tryz.func129
abbrev H1:Nat:=130
theorem Q2:Tryz.prog.funcs[H1]? = some Tryz.f130:=Tryz.func130
abbrev I8:Nat:=131
theorem S7:Tryz.prog.funcs[I8]? = some Tryz.f131:=Tryz.func131
abbrev K7:Nat:=143
theorem X0:Tryz.prog.funcs[K7]? = some Tryz.f143:=Tryz.func143
abbrev AX3:Nat:=146
theorem BE2:Tryz.prog.funcs[AX3]? = some Tryz.f146:=Tryz.func146
abbrev Am9:Nat:=148
theorem Bd0:Tryz.prog.funcs[Am9]? = some Tryz.f148:=Tryz.func148
abbrev AC8:Nat:=149
theorem Bd1:Tryz.prog.funcs[AC8]? = some Tryz.f149:=Tryz.func149
abbrev M0:Nat:=150
theorem Y0:Tryz.prog.funcs[M0]? = some Tryz.f150:=Tryz.func150
abbrev I2:Nat:=151
theorem S2:Tryz.prog.funcs[I2]? = some Tryz.f151:=Tryz.func151
abbrev K8:Nat:=152
theorem X1:Tryz.prog.funcs[K8]? = some Tryz.f152:=Tryz.func152
abbrev AX4:Nat:=158
theorem BE3:Tryz.prog.funcs[AX4]? = some Tryz.f158:=Tryz.func158
abbrev Bw1:Nat:=159
theorem Ca6:Tryz.prog.funcs[Bw1]? = some Tryz.f159:=Tryz.func159
abbrev AP7:Nat:=167
theorem Bw2:Tryz.prog.funcs[AP7]? = some Tryz.f167:=Tryz.func167
abbrev D8:Nat:=168
theorem V4:Tryz.prog.funcs[D8]? = some Tryz.f168:=Tryz.func168
abbrev Ar7:Nat:=174
theorem BE4:Tryz.prog.funcs[Ar7]? = some Tryz.f174:=Tryz.func174
abbrev Bi2:Nat:=175
theorem BR6:Tryz.prog.funcs[Bi2]? = some Tryz.f175:=Tryz.func175
abbrev J7:Nat:=176
theorem V5:Tryz.prog.funcs[J7]? = some Tryz.f176:=Tryz.func176
abbrev Bw3:Nat:=177
theorem Ca7:Tryz.prog.funcs[Bw3]? = some Tryz.f177:=Tryz.func177
abbrev Bw4:Nat:=178
theorem Ca8:Tryz.prog.funcs[Bw4]? = some Tryz.f178:=Tryz.func178
abbrev AI0:Nat:=179
theorem Bm8:Tryz.prog.funcs[AI0]? = some Tryz.f179:=Tryz.func179
abbrev Al7:Nat:=187
theorem Bw5:Tryz.prog.funcs[Al7]? = some Tryz.f187:=Tryz.func187
abbrev AP8:Nat:=188
theorem Bw6:Tryz.prog.funcs[AP8]? = some Tryz.f188:=Tryz.func188
abbrev Ao9:Nat:=189
theorem AL8:Tryz.prog.funcs[Ao9]? = some Tryz.f189:=Tryz.func189
abbrev G1:Nat:=190
theorem Y1:Tryz.prog.funcs[G1]? = some Tryz.f190:=Tryz.func190
abbrev AC9:Nat:=191
theorem Bd2:Tryz.prog.funcs[AC9]? = some Tryz.f191:=Tryz.func191
abbrev AP9:Nat:=192
theorem Bw7:Tryz.prog.funcs[AP9]? = some Tryz.f192:=Tryz.func192
abbrev R6:Nat:=201
theorem Bd3:Tryz.prog.funcs[R6]? = some Tryz.f201:=Tryz.func201
abbrev AI1:Nat:=202
theorem Bm9:Tryz.prog.funcs[AI1]? = some Tryz.f202:=Tryz.func202
abbrev AX5:Nat:=203
theorem BE5:Tryz.prog.funcs[AX5]? = some Tryz.f203:=Tryz.func203
abbrev AX6:Nat:=204
theorem BE6:Tryz.prog.funcs[AX6]? = some Tryz.f204:=Tryz.func204
abbrev AX7:Nat:=205
theorem BE7:Tryz.prog.funcs[AX7]? = some Tryz.f205:=Tryz.func205
abbrev AI2:Nat:=214
theorem Bn0:Tryz.prog.funcs[AI2]? = some Tryz.f214:=Tryz.func214
abbrev AI3:Nat:=215
theorem Bn1:Tryz.prog.funcs[AI3]? = some Tryz.f215:=Tryz.func215
abbrev AD0:Nat:=216
theorem Bd4:Tryz.prog.funcs[AD0]? = some Tryz.f216:=Tryz.func216
abbrev Aw6:Nat:=224
theorem AX8:Tryz.prog.funcs[Aw6]? = some Tryz.f224:=Tryz.func224
abbrev Af4:Nat:=225
theorem Bd5:Tryz.prog.funcs[Af4]? = some Tryz.f225:=Tryz.func225
abbrev Z5:Nat:=226
theorem At9:Tryz.prog.funcs[Z5]? = some Tryz.f226:=Tryz.func226
abbrev N6:Nat:=227
theorem Aj7:Tryz.prog.funcs[N6]? = some Tryz.f227:=Tryz.func227
abbrev Ag2:Nat:=244
theorem Aw7:Tryz.prog.funcs[Ag2]? = some Tryz.f244:=Tryz.func244
abbrev Aj8:Nat:=245
theorem AX9:Tryz.prog.funcs[Aj8]? = some Tryz.f245:=Tryz.func245
abbrev An0:Nat:=246
theorem Bd6:Tryz.prog.funcs[An0]? = some Tryz.f246:=Tryz.func246
abbrev Ar8:Nat:=247
theorem Bn2:Tryz.prog.funcs[Ar8]? = some Tryz.f247:=Tryz.func247
abbrev Al8:Nat:=248
theorem AI4:Tryz.prog.funcs[Al8]? = some Tryz.f248:=Tryz.func248
abbrev Ar9:Nat:=249
theorem Bn3:Tryz.prog.funcs[Ar9]? = some Tryz.f249:=Tryz.func249
abbrev Aw8:Nat:=250
theorem AY0:Tryz.prog.funcs[Aw8]? = some Tryz.f250:=Tryz.func250
abbrev X2:Nat:=251
theorem Ai1:Tryz.prog.funcs[X2]? = some Tryz.f251:=Tryz.func251
abbrev As0:Nat:=252
theorem Bn4:Tryz.prog.funcs[As0]? = some Tryz.f252:=Tryz.func252
abbrev H7:Nat:=3
abbrev E9:Nat:=23
abbrev Aw9:Nat:=31
abbrev Ap0:Nat:=50
abbrev B9:Nat:=79
abbrev Ax0:Nat:=82
abbrev N7:Nat:=85
abbrev Ca9:Nat:=125
abbrev BE8:Nat:=242
end Go.AM
set_option linter.unusedVariables false
namespace Go.AM
abbrev U (x:BitVec 64):Int:=(x.toNat:Int)
theorem AI5 {n:Nat} (h:n < 2 ^ 64):IntKind.u64.wrap (n:Int)=n:=by
 have h1:((n:Int) % (2 ^ 64:Int))=n:=Int.emod_eq_of_lt (by omega) (by omega)
 unfold IntKind.wrap
 simp only [IntKind.bits,IntKind.signed,h1,Bool.false_and,Bool.false_eq_true,if_false]
theorem BE9 (x:BitVec 64):BitVec.ofInt 64 (U x)=x:=by
 apply BitVec.eq_of_toNat_eq
 rw [BitVec.toNat_ofInt]
 have:=x.isLt
 show ((x.toNat:Int) % ((2 ^ 64:Nat):Int)).toNat=x.toNat
 omega
theorem and64 (x y:BitVec 64):E7 .and .u64 (U x) (U y)=U (x &&& y):=by
 simp only [E7,IntKind.bits,BE9]
 exact AI5 (x &&& y).isLt
theorem CI5 (x y:BitVec 64):E7 .or .u64 (U x) (U y)=U (x ||| y):=by
 simp only [E7,IntKind.bits,BE9]
 exact AI5 (x ||| y).isLt
theorem Cl9 (x y:BitVec 64):E7 .andNot .u64 (U x) (U y)=U (x &&& ~~~ y):=by
 simp only [E7,IntKind.bits,BE9]
 exact AI5 (x &&& ~~~ y).isLt
theorem shr64 (x:BitVec 64) (n:Nat):shI .shr .u64 (U x) n=U (x >>> n):=by
 simp only [shI,IntKind.bits,Int.toNat_natCast]
 have hx:=x.isLt
 show Int.fdiv (x.toNat:Int) (2 ^ min n 64)=((x >>> n).toNat:Int)
 rw [BitVec.toNat_ushiftRight,Nat.shiftRight_eq_div_pow]
 have e:((2:Int) ^ (min n 64))=((2 ^ (min n 64):Nat):Int):=by norm_cast
 rw [e,Int.fdiv_eq_ediv_of_nonneg _ (Int.natCast_nonneg _), <- Int.natCast_ediv]
 congr 1
 by_cases h:n<=64
 ·rw [Nat.min_eq_left h]
 ·rw [Nat.min_eq_right (by omega),Nat.div_eq_of_lt hx,Nat.div_eq_of_lt]
  exact Nat.lt_of_lt_of_le hx (Nat.pow_le_pow_right (by omega) (by omega))
theorem CG4:(1:Int)=U 1#64:=rfl
theorem Bw8 (n:Nat) (h:n < 64):shI .shl .u64 1 n=U (1#64 <<< n):=by
 simp only [shI,IntKind.bits,Int.toNat_natCast]
 rw [Nat.min_eq_left (by omega)]
 show IntKind.wrap .u64 (1 * 2 ^ n)=((1#64 <<< n).toNat:Int)
 rw [BitVec.toNat_shiftLeft,Nat.shiftLeft_eq]
 have h1:(2:Nat) ^ n < 2 ^ 64:=Nat.pow_lt_pow_right (by omega) h
 have e:((1:Int) * 2 ^ n)=((2 ^ n:Nat):Int):=by norm_cast;omega
 rw [e,AI5 h1]
 norm_cast
 rw [Nat.mod_eq_of_lt]
 ·simp
 ·simpa using h1
theorem BF0 {i:Nat}:(1#64).getLsbD i=decide (i=0):=by
 rw [BitVec.getLsbD_one];simp
theorem Ax1 {n i:Nat} (h:n < 64) (hi:i < 64):(1#64 <<< n).getLsbD i=decide (i=n):=by
 rw [BitVec.getLsbD_shiftLeft,BF0,Bool.eq_iff_iff]
 simp only [Bool.and_eq_true,Bool.not_eq_true',decide_eq_true_eq,decide_eq_false_iff_not]
 omega
theorem bit64 (x:BitVec 64) (i:Nat):(E7 .and .u64 (shI .shr .u64 (U x) (i:Int)) 1 == 1)=x.getLsbD i:=by
 rw [shr64,CG4,and64]
 have h:(x >>> i &&& 1#64)=(BitVec.ofBool (x.getLsbD i)).setWidth 64:=by
  apply BitVec.eq_of_getLsbD_eq
  intro j hj
  simp only [BitVec.getLsbD_and,BitVec.getLsbD_ushiftRight,BitVec.getLsbD_setWidth,BitVec.getLsbD_ofBool]
  by_cases h0:j=0
  ·subst h0;simp
  ·have:(1#64).getLsbD j=false:=by rw [BF0];simp [h0]
   simp [this,h0]
 rw [h]
 cases x.getLsbD i <;> rfl
theorem Cm0 {x y:BitVec 64} (h:∀ b,b < 64->(x.getLsbD b=true ↔ y.getLsbD b=true)):x=y:=
 BitVec.eq_of_getLsbD_eq fun b hb=>Bool.eq_iff_iff.2 (h b hb)
def AD1 (n:Nat) (R:Nat->Nat->Prop):Nat->Nat->Nat->Prop
 | 0=>fun a b=>a=b
 | k+1=>fun a b=>∃ c,c<=n/\AD1 n R k a c/\R c b
def Cr2 (n:Nat) (Q:Nat->Nat->Nat->Prop):Nat->Nat->Nat->Prop
 | 0=>fun a b=>a=b
 | i+1=>fun a b=>∃ c,c<=n/\Cr2 n Q i a c/\Q i c b
def Fwd (n:Nat) (R:Nat->Nat->Prop):Prop:=∀ a b,a<=n->R a b->a<=b/\b<=n
theorem AI6 {n:Nat} {R:Nat->Nat->Prop} (h:Fwd n R):∀ k,Fwd n (AD1 n R k)
 | 0,a,b,ha,hb=>by obtain rfl:a=b:=hb;exact ⟨Nat.le_refl _,ha⟩
 | k+1,a,b,ha,⟨c,hc,h1,h2⟩=>by
  have g1:=AI6 h k a c ha h1
  have g2:=h c b hc h2
  exact ⟨by omega,g2.2⟩
theorem BL3 {n:Nat} {Q:Nat->Nat->Nat->Prop}:∀ k,(∀ i,i < k->Fwd n (Q i))->Fwd n (Cr2 n Q k)
 | 0,_,a,b,ha,hb=>by obtain rfl:a=b:=hb;exact ⟨Nat.le_refl _,ha⟩
 | k+1,h,a,b,ha,⟨c,hc,h1,h2⟩=>by
  have g1:=BL3 k (fun i hi=>h i (by omega)) a c ha h1
  have g2:=h k (by omega) c b hc h2
  exact ⟨by omega,g2.2⟩
theorem Al9 {n:Nat} {R:Nat->Nat->Prop} (h:Fwd n R) (j:Nat) {a:Nat} (ha:a<=n):∀ k b,AD1 n R (j+k) a b ↔ ∃ c,c<=n/\AD1 n R j a c/\AD1 n R k c b
 | 0,b=>⟨fun hp=>⟨b,(AI6 h j a b ha hp).2,hp,rfl⟩,fun ⟨c,_,hp,e⟩=>by obtain rfl:c=b:=e;exact hp⟩
 | k+1,b=>by
  constructor
  ·rintro ⟨d,hd,h1,h2⟩
   obtain ⟨c,hc,g1,g2⟩:=(Al9 h j ha k d).1 h1
   exact ⟨c,hc,g1,d,hd,g2,h2⟩
  ·rintro ⟨c,hc,g1,d,hd,g2,h2⟩
   exact ⟨d,hd,(Al9 h j ha k d).2 ⟨c,hc,g1,g2⟩,h2⟩
theorem Bi3 {n:Nat} {R:Nat->Nat->Prop} (h:Fwd n R) {a:Nat} (ha:a<=n):∀ k b,AD1 n R (k+1) a b->AD1 n R k a b \/ a+(k+1)<=b
 | 0,b,⟨c,hc,h1,h2⟩=>by
  obtain rfl:a=c:=h1
  by_cases e:a=b
  ·exact .inl e
  ·have:=(h a b ha h2).1;exact .inr (by omega)
 | k+1,b,⟨c,hc,h1,h2⟩=>by
  by_cases e:c=b
  ·subst e;exact .inl h1
  ·have:=(h c b hc h2).1
   rcases Bi3 h ha k c h1 with g | g
   ·exact .inl ⟨c,hc,g,h2⟩
   ·exact .inr (by omega)
theorem Bw9 {n:Nat} {R:Nat->Nat->Prop} (h:Fwd n R) {a:Nat} (ha:a<=n) {k b:Nat} (hk:n<=k) (hp:AD1 n R (k+1) a b):AD1 n R k a b:=by
 rcases Bi3 h ha k b hp with g | g
 ·exact g
 ·have:=(AI6 h (k+1) a b ha hp).2;omega
theorem Bx0 {n:Nat} {R:Nat->Nat->Prop} (h:Fwd n R) {a:Nat} (ha:a<=n) {b:Nat}:∀ k,AD1 n R k a b->∃ j,j<=n/\AD1 n R j a b
 | 0,hp=>⟨0,Nat.zero_le _,hp⟩
 | k+1,hp=>by
  by_cases hk:n<=k
  ·exact Bx0 h ha k (Bw9 h ha hk hp)
  ·exact ⟨k+1,by omega,hp⟩
theorem AY1 {n:Nat} {R:Nat->Nat->Prop} (h:Fwd n R) {a:Nat} (ha:a<=n):∀ k b,AD1 n (fun x y=>R x y \/ x=y) k a b ↔ ∃ j,j<=k/\AD1 n R j a b
 | 0,b=>⟨fun e=>⟨0,Nat.le_refl _,e⟩,fun ⟨j,hj,hp⟩=>by
  obtain rfl:j=0:=by omega
  exact hp⟩
 | k+1,b=>by
  constructor
  ·rintro ⟨c,hc,h1,h2⟩
   obtain ⟨j,hj,hp⟩:=(AY1 h ha k c).1 h1
   rcases h2 with h2 | h2
   ·exact ⟨j+1,by omega,c,hc,hp,h2⟩
   ·subst h2;exact ⟨j,by omega,hp⟩
  ·rintro ⟨j,hj,hp⟩
   by_cases e:j<=k
   ·have hb:=(AI6 h j a b ha hp).2
    exact ⟨b,hb,(AY1 h ha k b).2 ⟨j,e,hp⟩, .inr rfl⟩
   ·obtain rfl:j=k+1:=by omega
    obtain ⟨c,hc,h1,h2⟩:=hp
    exact ⟨c,hc,(AY1 h ha k c).2 ⟨k,Nat.le_refl _,h1⟩, .inl h2⟩
def BF1 (s c:Sound):Bool:=(E7 .and .u32 s.Plus c.Plus == c.Plus) && (E7 .and .u32 s.Minus c.Minus == c.Minus)
def PR (w:Sl Sound):Pat->Nat->Nat->Prop
 | .nil=>fun a b=>a=b
 | .mk kind is no mn mx m g=>fun a b=>
  if kind=0 then a=b
  else if kind=1 then a < w.n/\b=a+1/\(BF1 (w.g a) is != no)=true
  else if kind=2 then a=0/\b=0
  else if kind=6 then a=w.n/\b=w.n
  else if kind=3 then Cr2 w.n (fun i=>PR w (g i)) m a b
  else if kind=4 then ∃ i,i < m/\PR w (g i) a b
  else if kind=5 then ∃ k:Nat,mn<=k/\(mx = -1 \/ (k:Int)<=mx)/\AD1 w.n (PR w (g 0)) k a b
  else False
theorem Bx1 (w:Sl Sound):∀ p:Pat,Fwd w.n (PR w p)
 | .nil,a,b,ha,h=>by obtain rfl:a=b:=h;exact ⟨Nat.le_refl _,ha⟩
 | .mk kind is no mn mx m g,a,b,ha,h=>by
  simp only [PR] at h
  split at h
  ·subst h;exact ⟨Nat.le_refl _,ha⟩
  split at h
  ·obtain ⟨h1,h2,_⟩:=h;omega
  split at h
  ·omega
  split at h
  ·omega
  split at h
  ·exact BL3 m (fun i _=>Bx1 w (g i)) a b ha h
  split at h
  ·obtain ⟨i,_,hi⟩:=h;exact Bx1 w (g i) a b ha hi
  split at h
  ·obtain ⟨k,_,_,hk⟩:=h;exact AI6 (Bx1 w (g 0)) k a b ha hk
  ·exact h.elim
def TabR (n:Nat) (R:Nat->Nat->Prop) (f:Nat->Int):Prop:=∀ a,a<=n->∃ x:BitVec 64,f a=U x/\∀ b,b < 64->(x.getLsbD b=true ↔ b<=n/\R a b)
theorem TabR.congr {n:Nat} {R R' : Nat->Nat->Prop} {f:Nat->Int} (h:TabR n R f) (hr:∀ a b,a<=n->b<=n->(R a b ↔ R' a b)):TabR n R' f:=fun a ha=>by
 obtain ⟨x,e,hx⟩:=h a ha
 refine ⟨x,e,fun b hb=>(hx b hb).trans ⟨fun ⟨h1,h2⟩=>⟨h1,(hr a b ha h1).1 h2⟩,fun ⟨h1,h2⟩=>⟨h1,(hr a b ha h1).2 h2⟩⟩⟩
theorem TabR.uniq {n:Nat} {R:Nat->Nat->Prop} {f g:Nat->Int} (h:TabR n R f) (h' : TabR n R g) {a:Nat} (ha:a<=n):f a=g a:=by
 obtain ⟨x,e,hx⟩:=h a ha
 obtain ⟨y,e',hy⟩:=h' a ha
 rw [e,e',Cm0 fun b hb=>(hx b hb).trans (hy b hb).symm]
theorem TabR.bit {n:Nat} {R:Nat->Nat->Prop} {f:Nat->Int} (h:TabR n R f) {a b:Nat} (ha:a<=n) (hb:b < 64):(E7 .and .u64 (shI .shr .u64 (f a) (b:Int)) 1 == 1)=true ↔ b<=n/\R a b:=by
 obtain ⟨x,e,hx⟩:=h a ha
 rw [e,bit64];exact hx b hb
end Go.AM
set_option linter.unusedVariables false
namespace Go.AM
open Go.Proofs
abbrev Cm1:List AV:=[.reg 0 0, .reg 1 0, .reg 2 0, .reg 3 0]
abbrev BF2 (c:Int) (a:Sl Law) (b:Sl Sound) (y:PV):List Obj:=[.cells [pN c], .cells [.p (vSl 18 A6 a)], .cells [.p (vSl 2 A0 b)], .cells [.p y]]
structure BL4 (S:Af9):Prop where
 attR:∀ {a:Sl Law} {b y:Sl Sound},FunO S G8 [.p (vSl 18 A6 a), .p (vSl 2 A0 b)] [] (.p (vSl 2 A0 y)) [] []->FunO S H3 Cm1 (BF2 0 a b U7) (.tup []) (BF2 0 a b (vSl 2 A0 y)) [true,true,true,true]
 attP:∀ {a:Sl Law} {b:Sl Sound} {c:Int},(S.F G8 [.p (vSl 18 A6 a), .p (vSl 2 A0 b)] [] fun res o k=>res=.panic (.iface 160 (pI .i64 c))/\o=[]/\k=[])->FunO S H3 Cm1 (BF2 0 a b U7) (.tup []) (BF2 c a b U7) [true,true,true,true]
 tz:∀ x:BitVec 64,Ch0 S N6 [.p (pI .u64 (U x))] (.p (pI .i64 (Lib.ctz 64 x.toNat:Nat)))
 trim:∀ s c:Str,s.length < 1000000000000->c.length < 1000000->(∀ b ∈ c,b.toNat < 128)->Ch0 S Am9 [.p (.str s), .p (.str c)] (.p (.str (Lib.trimS s c)))
 growS:∀ (f:Nat->List PV) (n:Nat),n * 8<=140737488355328->FunO S G1 [.p U7, .p (pI .i64 (n:Int))] [] (.vec 0) [.vec B9 2 0 f false] []
 growL:∀ (f:Nat->List PV) (n:Nat),n * 200<=140737488355328->FunO S H9 [.p U7, .p (pI .i64 (n:Int))] [] (.vec 0) [.vec N7 18 0 f false] []
def F3 (N:Nat) (x:Int):Option Int:=if 0<=x/\x < 18446744073709551616 then some ((Lib.ctz 64 x.toNat:Nat):Int) else none
def An1 (N:Nat) (s c:Str):Option Str:=if s.length < 1000000000000/\c.length < 1000000/\(c.all fun b=>decide (b.toNat < 128))=true then some (Lib.trimS s c) else none
def G2 (N:Nat) (n:Int):Option (Sl Sound):=if 0<=n/\n * 8<=140737488355328 then some (Sl.nil:Sl Sound) else none
def I0 (N:Nat) (n:Int):Option (Sl Law):=if 0<=n/\n * 200<=140737488355328 then some (Sl.nil:Sl Law) else none
section
variable {S:Af9} (hS:I3 S Tryz.prog) (hL:BL4 S)
include hS hL
theorem Aj9 {N:Nat} {x y:Int} (h:F3 N x=some y):FunO S N6 [.p (pI .u64 x)] [] (.p (pI .i64 y)) [] []:=by
 obtain ⟨⟨h0,h1⟩,h⟩:=P0 h
 obtain rfl:=A5 h
 have:=hL.tz (BitVec.ofNat 64 x.toNat)
 have e:(BitVec.ofNat 64 x.toNat).toNat=x.toNat:=by rw [BitVec.toNat_ofNat];omega
 have e2:U (BitVec.ofNat 64 x.toNat)=x:=by show ((BitVec.ofNat 64 x.toNat).toNat:Int)=x;rw [e];omega
 rw [e,e2] at this
 exact this
theorem Bd7 {N:Nat} {s c:Str} {y:Str} (h:An1 N s c=some y):FunO S Am9 [.p (.str s), .p (.str c)] [] (.p (.str y)) [] []:=by
 obtain ⟨⟨h0,h1,h2⟩,h⟩:=P0 h
 obtain rfl:=A5 h
 exact hL.trim s c h0 h1 fun b hb=>by simpa using List.all_eq_true.1 h2 b hb
theorem Y2 {N:Nat} {n:Int} {y:Sl Sound} (h:G2 N n=some y):FunO S G1 [.p U7, .p (pI .i64 n)] [] (.vec 0) [.vec B9 2 y.n (fun i=>A0 (y.g i)) false] []:=by
 obtain ⟨⟨h0,h1⟩,h⟩:=P0 h
 obtain rfl:=A5 h
 have:=hL.growS (fun i=>A0 default) n.toNat (by omega)
 rw [show ((n.toNat:Nat):Int)=n by omega] at this
 exact this
theorem Ad6 {N:Nat} {n:Int} {y:Sl Law} (h:I0 N n=some y):FunO S H9 [.p U7, .p (pI .i64 n)] [] (.vec 0) [.vec N7 18 y.n (fun i=>A6 (y.g i)) false] []:=by
 obtain ⟨⟨h0,h1⟩,h⟩:=P0 h
 obtain rfl:=A5 h
 have:=hL.growL (fun i=>A6 default) n.toNat (by omega)
 rw [show ((n.toNat:Nat):Int)=n by omega] at this
 exact this
def B2 (N:Nat) (s:Sl Sound):Option (Sl Sound):=if (0+s.n) * 8<=140737488355328/\0+s.n<=140737488355328 then some s else none
theorem K9 {N:Nat} {s y:Sl Sound} (h:B2 N s=some y):FunO S K6 [.p (vSl 2 A0 s)] [] (.vec 0) [.vec B9 2 y.n (fun i=>A0 (y.g i)) true] []:=by
 unfold B2 at h
 obtain ⟨c1,h⟩:=P0 h
 obtain rfl:=A5 h
 refine A7 hS W9 ?_
 refine K_nil hS trivial 3 (k:=2) (n:=s.n) (f:=fun i=>A0 (s.g i)) (fun h0=>?_) ?_
 ·obtain ⟨n,g⟩:=s
  obtain rfl:n=0:=h0
  exact B6 hS trivial ⟨[(2, .vec 3700)], [(3700, .vec B9 2 0 (fun i=>A0 (g i)) true)]⟩ [3700] (ids:=[]) ⟨rfl,rfl,rfl⟩
 ·exact B6 hS (And.intro (rfl:true=true) c1) ⟨[(2, .vec 8000)], [(8000, .vec B9 2 s.n (fun i=>A0 (s.g i)) true)]⟩ [8000] (ids:=[(8000,8000)]) ⟨rfl,rfl,rfl⟩
   (hle:=klR [(0, .fn (0+s.n) s.n (An5 0 (H6 [pI .u32 0,pI .u32 0] []) (fun i=>A0 (s.g i))) (fun i=>A0 (s.g i)))] (al1 ⟨Nat.zero_add _,fun i _=>by simp [An5]⟩ al0))
end
end Go.AM
set_option linter.unusedVariables false
set_option maxRecDepth 100000
namespace Go.AM
open Go.Proofs
theorem BR7 (v:Value) (w:World):(Instr.typeAssert (.iface 160 v) 20 160 true).run Tryz.prog w=.ok (.tuple #[v, .bool true]) w:=by kernel_rfl
theorem BF3 (p:Value) (w:World):CallsDIn Fence.wide 0 Tryz.prog P6 #[p] .returning w fun e u' w'=>e=.returned (.tuple #[])/\u' = .returning/\w' = w:=by
 refine callsDIn_of_wpSIn Aw5 rfl (by simp [Fence.wide]) fun c₀ cs hu=>?_
 apply wpSIn_seq
 apply wpSIn_region
 simp [wpOpsSIn,go_sem,recoverD,hu,Tryz.f86,Exit.thenS]
 refine wpSIn_of_wpIn rfl (wpIn_block (wpIn_seq (wpIn_region ?_)))
 simp [wpOpsIn,Oper.wpIn,Oper.semAt,Oper.uponIn,go_sem,Exit.then]
 refine wpIn_cond (t:=true) (by simp [Act.eval]) ?_
 simp only [if_true]
 refine wpIn_region ?_
 simp [wpOpsIn,Oper.wpIn,Oper.semAt,Oper.uponIn,go_sem,Exit.inBlock,bodyPostS,results]
 cases c₀
 simp_all
theorem AR5 (p:Value) (c:Int) (older:List PanicEntry) (w w1:World) (hst:(Instr.storeAt 27 p (.int .i64 c)).run Tryz.prog w=.ok () w1) (hn:∃ b,p=.pointer (some b)) :
 CallsDIn Fence.wide 0 Tryz.prog P6 #[p] (.panicking ({ v:=.iface 160 (.int .i64 c),recovered:=false } :: older)) w fun e u' w'=>
  e=.returned (.tuple #[])/\u' = .panicking ({ v:=.iface 160 (.int .i64 c),recovered:=true } :: older)/\w' = w1:=by
 obtain ⟨b,rfl⟩:=hn
 refine callsDIn_of_wpSIn Aw5 rfl (by simp [Fence.wide]) fun c₀ cs hu=>?_
 apply wpSIn_seq
 apply wpSIn_region
 simp [wpOpsSIn,go_sem,recoverD,hu,Tryz.f86,Exit.thenS]
 refine wpSIn_of_wpIn rfl (wpIn_block (wpIn_seq (wpIn_region ?_)))
 simp [wpOpsIn,Oper.wpIn,Oper.semAt,Oper.uponIn,go_sem,Exit.then]
 refine wpIn_cond (t:=false) (by simp [Act.eval]) ?_
 simp only [Bool.false_eq_true,if_false]
 refine wpIn_seq (wpIn_region ?_)
 simp [wpOpsIn,Oper.wpIn,Oper.semAt,Oper.uponIn,go_sem,Exit.then,BR7]
 refine wpIn_cond (t:=true) (by simp [Act.eval]) ?_
 simp only [if_true]
 refine wpIn_seq (wpIn_region ?_)
 simp [wpOpsIn,Oper.wpIn,Oper.semAt,Oper.uponIn,go_sem,Exit.then]
 refine wpIn_region ?_
 simp [wpOpsIn,Oper.wpIn,Oper.semAt,Oper.uponIn,go_sem,hst,Exit.inBlock,bodyPostS,results]
 simp [go_sem] at hst
 rw [hst]
 simp [Result.andThen]
noncomputable def CB0:Code:=match Tryz.f119.body with
 | some (.seq _ c)=>c
 | _=>.skip
theorem Cy0 {S:Af9} (hS:I3 S Tryz.prog) {a:Sl Law} {b y:Sl Sound} (hF:FunO S G8 [.p (vSl 18 A6 a), .p (vSl 2 A0 b)] [] (.p (vSl 2 A0 y)) [] []) :
 KG S Tryz.prog (Bh5 S (fun st=>J1 [0,1,2,3] st.regs [0,1,2,3]=some (BF2 0 a b (vSl 2 A0 y))) fun _ _=>False) (.code CB0 [] ⟨argEnv Cm1,objRegs (BF2 0 a b U7)⟩):=by
 refine A3 hS [] trivial hF ?_
 exact K_upN hS trivial ⟨[], [(3, .cells [.p (vSl 2 A0 y)]),(2, .cells [.p (vSl 2 A0 b)]),(1, .cells [.p (vSl 18 A6 a)]),(0, .cells [pN 0])]⟩ (ids:=[(0,0),(1,1),(2,2),(3,3)]) rfl
theorem Cb0 {S:Af9} (hS:I3 S Tryz.prog) {a:Sl Law} {b:Sl Sound} {c:Int} (hF:S.F G8 [.p (vSl 18 A6 a), .p (vSl 2 A0 b)] [] fun res o k=>res=.panic (.iface 160 (pI .i64 c))/\o=[]/\k=[]) :
 KG S Tryz.prog (Bh5 S (fun _=>False) fun x st=>x=.iface 160 (pI .i64 c)/\store Tryz.prog st.regs 27 (.reg 0 0) (.p (pI .i64 c))=some ([],ins 0 (.cells [pN c]) st.regs)/\J1 [0,1,2,3] (ins 0 (.cells [pN c]) st.regs) [0,1,2,3]=some (BF2 c a b U7)) (.code CB0 [] ⟨argEnv Cm1,objRegs (BF2 0 a b U7)⟩):=by
 refine Cx2 hS [] trivial hF ?_
 exact K_upP hS trivial ⟨rfl,by kernel_rfl,by kernel_rfl⟩
noncomputable def att1:Code:=match Tryz.f119.body with
 | some (.seq c _)=>c
 | _=>.skip
noncomputable def attOps:Array Oper:=match CB0 with
 | .region _ ops _=>ops
 | _=>#[]
theorem BL5:CB0=.region 1 attOps false:=by kernel_rfl
theorem CG5:attOps.toList.all (AB5 7 attOps.toList)=true:=by kernel_rfl
theorem Cm2:¬ Tryz.f119.name = "runtime.NumGoroutine" := by decide +kernel
theorem BL6:Tryz.f119.body=some (.seq att1 CB0):=by kernel_rfl
theorem Cy1 {C:Ctx} {vs:Array Value} {w:World} {rho:Nat->Value} {args:List AV} {objs:List Obj} {n:Nat} (hS:Sat C ⟨argEnv args,objRegs objs⟩ ⟨vs, []⟩ w rho) (hvs:vs.size=args.length) :
 Sat C ⟨argEnv args,objRegs objs⟩ { tmps:=vs ++ Array.replicate n undef,defers:=[] } w rho:=by
 refine ⟨hS.toSatE,fun t=>?_,hS.pin,hS.marks⟩
 have:=hS.env t
 by_cases ht:t < vs.size
 ·simpa [Array.getD_eq_getD_getElem?,Array.getElem?_append,ht] using this
 ·show RepA w _ _ _ _ (get (argEnv args) t)
  rw [Aa8,List.getD_eq_getElem?_getD,List.getElem?_eq_none (by omega)]
  exact .top _
theorem AY2 {R:St->Prop} {X:PV->St->Prop} {a:Sl Law} {b:Sl Sound} {objs' : List Obj}
 (hreg:KG (Au5 Tryz.prog) Tryz.prog (Bh5 (Au5 Tryz.prog) R X) (.code CB0 [] ⟨argEnv Cm1,objRegs (BF2 0 a b U7)⟩))
 (hR:∀ st,R st->J1 [0,1,2,3] st.regs [0,1,2,3]=some objs')
 (hX:∀ x st,X x st->∃ c regs',x=.iface 160 (pI .i64 c)/\store Tryz.prog st.regs 27 (.reg 0 0) (.p (pI .i64 c))=some ([],regs')/\J1 [0,1,2,3] regs' [0,1,2,3]=some objs') :
 FunO (Au5 Tryz.prog) H3 Cm1 (BF2 0 a b U7) (.tup []) objs' [true,true,true,true]:=by
 intro 𝒢 C w vs rho hG hS hvs
 obtain ⟨l⟩:=vs
 match l,hvs with
 | [v0,v1,v2,v3],hvs=>?_
 refine ⟨.enter H3 #[v0,v1,v2,v3],w,by simp [callFunc,Al6,BL6,Cm2], ?_⟩
 refine callsIn_of_wp_marks Al6 BL6 trivial ?_
 have hS':=Cy1 (n:=Tryz.f119.ntmps - 4) hS hvs
 have hn7:Tryz.f119.ntmps - 4=3:=rfl
 rw [hn7] at hS'
 have hsz:((#[v0,v1,v2,v3]:Array Value) ++ Array.replicate 3 undef).size=7:=rfl
 have hw:AN9 (Au5 Tryz.prog) Tryz.prog attOps.toList attOps.toList (Bh5 (Au5 Tryz.prog) R X) ⟨argEnv Cm1,objRegs (BF2 0 a b U7)⟩:=by
  have:=hreg.out
  rw [BL5] at this
  simpa only [G,awp,kp,Bool.false_eq_true,if_false] using this
 have hops:=AV3 (𝒢:=𝒢.fix C.rho0) (n:=7) (ro:=none) (ops:=attOps) CG5 attOps.toList 0 rfl (by simp) ⟨hG,rfl⟩ hS' hsz hw
 have hfr:=AH3 [{ target:=.fn (.func P6) #[],args:=#[v0] }] _ _ _ hops
 rw [List.drop_zero] at hfr
 obtain ⟨b0,hv0,hrho0⟩:∃ b0,v0=.pointer (some ⟨b0,0,none⟩)/\rho 0=.pointer (some ⟨b0,0,none⟩):=by
  have h0:RepA w _ _ rho v0 (.reg 0 0):=hS.env 0
  cases h0 with
  | reg _ _ b0 _ h=>exact ⟨b0,rfl,h⟩
 have hend:∀ {C' : Ctx} {st' : St} {a' : Act} {w' : World} {rho' : Nat->Value},(𝒢.fix C.rho0).G C' -> Sat C' st' a' w' rho' -> J1 [0,1,2,3] st'.regs [0,1,2,3]=some objs' ->
  LeavesInM Fence.wide 0 Tryz.prog Tryz.f119 a'.tmps (fun e w'=>∃ C' r objs0 ks rho', 𝒢.G C' /\ (r=.ret (.tup [])/\objs0=objs' /\ ks=[true,true,true,true])/\SatE C' (objRegs objs0) w' rho' /\
   Cu5 w' (Prv C'.X (A2 (objRegs objs0)) rho') (Lv (A2 (objRegs objs0))) rho' e r/\∀ i:Nat,ks[i]? = some true->i < objs0.length/\rho' i=rho i) [] .returning w':=by
  intro C' st' a' w' rho' hG' hs' hob
  obtain ⟨g1,g2,g3⟩:=AV4 hs' (by decide) hob
  obtain ⟨hl,hg⟩:=U9 hob
  refine ⟨.tuple #[],by simp [results,Tryz.f119],C', .ret (.tup []),objs',_,_,hG'.1,⟨rfl,rfl,rfl⟩,g1,⟨_,rfl, .tup _ _ rfl fun i hi=>absurd hi (by simp)⟩, ?_⟩
  intro i hi
  have hi4:i < 4:=by
   have:=(List.getElem?_eq_some_iff.1 hi).1
   simpa using this
  refine ⟨by rw [hl];exact hi4, ?_⟩
  have e1:[0,1,2,3][i]? = some i:=by
   match i,hi4 with
   | 0,_=>rfl
   | 1,_=>rfl
   | 2,_=>rfl
   | 3,_=>rfl
  obtain ⟨o,_,ho,_⟩:=hg i i e1
  show rho' ([0,1,2,3].getD i 0)=rho i
  rw [Ah4 e1,hs'.pin i (by omega) (by simp [Lv,ho]),hG'.2]
  refine (hS.pin i (by omega) ?_).symm
  rw [Lv,D0]
  match i,hi4 with
  | 0,_=>rfl
  | 1,_=>rfl
  | 2,_=>rfl
  | 3,_=>rfl
 generalize hQ:bodyPostM _ _ _ _ _=QQ
 refine wpIn_seq ?_
 simp only [att1,Tryz.f119]
 refine wpIn_region ?_
 simp [wpOpsIn,Oper.wpIn,Oper.semAt,Oper.uponIn,go_sem,Exit.then]
 subst hQ
 rw [BL5]
 refine wpIn_mono (wpIn_region (F:=FW none) hfr) ?_
 rintro e a' w' ⟨a0,rfl,hq⟩
 cases e with
 | exit id=>obtain ⟨_,_,_,_,_,_,h⟩:=hq;exact h.elim
 | goto l=>obtain ⟨_,_,_,_,_,_,h⟩:=hq;exact h.elim
 | ret=>obtain ⟨_,_,_,_,_,_,h⟩:=hq;exact h.elim
 | outgrown=>exact hq.elim
 | normal=>
  obtain ⟨C',st',rho',hG',hs',hsz',hu⟩:=hq
  obtain ⟨st2,rho2,hR2,_,hs2⟩:=hu C' a0 w' rho' hs'
  refine Ar3 (C:=C') (st:=st2) (rho:=rho2) (by simp) ?_ a0.defers a0 w' rfl rfl hs2
  intro a3 w3 hs3 ht
  refine ⟨by simp, .inr ⟨by simp [Fence.wide],_,_,P6, #[v0],rfl,by simp [go_sem],fun _ _=>trivial, ?_⟩⟩
  refine (BF3 v0 w3).mono ?_
  rintro e u' w4 ⟨rfl,rfl,rfl⟩
  have:=hend hG' hs3 (hR st2 hR2)
  rw [ht] at this
  exact this
 | panic chain=>
  obtain ⟨C',st',rho',v,x,rfl,hG',hs',hsz',hv,hXx⟩:=hq
  obtain ⟨c,regs',rfl,hst,hob⟩:=hX x st' hXx
  obtain rfl:v=.iface 160 (.int .i64 c):=by
   cases hv with
   | iface _ _ _ h=>cases h;rfl
  refine Ar3 (C:=C') (st:=st') (rho:=rho') (by simp) ?_ a0.defers a0 w' rfl rfl hs'
  intro a3 w3 hs3 ht
  have hlive:Lv (A2 st'.regs) 0:=by
   cases hj:A2 st'.regs 0 with
   | some o=>simp [Lv,hj]
   | none=>
    unfold store at hst
    split at hst
    ·simp [hj] at hst
    ·cases hst
  have hr0:rho' 0=.pointer (some ⟨b0,0,none⟩):=by
   rw [hs3.pin 0 (by omega) hlive,hG'.2, <- hrho0]
   exact (hS.pin 0 (by omega) rfl).symm
  have hva:RS C' st' w3 rho' v0 (.reg 0 0):=by
   rw [hv0];exact .reg 0 0 b0 hlive hr0
  obtain ⟨w4,hrun,hs4,_⟩:=AU3 hs3 (vx:=.int .i64 c) hva (.p _ _ (.v _)) hst trivial
  refine ⟨by simp, .inr ⟨by simp [Fence.wide],_,_,P6, #[v0],rfl,by simp [go_sem],fun _ _=>trivial, ?_⟩⟩
  refine (AR5 v0 c [] w3 w4 hrun ⟨_,hv0⟩).mono ?_
  rintro e u' w5 ⟨rfl,rfl,rfl⟩
  have:=hend hG' hs4 hob
  rw [ht] at this
  exact this
theorem BF4 {a:Sl Law} {b y:Sl Sound} (hF:FunO (Au5 Tryz.prog) G8 [.p (vSl 18 A6 a), .p (vSl 2 A0 b)] [] (.p (vSl 2 A0 y)) [] []) :
 FunO (Au5 Tryz.prog) H3 Cm1 (BF2 0 a b U7) (.tup []) (BF2 0 a b (vSl 2 A0 y)) [true,true,true,true]:=
 AY2 (Cy0 (Cu9 Tryz.prog) hF) (fun st h=>h) (fun x st h=>h.elim)
theorem Bn5 {a:Sl Law} {b:Sl Sound} {c:Int} (hF:(Au5 Tryz.prog).F G8 [.p (vSl 18 A6 a), .p (vSl 2 A0 b)] [] fun res o k=>res=.panic (.iface 160 (pI .i64 c))/\o=[]/\k=[]) :
 FunO (Au5 Tryz.prog) H3 Cm1 (BF2 0 a b U7) (.tup []) (BF2 c a b U7) [true,true,true,true]:=
 AY2 (Cb0 (Cu9 Tryz.prog) hF) (fun st h=>h.elim) (fun x st h=>⟨c,_,h.1,h.2.1,h.2.2⟩)
end Go.AM
set_option linter.unusedVariables false
set_option linter.unusedSectionVars false
namespace Go.AM
open Go.Proofs
set_option maxRecDepth 10000
set_option maxHeartbeats 2000000
variable {S:Af9} (hS:I3 S Tryz.prog) (hL:BL4 S)
include hS hL
def F4 (N:Nat) (p_s:Sound):Option Bool:=
 some (((E7 .and .u32 p_s.Plus p_s.Minus) == 0) && (decide ((E7 .or .u32 p_s.Plus p_s.Minus)<=16777215)))
theorem O5 {N:Nat} {p_s:Sound}   {y:Bool} (h:F4 N p_s=some y) :
 FunO S AH9 [(.p (.agg (A0 p_s)))] [] (pB y) ([]) []:=by
 unfold F4 at h
 refine A7 hS Bm7 ?_
 obtain ⟨t1,ht1⟩:∃ x:Bool,x=(((E7 .and .u32 p_s.Plus p_s.Minus) == 0) && (decide ((E7 .or .u32 p_s.Plus p_s.Minus)<=16777215))):=⟨_,rfl⟩
 refine Ai3 hS trivial (B4 hS) 0 ⟨[(2,(pB t1))], []⟩ (fun M1 hb1=>?_) ?_
 ·refine A9 hS trivial (b:=(E7 .and .u32 p_s.Plus p_s.Minus) == 0) (fun c2=>?_) (fun c2=>?_)
  ·exact hb1 _ [] _ trivial (by kernel_rfl) (by kernel_rfl) (klR [(0, .eq (.bb (decide ((E7 .or .u32 p_s.Plus p_s.Minus)<=16777215))) (.bb t1))] (al1 (by simp only [ht1,c2,Leaf.ok,pm,if_true,if_false]) al0))
  ·exact hb1 _ [] _ trivial (by kernel_rfl) (by kernel_rfl) (klR [(0, .eq (.bb false) (.bb t1))] (al1 (by simp only [ht1,c2,Leaf.ok,pm,if_true,if_false]) al0))
 ·subst ht1
  obtain rfl:=A5 h
  exact B5 hS trivial [] ⟨rfl,rfl,rfl⟩
def I5 (N:Nat) (p_s:Sound) (p_cond:Sound):Option Bool:=
 (F4 N p_s).bind fun y1=>
 lt (fun (z1:Bool)=>
  some z1
  ) fun k1=>
  if y1=true then
   (F4 N p_cond).bind fun y3=>
   if y3=true then
    if ((E7 .andNot .u32 p_cond.Plus p_s.Plus) == 0)=true then
     k1 ((E7 .andNot .u32 p_cond.Minus p_s.Minus) == 0)
    else
     k1 false
   else
    k1 false
  else
   k1 false
theorem AL9 {N:Nat} {p_s:Sound} {p_cond:Sound}   {y:Bool} (h:I5 N p_s p_cond=some y) :
 FunO S Ao9 [(.p (.agg (A0 p_s))),(.p (.agg (A0 p_cond)))] [] (pB y) ([]) []:=by
 unfold I5 at h
 refine A7 hS AL8 ?_
 obtain ⟨y1,e1,h⟩:=A4 h
 refine A3 hS [] trivial (O5 hS hL e1) ?_
 refine Bb4 hS trivial (B4 hS) h 0 (fun z1=>⟨[(4,(pB z1))], []⟩) (fun M1 k1 hb1 h=>?_) (fun z1 h=>?_)
 ·refine A9 hS trivial (b:=y1) (fun c5=>?_) (fun c5=>?_)
  ·replace h:=itT c5 h
   obtain ⟨y3,e3,h⟩:=A4 h
   refine A3 hS [] trivial (O5 hS hL e3) ?_
   refine A9 hS trivial (b:=y3) (fun c6=>?_) (fun c6=>?_)
   ·replace h:=itT c6 h
    refine A9 hS trivial (b:=(E7 .andNot .u32 p_cond.Plus p_s.Plus) == 0) (fun c7=>?_) (fun c7=>?_)
    ·replace h:=itT c7 h
     exact hb1 _ [] _ ((E7 .andNot .u32 p_cond.Minus p_s.Minus) == 0) trivial h
    ·replace h:=itF c7 h
     exact hb1 _ [] _ false trivial h
   ·replace h:=itF c6 h
    exact hb1 _ [] _ false trivial h
  ·replace h:=itF c5 h
   exact hb1 _ [] _ false trivial h
 ·obtain rfl:=A5 h
  exact B5 hS trivial [] ⟨rfl,rfl,rfl⟩
def Ak0 (N:Nat) (p_s:Sound):Option Int:=
 some (E7 .or .u32 p_s.Plus p_s.Minus)
theorem AY3 {N:Nat} {p_s:Sound}   {y:Int} (h:Ak0 N p_s=some y) :
 FunO S AX6 [(.p (.agg (A0 p_s)))] [] (pU y) ([]) []:=by
 unfold Ak0 at h
 refine A7 hS BE6 ?_
 obtain rfl:=A5 h
 exact B5 hS trivial [] ⟨rfl,rfl,rfl⟩
def Ae2 (N:Nat) (p_s:Sound) (p_from:Sound) (p_set:Int):Option Sound:=
 some (⟨E7 .or .u32 (E7 .andNot .u32 p_s.Plus p_set) (E7 .and .u32 p_from.Plus p_set),E7 .or .u32 (E7 .andNot .u32 p_s.Minus p_set) (E7 .and .u32 p_from.Minus p_set)⟩:Sound)
theorem AY4 {N:Nat} {p_s:Sound} {p_from:Sound} {p_set:Int}   {y:Sound} (h:Ae2 N p_s p_from p_set=some y) :
 FunO S AX7 [(.p (.agg (A0 p_s))),(.p (.agg (A0 p_from))),(pU p_set)] [] (.p (.agg (A0 y))) ([]) []:=by
 unfold Ae2 at h
 refine A7 hS BE7 ?_
 obtain rfl:=A5 h
 exact B5 hS trivial [] ⟨rfl,rfl,rfl⟩
def M9 (N:Nat) (p_s:Sound) (p_clear:Int) (p_set:Sound):Option (Sound × Int):=
 (F4 N p_s).bind fun y1=>
 lt (fun (z1:Bool)=>
  if z1=true then
   some ((⟨0,0⟩:Sound),14)
  else
   lt (fun (z2:Bool)=>
    if z2=true then
     some ((⟨0,0⟩:Sound),2)
    else
     (Ak0 N p_set).bind fun y6=>
     (Ae2 N p_s p_set (E7 .or .u32 p_clear y6)).bind fun y7=>
     some (y7,0)
    ) fun k2=>
    if (decide (16777215 < p_clear))=true then
     k2 true
    else
     (Ak0 N p_set).bind fun y5=>
     k2 ((E7 .and .u32 p_clear y5) != 0)
  ) fun k1=>
  if (!y1)=true then
   k1 true
  else
   (F4 N p_set).bind fun y3=>
   k1 (!y3)
theorem Bd8 {N:Nat} {p_s:Sound} {p_clear:Int} {p_set:Sound}   {y:(Sound × Int)} (h:M9 N p_s p_clear p_set=some y) :
 FunO S AC9 [(.p (.agg (A0 p_s))),(pU p_clear),(.p (.agg (A0 p_set)))] [] (.tup [(.p (.agg (A0 y.1))),(pN y.2)]) ([]) []:=by
 unfold M9 at h
 refine A7 hS Bd2 ?_
 refine Ac2 hS trivial 5 4000 [(pI .u32 p_s.Plus),(pI .u32 p_s.Minus)] ?_
 refine Ac2 hS trivial 6 6000 [(pI .u32 p_set.Plus),(pI .u32 p_set.Minus)] ?_
 obtain ⟨y1,e1,h⟩:=A4 h
 refine A3 hS [] (by decide:(2:Nat)<=2) (O5 hS hL e1) ?_
 refine Bb4 hS trivial (B4 hS) h 0 (fun z1=>⟨[(15,(pB z1)),(6,(.reg 7000 0)),(5,(.p (.ptr [(pI .u32 p_set.Plus),(pI .u32 p_set.Minus)]))),(3,(.p (.ptr [(pI .u32 p_s.Plus),(pI .u32 p_s.Minus)]))),(1,(pU p_clear))], [(7000,(.cells [(pU 0),(pU 0)]))]⟩) (fun M1 k1 hb1 h=>?_) (fun z1 h=>?_)
 ·refine A9 hS trivial (b:=!y1) (fun c3=>?_) (fun c3=>?_)
  ·replace h:=itT c3 h
   exact hb1 _ [(7000,7000)] _ true trivial h
  ·replace h:=itF c3 h
   obtain ⟨y3,e3,h⟩:=A4 h
   refine A3 hS [] (by decide:(2:Nat)<=2) (O5 hS hL e3) ?_
   exact hb1 _ [(7000,7000)] _ (!y3) trivial h
 ·refine A1 hS trivial (b:=z1) (fun c4=>?_) (fun c4=>?_)
  ·replace h:=itT c4 h
   obtain rfl:=A5 h
   exact B5 hS trivial [] ⟨rfl,rfl,rfl⟩
  ·replace h:=itF c4 h
   refine Bb4 hS trivial (B4 hS) h 0 (fun z2=>⟨[(25,(pB z2)),(6,(.reg 7000 0)),(5,(.p (.ptr [(pI .u32 p_set.Plus),(pI .u32 p_set.Minus)]))),(3,(.p (.ptr [(pI .u32 p_s.Plus),(pI .u32 p_s.Minus)]))),(1,(pU p_clear))], [(7000,(.cells [(pU 0),(pU 0)]))]⟩) (fun M2 k2 hb2 h=>?_) (fun z2 h=>?_)
   ·refine A9 hS trivial (b:=decide (16777215 < p_clear)) (fun c7=>?_) (fun c7=>?_)
    ·replace h:=itT c7 h
     exact hb2 _ [(7000,7000)] _ true trivial h
    ·replace h:=itF c7 h
     obtain ⟨y5,e5,h⟩:=A4 h
     refine A3 hS [] (by decide:(2:Nat)<=2) (AY3 hS hL e5) ?_
     exact hb2 _ [(7000,7000)] _ ((E7 .and .u32 p_clear y5) != 0) trivial h
   ·refine A1 hS trivial (b:=z2) (fun c8=>?_) (fun c8=>?_)
    ·replace h:=itT c8 h
     obtain rfl:=A5 h
     exact B5 hS trivial [] ⟨rfl,rfl,rfl⟩
    ·replace h:=itF c8 h
     refine Q4 hS trivial [0,1,3,4,6] ?_
     obtain ⟨y6,e6,h⟩:=A4 h
     refine At2 (And.intro (And.intro (by decide:(2:Nat)<=2) (by decide:(2:Nat)<=2)) (by decide:(2:Nat)<=2)) (AY3 hS hL e6) ?_
     obtain ⟨y7,e7,h⟩:=A4 h
     refine At2 trivial (AY4 hS hL e7) ?_
     refine Q1 trivial ?_
     obtain rfl:=A5 h
     exact B5 hS trivial [] ⟨rfl,rfl,rfl⟩
def Q3 (N:Nat) (p_s:Sound) (p_from:Sound) (p_mask:Int):Option (Sound × Int):=
 (F4 N p_s).bind fun y1=>
 lt (fun (z1:Bool)=>
  if z1=true then
   some ((⟨0,0⟩:Sound),14)
  else
   if (decide (16777215 < p_mask))=true then
    some ((⟨0,0⟩:Sound),2)
   else
    (Ae2 N p_s p_from p_mask).bind fun y4=>
    some (y4,0)
  ) fun k1=>
  if (!y1)=true then
   k1 true
  else
   (F4 N p_from).bind fun y3=>
   k1 (!y3)
theorem Bx2 {N:Nat} {p_s:Sound} {p_from:Sound} {p_mask:Int}   {y:(Sound × Int)} (h:Q3 N p_s p_from p_mask=some y) :
 FunO S AP9 [(.p (.agg (A0 p_s))),(.p (.agg (A0 p_from))),(pU p_mask)] [] (.tup [(.p (.agg (A0 y.1))),(pN y.2)]) ([]) []:=by
 unfold Q3 at h
 refine A7 hS Bw7 ?_
 obtain ⟨y1,e1,h⟩:=A4 h
 refine A3 hS [] trivial (O5 hS hL e1) ?_
 refine Bb4 hS trivial (B4 hS) h 0 (fun z1=>⟨[(15,(pB z1)),(6,(.reg 7000 0)),(4,(.reg 5000 0)),(3,(.reg 4000 0)),(2,(pU p_mask))], [(7000,(.cells [(pU 0),(pU 0)])),(5000,(.cells [(pU p_from.Plus),(pU p_from.Minus)])),(4000,(.cells [(pU p_s.Plus),(pU p_s.Minus)]))]⟩) (fun M1 k1 hb1 h=>?_) (fun z1 h=>?_)
 ·refine A9 hS trivial (b:=!y1) (fun c3=>?_) (fun c3=>?_)
  ·replace h:=itT c3 h
   exact hb1 _ [(4000,4000),(5000,5000),(7000,7000)] _ true trivial h
  ·replace h:=itF c3 h
   obtain ⟨y3,e3,h⟩:=A4 h
   refine A3 hS [] trivial (O5 hS hL e3) ?_
   exact hb1 _ [(4000,4000),(5000,5000),(7000,7000)] _ (!y3) trivial h
 ·refine A1 hS trivial (b:=z1) (fun c4=>?_) (fun c4=>?_)
  ·replace h:=itT c4 h
   obtain rfl:=A5 h
   exact B5 hS trivial [] ⟨rfl,rfl,rfl⟩
  ·replace h:=itF c4 h
   refine A1 hS trivial (b:=decide (16777215 < p_mask)) (fun c5=>?_) (fun c5=>?_)
   ·replace h:=itT c5 h
    obtain rfl:=A5 h
    exact B5 hS trivial [] ⟨rfl,rfl,rfl⟩
   ·replace h:=itF c5 h
    obtain ⟨y4,e4,h⟩:=A4 h
    refine A3 hS [] trivial (AY4 hS hL e4) ?_
    obtain rfl:=A5 h
    exact B5 hS trivial [] ⟨rfl,rfl,rfl⟩
def I6 (N:Nat) (p_s:Sound):Option Bool:=
 Aa9 N (fun self1 (x1:Int)=>
  if (decide (x1 < 32))=true then
   if ((0:Int)<=x1/\(0:Int)<=x1) then
    if ((((E7 .and .u32 (shI .shr .u32 p_s.Plus x1) 1) == 1) && ((E7 .and .u32 (shI .shr .u32 p_s.Minus x1) 1) == 1)) || ((((E7 .and .u32 (shI .shr .u32 p_s.Plus x1) 1) == 1) || ((E7 .and .u32 (shI .shr .u32 p_s.Minus x1) 1) == 1)) && (decide (24<=x1))))=true then
     some false
    else
     self1 (IntKind.wrap .i64 (x1+1))
   else none
  else
   some true
  ) 0
def AI7 (N:Nat) (p_f:Int):Option Bool:=
 some ((decide (0<=p_f)) && (decide (p_f < 24)))
def Ac4 (N:Nat) (p_s:Sound) (p_f:Int):Option Int:=
 (I6 N p_s).bind fun y1=>
 lt (fun (z1:Bool)=>
  if z1=true then
   some 0
  else
   if (0:Int)<=p_f then
    if ((E7 .and .u32 (shI .shr .u32 p_s.Plus p_f) 1) == 1)=true then
     some 1
    else
     if (0:Int)<=p_f then
      if ((E7 .and .u32 (shI .shr .u32 p_s.Minus p_f) 1) == 1)=true then
       some (-1)
      else
       some 0
     else none
   else none
  ) fun k1=>
  if (!y1)=true then
   k1 true
  else
   (AI7 N p_f).bind fun y3=>
   k1 (!y3)
def Ap1 (N:Nat) (p_s:Sound) (p_f:Int) (p_v:Int):Option Sound:=
 if (0:Int)<=p_f then
  if (p_v == 1)=true then
   if (p_v == (-1))=true then
    some (⟨E7 .or .u32 (E7 .andNot .u32 p_s.Plus (shI .shl .u32 1 p_f)) (shI .shl .u32 1 p_f),E7 .or .u32 (E7 .andNot .u32 p_s.Minus (shI .shl .u32 1 p_f)) (shI .shl .u32 1 p_f)⟩:Sound)
   else
    some (⟨E7 .or .u32 (E7 .andNot .u32 p_s.Plus (shI .shl .u32 1 p_f)) (shI .shl .u32 1 p_f),E7 .andNot .u32 p_s.Minus (shI .shl .u32 1 p_f)⟩:Sound)
  else
   if (p_v == (-1))=true then
    some (⟨E7 .andNot .u32 p_s.Plus (shI .shl .u32 1 p_f),E7 .or .u32 (E7 .andNot .u32 p_s.Minus (shI .shl .u32 1 p_f)) (shI .shl .u32 1 p_f)⟩:Sound)
   else
    some (⟨E7 .andNot .u32 p_s.Plus (shI .shl .u32 1 p_f),E7 .andNot .u32 p_s.Minus (shI .shl .u32 1 p_f)⟩:Sound)
 else none
def T5 (N:Nat) (p_s:Sound) (p_cond:Sound):Option Bool:=
 (I6 N p_s).bind fun y1=>
 lt (fun (z1:Bool)=>
  if z1=true then
   some false
  else
   Aa9 N (fun self1 (x3:Int)=>
    if (decide (x3 < 24))=true then
     (Ac4 N p_cond x3).bind fun y10=>
     lt (fun (z4:Bool)=>
      if z4=true then
       some false
      else
       self1 (IntKind.wrap .i64 (x3+1))
      ) fun k4=>
      if (y10 != 0)=true then
       (Ac4 N p_s x3).bind fun y12=>
       k4 (y12 != y10)
      else
       k4 false
    else
     some true
    ) 0
  ) fun k1=>
  if (!y1)=true then
   k1 true
  else
   (I6 N p_cond).bind fun y3=>
   k1 (!y3)
def T6 (N:Nat) (p_s:Sound) (p_clear:Int) (p_set:Sound):Option (Sound × Int):=
 (I6 N p_s).bind fun y1=>
 lt (fun (z1:Bool)=>
  if z1=true then
   some ((⟨0,0⟩:Sound),14)
  else
   if ((decide (16777215 < p_clear)) || ((E7 .and .u32 p_clear (E7 .or .u32 p_set.Plus p_set.Minus)) != 0))=true then
    some ((⟨0,0⟩:Sound),2)
   else
    CA6 N (fun self1 (x2:Int) (x3:Int) (x4:Int)=>
     if (decide (x4 < 24))=true then
      if (0:Int)<=x4 then
       if ((E7 .and .u32 (shI .shr .u32 p_clear x4) 1) == 1)=true then
        (Ap1 N (⟨x2,x3⟩:Sound) x4 0).bind fun y18=>
        (Ac4 N p_set x4).bind fun y19=>
        if (y19 != 0)=true then
         (Ac4 N p_set x4).bind fun y20=>
         (Ap1 N y18 x4 y20).bind fun y21=>
         self1 y21.Plus y21.Minus (IntKind.wrap .i64 (x4+1))
        else
         self1 y18.Plus y18.Minus (IntKind.wrap .i64 (x4+1))
       else
        (Ac4 N p_set x4).bind fun y22=>
        if (y22 != 0)=true then
         (Ac4 N p_set x4).bind fun y23=>
         (Ap1 N (⟨x2,x3⟩:Sound) x4 y23).bind fun y24=>
         self1 y24.Plus y24.Minus (IntKind.wrap .i64 (x4+1))
        else
         self1 x2 x3 (IntKind.wrap .i64 (x4+1))
      else none
     else
      some ((⟨x2,x3⟩:Sound),0)
     ) p_s.Plus p_s.Minus 0
  ) fun k1=>
  if (!y1)=true then
   k1 true
  else
   (I6 N p_set).bind fun y3=>
   k1 (!y3)
def Ae3 (N:Nat) (p_s:Sound) (p_from:Sound) (p_mask:Int):Option (Sound × Int):=
 (I6 N p_s).bind fun y1=>
 lt (fun (z1:Bool)=>
  if z1=true then
   some ((⟨0,0⟩:Sound),14)
  else
   if (decide (16777215 < p_mask))=true then
    some ((⟨0,0⟩:Sound),2)
   else
    CA6 N (fun self1 (x2:Int) (x3:Int) (x4:Int)=>
     if (decide (x4 < 24))=true then
      if (0:Int)<=x4 then
       if ((E7 .and .u32 (shI .shr .u32 p_mask x4) 1) == 1)=true then
        (Ac4 N p_from x4).bind fun y8=>
        (Ap1 N (⟨x2,x3⟩:Sound) x4 y8).bind fun y9=>
        self1 y9.Plus y9.Minus (IntKind.wrap .i64 (x4+1))
       else
        self1 x2 x3 (IntKind.wrap .i64 (x4+1))
      else none
     else
      some ((⟨x2,x3⟩:Sound),0)
     ) p_s.Plus p_s.Minus 0
  ) fun k1=>
  if (!y1)=true then
   k1 true
  else
   (I6 N p_from).bind fun y3=>
   k1 (!y3)
def T7 (N:Nat) (p_s:Sound):Option Bool:=
 some ((((E7 .and .u32 p_s.Plus p_s.Minus) == 0) && (decide (p_s.Plus < 16777216))) && (decide (p_s.Minus < 16777216)))
def Ae4 (N:Nat) (p_w:(Sl Sound)):Option Int:=
 if (decide (32 < (p_w.n:Int)))=true then
  some 11
 else
  Aa9 N (fun self1 (x1:Int)=>
   if (decide (x1 < (p_w.n:Int)))=true then
    if ((0:Int)<=x1/\x1 < (p_w.n:Int)) then
     (T7 N (p_w.g x1.toNat)).bind fun y3=>
     if (!y3)=true then
      some 14
     else
      self1 (IntKind.wrap .i64 (x1+1))
    else none
   else
    some 0
   ) 0
def As1 (N:Nat) (p_a:(Sl Sound)) (p_b:(Sl Sound)):Option Bool:=
 if ((p_a.n:Int) != (p_b.n:Int))=true then
  some false
 else
  Aa9 N (fun self1 (x1:Int)=>
   if (decide (x1 < (p_a.n:Int)))=true then
    if (((0:Int)<=x1/\x1 < (p_a.n:Int))/\((0:Int)<=x1/\x1 < (p_b.n:Int))) then
     if ((((p_a.g x1.toNat).Plus == (p_b.g x1.toNat).Plus) && ((p_a.g x1.toNat).Minus == (p_b.g x1.toNat).Minus)) != true)=true then
      some false
     else
      self1 (IntKind.wrap .i64 (x1+1))
    else none
   else
    some true
   ) 0
theorem Cy2 {N:Nat} {p_a:(Sl Sound)} {p_b:(Sl Sound)}   {y:Bool} (h:As1 N p_a p_b=some y) :
 FunO S AW9 [(.p (vSl 2 A0 p_a)),(.p (vSl 2 A0 p_b))] [] (pB y) ([]) []:=by
 unfold As1 at h
 refine A7 hS BD8 ?_
 refine A1 hS trivial (b:=(p_a.n:Int) != (p_b.n:Int)) (fun c1=>?_) (fun c1=>?_)
 ·replace h:=itT c1 h
  obtain rfl:=A5 h
  exact B5 hS trivial [] ⟨rfl,rfl,rfl⟩
 ·replace h:=itF c1 h
  refine Ai0 hS trivial h (fun x1=>⟨[(5,(pN x1)),(1,(.p (vSl 2 A0 p_b))),(0,(.p (vSl 2 A0 p_a)))], []⟩) (ids:=[]) (fun _ _ _ _ _ self1 x1 hb1 h=>?_)
  refine A1 hS trivial (b:=decide (x1 < (p_a.n:Int))) (fun c8=>?_) (fun c8=>?_)
  ·replace h:=itT c8 h
   refine Q4 hS trivial [2,3,6,7] ?_
   obtain ⟨c9,h⟩:=P0 h
   refine Q1 (And.intro (And.intro (And.intro (And.intro c9.1 (by decide:(2:Nat)<=2)) c9.2) (by decide:(2:Nat)<=2)) (by decide +kernel:Cg0 Tryz.prog B9=true)) ?_
   refine A1 hS trivial (b:=((((p_a.g x1.toNat).Plus == (p_b.g x1.toNat).Plus) && ((p_a.g x1.toNat).Minus == (p_b.g x1.toNat).Minus)) != true)) (fun c10=>?_) (fun c10=>?_)
   ·replace h:=itT c10 h
    obtain rfl:=A5 h
    exact B5 hS trivial [] ⟨rfl,rfl,rfl⟩
   ·replace h:=itF c10 h
    exact hb1 _ [] _ (IntKind.wrap .i64 (x1+1)) trivial h
  ·replace h:=itF c8 h
   obtain rfl:=A5 h
   exact B5 hS trivial [] ⟨rfl,rfl,rfl⟩
def Az7 (N:Nat) (p_w:(Sl Sound)):Option (Sl Sound):=
 T0 N (fun self1 (x1:Sl Sound) (x2:Int)=>
  if (decide (x2 < (p_w.n:Int)))=true then
   if (((0:Int)<=x2/\x2 < (p_w.n:Int))/\((x1.n+(Sl.of [(p_w.g x2.toNat)]:Sl Sound).n) * 8<=140737488355328/\x1.n+(Sl.of [(p_w.g x2.toNat)]:Sl Sound).n<=140737488355328)) then
    self1 (x1.push (p_w.g x2.toNat)) (IntKind.wrap .i64 (x2+1))
   else none
  else
   some x1
  ) (Sl.nil:Sl Sound) 0
def Ab1 (N:Nat) (p_s:Sound):Option Bool:=
 some (((E7 .and .u32 p_s.Plus p_s.Minus) == 0) && ((shI .shr .u32 (E7 .or .u32 p_s.Plus p_s.Minus) 24) == 0))
theorem Bx3 {N:Nat} {p_s:Sound}   {y:Bool} (h:Ab1 N p_s=some y) :
 FunO S AP5 [(.p (.agg (A0 p_s)))] [] (pB y) ([]) []:=by
 unfold Ab1 at h
 refine A7 hS Bv9 ?_
 obtain ⟨t1,ht1⟩:∃ x:Bool,x=(((E7 .and .u32 p_s.Plus p_s.Minus) == 0) && ((shI .shr .u32 (E7 .or .u32 p_s.Plus p_s.Minus) 24) == 0)):=⟨_,rfl⟩
 refine Ai3 hS trivial (B4 hS) 0 ⟨[(2,(pB t1))], []⟩ (fun M1 hb1=>?_) ?_
 ·refine A9 hS trivial (b:=(E7 .and .u32 p_s.Plus p_s.Minus) == 0) (fun c2=>?_) (fun c2=>?_)
  ·exact hb1 _ [] _ (by decide:(0:Int)<=24) (by kernel_rfl) (by kernel_rfl) (klR [(0, .eq (.bb ((shI .shr .u32 (E7 .or .u32 p_s.Plus p_s.Minus) 24) == 0)) (.bb t1))] (al1 (by simp only [ht1,c2,Leaf.ok,pm,if_true,if_false]) al0))
  ·exact hb1 _ [] _ trivial (by kernel_rfl) (by kernel_rfl) (klR [(0, .eq (.bb false) (.bb t1))] (al1 (by simp only [ht1,c2,Leaf.ok,pm,if_true,if_false]) al0))
 ·subst ht1
  obtain rfl:=A5 h
  exact B5 hS trivial [] ⟨rfl,rfl,rfl⟩
def T8 (N:Nat) (p_w:(Sl Sound)):Option Int:=
 if (decide (32 < (p_w.n:Int)))=true then
  some 11
 else
  Aa9 N (fun self1 (x1:Int)=>
   if (decide (x1 < (p_w.n:Int)))=true then
    if ((0:Int)<=x1/\x1 < (p_w.n:Int)) then
     (Ab1 N (p_w.g x1.toNat)).bind fun y3=>
     if (!y3)=true then
      some 14
     else
      self1 (IntKind.wrap .i64 (x1+1))
    else none
   else
    some 0
   ) 0
theorem Ax2 {N:Nat} {p_w:(Sl Sound)}   {y:Int} (h:T8 N p_w=some y) :
 FunO S AP4 [(.p (vSl 2 A0 p_w))] [] (pN y) ([]) []:=by
 unfold T8 at h
 refine A7 hS Bv8 ?_
 refine A1 hS trivial (b:=decide (32 < (p_w.n:Int))) (fun c1=>?_) (fun c1=>?_)
 ·replace h:=itT c1 h
  obtain rfl:=A5 h
  exact B5 hS trivial [] ⟨rfl,rfl,rfl⟩
 ·replace h:=itF c1 h
  refine Ai0 hS trivial h (fun x1=>⟨[(10,(pN x1)),(9,(pN (p_w.n:Int))),(8,(.p (vSl 2 A0 p_w)))], []⟩) (ids:=[]) (fun _ _ _ _ _ self1 x1 hb1 h=>?_)
  refine A1 hS trivial (b:=decide (x1 < (p_w.n:Int))) (fun c8=>?_) (fun c8=>?_)
  ·replace h:=itT c8 h
   obtain ⟨c9,h⟩:=P0 h
   obtain ⟨y3,e3,h⟩:=A4 h
   refine A3 hS [] (And.intro c9 (by decide:(2:Nat)<=2)) (Bx3 hS hL e3) ?_
   refine A1 hS trivial (b:=!y3) (fun c10=>?_) (fun c10=>?_)
   ·replace h:=itT c10 h
    obtain rfl:=A5 h
    exact B5 hS trivial [] ⟨rfl,rfl,rfl⟩
   ·replace h:=itF c10 h
    exact hb1 _ [] _ (IntKind.wrap .i64 (x1+1)) trivial h
  ·replace h:=itF c8 h
   obtain rfl:=A5 h
   exact B5 hS trivial [] ⟨rfl,rfl,rfl⟩
def D9 (N:Nat) (p_s1:(Sl Sound)) (p_s2:(Sl Sound)):Option Bool:=
 if ((p_s1.n:Int) != (p_s2.n:Int))=true then
  some false
 else
  Aa9 N (fun self1 (x1:Int)=>
   if (decide (x1 < (p_s1.n:Int)))=true then
    if (((0:Int)<=x1/\x1 < (p_s1.n:Int))/\((0:Int)<=x1/\x1 < (p_s2.n:Int))) then
     if ((((p_s1.g x1.toNat).Plus == (p_s2.g x1.toNat).Plus) && ((p_s1.g x1.toNat).Minus == (p_s2.g x1.toNat).Minus)) != true)=true then
      some false
     else
      self1 (IntKind.wrap .i64 (x1+1))
    else none
   else
    some true
   ) 0
theorem X3 {N:Nat} {p_s1:(Sl Sound)} {p_s2:(Sl Sound)}   {y:Bool} (h:D9 N p_s1 p_s2=some y) :
 FunO S K5 [(.p (vSl 2 A0 p_s1)),(.p (vSl 2 A0 p_s2))] [] (pB y) ([]) []:=by
 unfold D9 at h
 refine A7 hS W8 ?_
 refine A1 hS trivial (b:=(p_s1.n:Int) != (p_s2.n:Int)) (fun c1=>?_) (fun c1=>?_)
 ·replace h:=itT c1 h
  obtain rfl:=A5 h
  exact B5 hS trivial [] ⟨rfl,rfl,rfl⟩
 ·replace h:=itF c1 h
  refine Ai0 hS trivial h (fun x1=>⟨[(13,(pN x1)),(12,(pN (p_s1.n:Int))),(1,(.p (vSl 2 A0 p_s2))),(0,(.p (vSl 2 A0 p_s1)))], []⟩) (ids:=[]) (fun _ _ _ _ _ self1 x1 hb1 h=>?_)
  refine A1 hS trivial (b:=decide (x1 < (p_s1.n:Int))) (fun c8=>?_) (fun c8=>?_)
  ·replace h:=itT c8 h
   refine Q4 hS trivial [2,3,6,7] ?_
   obtain ⟨c9,h⟩:=P0 h
   refine Q1 (And.intro (And.intro (And.intro (And.intro c9.1 (by decide:(2:Nat)<=2)) c9.2) (by decide:(2:Nat)<=2)) (by decide +kernel:Cg0 Tryz.prog B9=true)) ?_
   refine A1 hS trivial (b:=((((p_s1.g x1.toNat).Plus == (p_s2.g x1.toNat).Plus) && ((p_s1.g x1.toNat).Minus == (p_s2.g x1.toNat).Minus)) != true)) (fun c10=>?_) (fun c10=>?_)
   ·replace h:=itT c10 h
    obtain rfl:=A5 h
    exact B5 hS trivial [] ⟨rfl,rfl,rfl⟩
   ·replace h:=itF c10 h
    exact hb1 _ [] _ (IntKind.wrap .i64 (x1+1)) trivial h
  ·replace h:=itF c8 h
   obtain rfl:=A5 h
   exact B5 hS trivial [] ⟨rfl,rfl,rfl⟩
def T9 (N:Nat) (p_a:(Sl Sound)) (p_b:(Sl Sound)):Option Bool:=
 (D9 N p_a p_b).bind fun y1=>
 some y1
theorem Ax3 {N:Nat} {p_a:(Sl Sound)} {p_b:(Sl Sound)}   {y:Bool} (h:T9 N p_a p_b=some y) :
 FunO S AP2 [(.p (vSl 2 A0 p_a)),(.p (vSl 2 A0 p_b))] [] (pB y) ([]) []:=by
 unfold T9 at h
 refine A7 hS Bv5 ?_
 obtain ⟨y1,e1,h⟩:=A4 h
 refine A3 hS [] trivial (X3 hS hL e1) ?_
 obtain rfl:=A5 h
 exact B5 hS trivial [] ⟨rfl,rfl,rfl⟩
def N0 (N:Nat) (p_s:Sound):Option Bool:=
 some (((E7 .and .u32 p_s.Plus p_s.Minus) == 0) && ((shI .shr .u32 (E7 .or .u32 p_s.Plus p_s.Minus) 24) == 0))
theorem Am0 {N:Nat} {p_s:Sound}   {y:Bool} (h:N0 N p_s=some y) :
 FunO S AP7 [(.p (.agg (A0 p_s)))] [] (pB y) ([]) []:=by
 unfold N0 at h
 refine A7 hS Bw2 ?_
 obtain ⟨t1,ht1⟩:∃ x:Bool,x=(((E7 .and .u32 p_s.Plus p_s.Minus) == 0) && ((shI .shr .u32 (E7 .or .u32 p_s.Plus p_s.Minus) 24) == 0)):=⟨_,rfl⟩
 refine Ai3 hS trivial (B4 hS) 0 ⟨[(2,(pB t1))], []⟩ (fun M1 hb1=>?_) ?_
 ·refine A9 hS trivial (b:=(E7 .and .u32 p_s.Plus p_s.Minus) == 0) (fun c2=>?_) (fun c2=>?_)
  ·exact hb1 _ [] _ (by decide:(0:Int)<=24) (by kernel_rfl) (by kernel_rfl) (klR [(0, .eq (.bb ((shI .shr .u32 (E7 .or .u32 p_s.Plus p_s.Minus) 24) == 0)) (.bb t1))] (al1 (by simp only [ht1,c2,Leaf.ok,pm,if_true,if_false]) al0))
  ·exact hb1 _ [] _ trivial (by kernel_rfl) (by kernel_rfl) (klR [(0, .eq (.bb false) (.bb t1))] (al1 (by simp only [ht1,c2,Leaf.ok,pm,if_true,if_false]) al0))
 ·subst ht1
  obtain rfl:=A5 h
  exact B5 hS trivial [] ⟨rfl,rfl,rfl⟩
def N8 (N:Nat) (p_n:Int):Option (Nat->Int):=
 T0 N (fun self1 (x1:Nat->Int) (x2:Int)=>
  if (decide (x2 < (IntKind.wrap .i64 (p_n+1))))=true then
   if (((0:Int)<=x2/\((0:Int)<=x2/\x2 < 33))/\(0+x2.toNat * 1) < 33) then
    self1 (AW5 x1 (0+x2.toNat * 1) (shI .shl .u64 1 x2)) (IntKind.wrap .i64 (x2+1))
   else none
  else
   some x1
  ) (fun _=>0) 0
theorem Ak1 {N:Nat} {p_n:Int}   {y:(Nat->Int)} (h:N8 N p_n=some y) :
 FunO S Aw8 [(pN p_n)] [] (.p (.agg (cA 33 (pI .u64) y))) ([]) []:=by
 unfold N8 at h
 refine A7 hS AY0 ?_
 refine Ab0 hS trivial h (fun x1 x2=>⟨[(7,(pN x2)),(6,(pN (IntKind.wrap .i64 (p_n+1)))),(3,(.reg 4000 0)),(2,(.reg 3000 0))], [(4000,(.arr 33 (fun i=>pI .u64 (x1 i)))),(3000,(.arr 33 (fun i=>pI .u64 ((fun _=>0) i))))]⟩) (ids:=[(3000,3000),(4000,4000)]) (fun _ _ _ _ _ self1 x1 x2 hb1 h=>?_) (hle:=(klR [(2, .fn 33 33 (fun i=>[(fun i=>(List.replicate 33 (pI .u64 0)).getD i default) i]) (fun i=>[pI .u64 ((fun _=>0) i)])),(3, .fn 33 33 (fun i=>[(fun i=>(List.replicate 33 (pI .u64 0)).getD i default) i]) (fun i=>[pI .u64 ((fun _=>0) i)]))] (al1 ⟨rfl,(Ae1 (z:=pI .u64 0) rfl)⟩ (al1 ⟨rfl,(Ae1 (z:=pI .u64 0) rfl)⟩ al0))))
 refine A1 hS trivial (b:=decide (x2 < (IntKind.wrap .i64 (p_n+1)))) (fun c3=>?_) (fun c3=>?_)
 ·replace h:=itT c3 h
  obtain ⟨c4,h⟩:=P0 h
  exact hb1 _ [(3000,3000),(4000,4000)] _ (AW5 x1 (0+x2.toNat * 1) (shI .shl .u64 1 x2)) (IntKind.wrap .i64 (x2+1)) c4 h (by kernel_rfl) (by kernel_rfl) (klR [(2, .fn 33 33 (fun i=>[(fun i=>if i=(0+x2.toNat * 1) then (pI .u64 (shI .shl .u64 1 x2)) else (fun i=>pI .u64 (x1 i)) i) i]) (fun i=>[pI .u64 ((AW5 x1 (0+x2.toNat * 1) (shI .shl .u64 1 x2)) i)]))] (al1 ⟨rfl,(Cw8 (c:=pI .u64) (v:=x1) (x:=shI .shl .u64 1 x2) (fun _ _=>rfl) rfl)⟩ al0))
 ·replace h:=itF c3 h
  obtain rfl:=A5 h
  exact B5 hS (And.intro rfl (E5 _ _):(0:Nat)=0/\(Ah3 33 (fun i=>pI .u64 (x1 i))).length=33) [] ⟨rfl,rfl,rfl⟩
def J8 (N:Nat) (p_x:(Nat->Int)) (p_y:(Nat->Int)):Option (Nat->Int):=
 T0 N (fun self1 (x1:Nat->Int) (x2:Int)=>
  if (decide (x2 < 33))=true then
   if (((0:Int)<=x2/\x2 < 33)/\(0+x2.toNat * 1) < 33) then
    if (((((0:Int)<=x2/\x2 < 33)/\(0+x2.toNat * 1) < 33)/\((0:Int)<=x2/\x2 < 33))/\(0+x2.toNat * 1) < 33) then
     self1 (AW5 x1 (0+x2.toNat * 1) (E7 .or .u64 (x1 (0+x2.toNat * 1)) (p_y (0+x2.toNat * 1)))) (IntKind.wrap .i64 (x2+1))
    else none
   else none
  else
   some x1
  ) p_x 0
theorem Am1 {N:Nat} {p_x:(Nat->Int)} {p_y:(Nat->Int)}   {y:(Nat->Int)} (h:J8 N p_x p_y=some y) :
 FunO S Al8 [(.reg 0 0),(.reg 1 0)] [(.arr 33 (fun i=>pI .u64 (p_x i))),(.arr 33 (fun i=>pI .u64 (p_y i)))] (.tup []) ([(.arr 33 (fun i=>pI .u64 (y i))),(.arr 33 (fun i=>pI .u64 (p_y i)))]) [true,true]:=by
 unfold J8 at h
 refine A7 hS AI4 ?_
 refine Ab0 hS trivial h (fun x1 x2=>⟨[(7,(pN x2)),(6,(.reg 1 0)),(0,(.reg 0 0))], [(1,(.arr 33 (fun i=>pI .u64 (p_y i)))),(0,(.arr 33 (fun i=>pI .u64 (x1 i))))]⟩) (ids:=[(0,0),(1,1)]) (fun _ _ _ _ _ self1 x1 x2 hb1 h=>?_)
 refine A1 hS trivial (b:=decide (x2 < 33)) (fun c7=>?_) (fun c7=>?_)
 ·replace h:=itT c7 h
  refine BD2 hS trivial ?_
  obtain ⟨c8,h⟩:=P0 h
  refine Q1 c8 ?_
  refine BD2 hS trivial ?_
  obtain ⟨c9,h⟩:=P0 h
  refine Q1 c9 ?_
  exact hb1 _ [(0,0),(1,1)] _ (AW5 x1 (0+x2.toNat * 1) (E7 .or .u64 (x1 (0+x2.toNat * 1)) (p_y (0+x2.toNat * 1)))) (IntKind.wrap .i64 (x2+1)) trivial h (by kernel_rfl) (by kernel_rfl) (klR [(2, .fn 33 33 (fun i=>[(fun i=>if i=(0+x2.toNat * 1) then (pI .u64 (E7 .or .u64 (x1 (0+x2.toNat * 1)) (p_y (0+x2.toNat * 1)))) else (fun i=>pI .u64 (x1 i)) i) i]) (fun i=>[pI .u64 ((AW5 x1 (0+x2.toNat * 1) (E7 .or .u64 (x1 (0+x2.toNat * 1)) (p_y (0+x2.toNat * 1)))) i)]))] (al1 ⟨rfl,(Cw8 (c:=pI .u64) (v:=x1) (x:=E7 .or .u64 (x1 (0+x2.toNat * 1)) (p_y (0+x2.toNat * 1))) (fun _ _=>rfl) rfl)⟩ al0))
 ·replace h:=itF c7 h
  obtain rfl:=A5 h
  exact B6 hS trivial ⟨[], [(1,(.arr 33 (fun i=>pI .u64 (p_y i)))),(0,(.arr 33 (fun i=>pI .u64 (x1 i))))]⟩ [0,1] (ids:=[(0,0),(1,1)]) ⟨rfl,rfl,rfl⟩
def V6 (N:Nat) (p_w:(Sl Sound)) (p_at:Int):Option Int:=
 if ((decide (p_at < 0)) || (decide ((p_w.n:Int) < p_at)))=true then
  some 3
 else
  some 0
theorem AI8 {N:Nat} {p_w:(Sl Sound)} {p_at:Int}   {y:Int} (h:V6 N p_w p_at=some y) :
 FunO S AI3 [(.p (vSl 2 A0 p_w)),(pN p_at)] [] (pN y) ([]) []:=by
 unfold V6 at h
 refine A7 hS Bn1 ?_
 obtain ⟨t1,ht1⟩:∃ x:Bool,x=((decide (p_at < 0)) || (decide ((p_w.n:Int) < p_at))):=⟨_,rfl⟩
 refine Ai3 hS trivial (B4 hS) 0 ⟨[(12,(pB t1))], []⟩ (fun M1 hb1=>?_) ?_
 ·refine A9 hS trivial (b:=decide (p_at < 0)) (fun c2=>?_) (fun c2=>?_)
  ·exact hb1 _ [] _ trivial (by kernel_rfl) (by kernel_rfl) (klR [(0, .eq (.bb true) (.bb t1))] (al1 (by simp only [ht1,c2,Leaf.ok,pm,if_true,if_false]) al0))
  ·exact hb1 _ [] _ trivial (by kernel_rfl) (by kernel_rfl) (klR [(0, .eq (.bb (decide ((p_w.n:Int) < p_at))) (.bb t1))] (al1 (by simp only [ht1,c2,Leaf.ok,pm,if_true,if_false]) al0))
 ·subst ht1
  refine A1 hS trivial (b:=((decide (p_at < 0)) || (decide ((p_w.n:Int) < p_at)))) (fun c3=>?_) (fun c3=>?_)
  ·replace h:=itT c3 h
   obtain rfl:=A5 h
   exact B5 hS trivial [] ⟨rfl,rfl,rfl⟩
  ·replace h:=itF c3 h
   obtain rfl:=A5 h
   exact B5 hS trivial [] ⟨rfl,rfl,rfl⟩
def Y3 (N:Nat) (p_p:Pat):Option Int:=
 if (if (p_p.Kind == 0)=true then p_p.Kind == 0 else (if (p_p.Kind == 2)=true then p_p.Kind == 2 else p_p.Kind == 6))=true then
  lt (fun (z1:Bool)=>
   if z1=true then
    some 2
   else
    (N0 N p_p.Is).bind fun y1=>
    if (!y1)=true then
     some 14
    else
     some 0
   ) fun k1=>
   if (((p_p.Is.Plus == 0) && (p_p.Is.Minus == 0)) != true)=true then
    k1 true
   else
    if p_p.Not=true then
     k1 true
    else
     if (p_p.Min != 0)=true then
      k1 true
     else
      if (p_p.Max != 0)=true then
       k1 true
      else
       k1 (decide (0 < (p_p.L.n:Int)))
 else
  if (p_p.Kind == 1)=true then
   lt (fun (z2:Bool)=>
    if z2=true then
     some 2
    else
     (N0 N p_p.Is).bind fun y2=>
     if (!y2)=true then
      some 14
     else
      some 0
    ) fun k2=>
    if (((0 == 0) && (0 == 0)) != true)=true then
     k2 true
    else
     if (p_p.Min != 0)=true then
      k2 true
     else
      if (p_p.Max != 0)=true then
       k2 true
      else
       k2 (decide (0 < (p_p.L.n:Int)))
  else
   lt (fun (z3:Int × Int)=>
    if (((((((p_p.Is.Plus == 0) && (p_p.Is.Minus == 0)) != true) || p_p.Not) || (z3.1 != 0)) || (z3.2 != 0)) || (decide (0 < 0)))=true then
     some 2
    else
     (N0 N p_p.Is).bind fun y3=>
     if (!y3)=true then
      some 14
     else
      some 0
    ) fun k3=>
    if (if (p_p.Kind == 3)=true then p_p.Kind == 3 else p_p.Kind == 4)=true then
     k3 (p_p.Min,p_p.Max)
    else
     if (p_p.Kind == 5)=true then
      if (((((p_p.L.n:Int) != 1) || (decide (p_p.Min < 0))) || (decide (32 < p_p.Min))) || ((p_p.Max != (-1)) && ((decide (p_p.Max < p_p.Min)) || (decide (32 < p_p.Max)))))=true then
       some 2
      else
       k3 (0,0)
     else
      some 2
theorem Bd9 {N:Nat} {p_p:Pat}   {y:Int} (h:Y3 N p_p=some y) :
 FunO S AC8 [(.p (.agg (C6 p_p)))] [] (pN y) ([]) []:=by
 unfold Y3 at h
 refine A7 hS Bd1 ?_
 obtain ⟨t1,ht1⟩:∃ x:Bool,x=(if (p_p.Kind == 0)=true then p_p.Kind == 0 else (if (p_p.Kind == 2)=true then p_p.Kind == 2 else p_p.Kind == 6)):=⟨_,rfl⟩
 refine Ai3 hS trivial (B4 hS) 0 ⟨[(8,(pB t1)),(7,(pN p_p.Kind)),(3,(.reg 4000 0)),(1,(.reg 2000 0))], [(4000,(.cells [(pN 0),(pU p_p.Is.Plus),(pU p_p.Is.Minus),(pB p_p.Not),(pN p_p.Min),(pN p_p.Max),(.p (.sl false 7 p_p.L.n (Ao7 p_p)))])),(2000,(.cells ((C6 p_p).map .p)))]⟩ (fun M1 hb1=>?_) ?_
 ·refine A1 hS trivial (b:=p_p.Kind == 0) (fun c3=>?_) (fun c3=>?_)
  ·exact hb1 _ [(2000,2000),(4000,4000)] _ trivial (by kernel_rfl) (by kernel_rfl) (klR [(0, .eq (.bb (p_p.Kind == 0)) (.bb t1))] (al1 (by simp only [ht1,c3,Leaf.ok,pm,if_true,if_false]) al0))
  ·refine A1 hS trivial (b:=p_p.Kind == 2) (fun c4=>?_) (fun c4=>?_)
   ·exact hb1 _ [(2000,2000),(4000,4000)] _ trivial (by kernel_rfl) (by kernel_rfl) (klR [(0, .eq (.bb (p_p.Kind == 2)) (.bb t1))] (al1 (by simp only [ht1,c3,c4,Leaf.ok,pm,if_true,if_false]) al0))
   ·exact hb1 _ [(2000,2000),(4000,4000)] _ trivial (by kernel_rfl) (by kernel_rfl) (klR [(0, .eq (.bb (p_p.Kind == 6)) (.bb t1))] (al1 (by simp only [ht1,c3,c4,Leaf.ok,pm,if_true,if_false]) al0))
 ·subst ht1
  refine A1 hS trivial (b:=(if (p_p.Kind == 0)=true then p_p.Kind == 0 else (if (p_p.Kind == 2)=true then p_p.Kind == 2 else p_p.Kind == 6))) (fun c28=>?_) (fun c28=>?_)
  ·replace h:=itT c28 h
   refine Bb4 hS (by decide +kernel:Cg0 Tryz.prog B9=true) (B4 hS) h 0 (fun z1=>⟨[(57,(pB z1)),(1,(.reg 2000 0))], [(2000,(.cells ((C6 p_p).map .p)))]⟩) (fun M4 k1 hb4 h=>?_) (fun z1 h=>?_)
   ·refine A9 hS trivial (b:=(((p_p.Is.Plus == 0) && (p_p.Is.Minus == 0)) != true)) (fun c37=>?_) (fun c37=>?_)
    ·replace h:=itT c37 h
     exact hb4 _ [(2000,2000)] _ true trivial h
    ·replace h:=itF c37 h
     refine A9 hS trivial (b:=p_p.Not) (fun c38=>?_) (fun c38=>?_)
     ·replace h:=itT c38 h
      exact hb4 _ [(2000,2000)] _ true trivial h
     ·replace h:=itF c38 h
      refine A9 hS trivial (b:=p_p.Min != 0) (fun c39=>?_) (fun c39=>?_)
      ·replace h:=itT c39 h
       exact hb4 _ [(2000,2000)] _ true trivial h
      ·replace h:=itF c39 h
       refine A9 hS trivial (b:=p_p.Max != 0) (fun c40=>?_) (fun c40=>?_)
       ·replace h:=itT c40 h
        exact hb4 _ [(2000,2000)] _ true trivial h
       ·replace h:=itF c40 h
        refine Aa1 hS trivial 79 ⟨[(78,(.p (vSl 7 C6 p_p.L))),(76,(.p (.v (.bool false)))),(1,(.reg 2000 0))], [(2000,(.cells ((C6 p_p).map .p)))]⟩ (ids:=[(2000,2000)]) ?_ (hle:=(klR [(0, .fn p_p.L.n p_p.L.n (Ao7 p_p) (fun i=>C6 (p_p.L.g i)))] (al1 ⟨rfl,Af3 p_p⟩ al0)))
        exact hb4 _ [(2000,2000)] _ (decide (0 < (p_p.L.n:Int))) trivial h
   ·refine A1 hS trivial (b:=z1) (fun c41=>?_) (fun c41=>?_)
    ·replace h:=itT c41 h
     obtain rfl:=A5 h
     exact B5 hS trivial [] ⟨rfl,rfl,rfl⟩
    ·replace h:=itF c41 h
     obtain ⟨y1,e1,h⟩:=A4 h
     refine A3 hS [] trivial (Am0 hS hL e1) ?_
     refine A1 hS trivial (b:=!y1) (fun c42=>?_) (fun c42=>?_)
     ·replace h:=itT c42 h
      obtain rfl:=A5 h
      exact B5 hS trivial [] ⟨rfl,rfl,rfl⟩
     ·replace h:=itF c42 h
      obtain rfl:=A5 h
      exact B5 hS trivial [] ⟨rfl,rfl,rfl⟩
  ·replace h:=itF c28 h
   refine A1 hS trivial (b:=p_p.Kind == 1) (fun c64=>?_) (fun c64=>?_)
   ·replace h:=itT c64 h
    refine Bb4 hS (by decide +kernel:Cg0 Tryz.prog B9=true) (B4 hS) h 0 (fun z2=>⟨[(57,(pB z2)),(1,(.reg 2000 0))], [(2000,(.cells ((C6 p_p).map .p)))]⟩) (fun M7 k2 hb7 h=>?_) (fun z2 h=>?_)
    ·refine A9 hS trivial (b:=(((0 == 0) && (0 == 0)) != true)) (fun c73=>?_) (fun c73=>?_)
     ·replace h:=itT c73 h
      exact hb7 _ [(2000,2000)] _ true trivial h
     ·replace h:=itF c73 h
      refine A9 hS trivial (b:=false) (fun c74=>?_) (fun c74=>?_)
      ·exact Bool.noConfusion ((rfl:false=false).symm.trans c74)
      ·refine A9 hS trivial (b:=p_p.Min != 0) (fun c75=>?_) (fun c75=>?_)
       ·replace h:=itT c75 h
        exact hb7 _ [(2000,2000)] _ true trivial h
       ·replace h:=itF c75 h
        refine A9 hS trivial (b:=p_p.Max != 0) (fun c76=>?_) (fun c76=>?_)
        ·replace h:=itT c76 h
         exact hb7 _ [(2000,2000)] _ true trivial h
        ·replace h:=itF c76 h
         refine Aa1 hS trivial 79 ⟨[(78,(.p (vSl 7 C6 p_p.L))),(76,(.p (.v (.bool false)))),(1,(.reg 2000 0))], [(2000,(.cells ((C6 p_p).map .p)))]⟩ (ids:=[(2000,2000)]) ?_ (hle:=(klR [(0, .fn p_p.L.n p_p.L.n (Ao7 p_p) (fun i=>C6 (p_p.L.g i)))] (al1 ⟨rfl,Af3 p_p⟩ al0)))
         exact hb7 _ [(2000,2000)] _ (decide (0 < (p_p.L.n:Int))) trivial h
    ·refine A1 hS trivial (b:=z2) (fun c77=>?_) (fun c77=>?_)
     ·replace h:=itT c77 h
      obtain rfl:=A5 h
      exact B5 hS trivial [] ⟨rfl,rfl,rfl⟩
     ·replace h:=itF c77 h
      obtain ⟨y2,e2,h⟩:=A4 h
      refine A3 hS [] trivial (Am0 hS hL e2) ?_
      refine A1 hS trivial (b:=!y2) (fun c78=>?_) (fun c78=>?_)
      ·replace h:=itT c78 h
       obtain rfl:=A5 h
       exact B5 hS trivial [] ⟨rfl,rfl,rfl⟩
      ·replace h:=itF c78 h
       obtain rfl:=A5 h
       exact B5 hS trivial [] ⟨rfl,rfl,rfl⟩
   ·replace h:=itF c64 h
    obtain ⟨t6,ht6⟩:∃ x:Bool,x=(if (p_p.Kind == 3)=true then p_p.Kind == 3 else p_p.Kind == 4):=⟨_,rfl⟩
    refine Ai3 hS trivial (B4 hS) 0 ⟨[(17,(pB t6)),(7,(pN p_p.Kind)),(3,(.reg 4000 0)),(1,(.reg 2000 0))], [(4000,(.cells [(pN 0),(pU p_p.Is.Plus),(pU p_p.Is.Minus),(pB p_p.Not),(pN p_p.Min),(pN p_p.Max),(.p (.sl false 7 p_p.L.n (Ao7 p_p)))])),(2000,(.cells ((C6 p_p).map .p)))]⟩ (fun M8 hb8=>?_) ?_
    ·refine A1 hS trivial (b:=p_p.Kind == 3) (fun c80=>?_) (fun c80=>?_)
     ·exact hb8 _ [(2000,2000),(4000,4000)] _ trivial (by kernel_rfl) (by kernel_rfl) (klR [(0, .eq (.bb (p_p.Kind == 3)) (.bb t6))] (al1 (by simp only [ht6,c80,Leaf.ok,pm,if_true,if_false]) al0))
     ·exact hb8 _ [(2000,2000),(4000,4000)] _ trivial (by kernel_rfl) (by kernel_rfl) (klR [(0, .eq (.bb (p_p.Kind == 4)) (.bb t6))] (al1 (by simp only [ht6,c80,Leaf.ok,pm,if_true,if_false]) al0))
    ·subst ht6
     refine Bb4 hS trivial (B4 hS) h 0 (fun z3=>⟨[(3,(.reg 4000 0)),(1,(.reg 2000 0))], [(4000,(.cells [(pN 0),(pU p_p.Is.Plus),(pU p_p.Is.Minus),(pB p_p.Not),(pN z3.1),(pN z3.2),(.p U7)])),(2000,(.cells ((C6 p_p).map .p)))]⟩) (fun M10 k3 hb10 h=>?_) (fun z3 h=>?_)
     ·refine A1 hS trivial (b:=(if (p_p.Kind == 3)=true then p_p.Kind == 3 else p_p.Kind == 4)) (fun c96=>?_) (fun c96=>?_)
      ·replace h:=itT c96 h
       exact hb10 _ [(2000,2000),(4000,4000)] _ (p_p.Min,p_p.Max) trivial h
      ·replace h:=itF c96 h
       refine A1 hS trivial (b:=p_p.Kind == 5) (fun c97=>?_) (fun c97=>?_)
       ·replace h:=itT c97 h
        refine Aa1 hS trivial 25 ⟨[(24,(.p (vSl 7 C6 p_p.L))),(3,(.reg 4000 0)),(1,(.reg 2000 0))], [(4000,(.cells [(pN 0),(pU p_p.Is.Plus),(pU p_p.Is.Minus),(pB p_p.Not),(pN p_p.Min),(pN p_p.Max),(.p (.sl false 7 p_p.L.n (Ao7 p_p)))])),(2000,(.cells ((C6 p_p).map .p)))]⟩ (ids:=[(2000,2000),(4000,4000)]) ?_ (hle:=(klR [(0, .fn p_p.L.n p_p.L.n (Ao7 p_p) (fun i=>C6 (p_p.L.g i)))] (al1 ⟨rfl,Af3 p_p⟩ al0)))
        obtain ⟨t8,ht8⟩:∃ x:Bool,x=(((((p_p.L.n:Int) != 1) || (decide (p_p.Min < 0))) || (decide (32 < p_p.Min))) || ((p_p.Max != (-1)) && ((decide (p_p.Max < p_p.Min)) || (decide (32 < p_p.Max))))):=⟨_,rfl⟩
        refine Ai3 hS trivial (B4 hS) 0 ⟨[(53,(pB t8)),(3,(.reg 4000 0)),(1,(.reg 2000 0))], [(4000,(.cells [(pN 0),(pU p_p.Is.Plus),(pU p_p.Is.Minus),(pB p_p.Not),(pN p_p.Min),(pN p_p.Max),(.p (.sl false 7 p_p.L.n (Ao7 p_p)))])),(2000,(.cells ((C6 p_p).map .p)))]⟩ (fun M11 hb11=>?_) ?_
        ·refine A9 hS trivial (b:=(p_p.L.n:Int) != 1) (fun c103=>?_) (fun c103=>?_)
         ·exact hb11 _ [(2000,2000),(4000,4000)] _ trivial (by kernel_rfl) (by kernel_rfl) (klR [(0, .eq (.bb true) (.bb t8))] (al1 (by simp only [ht8,c103,Leaf.ok,pm,if_true,if_false]) al0))
         ·refine A9 hS trivial (b:=decide (p_p.Min < 0)) (fun c104=>?_) (fun c104=>?_)
          ·exact hb11 _ [(2000,2000),(4000,4000)] _ trivial (by kernel_rfl) (by kernel_rfl) (klR [(0, .eq (.bb true) (.bb t8))] (al1 (by simp only [ht8,c103,c104,Leaf.ok,pm,if_true,if_false]) al0))
          ·refine A9 hS trivial (b:=decide (32 < p_p.Min)) (fun c105=>?_) (fun c105=>?_)
           ·exact hb11 _ [(2000,2000),(4000,4000)] _ trivial (by kernel_rfl) (by kernel_rfl) (klR [(0, .eq (.bb true) (.bb t8))] (al1 (by simp only [ht8,c103,c104,c105,Leaf.ok,pm,if_true,if_false]) al0))
           ·refine A9 hS trivial (b:=p_p.Max != (-1)) (fun c106=>?_) (fun c106=>?_)
            ·refine A9 hS trivial (b:=decide (p_p.Max < p_p.Min)) (fun c107=>?_) (fun c107=>?_)
             ·exact hb11 _ [(2000,2000),(4000,4000)] _ trivial (by kernel_rfl) (by kernel_rfl) (klR [(0, .eq (.bb true) (.bb t8))] (al1 (by simp only [ht8,c103,c104,c105,c106,c107,Leaf.ok,pm,if_true,if_false]) al0))
             ·exact hb11 _ [(2000,2000),(4000,4000)] _ trivial (by kernel_rfl) (by kernel_rfl) (klR [(0, .eq (.bb (decide (32 < p_p.Max))) (.bb t8))] (al1 (by simp only [ht8,c103,c104,c105,c106,c107,Leaf.ok,pm,if_true,if_false]) al0))
            ·exact hb11 _ [(2000,2000),(4000,4000)] _ trivial (by kernel_rfl) (by kernel_rfl) (klR [(0, .eq (.bb false) (.bb t8))] (al1 (by simp only [ht8,c103,c104,c105,c106,Leaf.ok,pm,if_true,if_false]) al0))
        ·subst ht8
         refine A1 hS trivial (b:=(((((p_p.L.n:Int) != 1) || (decide (p_p.Min < 0))) || (decide (32 < p_p.Min))) || ((p_p.Max != (-1)) && ((decide (p_p.Max < p_p.Min)) || (decide (32 < p_p.Max)))))) (fun c108=>?_) (fun c108=>?_)
         ·replace h:=itT c108 h
          obtain rfl:=A5 h
          exact B5 hS trivial [] ⟨rfl,rfl,rfl⟩
         ·replace h:=itF c108 h
          exact hb10 _ [(2000,2000),(4000,4000)] _ (0,0) trivial h
       ·replace h:=itF c97 h
        obtain rfl:=A5 h
        exact B5 hS trivial [] ⟨rfl,rfl,rfl⟩
     ·obtain ⟨t9,ht9⟩:∃ x:Bool,x=(((((((p_p.Is.Plus == 0) && (p_p.Is.Minus == 0)) != true) || p_p.Not) || (z3.1 != 0)) || (z3.2 != 0)) || (decide (0 < 0))):=⟨_,rfl⟩
      refine Ai3 hS (by decide +kernel:Cg0 Tryz.prog B9=true) (B4 hS) 0 ⟨[(57,(pB t9)),(1,(.reg 2000 0))], [(2000,(.cells ((C6 p_p).map .p)))]⟩ (fun M12 hb12=>?_) ?_
      ·refine A9 hS trivial (b:=(((p_p.Is.Plus == 0) && (p_p.Is.Minus == 0)) != true)) (fun c113=>?_) (fun c113=>?_)
       ·exact hb12 _ [(2000,2000)] _ trivial (by kernel_rfl) (by kernel_rfl) (klR [(0, .eq (.bb true) (.bb t9))] (al1 (by simp only [ht9,c113,Leaf.ok,pm,if_true,if_false]) al0))
       ·refine A9 hS trivial (b:=p_p.Not) (fun c114=>?_) (fun c114=>?_)
        ·exact hb12 _ [(2000,2000)] _ trivial (by kernel_rfl) (by kernel_rfl) (klR [(0, .eq (.bb true) (.bb t9))] (al1 (by simp only [ht9,c113,c114,Leaf.ok,pm,if_true,if_false]) al0))
        ·refine A9 hS trivial (b:=z3.1 != 0) (fun c115=>?_) (fun c115=>?_)
         ·exact hb12 _ [(2000,2000)] _ trivial (by kernel_rfl) (by kernel_rfl) (klR [(0, .eq (.bb true) (.bb t9))] (al1 (by simp only [ht9,c113,c114,c115,Leaf.ok,pm,if_true,if_false]) al0))
         ·refine A9 hS trivial (b:=z3.2 != 0) (fun c116=>?_) (fun c116=>?_)
          ·exact hb12 _ [(2000,2000)] _ trivial (by kernel_rfl) (by kernel_rfl) (klR [(0, .eq (.bb true) (.bb t9))] (al1 (by simp only [ht9,c113,c114,c115,c116,Leaf.ok,pm,if_true,if_false]) al0))
          ·exact hb12 _ [(2000,2000)] _ trivial (by kernel_rfl) (by kernel_rfl) (klR [(0, .eq (.bb (decide (0 < 0))) (.bb t9))] (al1 (by simp only [ht9,c113,c114,c115,c116,Leaf.ok,pm,if_true,if_false]) al0))
      ·subst ht9
       refine A1 hS trivial (b:=(((((((p_p.Is.Plus == 0) && (p_p.Is.Minus == 0)) != true) || p_p.Not) || (z3.1 != 0)) || (z3.2 != 0)) || (decide (0 < 0)))) (fun c117=>?_) (fun c117=>?_)
       ·replace h:=itT c117 h
        obtain rfl:=A5 h
        exact B5 hS trivial [] ⟨rfl,rfl,rfl⟩
       ·replace h:=itF c117 h
        obtain ⟨y3,e3,h⟩:=A4 h
        refine A3 hS [] trivial (Am0 hS hL e3) ?_
        refine A1 hS trivial (b:=!y3) (fun c118=>?_) (fun c118=>?_)
        ·replace h:=itT c118 h
         obtain rfl:=A5 h
         exact B5 hS trivial [] ⟨rfl,rfl,rfl⟩
        ·replace h:=itF c118 h
         obtain rfl:=A5 h
         exact B5 hS trivial [] ⟨rfl,rfl,rfl⟩
def AM0 (N:Nat) (p_p:Pat):Option Int:=
 if ((decide (p_p.Kind < 0)) || (decide (6 < p_p.Kind)))=true then
  some 2
 else
  if ((p_p.Kind != 1) && ((((p_p.Is.Plus == 0) && (p_p.Is.Minus == 0)) != true) || p_p.Not))=true then
   some 2
  else
   lt (fun (z1:Bool)=>
    if z1=true then
     some 2
    else
     if ((p_p.Kind != 5) && ((p_p.Min != 0) || (p_p.Max != 0)))=true then
      some 2
     else
      lt (fun (z2:Bool)=>
       if z2=true then
        some 2
       else
        (T7 N p_p.Is).bind fun y1=>
        if (!y1)=true then
         some 14
        else
         some 0
       ) fun k2=>
       if (p_p.Kind == 5)=true then
        if ((p_p.L.n:Int) != 1)=true then
         k2 true
        else
         if (decide (p_p.Min < 0))=true then
          k2 true
         else
          if (decide (32 < p_p.Min))=true then
           k2 true
          else
           if (p_p.Max != (-1))=true then
            if (decide (p_p.Max < p_p.Min))=true then
             k2 true
            else
             k2 (decide (32 < p_p.Max))
           else
            k2 false
       else
        k2 false
    ) fun k1=>
    if (p_p.Kind != 3)=true then
     if (p_p.Kind != 4)=true then
      if (p_p.Kind != 5)=true then
       k1 (decide (0 < (p_p.L.n:Int)))
      else
       k1 false
     else
      k1 false
    else
     k1 false
def AY5 (N:Nat) (p_s:Sound) (p_cond:Sound):Option Bool:=
 some (((E7 .and .u32 p_s.Plus p_cond.Plus) == p_cond.Plus) && ((E7 .and .u32 p_s.Minus p_cond.Minus) == p_cond.Minus))
def Az8 (N:Nat) (p_n:Int):Option (Sl Int):=
 if ((0:Int)<=(IntKind.wrap .i64 (p_n+1))/\(IntKind.wrap .i64 (p_n+1))<=(IntKind.wrap .i64 (p_n+1))/\(IntKind.wrap .i64 (p_n+1)) * 8<=140737488355328/\(IntKind.wrap .i64 (p_n+1))<=140737488355328) then
  T0 N (fun self1 (x1:Sl Int) (x2:Int)=>
   if (decide (x2<=p_n))=true then
    if (((0:Int)<=x2/\((0:Int)<=x2/\x2 < (x1.n:Int)))/\x2.toNat < x1.n) then
     self1 (x1.upd x2.toNat (shI .shl .u64 1 x2)) (IntKind.wrap .i64 (x2+1))
    else none
   else
    some x1
   ) (Sl.rep (IntKind.wrap .i64 (p_n+1)).toNat 0:Sl Int) 0
 else none
def Ag3 (N:Nat) (p_x:(Sl Int)) (p_y:(Sl Int)):Option (Sl Int):=
 if ((0:Int)<=(p_x.n:Int)/\(p_x.n:Int)<=(p_x.n:Int)/\(p_x.n:Int) * 8<=140737488355328/\(p_x.n:Int)<=140737488355328) then
  T0 N (fun self3 (x3:Sl Int) (x4:Int)=>
   if (decide (x4 < (p_x.n:Int)))=true then
    T0 N (fun self4 (x7:Sl Int) (x8:Int)=>
     if (decide (x8 < (p_y.n:Int)))=true then
      if (((0:Int)<=x4/\x4 < (p_x.n:Int))/\(0:Int)<=x8) then
       if ((E7 .and .u64 (shI .shr .u64 (p_x.g x4.toNat) x8) 1) == 1)=true then
        if ((((((0:Int)<=x4/\x4 < (x7.n:Int))/\x4.toNat < x7.n)/\((0:Int)<=x8/\x8 < (p_y.n:Int)))/\((0:Int)<=x4/\x4 < (x7.n:Int)))/\x4.toNat < x7.n) then
         self4 (x7.upd x4.toNat (E7 .or .u64 (x7.g x4.toNat) (p_y.g x8.toNat))) (IntKind.wrap .i64 (x8+1))
        else none
       else
        self4 x7 (IntKind.wrap .i64 (x8+1))
      else none
     else
      self3 x7 (IntKind.wrap .i64 (x4+1))
     ) x3 0
   else
    some x3
   ) (Sl.rep (p_x.n:Int).toNat 0:Sl Int) 0
 else none
def Az9 (N:Nat) (p_x:(Sl Int)) (p_y:(Sl Int)):Option (Sl Int):=
 if ((0:Int)<=(p_x.n:Int)/\(p_x.n:Int)<=(p_x.n:Int)/\(p_x.n:Int) * 8<=140737488355328/\(p_x.n:Int)<=140737488355328) then
  T0 N (fun self1 (x1:Sl Int) (x2:Int)=>
   if (decide (x2 < (p_x.n:Int)))=true then
    if (((((0:Int)<=x2/\x2 < (p_x.n:Int))/\((0:Int)<=x2/\x2 < (p_y.n:Int)))/\((0:Int)<=x2/\x2 < (x1.n:Int)))/\x2.toNat < x1.n) then
     self1 (x1.upd x2.toNat (E7 .or .u64 (p_x.g x2.toNat) (p_y.g x2.toNat))) (IntKind.wrap .i64 (x2+1))
    else none
   else
    some x1
   ) (Sl.rep (p_x.n:Int).toNat 0:Sl Int) 0
 else none
def AE5 (N:Nat) (p_x:(Sl Int)) (p_y:(Sl Int)):Option Bool:=
 Aa9 N (fun self1 (x1:Int)=>
  if (decide (x1 < (p_x.n:Int)))=true then
   if (((0:Int)<=x1/\x1 < (p_x.n:Int))/\((0:Int)<=x1/\x1 < (p_y.n:Int))) then
    if ((p_x.g x1.toNat) != (p_y.g x1.toNat))=true then
     some false
    else
     self1 (IntKind.wrap .i64 (x1+1))
   else none
  else
   some true
  ) 0
end Go.AM
set_option linter.unusedVariables false
set_option linter.unusedSectionVars false
namespace Go.AM
open Go.Proofs
set_option maxRecDepth 10000
set_option maxHeartbeats 2000000
variable {S:Af9} (hS:I3 S Tryz.prog) (hL:BL4 S)
include hS hL
def Ac5 (rec:Pat->Int->Option Int) (N:Nat) (p_p:Pat) (p_before:Int):Option Int:=
 T0 N (fun self1 (x1:Int) (x2:Int)=>
  if ((decide (x2 < (p_p.L.n:Int))) && (decide (x1<=40)))=true then
   if ((0:Int)<=x2/\x2 < (p_p.L.n:Int)) then
    (rec (p_p.L.g x2.toNat) x1).bind fun y3=>
    self1 y3 (IntKind.wrap .i64 (x2+1))
   else none
  else
   some x1
  ) (IntKind.wrap .i64 (p_before+1)) 0
def Aa2:Nat->Pat->Int->Option Int
 | 0=>fun _ _=>none
 | N+1=>Ac5 (Aa2 N) N
theorem Bx4 {N:Nat} {rec:Pat->Int->Option Int} (hrec:∀ {p_p:Pat} {p_before:Int} {y:Int},rec p_p p_before=some y->FunO S Ar4 [(.p (.agg (C6 p_p))),(pN p_before)] [] (pN y) ([]) []) {p_p:Pat} {p_before:Int} {y:Int} (h:Ac5 rec N p_p p_before=some y) :
 FunO S Ar4 [(.p (.agg (C6 p_p))),(pN p_before)] [] (pN y) ([]) []:=by
 unfold Ac5 at h
 refine A7 hS BD7 ?_
 refine Ab0 hS trivial h (fun x1 x2=>⟨[(6,(pN x2)),(5,(pN x1)),(2,(.reg 3000 0))], [(3000,(.cells ((C6 p_p).map .p)))]⟩) (ids:=[(3000,3000)]) (fun _ _ _ _ _ self1 x1 x2 hb3 h=>?_)
 refine Aa1 hS trivial 12 ⟨[(11,(.p (vSl 7 C6 p_p.L))),(9,(pN x2)),(6,(pN x2)),(5,(pN x1)),(2,(.reg 3000 0))], [(3000,(.cells ((C6 p_p).map .p)))]⟩ (ids:=[(3000,3000)]) ?_ (hle:=(klR [(0, .fn p_p.L.n p_p.L.n (Ao7 p_p) (fun i=>C6 (p_p.L.g i)))] (al1 ⟨rfl,Af3 p_p⟩ al0)))
 obtain ⟨t3,ht3⟩:∃ x:Bool,x=((decide (x2 < (p_p.L.n:Int))) && (decide (x1<=40))):=⟨_,rfl⟩
 refine Ai3 hS trivial (B4 hS) 0 ⟨[(17,(pB t3)),(6,(pN x2)),(5,(pN x1)),(2,(.reg 3000 0))], [(3000,(.cells ((C6 p_p).map .p)))]⟩ (fun M3 hb4=>?_) ?_
 ·refine A9 hS trivial (b:=decide (x2 < (p_p.L.n:Int))) (fun c10=>?_) (fun c10=>?_)
  ·exact hb4 _ [(3000,3000)] _ trivial (by kernel_rfl) (by kernel_rfl) (klR [(0, .eq (.bb (decide (x1<=40))) (.bb t3))] (al1 (by simp only [ht3,c10,Leaf.ok,pm,if_true,if_false]) al0))
  ·exact hb4 _ [(3000,3000)] _ trivial (by kernel_rfl) (by kernel_rfl) (klR [(0, .eq (.bb false) (.bb t3))] (al1 (by simp only [ht3,c10,Leaf.ok,pm,if_true,if_false]) al0))
 ·subst ht3
  refine A1 hS trivial (b:=((decide (x2 < (p_p.L.n:Int))) && (decide (x1<=40)))) (fun c11=>?_) (fun c11=>?_)
  ·replace h:=itT c11 h
   refine Aa1 hS trivial 23 ⟨[(22,(pN x2)),(21,(.p (vSl 7 C6 p_p.L))),(6,(pN x2)),(5,(pN x1)),(2,(.reg 3000 0))], [(3000,(.cells ((C6 p_p).map .p)))]⟩ (ids:=[(3000,3000)]) ?_ (hle:=(klR [(1, .fn p_p.L.n p_p.L.n (Ao7 p_p) (fun i=>C6 (p_p.L.g i)))] (al1 ⟨rfl,Af3 p_p⟩ al0)))
   obtain ⟨c12,h⟩:=P0 h
   obtain ⟨y3,e3,h⟩:=A4 h
   refine A3 hS [] (And.intro c12 (by decide:(7:Nat)<=7)) (hrec e3) ?_
   exact hb3 _ [(3000,3000)] _ y3 (IntKind.wrap .i64 (x2+1)) trivial h
  ·replace h:=itF c11 h
   obtain rfl:=A5 h
   exact B5 hS trivial [] ⟨rfl,rfl,rfl⟩
theorem BF5 {N:Nat} {p_p:Pat} {p_before:Int} {y:Int} (h:Aa2 N p_p p_before=some y) :
 FunO S Ar4 [(.p (.agg (C6 p_p))),(pN p_before)] [] (pN y) ([]) []:=by
 induction N generalizing p_p p_before y with
 | zero=>cases (show (none:Option Int)=some y from h)
 | succ N ih=>exact Bx4 hS hL (fun e=>ih e) h
def Ap2 (N:Nat) (p_p:Pat):Option Int:=
 (Aa2 N p_p 0).bind fun y1=>
 some y1
theorem BR8 {N:Nat} {p_p:Pat}   {y:Int} (h:Ap2 N p_p=some y) :
 FunO S Bi0 [(.p (.agg (C6 p_p)))] [] (pN y) ([]) []:=by
 unfold Ap2 at h
 refine A7 hS BR4 ?_
 obtain ⟨y1,e1,h⟩:=A4 h
 refine A3 hS [] trivial (BF5 hS hL e1) ?_
 obtain rfl:=A5 h
 exact B5 hS trivial [] ⟨rfl,rfl,rfl⟩
def U0 (rec:Pat->Option Int) (N:Nat) (p_p:Pat):Option Int:=
 T0 N (fun self1 (x1:Int) (x2:Int)=>
  if (decide (x2 < (p_p.L.n:Int)))=true then
   if ((0:Int)<=x2/\x2 < (p_p.L.n:Int)) then
    (rec (p_p.L.g x2.toNat)).bind fun y3=>
    self1 (IntKind.wrap .i64 (x1+y3)) (IntKind.wrap .i64 (x2+1))
   else none
  else
   some x1
  ) (if (p_p.Kind == 5)=true then 1 else 0) 0
def V7:Nat->Pat->Option Int
 | 0=>fun _=>none
 | N+1=>U0 (V7 N) N
theorem Be0 {N:Nat} {rec:Pat->Option Int} (hrec:∀ {p_p:Pat} {y:Int},rec p_p=some y->FunO S Ai4 [(.p (.agg (C6 p_p)))] [] (pN y) ([]) []) {p_p:Pat} {y:Int} (h:U0 rec N p_p=some y) :
 FunO S Ai4 [(.p (.agg (C6 p_p)))] [] (pN y) ([]) []:=by
 unfold U0 at h
 refine A7 hS Bm2 ?_
 obtain ⟨t1,ht1⟩:∃ x:Int,x=(if (p_p.Kind == 5)=true then 1 else 0):=⟨_,rfl⟩
 refine Ai3 hS trivial (B4 hS) 0 ⟨[(3,(pN t1)),(1,(.reg 2000 0))], [(2000,(.cells ((C6 p_p).map .p)))]⟩ (fun M1 hb1=>?_) ?_
 ·refine A1 hS trivial (b:=p_p.Kind == 5) (fun c2=>?_) (fun c2=>?_)
  ·exact hb1 _ [(2000,2000)] _ trivial (by kernel_rfl) (by kernel_rfl) (klR [(0, .eq (pI .i64 1) (pI .i64 t1))] (al1 (by simp only [ht1,c2,Leaf.ok,pm,if_true,if_false]) al0))
  ·exact hb1 _ [(2000,2000)] _ trivial (by kernel_rfl) (by kernel_rfl) (klR [(0, .eq (pI .i64 0) (pI .i64 t1))] (al1 (by simp only [ht1,c2,Leaf.ok,pm,if_true,if_false]) al0))
 ·subst ht1
  refine Ab0 hS trivial h (fun x1 x2=>⟨[(4,(pN x2)),(3,(pN x1)),(1,(.reg 2000 0))], [(2000,(.cells ((C6 p_p).map .p)))]⟩) (ids:=[(2000,2000)]) (fun _ _ _ _ _ self1 x1 x2 hb2 h=>?_)
  refine Aa1 hS trivial 11 ⟨[(10,(.p (vSl 7 C6 p_p.L))),(8,(pN x2)),(4,(pN x2)),(3,(pN x1)),(1,(.reg 2000 0))], [(2000,(.cells ((C6 p_p).map .p)))]⟩ (ids:=[(2000,2000)]) ?_ (hle:=(klR [(0, .fn p_p.L.n p_p.L.n (Ao7 p_p) (fun i=>C6 (p_p.L.g i)))] (al1 ⟨rfl,Af3 p_p⟩ al0)))
  refine A1 hS trivial (b:=decide (x2 < (p_p.L.n:Int))) (fun c7=>?_) (fun c7=>?_)
  ·replace h:=itT c7 h
   refine Aa1 hS trivial 19 ⟨[(18,(pN x2)),(17,(.p (vSl 7 C6 p_p.L))),(15,(pN x1)),(4,(pN x2)),(1,(.reg 2000 0))], [(2000,(.cells ((C6 p_p).map .p)))]⟩ (ids:=[(2000,2000)]) ?_ (hle:=(klR [(1, .fn p_p.L.n p_p.L.n (Ao7 p_p) (fun i=>C6 (p_p.L.g i)))] (al1 ⟨rfl,Af3 p_p⟩ al0)))
   obtain ⟨c8,h⟩:=P0 h
   obtain ⟨y3,e3,h⟩:=A4 h
   refine A3 hS [] (And.intro c8 (by decide:(7:Nat)<=7)) (hrec e3) ?_
   exact hb2 _ [(2000,2000)] _ (IntKind.wrap .i64 (x1+y3)) (IntKind.wrap .i64 (x2+1)) trivial h
  ·replace h:=itF c7 h
   obtain rfl:=A5 h
   exact B5 hS trivial [] ⟨rfl,rfl,rfl⟩
theorem Bn6 {N:Nat} {p_p:Pat} {y:Int} (h:V7 N p_p=some y) :
 FunO S Ai4 [(.p (.agg (C6 p_p)))] [] (pN y) ([]) []:=by
 induction N generalizing p_p y with
 | zero=>cases (show (none:Option Int)=some y from h)
 | succ N ih=>exact Be0 hS hL (fun e=>ih e) h
def P7 (N:Nat) (p_laws:(Sl Law)):Option Int:=
 T0 N (fun self3 (x3:Int) (x4:Int)=>
  if ((decide (x4 < (p_laws.n:Int))) && (decide (x4<=300)))=true then
   if (((0:Int)<=x4/\x4 < (p_laws.n:Int))/\((0:Int)<=x4/\x4 < (p_laws.n:Int))) then
    T0 N (fun self4 (x7:Int) (x8:Int)=>
     if (decide (x8 < ((Sl.of [(p_laws.g x4.toNat).Left,(p_laws.g x4.toNat).Right]:Sl Pat).n:Int)))=true then
      if ((0:Int)<=x8/\x8 < ((Sl.of [(p_laws.g x4.toNat).Left,(p_laws.g x4.toNat).Right]:Sl Pat).n:Int)) then
       (Ap2 N ((Sl.of [(p_laws.g x4.toNat).Left,(p_laws.g x4.toNat).Right]:Sl Pat).g x8.toNat)).bind fun y17=>
       if (decide (y17<=40))=true then
        (V7 N ((Sl.of [(p_laws.g x4.toNat).Left,(p_laws.g x4.toNat).Right]:Sl Pat).g x8.toNat)).bind fun y18=>
        self4 (IntKind.wrap .i64 (x7+y18)) (IntKind.wrap .i64 (x8+1))
       else
        self4 x7 (IntKind.wrap .i64 (x8+1))
      else none
     else
      self3 (if x3 < x7 then x7 else x3) (IntKind.wrap .i64 (x4+1))
     ) 0 0
   else none
  else
   some x3
  ) 0 0
theorem Ap3 {N:Nat} {p_laws:(Sl Law)}   {y:Int} (h:P7 N p_laws=some y) :
 FunO S Bh7 [(.p (vSl 18 A6 p_laws))] [] (pN y) ([]) []:=by
 unfold P7 at h
 refine A7 hS BR1 ?_
 refine Ab0 hS trivial h (fun x3 x4=>⟨[(4,(pN x4)),(3,(pN x3)),(0,(.p (vSl 18 A6 p_laws)))], []⟩) (ids:=[]) (fun _ _ _ _ _ self3 x3 x4 hb5 h=>?_)
 obtain ⟨t3,ht3⟩:∃ x:Bool,x=((decide (x4 < (p_laws.n:Int))) && (decide (x4<=300))):=⟨_,rfl⟩
 refine Ai3 hS trivial (B4 hS) 0 ⟨[(15,(pB t3)),(4,(pN x4)),(3,(pN x3)),(0,(.p (vSl 18 A6 p_laws)))], []⟩ (fun M3 hb6=>?_) ?_
 ·refine A9 hS trivial (b:=decide (x4 < (p_laws.n:Int))) (fun c28=>?_) (fun c28=>?_)
  ·exact hb6 _ [] _ trivial (by kernel_rfl) (by kernel_rfl) (klR [(0, .eq (.bb (decide (x4<=300))) (.bb t3))] (al1 (by simp only [ht3,c28,Leaf.ok,pm,if_true,if_false]) al0))
  ·exact hb6 _ [] _ trivial (by kernel_rfl) (by kernel_rfl) (klR [(0, .eq (.bb false) (.bb t3))] (al1 (by simp only [ht3,c28,Leaf.ok,pm,if_true,if_false]) al0))
 ·subst ht3
  refine A1 hS trivial (b:=((decide (x4 < (p_laws.n:Int))) && (decide (x4<=300)))) (fun c29=>?_) (fun c29=>?_)
  ·replace h:=itT c29 h
   refine Q4 hS trivial [2,4,7,9] ?_
   obtain ⟨c30,h⟩:=P0 h
   refine AE4 (And.intro (And.intro (And.intro c30.1 (by decide:(7:Nat)<=17)) c30.2) (by decide:(7:Nat)<=10)) (x:=(.sl true 7 2 (H6 [(pI .i64 0),(pI .u32 0),(pI .u32 0),(.v (.bool false)),(pI .i64 0),(pI .i64 0),U7] [(0,C6 (p_laws.g x4.toNat).Left),(1,C6 (p_laws.g x4.toNat).Right)]))) ?_
   refine Q1 trivial ?_
   refine Ab0 hS trivial h (fun x7 x8=>⟨[(30,(pN x8)),(29,(pN ((Sl.of [(p_laws.g x4.toNat).Left,(p_laws.g x4.toNat).Right]:Sl Pat).n:Int))),(28,(.p (vSl 7 C6 (Sl.of [(p_laws.g x4.toNat).Left,(p_laws.g x4.toNat).Right]:Sl Pat)))),(5,(pN x7)),(4,(pN x4)),(3,(pN x3)),(0,(.p (vSl 18 A6 p_laws)))], []⟩) (ids:=[]) (fun _ _ _ _ _ self4 x7 x8 hb7 h=>?_) (hle:=(klR [(2, .fn 2 (Sl.of [(p_laws.g x4.toNat).Left,(p_laws.g x4.toNat).Right]:Sl Pat).n (H6 [(pI .i64 0),(pI .u32 0),(pI .u32 0),(.v (.bool false)),(pI .i64 0),(pI .i64 0),U7] [(0,C6 (p_laws.g x4.toNat).Left),(1,C6 (p_laws.g x4.toNat).Right)]) (fun i=>C6 ((Sl.of [(p_laws.g x4.toNat).Left,(p_laws.g x4.toNat).Right]:Sl Pat).g i)))] (al1 ⟨rfl,(fun i hi=>match i,hi with | 0,_=>rfl | 1,_=>rfl | _+2,hi=>absurd hi (by omega))⟩ al0)))
   refine A1 hS trivial (b:=decide (x8 < ((Sl.of [(p_laws.g x4.toNat).Left,(p_laws.g x4.toNat).Right]:Sl Pat).n:Int))) (fun c37=>?_) (fun c37=>?_)
   ·replace h:=itT c37 h
    obtain ⟨c38,h⟩:=P0 h
    refine Ac2 hS (And.intro c38 (by decide:(7:Nat)<=7)) 34 8000 (C6 ((Sl.of [(p_laws.g x4.toNat).Left,(p_laws.g x4.toNat).Right]:Sl Pat).g x8.toNat)) ?_
    obtain ⟨y17,e17,h⟩:=A4 h
    refine A3 hS [] (by decide:(7:Nat)<=7) (BR8 hS hL e17) ?_
    refine A1 hS trivial (b:=decide (y17<=40)) (fun c39=>?_) (fun c39=>?_)
    ·replace h:=itT c39 h
     obtain ⟨y18,e18,h⟩:=A4 h
     refine A3 hS [] (by decide:(7:Nat)<=7) (Bn6 hS hL e18) ?_
     exact hb7 _ [] _ (IntKind.wrap .i64 (x7+y18)) (IntKind.wrap .i64 (x8+1)) trivial h
    ·replace h:=itF c39 h
     exact hb7 _ [] _ x7 (IntKind.wrap .i64 (x8+1)) trivial h
   ·replace h:=itF c37 h
    exact hb5 _ [] _ (if x3 < x7 then x7 else x3) (IntKind.wrap .i64 (x4+1)) trivial h
  ·replace h:=itF c29 h
   obtain rfl:=A5 h
   exact B5 hS trivial [] ⟨rfl,rfl,rfl⟩
def Ag4 (rec:Pat->Int->Option (Int × Int)) (N:Nat) (p_p:Pat) (p_before:Int):Option (Int × Int):=
 if (p_before == 40)=true then
  some (p_before,12)
 else
  (AM0 N p_p).bind fun y1=>
  if (y1 != 0)=true then
   some (p_before,y1)
  else
   T0 N (fun self1 (x1:Int) (x2:Int)=>
    if (decide (x2 < (p_p.L.n:Int)))=true then
     if ((0:Int)<=x2/\x2 < (p_p.L.n:Int)) then
      (rec (p_p.L.g x2.toNat) x1).bind fun y4=>
      if (y4.2 != 0)=true then
       some (y4.1,y4.2)
      else
       self1 y4.1 (IntKind.wrap .i64 (x2+1))
     else none
    else
     some (x1,0)
    ) (IntKind.wrap .i64 (p_before+1)) 0
def Ap4:Nat->Pat->Int->Option (Int × Int)
 | 0=>fun _ _=>none
 | N+1=>Ag4 (Ap4 N) N
def Ak2 (N:Nat) (p_p:Pat):Option Int:=
 (Ap4 N p_p 0).bind fun y1=>
 some y1.2
def Ap5 (N:Nat) (p_s:Str):Option Bool:=
 Aa9 N (fun self1 (x1:Int)=>
  if (decide (x1 < (p_s.length:Int)))=true then
   if ((0:Int)<=x1/\x1 < (p_s.length:Int)) then
    if (!(((((decide (97<=(AG9 p_s x1))) && (decide ((AG9 p_s x1)<=122))) || ((decide (65<=(AG9 p_s x1))) && (decide ((AG9 p_s x1)<=90)))) || ((decide (48<=(AG9 p_s x1))) && (decide ((AG9 p_s x1)<=57)))) || ((AG9 p_s x1) == 45)))=true then
     some false
    else
     self1 (IntKind.wrap .i64 (x1+1))
   else none
  else
   some ((decide (1<=(p_s.length:Int))) && (decide ((p_s.length:Int)<=24)))
  ) 0
def AM1 (N:Nat) (p_x:Ad8) (p_k:Int):Option Bool:=
 lt (fun (z1:Bool)=>
  if z1=true then
   some false
  else
   if ((((E7 .and .u32 p_x.Clear (E7 .or .u32 p_x.Set.Plus p_x.Set.Minus)) != 0) || ((E7 .and .u32 p_x.Take (E7 .or .u32 p_x.Set.Plus p_x.Set.Minus)) != 0)) || ((E7 .and .u32 p_x.Take p_x.Clear) != 0))=true then
    some false
   else
    if (p_x.Take == 0)=true then
     some (p_x.Of == 0)
    else
     some ((decide (0<=p_x.Of)) && (decide (p_x.Of < p_k)))
  ) fun k1=>
  if (decide (p_x.From < (-1)))=true then
   k1 true
  else
   if (decide (p_k<=p_x.From))=true then
    k1 true
   else
    (I6 N p_x.Set).bind fun y2=>
    if (!y2)=true then
     k1 true
    else
     if ((E7 .andNot .u32 p_x.Clear 16777215) != 0)=true then
      k1 true
     else
      k1 ((E7 .andNot .u32 p_x.Take 16777215) != 0)
def Ak3 (N:Nat) (p_l:Law):Option Int:=
 (Ap5 N p_l.Name).bind fun y1=>
 lt (fun (z1:Bool)=>
  if z1=true then
   some 17
  else
   if (((((decide (4 < (p_l.If.n:Int))) || (decide (6 < (p_l.Out.n:Int)))) || ((IntKind.wrap .i64 ((p_l.If.n:Int)+(p_l.Out.n:Int))) == 0)) || (decide (p_l.Mode < 1))) || (decide (3 < p_l.Mode)))=true then
    some 17
   else
    Aa9 N (fun self1 (x2:Int)=>
     if (decide (x2 < (p_l.If.n:Int)))=true then
      if ((0:Int)<=x2/\x2 < (p_l.If.n:Int)) then
       (I6 N (p_l.If.g x2.toNat)).bind fun y8=>
       if (!y8)=true then
        some 17
       else
        self1 (IntKind.wrap .i64 (x2+1))
      else none
     else
      Aa9 N (fun self2 (x3:Int)=>
       if (decide (x3 < (p_l.Out.n:Int)))=true then
        if ((0:Int)<=x3/\x3 < (p_l.Out.n:Int)) then
         (AM1 N (p_l.Out.g x3.toNat) (p_l.If.n:Int)).bind fun y11=>
         if (!y11)=true then
          some 17
         else
          self2 (IntKind.wrap .i64 (x3+1))
        else none
       else
        some 0
       ) 0
     ) 0
  ) fun k1=>
  if (!y1)=true then
   k1 true
  else
   (Ak2 N p_l.Left).bind fun y4=>
   if (y4 != 0)=true then
    k1 true
   else
    (Ak2 N p_l.Right).bind fun y5=>
    k1 (y5 != 0)
def Ae5 (N:Nat) (p_laws:(Sl Law)):Option Int:=
 if (decide (64 < (p_laws.n:Int)))=true then
  some 12
 else
  Aa9 N (fun self1 (x1:Int)=>
   if (decide (x1 < (p_laws.n:Int)))=true then
    if ((0:Int)<=x1/\x1 < (p_laws.n:Int)) then
     (Ak3 N (p_laws.g x1.toNat)).bind fun y3=>
     if (y3 != 0)=true then
      some 17
     else
      self1 (IntKind.wrap .i64 (x1+1))
    else none
   else
    some 0
   ) 0
def AY6 (N:Nat) (p_l:Law) (p_w:(Sl Sound)):Option Int:=
 (Ak3 N p_l).bind fun y1=>
 if (y1 != 0)=true then
  some y1
 else
  (Ae4 N p_w).bind fun y2=>
  some y2
def AA0 (N:Nat) (p_p:Pat) (p_w:(Sl Sound)):Option Int:=
 (Ak2 N p_p).bind fun y1=>
 if (y1 == 0)=true then
  (Ae4 N p_w).bind fun y2=>
  some y2
 else
  some y1
def As2 (rec:Pat->(Sl Sound)->Option (Sl Int)) (N:Nat) (p_p:Pat) (p_w:(Sl Sound)):Option (Sl Int):=
 if ((0:Int)<=(IntKind.wrap .i64 ((p_w.n:Int)+1))/\(IntKind.wrap .i64 ((p_w.n:Int)+1))<=(IntKind.wrap .i64 ((p_w.n:Int)+1))/\(IntKind.wrap .i64 ((p_w.n:Int)+1)) * 8<=140737488355328/\(IntKind.wrap .i64 ((p_w.n:Int)+1))<=140737488355328) then
  T0 N (fun self1 (x1:Sl Int) (x2:Int)=>
   if (decide (x2<=(p_w.n:Int)))=true then
    if (p_p.Kind == 0)=true then
     if (((0:Int)<=x2/\((0:Int)<=x2/\x2 < (x1.n:Int)))/\x2.toNat < x1.n) then
      self1 (x1.upd x2.toNat (shI .shl .u64 1 x2)) (IntKind.wrap .i64 (x2+1))
     else none
    else
     if (p_p.Kind == 1)=true then
      if (decide (x2 < (p_w.n:Int)))=true then
       if ((0:Int)<=x2/\x2 < (p_w.n:Int)) then
        (AY5 N (p_w.g x2.toNat) p_p.Is).bind fun y3=>
        if ((y3 == p_p.Not) != true)=true then
         if (((0:Int)<=(IntKind.wrap .i64 (x2+1))/\((0:Int)<=x2/\x2 < (x1.n:Int)))/\x2.toNat < x1.n) then
          self1 (x1.upd x2.toNat (shI .shl .u64 1 (IntKind.wrap .i64 (x2+1)))) (IntKind.wrap .i64 (x2+1))
         else none
        else
         self1 x1 (IntKind.wrap .i64 (x2+1))
       else none
      else
       self1 x1 (IntKind.wrap .i64 (x2+1))
     else
      if (p_p.Kind == 2)=true then
       if (x2 == 0)=true then
        if (((0:Int)<=x2/\x2 < (x1.n:Int))/\x2.toNat < x1.n) then
         self1 (x1.upd x2.toNat 1) (IntKind.wrap .i64 (x2+1))
        else none
       else
        self1 x1 (IntKind.wrap .i64 (x2+1))
      else
       if (p_p.Kind == 6)=true then
        if (x2 == (p_w.n:Int))=true then
         if (((0:Int)<=x2/\((0:Int)<=x2/\x2 < (x1.n:Int)))/\x2.toNat < x1.n) then
          self1 (x1.upd x2.toNat (shI .shl .u64 1 x2)) (IntKind.wrap .i64 (x2+1))
         else none
        else
         self1 x1 (IntKind.wrap .i64 (x2+1))
       else
        self1 x1 (IntKind.wrap .i64 (x2+1))
   else
    if (p_p.Kind == 3)=true then
     (Az8 N (p_w.n:Int)).bind fun y4=>
     T0 N (fun self2 (x3:Sl Int) (x4:Int)=>
      if (decide (x4 < (p_p.L.n:Int)))=true then
       if ((0:Int)<=x4/\x4 < (p_p.L.n:Int)) then
        (rec (p_p.L.g x4.toNat) p_w).bind fun y9=>
        (Ag3 N x3 y9).bind fun y10=>
        self2 y10 (IntKind.wrap .i64 (x4+1))
       else none
      else
       some x3
      ) y4 0
    else
     if (p_p.Kind == 4)=true then
      T0 N (fun self3 (x5:Sl Int) (x6:Int)=>
       if (decide (x6 < (p_p.L.n:Int)))=true then
        if ((0:Int)<=x6/\x6 < (p_p.L.n:Int)) then
         (rec (p_p.L.g x6.toNat) p_w).bind fun y15=>
         (Az9 N x5 y15).bind fun y16=>
         self3 y16 (IntKind.wrap .i64 (x6+1))
        else none
       else
        some x5
       ) x1 0
     else
      if (p_p.Kind == 5)=true then
       if ((0:Int)<=0/\0 < (p_p.L.n:Int)) then
        (rec (p_p.L.g 0) p_w).bind fun y17=>
        (Az8 N (p_w.n:Int)).bind fun y18=>
        CA6 N (fun self4 (x8:Sl Int) (x9:Sl Int) (x10:Int)=>
         if (decide (p_p.Min<=x10))=true then
          (Az9 N x8 x9).bind fun y29=>
          lt (fun (z3:Bool)=>
           if z3=true then
            some y29
           else
            (Ag3 N x9 y17).bind fun y32=>
            self4 y29 y32 (IntKind.wrap .i64 (x10+1))
           ) fun k3=>
           if (x10 == p_p.Max)=true then
            k3 true
           else
            if (decide (p_p.Min < x10))=true then
             (AE5 N x8 y29).bind fun y31=>
             k3 y31
            else
             k3 false
         else
          (Ag3 N x9 y17).bind fun y33=>
          self4 x8 y33 (IntKind.wrap .i64 (x10+1))
         ) x1 y18 0
       else none
      else
       some x1
   ) (Sl.rep (IntKind.wrap .i64 ((p_w.n:Int)+1)).toNat 0:Sl Int) 0
 else none
def Ak4:Nat->Pat->(Sl Sound)->Option (Sl Int)
 | 0=>fun _ _=>none
 | N+1=>As2 (Ak4 N) N
def Ax4 (N:Nat) (p_p:Pat) (p_w:(Sl Sound)) (p_end:Int):Option ((Sl Int) × Int):=
 (AA0 N p_p p_w).bind fun y1=>
 if (y1 != 0)=true then
  some ((Sl.nil:Sl Int),y1)
 else
  if ((decide (p_end < 0)) || (decide ((p_w.n:Int) < p_end)))=true then
   some ((Sl.nil:Sl Int),3)
  else
   (Ak4 N p_p p_w).bind fun y2=>
   T0 N (fun self1 (x1:Sl Int) (x2:Int)=>
    if (decide (x2<=(p_w.n:Int)))=true then
     if ((((0:Int)<=x2/\x2 < (y2.n:Int))/\x2.toNat < y2.n)/\(0:Int)<=p_end) then
      if ((E7 .and .u64 (shI .shr .u64 (y2.g x2.toNat) p_end) 1) == 1)=true then
       if ((x1.n+(Sl.of [x2]:Sl Int).n) * 8<=140737488355328/\x1.n+(Sl.of [x2]:Sl Int).n<=140737488355328) then
        self1 (x1.push x2) (IntKind.wrap .i64 (x2+1))
       else none
      else
       self1 x1 (IntKind.wrap .i64 (x2+1))
     else none
    else
     some (x1,0)
    ) (Sl.nil:Sl Int) 0
def AM2 (N:Nat) (p_p:Pat) (p_w:(Sl Sound)) (p_at:Int):Option ((Sl Int) × Int):=
 (AA0 N p_p p_w).bind fun y1=>
 if (y1 != 0)=true then
  some ((Sl.nil:Sl Int),y1)
 else
  if ((decide (p_at < 0)) || (decide ((p_w.n:Int) < p_at)))=true then
   some ((Sl.nil:Sl Int),3)
  else
   (Ak4 N p_p p_w).bind fun y2=>
   T0 N (fun self1 (x1:Sl Int) (x2:Int)=>
    if (decide (x2<=(p_w.n:Int)))=true then
     if ((((0:Int)<=p_at/\p_at < (y2.n:Int))/\p_at.toNat < y2.n)/\(0:Int)<=x2) then
      if ((E7 .and .u64 (shI .shr .u64 (y2.g p_at.toNat) x2) 1) == 1)=true then
       if ((x1.n+(Sl.of [x2]:Sl Int).n) * 8<=140737488355328/\x1.n+(Sl.of [x2]:Sl Int).n<=140737488355328) then
        self1 (x1.push x2) (IntKind.wrap .i64 (x2+1))
       else none
      else
       self1 x1 (IntKind.wrap .i64 (x2+1))
     else none
    else
     some (x1,0)
    ) (Sl.nil:Sl Int) 0
def Ag5 (N:Nat) (p_l:Law) (p_w:(Sl Sound)) (p_i:Int):Option Bool:=
 if ((decide (p_i < 0)) || (decide ((p_w.n:Int) < (IntKind.wrap .i64 (p_i+(p_l.If.n:Int))))))=true then
  some false
 else
  Aa9 N (fun self1 (x1:Int)=>
   if (decide (x1 < (p_l.If.n:Int)))=true then
    if (((0:Int)<=(IntKind.wrap .i64 (p_i+x1))/\(IntKind.wrap .i64 (p_i+x1)) < (p_w.n:Int))/\((0:Int)<=x1/\x1 < (p_l.If.n:Int))) then
     (T5 N (p_w.g (IntKind.wrap .i64 (p_i+x1)).toNat) (p_l.If.g x1.toNat)).bind fun y3=>
     if (!y3)=true then
      some false
     else
      self1 (IntKind.wrap .i64 (x1+1))
    else none
   else
    (Ax4 N p_l.Left p_w p_i).bind fun y4=>
    (AM2 N p_l.Right p_w (IntKind.wrap .i64 (p_i+(p_l.If.n:Int)))).bind fun y5=>
    some ((decide (0 < (y4.1.n:Int))) && (decide (0 < (y5.1.n:Int))))
   ) 0
def Ak5 (N:Nat) (p_l:Law) (p_cut:(Sl Sound)):Option (Sl Sound):=
 T0 N (fun self1 (x1:Sl Sound) (x2:Int)=>
  if (decide (x2 < (p_l.Out.n:Int)))=true then
   if ((0:Int)<=x2/\x2 < (p_l.Out.n:Int)) then
    if ((decide (0<=(p_l.Out.g x2.toNat).From))=true->((0:Int)<=(p_l.Out.g x2.toNat).From/\(p_l.Out.g x2.toNat).From < (p_cut.n:Int))) then
     (T6 N (⟨(if (decide (0<=(p_l.Out.g x2.toNat).From))=true then (p_cut.g (p_l.Out.g x2.toNat).From.toNat).Plus else 0),(if (decide (0<=(p_l.Out.g x2.toNat).From))=true then (p_cut.g (p_l.Out.g x2.toNat).From.toNat).Minus else 0)⟩:Sound) (p_l.Out.g x2.toNat).Clear (p_l.Out.g x2.toNat).Set).bind fun y5=>
     if ((p_l.Out.g x2.toNat).Take != 0)=true then
      if ((0:Int)<=(p_l.Out.g x2.toNat).Of/\(p_l.Out.g x2.toNat).Of < (p_cut.n:Int)) then
       (Ae3 N y5.1 (p_cut.g (p_l.Out.g x2.toNat).Of.toNat) (p_l.Out.g x2.toNat).Take).bind fun y6=>
       if ((x1.n+(Sl.of [y6.1]:Sl Sound).n) * 8<=140737488355328/\x1.n+(Sl.of [y6.1]:Sl Sound).n<=140737488355328) then
        self1 (x1.push y6.1) (IntKind.wrap .i64 (x2+1))
       else none
      else none
     else
      if ((x1.n+(Sl.of [y5.1]:Sl Sound).n) * 8<=140737488355328/\x1.n+(Sl.of [y5.1]:Sl Sound).n<=140737488355328) then
       self1 (x1.push y5.1) (IntKind.wrap .i64 (x2+1))
      else none
    else none
   else none
  else
   some x1
  ) (Sl.nil:Sl Sound) 0
def V8 (N:Nat) (p_l:Law) (p_w:(Sl Sound)) (p_i:Int):Option (Sl Sound):=
 if (((0:Int)<=p_i/\p_i<=(p_w.n:Int))/\(((Sl.of []:Sl Sound).n+(p_w.take p_i.toNat).n) * 8<=140737488355328/\(Sl.of []:Sl Sound).n+(p_w.take p_i.toNat).n<=140737488355328)) then
  if ((0:Int)<=p_i/\p_i<=(IntKind.wrap .i64 (p_i+(p_l.If.n:Int)))/\(IntKind.wrap .i64 (p_i+(p_l.If.n:Int)))<=(p_w.n:Int)) then
   (Ak5 N p_l (p_w.sub p_i.toNat (IntKind.wrap .i64 (p_i+(p_l.If.n:Int))).toNat)).bind fun y1=>
   if ((((Sl.of []:Sl Sound).app (p_w.take p_i.toNat)).n+y1.n) * 8<=140737488355328/\((Sl.of []:Sl Sound).app (p_w.take p_i.toNat)).n+y1.n<=140737488355328) then
    if (((0:Int)<=(IntKind.wrap .i64 (p_i+(p_l.If.n:Int)))/\(IntKind.wrap .i64 (p_i+(p_l.If.n:Int)))<=(p_w.n:Int))/\(((((Sl.of []:Sl Sound).app (p_w.take p_i.toNat)).app y1).n+(p_w.drop (IntKind.wrap .i64 (p_i+(p_l.If.n:Int))).toNat).n) * 8<=140737488355328/\(((Sl.of []:Sl Sound).app (p_w.take p_i.toNat)).app y1).n+(p_w.drop (IntKind.wrap .i64 (p_i+(p_l.If.n:Int))).toNat).n<=140737488355328)) then
     some ((((Sl.of []:Sl Sound).app (p_w.take p_i.toNat)).app y1).app (p_w.drop (IntKind.wrap .i64 (p_i+(p_l.If.n:Int))).toNat))
    else none
   else none
  else none
 else none
def AY7 (N:Nat) (p_l:Law) (p_w:(Sl Sound)):Option ((Sl Int) × (Sl (Sl Sound)) × Int):=
 Ck3 N (fun self1 (x2:Sl Int) (x3:Sl (Sl Sound)) (x4:Sl Sound) (x5:Int)=>
  if (decide (x5<=(p_w.n:Int)))=true then
   (Ag5 N p_l p_w x5).bind fun y5=>
   if (!y5)=true then
    lt (fun (z3:Sl Sound)=>
     self1 x2 x3 z3 (IntKind.wrap .i64 (x5+1))
     ) fun k3=>
     if (decide (x5 < (p_w.n:Int)))=true then
      if (((0:Int)<=x5/\x5 < (p_w.n:Int))/\((x4.n+(Sl.of [(p_w.g x5.toNat)]:Sl Sound).n) * 8<=140737488355328/\x4.n+(Sl.of [(p_w.g x5.toNat)]:Sl Sound).n<=140737488355328)) then
       k3 (x4.push (p_w.g x5.toNat))
      else none
     else
      k3 x4
   else
    if ((0:Int)<=x5/\x5<=(IntKind.wrap .i64 (x5+(p_l.If.n:Int)))/\(IntKind.wrap .i64 (x5+(p_l.If.n:Int)))<=(p_w.n:Int)) then
     (Ak5 N p_l (p_w.sub x5.toNat (IntKind.wrap .i64 (x5+(p_l.If.n:Int))).toNat)).bind fun y6=>
     if ((x4.n+y6.n) * 8<=140737488355328/\x4.n+y6.n<=140737488355328) then
      if ((x2.n+(Sl.of [x5]:Sl Int).n) * 8<=140737488355328/\x2.n+(Sl.of [x5]:Sl Int).n<=140737488355328) then
       if (((((Sl.of []:Sl Sound).n+(x4.app y6).n) * 8<=140737488355328/\(Sl.of []:Sl Sound).n+(x4.app y6).n<=140737488355328)/\((0:Int)<=(IntKind.wrap .i64 (x5+(p_l.If.n:Int)))/\(IntKind.wrap .i64 (x5+(p_l.If.n:Int)))<=(p_w.n:Int)))/\((((Sl.of []:Sl Sound).app (x4.app y6)).n+(p_w.drop (IntKind.wrap .i64 (x5+(p_l.If.n:Int))).toNat).n) * 8<=140737488355328/\((Sl.of []:Sl Sound).app (x4.app y6)).n+(p_w.drop (IntKind.wrap .i64 (x5+(p_l.If.n:Int))).toNat).n<=140737488355328)) then
        if (decide (32 < ((((Sl.of []:Sl Sound).app (x4.app y6)).app (p_w.drop (IntKind.wrap .i64 (x5+(p_l.If.n:Int))).toNat)).n:Int)))=true then
         some ((Sl.nil:Sl Int),(Sl.nil:Sl (Sl Sound)),11)
        else
         if ((x3.n+(Sl.of [(((Sl.of []:Sl Sound).app (x4.app y6)).app (p_w.drop (IntKind.wrap .i64 (x5+(p_l.If.n:Int))).toNat))]:Sl (Sl Sound)).n) * 24<=140737488355328/\x3.n+(Sl.of [(((Sl.of []:Sl Sound).app (x4.app y6)).app (p_w.drop (IntKind.wrap .i64 (x5+(p_l.If.n:Int))).toNat))]:Sl (Sl Sound)).n<=140737488355328) then
          if ((p_l.If.n:Int) == 0)=true then
           if (decide ((IntKind.wrap .i64 (x5+(p_l.If.n:Int))) < (p_w.n:Int)))=true then
            if (((0:Int)<=(IntKind.wrap .i64 (x5+(p_l.If.n:Int)))/\(IntKind.wrap .i64 (x5+(p_l.If.n:Int))) < (p_w.n:Int))/\(((x4.app y6).n+(Sl.of [(p_w.g (IntKind.wrap .i64 (x5+(p_l.If.n:Int))).toNat)]:Sl Sound).n) * 8<=140737488355328/\(x4.app y6).n+(Sl.of [(p_w.g (IntKind.wrap .i64 (x5+(p_l.If.n:Int))).toNat)]:Sl Sound).n<=140737488355328)) then
             self1 (x2.push x5) (x3.push (((Sl.of []:Sl Sound).app (x4.app y6)).app (p_w.drop (IntKind.wrap .i64 (x5+(p_l.If.n:Int))).toNat))) ((x4.app y6).push (p_w.g (IntKind.wrap .i64 (x5+(p_l.If.n:Int))).toNat)) (IntKind.wrap .i64 ((IntKind.wrap .i64 (x5+(p_l.If.n:Int)))+1))
            else none
           else
            self1 (x2.push x5) (x3.push (((Sl.of []:Sl Sound).app (x4.app y6)).app (p_w.drop (IntKind.wrap .i64 (x5+(p_l.If.n:Int))).toNat))) (x4.app y6) (IntKind.wrap .i64 ((IntKind.wrap .i64 (x5+(p_l.If.n:Int)))+1))
          else
           self1 (x2.push x5) (x3.push (((Sl.of []:Sl Sound).app (x4.app y6)).app (p_w.drop (IntKind.wrap .i64 (x5+(p_l.If.n:Int))).toNat))) (x4.app y6) (IntKind.wrap .i64 (x5+(p_l.If.n:Int)))
         else none
       else none
      else none
     else none
    else none
  else
   some (x2,x3,0)
  ) (Sl.nil:Sl Int) (Sl.nil:Sl (Sl Sound)) (Sl.nil:Sl Sound) 0
def AE6 (N:Nat) (p_l:Law) (p_w:(Sl Sound)):Option ((Sl Int) × (Sl (Sl Sound)) × Int):=
 Ck3 N (fun self1 (x1:Sl Sound) (x2:Sl Int) (x3:Sl (Sl Sound)) (x4:Int)=>
  if (decide ((IntKind.wrap .i64 (x4+(p_l.If.n:Int)))<=(x1.n:Int)))=true then
   (Ag5 N p_l x1 x4).bind fun y5=>
   if (!y5)=true then
    self1 x1 x2 x3 (IntKind.wrap .i64 (x4+1))
   else
    (V8 N p_l x1 x4).bind fun y6=>
    if (decide (32 < (y6.n:Int)))=true then
     some ((Sl.nil:Sl Int),(Sl.nil:Sl (Sl Sound)),11)
    else
     if (((x2.n+(Sl.of [x4]:Sl Int).n) * 8<=140737488355328/\x2.n+(Sl.of [x4]:Sl Int).n<=140737488355328)/\((x3.n+(Sl.of [y6]:Sl (Sl Sound)).n) * 24<=140737488355328/\x3.n+(Sl.of [y6]:Sl (Sl Sound)).n<=140737488355328)) then
      if ((p_l.If.n:Int) == 0)=true then
       self1 y6 (x2.push x4) (x3.push y6) (IntKind.wrap .i64 ((IntKind.wrap .i64 (x4+(p_l.Out.n:Int)))+1))
      else
       self1 y6 (x2.push x4) (x3.push y6) (IntKind.wrap .i64 (x4+(p_l.Out.n:Int)))
     else none
  else
   some (x2,x3,0)
  ) p_w (Sl.nil:Sl Int) (Sl.nil:Sl (Sl Sound)) 0
def AA1 (N:Nat) (p_l:Law) (p_w:(Sl Sound)):Option ((Sl Int) × (Sl (Sl Sound)) × Int):=
 Ck3 N (fun self1 (x1:Sl Sound) (x2:Sl Int) (x3:Sl (Sl Sound)) (x4:Int)=>
  if (decide (0<=x4))=true then
   (Ag5 N p_l x1 x4).bind fun y5=>
   if (!y5)=true then
    self1 x1 x2 x3 (IntKind.wrap .i64 (x4 - 1))
   else
    (V8 N p_l x1 x4).bind fun y6=>
    if (decide (32 < (y6.n:Int)))=true then
     some ((Sl.nil:Sl Int),(Sl.nil:Sl (Sl Sound)),11)
    else
     if (((x2.n+(Sl.of [x4]:Sl Int).n) * 8<=140737488355328/\x2.n+(Sl.of [x4]:Sl Int).n<=140737488355328)/\((x3.n+(Sl.of [y6]:Sl (Sl Sound)).n) * 24<=140737488355328/\x3.n+(Sl.of [y6]:Sl (Sl Sound)).n<=140737488355328)) then
      if ((p_l.If.n:Int) == 0)=true then
       self1 y6 (x2.push x4) (x3.push y6) (IntKind.wrap .i64 ((IntKind.wrap .i64 (x4 - (p_l.If.n:Int))) - 1))
      else
       self1 y6 (x2.push x4) (x3.push y6) (IntKind.wrap .i64 (x4 - (p_l.If.n:Int)))
     else none
  else
   some (x2,x3,0)
  ) p_w (Sl.nil:Sl Int) (Sl.nil:Sl (Sl Sound)) (IntKind.wrap .i64 ((p_w.n:Int) - (p_l.If.n:Int)))
def AE7 (N:Nat) (p_l:Law) (p_w:(Sl Sound)):Option ((Sl Int) × (Sl (Sl Sound)) × Int):=
 (AY6 N p_l p_w).bind fun y1=>
 if (y1 != 0)=true then
  some ((Sl.nil:Sl Int),(Sl.nil:Sl (Sl Sound)),y1)
 else
  if (p_l.Mode == 1)=true then
   (AY7 N p_l p_w).bind fun y2=>
   some (y2.1,y2.2.1,y2.2.2)
  else
   if (p_l.Mode == 2)=true then
    (AE6 N p_l p_w).bind fun y3=>
    some (y3.1,y3.2.1,y3.2.2)
   else
    (AA1 N p_l p_w).bind fun y4=>
    some (y4.1,y4.2.1,y4.2.2)
def As3 (N:Nat) (p_l:Law) (p_w:(Sl Sound)):Option ((Sl Sound) × Int):=
 (AE7 N p_l p_w).bind fun y1=>
 if (y1.2.2 != 0)=true then
  some ((Sl.nil:Sl Sound),y1.2.2)
 else
  if ((y1.2.1.n:Int) == 0)=true then
   if (((Sl.of []:Sl Sound).n+p_w.n) * 8<=140737488355328/\(Sl.of []:Sl Sound).n+p_w.n<=140737488355328) then
    some (((Sl.of []:Sl Sound).app p_w),0)
   else none
  else
   if ((((0:Int)<=(IntKind.wrap .i64 ((y1.2.1.n:Int) - 1))/\(IntKind.wrap .i64 ((y1.2.1.n:Int) - 1)) < (y1.2.1.n:Int))/\(IntKind.wrap .i64 ((y1.2.1.n:Int) - 1)).toNat < y1.2.1.n)/\(((Sl.of []:Sl Sound).n+(y1.2.1.g (IntKind.wrap .i64 ((y1.2.1.n:Int) - 1)).toNat).n) * 8<=140737488355328/\(Sl.of []:Sl Sound).n+(y1.2.1.g (IntKind.wrap .i64 ((y1.2.1.n:Int) - 1)).toNat).n<=140737488355328)) then
    some (((Sl.of []:Sl Sound).app (y1.2.1.g (IntKind.wrap .i64 ((y1.2.1.n:Int) - 1)).toNat)),0)
   else none
def AY8 (N:Nat) (p_laws:(Sl Law)) (p_w:(Sl Sound)):Option ((Sl (Sl Sound)) × Int):=
 (Ae5 N p_laws).bind fun y1=>
 lt (fun (z1:Int)=>
  if (z1 != 0)=true then
   some ((Sl.nil:Sl (Sl Sound)),z1)
  else
   (Az7 N p_w).bind fun y4=>
   T0 N (fun self1 (x2:Sl (Sl Sound)) (x3:Int)=>
    if (decide (x3 < (p_laws.n:Int)))=true then
     if ((((0:Int)<=x3/\x3 < (p_laws.n:Int))/\((0:Int)<=x3/\x3 < (x2.n:Int)))/\x3.toNat < x2.n) then
      (As3 N (p_laws.g x3.toNat) (x2.g x3.toNat)).bind fun y7=>
      if (y7.2 != 0)=true then
       some ((Sl.nil:Sl (Sl Sound)),y7.2)
      else
       if ((x2.n+(Sl.of [y7.1]:Sl (Sl Sound)).n) * 24<=140737488355328/\x2.n+(Sl.of [y7.1]:Sl (Sl Sound)).n<=140737488355328) then
        self1 (x2.push y7.1) (IntKind.wrap .i64 (x3+1))
       else none
     else none
    else
     some (x2,0)
    ) (Sl.of [y4]:Sl (Sl Sound)) 0
  ) fun k1=>
  if (y1 == 0)=true then
   (Ae4 N p_w).bind fun y3=>
   k1 y3
  else
   k1 y1
def Ax5 (N:Nat) (p_laws:(Sl Law)) (p_w:(Sl Sound)):Option ((Sl Sound) × Int):=
 (AY8 N p_laws p_w).bind fun y1=>
 if (y1.2 != 0)=true then
  some ((Sl.nil:Sl Sound),y1.2)
 else
  if (((0:Int)<=(IntKind.wrap .i64 ((y1.1.n:Int) - 1))/\(IntKind.wrap .i64 ((y1.1.n:Int) - 1)) < (y1.1.n:Int))/\(IntKind.wrap .i64 ((y1.1.n:Int) - 1)).toNat < y1.1.n) then
   some ((y1.1.g (IntKind.wrap .i64 ((y1.1.n:Int) - 1)).toNat),0)
  else none
end Go.AM
set_option linter.unusedVariables false
set_option linter.unusedSectionVars false
namespace Go.AM
open Go.Proofs
set_option maxRecDepth 10000
set_option maxHeartbeats 2000000
variable {S:Af9} (hS:I3 S Tryz.prog) (hL:BL4 S)
include hS hL
def O3 (N:Nat) (q0:Int):Option (List (Int)):=
 Aa9 N (fun self1 (x1:Int)=>
  if (x1 != 0)=true then
   (F3 N x1).bind fun y3=>
   if (0:Int)<=y3 then
    Ab4 y3 (
     self1 (E7 .andNot .u64 x1 (shI .shl .u64 1 y3))
     )
   else none
  else
   some []
  ) q0
theorem Ah7 {N:Nat} {q0:Int} {L:List (Int)} (h:O3 N q0=some L) :
 Am7 S Z5 [] [.reg 0 0] [(.cells [(.p (pI .u64 q0))])] (L.map (fun (x:Int)=>[(pI .i64) x])):=by
 unfold O3 at h
 refine Az5 hS At9 ?_
 refine Av9 hS trivial h (fun x1 L1=>⟨[(1,(.reg 0 0)),(0,(.yf 1))], [(1,(.yld (L1.map (fun (x:Int)=>[(pI .i64) x])) true)),(0,(.cells [(.p (pI .u64 x1))]))]⟩) (ids:=[(0,0),(1,1)]) (fun _ _ _ _ _ self1 x1 L1 hb1 h=>?_)
 refine A1 hS trivial (b:=x1 != 0) (fun c9=>?_) (fun c9=>?_)
 ·replace h:=itT c9 h
  obtain ⟨y3,e3,h⟩:=A4 h
  refine A3 hS [] trivial (Aj9 hS hL e3) ?_
  refine BD2 hS trivial ?_
  obtain ⟨c10,h⟩:=P0 h
  refine Q1 c10 ?_
  obtain ⟨L4,rfl,hcL4⟩:=Bb9 h
  replace h:=hcL4
  refine Am8 hS trivial (ys:=(fun (x:Int)=>[(pI .i64) x]) y3) (rest:=L4.map (fun (x:Int)=>[(pI .i64) x])) ?_ ?_
  ·refine A1 hS trivial (b:=false) (fun c11=>?_) (fun c11=>?_)
   ·exact Bool.noConfusion ((rfl:false=false).symm.trans c11)
   ·exact hb1 _ [(0,0),(1,1)] _ (E7 .andNot .u64 x1 (shI .shl .u64 1 y3)) L4 trivial h
  ·refine A1 hS trivial (b:=true) (fun c12=>?_) (fun c12=>?_)
   ·exact B6 hS trivial (a:=.tup []) (objs:=[(.cells [(.p (pI .u64 (E7 .andNot .u64 x1 (shI .shl .u64 1 y3))))]),(.yld [] false)]) ⟨[], [(1,(.yld [] false)),(0,(.cells [(.p (pI .u64 (E7 .andNot .u64 x1 (shI .shl .u64 1 y3))))]))]⟩ [0,1] (ids:=[(0,0),(1,1)]) ⟨false,rfl,rfl,_,rfl⟩
   ·exact Bool.noConfusion ((rfl:true=true).symm.trans c12)
 ·replace h:=itF c9 h
  obtain rfl:=A5 h
  exact B6 hS trivial (a:=.tup []) (objs:=[(.cells [(.p (pI .u64 x1))]),(.yld [] true)]) ⟨[], [(1,(.yld [] true)),(0,(.cells [(.p (pI .u64 x1))]))]⟩ [0,1] (ids:=[(0,0),(1,1)]) ⟨true,rfl,rfl,_,rfl⟩
def Y4 (N:Nat) (p_s:Int):Option (Int):=
 some p_s
theorem An2 {N:Nat} {p_s:Int}   {y:(Int)} (h:Y4 N p_s=some y) :
 FunO S AD0 [(.p (pI .u64 p_s))] [] (.clo Z5 [] [.reg 0 0]) ([(.cells [(.p (pI .u64 y))])]) []:=by
 unfold Y4 at h
 refine A7 hS Bd4 ?_
 obtain rfl:=A5 h
 exact B6 hS trivial ⟨[(2,(.clo Z5 [] [(.reg 2000 0)]))], [(2000,(.cells [(.p (pI .u64 p_s))]))]⟩ [2000] (ids:=[(2000,2000)]) ⟨rfl,rfl,rfl⟩
def D3 (N:Nat) (p_x:(Nat->Int)) (p_y:(Nat->Int)):Option (Nat->Int):=
 T0 N (fun self3 (x3:Nat->Int) (x4:Int)=>
  if (decide (x4 < 33))=true then
   if (((0:Int)<=x4/\x4 < 33)/\(0+x4.toNat * 1) < 33) then
    (Y4 N (p_x (0+x4.toNat * 1))).bind fun y3=>
    (O3 N y3).bind fun L3=>
    K4 L3 (fun self4 (x7:Int) (z3:Nat->Int)=>
     if (((((((0:Int)<=x4/\x4 < 33)/\(0+x4.toNat * 1) < 33)/\((0:Int)<=x7/\x7 < 33))/\(0+x7.toNat * 1) < 33)/\((0:Int)<=x4/\x4 < 33))/\(0+x4.toNat * 1) < 33) then
      self4 (AW5 z3 (0+x4.toNat * 1) (E7 .or .u64 (z3 (0+x4.toNat * 1)) (p_y (0+x7.toNat * 1))))
     else none
     ) (fun (z3:Nat->Int)=>
      self3 z3 (IntKind.wrap .i64 (x4+1))
     ) x3
   else none
  else
   some x3
  ) (fun _=>0) 0
theorem P3 {N:Nat} {p_x:(Nat->Int)} {p_y:(Nat->Int)}   {y:(Nat->Int)} (h:D3 N p_x p_y=some y) :
 FunO S X2 [(.reg 0 0),(.reg 1 0)] [(.arr 33 (fun i=>pI .u64 (p_x i))),(.arr 33 (fun i=>pI .u64 (p_y i)))] (.p (.agg (cA 33 (pI .u64) y))) ([(.arr 33 (fun i=>pI .u64 (p_x i))),(.arr 33 (fun i=>pI .u64 (p_y i)))]) [true,true]:=by
 unfold D3 at h
 refine A7 hS Ai1 ?_
 refine Ab0 hS trivial h (fun x3 x4=>⟨[(10,(pN x4)),(9,(.reg 0 0)),(5,(.reg 6000 0)),(4,(.reg 5000 0)),(3,(.reg 4000 0))], [(6000,(.arr 33 (fun i=>pI .u64 (x3 i)))),(5000,(.arr 33 (fun i=>pI .u64 ((fun _=>0) i)))),(4000,(.cells [(.reg 1 0)])),(1,(.arr 33 (fun i=>pI .u64 (p_y i)))),(0,(.arr 33 (fun i=>pI .u64 (p_x i))))]⟩) (ids:=[(0,0),(1,1),(4000,4000),(5000,5000),(6000,6000)]) (fun _ _ _ _ _ self3 x3 x4 hb3 h=>?_) (hle:=(klR [(1, .fn 33 33 (fun i=>[(fun i=>(List.replicate 33 (pI .u64 0)).getD i default) i]) (fun i=>[pI .u64 ((fun _=>0) i)])),(2, .fn 33 33 (fun i=>[(fun i=>(List.replicate 33 (pI .u64 0)).getD i default) i]) (fun i=>[pI .u64 ((fun _=>0) i)]))] (al1 ⟨rfl,(Ae1 (z:=pI .u64 0) rfl)⟩ (al1 ⟨rfl,(Ae1 (z:=pI .u64 0) rfl)⟩ al0))))
 refine A1 hS trivial (b:=decide (x4 < 33)) (fun c11=>?_) (fun c11=>?_)
 ·replace h:=itT c11 h
  refine V2 hS trivial [(2, .l [0]),(3, .l [0]),(4, .a [7000]),(5, .a [7000])] ?_
  obtain ⟨c12,h⟩:=P0 h
  refine Q1 c12 ?_
  refine Ac2 hS trivial 16 7000 [(pI .i64 x4)] ?_
  obtain ⟨y3,e5,h⟩:=A4 h
  refine A3 hS [] trivial (An2 hS hL e5) ?_
  obtain ⟨L3,e6,h⟩:=A4 h
  refine AL6 hS trivial [18000] [10,9,6,5,4,3] 905 (fun z3=>⟨[(10,(pN x4)),(9,(.reg 0 0)),(6,(.p (.ptr [(pI .i64 x4)]))),(5,(.reg 6000 0)),(4,(.reg 5000 0)),(3,(.reg 4000 0))], [(6000,(.arr 33 (fun i=>pI .u64 (z3 i)))),(5000,(.arr 33 (fun i=>pI .u64 ((fun _=>0) i)))),(4000,(.cells [(.reg 1 0)])),(1,(.arr 33 (fun i=>pI .u64 (p_y i)))),(0,(.arr 33 (fun i=>pI .u64 (p_x i))))]⟩) (idl:=[(0,0),(1,1),(4000,4000),(5000,5000),(6000,6000)]) h (Ah7 hS hL e6) (fun _=>by kernel_rfl) (fun _=>by kernel_rfl) (fun _=>by kernel_rfl) (fun _=>by kernel_rfl) (fun x7 _ self4 z3 hb4 h=>?_) (fun z3 h=>?_)
  ·refine AL7 hS trivial ?_
   refine V2 hS trivial [(0, .n),(1, .l [6000]),(2, .l [6000]),(3, .l [4000]),(6, .l [1]),(7, .l [1]),(9, .l [6000]),(10, .a [6000])] ?_
   obtain ⟨c15,h⟩:=P0 h
   refine Q1 c15 ?_
   exact hb4 _ [(0,0),(1,1),(905,905),(4000,4000),(5000,5000),(6000,6000)] _ (AW5 z3 (0+x4.toNat * 1) (E7 .or .u64 (z3 (0+x4.toNat * 1)) (p_y (0+x7.toNat * 1)))) trivial h (by kernel_rfl) (by kernel_rfl) (klR [(0, .fn 33 33 (fun i=>[(fun i=>if i=(0+x4.toNat * 1) then (pI .u64 (E7 .or .u64 (z3 (0+x4.toNat * 1)) (p_y (0+x7.toNat * 1)))) else (fun i=>pI .u64 (z3 i)) i) i]) (fun i=>[pI .u64 ((AW5 z3 (0+x4.toNat * 1) (E7 .or .u64 (z3 (0+x4.toNat * 1)) (p_y (0+x7.toNat * 1)))) i)]))] (al1 ⟨rfl,(Cw8 (c:=pI .u64) (v:=z3) (x:=E7 .or .u64 (z3 (0+x4.toNat * 1)) (p_y (0+x7.toNat * 1))) (fun _ _=>rfl) rfl)⟩ al0))
  ·exact hb3 _ [(0,0),(1,1),(4000,4000),(5000,5000),(6000,6000)] _ z3 (IntKind.wrap .i64 (x4+1)) trivial h
 ·replace h:=itF c11 h
  obtain rfl:=A5 h
  exact B6 hS (And.intro rfl (E5 _ _):(0:Nat)=0/\(Ah3 33 (fun i=>pI .u64 (x3 i))).length=33) ⟨[(4,(.reg 5000 0))], [(5000,(.arr 33 (fun i=>pI .u64 (x3 i)))),(1,(.arr 33 (fun i=>pI .u64 (p_y i)))),(0,(.arr 33 (fun i=>pI .u64 (p_x i))))]⟩ [0,1] (ids:=[(0,0),(1,1),(5000,5000)]) ⟨rfl,rfl,rfl⟩ (hle:=(klR [(0, .fn 33 33 (fun i=>[(fun i=>(cA 33 (pI .u64) x3).getD i default) i]) (fun i=>[pI .u64 (x3 i)]))] (al1 ⟨rfl,(D7 33 (fun i=>pI .u64 (x3 i)))⟩ al0)))
def H0 (N:Nat) (p_x:(Nat->Int)):Option (Nat->Int):=
 T0 N (fun self3 (x3:Nat->Int) (x4:Int)=>
  if (decide (x4 < 33))=true then
   if (((0:Int)<=x4/\x4 < 33)/\(0+x4.toNat * 1) < 33) then
    (Y4 N (p_x (0+x4.toNat * 1))).bind fun y3=>
    (O3 N y3).bind fun L3=>
    K4 L3 (fun self4 (x7:Int) (z3:Nat->Int)=>
     if (((((((0:Int)<=x4/\x4 < 33)/\(0+x4.toNat * 1) < 33)/\((0:Int)<=x7/\x7 < 33))/\(0+x7.toNat * 1) < 33)/\((0:Int)<=x4/\x4 < 33))/\(0+x4.toNat * 1) < 33) then
      self4 (AW5 z3 (0+x4.toNat * 1) (E7 .or .u64 (z3 (0+x4.toNat * 1)) (p_x (0+x7.toNat * 1))))
     else none
     ) (fun (z3:Nat->Int)=>
      self3 z3 (IntKind.wrap .i64 (x4+1))
     ) x3
   else none
  else
   some x3
  ) (fun _=>0) 0
theorem Ag6 {N:Nat} {p_x:(Nat->Int)}   {y:(Nat->Int)} (h:H0 N p_x=some y) :
 FunO S X2 [(.reg 0 0),(.reg 0 0)] [(.arr 33 (fun i=>pI .u64 (p_x i)))] (.p (.agg (cA 33 (pI .u64) y))) ([(.arr 33 (fun i=>pI .u64 (p_x i)))]) [true]:=by
 unfold H0 at h
 refine A7 hS Ai1 ?_
 refine Ab0 hS trivial h (fun x3 x4=>⟨[(10,(pN x4)),(9,(.reg 0 0)),(5,(.reg 6000 0)),(4,(.reg 5000 0)),(3,(.reg 4000 0))], [(6000,(.arr 33 (fun i=>pI .u64 (x3 i)))),(5000,(.arr 33 (fun i=>pI .u64 ((fun _=>0) i)))),(4000,(.cells [(.reg 0 0)])),(0,(.arr 33 (fun i=>pI .u64 (p_x i))))]⟩) (ids:=[(0,0),(4000,4000),(5000,5000),(6000,6000)]) (fun _ _ _ _ _ self3 x3 x4 hb3 h=>?_) (hle:=(klR [(1, .fn 33 33 (fun i=>[(fun i=>(List.replicate 33 (pI .u64 0)).getD i default) i]) (fun i=>[pI .u64 ((fun _=>0) i)])),(2, .fn 33 33 (fun i=>[(fun i=>(List.replicate 33 (pI .u64 0)).getD i default) i]) (fun i=>[pI .u64 ((fun _=>0) i)]))] (al1 ⟨rfl,(Ae1 (z:=pI .u64 0) rfl)⟩ (al1 ⟨rfl,(Ae1 (z:=pI .u64 0) rfl)⟩ al0))))
 refine A1 hS trivial (b:=decide (x4 < 33)) (fun c11=>?_) (fun c11=>?_)
 ·replace h:=itT c11 h
  refine V2 hS trivial [(2, .l [0]),(3, .l [0]),(4, .a [7000]),(5, .a [7000])] ?_
  obtain ⟨c12,h⟩:=P0 h
  refine Q1 c12 ?_
  refine Ac2 hS trivial 16 7000 [(pI .i64 x4)] ?_
  obtain ⟨y3,e5,h⟩:=A4 h
  refine A3 hS [] trivial (An2 hS hL e5) ?_
  obtain ⟨L3,e6,h⟩:=A4 h
  refine AL6 hS trivial [18000] [10,9,6,5,4,3] 905 (fun z3=>⟨[(10,(pN x4)),(9,(.reg 0 0)),(6,(.p (.ptr [(pI .i64 x4)]))),(5,(.reg 6000 0)),(4,(.reg 5000 0)),(3,(.reg 4000 0))], [(6000,(.arr 33 (fun i=>pI .u64 (z3 i)))),(5000,(.arr 33 (fun i=>pI .u64 ((fun _=>0) i)))),(4000,(.cells [(.reg 0 0)])),(0,(.arr 33 (fun i=>pI .u64 (p_x i))))]⟩) (idl:=[(0,0),(4000,4000),(5000,5000),(6000,6000)]) h (Ah7 hS hL e6) (fun _=>by kernel_rfl) (fun _=>by kernel_rfl) (fun _=>by kernel_rfl) (fun _=>by kernel_rfl) (fun x7 _ self4 z3 hb4 h=>?_) (fun z3 h=>?_)
  ·refine AL7 hS trivial ?_
   refine V2 hS trivial [(0, .n),(1, .l [6000]),(2, .l [6000]),(3, .l [4000]),(6, .l [0]),(7, .l [0]),(9, .l [6000]),(10, .a [6000])] ?_
   obtain ⟨c15,h⟩:=P0 h
   refine Q1 c15 ?_
   exact hb4 _ [(0,0),(905,905),(4000,4000),(5000,5000),(6000,6000)] _ (AW5 z3 (0+x4.toNat * 1) (E7 .or .u64 (z3 (0+x4.toNat * 1)) (p_x (0+x7.toNat * 1)))) trivial h (by kernel_rfl) (by kernel_rfl) (klR [(0, .fn 33 33 (fun i=>[(fun i=>if i=(0+x4.toNat * 1) then (pI .u64 (E7 .or .u64 (z3 (0+x4.toNat * 1)) (p_x (0+x7.toNat * 1)))) else (fun i=>pI .u64 (z3 i)) i) i]) (fun i=>[pI .u64 ((AW5 z3 (0+x4.toNat * 1) (E7 .or .u64 (z3 (0+x4.toNat * 1)) (p_x (0+x7.toNat * 1)))) i)]))] (al1 ⟨rfl,(Cw8 (c:=pI .u64) (v:=z3) (x:=E7 .or .u64 (z3 (0+x4.toNat * 1)) (p_x (0+x7.toNat * 1))) (fun _ _=>rfl) rfl)⟩ al0))
  ·exact hb3 _ [(0,0),(4000,4000),(5000,5000),(6000,6000)] _ z3 (IntKind.wrap .i64 (x4+1)) trivial h
 ·replace h:=itF c11 h
  obtain rfl:=A5 h
  exact B6 hS (And.intro rfl (E5 _ _):(0:Nat)=0/\(Ah3 33 (fun i=>pI .u64 (x3 i))).length=33) ⟨[(4,(.reg 5000 0))], [(5000,(.arr 33 (fun i=>pI .u64 (x3 i)))),(0,(.arr 33 (fun i=>pI .u64 (p_x i))))]⟩ [0] (ids:=[(0,0),(5000,5000)]) ⟨rfl,rfl,rfl⟩ (hle:=(klR [(0, .fn 33 33 (fun i=>[(fun i=>(cA 33 (pI .u64) x3).getD i default) i]) (fun i=>[pI .u64 (x3 i)]))] (al1 ⟨rfl,(D7 33 (fun i=>pI .u64 (x3 i)))⟩ al0)))
def E4 (N:Nat) (p_x:(Nat->Int)) (p_k:Int) (p_n:Int):Option (Nat->Int):=
 (N8 N p_n).bind fun y1=>
 CA6 N (fun self1 (x1:Int) (x2:Nat->Int) (x3:Nat->Int)=>
  if (decide (0 < x1))=true then
   if ((E7 .and .i64 x1 1) == 1)=true then
    (D3 N x3 x2).bind fun y8=>
    (H0 N x2).bind fun y9=>
    self1 (shI .shr .i64 x1 1) y9 y8
   else
    (H0 N x2).bind fun y10=>
    self1 (shI .shr .i64 x1 1) y10 x3
  else
   some x3
  ) p_k p_x y1
theorem U1 {N:Nat} {p_x:(Nat->Int)} {p_k:Int} {p_n:Int}   {y:(Nat->Int)} (h:E4 N p_x p_k p_n=some y) :
 FunO S Ag2 [(.p (.agg (cA 33 (pI .u64) p_x))),(pN p_k),(pN p_n)] [] (.p (.agg (cA 33 (pI .u64) y))) ([]) []:=by
 unfold E4 at h
 refine A7 hS Aw7 ?_
 obtain ⟨y1,e1,h⟩:=A4 h
 refine A3 hS [] trivial (Ak1 hS hL e1) ?_
 refine CF4 hS (And.intro rfl (E5 _ _):(0:Nat)=0/\(Ah3 33 (fun i=>pI .u64 (y1 i))).length=33) h (fun x1 x2 x3=>⟨[(7,(.reg 8000 0)),(6,(.reg 7000 0)),(3,(.reg 4000 0)),(1,(pN x1))], [(8000,(.arr 33 (fun i=>pI .u64 (x3 i)))),(7000,(.arr 33 (fun i=>pI .u64 ((fun _=>0) i)))),(4000,(.arr 33 (fun i=>pI .u64 (x2 i))))]⟩) (ids:=[(4000,4000),(7000,7000),(8000,8000)]) (fun _ _ _ _ _ self1 x1 x2 x3 hb1 h=>?_) (hle:=(klR [(1, .fn 33 33 (fun i=>[(fun i=>(cA 33 (pI .u64) y1).getD i default) i]) (fun i=>[pI .u64 (y1 i)])),(2, .fn 33 33 (fun i=>[(fun i=>(List.replicate 33 (pI .u64 0)).getD i default) i]) (fun i=>[pI .u64 ((fun _=>0) i)])),(3, .fn 33 33 (fun i=>[(fun i=>(cA 33 (pI .u64) p_x).getD i default) i]) (fun i=>[pI .u64 (p_x i)]))] (al1 ⟨rfl,(D7 33 (fun i=>pI .u64 (y1 i)))⟩ (al1 ⟨rfl,(Ae1 (z:=pI .u64 0) rfl)⟩ (al1 ⟨rfl,(D7 33 (fun i=>pI .u64 (p_x i)))⟩ al0)))))
 refine A1 hS trivial (b:=decide (0 < x1)) (fun c5=>?_) (fun c5=>?_)
 ·replace h:=itT c5 h
  refine A1 hS trivial (b:=(E7 .and .i64 x1 1) == 1) (fun c6=>?_) (fun c6=>?_)
  ·replace h:=itT c6 h
   obtain ⟨y8,e8,h⟩:=A4 h
   refine A3 hS [8000,4000] trivial (P3 hS hL e8) ?_
   obtain ⟨y9,e9,h⟩:=A4 h
   refine A3 hS [4000] (And.intro rfl (E5 _ _):(0:Nat)=0/\(Ah3 33 (fun i=>pI .u64 (y8 i))).length=33) (Ag6 hS hL e9) ?_
   exact hb1 _ [(4000,4000),(7000,7000),(8000,8000)] _ (shI .shr .i64 x1 1) y9 y8 (And.intro (And.intro rfl (E5 _ _):(0:Nat)=0/\(Ah3 33 (fun i=>pI .u64 (y9 i))).length=33) (by decide:(0:Int)<=1)) h (by kernel_rfl) (by kernel_rfl) (klR [(1, .fn 33 33 (fun i=>[(fun i=>(cA 33 (pI .u64) y8).getD i default) i]) (fun i=>[pI .u64 (y8 i)])),(3, .fn 33 33 (fun i=>[(fun i=>(cA 33 (pI .u64) y9).getD i default) i]) (fun i=>[pI .u64 (y9 i)]))] (al1 ⟨rfl,(D7 33 (fun i=>pI .u64 (y8 i)))⟩ (al1 ⟨rfl,(D7 33 (fun i=>pI .u64 (y9 i)))⟩ al0)))
  ·replace h:=itF c6 h
   obtain ⟨y10,e10,h⟩:=A4 h
   refine A3 hS [4000] trivial (Ag6 hS hL e10) ?_
   exact hb1 _ [(4000,4000),(7000,7000),(8000,8000)] _ (shI .shr .i64 x1 1) y10 x3 (And.intro (And.intro rfl (E5 _ _):(0:Nat)=0/\(Ah3 33 (fun i=>pI .u64 (y10 i))).length=33) (by decide:(0:Int)<=1)) h (by kernel_rfl) (by kernel_rfl) (klR [(3, .fn 33 33 (fun i=>[(fun i=>(cA 33 (pI .u64) y10).getD i default) i]) (fun i=>[pI .u64 (y10 i)]))] (al1 ⟨rfl,(D7 33 (fun i=>pI .u64 (y10 i)))⟩ al0))
 ·replace h:=itF c5 h
  obtain rfl:=A5 h
  exact B6 hS (And.intro rfl (E5 _ _):(0:Nat)=0/\(Ah3 33 (fun i=>pI .u64 (x3 i))).length=33) ⟨[(6,(.reg 7000 0))], [(7000,(.arr 33 (fun i=>pI .u64 (x3 i))))]⟩ [] (ids:=[(7000,7000)]) ⟨rfl,rfl,rfl⟩ (hle:=(klR [(0, .fn 33 33 (fun i=>[(fun i=>(cA 33 (pI .u64) x3).getD i default) i]) (fun i=>[pI .u64 (x3 i)]))] (al1 ⟨rfl,(D7 33 (fun i=>pI .u64 (x3 i)))⟩ al0)))
end Go.AM
set_option linter.unusedVariables false
set_option linter.unusedSectionVars false
namespace Go.AM
open Go.Proofs
set_option maxRecDepth 10000
set_option maxHeartbeats 2000000
variable {S:Af9} (hS:I3 S Tryz.prog) (hL:BL4 S)
include hS hL
def U2 (N:Nat) (p_x:Ca0) (p_w:(Sl Sound)):Option (Nat->Int):=
 T0 N (fun self1 (x1:Nat->Int) (x2:Int)=>
  if (decide (x2 < (p_w.n:Int)))=true then
   if ((0:Int)<=x2/\x2 < (p_w.n:Int)) then
    if ((((E7 .or .u32 (E7 .andNot .u32 p_x.is.Plus (p_w.g x2.toNat).Plus) (E7 .andNot .u32 p_x.is.Minus (p_w.g x2.toNat).Minus)) == 0) == p_x.not) != true)=true then
     if (((0:Int)<=(IntKind.wrap .i64 (x2+1))/\((0:Int)<=x2/\x2 < 33))/\(0+x2.toNat * 1) < 33) then
      self1 (AW5 x1 (0+x2.toNat * 1) (shI .shl .u64 1 (IntKind.wrap .i64 (x2+1)))) (IntKind.wrap .i64 (x2+1))
     else none
    else
     self1 x1 (IntKind.wrap .i64 (x2+1))
   else none
  else
   some x1
  ) (fun _=>0) 0
theorem AY9 {N:Nat} {p_x:Ca0} {p_w:(Sl Sound)}   {y:(Nat->Int)} (h:U2 N p_x p_w=some y) :
 FunO S Aj8 [(.p (.agg (BL2 p_x))),(.p (vSl 2 A0 p_w))] [] (.p (.agg (cA 33 (pI .u64) y))) ([]) []:=by
 unfold U2 at h
 refine A7 hS AX9 ?_
 refine Ab0 hS trivial h (fun x1 x2=>⟨[(9,(pN x2)),(8,(pN (p_w.n:Int))),(7,(.p (vSl 2 A0 p_w))),(4,(.reg 5000 0)),(2,(.reg 3000 0))], [(5000,(.arr 33 (fun i=>pI .u64 (x1 i)))),(3000,(.cells ((BL2 p_x).map .p)))]⟩) (ids:=[(3000,3000),(5000,5000)]) (fun _ _ _ _ _ self1 x1 x2 hb1 h=>?_) (hle:=(klR [(3, .fn 33 33 (fun i=>[(fun i=>(List.replicate 33 (pI .u64 0)).getD i default) i]) (fun i=>[pI .u64 ((fun _=>0) i)]))] (al1 ⟨rfl,(Ae1 (z:=pI .u64 0) rfl)⟩ al0)))
 refine A1 hS trivial (b:=decide (x2 < (p_w.n:Int))) (fun c7=>?_) (fun c7=>?_)
 ·replace h:=itT c7 h
  obtain ⟨c8,h⟩:=P0 h
  refine A1 hS (And.intro c8 (by decide:(2:Nat)<=2)) (b:=((((E7 .or .u32 (E7 .andNot .u32 p_x.is.Plus (p_w.g x2.toNat).Plus) (E7 .andNot .u32 p_x.is.Minus (p_w.g x2.toNat).Minus)) == 0) == p_x.not) != true)) (fun c9=>?_) (fun c9=>?_)
  ·replace h:=itT c9 h
   obtain ⟨c10,h⟩:=P0 h
   exact hb1 _ [(3000,3000),(5000,5000)] _ (AW5 x1 (0+x2.toNat * 1) (shI .shl .u64 1 (IntKind.wrap .i64 (x2+1)))) (IntKind.wrap .i64 (x2+1)) c10 h (by kernel_rfl) (by kernel_rfl) (klR [(3, .fn 33 33 (fun i=>[(fun i=>if i=(0+x2.toNat * 1) then (pI .u64 (shI .shl .u64 1 (IntKind.wrap .i64 (x2+1)))) else (fun i=>pI .u64 (x1 i)) i) i]) (fun i=>[pI .u64 ((AW5 x1 (0+x2.toNat * 1) (shI .shl .u64 1 (IntKind.wrap .i64 (x2+1)))) i)]))] (al1 ⟨rfl,(Cw8 (c:=pI .u64) (v:=x1) (x:=shI .shl .u64 1 (IntKind.wrap .i64 (x2+1))) (fun _ _=>rfl) rfl)⟩ al0))
  ·replace h:=itF c9 h
   exact hb1 _ [(3000,3000),(5000,5000)] _ x1 (IntKind.wrap .i64 (x2+1)) trivial h
 ·replace h:=itF c7 h
  obtain rfl:=A5 h
  exact B6 hS (And.intro rfl (E5 _ _):(0:Nat)=0/\(Ah3 33 (fun i=>pI .u64 (x1 i))).length=33) ⟨[(4,(.reg 5000 0))], [(5000,(.arr 33 (fun i=>pI .u64 (x1 i))))]⟩ [] (ids:=[(5000,5000)]) ⟨rfl,rfl,rfl⟩ (hle:=(klR [(0, .fn 33 33 (fun i=>[(fun i=>(cA 33 (pI .u64) x1).getD i default) i]) (fun i=>[pI .u64 (x1 i)]))] (al1 ⟨rfl,(D7 33 (fun i=>pI .u64 (x1 i)))⟩ al0)))
def Y5 (N:Nat) (p_x:Cx5) (p_w:(Sl Sound)):Option (Nat->Int):=
 if p_x.end_=true then
  if (((0:Int)<=(p_w.n:Int)/\((0:Int)<=(p_w.n:Int)/\(p_w.n:Int) < 33))/\(0+(p_w.n:Int).toNat * 1) < 33) then
   some (AW5 (fun _=>0) (0+(p_w.n:Int).toNat * 1) (shI .shl .u64 1 (p_w.n:Int)))
  else none
 else
  if (((0:Int)<=0/\(0:Int) < 33)/\(0+0 * 1) < 33) then
   some (AW5 (fun _=>0) (0+0 * 1) (shI .shl .u64 1 0))
  else none
theorem Be1 {N:Nat} {p_x:Cx5} {p_w:(Sl Sound)}   {y:(Nat->Int)} (h:Y5 N p_x p_w=some y) :
 FunO S An0 [(.p (.agg (Cx6 p_x))),(.p (vSl 2 A0 p_w))] [] (.p (.agg (cA 33 (pI .u64) y))) ([]) []:=by
 unfold Y5 at h
 refine A7 hS Bd6 ?_
 refine A1 hS trivial (b:=p_x.end_) (fun c1=>?_) (fun c1=>?_)
 ·replace h:=itT c1 h
  obtain ⟨c2,h⟩:=P0 h
  obtain rfl:=A5 h
  exact B6 hS (And.intro (And.intro (And.intro c2.1.1 c2.1.2) c2.2) (And.intro rfl (E5 _ _):(0:Nat)=0/\(Ah3 33 (fun i=>if i=(0+(p_w.n:Int).toNat * 1) then (pI .u64 (shI .shl .u64 1 (p_w.n:Int))) else (fun i=>(List.replicate 33 (pI .u64 0)).getD i default) i)).length=33)) ⟨[(4,(.reg 5000 0))], [(5000,(.arr 33 (fun i=>pI .u64 ((AW5 (fun _=>0) (0+(p_w.n:Int).toNat * 1) (shI .shl .u64 1 (p_w.n:Int))) i))))]⟩ [] (ids:=[(5000,5000)]) ⟨rfl,rfl,rfl⟩ (hle:=(klR [(0, .fn 33 33 (fun i=>[(fun i=>(Ah3 33 (fun i=>if i=(0+(p_w.n:Int).toNat * 1) then (pI .u64 (shI .shl .u64 1 (p_w.n:Int))) else (fun i=>(List.replicate 33 (pI .u64 0)).getD i default) i)).getD i default) i]) (fun i=>[pI .u64 ((AW5 (fun _=>0) (0+(p_w.n:Int).toNat * 1) (shI .shl .u64 1 (p_w.n:Int))) i)]))] (al1 ⟨rfl,(fun i hi=>(D7 33 (fun i=>if i=(0+(p_w.n:Int).toNat * 1) then (pI .u64 (shI .shl .u64 1 (p_w.n:Int))) else (fun i=>(List.replicate 33 (pI .u64 0)).getD i default) i) i hi).trans ((Cw8 (c:=pI .u64) (v:=(fun _=>0)) (x:=shI .shl .u64 1 (p_w.n:Int)) (Ae1 (z:=pI .u64 0) rfl) rfl) i hi))⟩ al0)))
 ·replace h:=itF c1 h
  obtain ⟨c3,h⟩:=P0 h
  obtain rfl:=A5 h
  exact B6 hS (And.intro (And.intro (And.intro (by decide:(0:Int)<=0) c3.1) c3.2) (And.intro rfl (E5 _ _):(0:Nat)=0/\(Ah3 33 (fun i=>if i=(0+0 * 1) then (pI .u64 (shI .shl .u64 1 0)) else (fun i=>(List.replicate 33 (pI .u64 0)).getD i default) i)).length=33)) ⟨[(4,(.reg 5000 0))], [(5000,(.arr 33 (fun i=>pI .u64 ((AW5 (fun _=>0) (0+0 * 1) (shI .shl .u64 1 0)) i))))]⟩ [] (ids:=[(5000,5000)]) ⟨rfl,rfl,rfl⟩ (hle:=(klR [(0, .fn 33 33 (fun i=>[(fun i=>(Ah3 33 (fun i=>if i=(0+0 * 1) then (pI .u64 (shI .shl .u64 1 0)) else (fun i=>(List.replicate 33 (pI .u64 0)).getD i default) i)).getD i default) i]) (fun i=>[pI .u64 ((AW5 (fun _=>0) (0+0 * 1) (shI .shl .u64 1 0)) i)]))] (al1 ⟨rfl,(fun i hi=>(D7 33 (fun i=>if i=(0+0 * 1) then (pI .u64 (shI .shl .u64 1 0)) else (fun i=>(List.replicate 33 (pI .u64 0)).getD i default) i) i hi).trans ((Cw8 (c:=pI .u64) (v:=(fun _=>0)) (x:=shI .shl .u64 1 0) (Ae1 (z:=pI .u64 0) rfl) rfl) i hi))⟩ al0)))
def Ac6 (rec:Part->(Sl Sound)->Option ((Nat->Int))) (N:Nat) (p_x:Pseq) (p_w:(Sl Sound)):Option (Nat->Int):=
 (N8 N (p_w.n:Int)).bind fun y1=>
 T0 N (fun self1 (x1:Nat->Int) (x2:Int)=>
  if (decide (x2 < (p_x.l.n:Int)))=true then
   if ((0:Int)<=x2/\x2 < (p_x.l.n:Int)) then
    (rec (p_x.l.g x2.toNat) p_w).bind fun y6=>
    (D3 N x1 y6).bind fun y7=>
    self1 y7 (IntKind.wrap .i64 (x2+1))
   else none
  else
   some x1
  ) y1 0
theorem Bn7 {N:Nat} {rec:Part->(Sl Sound)->Option ((Nat->Int))} (hrec:∀ {x:Part} {b0:(Sl Sound)} {y:(Nat->Int)},rec x b0=some y->CF7 S Tryz.prog (Aw1 x) "ablaut/pats.in" [(.p (vSl 2 A0 b0))] (.p (.agg (cA 33 (pI .u64) y)))) {p_x:Pseq} {p_w:(Sl Sound)} {y:(Nat->Int)} (h:Ac6 rec N p_x p_w=some y) :
 FunO S As0 [(.p (.agg (CG3 p_x))),(.p (vSl 2 A0 p_w))] [] (.p (.agg (cA 33 (pI .u64) y))) ([]) []:=by
 unfold Ac6 at h
 refine A7 hS Bn4 ?_
 obtain ⟨y1,e1,h⟩:=A4 h
 refine A3 hS [] trivial (Ak1 hS hL e1) ?_
 refine Ab0 hS (And.intro rfl (E5 _ _):(0:Nat)=0/\(Ah3 33 (fun i=>pI .u64 (y1 i))).length=33) h (fun x1 x2=>⟨[(15,(pN x2)),(14,(pN (p_x.l.n:Int))),(13,(.p (vSl 1 Ao8 p_x.l))),(5,(.reg 6000 0)),(4,(.reg 5000 0)),(1,(.p (vSl 2 A0 p_w)))], [(6000,(.arr 33 (fun i=>pI .u64 (x1 i)))),(5000,(.arr 33 (fun i=>pI .u64 ((fun _=>0) i))))]⟩) (ids:=[(5000,5000),(6000,6000)]) (fun _ _ _ _ _ self1 x1 x2 hb1 h=>?_) (hle:=(klR [(4, .fn 33 33 (fun i=>[(fun i=>(cA 33 (pI .u64) y1).getD i default) i]) (fun i=>[pI .u64 (y1 i)])),(5, .fn 33 33 (fun i=>[(fun i=>(List.replicate 33 (pI .u64 0)).getD i default) i]) (fun i=>[pI .u64 ((fun _=>0) i)]))] (al1 ⟨rfl,(D7 33 (fun i=>pI .u64 (y1 i)))⟩ (al1 ⟨rfl,(Ae1 (z:=pI .u64 0) rfl)⟩ al0))))
 refine A1 hS trivial (b:=decide (x2 < (p_x.l.n:Int))) (fun c5=>?_) (fun c5=>?_)
 ·replace h:=itT c5 h
  obtain ⟨c6,h⟩:=P0 h
  obtain ⟨y6,e6,h⟩:=A4 h
  refine AS7 hS c6 (hrec e6) ?_
  refine T3 hS (And.intro rfl (E5 _ _):(0:Nat)=0/\(Ah3 33 (fun i=>pI .u64 (y6 i))).length=33) ⟨[(15,(pN x2)),(14,(pN (p_x.l.n:Int))),(13,(.p (vSl 1 Ao8 p_x.l))),(8,(.reg 9000 0)),(5,(.reg 6000 0)),(4,(.reg 5000 0)),(1,(.p (vSl 2 A0 p_w)))], [(9000,(.arr 33 (fun i=>pI .u64 (y6 i)))),(6000,(.arr 33 (fun i=>pI .u64 (x1 i)))),(5000,(.arr 33 (fun i=>pI .u64 ((fun _=>0) i))))]⟩ (ids:=[(5000,5000),(6000,6000),(9000,9000)]) ?_ (hle:=(klR [(4, .fn 33 33 (fun i=>[(fun i=>(cA 33 (pI .u64) y6).getD i default) i]) (fun i=>[pI .u64 (y6 i)]))] (al1 ⟨rfl,(D7 33 (fun i=>pI .u64 (y6 i)))⟩ al0)))
  obtain ⟨y7,e7,h⟩:=A4 h
  refine A3 hS [6000,9000] trivial (P3 hS hL e7) ?_
  exact hb1 _ [(5000,5000),(6000,6000)] _ y7 (IntKind.wrap .i64 (x2+1)) (And.intro rfl (E5 _ _):(0:Nat)=0/\(Ah3 33 (fun i=>pI .u64 (y7 i))).length=33) h (by kernel_rfl) (by kernel_rfl) (klR [(4, .fn 33 33 (fun i=>[(fun i=>(cA 33 (pI .u64) y7).getD i default) i]) (fun i=>[pI .u64 (y7 i)]))] (al1 ⟨rfl,(D7 33 (fun i=>pI .u64 (y7 i)))⟩ al0))
 ·replace h:=itF c5 h
  obtain rfl:=A5 h
  exact B6 hS (And.intro rfl (E5 _ _):(0:Nat)=0/\(Ah3 33 (fun i=>pI .u64 (x1 i))).length=33) ⟨[(4,(.reg 5000 0))], [(5000,(.arr 33 (fun i=>pI .u64 (x1 i))))]⟩ [] (ids:=[(5000,5000)]) ⟨rfl,rfl,rfl⟩ (hle:=(klR [(0, .fn 33 33 (fun i=>[(fun i=>(cA 33 (pI .u64) x1).getD i default) i]) (fun i=>[pI .u64 (x1 i)]))] (al1 ⟨rfl,(D7 33 (fun i=>pI .u64 (x1 i)))⟩ al0)))
def Ac7 (rec:Part->(Sl Sound)->Option ((Nat->Int))) (N:Nat) (p_x:Palt) (p_w:(Sl Sound)):Option (Nat->Int):=
 T0 N (fun self1 (x1:Nat->Int) (x2:Int)=>
  if (decide (x2 < (p_x.l.n:Int)))=true then
   if ((0:Int)<=x2/\x2 < (p_x.l.n:Int)) then
    (rec (p_x.l.g x2.toNat) p_w).bind fun y5=>
    (J8 N x1 y5).bind fun y6=>
    self1 y6 (IntKind.wrap .i64 (x2+1))
   else none
  else
   some x1
  ) (fun _=>0) 0
theorem Bn8 {N:Nat} {rec:Part->(Sl Sound)->Option ((Nat->Int))} (hrec:∀ {x:Part} {b0:(Sl Sound)} {y:(Nat->Int)},rec x b0=some y->CF7 S Tryz.prog (Aw1 x) "ablaut/pats.in" [(.p (vSl 2 A0 b0))] (.p (.agg (cA 33 (pI .u64) y)))) {p_x:Palt} {p_w:(Sl Sound)} {y:(Nat->Int)} (h:Ac7 rec N p_x p_w=some y) :
 FunO S Ar8 [(.p (.agg (CG0 p_x))),(.p (vSl 2 A0 p_w))] [] (.p (.agg (cA 33 (pI .u64) y))) ([]) []:=by
 unfold Ac7 at h
 refine A7 hS Bn2 ?_
 refine Ab0 hS trivial h (fun x1 x2=>⟨[(11,(pN x2)),(10,(pN (p_x.l.n:Int))),(9,(.p (vSl 1 Ao8 p_x.l))),(4,(.reg 5000 0)),(1,(.p (vSl 2 A0 p_w)))], [(5000,(.arr 33 (fun i=>pI .u64 (x1 i))))]⟩) (ids:=[(5000,5000)]) (fun _ _ _ _ _ self1 x1 x2 hb1 h=>?_) (hle:=(klR [(4, .fn 33 33 (fun i=>[(fun i=>(List.replicate 33 (pI .u64 0)).getD i default) i]) (fun i=>[pI .u64 ((fun _=>0) i)]))] (al1 ⟨rfl,(Ae1 (z:=pI .u64 0) rfl)⟩ al0)))
 refine A1 hS trivial (b:=decide (x2 < (p_x.l.n:Int))) (fun c5=>?_) (fun c5=>?_)
 ·replace h:=itT c5 h
  obtain ⟨c6,h⟩:=P0 h
  obtain ⟨y5,e5,h⟩:=A4 h
  refine AS7 hS c6 (hrec e5) ?_
  refine T3 hS (And.intro rfl (E5 _ _):(0:Nat)=0/\(Ah3 33 (fun i=>pI .u64 (y5 i))).length=33) ⟨[(11,(pN x2)),(10,(pN (p_x.l.n:Int))),(9,(.p (vSl 1 Ao8 p_x.l))),(7,(.reg 8000 0)),(4,(.reg 5000 0)),(1,(.p (vSl 2 A0 p_w)))], [(8000,(.arr 33 (fun i=>pI .u64 (y5 i)))),(5000,(.arr 33 (fun i=>pI .u64 (x1 i))))]⟩ (ids:=[(5000,5000),(8000,8000)]) ?_ (hle:=(klR [(4, .fn 33 33 (fun i=>[(fun i=>(cA 33 (pI .u64) y5).getD i default) i]) (fun i=>[pI .u64 (y5 i)]))] (al1 ⟨rfl,(D7 33 (fun i=>pI .u64 (y5 i)))⟩ al0)))
  obtain ⟨y6,e6,h⟩:=A4 h
  refine A3 hS [5000,8000] trivial (Am1 hS hL e6) ?_
  exact hb1 _ [(5000,5000)] _ y6 (IntKind.wrap .i64 (x2+1)) trivial h
 ·replace h:=itF c5 h
  obtain rfl:=A5 h
  exact B6 hS (And.intro rfl (E5 _ _):(0:Nat)=0/\(Ah3 33 (fun i=>pI .u64 (x1 i))).length=33) ⟨[(4,(.reg 5000 0))], [(5000,(.arr 33 (fun i=>pI .u64 (x1 i))))]⟩ [] (ids:=[(5000,5000)]) ⟨rfl,rfl,rfl⟩ (hle:=(klR [(0, .fn 33 33 (fun i=>[(fun i=>(cA 33 (pI .u64) x1).getD i default) i]) (fun i=>[pI .u64 (x1 i)]))] (al1 ⟨rfl,(D7 33 (fun i=>pI .u64 (x1 i)))⟩ al0)))
def Ac8 (rec:Part->(Sl Sound)->Option ((Nat->Int))) (N:Nat) (p_x:CG1) (p_w:(Sl Sound)):Option (Nat->Int):=
 (rec p_x.of p_w).bind fun y1=>
 (E4 N y1 p_x.min (p_w.n:Int)).bind fun y2=>
 (N8 N (p_w.n:Int)).bind fun y3=>
 (J8 N y1 y3).bind fun y4=>
 if (decide (p_x.max < 0))=true then
  (E4 N y4 (p_w.n:Int) (p_w.n:Int)).bind fun y5=>
  (D3 N y2 y5).bind fun y6=>
  some y6
 else
  (E4 N y4 (IntKind.wrap .i64 (p_x.max - p_x.min)) (p_w.n:Int)).bind fun y7=>
  (D3 N y2 y7).bind fun y8=>
  some y8
theorem Bn9 {N:Nat} {rec:Part->(Sl Sound)->Option ((Nat->Int))} (hrec:∀ {x:Part} {b0:(Sl Sound)} {y:(Nat->Int)},rec x b0=some y->CF7 S Tryz.prog (Aw1 x) "ablaut/pats.in" [(.p (vSl 2 A0 b0))] (.p (.agg (cA 33 (pI .u64) y)))) {p_x:CG1} {p_w:(Sl Sound)} {y:(Nat->Int)} (h:Ac8 rec N p_x p_w=some y) :
 FunO S Ar9 [(.p (.agg (CG2 p_x))),(.p (vSl 2 A0 p_w))] [] (.p (.agg (cA 33 (pI .u64) y))) ([]) []:=by
 unfold Ac8 at h
 refine A7 hS Bn3 ?_
 obtain ⟨y1,e1,h⟩:=A4 h
 refine AS7 hS trivial (hrec e1) ?_
 refine T3 hS (And.intro rfl (E5 _ _):(0:Nat)=0/\(Ah3 33 (fun i=>pI .u64 (y1 i))).length=33) ⟨[(18,(pN (p_w.n:Int))),(16,(pN p_x.min)),(14,(.p (.agg (cA 33 (pI .u64) y1)))),(5,(.reg 6000 0)),(4,(.reg 5000 0)),(2,(.reg 3000 0)),(1,(.p (vSl 2 A0 p_w)))], [(6000,(.arr 33 (fun i=>pI .u64 (y1 i)))),(5000,(.arr 33 (fun i=>pI .u64 ((fun _=>0) i)))),(3000,(.cells [(.p (Aw1 p_x.of)),(pN p_x.min),(pN p_x.max)]))]⟩ (ids:=[(3000,3000),(5000,5000),(6000,6000)]) ?_ (hle:=(klR [(2, .eq (.agg (Ah3 33 (fun i=>(cA 33 (pI .u64) y1).getD i default))) (.agg (cA 33 (pI .u64) y1))),(4, .fn 33 33 (fun i=>[(fun i=>(cA 33 (pI .u64) y1).getD i default) i]) (fun i=>[pI .u64 (y1 i)])),(5, .fn 33 33 (fun i=>[(fun i=>(List.replicate 33 (pI .u64 0)).getD i default) i]) (fun i=>[pI .u64 ((fun _=>0) i)]))] (al1 (congrArg PV.agg (BQ7 (D7 33 (fun i=>pI .u64 (y1 i))))) (al1 ⟨rfl,(D7 33 (fun i=>pI .u64 (y1 i)))⟩ (al1 ⟨rfl,(Ae1 (z:=pI .u64 0) rfl)⟩ al0)))))
 obtain ⟨y2,e2,h⟩:=A4 h
 refine A3 hS [] trivial (U1 hS hL e2) ?_
 obtain ⟨y3,e3,h⟩:=A4 h
 refine A3 hS [] (And.intro (And.intro rfl (E5 _ _):(0:Nat)=0/\(Ah3 33 (fun i=>pI .u64 (y2 i))).length=33) (And.intro rfl (E5 _ _):(0:Nat)=0/\(Ah3 33 (fun i=>pI .u64 (y1 i))).length=33)) (Ak1 hS hL e3) ?_
 refine T3 hS (And.intro rfl (E5 _ _):(0:Nat)=0/\(Ah3 33 (fun i=>pI .u64 (y3 i))).length=33) ⟨[(8,(.reg 9000 0)),(7,(.reg 8000 0)),(6,(.reg 7000 0)),(4,(.reg 5000 0)),(2,(.reg 3000 0)),(1,(.p (vSl 2 A0 p_w)))], [(9000,(.arr 33 (fun i=>pI .u64 (y3 i)))),(8000,(.arr 33 (fun i=>pI .u64 (y1 i)))),(7000,(.arr 33 (fun i=>pI .u64 (y2 i)))),(5000,(.arr 33 (fun i=>pI .u64 ((fun _=>0) i)))),(3000,(.cells [(.p (Aw1 p_x.of)),(pN p_x.min),(pN p_x.max)]))]⟩ (ids:=[(3000,3000),(5000,5000),(7000,7000),(8000,8000),(9000,9000)]) ?_ (hle:=(klR [(1, .fn 33 33 (fun i=>[(fun i=>(cA 33 (pI .u64) y3).getD i default) i]) (fun i=>[pI .u64 (y3 i)])),(2, .fn 33 33 (fun i=>[(fun i=>(cA 33 (pI .u64) y1).getD i default) i]) (fun i=>[pI .u64 (y1 i)])),(3, .fn 33 33 (fun i=>[(fun i=>(cA 33 (pI .u64) y2).getD i default) i]) (fun i=>[pI .u64 (y2 i)]))] (al1 ⟨rfl,(D7 33 (fun i=>pI .u64 (y3 i)))⟩ (al1 ⟨rfl,(D7 33 (fun i=>pI .u64 (y1 i)))⟩ (al1 ⟨rfl,(D7 33 (fun i=>pI .u64 (y2 i)))⟩ al0)))))
 obtain ⟨y4,e4,h⟩:=A4 h
 refine A3 hS [8000,9000] trivial (Am1 hS hL e4) ?_
 refine A1 hS trivial (b:=decide (p_x.max < 0)) (fun c1=>?_) (fun c1=>?_)
 ·replace h:=itT c1 h
  obtain ⟨y5,e5,h⟩:=A4 h
  refine A3 hS [] trivial (U1 hS hL e5) ?_
  refine T3 hS (And.intro rfl (E5 _ _):(0:Nat)=0/\(Ah3 33 (fun i=>pI .u64 (y5 i))).length=33) ⟨[(7,(.reg 8000 0)),(6,(.reg 7000 0)),(4,(.reg 5000 0))], [(8000,(.arr 33 (fun i=>pI .u64 (y5 i)))),(7000,(.arr 33 (fun i=>pI .u64 (y2 i)))),(5000,(.arr 33 (fun i=>pI .u64 ((fun _=>0) i))))]⟩ (ids:=[(5000,5000),(7000,7000),(8000,8000)]) ?_ (hle:=(klR [(0, .fn 33 33 (fun i=>[(fun i=>(cA 33 (pI .u64) y5).getD i default) i]) (fun i=>[pI .u64 (y5 i)]))] (al1 ⟨rfl,(D7 33 (fun i=>pI .u64 (y5 i)))⟩ al0)))
  obtain ⟨y6,e6,h⟩:=A4 h
  refine A3 hS [7000,8000] trivial (P3 hS hL e6) ?_
  obtain rfl:=A5 h
  exact B6 hS (And.intro rfl (E5 _ _):(0:Nat)=0/\(Ah3 33 (fun i=>pI .u64 (y6 i))).length=33) ⟨[(4,(.reg 5000 0))], [(5000,(.arr 33 (fun i=>pI .u64 (y6 i))))]⟩ [] (ids:=[(5000,5000)]) ⟨rfl,rfl,rfl⟩ (hle:=(klR [(0, .fn 33 33 (fun i=>[(fun i=>(cA 33 (pI .u64) y6).getD i default) i]) (fun i=>[pI .u64 (y6 i)]))] (al1 ⟨rfl,(D7 33 (fun i=>pI .u64 (y6 i)))⟩ al0)))
 ·replace h:=itF c1 h
  obtain ⟨y7,e7,h⟩:=A4 h
  refine A3 hS [] trivial (U1 hS hL e7) ?_
  refine T3 hS (And.intro rfl (E5 _ _):(0:Nat)=0/\(Ah3 33 (fun i=>pI .u64 (y7 i))).length=33) ⟨[(7,(.reg 8000 0)),(6,(.reg 7000 0)),(4,(.reg 5000 0))], [(8000,(.arr 33 (fun i=>pI .u64 (y7 i)))),(7000,(.arr 33 (fun i=>pI .u64 (y2 i)))),(5000,(.arr 33 (fun i=>pI .u64 ((fun _=>0) i))))]⟩ (ids:=[(5000,5000),(7000,7000),(8000,8000)]) ?_ (hle:=(klR [(0, .fn 33 33 (fun i=>[(fun i=>(cA 33 (pI .u64) y7).getD i default) i]) (fun i=>[pI .u64 (y7 i)]))] (al1 ⟨rfl,(D7 33 (fun i=>pI .u64 (y7 i)))⟩ al0)))
  obtain ⟨y8,e8,h⟩:=A4 h
  refine A3 hS [7000,8000] trivial (P3 hS hL e8) ?_
  obtain rfl:=A5 h
  exact B6 hS (And.intro rfl (E5 _ _):(0:Nat)=0/\(Ah3 33 (fun i=>pI .u64 (y8 i))).length=33) ⟨[(4,(.reg 5000 0))], [(5000,(.arr 33 (fun i=>pI .u64 (y8 i))))]⟩ [] (ids:=[(5000,5000)]) ⟨rfl,rfl,rfl⟩ (hle:=(klR [(0, .fn 33 33 (fun i=>[(fun i=>(cA 33 (pI .u64) y8).getD i default) i]) (fun i=>[pI .u64 (y8 i)]))] (al1 ⟨rfl,(D7 33 (fun i=>pI .u64 (y8 i)))⟩ al0)))
def Q8 (rec:Pat->Option Part) (N:Nat) (p_p:Pat):Option Part:=
 T0 N (fun self1 (x1:Sl Part) (x2:Int)=>
  if (decide (x2 < (p_p.L.n:Int)))=true then
   if ((0:Int)<=x2/\x2 < (p_p.L.n:Int)) then
    (rec (p_p.L.g x2.toNat)).bind fun y3=>
    if ((x1.n+(Sl.of [y3]:Sl Part).n) * 16<=140737488355328/\x1.n+(Sl.of [y3]:Sl Part).n<=140737488355328) then
     self1 (x1.push y3) (IntKind.wrap .i64 (x2+1))
    else none
   else none
  else
   if (p_p.Kind == 1)=true then
    some (Part.sound p_p.Is p_p.Not)
   else
    if (p_p.Kind == 2)=true then
     some (Part.edge false)
    else
     if (p_p.Kind == 6)=true then
      some (Part.edge true)
     else
      if (p_p.Kind == 4)=true then
       some (Part.alt x1.n x1.g)
      else
       if (p_p.Kind == 5)=true then
        if (((0:Int)<=0/\0 < (x1.n:Int))/\0 < x1.n) then
         some (Part.rep (x1.g 0) p_p.Min p_p.Max)
        else none
       else
        some (Part.seq x1.n x1.g)
  ) (Sl.nil:Sl Part) 0
def Y6:Nat->Pat->Option Part
 | 0=>fun _=>none
 | N+1=>Q8 (Y6 N) N
theorem AZ0 {N:Nat} {rec:Pat->Option Part} (hrec:∀ {p_p:Pat} {y:Part},rec p_p=some y->FunO S Af4 [(.p (.agg (C6 p_p)))] [] (.p (Aw1 y)) ([]) []) {p_p:Pat} {y:Part} (h:Q8 rec N p_p=some y) :
 FunO S Af4 [(.p (.agg (C6 p_p)))] [] (.p (Aw1 y)) ([]) []:=by
 unfold Q8 at h
 refine A7 hS Bd5 ?_
 refine Ac2 hS trivial 2 2000 (C6 p_p) ?_
 refine Aa1 hS trivial 8 ⟨[(7,(.p (vSl 7 C6 p_p.L))),(3,(.p U7)),(1,(.p (.ptr (C6 p_p))))], []⟩ (ids:=[]) ?_ (hle:=(klR [(0, .fn p_p.L.n p_p.L.n (Ao7 p_p) (fun i=>C6 (p_p.L.g i)))] (al1 ⟨rfl,Af3 p_p⟩ al0)))
 refine Ab0 hS trivial h (fun x1 x2=>⟨[(9,(pN x2)),(8,(pN (p_p.L.n:Int))),(7,(.p (vSl 7 C6 p_p.L))),(3,(.vec 4500)),(1,(.p (.ptr (C6 p_p))))], [(4500,(.vec BE8 1 x1.n (fun i=>Ao8 (x1.g i)) false))]⟩) (ids:=[]) (fun _ _ _ _ _ self1 x1 x2 hb1 h=>?_)
 refine A1 hS trivial (b:=decide (x2 < (p_p.L.n:Int))) (fun c5=>?_) (fun c5=>?_)
 ·replace h:=itT c5 h
  obtain ⟨c6,h⟩:=P0 h
  refine Ac2 hS (And.intro c6 (by decide:(7:Nat)<=7)) 13 6000 (C6 (p_p.L.g x2.toNat)) ?_
  obtain ⟨y3,e3,h⟩:=A4 h
  refine A3 hS [] (by decide:(7:Nat)<=7) (hrec e3) ?_
  obtain ⟨c7,h⟩:=P0 h
  exact hb1 _ [(4500,18000)] _ (x1.push y3) (IntKind.wrap .i64 (x2+1)) (And.intro (rfl:true=true) c7) h (by kernel_rfl) (by kernel_rfl) (klR [(4, .fn (x1.n+1) (x1.push y3).n (An5 x1.n (fun i=>Ao8 (x1.g i)) (H6 [(.v .nilIface)] [(0,Ao8 y3)])) (fun i=>Ao8 ((x1.push y3).g i)))] (al1 ⟨rfl,(Cg2 (c:=Ao8) (v:=x1) (x:=y3) (z:=[(.v .nilIface)]) same rfl rfl)⟩ al0))
 ·replace h:=itF c5 h
  refine A1 hS trivial (b:=p_p.Kind == 1) (fun c8=>?_) (fun c8=>?_)
  ·replace h:=itT c8 h
   obtain rfl:=A5 h
   exact B5 hS (by decide:(2:Nat)<=6) [] ⟨rfl,rfl,rfl⟩
  ·replace h:=itF c8 h
   refine A1 hS trivial (b:=p_p.Kind == 2) (fun c9=>?_) (fun c9=>?_)
   ·replace h:=itT c9 h
    obtain rfl:=A5 h
    exact B5 hS trivial [] ⟨rfl,rfl,rfl⟩
   ·replace h:=itF c9 h
    refine A1 hS trivial (b:=p_p.Kind == 6) (fun c10=>?_) (fun c10=>?_)
    ·replace h:=itT c10 h
     obtain rfl:=A5 h
     exact B5 hS trivial [] ⟨rfl,rfl,rfl⟩
    ·replace h:=itF c10 h
     refine A1 hS trivial (b:=p_p.Kind == 4) (fun c11=>?_) (fun c11=>?_)
     ·replace h:=itT c11 h
      refine Aa1 hS trivial 40 ⟨[(39,(.p (vSl 1 Ao8 x1)))], []⟩ (ids:=[]) ?_
      obtain rfl:=A5 h
      exact B5 hS trivial [] ⟨rfl,rfl,rfl⟩
     ·replace h:=itF c11 h
      refine A1 hS trivial (b:=p_p.Kind == 5) (fun c12=>?_) (fun c12=>?_)
      ·replace h:=itT c12 h
       refine Q4 hS trivial [4,6] ?_
       obtain ⟨c13,h⟩:=P0 h
       refine Q1 c13 ?_
       obtain rfl:=A5 h
       exact B5 hS trivial [] ⟨rfl,rfl,rfl⟩
      ·replace h:=itF c12 h
       refine Aa1 hS trivial 54 ⟨[(53,(.p (vSl 1 Ao8 x1)))], []⟩ (ids:=[]) ?_
       obtain rfl:=A5 h
       exact B5 hS trivial [] ⟨rfl,rfl,rfl⟩
theorem Be2 {N:Nat} {p_p:Pat} {y:Part} (h:Y6 N p_p=some y) :
 FunO S Af4 [(.p (.agg (C6 p_p)))] [] (.p (Aw1 y)) ([]) []:=by
 induction N generalizing p_p y with
 | zero=>cases (show (none:Option Part)=some y from h)
 | succ N ih=>exact AZ0 hS hL (fun e=>ih e) h
end Go.AM
set_option linter.unusedVariables false
set_option linter.unusedSectionVars false
namespace Go.AM
open Go.Proofs
variable {S:Af9} (hS:I3 S Tryz.prog) (hL:BL4 S)
include hS hL
def Y7:Nat->Part->Sl Sound->Option (Nat->Int)
 | 0=>fun _ _=>none
 | N+1=>fun p w=>match p with
  | .nil=>none
  | .sound x no=>U2 N ⟨x,no⟩ w
  | .edge e=>Y5 N ⟨e⟩ w
  | .seq n g=>Ac6 (Y7 N) N ⟨⟨n,g⟩⟩ w
  | .alt n g=>Ac7 (Y7 N) N ⟨⟨n,g⟩⟩ w
  | .rep o mn mx=>Ac8 (Y7 N) N ⟨o,mn,mx⟩ w
theorem Cb1 {N:Nat} {x:Part} {w:Sl Sound} {y:Nat->Int} (h:Y7 N x w=some y):CF7 S Tryz.prog (Aw1 x) "ablaut/pats.in" [(.p (vSl 2 A0 w))] (.p (.agg (cA 33 (pI .u64) y))):=by
 induction N generalizing x w y with
 | zero=>cases h
 | succ N ih=>
  cases x with
  | nil=>cases h
  | sound s no=>exact ⟨_,_,Aj8,rfl,by kernel_rfl,AY9 hS hL (p_x:=⟨s,no⟩) h⟩
  | edge e=>exact ⟨_,_,An0,rfl,by kernel_rfl,Be1 hS hL (N:=N) (p_x:=⟨e⟩) h⟩
  | seq n g=>exact ⟨_,_,As0,rfl,by kernel_rfl,Bn7 hS hL (fun e=>ih e) (p_x:=⟨⟨n,g⟩⟩) h⟩
  | alt n g=>exact ⟨_,_,Ar8,rfl,by kernel_rfl,Bn8 hS hL (fun e=>ih e) (p_x:=⟨⟨n,g⟩⟩) h⟩
  | rep o mn mx=>exact ⟨_,_,Ar9,rfl,by kernel_rfl,Bn9 hS hL (fun e=>ih e) (p_x:=⟨o,mn,mx⟩) h⟩
end Go.AM
set_option linter.unusedVariables false
set_option linter.unusedSectionVars false
namespace Go.AM
open Go.Proofs
set_option maxRecDepth 10000
set_option maxHeartbeats 2000000
variable {S:Af9} (hS:I3 S Tryz.prog) (hL:BL4 S)
include hS hL
def P8 (N:Nat) (p_s:Sound):Option Bool:=
 (N0 N p_s).bind fun y1=>
 some (!y1)
theorem AZ1 {N:Nat} {p_s:Sound}   {y:Bool} (h:P8 N p_s=some y) :
 FunO S Aw6 [(.p (.agg (A0 p_s)))] [] (pB y) ([]) []:=by
 unfold P8 at h
 refine A7 hS AX8 ?_
 obtain ⟨y1,e1,h⟩:=A4 h
 refine A3 hS [] trivial (Am0 hS hL e1) ?_
 obtain rfl:=A5 h
 exact B5 hS trivial [] ⟨rfl,rfl,rfl⟩
def D1 (N:Nat) (p_s:(Sl Sound)) (p_f:Sound->Option Bool):Option Int:=
 Aa9 N (fun self1 (x1:Int)=>
  if (decide (x1 < (p_s.n:Int)))=true then
   if ((0:Int)<=x1/\x1 < (p_s.n:Int)) then
    (p_f (p_s.g x1.toNat)).bind fun y3=>
    if y3=true then
     some x1
    else
     self1 (IntKind.wrap .i64 (x1+1))
   else none
  else
   some (-1)
  ) 0
theorem S3 {N:Nat} {p_s:(Sl Sound)} {p_f:Sound->Option Bool} {kp_f:Nat} (hp_f:∀ {a0:Sound} {b:Bool},p_f a0=some b->FunO S kp_f [(.p (.agg (A0 a0)))] [] (pB b) [] []) {y:Int} (h:D1 N p_s p_f=some y) :
 FunO S I2 [(.p (vSl 2 A0 p_s)),(.clo kp_f [] [])] [] (pN y) ([]) []:=by
 unfold D1 at h
 refine A7 hS S2 ?_
 refine Ai0 hS trivial h (fun x1=>⟨[(8,(pN x1)),(7,(pN (p_s.n:Int))),(1,(.clo kp_f [] [])),(0,(.p (vSl 2 A0 p_s)))], []⟩) (ids:=[]) (fun _ _ _ _ _ self1 x1 hb1 h=>?_)
 refine A1 hS trivial (b:=decide (x1 < (p_s.n:Int))) (fun c7=>?_) (fun c7=>?_)
 ·replace h:=itT c7 h
  obtain ⟨c8,h⟩:=P0 h
  obtain ⟨y3,e3,h⟩:=A4 h
  refine A3 hS [] (And.intro c8 (by decide:(2:Nat)<=2)) (hp_f e3) ?_
  refine A1 hS trivial (b:=y3) (fun c9=>?_) (fun c9=>?_)
  ·replace h:=itT c9 h
   obtain rfl:=A5 h
   exact B5 hS trivial [] ⟨rfl,rfl,rfl⟩
  ·replace h:=itF c9 h
   exact hb1 _ [] _ (IntKind.wrap .i64 (x1+1)) trivial h
 ·replace h:=itF c7 h
  obtain rfl:=A5 h
  exact B5 hS trivial [] ⟨rfl,rfl,rfl⟩
def B3 (N:Nat) (p_s:(Sl Sound)) (p_f:Sound->Option Bool):Option Bool:=
 (D1 N p_s (fun (u1:Sound)=>p_f u1)).bind fun y1=>
 some (decide (0<=y1))
theorem H2 {N:Nat} {p_s:(Sl Sound)} {p_f:Sound->Option Bool} {kp_f:Nat} (hp_f:∀ {a0:Sound} {b:Bool},p_f a0=some b->FunO S kp_f [(.p (.agg (A0 a0)))] [] (pB b) [] []) {y:Bool} (h:B3 N p_s p_f=some y) :
 FunO S H1 [(.p (vSl 2 A0 p_s)),(.clo kp_f [] [])] [] (pB y) ([]) []:=by
 unfold B3 at h
 refine A7 hS Q2 ?_
 obtain ⟨y1,e1,h⟩:=A4 h
 refine A3 hS [] trivial (S3 hS hL (fun e=>hp_f e) e1) ?_
 obtain rfl:=A5 h
 exact B5 hS trivial [] ⟨rfl,rfl,rfl⟩
def C7 (N:Nat) (q0:(Sl Pat)):Option (List (Int × Pat)):=
 Aa9 N (fun self1 (x1:Int)=>
  if (decide (0<=x1))=true then
   if ((0:Int)<=x1/\x1 < (q0.n:Int)) then
    Ab4 (x1,(q0.g x1.toNat)) (
     self1 (IntKind.wrap .i64 (x1 - 1))
     )
   else none
  else
   some []
  ) (IntKind.wrap .i64 ((q0.n:Int) - 1))
theorem V9 {N:Nat} {q0:(Sl Pat)} {L:List (Int × Pat)} (h:C7 N q0=some L) :
 Am7 S D8 [] [.reg 0 0] [(.cells [(.p (vSl 7 C6 q0))])] (L.map (fun (x:Int × Pat)=>[(pI .i64) x.1,(fun x=>.agg (C6 x)) x.2])):=by
 unfold C7 at h
 refine Az5 hS V4 ?_
 refine Av9 hS trivial h (fun x1 L1=>⟨[(3,(pN x1)),(1,(.reg 0 0)),(0,(.yf 1))], [(1,(.yld (L1.map (fun (x:Int × Pat)=>[(pI .i64) x.1,(fun x=>.agg (C6 x)) x.2])) true)),(0,(.cells [(.p (vSl 7 C6 q0))]))]⟩) (ids:=[(0,0),(1,1)]) (fun _ _ _ _ _ self1 x1 L1 hb1 h=>?_)
 refine A1 hS trivial (b:=decide (0<=x1)) (fun c9=>?_) (fun c9=>?_)
 ·replace h:=itT c9 h
  obtain ⟨c10,h⟩:=P0 h
  obtain ⟨L4,rfl,hcL4⟩:=Bb9 h
  replace h:=hcL4
  refine Am8 hS (And.intro c10 (by decide:(7:Nat)<=7)) (ys:=(fun (x:Int × Pat)=>[(pI .i64) x.1,(fun x=>.agg (C6 x)) x.2]) (x1,(q0.g x1.toNat))) (rest:=L4.map (fun (x:Int × Pat)=>[(pI .i64) x.1,(fun x=>.agg (C6 x)) x.2])) ?_ ?_
  ·refine A1 hS trivial (b:=false) (fun c11=>?_) (fun c11=>?_)
   ·exact Bool.noConfusion ((rfl:false=false).symm.trans c11)
   ·exact hb1 _ [(0,0),(1,1)] _ (IntKind.wrap .i64 (x1 - 1)) L4 trivial h
  ·refine A1 hS trivial (b:=true) (fun c12=>?_) (fun c12=>?_)
   ·exact B6 hS trivial (a:=.tup []) (objs:=[(.cells [(.p (vSl 7 C6 q0))]),(.yld [] false)]) ⟨[], [(1,(.yld [] false)),(0,(.cells [(.p (vSl 7 C6 q0))]))]⟩ [0,1] (ids:=[(0,0),(1,1)]) ⟨false,rfl,rfl,_,rfl⟩
   ·exact Bool.noConfusion ((rfl:true=true).symm.trans c12)
 ·replace h:=itF c9 h
  obtain rfl:=A5 h
  exact B6 hS trivial (a:=.tup []) (objs:=[(.cells [(.p (vSl 7 C6 q0))]),(.yld [] true)]) ⟨[], [(1,(.yld [] true)),(0,(.cells [(.p (vSl 7 C6 q0))]))]⟩ [0,1] (ids:=[(0,0),(1,1)]) ⟨true,rfl,rfl,_,rfl⟩
def G3 (N:Nat) (p_s:(Sl Pat)):Option ((Sl Pat)):=
 some p_s
theorem Y8 {N:Nat} {p_s:(Sl Pat)}   {y:((Sl Pat))} (h:G3 N p_s=some y) :
 FunO S M0 [(.p (vSl 7 C6 p_s))] [] (.clo D8 [] [.reg 0 0]) ([(.cells [(.p (vSl 7 C6 y))])]) []:=by
 unfold G3 at h
 refine A7 hS Y0 ?_
 obtain rfl:=A5 h
 exact B6 hS trivial ⟨[(2,(.clo D8 [] [(.reg 2000 0)]))], [(2000,(.cells [(.p (vSl 7 C6 p_s))]))]⟩ [2000] (ids:=[(2000,2000)]) ⟨rfl,rfl,rfl⟩
def U3 (N:Nat) (p_p:Pat):Option Int:=
 T0 N (fun self3 (x3:Sl Pat) (x4:Int)=>
  if (decide (0 < (x3.n:Int)))=true then
   if (x4 == 40)=true then
    some 12
   else
    if (((0:Int)<=(IntKind.wrap .i64 ((x3.n:Int) - 1))/\(IntKind.wrap .i64 ((x3.n:Int) - 1)) < (x3.n:Int))/\(IntKind.wrap .i64 ((x3.n:Int) - 1)).toNat < x3.n) then
     if ((0:Int)<=(IntKind.wrap .i64 ((x3.n:Int) - 1))/\(IntKind.wrap .i64 ((x3.n:Int) - 1))<=(x3.n:Int)) then
      (Y3 N (x3.g (IntKind.wrap .i64 ((x3.n:Int) - 1)).toNat)).bind fun y5=>
      if (y5 != 0)=true then
       some y5
      else
       if ((0:Int)<=(if 41 < ((x3.g (IntKind.wrap .i64 ((x3.n:Int) - 1)).toNat).L.n:Int) then 41 else ((x3.g (IntKind.wrap .i64 ((x3.n:Int) - 1)).toNat).L.n:Int))/\(if 41 < ((x3.g (IntKind.wrap .i64 ((x3.n:Int) - 1)).toNat).L.n:Int) then 41 else ((x3.g (IntKind.wrap .i64 ((x3.n:Int) - 1)).toNat).L.n:Int))<=((x3.g (IntKind.wrap .i64 ((x3.n:Int) - 1)).toNat).L.n:Int)) then
        (G3 N ((x3.g (IntKind.wrap .i64 ((x3.n:Int) - 1)).toNat).L.take (if 41 < ((x3.g (IntKind.wrap .i64 ((x3.n:Int) - 1)).toNat).L.n:Int) then 41 else ((x3.g (IntKind.wrap .i64 ((x3.n:Int) - 1)).toNat).L.n:Int)).toNat)).bind fun y6=>
        (C7 N y6).bind fun L3=>
        K4 L3 (fun self4 (x7:Int × Pat) (z3:Sl Pat)=>
         if ((((z3.n+(Sl.of [Pat.nil]:Sl Pat).n) * 64<=140737488355328/\z3.n+(Sl.of [Pat.nil]:Sl Pat).n<=140737488355328)/\((0:Int)<=(z3.n:Int)/\(z3.n:Int) < ((z3.push Pat.nil).n:Int)))/\(z3.n:Int).toNat < (z3.push Pat.nil).n) then
          self4 ((z3.push Pat.nil).upd (z3.n:Int).toNat x7.2)
         else none
         ) (fun (z3:Sl Pat)=>
          self3 z3 (IntKind.wrap .i64 (x4+1))
         ) (x3.take (IntKind.wrap .i64 ((x3.n:Int) - 1)).toNat)
       else none
     else none
    else none
  else
   some 0
  ) (Sl.of [p_p]:Sl Pat) 0
theorem Ax6 {N:Nat} {p_p:Pat}   {y:Int} (h:U3 N p_p=some y) :
 FunO S AP6 [(.p (.agg (C6 p_p)))] [] (pN y) ([]) []:=by
 unfold U3 at h
 refine A7 hS Bw0 ?_
 refine Ac2 hS trivial 2 2000 (C6 p_p) ?_
 refine Ab0 hS (And.intro (by decide:(7:Nat)<=7) (rfl:true=true)) h (fun x3 x4=>⟨[(4,(pN x4)),(3,(.reg 4000 0))], [(4501,(.vec Ax0 7 x3.n (fun i=>C6 (x3.g i)) false)),(4000,(.cells [(.vec 4501)]))]⟩) (ids:=[(4000,4000),(4501,12000)]) (fun _ _ _ _ _ self3 x3 x4 hb3 h=>?_) (hle:=(klR [(1, .fn 1 (Sl.of [p_p]:Sl Pat).n (H6 [(pI .i64 0),(pI .u32 0),(pI .u32 0),(.v (.bool false)),(pI .i64 0),(pI .i64 0),U7] [(0,C6 p_p)]) (fun i=>C6 ((Sl.of [p_p]:Sl Pat).g i)))] (al1 ⟨rfl,(fun i hi=>match i,hi with | 0,_=>rfl | _+1,hi=>absurd hi (by omega))⟩ al0)))
 refine A1 hS trivial (b:=decide (0 < (x3.n:Int))) (fun c19=>?_) (fun c19=>?_)
 ·replace h:=itT c19 h
  refine A1 hS trivial (b:=x4 == 40) (fun c20=>?_) (fun c20=>?_)
  ·replace h:=itT c20 h
   obtain rfl:=A5 h
   exact B5 hS trivial [] ⟨rfl,rfl,rfl⟩
  ·replace h:=itF c20 h
   obtain ⟨c21,h⟩:=P0 h
   refine Ac2 hS (And.intro (And.intro c21.1 (by decide:(7:Nat)<=7)) c21.2) 25 6000 (C6 (x3.g (IntKind.wrap .i64 ((x3.n:Int) - 1)).toNat)) ?_
   obtain ⟨c22,h⟩:=P0 h
   refine CF8 hS c22 30 4501 (IntKind.wrap .i64 ((x3.n:Int) - 1)).toNat 4508 (e:=Ax0) (k:=7) (N:=x3.n) (f:=fun i=>C6 (x3.g i)) (by have hq:=c22;omega) ?_
   obtain ⟨y5,e7,h⟩:=A4 h
   refine A3 hS [] (by decide:(7:Nat)<=7) (Bd9 hS hL e7) ?_
   refine A1 hS trivial (b:=y5 != 0) (fun c23=>?_) (fun c23=>?_)
   ·replace h:=itT c23 h
    obtain rfl:=A5 h
    exact B5 hS trivial [] ⟨rfl,rfl,rfl⟩
   ·replace h:=itF c23 h
    refine Aa1 hS trivial 39 ⟨[(38,(.p (vSl 7 C6 (x3.g (IntKind.wrap .i64 ((x3.n:Int) - 1)).toNat).L))),(36,(.p (vSl 7 C6 (x3.g (IntKind.wrap .i64 ((x3.n:Int) - 1)).toNat).L))),(4,(pN x4)),(3,(.reg 4000 0))], [(4508,(.vec Ax0 7 (x3.take (IntKind.wrap .i64 ((x3.n:Int) - 1)).toNat).n (fun i=>C6 ((x3.take (IntKind.wrap .i64 ((x3.n:Int) - 1)).toNat).g i)) false)),(4000,(.cells [(.vec 4508)]))]⟩ (ids:=[(4000,4000),(4508,4508)]) ?_ (hle:=(klR [(0, .fn (x3.g (IntKind.wrap .i64 ((x3.n:Int) - 1)).toNat).L.n (x3.g (IntKind.wrap .i64 ((x3.n:Int) - 1)).toNat).L.n (Ao7 (x3.g (IntKind.wrap .i64 ((x3.n:Int) - 1)).toNat)) (fun i=>C6 ((x3.g (IntKind.wrap .i64 ((x3.n:Int) - 1)).toNat).L.g i))),(1, .fn (x3.g (IntKind.wrap .i64 ((x3.n:Int) - 1)).toNat).L.n (x3.g (IntKind.wrap .i64 ((x3.n:Int) - 1)).toNat).L.n (Ao7 (x3.g (IntKind.wrap .i64 ((x3.n:Int) - 1)).toNat)) (fun i=>C6 ((x3.g (IntKind.wrap .i64 ((x3.n:Int) - 1)).toNat).L.g i)))] (al1 ⟨rfl,Af3 (x3.g (IntKind.wrap .i64 ((x3.n:Int) - 1)).toNat)⟩ (al1 ⟨rfl,Af3 (x3.g (IntKind.wrap .i64 ((x3.n:Int) - 1)).toNat)⟩ al0))))
    obtain ⟨c24,h⟩:=P0 h
    obtain ⟨y6,e8,h⟩:=A4 h
    refine A3 hS [] c24 (Y8 hS hL e8) ?_
    obtain ⟨L3,e9,h⟩:=A4 h
    refine AL6 hS trivial [44000] [4,3] 905 (fun z3=>⟨[(4,(pN x4)),(3,(.reg 4000 0))], [(4500,(.vec Ax0 7 z3.n (fun i=>C6 (z3.g i)) false)),(4000,(.cells [(.vec 4500)]))]⟩) (idl:=[(4000,4000),(4500,4508)]) h (V9 hS hL e9) (fun _=>by kernel_rfl) (fun _=>by kernel_rfl) (fun _=>by kernel_rfl) (fun _=>by kernel_rfl) (fun x7 _ self4 z3 hb4 h=>?_) (fun z3 h=>?_)
    ·refine AL7 hS trivial ?_
     refine Cl0 hS trivial 10000 (C6 x7.2) ?_
     refine V2 hS trivial [(0, .l [4000]),(1, .n),(2, .l [4500]),(4, .a [51000,4500]),(5, .l [51000]),(6, .a [51000]),(7, .a [4000])] ?_
     refine AE4 (by decide:(7:Nat)<=7) (x:=(.sl true 7 1 (H6 [(pI .i64 0),(pI .u32 0),(pI .u32 0),(.v (.bool false)),(pI .i64 0),(pI .i64 0),U7] [(0, [(pI .i64 0),(pI .u32 0),(pI .u32 0),(.v (.bool false)),(pI .i64 0),(pI .i64 0),U7])]))) ?_
     obtain ⟨c27,h⟩:=P0 h
     refine Q1 (And.intro (And.intro c27.1.1 c27.1.2) (And.intro (rfl:(7:Nat)=7) (And.intro c27.2 (by decide:(7:Nat)<=7)))) ?_
     exact hb4 _ [(905,905),(4000,4000),(4500,51000)] _ ((z3.push Pat.nil).upd (z3.n:Int).toNat x7.2) trivial h (by kernel_rfl) (by kernel_rfl) (klR [(0, .fn (z3.n+1) ((z3.push Pat.nil).upd (z3.n:Int).toNat x7.2).n (fun l=>if l=(z3.n:Int).toNat then splice ((An5 z3.n (fun i=>C6 (z3.g i)) (H6 [(pI .i64 0),(pI .u32 0),(pI .u32 0),(.v (.bool false)),(pI .i64 0),(pI .i64 0),U7] [(0, [(pI .i64 0),(pI .u32 0),(pI .u32 0),(.v (.bool false)),(pI .i64 0),(pI .i64 0),U7])])) l) 0 [(pI .i64 x7.2.Kind),(pI .u32 x7.2.Is.Plus),(pI .u32 x7.2.Is.Minus),(.bb x7.2.Not),(pI .i64 x7.2.Min),(pI .i64 x7.2.Max),(.sl false 7 x7.2.L.n (Ao7 x7.2))] else (An5 z3.n (fun i=>C6 (z3.g i)) (H6 [(pI .i64 0),(pI .u32 0),(pI .u32 0),(.v (.bool false)),(pI .i64 0),(pI .i64 0),U7] [(0, [(pI .i64 0),(pI .u32 0),(pI .u32 0),(.v (.bool false)),(pI .i64 0),(pI .i64 0),U7])])) l) (fun i=>C6 (((z3.push Pat.nil).upd (z3.n:Int).toNat x7.2).g i)))] (al1 ⟨rfl,(setH (c:=C6) (v:=(z3.push Pat.nil)) (x:=x7.2) (app1H (c:=C6) (v:=z3) (z:=Pat.nil) same rfl) (fun _=>by simp [An5,H6,splice]))⟩ al0))
    ·exact hb3 _ [(4000,4000),(4501,4500)] _ z3 (IntKind.wrap .i64 (x4+1)) trivial h
 ·replace h:=itF c19 h
  obtain rfl:=A5 h
  exact B5 hS trivial [] ⟨rfl,rfl,rfl⟩
def W0 (N:Nat) (p_p:Pat) (p_w:(Sl Sound)):Option ((Nat->Int) × Int):=
 (U3 N p_p).bind fun y1=>
 if (y1 != 0)=true then
  some ((fun _=>0),y1)
 else
  if (decide (32 < (p_w.n:Int)))=true then
   some ((fun _=>0),11)
  else
   (B3 N p_w (fun (u1:Sound)=>P8 N u1)).bind fun y2=>
   if y2=true then
    some ((fun _=>0),14)
   else
    (Y6 N p_p).bind fun y3=>
    (Y7 N y3 p_w).bind fun y4=>
    some (y4,0)
theorem AI9 {N:Nat} {p_p:Pat} {p_w:(Sl Sound)}   {y:((Nat->Int) × Int)} (h:W0 N p_p p_w=some y) :
 FunO S AI2 [(.p (.agg (C6 p_p))),(.p (vSl 2 A0 p_w))] [] (.tup [(.p (.agg (cA 33 (pI .u64) y.1))),(pN y.2)]) ([]) []:=by
 unfold W0 at h
 refine A7 hS Bn0 ?_
 obtain ⟨y1,e1,h⟩:=A4 h
 refine A3 hS [] trivial (Ax6 hS hL e1) ?_
 refine A1 hS trivial (b:=y1 != 0) (fun c1=>?_) (fun c1=>?_)
 ·replace h:=itT c1 h
  obtain rfl:=A5 h
  exact B6 hS (And.intro rfl (E5 _ _):(0:Nat)=0/\(Ah3 33 (fun i=>pI .u64 ((fun _=>0) i))).length=33) ⟨[(5,(pN y1)),(4,(.reg 5000 0))], [(5000,(.arr 33 (fun i=>pI .u64 ((fun _=>0) i))))]⟩ [] (ids:=[(5000,5000)]) ⟨rfl,rfl,rfl⟩ (hle:=(klR [(1, .fn 33 33 (fun i=>[(fun i=>(cA 33 (pI .u64) (fun _=>0)).getD i default) i]) (fun i=>[pI .u64 ((fun _=>0) i)]))] (al1 ⟨rfl,(D7 33 (fun i=>pI .u64 ((fun _=>0) i)))⟩ al0)))
 ·replace h:=itF c1 h
  refine A1 hS trivial (b:=decide (32 < (p_w.n:Int))) (fun c2=>?_) (fun c2=>?_)
  ·replace h:=itT c2 h
   obtain rfl:=A5 h
   exact B6 hS (And.intro rfl (E5 _ _):(0:Nat)=0/\(Ah3 33 (fun i=>pI .u64 ((fun _=>0) i))).length=33) ⟨[(5,(pN 11)),(4,(.reg 5000 0))], [(5000,(.arr 33 (fun i=>pI .u64 ((fun _=>0) i))))]⟩ [] (ids:=[(5000,5000)]) ⟨rfl,rfl,rfl⟩ (hle:=(klR [(1, .fn 33 33 (fun i=>[(fun i=>(cA 33 (pI .u64) (fun _=>0)).getD i default) i]) (fun i=>[pI .u64 ((fun _=>0) i)]))] (al1 ⟨rfl,(D7 33 (fun i=>pI .u64 ((fun _=>0) i)))⟩ al0)))
  ·replace h:=itF c2 h
   obtain ⟨y2,e2,h⟩:=A4 h
   refine A3 hS [] trivial (H2 hS hL (fun e=>AZ1 hS hL e) e2) ?_
   refine A1 hS trivial (b:=y2) (fun c3=>?_) (fun c3=>?_)
   ·replace h:=itT c3 h
    obtain rfl:=A5 h
    exact B6 hS (And.intro rfl (E5 _ _):(0:Nat)=0/\(Ah3 33 (fun i=>pI .u64 ((fun _=>0) i))).length=33) ⟨[(5,(pN 14)),(4,(.reg 5000 0))], [(5000,(.arr 33 (fun i=>pI .u64 ((fun _=>0) i))))]⟩ [] (ids:=[(5000,5000)]) ⟨rfl,rfl,rfl⟩ (hle:=(klR [(1, .fn 33 33 (fun i=>[(fun i=>(cA 33 (pI .u64) (fun _=>0)).getD i default) i]) (fun i=>[pI .u64 ((fun _=>0) i)]))] (al1 ⟨rfl,(D7 33 (fun i=>pI .u64 ((fun _=>0) i)))⟩ al0)))
   ·replace h:=itF c3 h
    obtain ⟨y3,e3,h⟩:=A4 h
    refine A3 hS [] trivial (Be2 hS hL e3) ?_
    obtain ⟨y4,e4,h⟩:=A4 h
    refine AS7 hS trivial (Cb1 hS hL e4) ?_
    obtain rfl:=A5 h
    exact B6 hS (And.intro rfl (E5 _ _):(0:Nat)=0/\(Ah3 33 (fun i=>pI .u64 (y4 i))).length=33) ⟨[(5,(pN 0)),(4,(.reg 5000 0))], [(5000,(.arr 33 (fun i=>pI .u64 (y4 i))))]⟩ [] (ids:=[(5000,5000)]) ⟨rfl,rfl,rfl⟩ (hle:=(klR [(1, .fn 33 33 (fun i=>[(fun i=>(cA 33 (pI .u64) y4).getD i default) i]) (fun i=>[pI .u64 (y4 i)]))] (al1 ⟨rfl,(D7 33 (fun i=>pI .u64 (y4 i)))⟩ al0)))
def Ac9 (N:Nat) (p_p:Pat) (p_w:(Sl Sound)) (p_end:Int):Option ((Sl Int) × Int):=
 (W0 N p_p p_w).bind fun y1=>
 lt (fun (z1:Int)=>
  if (z1 != 0)=true then
   some ((Sl.nil:Sl Int),z1)
  else
   T0 N (fun self1 (x2:Sl Int) (x3:Int)=>
    if (decide (x3 < (IntKind.wrap .i64 ((p_w.n:Int)+1))))=true then
     if ((((0:Int)<=x3/\x3 < 33)/\(0+x3.toNat * 1) < 33)/\(0:Int)<=p_end) then
      if ((E7 .and .u64 (shI .shr .u64 (y1.1 (0+x3.toNat * 1)) p_end) 1) == 1)=true then
       if ((x2.n+(Sl.of [x3]:Sl Int).n) * 8<=140737488355328/\x2.n+(Sl.of [x3]:Sl Int).n<=140737488355328) then
        self1 (x2.push x3) (IntKind.wrap .i64 (x3+1))
       else none
      else
       self1 x2 (IntKind.wrap .i64 (x3+1))
     else none
    else
     some (x2,0)
    ) (Sl.nil:Sl Int) 0
  ) fun k1=>
  if (y1.2 == 0)=true then
   (V6 N p_w p_end).bind fun y3=>
   k1 y3
  else
   k1 y1.2
theorem Bo0 {N:Nat} {p_p:Pat} {p_w:(Sl Sound)} {p_end:Int}   {y:((Sl Int) × Int)} (h:Ac9 N p_p p_w p_end=some y) :
 FunO S AI1 [(.p (.agg (C6 p_p))),(.p (vSl 2 A0 p_w)),(pN p_end)] [] (.tup [(.vec 0),(pN y.2)]) ([(.vec H7 1 y.1.n (fun i=>(cI .i64) (y.1.g i)) true)]) []:=by
 unfold Ac9 at h
 refine A7 hS Bm9 ?_
 obtain ⟨y1,e1,h⟩:=A4 h
 refine A3 hS [] trivial (AI9 hS hL e1) ?_
 refine Bb4 hS (And.intro rfl (E5 _ _):(0:Nat)=0/\(Ah3 33 (fun i=>pI .u64 (y1.1 i))).length=33) (B4 hS) h 0 (fun z1=>⟨[(9,(pN z1)),(8,(.reg 9000 0)),(2,(pN p_end)),(1,(.p (vSl 2 A0 p_w)))], [(9000,(.arr 33 (fun i=>pI .u64 (y1.1 i))))]⟩) (fun M1 k1 hb1 h=>?_) (fun z1 h=>?_)
 ·refine A1 hS trivial (b:=y1.2 == 0) (fun c3=>?_) (fun c3=>?_)
  ·replace h:=itT c3 h
   obtain ⟨y3,e3,h⟩:=A4 h
   refine A3 hS [] trivial (AI8 hS hL e3) ?_
   exact hb1 _ [(9000,9000)] _ y3 trivial h (by kernel_rfl) (by kernel_rfl) (klR [(3, .fn 33 33 (fun i=>[(fun i=>(cA 33 (pI .u64) y1.1).getD i default) i]) (fun i=>[pI .u64 (y1.1 i)]))] (al1 ⟨rfl,(D7 33 (fun i=>pI .u64 (y1.1 i)))⟩ al0))
  ·replace h:=itF c3 h
   exact hb1 _ [(9000,9000)] _ y1.2 trivial h (by kernel_rfl) (by kernel_rfl) (klR [(3, .fn 33 33 (fun i=>[(fun i=>(cA 33 (pI .u64) y1.1).getD i default) i]) (fun i=>[pI .u64 (y1.1 i)]))] (al1 ⟨rfl,(D7 33 (fun i=>pI .u64 (y1.1 i)))⟩ al0))
 ·refine A1 hS trivial (b:=z1 != 0) (fun c4=>?_) (fun c4=>?_)
  ·replace h:=itT c4 h
   obtain rfl:=A5 h
   exact B6 hS trivial ⟨[(7,(pN z1)),(6,(.vec 7700))], [(7700,(.vec H7 1 (Sl.nil:Sl Int).n (fun i=>(cI .i64) ((Sl.nil:Sl Int).g i)) true))]⟩ [7700] (ids:=[]) ⟨rfl,rfl,rfl⟩
  ·replace h:=itF c4 h
   refine Ab0 hS trivial h (fun x2 x3=>⟨[(29,(pN x3)),(28,(pN (IntKind.wrap .i64 ((p_w.n:Int)+1)))),(10,(.vec 11500)),(8,(.reg 9000 0)),(2,(pN p_end))], [(11500,(.vec H7 1 x2.n (fun i=>(cI .i64) (x2.g i)) false)),(9000,(.arr 33 (fun i=>pI .u64 (y1.1 i))))]⟩) (ids:=[(9000,9000)]) (fun _ _ _ _ _ self1 x2 x3 hb2 h=>?_)
   refine A1 hS trivial (b:=decide (x3 < (IntKind.wrap .i64 ((p_w.n:Int)+1)))) (fun c11=>?_) (fun c11=>?_)
   ·replace h:=itT c11 h
    obtain ⟨c12,h⟩:=P0 h
    refine A1 hS c12 (b:=(E7 .and .u64 (shI .shr .u64 (y1.1 (0+x3.toNat * 1)) p_end) 1) == 1) (fun c13=>?_) (fun c13=>?_)
    ·replace h:=itT c13 h
     obtain ⟨c14,h⟩:=P0 h
     exact hb2 _ [(9000,9000),(11500,43000)] _ (x2.push x3) (IntKind.wrap .i64 (x3+1)) (And.intro (rfl:true=true) c14) h (by kernel_rfl) (by kernel_rfl) (klR [(3, .fn (x2.n+1) (x2.push x3).n (An5 x2.n (fun i=>(cI .i64) (x2.g i)) (H6 [(pI .i64 0)] [(0,(cI .i64) x3)])) (fun i=>(cI .i64) ((x2.push x3).g i)))] (al1 ⟨rfl,(Cg2 (c:=(cI .i64)) (v:=x2) (x:=x3) (z:=[(pI .i64 0)]) same rfl rfl)⟩ al0))
    ·replace h:=itF c13 h
     exact hb2 _ [(9000,9000),(11500,11500)] _ x2 (IntKind.wrap .i64 (x3+1)) trivial h
   ·replace h:=itF c11 h
    obtain rfl:=A5 h
    exact B6 hS trivial ⟨[(7,(pN 0)),(6,(.vec 11500))], [(11500,(.vec H7 1 x2.n (fun i=>(cI .i64) (x2.g i)) true))]⟩ [11500] (ids:=[(11500,11500)]) ⟨rfl,rfl,rfl⟩
def F8 (N:Nat) (p_seq:List (Int)):Option (Sl Int):=
 K4 p_seq (fun self1 (x1:Int) (z1:Sl Int)=>
  if ((z1.n+(Sl.of [x1]:Sl Int).n) * 8<=140737488355328/\z1.n+(Sl.of [x1]:Sl Int).n<=140737488355328) then
   self1 (z1.push x1)
  else none
  ) (fun (z1:Sl Int)=>
   some z1
  ) (Sl.nil:Sl Int)
theorem Ag7 {N:Nat} {p_seq:List (Int)} {p_seq_0:Int} {kp_seq:Nat} (fp_seq:∃ fn,Tryz.prog.funcs[kp_seq]? = some fn/\fn.body.isSome=true/\(fn.name == "runtime.NumGoroutine")=false) (hp_seq:Am7 S kp_seq [] [.reg 0 0] [(.cells [(.p (pI .u64 p_seq_0))])] (p_seq.map (fun (x:Int)=>[(pI .i64) x]))) {y:(Sl Int)} (h:F8 N p_seq=some y) :
 FunO S G7 [(.p U7),(.clo kp_seq [] [(.reg 0 0)])] [(.cells [(.p (pI .u64 p_seq_0))])] (.vec 0) ([(.vec H7 1 y.n (fun i=>(cI .i64) (y.g i)) true)]) [false]:=by
 unfold F8 at h
 refine A7 hS K3 ?_
 refine AH2 hS trivial fp_seq [0] [2] 901 (fun z1=>⟨[(2,(.reg 3000 0))], [(3500,(.vec H7 1 z1.n (fun i=>(cI .i64) (z1.g i)) false)),(3000,(.cells [(.vec 3500)]))]⟩) (idl:=[(3000,3000)]) h hp_seq (fun _=>by kernel_rfl) (fun _=>by kernel_rfl) (fun _=>by kernel_rfl) (fun _=>by kernel_rfl) (fun x1 _ self1 z1 hb1 h=>?_) (fun z1 h=>?_)
 ·refine AL7 hS trivial ?_
  obtain ⟨c1,h⟩:=P0 h
  exact hb1 _ [(901,901),(3000,3000),(3500,12000)] _ (z1.push x1) (And.intro (rfl:true=true) c1) h (by kernel_rfl) (by kernel_rfl) (klR [(0, .fn (z1.n+1) (z1.push x1).n (An5 z1.n (fun i=>(cI .i64) (z1.g i)) (H6 [(pI .i64 0)] [(0,(cI .i64) x1)])) (fun i=>(cI .i64) ((z1.push x1).g i)))] (al1 ⟨rfl,(Cg2 (c:=(cI .i64)) (v:=z1) (x:=x1) (z:=[(pI .i64 0)]) same rfl rfl)⟩ al0))
 ·obtain rfl:=A5 h
  exact B6 hS trivial ⟨[(4,(.vec 3500))], [(3500,(.vec H7 1 z1.n (fun i=>(cI .i64) (z1.g i)) true))]⟩ [3500] (ids:=[(3500,3500)]) ⟨rfl,rfl,rfl⟩
def J2 (N:Nat) (p_seq:List (Int)):Option (Sl Int):=
 (F8 N p_seq).bind fun y1=>
 some y1
theorem Ax7 {N:Nat} {p_seq:List (Int)} {p_seq_0:Int} {kp_seq:Nat} (fp_seq:∃ fn,Tryz.prog.funcs[kp_seq]? = some fn/\fn.body.isSome=true/\(fn.name == "runtime.NumGoroutine")=false) (hp_seq:Am7 S kp_seq [] [.reg 0 0] [(.cells [(.p (pI .u64 p_seq_0))])] (p_seq.map (fun (x:Int)=>[(pI .i64) x]))) {y:(Sl Int)} (h:J2 N p_seq=some y) :
 FunO S P2 [(.clo kp_seq [] [(.reg 0 0)])] [(.cells [(.p (pI .u64 p_seq_0))])] (.vec 0) ([(.vec H7 1 y.n (fun i=>(cI .i64) (y.g i)) true)]) [false]:=by
 unfold J2 at h
 refine A7 hS W7 ?_
 obtain ⟨y1,e1,h⟩:=A4 h
 refine A3 hS [0] trivial (Ag7 hS hL fp_seq hp_seq e1) ?_
 obtain rfl:=A5 h
 exact B6 hS trivial ⟨[(2,(.vec 5000))], [(5000,(.vec H7 1 y1.n (fun i=>(cI .i64) (y1.g i)) true))]⟩ [5000] (ids:=[(5000,5000)]) ⟨rfl,rfl,rfl⟩
def Ak6 (N:Nat) (p_p:Pat) (p_w:(Sl Sound)) (p_at:Int):Option ((Sl Int) × Int):=
 (W0 N p_p p_w).bind fun y1=>
 lt (fun (z1:Int)=>
  if (z1 != 0)=true then
   some ((Sl.nil:Sl Int),z1)
  else
   if (((0:Int)<=p_at/\p_at < 33)/\(0+p_at.toNat * 1) < 33) then
    (Y4 N (y1.1 (0+p_at.toNat * 1))).bind fun y4=>
    (O3 N y4).bind fun L1=>
    (J2 N L1).bind fun y5=>
    some (y5,0)
   else none
  ) fun k1=>
  if (y1.2 == 0)=true then
   (V6 N p_w p_at).bind fun y3=>
   k1 y3
  else
   k1 y1.2
theorem BF6 {N:Nat} {p_p:Pat} {p_w:(Sl Sound)} {p_at:Int}   {y:((Sl Int) × Int)} (h:Ak6 N p_p p_w p_at=some y) :
 FunO S AX5 [(.p (.agg (C6 p_p))),(.p (vSl 2 A0 p_w)),(pN p_at)] [] (.tup [(.vec 0),(pN y.2)]) ([(.vec H7 1 y.1.n (fun i=>(cI .i64) (y.1.g i)) true)]) []:=by
 unfold Ak6 at h
 refine A7 hS BE5 ?_
 obtain ⟨y1,e1,h⟩:=A4 h
 refine A3 hS [] trivial (AI9 hS hL e1) ?_
 refine Bb4 hS (And.intro rfl (E5 _ _):(0:Nat)=0/\(Ah3 33 (fun i=>pI .u64 (y1.1 i))).length=33) (B4 hS) h 0 (fun z1=>⟨[(9,(pN z1)),(8,(.reg 9000 0)),(2,(pN p_at))], [(9000,(.arr 33 (fun i=>pI .u64 (y1.1 i))))]⟩) (fun M1 k1 hb1 h=>?_) (fun z1 h=>?_)
 ·refine A1 hS trivial (b:=y1.2 == 0) (fun c3=>?_) (fun c3=>?_)
  ·replace h:=itT c3 h
   obtain ⟨y3,e3,h⟩:=A4 h
   refine A3 hS [] trivial (AI8 hS hL e3) ?_
   exact hb1 _ [(9000,9000)] _ y3 trivial h (by kernel_rfl) (by kernel_rfl) (klR [(2, .fn 33 33 (fun i=>[(fun i=>(cA 33 (pI .u64) y1.1).getD i default) i]) (fun i=>[pI .u64 (y1.1 i)]))] (al1 ⟨rfl,(D7 33 (fun i=>pI .u64 (y1.1 i)))⟩ al0))
  ·replace h:=itF c3 h
   exact hb1 _ [(9000,9000)] _ y1.2 trivial h (by kernel_rfl) (by kernel_rfl) (klR [(2, .fn 33 33 (fun i=>[(fun i=>(cA 33 (pI .u64) y1.1).getD i default) i]) (fun i=>[pI .u64 (y1.1 i)]))] (al1 ⟨rfl,(D7 33 (fun i=>pI .u64 (y1.1 i)))⟩ al0))
 ·refine A1 hS trivial (b:=z1 != 0) (fun c4=>?_) (fun c4=>?_)
  ·replace h:=itT c4 h
   obtain rfl:=A5 h
   exact B6 hS trivial ⟨[(7,(pN z1)),(6,(.vec 7700))], [(7700,(.vec H7 1 (Sl.nil:Sl Int).n (fun i=>(cI .i64) ((Sl.nil:Sl Int).g i)) true))]⟩ [7700] (ids:=[]) ⟨rfl,rfl,rfl⟩
  ·replace h:=itF c4 h
   obtain ⟨c5,h⟩:=P0 h
   obtain ⟨y4,e4,h⟩:=A4 h
   refine A3 hS [] c5 (An2 hS hL e4) ?_
   obtain ⟨L1,e5,h⟩:=A4 h
   obtain ⟨y5,e6,h⟩:=A4 h
   refine A3 hS [28000] trivial (Ax7 hS hL ⟨_,At9,by decide +kernel,by decide +kernel⟩ (Ah7 hS hL e5) e6) ?_
   obtain rfl:=A5 h
   exact B6 hS trivial ⟨[(7,(pN 0)),(6,(.vec 29000))], [(29000,(.vec H7 1 y5.n (fun i=>(cI .i64) (y5.g i)) true))]⟩ [29000] (ids:=[(29000,29000)]) ⟨rfl,rfl,rfl⟩
end Go.AM
