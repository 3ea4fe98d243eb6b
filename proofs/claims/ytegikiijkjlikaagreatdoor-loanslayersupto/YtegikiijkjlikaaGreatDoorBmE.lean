/- What a law's walk and its plain proof need, part 5: no condition of its own. -/
import Derived.Test.YtegikiijkjlikaaGreatDoorBmD
import Derived.Test.YtegikiijkjlikaaGreatDoorBmC
import Derived.RecoverIn
import Derived.Test.YtegikiijkjlikaaGreatDoorProg
import Derived.Lib.SlTrimSet
import Derived.TacticsInMore
set_option linter.unusedSimpArgs false
set_option linter.unusedVariables false
set_option linter.unusedSectionVars false
set_option linter.unusedVariables false
namespace Go.AM
def Cl9 (D:List Deferred) (a:Act):Act:={ a with defers:=a.defers ++ D }
theorem As6 (D:List Deferred) (a:Act) (d:Option Tmp) (v:Value):(Cl9 D a).put d v=Cl9 D (a.put d v):=by cases d <;> rfl
theorem AH3 {F:Fence} {n:Nat} {P:Program} {ops:Array Oper} {Q:Exit->Act->World->Prop} (D:List Deferred):∀ (l:List Nat) (a:Act) (w:World),wpOpsIn F n P ops Q l a w ->
 wpOpsIn F n P ops (fun e a' w'=>∃ a0,a' = Cl9 D a0/\Q e a0 w') l (Cl9 D a) w
 | [],a,w,h=>⟨a,rfl,h⟩
 | i :: l,a,w,h=>by
  have ih:=AH3 (F:=F) (n:=n) (P:=P) (ops:=ops) (Q:=Q) D l
  simp only [wpOpsIn] at h ⊢
  have e1:(Cl9 D a).eval=a.eval:=by funext x;cases x <;> rfl
  have e2:(Cl9 D a).tmps=a.tmps:=rfl
  cases ho:ops[i]? with
  | none=>simp only [ho] at h ⊢;exact ih a w h
  | some o=>
   simp only [ho] at h ⊢
   rw [e2,e1]
   by_cases hw:Region.wanted o (yielded ops a.tmps)=true
   ·rw [if_pos hw] at h ⊢
    refine ⟨by rw [e1];exact h.1, ?_⟩
    have h2:=h.2
    rw [e1]
    generalize (o.semAt F.round a.eval).run P w=r at h2
    unfold Oper.uponIn at h2 ⊢
    split at h2
    ·rw [As6];exact ih _ _ h2
    ·rw [As6];exact ih _ _ h2
    ·exact ih _ _ h2 |> fun x=>by
      rename_i d w'
      have:({ (Cl9 D a) with defers:=d :: (Cl9 D a).defers }:Act).put o.dst undef=Cl9 D (({ a with defers:=d :: a.defers }:Act).put o.dst undef):=by rw [<- As6];rfl
      rw [this];exact x
    ·refine ⟨h2.1,h2.2.mono ?_⟩
     intro e w' he
     cases e with
     | returned v=>have:=ih _ _ he;rw [<- As6] at this;exact this
     | panicked ch=>exact ⟨a,rfl,he⟩
     | outgrown=>obtain ⟨a1,w1,h3⟩:=he;exact ⟨Cl9 D a1,w1,a1,rfl,h3⟩
    ·refine ⟨h2.1,fun c cs hr=>?_⟩
     obtain ⟨v,w',g1,g2⟩:=h2.2 c cs hr
     exact ⟨v,w',by have:=ih _ _ g1;rw [<- As6] at this;exact this,g2⟩
    ·refine ⟨h2.1,h2.2.mono ?_⟩
     intro e w' he
     cases e with
     | returned v=>have:=ih _ _ he;rw [<- As6] at this;exact this
     | panicked ch=>exact ⟨a,rfl,he⟩
     | outgrown=>obtain ⟨a1,w1,h3⟩:=he;exact ⟨Cl9 D a1,w1,a1,rfl,h3⟩
    ·exact ⟨a,rfl,h2⟩
    ·exact h2.elim
   ·rw [if_neg hw] at h ⊢
    rw [As6]
    exact ⟨h.1,ih _ _ h.2⟩
section
variable {P:Program} {C:Ctx} {st:St} {rho:Nat->Value}
theorem As7 {fn:Func} {R:Ending->World->Prop} {u:FrameMode} (hu:u ≠ .run) {tmps:Array Value} {D:List Deferred} (hfin:∀ a w,Sat C st a w rho->a.tmps=tmps->LeavesInM Fence.wide 0 P fn tmps R D u w) :
 ∀ (ds:List Deferred) (a:Act) (w:World),a.defers=ds->a.tmps=tmps->Sat C st a w rho->LeavesInM Fence.wide 0 P fn tmps R (ds ++ D) u w
 | [],a,w,hd,ht,h=>hfin a w h ht
 | d :: ds,a,w,hd,ht,h=>by
  obtain ⟨r,w',h1,h2,h3⟩:=h.unmark hd
  exact ⟨hu, .inl ⟨r,w',h1,h2,As7 hu hfin ds { a with defers:=ds } w' rfl ht h3⟩⟩
end
end Go.AM
set_option linter.unusedVariables false
namespace Go.AM
structure G3 where
 First:Int
 Last:Int
 deriving Inhabited,DecidableEq
abbrev Am9 (x:G3):List PV:=[(pI .i64 x.First),(pI .i64 x.Last)]
structure O5 where
 First:Int
 Last:Int
 deriving Inhabited,DecidableEq
abbrev AA3 (x:O5):List PV:=[(pI .i64 x.First),(pI .i64 x.Last)]
structure Sound where
 Plus:Int
 Minus:Int
 deriving Inhabited,DecidableEq
abbrev A0 (x:Sound):List PV:=[(pI .u32 x.Plus),(pI .u32 x.Minus)]
structure T3 where
 From:(Sl Sound)
 To:(Sl Sound)
 deriving Inhabited
abbrev F4 (x:T3):List PV:=[(vSl 2 A0 x.From),(vSl 2 A0 x.To)]
inductive Pat where
 | nil
 | mk (Kind:Int) (Is:Sound) (Not:Bool) (Min:Int) (Max:Int) (n:Nat) (g:Nat->Pat)
instance:Inhabited Pat:=⟨.nil⟩
def Pat.Kind:Pat->Int
 | .nil=>0
 | .mk x _ _ _ _ _ _=>x
def Pat.Is:Pat->Sound
 | .nil=>default
 | .mk _ x _ _ _ _ _=>x
def Pat.Not:Pat->Bool
 | .nil=>false
 | .mk _ _ x _ _ _ _=>x
def Pat.Min:Pat->Int
 | .nil=>0
 | .mk _ _ _ x _ _ _=>x
def Pat.Max:Pat->Int
 | .nil=>0
 | .mk _ _ _ _ x _ _=>x
def Pat.L:Pat->Sl Pat
 | .nil=>⟨0,fun _=>.nil⟩
 | .mk _ _ _ _ _ n g=>⟨n,g⟩
def Ad2:Pat->Nat->List PV
 | .nil=>fun _=>[]
 | .mk _ _ _ _ _ n g=>fun i=>[(pI .i64 (g i).Kind),(pI .u32 (g i).Is.Plus),(pI .u32 (g i).Is.Minus),(.bb (g i).Not),(pI .i64 (g i).Min),(pI .i64 (g i).Max),(.sl false 7 (g i).L.n (Ad2 (g i)))]
abbrev B6 (x:Pat):List PV:=[(pI .i64 x.Kind),(pI .u32 x.Is.Plus),(pI .u32 x.Is.Minus),(.bb x.Not),(pI .i64 x.Min),(pI .i64 x.Max),(.sl false 7 x.L.n (Ad2 x))]
theorem M9 (x:Pat):∀ i,i < x.L.n->Ad2 x i=B6 (x.L.g i):=by
 cases x with
 | nil=>intro i hi;exact absurd (show i < 0 from hi) (by omega)
 | mk Kind Is Not Min Max n g=>exact fun _ _=>rfl
structure Ae4 where
 From:Int
 Clear:Int
 Set:Sound
 Take:Int
 Of:Int
 deriving Inhabited,DecidableEq
abbrev Q6 (x:Ae4):List PV:=[(pI .i64 x.From),(pI .u32 x.Clear),(pI .u32 x.Set.Plus),(pI .u32 x.Set.Minus),(pI .u32 x.Take),(pI .i64 x.Of)]
structure Law where
 Name:Str
 Left:Pat
 Right:Pat
 If:(Sl Sound)
 Out:(Sl Ae4)
 Mode:Int
 deriving Inhabited
abbrev A8 (x:Law):List PV:=[(.str x.Name),(pI .i64 x.Left.Kind),(pI .u32 x.Left.Is.Plus),(pI .u32 x.Left.Is.Minus),(.bb x.Left.Not),(pI .i64 x.Left.Min),(pI .i64 x.Left.Max),(.sl false 7 x.Left.L.n (Ad2 x.Left)),(pI .i64 x.Right.Kind),(pI .u32 x.Right.Is.Plus),(pI .u32 x.Right.Is.Minus),(.bb x.Right.Not),(pI .i64 x.Right.Min),(pI .i64 x.Right.Max),(.sl false 7 x.Right.L.n (Ad2 x.Right)),(vSl 2 A0 x.If),(vSl 6 Q6 x.Out),(pI .i64 x.Mode)]
inductive Part where
 | nil
 | sound (x:Sound) (no:Bool)
 | edge (e:Bool)
 | seq (n:Nat) (g:Nat->Part)
 | alt (n:Nat) (g:Nat->Part)
 | rep (o:Part) (mn mx:Int)
instance:Inhabited Part:=⟨.nil⟩
def Part.t:Part->Nat
 | .nil=>0
 | .sound _ _=>248
 | .edge _=>250
 | .seq _ _=>255
 | .alt _ _=>252
 | .rep _ _ _=>254
def Part.v:Part->PV
 | .nil=>.bb false
 | .sound x no=>.agg [pI .u32 x.Plus,pI .u32 x.Minus, .bb no]
 | .edge e=>.agg [.bb e]
 | .seq n g=>.agg [.sl false 1 n fun i=>[.iface (g i).t (g i).v]]
 | .alt n g=>.agg [.sl false 1 n fun i=>[.iface (g i).t (g i).v]]
 | .rep o mn mx=>.agg [.iface o.t o.v,pI .i64 mn,pI .i64 mx]
abbrev Ax3 (x:Part):PV:=.iface x.t x.v
abbrev Aq2 (x:Part):List PV:=[Ax3 x]
structure Cm0 where
 is:Sound
 not:Bool
 deriving Inhabited,DecidableEq
abbrev BV0 (x:Cm0):List PV:=[(pI .u32 x.is.Plus),(pI .u32 x.is.Minus),(.bb x.not)]
structure CJ8 where
 end_:Bool
 deriving Inhabited,DecidableEq
abbrev CJ9 (x:CJ8):List PV:=[(.bb x.end_)]
structure Palt where
 l:(Sl Part)
 deriving Inhabited
abbrev CS2 (x:Palt):List PV:=[(vSl 1 Aq2 x.l)]
structure CS3 where
 of:Part
 min:Int
 max:Int
 deriving Inhabited
abbrev CS4 (x:CS3):List PV:=[(Ax3 x.of),(pI .i64 x.min),(pI .i64 x.max)]
structure Pseq where
 l:(Sl Part)
 deriving Inhabited
abbrev CS5 (x:Pseq):List PV:=[(vSl 1 Aq2 x.l)]
end Go.AM
namespace Go.AM
open Go.Proofs
abbrev Af1:Nat:=3
theorem Aq3:Tryz.prog.funcs[Af1]? = some Tryz.f3:=Tryz.func3
abbrev Af2:Nat:=4
theorem Aq4:Tryz.prog.funcs[Af2]? = some Tryz.f4:=Tryz.func4
abbrev Af3:Nat:=11
theorem Aq5:Tryz.prog.funcs[Af3]? = some Tryz.f11:=Tryz.func11
abbrev Bj7:Nat:=14
theorem Ca8:Tryz.prog.funcs[Bj7]? = some Tryz.f14:=Tryz.func14
abbrev AW6:Nat:=15
theorem BK3:Tryz.prog.funcs[AW6]? = some Tryz.f15:=Tryz.func15
abbrev AC1:Nat:=16
theorem Be2:Tryz.prog.funcs[AC1]? = some Tryz.f16:=Tryz.func16
abbrev AO7:Nat:=17
theorem Bz4:Tryz.prog.funcs[AO7]? = some Tryz.f17:=Tryz.func17
abbrev AO8:Nat:=18
theorem Bz5:Tryz.prog.funcs[AO8]? = some Tryz.f18:=Tryz.func18
abbrev Bj8:Nat:=19
theorem Ca9:Tryz.prog.funcs[Bj8]? = some Tryz.f19:=Tryz.func19
abbrev AC2:Nat:=20
theorem Be3:Tryz.prog.funcs[AC2]? = some Tryz.f20:=Tryz.func20
abbrev AO9:Nat:=21
theorem Bz6:Tryz.prog.funcs[AO9]? = some Tryz.f21:=Tryz.func21
abbrev Bj9:Nat:=22
theorem Cb0:Tryz.prog.funcs[Bj9]? = some Tryz.f22:=Tryz.func22
abbrev Bk0:Nat:=23
theorem Cb1:Tryz.prog.funcs[Bk0]? = some Tryz.f23:=Tryz.func23
abbrev AC3:Nat:=24
theorem Be4:Tryz.prog.funcs[AC3]? = some Tryz.f24:=Tryz.func24
abbrev AP0:Nat:=25
theorem Bz7:Tryz.prog.funcs[AP0]? = some Tryz.f25:=Tryz.func25
abbrev AP1:Nat:=27
theorem Bz8:Tryz.prog.funcs[AP1]? = some Tryz.f27:=Tryz.func27
abbrev AH4:Nat:=29
theorem Bq0:Tryz.prog.funcs[AH4]? = some Tryz.f29:=Tryz.func29
abbrev AC4:Nat:=31
theorem Be5:Tryz.prog.funcs[AC4]? = some Tryz.f31:=Tryz.func31
abbrev AP2:Nat:=32
theorem Bz9:Tryz.prog.funcs[AP2]? = some Tryz.f32:=Tryz.func32
abbrev AW7:Nat:=33
theorem BK4:Tryz.prog.funcs[AW7]? = some Tryz.f33:=Tryz.func33
abbrev Bk1:Nat:=39
theorem Cb2:Tryz.prog.funcs[Bk1]? = some Tryz.f39:=Tryz.func39
abbrev Aj2:Nat:=40
theorem Bq1:Tryz.prog.funcs[Aj2]? = some Tryz.f40:=Tryz.func40
abbrev Cm1:Nat:=41
theorem CK0:Tryz.prog.funcs[Cm1]? = some Tryz.f41:=Tryz.func41
abbrev Cm2:Nat:=42
theorem CK1:Tryz.prog.funcs[Cm2]? = some Tryz.f42:=Tryz.func42
abbrev BA0:Nat:=43
theorem Cm3:Tryz.prog.funcs[BA0]? = some Tryz.f43:=Tryz.func43
abbrev Cm4:Nat:=44
theorem CK2:Tryz.prog.funcs[Cm4]? = some Tryz.f44:=Tryz.func44
abbrev AH5:Nat:=45
theorem Bq2:Tryz.prog.funcs[AH5]? = some Tryz.f45:=Tryz.func45
abbrev P8:Nat:=46
theorem X7:Tryz.prog.funcs[P8]? = some Tryz.f46:=Tryz.func46
abbrev AC5:Nat:=47
theorem Be6:Tryz.prog.funcs[AC5]? = some Tryz.f47:=Tryz.func47
abbrev AW8:Nat:=48
theorem BK5:Tryz.prog.funcs[AW8]? = some Tryz.f48:=Tryz.func48
abbrev AP3:Nat:=49
theorem BA1:Tryz.prog.funcs[AP3]? = some Tryz.f49:=Tryz.func49
abbrev AP4:Nat:=50
theorem BA2:Tryz.prog.funcs[AP4]? = some Tryz.f50:=Tryz.func50
abbrev Bk2:Nat:=51
theorem Cb3:Tryz.prog.funcs[Bk2]? = some Tryz.f51:=Tryz.func51
abbrev AH6:Nat:=52
theorem Bq3:Tryz.prog.funcs[AH6]? = some Tryz.f52:=Tryz.func52
abbrev AW9:Nat:=53
theorem BK6:Tryz.prog.funcs[AW9]? = some Tryz.f53:=Tryz.func53
abbrev AC6:Nat:=54
theorem Be7:Tryz.prog.funcs[AC6]? = some Tryz.f54:=Tryz.func54
abbrev AP5:Nat:=55
theorem BA3:Tryz.prog.funcs[AP5]? = some Tryz.f55:=Tryz.func55
abbrev K5:Nat:=56
theorem X8:Tryz.prog.funcs[K5]? = some Tryz.f56:=Tryz.func56
abbrev AC7:Nat:=57
theorem Be8:Tryz.prog.funcs[AC7]? = some Tryz.f57:=Tryz.func57
abbrev Ax4:Nat:=58
theorem AX0:Tryz.prog.funcs[Ax4]? = some Tryz.f58:=Tryz.func58
abbrev An0:Nat:=59
theorem AH7:Tryz.prog.funcs[An0]? = some Tryz.f59:=Tryz.func59
abbrev K6:Nat:=61
theorem X9:Tryz.prog.funcs[K6]? = some Tryz.f61:=Tryz.func61
abbrev AX1:Nat:=62
theorem BK7:Tryz.prog.funcs[AX1]? = some Tryz.f62:=Tryz.func62
abbrev As8:Nat:=74
theorem BK8:Tryz.prog.funcs[As8]? = some Tryz.f74:=Tryz.func74
abbrev AC8:Nat:=75
theorem Be9:Tryz.prog.funcs[AC8]? = some Tryz.f75:=Tryz.func75
abbrev AP6:Nat:=76
theorem BA4:Tryz.prog.funcs[AP6]? = some Tryz.f76:=Tryz.func76
abbrev H0:Nat:=77
theorem J9:Tryz.prog.funcs[H0]? = some Tryz.f77:=Tryz.func77
abbrev Aa4:Nat:=78
theorem Aa5:Tryz.prog.funcs[Aa4]? = some Tryz.f78:=Tryz.func78
abbrev AX2:Nat:=79
theorem BK9:Tryz.prog.funcs[AX2]? = some Tryz.f79:=Tryz.func79
abbrev AX3:Nat:=80
theorem BL0:Tryz.prog.funcs[AX3]? = some Tryz.f80:=Tryz.func80
abbrev AP7:Nat:=81
theorem BA5:Tryz.prog.funcs[AP7]? = some Tryz.f81:=Tryz.func81
abbrev AX4:Nat:=82
theorem BL1:Tryz.prog.funcs[AX4]? = some Tryz.f82:=Tryz.func82
abbrev Aa6:Nat:=83
theorem Au7:Tryz.prog.funcs[Aa6]? = some Tryz.f83:=Tryz.func83
abbrev O1:Nat:=84
theorem Ac5:Tryz.prog.funcs[O1]? = some Tryz.f84:=Tryz.func84
abbrev Au8:Nat:=85
theorem AR7:Tryz.prog.funcs[Au8]? = some Tryz.f85:=Tryz.func85
abbrev Q2:Nat:=86
theorem Ax5:Tryz.prog.funcs[Q2]? = some Tryz.f86:=Tryz.func86
abbrev AC9:Nat:=87
theorem Bf0:Tryz.prog.funcs[AC9]? = some Tryz.f87:=Tryz.func87
abbrev AX5:Nat:=89
theorem BL2:Tryz.prog.funcs[AX5]? = some Tryz.f89:=Tryz.func89
abbrev AX6:Nat:=97
theorem BL3:Tryz.prog.funcs[AX6]? = some Tryz.f97:=Tryz.func97
abbrev I5:Nat:=113
theorem T5:Tryz.prog.funcs[I5]? = some Tryz.f113:=Tryz.func113
abbrev Au9:Nat:=114
theorem AR8:Tryz.prog.funcs[Au9]? = some Tryz.f114:=Tryz.func114
abbrev AP8:Nat:=115
theorem BA6:Tryz.prog.funcs[AP8]? = some Tryz.f115:=Tryz.func115
abbrev AX7:Nat:=116
theorem BL4:Tryz.prog.funcs[AX7]? = some Tryz.f116:=Tryz.func116
abbrev AX8:Nat:=117
theorem BL5:Tryz.prog.funcs[AX8]? = some Tryz.f117:=Tryz.func117
abbrev I0:Nat:=118
theorem Ae5:Tryz.prog.funcs[I0]? = some Tryz.f118:=Tryz.func118
abbrev H7:Nat:=119
theorem An1:Tryz.prog.funcs[H7]? = some Tryz.f119:=Tryz.func119
abbrev H1:Nat:=120
theorem Av0:Tryz.prog.funcs[H1]? = some Tryz.f120:=Tryz.func120
abbrev O2:Nat:=121
theorem AR9:Tryz.prog.funcs[O2]? = some Tryz.f121:=Tryz.func121
abbrev AX9:Nat:=122
theorem BL6:Tryz.prog.funcs[AX9]? = some Tryz.f122:=Tryz.func122
abbrev As9:Nat:=124
theorem Bq4:Tryz.prog.funcs[As9]? = some Tryz.f124:=Tryz.func124
abbrev Bk3:Nat:=125
theorem Cb4:Tryz.prog.funcs[Bk3]? = some Tryz.f125:=Tryz.func125
abbrev At0:Nat:=126
theorem Bq5:Tryz.prog.funcs[At0]? = some Tryz.f126:=Tryz.func126
abbrev AH8:Nat:=127
theorem Bq6:Tryz.prog.funcs[AH8]? = some Tryz.f127:=Tryz.func127
abbrev AY0:Nat:=128
theorem BL7:Tryz.prog.funcs[AY0]? = some Tryz.f128:=Tryz.func128
abbrev AP9:Nat:=129
theorem BA7:Tryz.prog.funcs[AP9]? = some Tryz.f129:=Tryz.func129
abbrev H5:Nat:=130
theorem Q5:Tryz.prog.funcs[H5]? = some Tryz.f130:=Tryz.func130
abbrev I6:Nat:=131
theorem T6:Tryz.prog.funcs[I6]? = some Tryz.f131:=Tryz.func131
abbrev Bk4:Nat:=134
theorem Cb5:Tryz.prog.funcs[Bk4]? = some Tryz.f134:=Tryz.func134
abbrev AY1:Nat:=135
theorem BL8:Tryz.prog.funcs[AY1]? = some Tryz.f135:=Tryz.func135
abbrev AY2:Nat:=136
theorem BL9:Tryz.prog.funcs[AY2]? = some Tryz.f136:=Tryz.func136
abbrev Bk5:Nat:=137
theorem Cb6:Tryz.prog.funcs[Bk5]? = some Tryz.f137:=Tryz.func137
abbrev K7:Nat:=143
theorem Y0:Tryz.prog.funcs[K7]? = some Tryz.f143:=Tryz.func143
abbrev Bk6:Nat:=144
theorem Cb7:Tryz.prog.funcs[Bk6]? = some Tryz.f144:=Tryz.func144
abbrev AY3:Nat:=145
theorem BM0:Tryz.prog.funcs[AY3]? = some Tryz.f145:=Tryz.func145
abbrev AY4:Nat:=146
theorem BM1:Tryz.prog.funcs[AY4]? = some Tryz.f146:=Tryz.func146
abbrev Ao4:Nat:=148
theorem Bf1:Tryz.prog.funcs[Ao4]? = some Tryz.f148:=Tryz.func148
abbrev AD0:Nat:=149
theorem Bf2:Tryz.prog.funcs[AD0]? = some Tryz.f149:=Tryz.func149
abbrev N0:Nat:=150
theorem Z0:Tryz.prog.funcs[N0]? = some Tryz.f150:=Tryz.func150
abbrev I3:Nat:=151
theorem T0:Tryz.prog.funcs[I3]? = some Tryz.f151:=Tryz.func151
abbrev K8:Nat:=152
theorem Y1:Tryz.prog.funcs[K8]? = some Tryz.f152:=Tryz.func152
abbrev AA4:Nat:=155
theorem Cb8:Tryz.prog.funcs[AA4]? = some Tryz.f155:=Tryz.func155
abbrev AY5:Nat:=157
theorem BM2:Tryz.prog.funcs[AY5]? = some Tryz.f157:=Tryz.func157
abbrev AY6:Nat:=158
theorem BM3:Tryz.prog.funcs[AY6]? = some Tryz.f158:=Tryz.func158
abbrev BA8:Nat:=159
theorem Cm5:Tryz.prog.funcs[BA8]? = some Tryz.f159:=Tryz.func159
abbrev AQ0:Nat:=167
theorem BA9:Tryz.prog.funcs[AQ0]? = some Tryz.f167:=Tryz.func167
abbrev D8:Nat:=168
theorem W2:Tryz.prog.funcs[D8]? = some Tryz.f168:=Tryz.func168
abbrev Bk7:Nat:=169
theorem Cb9:Tryz.prog.funcs[Bk7]? = some Tryz.f169:=Tryz.func169
abbrev AY7:Nat:=170
theorem BM4:Tryz.prog.funcs[AY7]? = some Tryz.f170:=Tryz.func170
abbrev BB0:Nat:=171
theorem Cm6:Tryz.prog.funcs[BB0]? = some Tryz.f171:=Tryz.func171
abbrev AY8:Nat:=172
theorem BM5:Tryz.prog.funcs[AY8]? = some Tryz.f172:=Tryz.func172
abbrev Bk8:Nat:=173
theorem Cc0:Tryz.prog.funcs[Bk8]? = some Tryz.f173:=Tryz.func173
abbrev At1:Nat:=174
theorem BM6:Tryz.prog.funcs[At1]? = some Tryz.f174:=Tryz.func174
abbrev Bk9:Nat:=175
theorem Cc1:Tryz.prog.funcs[Bk9]? = some Tryz.f175:=Tryz.func175
abbrev J3:Nat:=176
theorem W3:Tryz.prog.funcs[J3]? = some Tryz.f176:=Tryz.func176
abbrev BB1:Nat:=177
theorem Cm7:Tryz.prog.funcs[BB1]? = some Tryz.f177:=Tryz.func177
abbrev BB2:Nat:=178
theorem Cm8:Tryz.prog.funcs[BB2]? = some Tryz.f178:=Tryz.func178
abbrev AH9:Nat:=179
theorem Bq7:Tryz.prog.funcs[AH9]? = some Tryz.f179:=Tryz.func179
abbrev BB3:Nat:=184
theorem Cm9:Tryz.prog.funcs[BB3]? = some Tryz.f184:=Tryz.func184
abbrev BB4:Nat:=185
theorem Cn0:Tryz.prog.funcs[BB4]? = some Tryz.f185:=Tryz.func185
abbrev AI0:Nat:=186
theorem Bq8:Tryz.prog.funcs[AI0]? = some Tryz.f186:=Tryz.func186
abbrev An2:Nat:=187
theorem BB5:Tryz.prog.funcs[An2]? = some Tryz.f187:=Tryz.func187
abbrev AQ1:Nat:=188
theorem BB6:Tryz.prog.funcs[AQ1]? = some Tryz.f188:=Tryz.func188
abbrev Aq6:Nat:=189
theorem AL7:Tryz.prog.funcs[Aq6]? = some Tryz.f189:=Tryz.func189
abbrev G4:Nat:=190
theorem Z1:Tryz.prog.funcs[G4]? = some Tryz.f190:=Tryz.func190
abbrev AD1:Nat:=191
theorem Bf3:Tryz.prog.funcs[AD1]? = some Tryz.f191:=Tryz.func191
abbrev AQ2:Nat:=192
theorem BB7:Tryz.prog.funcs[AQ2]? = some Tryz.f192:=Tryz.func192
abbrev Ax6:Nat:=196
theorem AY9:Tryz.prog.funcs[Ax6]? = some Tryz.f196:=Tryz.func196
abbrev AQ3:Nat:=197
theorem BB8:Tryz.prog.funcs[AQ3]? = some Tryz.f197:=Tryz.func197
abbrev Bl0:Nat:=198
theorem Cc2:Tryz.prog.funcs[Bl0]? = some Tryz.f198:=Tryz.func198
abbrev AQ4:Nat:=199
theorem BB9:Tryz.prog.funcs[AQ4]? = some Tryz.f199:=Tryz.func199
abbrev Bl1:Nat:=200
theorem Cc3:Tryz.prog.funcs[Bl1]? = some Tryz.f200:=Tryz.func200
abbrev S0:Nat:=201
theorem Bf4:Tryz.prog.funcs[S0]? = some Tryz.f201:=Tryz.func201
abbrev AI1:Nat:=202
theorem Bq9:Tryz.prog.funcs[AI1]? = some Tryz.f202:=Tryz.func202
abbrev AZ0:Nat:=203
theorem BM7:Tryz.prog.funcs[AZ0]? = some Tryz.f203:=Tryz.func203
abbrev AZ1:Nat:=204
theorem BM8:Tryz.prog.funcs[AZ1]? = some Tryz.f204:=Tryz.func204
abbrev AZ2:Nat:=205
theorem BM9:Tryz.prog.funcs[AZ2]? = some Tryz.f205:=Tryz.func205
abbrev BC0:Nat:=210
theorem Cn1:Tryz.prog.funcs[BC0]? = some Tryz.f210:=Tryz.func210
abbrev Bl2:Nat:=211
theorem Cc4:Tryz.prog.funcs[Bl2]? = some Tryz.f211:=Tryz.func211
abbrev At2:Nat:=212
theorem BN0:Tryz.prog.funcs[At2]? = some Tryz.f212:=Tryz.func212
abbrev BC1:Nat:=213
theorem Cn2:Tryz.prog.funcs[BC1]? = some Tryz.f213:=Tryz.func213
abbrev AI2:Nat:=214
theorem Br0:Tryz.prog.funcs[AI2]? = some Tryz.f214:=Tryz.func214
abbrev AI3:Nat:=215
theorem Br1:Tryz.prog.funcs[AI3]? = some Tryz.f215:=Tryz.func215
abbrev AD2:Nat:=216
theorem Bf5:Tryz.prog.funcs[AD2]? = some Tryz.f216:=Tryz.func216
abbrev AI4:Nat:=218
theorem Br2:Tryz.prog.funcs[AI4]? = some Tryz.f218:=Tryz.func218
abbrev Ax7:Nat:=219
theorem AZ3:Tryz.prog.funcs[Ax7]? = some Tryz.f219:=Tryz.func219
abbrev Bl3:Nat:=220
theorem Cc5:Tryz.prog.funcs[Bl3]? = some Tryz.f220:=Tryz.func220
abbrev AQ5:Nat:=221
theorem BC2:Tryz.prog.funcs[AQ5]? = some Tryz.f221:=Tryz.func221
abbrev Bl4:Nat:=222
theorem Cc6:Tryz.prog.funcs[Bl4]? = some Tryz.f222:=Tryz.func222
abbrev AZ4:Nat:=223
theorem BN1:Tryz.prog.funcs[AZ4]? = some Tryz.f223:=Tryz.func223
abbrev Ax8:Nat:=224
theorem AZ5:Tryz.prog.funcs[Ax8]? = some Tryz.f224:=Tryz.func224
abbrev Ag5:Nat:=225
theorem Bf6:Tryz.prog.funcs[Ag5]? = some Tryz.f225:=Tryz.func225
abbrev Aa7:Nat:=226
theorem Av1:Tryz.prog.funcs[Aa7]? = some Tryz.f226:=Tryz.func226
abbrev N7:Nat:=227
theorem Al0:Tryz.prog.funcs[N7]? = some Tryz.f227:=Tryz.func227
abbrev Ah2:Nat:=244
theorem Ax9:Tryz.prog.funcs[Ah2]? = some Tryz.f244:=Tryz.func244
abbrev Al1:Nat:=245
theorem AZ6:Tryz.prog.funcs[Al1]? = some Tryz.f245:=Tryz.func245
abbrev Ao5:Nat:=246
theorem Bf7:Tryz.prog.funcs[Ao5]? = some Tryz.f246:=Tryz.func246
abbrev At3:Nat:=247
theorem Br3:Tryz.prog.funcs[At3]? = some Tryz.f247:=Tryz.func247
abbrev An3:Nat:=248
theorem AI5:Tryz.prog.funcs[An3]? = some Tryz.f248:=Tryz.func248
abbrev At4:Nat:=249
theorem Br4:Tryz.prog.funcs[At4]? = some Tryz.f249:=Tryz.func249
abbrev Ay0:Nat:=250
theorem AZ7:Tryz.prog.funcs[Ay0]? = some Tryz.f250:=Tryz.func250
abbrev Y2:Nat:=251
theorem Aj1:Tryz.prog.funcs[Y2]? = some Tryz.f251:=Tryz.func251
abbrev At5:Nat:=252
theorem Br5:Tryz.prog.funcs[At5]? = some Tryz.f252:=Tryz.func252
abbrev D4:Nat:=3
abbrev A9:Nat:=23
abbrev BC3:Nat:=31
abbrev AA5:Nat:=50
abbrev B2:Nat:=79
abbrev Ay1:Nat:=82
abbrev O6:Nat:=85
abbrev Cn3:Nat:=125
abbrev E1:Nat:=229
abbrev BN2:Nat:=242
end Go.AM
set_option linter.unusedVariables false
namespace Go.AM
abbrev U (x:BitVec 64):Int:=(x.toNat:Int)
theorem AI6 {n:Nat} (h:n < 2 ^ 64):IntKind.u64.wrap (n:Int)=n:=by
 have h1:((n:Int) % (2 ^ 64:Int))=n:=Int.emod_eq_of_lt (by omega) (by omega)
 unfold IntKind.wrap
 simp only [IntKind.bits,IntKind.signed,h1,Bool.false_and,Bool.false_eq_true,if_false]
theorem BN3 (x:BitVec 64):BitVec.ofInt 64 (U x)=x:=by
 apply BitVec.eq_of_toNat_eq
 rw [BitVec.toNat_ofInt]
 have:=x.isLt
 show ((x.toNat:Int) % ((2 ^ 64:Nat):Int)).toNat=x.toNat
 omega
theorem and64 (x y:BitVec 64):C6 .and .u64 (U x) (U y)=U (x &&& y):=by
 simp only [C6,IntKind.bits,BN3]
 exact AI6 (x &&& y).isLt
theorem CU6 (x y:BitVec 64):C6 .or .u64 (U x) (U y)=U (x ||| y):=by
 simp only [C6,IntKind.bits,BN3]
 exact AI6 (x ||| y).isLt
theorem Cx9 (x y:BitVec 64):C6 .andNot .u64 (U x) (U y)=U (x &&& ~~~ y):=by
 simp only [C6,IntKind.bits,BN3]
 exact AI6 (x &&& ~~~ y).isLt
theorem shr64 (x:BitVec 64) (n:Nat):shI .shr .u64 (U x) n=U (x >>> n):=by
 simp only [shI,IntKind.bits,Int.toNat_natCast]
 have hx:=x.isLt
 show Int.fdiv (x.toNat:Int) (2 ^ min n 64)=((x >>> n).toNat:Int)
 rw [BitVec.toNat_ushiftRight,Nat.shiftRight_eq_div_pow]
 have e:((2:Int) ^ (min n 64))=((2 ^ (min n 64):Nat):Int):=by norm_cast
 rw [e,Int.fdiv_eq_ediv_of_nonneg _ (Int.natCast_nonneg _), <- Int.natCast_ediv]
 congr 1
 by_cases h:n<=64
 ·rw [Nat.min_eq_left h]
 ·rw [Nat.min_eq_right (by omega),Nat.div_eq_of_lt hx,Nat.div_eq_of_lt]
  exact Nat.lt_of_lt_of_le hx (Nat.pow_le_pow_right (by omega) (by omega))
theorem CS6:(1:Int)=U 1#64:=rfl
theorem BC4 (n:Nat) (h:n < 64):shI .shl .u64 1 n=U (1#64 <<< n):=by
 simp only [shI,IntKind.bits,Int.toNat_natCast]
 rw [Nat.min_eq_left (by omega)]
 show IntKind.wrap .u64 (1 * 2 ^ n)=((1#64 <<< n).toNat:Int)
 rw [BitVec.toNat_shiftLeft,Nat.shiftLeft_eq]
 have h1:(2:Nat) ^ n < 2 ^ 64:=Nat.pow_lt_pow_right (by omega) h
 have e:((1:Int) * 2 ^ n)=((2 ^ n:Nat):Int):=by norm_cast;omega
 rw [e,AI6 h1]
 norm_cast
 rw [Nat.mod_eq_of_lt]
 ·simp
 ·simpa using h1
theorem BN4 {i:Nat}:(1#64).getLsbD i=decide (i=0):=by
 rw [BitVec.getLsbD_one];simp
theorem Ay2 {n i:Nat} (h:n < 64) (hi:i < 64):(1#64 <<< n).getLsbD i=decide (i=n):=by
 rw [BitVec.getLsbD_shiftLeft,BN4,Bool.eq_iff_iff]
 simp only [Bool.and_eq_true,Bool.not_eq_true',decide_eq_true_eq,decide_eq_false_iff_not]
 omega
theorem bit64 (x:BitVec 64) (i:Nat):(C6 .and .u64 (shI .shr .u64 (U x) (i:Int)) 1 == 1)=x.getLsbD i:=by
 rw [shr64,CS6,and64]
 have h:(x >>> i &&& 1#64)=(BitVec.ofBool (x.getLsbD i)).setWidth 64:=by
  apply BitVec.eq_of_getLsbD_eq
  intro j hj
  simp only [BitVec.getLsbD_and,BitVec.getLsbD_ushiftRight,BitVec.getLsbD_setWidth,BitVec.getLsbD_ofBool]
  by_cases h0:j=0
  ·subst h0;simp
  ·have:(1#64).getLsbD j=false:=by rw [BN4];simp [h0]
   simp [this,h0]
 rw [h]
 cases x.getLsbD i <;> rfl
theorem Cy0 {x y:BitVec 64} (h:∀ b,b < 64->(x.getLsbD b=true ↔ y.getLsbD b=true)):x=y:=
 BitVec.eq_of_getLsbD_eq fun b hb=>Bool.eq_iff_iff.2 (h b hb)
def AD3 (n:Nat) (R:Nat->Nat->Prop):Nat->Nat->Nat->Prop
 | 0=>fun a b=>a=b
 | k+1=>fun a b=>∃ c,c<=n/\AD3 n R k a c/\R c b
def CD3 (n:Nat) (Q:Nat->Nat->Nat->Prop):Nat->Nat->Nat->Prop
 | 0=>fun a b=>a=b
 | i+1=>fun a b=>∃ c,c<=n/\CD3 n Q i a c/\Q i c b
def Fwd (n:Nat) (R:Nat->Nat->Prop):Prop:=∀ a b,a<=n->R a b->a<=b/\b<=n
theorem AI7 {n:Nat} {R:Nat->Nat->Prop} (h:Fwd n R):∀ k,Fwd n (AD3 n R k)
 | 0,a,b,ha,hb=>by obtain rfl:a=b:=hb;exact ⟨Nat.le_refl _,ha⟩
 | k+1,a,b,ha,⟨c,hc,h1,h2⟩=>by
  have g1:=AI7 h k a c ha h1
  have g2:=h c b hc h2
  exact ⟨by omega,g2.2⟩
theorem BV1 {n:Nat} {Q:Nat->Nat->Nat->Prop}:∀ k,(∀ i,i < k->Fwd n (Q i))->Fwd n (CD3 n Q k)
 | 0,_,a,b,ha,hb=>by obtain rfl:a=b:=hb;exact ⟨Nat.le_refl _,ha⟩
 | k+1,h,a,b,ha,⟨c,hc,h1,h2⟩=>by
  have g1:=BV1 k (fun i hi=>h i (by omega)) a c ha h1
  have g2:=h k (by omega) c b hc h2
  exact ⟨by omega,g2.2⟩
theorem An4 {n:Nat} {R:Nat->Nat->Prop} (h:Fwd n R) (j:Nat) {a:Nat} (ha:a<=n):∀ k b,AD3 n R (j+k) a b ↔ ∃ c,c<=n/\AD3 n R j a c/\AD3 n R k c b
 | 0,b=>⟨fun hp=>⟨b,(AI7 h j a b ha hp).2,hp,rfl⟩,fun ⟨c,_,hp,e⟩=>by obtain rfl:c=b:=e;exact hp⟩
 | k+1,b=>by
  constructor
  ·rintro ⟨d,hd,h1,h2⟩
   obtain ⟨c,hc,g1,g2⟩:=(An4 h j ha k d).1 h1
   exact ⟨c,hc,g1,d,hd,g2,h2⟩
  ·rintro ⟨c,hc,g1,d,hd,g2,h2⟩
   exact ⟨d,hd,(An4 h j ha k d).2 ⟨c,hc,g1,g2⟩,h2⟩
theorem Bl5 {n:Nat} {R:Nat->Nat->Prop} (h:Fwd n R) {a:Nat} (ha:a<=n):∀ k b,AD3 n R (k+1) a b->AD3 n R k a b \/ a+(k+1)<=b
 | 0,b,⟨c,hc,h1,h2⟩=>by
  obtain rfl:a=c:=h1
  by_cases e:a=b
  ·exact .inl e
  ·have:=(h a b ha h2).1;exact .inr (by omega)
 | k+1,b,⟨c,hc,h1,h2⟩=>by
  by_cases e:c=b
  ·subst e;exact .inl h1
  ·have:=(h c b hc h2).1
   rcases Bl5 h ha k c h1 with g | g
   ·exact .inl ⟨c,hc,g,h2⟩
   ·exact .inr (by omega)
theorem BC5 {n:Nat} {R:Nat->Nat->Prop} (h:Fwd n R) {a:Nat} (ha:a<=n) {k b:Nat} (hk:n<=k) (hp:AD3 n R (k+1) a b):AD3 n R k a b:=by
 rcases Bl5 h ha k b hp with g | g
 ·exact g
 ·have:=(AI7 h (k+1) a b ha hp).2;omega
theorem BC6 {n:Nat} {R:Nat->Nat->Prop} (h:Fwd n R) {a:Nat} (ha:a<=n) {b:Nat}:∀ k,AD3 n R k a b->∃ j,j<=n/\AD3 n R j a b
 | 0,hp=>⟨0,Nat.zero_le _,hp⟩
 | k+1,hp=>by
  by_cases hk:n<=k
  ·exact BC6 h ha k (BC5 h ha hk hp)
  ·exact ⟨k+1,by omega,hp⟩
theorem AZ8 {n:Nat} {R:Nat->Nat->Prop} (h:Fwd n R) {a:Nat} (ha:a<=n):∀ k b,AD3 n (fun x y=>R x y \/ x=y) k a b ↔ ∃ j,j<=k/\AD3 n R j a b
 | 0,b=>⟨fun e=>⟨0,Nat.le_refl _,e⟩,fun ⟨j,hj,hp⟩=>by
  obtain rfl:j=0:=by omega
  exact hp⟩
 | k+1,b=>by
  constructor
  ·rintro ⟨c,hc,h1,h2⟩
   obtain ⟨j,hj,hp⟩:=(AZ8 h ha k c).1 h1
   rcases h2 with h2 | h2
   ·exact ⟨j+1,by omega,c,hc,hp,h2⟩
   ·subst h2;exact ⟨j,by omega,hp⟩
  ·rintro ⟨j,hj,hp⟩
   by_cases e:j<=k
   ·have hb:=(AI7 h j a b ha hp).2
    exact ⟨b,hb,(AZ8 h ha k b).2 ⟨j,e,hp⟩, .inr rfl⟩
   ·obtain rfl:j=k+1:=by omega
    obtain ⟨c,hc,h1,h2⟩:=hp
    exact ⟨c,hc,(AZ8 h ha k c).2 ⟨k,Nat.le_refl _,h1⟩, .inl h2⟩
def BN5 (s c:Sound):Bool:=(C6 .and .u32 s.Plus c.Plus == c.Plus) && (C6 .and .u32 s.Minus c.Minus == c.Minus)
def PR (w:Sl Sound):Pat->Nat->Nat->Prop
 | .nil=>fun a b=>a=b
 | .mk kind is no mn mx m g=>fun a b=>
  if kind=0 then a=b
  else if kind=1 then a < w.n/\b=a+1/\(BN5 (w.g a) is != no)=true
  else if kind=2 then a=0/\b=0
  else if kind=6 then a=w.n/\b=w.n
  else if kind=3 then CD3 w.n (fun i=>PR w (g i)) m a b
  else if kind=4 then ∃ i,i < m/\PR w (g i) a b
  else if kind=5 then ∃ k:Nat,mn<=k/\(mx = -1 \/ (k:Int)<=mx)/\AD3 w.n (PR w (g 0)) k a b
  else False
theorem BC7 (w:Sl Sound):∀ p:Pat,Fwd w.n (PR w p)
 | .nil,a,b,ha,h=>by obtain rfl:a=b:=h;exact ⟨Nat.le_refl _,ha⟩
 | .mk kind is no mn mx m g,a,b,ha,h=>by
  simp only [PR] at h
  split at h
  ·subst h;exact ⟨Nat.le_refl _,ha⟩
  split at h
  ·obtain ⟨h1,h2,_⟩:=h;omega
  split at h
  ·omega
  split at h
  ·omega
  split at h
  ·exact BV1 m (fun i _=>BC7 w (g i)) a b ha h
  split at h
  ·obtain ⟨i,_,hi⟩:=h;exact BC7 w (g i) a b ha hi
  split at h
  ·obtain ⟨k,_,_,hk⟩:=h;exact AI7 (BC7 w (g 0)) k a b ha hk
  ·exact h.elim
def TabR (n:Nat) (R:Nat->Nat->Prop) (f:Nat->Int):Prop:=∀ a,a<=n->∃ x:BitVec 64,f a=U x/\∀ b,b < 64->(x.getLsbD b=true ↔ b<=n/\R a b)
theorem TabR.congr {n:Nat} {R R' : Nat->Nat->Prop} {f:Nat->Int} (h:TabR n R f) (hr:∀ a b,a<=n->b<=n->(R a b ↔ R' a b)):TabR n R' f:=fun a ha=>by
 obtain ⟨x,e,hx⟩:=h a ha
 refine ⟨x,e,fun b hb=>(hx b hb).trans ⟨fun ⟨h1,h2⟩=>⟨h1,(hr a b ha h1).1 h2⟩,fun ⟨h1,h2⟩=>⟨h1,(hr a b ha h1).2 h2⟩⟩⟩
theorem TabR.uniq {n:Nat} {R:Nat->Nat->Prop} {f g:Nat->Int} (h:TabR n R f) (h' : TabR n R g) {a:Nat} (ha:a<=n):f a=g a:=by
 obtain ⟨x,e,hx⟩:=h a ha
 obtain ⟨y,e',hy⟩:=h' a ha
 rw [e,e',Cy0 fun b hb=>(hx b hb).trans (hy b hb).symm]
theorem TabR.bit {n:Nat} {R:Nat->Nat->Prop} {f:Nat->Int} (h:TabR n R f) {a b:Nat} (ha:a<=n) (hb:b < 64):(C6 .and .u64 (shI .shr .u64 (f a) (b:Int)) 1 == 1)=true ↔ b<=n/\R a b:=by
 obtain ⟨x,e,hx⟩:=h a ha
 rw [e,bit64];exact hx b hb
end Go.AM
set_option linter.unusedVariables false
namespace Go.AM
open Go.Proofs
abbrev Cy1:List AV:=[.reg 0 0, .reg 1 0, .reg 2 0, .reg 3 0]
abbrev BN6 (c:Int) (a:Sl Law) (b:Sl Sound) (y:PV):List Obj:=[.cells [pN c], .cells [.p (vSl 18 A8 a)], .cells [.p (vSl 2 A0 b)], .cells [.p y]]
structure BV2 (S:Ag9):Prop where
 attR:∀ {a:Sl Law} {b y:Sl Sound},FunO S H1 [.p (vSl 18 A8 a), .p (vSl 2 A0 b)] [] (.p (vSl 2 A0 y)) [] []->FunO S H7 Cy1 (BN6 0 a b P6) (.tup []) (BN6 0 a b (vSl 2 A0 y)) [true,true,true,true]
 attP:∀ {a:Sl Law} {b:Sl Sound} {c:Int},(S.F H1 [.p (vSl 18 A8 a), .p (vSl 2 A0 b)] [] fun res o k=>res=.panic (.iface 160 (pI .i64 c))/\o=[]/\k=[])->FunO S H7 Cy1 (BN6 0 a b P6) (.tup []) (BN6 c a b P6) [true,true,true,true]
 tz:∀ x:BitVec 64,Ct2 S N7 [.p (pI .u64 (U x))] (.p (pI .i64 (Lib.ctz 64 x.toNat:Nat)))
 trim:∀ s c:Str,s.length < 1000000000000->c.length < 1000000->(∀ b ∈ c,b.toNat < 128)->Ct2 S Ao4 [.p (.str s), .p (.str c)] (.p (.str (Lib.trimS s c)))
 growS:∀ (f:Nat->List PV) (n:Nat),n * 8<=140737488355328->FunO S G4 [.p P6, .p (pI .i64 (n:Int))] [] (.vec 0) [.vec B2 2 0 f false] []
 growL:∀ (f:Nat->List PV) (n:Nat),n * 200<=140737488355328->FunO S I0 [.p P6, .p (pI .i64 (n:Int))] [] (.vec 0) [.vec O6 18 0 f false] []
def F1 (N:Nat) (x:Int):Option Int:=if 0<=x/\x < 18446744073709551616 then some ((Lib.ctz 64 x.toNat:Nat):Int) else none
def Ao6 (N:Nat) (s c:Str):Option Str:=if s.length < 1000000000000/\c.length < 1000000/\(c.all fun b=>decide (b.toNat < 128))=true then some (Lib.trimS s c) else none
def G5 (N:Nat) (n:Int):Option (Sl Sound):=if 0<=n/\n * 8<=140737488355328 then some (Sl.nil:Sl Sound) else none
def I1 (N:Nat) (n:Int):Option (Sl Law):=if 0<=n/\n * 200<=140737488355328 then some (Sl.nil:Sl Law) else none
section
variable {S:Ag9} (hS:I2 S Tryz.prog) (hL:BV2 S)
include hS hL
theorem Al2 {N:Nat} {x y:Int} (h:F1 N x=some y):FunO S N7 [.p (pI .u64 x)] [] (.p (pI .i64 y)) [] []:=by
 obtain ⟨⟨h0,h1⟩,h⟩:=F3 h
 obtain rfl:=A3 h
 have:=hL.tz (BitVec.ofNat 64 x.toNat)
 have e:(BitVec.ofNat 64 x.toNat).toNat=x.toNat:=by rw [BitVec.toNat_ofNat];omega
 have e2:U (BitVec.ofNat 64 x.toNat)=x:=by show ((BitVec.ofNat 64 x.toNat).toNat:Int)=x;rw [e];omega
 rw [e,e2] at this
 exact this
theorem Bf8 {N:Nat} {s c:Str} {y:Str} (h:Ao6 N s c=some y):FunO S Ao4 [.p (.str s), .p (.str c)] [] (.p (.str y)) [] []:=by
 obtain ⟨⟨h0,h1,h2⟩,h⟩:=F3 h
 obtain rfl:=A3 h
 exact hL.trim s c h0 h1 fun b hb=>by simpa using List.all_eq_true.1 h2 b hb
theorem Z2 {N:Nat} {n:Int} {y:Sl Sound} (h:G5 N n=some y):FunO S G4 [.p P6, .p (pI .i64 n)] [] (.vec 0) [.vec B2 2 y.n (fun i=>A0 (y.g i)) false] []:=by
 obtain ⟨⟨h0,h1⟩,h⟩:=F3 h
 obtain rfl:=A3 h
 have:=hL.growS (fun i=>A0 default) n.toNat (by omega)
 rw [show ((n.toNat:Nat):Int)=n by omega] at this
 exact this
theorem Ae6 {N:Nat} {n:Int} {y:Sl Law} (h:I1 N n=some y):FunO S I0 [.p P6, .p (pI .i64 n)] [] (.vec 0) [.vec O6 18 y.n (fun i=>A8 (y.g i)) false] []:=by
 obtain ⟨⟨h0,h1⟩,h⟩:=F3 h
 obtain rfl:=A3 h
 have:=hL.growL (fun i=>A8 default) n.toNat (by omega)
 rw [show ((n.toNat:Nat):Int)=n by omega] at this
 exact this
def B9 (N:Nat) (s:Sl Sound):Option (Sl Sound):=if (0+s.n) * 8<=140737488355328/\0+s.n<=140737488355328 then some s else none
theorem K9 {N:Nat} {s y:Sl Sound} (h:B9 N s=some y):FunO S K6 [.p (vSl 2 A0 s)] [] (.vec 0) [.vec B2 2 y.n (fun i=>A0 (y.g i)) true] []:=by
 unfold B9 at h
 obtain ⟨c1,h⟩:=F3 h
 obtain rfl:=A3 h
 refine A6 hS X9 ?_
 refine K_nil hS trivial 3 (k:=2) (n:=s.n) (f:=fun i=>A0 (s.g i)) (fun h0=>?_) ?_
 ·obtain ⟨n,g⟩:=s
  obtain rfl:n=0:=h0
  exact B4 hS trivial ⟨[(2, .vec 3700)], [(3700, .vec B2 2 0 (fun i=>A0 (g i)) true)]⟩ [3700] (ids:=[]) ⟨rfl,rfl,rfl⟩
 ·exact B4 hS (And.intro (rfl:true=true) c1) ⟨[(2, .vec 8000)], [(8000, .vec B2 2 s.n (fun i=>A0 (s.g i)) true)]⟩ [8000] (ids:=[(8000,8000)]) ⟨rfl,rfl,rfl⟩
   (hle:=klR [(0, .fn (0+s.n) s.n (T4 0 (D9 [pI .u32 0,pI .u32 0] []) (fun i=>A0 (s.g i))) (fun i=>A0 (s.g i)))] (al1 ⟨Nat.zero_add _,fun i _=>by simp [T4]⟩ al0))
end
end Go.AM
set_option linter.unusedVariables false
set_option maxRecDepth 100000
namespace Go.AM
open Go.Proofs
theorem Cc7 (v:Value) (w:World):(Instr.typeAssert (.iface 160 v) 20 160 true).run Tryz.prog w=.ok (.tuple #[v, .bool true]) w:=by kernel_rfl
theorem BN7 (p:Value) (w:World):CallsDIn Fence.wide 0 Tryz.prog Q2 #[p] .returning w fun e u' w'=>e=.returned (.tuple #[])/\u' = .returning/\w' = w:=by
 refine callsDIn_of_wpSIn Ax5 rfl (by simp [Fence.wide]) fun c₀ cs hu=>?_
 apply wpSIn_seq
 apply wpSIn_region
 simp [wpOpsSIn,go_sem,recoverD,hu,Tryz.f86,Exit.thenS]
 refine wpSIn_of_wpIn rfl (wpIn_block (wpIn_seq (wpIn_region ?_)))
 simp [wpOpsIn,Oper.wpIn,Oper.semAt,Oper.uponIn,go_sem,Exit.then]
 refine wpIn_cond (t:=true) (by simp [Act.eval]) ?_
 simp only [if_true]
 refine wpIn_region ?_
 simp [wpOpsIn,Oper.wpIn,Oper.semAt,Oper.uponIn,go_sem,Exit.inBlock,bodyPostS,results]
 cases c₀
 simp_all
theorem AS0 (p:Value) (c:Int) (older:List PanicEntry) (w w1:World) (hst:(Instr.storeAt 27 p (.int .i64 c)).run Tryz.prog w=.ok () w1) (hn:∃ b,p=.pointer (some b)) :
 CallsDIn Fence.wide 0 Tryz.prog Q2 #[p] (.panicking ({ v:=.iface 160 (.int .i64 c),recovered:=false } :: older)) w fun e u' w'=>
  e=.returned (.tuple #[])/\u' = .panicking ({ v:=.iface 160 (.int .i64 c),recovered:=true } :: older)/\w' = w1:=by
 obtain ⟨b,rfl⟩:=hn
 refine callsDIn_of_wpSIn Ax5 rfl (by simp [Fence.wide]) fun c₀ cs hu=>?_
 apply wpSIn_seq
 apply wpSIn_region
 simp [wpOpsSIn,go_sem,recoverD,hu,Tryz.f86,Exit.thenS]
 refine wpSIn_of_wpIn rfl (wpIn_block (wpIn_seq (wpIn_region ?_)))
 simp [wpOpsIn,Oper.wpIn,Oper.semAt,Oper.uponIn,go_sem,Exit.then]
 refine wpIn_cond (t:=false) (by simp [Act.eval]) ?_
 simp only [Bool.false_eq_true,if_false]
 refine wpIn_seq (wpIn_region ?_)
 simp [wpOpsIn,Oper.wpIn,Oper.semAt,Oper.uponIn,go_sem,Exit.then,Cc7]
 refine wpIn_cond (t:=true) (by simp [Act.eval]) ?_
 simp only [if_true]
 refine wpIn_seq (wpIn_region ?_)
 simp [wpOpsIn,Oper.wpIn,Oper.semAt,Oper.uponIn,go_sem,Exit.then]
 refine wpIn_region ?_
 simp [wpOpsIn,Oper.wpIn,Oper.semAt,Oper.uponIn,go_sem,hst,Exit.inBlock,bodyPostS,results]
 simp [go_sem] at hst
 rw [hst]
 simp [Result.andThen]
noncomputable def CN4:Code:=match Tryz.f119.body with
 | some (.seq _ c)=>c
 | _=>.skip
theorem CK3 {S:Ag9} (hS:I2 S Tryz.prog) {a:Sl Law} {b y:Sl Sound} (hF:FunO S H1 [.p (vSl 18 A8 a), .p (vSl 2 A0 b)] [] (.p (vSl 2 A0 y)) [] []) :
 KG S Tryz.prog (Bj5 S (fun st=>I7 [0,1,2,3] st.regs [0,1,2,3]=some (BN6 0 a b (vSl 2 A0 y))) fun _ _=>False) (.code CN4 [] ⟨argEnv Cy1,objRegs (BN6 0 a b P6)⟩):=by
 refine A2 hS [] trivial hF ?_
 exact K_upN hS trivial ⟨[], [(3, .cells [.p (vSl 2 A0 y)]),(2, .cells [.p (vSl 2 A0 b)]),(1, .cells [.p (vSl 18 A8 a)]),(0, .cells [pN 0])]⟩ (ids:=[(0,0),(1,1),(2,2),(3,3)]) rfl
theorem Cn4 {S:Ag9} (hS:I2 S Tryz.prog) {a:Sl Law} {b:Sl Sound} {c:Int} (hF:S.F H1 [.p (vSl 18 A8 a), .p (vSl 2 A0 b)] [] fun res o k=>res=.panic (.iface 160 (pI .i64 c))/\o=[]/\k=[]) :
 KG S Tryz.prog (Bj5 S (fun _=>False) fun x st=>x=.iface 160 (pI .i64 c)/\store Tryz.prog st.regs 27 (.reg 0 0) (.p (pI .i64 c))=some ([],ins 0 (.cells [pN c]) st.regs)/\I7 [0,1,2,3] (ins 0 (.cells [pN c]) st.regs) [0,1,2,3]=some (BN6 c a b P6)) (.code CN4 [] ⟨argEnv Cy1,objRegs (BN6 0 a b P6)⟩):=by
 refine CJ5 hS [] trivial hF ?_
 exact K_upP hS trivial ⟨rfl,by kernel_rfl,by kernel_rfl⟩
noncomputable def att1:Code:=match Tryz.f119.body with
 | some (.seq c _)=>c
 | _=>.skip
noncomputable def attOps:Array Oper:=match CN4 with
 | .region _ ops _=>ops
 | _=>#[]
theorem BV3:CN4=.region 1 attOps false:=by kernel_rfl
theorem CS7:attOps.toList.all (AB6 7 attOps.toList)=true:=by kernel_rfl
theorem Cy2:¬ Tryz.f119.name = "runtime.NumGoroutine" := by decide +kernel
theorem BV4:Tryz.f119.body=some (.seq att1 CN4):=by kernel_rfl
theorem CK4 {C:Ctx} {vs:Array Value} {w:World} {rho:Nat->Value} {args:List AV} {objs:List Obj} {n:Nat} (hS:Sat C ⟨argEnv args,objRegs objs⟩ ⟨vs, []⟩ w rho) (hvs:vs.size=args.length) :
 Sat C ⟨argEnv args,objRegs objs⟩ { tmps:=vs ++ Array.replicate n undef,defers:=[] } w rho:=by
 refine ⟨hS.toSatE,fun t=>?_,hS.pin,hS.marks⟩
 have:=hS.env t
 by_cases ht:t < vs.size
 ·simpa [Array.getD_eq_getD_getElem?,Array.getElem?_append,ht] using this
 ·show RepA w _ _ _ _ (get (argEnv args) t)
  rw [Ab9,List.getD_eq_getElem?_getD,List.getElem?_eq_none (by omega)]
  exact .top _
theorem AZ9 {R:St->Prop} {X:PV->St->Prop} {a:Sl Law} {b:Sl Sound} {objs' : List Obj}
 (hreg:KG (AA0 Tryz.prog) Tryz.prog (Bj5 (AA0 Tryz.prog) R X) (.code CN4 [] ⟨argEnv Cy1,objRegs (BN6 0 a b P6)⟩))
 (hR:∀ st,R st->I7 [0,1,2,3] st.regs [0,1,2,3]=some objs')
 (hX:∀ x st,X x st->∃ c regs',x=.iface 160 (pI .i64 c)/\store Tryz.prog st.regs 27 (.reg 0 0) (.p (pI .i64 c))=some ([],regs')/\I7 [0,1,2,3] regs' [0,1,2,3]=some objs') :
 FunO (AA0 Tryz.prog) H7 Cy1 (BN6 0 a b P6) (.tup []) objs' [true,true,true,true]:=by
 intro 𝒢 C w vs rho hG hS hvs
 obtain ⟨l⟩:=vs
 match l,hvs with
 | [v0,v1,v2,v3],hvs=>?_
 refine ⟨.enter H7 #[v0,v1,v2,v3],w,by simp [callFunc,An1,BV4,Cy2], ?_⟩
 refine callsIn_of_wp_marks An1 BV4 trivial ?_
 have hS':=CK4 (n:=Tryz.f119.ntmps - 4) hS hvs
 have hn7:Tryz.f119.ntmps - 4=3:=rfl
 rw [hn7] at hS'
 have hsz:((#[v0,v1,v2,v3]:Array Value) ++ Array.replicate 3 undef).size=7:=rfl
 have hw:AN6 (AA0 Tryz.prog) Tryz.prog attOps.toList attOps.toList (Bj5 (AA0 Tryz.prog) R X) ⟨argEnv Cy1,objRegs (BN6 0 a b P6)⟩:=by
  have:=hreg.out
  rw [BV3] at this
  simpa only [G,awp,kp,Bool.false_eq_true,if_false] using this
 have hops:=AV2 (𝒢:=𝒢.fix C.rho0) (n:=7) (ro:=none) (ops:=attOps) CS7 attOps.toList 0 rfl (by simp) ⟨hG,rfl⟩ hS' hsz hw
 have hfr:=AH3 [{ target:=.fn (.func Q2) #[],args:=#[v0] }] _ _ _ hops
 rw [List.drop_zero] at hfr
 obtain ⟨b0,hv0,hrho0⟩:∃ b0,v0=.pointer (some ⟨b0,0,none⟩)/\rho 0=.pointer (some ⟨b0,0,none⟩):=by
  have h0:RepA w _ _ rho v0 (.reg 0 0):=hS.env 0
  cases h0 with
  | reg _ _ b0 _ h=>exact ⟨b0,rfl,h⟩
 have hend:∀ {C' : Ctx} {st' : St} {a' : Act} {w' : World} {rho' : Nat->Value},(𝒢.fix C.rho0).G C' -> Sat C' st' a' w' rho' -> I7 [0,1,2,3] st'.regs [0,1,2,3]=some objs' ->
  LeavesInM Fence.wide 0 Tryz.prog Tryz.f119 a'.tmps (fun e w'=>∃ C' r objs0 ks rho', 𝒢.G C' /\ (r=.ret (.tup [])/\objs0=objs' /\ ks=[true,true,true,true])/\SatE C' (objRegs objs0) w' rho' /\
   CG7 w' (Prv C'.X (A5 (objRegs objs0)) rho') (Lv (A5 (objRegs objs0))) rho' e r/\∀ i:Nat,ks[i]? = some true->i < objs0.length/\rho' i=rho i) [] .returning w':=by
  intro C' st' a' w' rho' hG' hs' hob
  obtain ⟨g1,g2,g3⟩:=AV3 hs' (by decide) hob
  obtain ⟨hl,hg⟩:=W1 hob
  refine ⟨.tuple #[],by simp [results,Tryz.f119],C', .ret (.tup []),objs',_,_,hG'.1,⟨rfl,rfl,rfl⟩,g1,⟨_,rfl, .tup _ _ rfl fun i hi=>absurd hi (by simp)⟩, ?_⟩
  intro i hi
  have hi4:i < 4:=by
   have:=(List.getElem?_eq_some_iff.1 hi).1
   simpa using this
  refine ⟨by rw [hl];exact hi4, ?_⟩
  have e1:[0,1,2,3][i]? = some i:=by
   match i,hi4 with
   | 0,_=>rfl
   | 1,_=>rfl
   | 2,_=>rfl
   | 3,_=>rfl
  obtain ⟨o,_,ho,_⟩:=hg i i e1
  show rho' ([0,1,2,3].getD i 0)=rho i
  rw [Ai7 e1,hs'.pin i (by omega) (by simp [Lv,ho]),hG'.2]
  refine (hS.pin i (by omega) ?_).symm
  rw [Lv,D0]
  match i,hi4 with
  | 0,_=>rfl
  | 1,_=>rfl
  | 2,_=>rfl
  | 3,_=>rfl
 generalize hQ:bodyPostM _ _ _ _ _=QQ
 refine wpIn_seq ?_
 simp only [att1,Tryz.f119]
 refine wpIn_region ?_
 simp [wpOpsIn,Oper.wpIn,Oper.semAt,Oper.uponIn,go_sem,Exit.then]
 subst hQ
 rw [BV3]
 refine wpIn_mono (wpIn_region (F:=FW none) hfr) ?_
 rintro e a' w' ⟨a0,rfl,hq⟩
 cases e with
 | exit id=>obtain ⟨_,_,_,_,_,_,h⟩:=hq;exact h.elim
 | goto l=>obtain ⟨_,_,_,_,_,_,h⟩:=hq;exact h.elim
 | ret=>obtain ⟨_,_,_,_,_,_,h⟩:=hq;exact h.elim
 | outgrown=>exact hq.elim
 | normal=>
  obtain ⟨C',st',rho',hG',hs',hsz',hu⟩:=hq
  obtain ⟨st2,rho2,hR2,_,hs2⟩:=hu C' a0 w' rho' hs'
  refine As7 (C:=C') (st:=st2) (rho:=rho2) (by simp) ?_ a0.defers a0 w' rfl rfl hs2
  intro a3 w3 hs3 ht
  refine ⟨by simp, .inr ⟨by simp [Fence.wide],_,_,Q2, #[v0],rfl,by simp [go_sem],fun _ _=>trivial, ?_⟩⟩
  refine (BN7 v0 w3).mono ?_
  rintro e u' w4 ⟨rfl,rfl,rfl⟩
  have:=hend hG' hs3 (hR st2 hR2)
  rw [ht] at this
  exact this
 | panic chain=>
  obtain ⟨C',st',rho',v,x,rfl,hG',hs',hsz',hv,hXx⟩:=hq
  obtain ⟨c,regs',rfl,hst,hob⟩:=hX x st' hXx
  obtain rfl:v=.iface 160 (.int .i64 c):=by
   cases hv with
   | iface _ _ _ h=>cases h;rfl
  refine As7 (C:=C') (st:=st') (rho:=rho') (by simp) ?_ a0.defers a0 w' rfl rfl hs'
  intro a3 w3 hs3 ht
  have hlive:Lv (A5 st'.regs) 0:=by
   cases hj:A5 st'.regs 0 with
   | some o=>simp [Lv,hj]
   | none=>
    unfold store at hst
    split at hst
    ·simp [hj] at hst
    ·cases hst
  have hr0:rho' 0=.pointer (some ⟨b0,0,none⟩):=by
   rw [hs3.pin 0 (by omega) hlive,hG'.2, <- hrho0]
   exact (hS.pin 0 (by omega) rfl).symm
  have hva:RS C' st' w3 rho' v0 (.reg 0 0):=by
   rw [hv0];exact .reg 0 0 b0 hlive hr0
  obtain ⟨w4,hrun,hs4,_⟩:=AU2 hs3 (vx:=.int .i64 c) hva (.p _ _ (.v _)) hst trivial
  refine ⟨by simp, .inr ⟨by simp [Fence.wide],_,_,Q2, #[v0],rfl,by simp [go_sem],fun _ _=>trivial, ?_⟩⟩
  refine (AS0 v0 c [] w3 w4 hrun ⟨_,hv0⟩).mono ?_
  rintro e u' w5 ⟨rfl,rfl,rfl⟩
  have:=hend hG' hs4 hob
  rw [ht] at this
  exact this
theorem BN8 {a:Sl Law} {b y:Sl Sound} (hF:FunO (AA0 Tryz.prog) H1 [.p (vSl 18 A8 a), .p (vSl 2 A0 b)] [] (.p (vSl 2 A0 y)) [] []) :
 FunO (AA0 Tryz.prog) H7 Cy1 (BN6 0 a b P6) (.tup []) (BN6 0 a b (vSl 2 A0 y)) [true,true,true,true]:=
 AZ9 (CK3 (CP5 Tryz.prog) hF) (fun st h=>h) (fun x st h=>h.elim)
theorem Br6 {a:Sl Law} {b:Sl Sound} {c:Int} (hF:(AA0 Tryz.prog).F H1 [.p (vSl 18 A8 a), .p (vSl 2 A0 b)] [] fun res o k=>res=.panic (.iface 160 (pI .i64 c))/\o=[]/\k=[]) :
 FunO (AA0 Tryz.prog) H7 Cy1 (BN6 0 a b P6) (.tup []) (BN6 c a b P6) [true,true,true,true]:=
 AZ9 (Cn4 (CP5 Tryz.prog) hF) (fun st h=>h.elim) (fun x st h=>⟨c,_,h.1,h.2.1,h.2.2⟩)
end Go.AM
set_option linter.unusedVariables false
set_option linter.unusedSectionVars false
namespace Go.AM
open Go.Proofs
set_option maxRecDepth 10000
set_option maxHeartbeats 2000000
variable {S:Ag9} (hS:I2 S Tryz.prog) (hL:BV2 S)
include hS hL
def F5 (N:Nat) (p_s:Sound):Option Bool:=
 some (((C6 .and .u32 p_s.Plus p_s.Minus) == 0) && (decide ((C6 .or .u32 p_s.Plus p_s.Minus)<=16777215)))
theorem O7 {N:Nat} {p_s:Sound}   {y:Bool} (h:F5 N p_s=some y) :
 FunO S AH8 [(.p (.agg (A0 p_s)))] [] (pB y) ([]) []:=by
 unfold F5 at h
 refine A6 hS Bq6 ?_
 obtain ⟨t1,ht1⟩:∃ x:Bool,x=(((C6 .and .u32 p_s.Plus p_s.Minus) == 0) && (decide ((C6 .or .u32 p_s.Plus p_s.Minus)<=16777215))):=⟨_,rfl⟩
 refine S9 hS trivial (B0 hS) 0 ⟨[(2,(pB t1))], []⟩ (fun M1 hb1=>?_) ?_
 ·refine A7 hS trivial (b:=(C6 .and .u32 p_s.Plus p_s.Minus) == 0) (fun c2=>?_) (fun c2=>?_)
  ·exact hb1 _ [] _ trivial (by kernel_rfl) (by kernel_rfl) (klR [(0, .eq (.bb (decide ((C6 .or .u32 p_s.Plus p_s.Minus)<=16777215))) (.bb t1))] (al1 (by simp only [ht1,c2,Leaf.ok,pm,if_true,if_false]) al0))
  ·exact hb1 _ [] _ trivial (by kernel_rfl) (by kernel_rfl) (klR [(0, .eq (.bb false) (.bb t1))] (al1 (by simp only [ht1,c2,Leaf.ok,pm,if_true,if_false]) al0))
 ·subst ht1
  obtain rfl:=A3 h
  exact B1 hS trivial [] ⟨rfl,rfl,rfl⟩
def I4 (N:Nat) (p_s:Sound) (p_cond:Sound):Option Bool:=
 (F5 N p_s).bind fun y1=>
 lt (fun (z1:Bool)=>
  some z1
  ) fun k1=>
  if y1=true then
   (F5 N p_cond).bind fun y3=>
   if y3=true then
    if ((C6 .andNot .u32 p_cond.Plus p_s.Plus) == 0)=true then
     k1 ((C6 .andNot .u32 p_cond.Minus p_s.Minus) == 0)
    else
     k1 false
   else
    k1 false
  else
   k1 false
theorem AL8 {N:Nat} {p_s:Sound} {p_cond:Sound}   {y:Bool} (h:I4 N p_s p_cond=some y) :
 FunO S Aq6 [(.p (.agg (A0 p_s))),(.p (.agg (A0 p_cond)))] [] (pB y) ([]) []:=by
 unfold I4 at h
 refine A6 hS AL7 ?_
 obtain ⟨y1,e1,h⟩:=A4 h
 refine A2 hS [] trivial (O7 hS hL e1) ?_
 refine AH1 hS trivial (B0 hS) h 0 (fun z1=>⟨[(4,(pB z1))], []⟩) (fun M1 k1 hb1 h=>?_) (fun z1 h=>?_)
 ·refine A7 hS trivial (b:=y1) (fun c5=>?_) (fun c5=>?_)
  ·replace h:=itT c5 h
   obtain ⟨y3,e3,h⟩:=A4 h
   refine A2 hS [] trivial (O7 hS hL e3) ?_
   refine A7 hS trivial (b:=y3) (fun c6=>?_) (fun c6=>?_)
   ·replace h:=itT c6 h
    refine A7 hS trivial (b:=(C6 .andNot .u32 p_cond.Plus p_s.Plus) == 0) (fun c7=>?_) (fun c7=>?_)
    ·replace h:=itT c7 h
     exact hb1 _ [] _ ((C6 .andNot .u32 p_cond.Minus p_s.Minus) == 0) trivial h
    ·replace h:=itF c7 h
     exact hb1 _ [] _ false trivial h
   ·replace h:=itF c6 h
    exact hb1 _ [] _ false trivial h
  ·replace h:=itF c5 h
   exact hb1 _ [] _ false trivial h
 ·obtain rfl:=A3 h
  exact B1 hS trivial [] ⟨rfl,rfl,rfl⟩
def Al3 (N:Nat) (p_s:Sound):Option Int:=
 some (C6 .or .u32 p_s.Plus p_s.Minus)
theorem Ba0 {N:Nat} {p_s:Sound}   {y:Int} (h:Al3 N p_s=some y) :
 FunO S AZ1 [(.p (.agg (A0 p_s)))] [] (pU y) ([]) []:=by
 unfold Al3 at h
 refine A6 hS BM8 ?_
 obtain rfl:=A3 h
 exact B1 hS trivial [] ⟨rfl,rfl,rfl⟩
def Af4 (N:Nat) (p_s:Sound) (p_from:Sound) (p_set:Int):Option Sound:=
 some (⟨C6 .or .u32 (C6 .andNot .u32 p_s.Plus p_set) (C6 .and .u32 p_from.Plus p_set),C6 .or .u32 (C6 .andNot .u32 p_s.Minus p_set) (C6 .and .u32 p_from.Minus p_set)⟩:Sound)
theorem Ba1 {N:Nat} {p_s:Sound} {p_from:Sound} {p_set:Int}   {y:Sound} (h:Af4 N p_s p_from p_set=some y) :
 FunO S AZ2 [(.p (.agg (A0 p_s))),(.p (.agg (A0 p_from))),(pU p_set)] [] (.p (.agg (A0 y))) ([]) []:=by
 unfold Af4 at h
 refine A6 hS BM9 ?_
 obtain rfl:=A3 h
 exact B1 hS trivial [] ⟨rfl,rfl,rfl⟩
def N1 (N:Nat) (p_s:Sound) (p_clear:Int) (p_set:Sound):Option (Sound × Int):=
 (F5 N p_s).bind fun y1=>
 lt (fun (z1:Bool)=>
  if z1=true then
   some ((⟨0,0⟩:Sound),14)
  else
   lt (fun (z2:Bool)=>
    if z2=true then
     some ((⟨0,0⟩:Sound),2)
    else
     (Al3 N p_set).bind fun y6=>
     (Af4 N p_s p_set (C6 .or .u32 p_clear y6)).bind fun y7=>
     some (y7,0)
    ) fun k2=>
    if (decide (16777215 < p_clear))=true then
     k2 true
    else
     (Al3 N p_set).bind fun y5=>
     k2 ((C6 .and .u32 p_clear y5) != 0)
  ) fun k1=>
  if (!y1)=true then
   k1 true
  else
   (F5 N p_set).bind fun y3=>
   k1 (!y3)
theorem Bf9 {N:Nat} {p_s:Sound} {p_clear:Int} {p_set:Sound}   {y:(Sound × Int)} (h:N1 N p_s p_clear p_set=some y) :
 FunO S AD1 [(.p (.agg (A0 p_s))),(pU p_clear),(.p (.agg (A0 p_set)))] [] (.tup [(.p (.agg (A0 y.1))),(pN y.2)]) ([]) []:=by
 unfold N1 at h
 refine A6 hS Bf3 ?_
 refine R7 hS trivial 5 4000 [(pI .u32 p_s.Plus),(pI .u32 p_s.Minus)] ?_
 refine R7 hS trivial 6 6000 [(pI .u32 p_set.Plus),(pI .u32 p_set.Minus)] ?_
 obtain ⟨y1,e1,h⟩:=A4 h
 refine A2 hS [] (by decide:(2:Nat)<=2) (O7 hS hL e1) ?_
 refine AH1 hS trivial (B0 hS) h 0 (fun z1=>⟨[(15,(pB z1)),(6,(.reg 7000 0)),(5,(.p (.ptr [(pI .u32 p_set.Plus),(pI .u32 p_set.Minus)]))),(3,(.p (.ptr [(pI .u32 p_s.Plus),(pI .u32 p_s.Minus)]))),(1,(pU p_clear))], [(7000,(.cells [(pU 0),(pU 0)]))]⟩) (fun M1 k1 hb1 h=>?_) (fun z1 h=>?_)
 ·refine A7 hS trivial (b:=!y1) (fun c3=>?_) (fun c3=>?_)
  ·replace h:=itT c3 h
   exact hb1 _ [(7000,7000)] _ true trivial h
  ·replace h:=itF c3 h
   obtain ⟨y3,e3,h⟩:=A4 h
   refine A2 hS [] (by decide:(2:Nat)<=2) (O7 hS hL e3) ?_
   exact hb1 _ [(7000,7000)] _ (!y3) trivial h
 ·refine A1 hS trivial (b:=z1) (fun c4=>?_) (fun c4=>?_)
  ·replace h:=itT c4 h
   obtain rfl:=A3 h
   exact B1 hS trivial [] ⟨rfl,rfl,rfl⟩
  ·replace h:=itF c4 h
   refine AH1 hS trivial (B0 hS) h 0 (fun z2=>⟨[(25,(pB z2)),(6,(.reg 7000 0)),(5,(.p (.ptr [(pI .u32 p_set.Plus),(pI .u32 p_set.Minus)]))),(3,(.p (.ptr [(pI .u32 p_s.Plus),(pI .u32 p_s.Minus)]))),(1,(pU p_clear))], [(7000,(.cells [(pU 0),(pU 0)]))]⟩) (fun M2 k2 hb2 h=>?_) (fun z2 h=>?_)
   ·refine A7 hS trivial (b:=decide (16777215 < p_clear)) (fun c7=>?_) (fun c7=>?_)
    ·replace h:=itT c7 h
     exact hb2 _ [(7000,7000)] _ true trivial h
    ·replace h:=itF c7 h
     obtain ⟨y5,e5,h⟩:=A4 h
     refine A2 hS [] (by decide:(2:Nat)<=2) (Ba0 hS hL e5) ?_
     exact hb2 _ [(7000,7000)] _ ((C6 .and .u32 p_clear y5) != 0) trivial h
   ·refine A1 hS trivial (b:=z2) (fun c8=>?_) (fun c8=>?_)
    ·replace h:=itT c8 h
     obtain rfl:=A3 h
     exact B1 hS trivial [] ⟨rfl,rfl,rfl⟩
    ·replace h:=itF c8 h
     refine F0 hS trivial [0,1,3,4,6] ?_
     obtain ⟨y6,e6,h⟩:=A4 h
     refine U2 (And.intro (And.intro (by decide:(2:Nat)<=2) (by decide:(2:Nat)<=2)) (by decide:(2:Nat)<=2)) (Ba0 hS hL e6) ?_
     obtain ⟨y7,e7,h⟩:=A4 h
     refine U2 trivial (Ba1 hS hL e7) ?_
     refine M0 trivial ?_
     obtain rfl:=A3 h
     exact B1 hS trivial [] ⟨rfl,rfl,rfl⟩
def Q7 (N:Nat) (p_s:Sound) (p_from:Sound) (p_mask:Int):Option (Sound × Int):=
 (F5 N p_s).bind fun y1=>
 lt (fun (z1:Bool)=>
  if z1=true then
   some ((⟨0,0⟩:Sound),14)
  else
   if (decide (16777215 < p_mask))=true then
    some ((⟨0,0⟩:Sound),2)
   else
    (Af4 N p_s p_from p_mask).bind fun y4=>
    some (y4,0)
  ) fun k1=>
  if (!y1)=true then
   k1 true
  else
   (F5 N p_from).bind fun y3=>
   k1 (!y3)
theorem BC8 {N:Nat} {p_s:Sound} {p_from:Sound} {p_mask:Int}   {y:(Sound × Int)} (h:Q7 N p_s p_from p_mask=some y) :
 FunO S AQ2 [(.p (.agg (A0 p_s))),(.p (.agg (A0 p_from))),(pU p_mask)] [] (.tup [(.p (.agg (A0 y.1))),(pN y.2)]) ([]) []:=by
 unfold Q7 at h
 refine A6 hS BB7 ?_
 obtain ⟨y1,e1,h⟩:=A4 h
 refine A2 hS [] trivial (O7 hS hL e1) ?_
 refine AH1 hS trivial (B0 hS) h 0 (fun z1=>⟨[(15,(pB z1)),(6,(.reg 7000 0)),(4,(.reg 5000 0)),(3,(.reg 4000 0)),(2,(pU p_mask))], [(7000,(.cells [(pU 0),(pU 0)])),(5000,(.cells [(pU p_from.Plus),(pU p_from.Minus)])),(4000,(.cells [(pU p_s.Plus),(pU p_s.Minus)]))]⟩) (fun M1 k1 hb1 h=>?_) (fun z1 h=>?_)
 ·refine A7 hS trivial (b:=!y1) (fun c3=>?_) (fun c3=>?_)
  ·replace h:=itT c3 h
   exact hb1 _ [(4000,4000),(5000,5000),(7000,7000)] _ true trivial h
  ·replace h:=itF c3 h
   obtain ⟨y3,e3,h⟩:=A4 h
   refine A2 hS [] trivial (O7 hS hL e3) ?_
   exact hb1 _ [(4000,4000),(5000,5000),(7000,7000)] _ (!y3) trivial h
 ·refine A1 hS trivial (b:=z1) (fun c4=>?_) (fun c4=>?_)
  ·replace h:=itT c4 h
   obtain rfl:=A3 h
   exact B1 hS trivial [] ⟨rfl,rfl,rfl⟩
  ·replace h:=itF c4 h
   refine A1 hS trivial (b:=decide (16777215 < p_mask)) (fun c5=>?_) (fun c5=>?_)
   ·replace h:=itT c5 h
    obtain rfl:=A3 h
    exact B1 hS trivial [] ⟨rfl,rfl,rfl⟩
   ·replace h:=itF c5 h
    obtain ⟨y4,e4,h⟩:=A4 h
    refine A2 hS [] trivial (Ba1 hS hL e4) ?_
    obtain rfl:=A3 h
    exact B1 hS trivial [] ⟨rfl,rfl,rfl⟩
def H2 (N:Nat) (p_s:Sound):Option Bool:=
 Ae3 N (fun self1 (x1:Int)=>
  if (decide (x1 < 32))=true then
   if ((0:Int)<=x1/\(0:Int)<=x1) then
    if ((((C6 .and .u32 (shI .shr .u32 p_s.Plus x1) 1) == 1) && ((C6 .and .u32 (shI .shr .u32 p_s.Minus x1) 1) == 1)) || ((((C6 .and .u32 (shI .shr .u32 p_s.Plus x1) 1) == 1) || ((C6 .and .u32 (shI .shr .u32 p_s.Minus x1) 1) == 1)) && (decide (24<=x1))))=true then
     some false
    else
     self1 (IntKind.wrap .i64 (x1+1))
   else none
  else
   some true
  ) 0
theorem Q9 {N:Nat} {p_s:Sound}   {y:Bool} (h:H2 N p_s=some y) :
 FunO S AY2 [(.p (.agg (A0 p_s)))] [] (pB y) ([]) []:=by
 unfold H2 at h
 refine A6 hS BL9 ?_
 refine U1 hS trivial h (fun x1=>⟨[(3,(pN x1)),(1,(.reg 2000 0))], [(2000,(.cells [(pU p_s.Plus),(pU p_s.Minus)]))]⟩) (ids:=[(2000,2000)]) (fun _ _ _ _ _ self1 x1 hb3 h=>?_)
 refine A1 hS trivial (b:=decide (x1 < 32)) (fun c26=>?_) (fun c26=>?_)
 ·replace h:=itT c26 h
  obtain ⟨c27,h⟩:=F3 h
  obtain ⟨t3,ht3⟩:∃ x:Bool,x=((((C6 .and .u32 (shI .shr .u32 p_s.Plus x1) 1) == 1) && ((C6 .and .u32 (shI .shr .u32 p_s.Minus x1) 1) == 1)) || ((((C6 .and .u32 (shI .shr .u32 p_s.Plus x1) 1) == 1) || ((C6 .and .u32 (shI .shr .u32 p_s.Minus x1) 1) == 1)) && (decide (24<=x1)))):=⟨_,rfl⟩
  refine S9 hS c27 (B0 hS) 0 ⟨[(35,(pB t3)),(3,(pN x1)),(1,(.reg 2000 0))], [(2000,(.cells [(pU p_s.Plus),(pU p_s.Minus)]))]⟩ (fun M3 hb4=>?_) ?_
  ·refine A7 hS trivial (b:=(C6 .and .u32 (shI .shr .u32 p_s.Plus x1) 1) == 1) (fun c33=>?_) (fun c33=>?_)
   ·refine A7 hS trivial (b:=(C6 .and .u32 (shI .shr .u32 p_s.Minus x1) 1) == 1) (fun c34=>?_) (fun c34=>?_)
    ·exact hb4 _ [(2000,2000)] _ trivial (by kernel_rfl) (by kernel_rfl) (klR [(0, .eq (.bb true) (.bb t3))] (al1 (by simp only [ht3,c33,c34,Leaf.ok,pm,if_true,if_false]) al0))
    ·refine A7 hS trivial (b:=(C6 .and .u32 (shI .shr .u32 p_s.Plus x1) 1) == 1) (fun c35=>?_) (fun c35=>?_)
     ·exact hb4 _ [(2000,2000)] _ trivial (by kernel_rfl) (by kernel_rfl) (klR [(0, .eq (.bb (decide (24<=x1))) (.bb t3))] (al1 (by simp only [ht3,c33,c34,Leaf.ok,pm,if_true,if_false]) al0))
     ·exact Bool.noConfusion (c33.symm.trans c35)
   ·refine A7 hS trivial (b:=(C6 .and .u32 (shI .shr .u32 p_s.Plus x1) 1) == 1) (fun c36=>?_) (fun c36=>?_)
    ·exact Bool.noConfusion (c33.symm.trans c36)
    ·refine A7 hS trivial (b:=(C6 .and .u32 (shI .shr .u32 p_s.Minus x1) 1) == 1) (fun c37=>?_) (fun c37=>?_)
     ·exact hb4 _ [(2000,2000)] _ trivial (by kernel_rfl) (by kernel_rfl) (klR [(0, .eq (.bb (decide (24<=x1))) (.bb t3))] (al1 (by simp only [ht3,c33,c37,Leaf.ok,pm,if_true,if_false]) al0))
     ·exact hb4 _ [(2000,2000)] _ trivial (by kernel_rfl) (by kernel_rfl) (klR [(0, .eq (.bb false) (.bb t3))] (al1 (by simp only [ht3,c33,c37,Leaf.ok,pm,if_true,if_false]) al0))
  ·subst ht3
   refine A1 hS trivial (b:=((((C6 .and .u32 (shI .shr .u32 p_s.Plus x1) 1) == 1) && ((C6 .and .u32 (shI .shr .u32 p_s.Minus x1) 1) == 1)) || ((((C6 .and .u32 (shI .shr .u32 p_s.Plus x1) 1) == 1) || ((C6 .and .u32 (shI .shr .u32 p_s.Minus x1) 1) == 1)) && (decide (24<=x1))))) (fun c38=>?_) (fun c38=>?_)
   ·replace h:=itT c38 h
    obtain rfl:=A3 h
    exact B1 hS trivial [] ⟨rfl,rfl,rfl⟩
   ·replace h:=itF c38 h
    exact hb3 _ [(2000,2000)] _ (IntKind.wrap .i64 (x1+1)) trivial h
 ·replace h:=itF c26 h
  obtain rfl:=A3 h
  exact B1 hS trivial [] ⟨rfl,rfl,rfl⟩
def Aj3 (N:Nat) (p_f:Int):Option Bool:=
 some ((decide (0<=p_f)) && (decide (p_f < 24)))
theorem Br7 {N:Nat} {p_f:Int}   {y:Bool} (h:Aj3 N p_f=some y) :
 FunO S AI4 [(pN p_f)] [] (pB y) ([]) []:=by
 unfold Aj3 at h
 refine A6 hS Br2 ?_
 obtain ⟨t1,ht1⟩:∃ x:Bool,x=((decide (0<=p_f)) && (decide (p_f < 24))):=⟨_,rfl⟩
 refine S9 hS trivial (B0 hS) 0 ⟨[(2,(pB t1))], []⟩ (fun M1 hb1=>?_) ?_
 ·refine A7 hS trivial (b:=decide (0<=p_f)) (fun c2=>?_) (fun c2=>?_)
  ·exact hb1 _ [] _ trivial (by kernel_rfl) (by kernel_rfl) (klR [(0, .eq (.bb (decide (p_f < 24))) (.bb t1))] (al1 (by simp only [ht1,c2,Leaf.ok,pm,if_true,if_false]) al0))
  ·exact hb1 _ [] _ trivial (by kernel_rfl) (by kernel_rfl) (klR [(0, .eq (.bb false) (.bb t1))] (al1 (by simp only [ht1,c2,Leaf.ok,pm,if_true,if_false]) al0))
 ·subst ht1
  obtain rfl:=A3 h
  exact B1 hS trivial [] ⟨rfl,rfl,rfl⟩
def U3 (N:Nat) (p_s:Sound) (p_f:Int):Option Int:=
 (H2 N p_s).bind fun y1=>
 lt (fun (z1:Bool)=>
  if z1=true then
   some 0
  else
   if (0:Int)<=p_f then
    if ((C6 .and .u32 (shI .shr .u32 p_s.Plus p_f) 1) == 1)=true then
     some 1
    else
     if (0:Int)<=p_f then
      if ((C6 .and .u32 (shI .shr .u32 p_s.Minus p_f) 1) == 1)=true then
       some (-1)
      else
       some 0
     else none
   else none
  ) fun k1=>
  if (!y1)=true then
   k1 true
  else
   (Aj3 N p_f).bind fun y3=>
   k1 (!y3)
theorem Al4 {N:Nat} {p_s:Sound} {p_f:Int}   {y:Int} (h:U3 N p_s p_f=some y) :
 FunO S BC0 [(.p (.agg (A0 p_s))),(pN p_f)] [] (pN y) ([]) []:=by
 unfold U3 at h
 refine A6 hS Cn1 ?_
 obtain ⟨y1,e1,h⟩:=A4 h
 refine A2 hS [] trivial (Q9 hS hL e1) ?_
 refine AH1 hS trivial (B0 hS) h 0 (fun z1=>⟨[(12,(pB z1)),(2,(.reg 3000 0)),(1,(pN p_f))], [(3000,(.cells [(pU p_s.Plus),(pU p_s.Minus)]))]⟩) (fun M1 k1 hb1 h=>?_) (fun z1 h=>?_)
 ·refine A7 hS trivial (b:=!y1) (fun c3=>?_) (fun c3=>?_)
  ·replace h:=itT c3 h
   exact hb1 _ [(3000,3000)] _ true trivial h
  ·replace h:=itF c3 h
   obtain ⟨y3,e3,h⟩:=A4 h
   refine A2 hS [] trivial (Br7 hS hL e3) ?_
   exact hb1 _ [(3000,3000)] _ (!y3) trivial h
 ·refine A1 hS trivial (b:=z1) (fun c4=>?_) (fun c4=>?_)
  ·replace h:=itT c4 h
   obtain rfl:=A3 h
   exact B1 hS trivial [] ⟨rfl,rfl,rfl⟩
  ·replace h:=itF c4 h
   obtain ⟨c5,h⟩:=F3 h
   refine A1 hS c5 (b:=(C6 .and .u32 (shI .shr .u32 p_s.Plus p_f) 1) == 1) (fun c6=>?_) (fun c6=>?_)
   ·replace h:=itT c6 h
    obtain rfl:=A3 h
    exact B1 hS trivial [] ⟨rfl,rfl,rfl⟩
   ·replace h:=itF c6 h
    obtain ⟨c7,h⟩:=F3 h
    refine A1 hS c7 (b:=(C6 .and .u32 (shI .shr .u32 p_s.Minus p_f) 1) == 1) (fun c8=>?_) (fun c8=>?_)
    ·replace h:=itT c8 h
     obtain rfl:=A3 h
     exact B1 hS trivial [] ⟨rfl,rfl,rfl⟩
    ·replace h:=itF c8 h
     obtain rfl:=A3 h
     exact B1 hS trivial [] ⟨rfl,rfl,rfl⟩
def Ah3 (N:Nat) (p_s:Sound) (p_f:Int) (p_v:Int):Option Sound:=
 if (0:Int)<=p_f then
  if (p_v == 1)=true then
   if (p_v == (-1))=true then
    some (⟨C6 .or .u32 (C6 .andNot .u32 p_s.Plus (shI .shl .u32 1 p_f)) (shI .shl .u32 1 p_f),C6 .or .u32 (C6 .andNot .u32 p_s.Minus (shI .shl .u32 1 p_f)) (shI .shl .u32 1 p_f)⟩:Sound)
   else
    some (⟨C6 .or .u32 (C6 .andNot .u32 p_s.Plus (shI .shl .u32 1 p_f)) (shI .shl .u32 1 p_f),C6 .andNot .u32 p_s.Minus (shI .shl .u32 1 p_f)⟩:Sound)
  else
   if (p_v == (-1))=true then
    some (⟨C6 .andNot .u32 p_s.Plus (shI .shl .u32 1 p_f),C6 .or .u32 (C6 .andNot .u32 p_s.Minus (shI .shl .u32 1 p_f)) (shI .shl .u32 1 p_f)⟩:Sound)
   else
    some (⟨C6 .andNot .u32 p_s.Plus (shI .shl .u32 1 p_f),C6 .andNot .u32 p_s.Minus (shI .shl .u32 1 p_f)⟩:Sound)
 else none
theorem AI8 {N:Nat} {p_s:Sound} {p_f:Int} {p_v:Int}   {y:Sound} (h:Ah3 N p_s p_f p_v=some y) :
 FunO S BC1 [(.p (.agg (A0 p_s))),(pN p_f),(pN p_v)] [] (.p (.agg (A0 y))) ([]) []:=by
 unfold Ah3 at h
 refine A6 hS Cn2 ?_
 obtain ⟨c1,h⟩:=F3 h
 refine A1 hS c1 (b:=p_v == 1) (fun c2=>?_) (fun c2=>?_)
 ·replace h:=itT c2 h
  refine A1 hS trivial (b:=p_v == (-1)) (fun c3=>?_) (fun c3=>?_)
  ·replace h:=itT c3 h
   obtain rfl:=A3 h
   exact B1 hS trivial [] ⟨rfl,rfl,rfl⟩
  ·replace h:=itF c3 h
   obtain rfl:=A3 h
   exact B1 hS trivial [] ⟨rfl,rfl,rfl⟩
 ·replace h:=itF c2 h
  refine A1 hS trivial (b:=p_v == (-1)) (fun c4=>?_) (fun c4=>?_)
  ·replace h:=itT c4 h
   obtain rfl:=A3 h
   exact B1 hS trivial [] ⟨rfl,rfl,rfl⟩
  ·replace h:=itF c4 h
   obtain rfl:=A3 h
   exact B1 hS trivial [] ⟨rfl,rfl,rfl⟩
def N8 (N:Nat) (p_s:Sound) (p_cond:Sound):Option Bool:=
 (H2 N p_s).bind fun y1=>
 lt (fun (z1:Bool)=>
  if z1=true then
   some false
  else
   Ae3 N (fun self1 (x3:Int)=>
    if (decide (x3 < 24))=true then
     (U3 N p_cond x3).bind fun y10=>
     lt (fun (z4:Bool)=>
      if z4=true then
       some false
      else
       self1 (IntKind.wrap .i64 (x3+1))
      ) fun k4=>
      if (y10 != 0)=true then
       (U3 N p_s x3).bind fun y12=>
       k4 (y12 != y10)
      else
       k4 false
    else
     some true
    ) 0
  ) fun k1=>
  if (!y1)=true then
   k1 true
  else
   (H2 N p_cond).bind fun y3=>
   k1 (!y3)
theorem Ba2 {N:Nat} {p_s:Sound} {p_cond:Sound}   {y:Bool} (h:N8 N p_s p_cond=some y) :
 FunO S Ax6 [(.p (.agg (A0 p_s))),(.p (.agg (A0 p_cond)))] [] (pB y) ([]) []:=by
 unfold N8 at h
 refine A6 hS AY9 ?_
 obtain ⟨y1,e1,h⟩:=A4 h
 refine A2 hS [] trivial (Q9 hS hL e1) ?_
 refine AH1 hS trivial (B0 hS) h 0 (fun z1=>⟨[(14,(pB z1)),(3,(.reg 4000 0)),(2,(.reg 3000 0))], [(4000,(.cells [(pU p_cond.Plus),(pU p_cond.Minus)])),(3000,(.cells [(pU p_s.Plus),(pU p_s.Minus)]))]⟩) (fun M1 k1 hb1 h=>?_) (fun z1 h=>?_)
 ·refine A7 hS trivial (b:=!y1) (fun c3=>?_) (fun c3=>?_)
  ·replace h:=itT c3 h
   exact hb1 _ [(3000,3000),(4000,4000)] _ true trivial h
  ·replace h:=itF c3 h
   obtain ⟨y3,e3,h⟩:=A4 h
   refine A2 hS [] trivial (Q9 hS hL e3) ?_
   exact hb1 _ [(3000,3000),(4000,4000)] _ (!y3) trivial h
 ·refine A1 hS trivial (b:=z1) (fun c4=>?_) (fun c4=>?_)
  ·replace h:=itT c4 h
   obtain rfl:=A3 h
   exact B1 hS trivial [] ⟨rfl,rfl,rfl⟩
  ·replace h:=itF c4 h
   refine U1 hS trivial h (fun x3=>⟨[(5,(pN x3)),(3,(.reg 4000 0)),(2,(.reg 3000 0))], [(4000,(.cells [(pU p_cond.Plus),(pU p_cond.Minus)])),(3000,(.cells [(pU p_s.Plus),(pU p_s.Minus)]))]⟩) (ids:=[(3000,3000),(4000,4000)]) (fun _ _ _ _ _ self1 x3 hb4 h=>?_)
   refine A1 hS trivial (b:=decide (x3 < 24)) (fun c15=>?_) (fun c15=>?_)
   ·replace h:=itT c15 h
    obtain ⟨y10,e10,h⟩:=A4 h
    refine A2 hS [] trivial (Al4 hS hL e10) ?_
    refine AH1 hS trivial (B0 hS) h 0 (fun z4=>⟨[(30,(pB z4)),(5,(pN x3)),(3,(.reg 4000 0)),(2,(.reg 3000 0))], [(4000,(.cells [(pU p_cond.Plus),(pU p_cond.Minus)])),(3000,(.cells [(pU p_s.Plus),(pU p_s.Minus)]))]⟩) (fun M4 k4 hb5 h=>?_) (fun z4 h=>?_)
    ·refine A7 hS trivial (b:=y10 != 0) (fun c18=>?_) (fun c18=>?_)
     ·replace h:=itT c18 h
      obtain ⟨y12,e12,h⟩:=A4 h
      refine A2 hS [] trivial (Al4 hS hL e12) ?_
      exact hb5 _ [(3000,3000),(4000,4000)] _ (y12 != y10) trivial h
     ·replace h:=itF c18 h
      exact hb5 _ [(3000,3000),(4000,4000)] _ false trivial h
    ·refine A1 hS trivial (b:=z4) (fun c19=>?_) (fun c19=>?_)
     ·replace h:=itT c19 h
      obtain rfl:=A3 h
      exact B1 hS trivial [] ⟨rfl,rfl,rfl⟩
     ·replace h:=itF c19 h
      exact hb4 _ [(3000,3000),(4000,4000)] _ (IntKind.wrap .i64 (x3+1)) trivial h
   ·replace h:=itF c15 h
    obtain rfl:=A3 h
    exact B1 hS trivial [] ⟨rfl,rfl,rfl⟩
def O8 (N:Nat) (p_s:Sound) (p_clear:Int) (p_set:Sound):Option (Sound × Int):=
 (H2 N p_s).bind fun y1=>
 lt (fun (z1:Bool)=>
  if z1=true then
   some ((⟨0,0⟩:Sound),14)
  else
   if ((decide (16777215 < p_clear)) || ((C6 .and .u32 p_clear (C6 .or .u32 p_set.Plus p_set.Minus)) != 0))=true then
    some ((⟨0,0⟩:Sound),2)
   else
    CN1 N (fun self1 (x2:Int) (x3:Int) (x4:Int)=>
     if (decide (x4 < 24))=true then
      if (0:Int)<=x4 then
       if ((C6 .and .u32 (shI .shr .u32 p_clear x4) 1) == 1)=true then
        (Ah3 N (⟨x2,x3⟩:Sound) x4 0).bind fun y18=>
        (U3 N p_set x4).bind fun y19=>
        if (y19 != 0)=true then
         (U3 N p_set x4).bind fun y20=>
         (Ah3 N y18 x4 y20).bind fun y21=>
         self1 y21.Plus y21.Minus (IntKind.wrap .i64 (x4+1))
        else
         self1 y18.Plus y18.Minus (IntKind.wrap .i64 (x4+1))
       else
        (U3 N p_set x4).bind fun y22=>
        if (y22 != 0)=true then
         (U3 N p_set x4).bind fun y23=>
         (Ah3 N (⟨x2,x3⟩:Sound) x4 y23).bind fun y24=>
         self1 y24.Plus y24.Minus (IntKind.wrap .i64 (x4+1))
        else
         self1 x2 x3 (IntKind.wrap .i64 (x4+1))
      else none
     else
      some ((⟨x2,x3⟩:Sound),0)
     ) p_s.Plus p_s.Minus 0
  ) fun k1=>
  if (!y1)=true then
   k1 true
  else
   (H2 N p_set).bind fun y3=>
   k1 (!y3)
theorem BC9 {N:Nat} {p_s:Sound} {p_clear:Int} {p_set:Sound}   {y:(Sound × Int)} (h:O8 N p_s p_clear p_set=some y) :
 FunO S AQ4 [(.p (.agg (A0 p_s))),(pU p_clear),(.p (.agg (A0 p_set)))] [] (.tup [(.p (.agg (A0 y.1))),(pN y.2)]) ([]) []:=by
 unfold O8 at h
 refine A6 hS BB9 ?_
 refine R7 hS trivial 5 4000 [(pI .u32 p_s.Plus),(pI .u32 p_s.Minus)] ?_
 refine R7 hS trivial 6 6000 [(pI .u32 p_set.Plus),(pI .u32 p_set.Minus)] ?_
 obtain ⟨y1,e1,h⟩:=A4 h
 refine A2 hS [] (by decide:(2:Nat)<=2) (Q9 hS hL e1) ?_
 refine AH1 hS trivial (B0 hS) h 0 (fun z1=>⟨[(17,(pB z1)),(6,(.reg 7000 0)),(5,(.p (.ptr [(pI .u32 p_set.Plus),(pI .u32 p_set.Minus)]))),(3,(.p (.ptr [(pI .u32 p_s.Plus),(pI .u32 p_s.Minus)]))),(1,(pU p_clear))], [(7000,(.cells [(pU 0),(pU 0)]))]⟩) (fun M1 k1 hb1 h=>?_) (fun z1 h=>?_)
 ·refine A7 hS trivial (b:=!y1) (fun c3=>?_) (fun c3=>?_)
  ·replace h:=itT c3 h
   exact hb1 _ [(7000,7000)] _ true trivial h
  ·replace h:=itF c3 h
   obtain ⟨y3,e3,h⟩:=A4 h
   refine A2 hS [] (by decide:(2:Nat)<=2) (Q9 hS hL e3) ?_
   exact hb1 _ [(7000,7000)] _ (!y3) trivial h
 ·refine A1 hS trivial (b:=z1) (fun c4=>?_) (fun c4=>?_)
  ·replace h:=itT c4 h
   obtain rfl:=A3 h
   exact B1 hS trivial [] ⟨rfl,rfl,rfl⟩
  ·replace h:=itF c4 h
   obtain ⟨t1,ht1⟩:∃ x:Bool,x=((decide (16777215 < p_clear)) || ((C6 .and .u32 p_clear (C6 .or .u32 p_set.Plus p_set.Minus)) != 0)):=⟨_,rfl⟩
   refine S9 hS trivial (B0 hS) 0 ⟨[(30,(pB t1)),(6,(.reg 7000 0)),(5,(.p (.ptr [(pI .u32 p_set.Plus),(pI .u32 p_set.Minus)]))),(3,(.p (.ptr [(pI .u32 p_s.Plus),(pI .u32 p_s.Minus)]))),(1,(pU p_clear))], [(7000,(.cells [(pU 0),(pU 0)]))]⟩ (fun M2 hb2=>?_) ?_
   ·refine A7 hS trivial (b:=decide (16777215 < p_clear)) (fun c6=>?_) (fun c6=>?_)
    ·exact hb2 _ [(7000,7000)] _ trivial (by kernel_rfl) (by kernel_rfl) (klR [(0, .eq (.bb true) (.bb t1))] (al1 (by simp only [ht1,c6,Leaf.ok,pm,if_true,if_false]) al0))
    ·exact hb2 _ [(7000,7000)] _ trivial (by kernel_rfl) (by kernel_rfl) (klR [(0, .eq (.bb ((C6 .and .u32 p_clear (C6 .or .u32 p_set.Plus p_set.Minus)) != 0)) (.bb t1))] (al1 (by simp only [ht1,c6,Leaf.ok,pm,if_true,if_false]) al0))
   ·subst ht1
    refine A1 hS trivial (b:=((decide (16777215 < p_clear)) || ((C6 .and .u32 p_clear (C6 .or .u32 p_set.Plus p_set.Minus)) != 0))) (fun c7=>?_) (fun c7=>?_)
    ·replace h:=itT c7 h
     obtain rfl:=A3 h
     exact B1 hS trivial [] ⟨rfl,rfl,rfl⟩
    ·replace h:=itF c7 h
     refine BU5 hS (by decide:(2:Nat)<=2) h (fun x2 x3 x4=>⟨[(9,(pN x4)),(8,(.reg 9000 0)),(6,(.reg 7000 0)),(5,(.p (.ptr [(pI .u32 p_set.Plus),(pI .u32 p_set.Minus)]))),(1,(pU p_clear))], [(9000,(.cells [(pU x2),(pU x3)])),(7000,(.cells [(pU 0),(pU 0)]))]⟩) (ids:=[(7000,7000),(9000,9000)]) (fun _ _ _ _ _ self1 x2 x3 x4 hb3 h=>?_)
     refine A1 hS trivial (b:=decide (x4 < 24)) (fun c17=>?_) (fun c17=>?_)
     ·replace h:=itT c17 h
      obtain ⟨c18,h⟩:=F3 h
      refine A1 hS c18 (b:=(C6 .and .u32 (shI .shr .u32 p_clear x4) 1) == 1) (fun c19=>?_) (fun c19=>?_)
      ·replace h:=itT c19 h
       obtain ⟨y18,e18,h⟩:=A4 h
       refine A2 hS [] trivial (AI8 hS hL e18) ?_
       obtain ⟨y19,e19,h⟩:=A4 h
       refine A2 hS [] (by decide:(2:Nat)<=2) (Al4 hS hL e19) ?_
       refine A1 hS trivial (b:=y19 != 0) (fun c20=>?_) (fun c20=>?_)
       ·replace h:=itT c20 h
        refine F0 hS trivial [2,4,5] ?_
        obtain ⟨y20,e20,h⟩:=A4 h
        refine U2 (by decide:(2:Nat)<=2) (Al4 hS hL e20) ?_
        obtain ⟨y21,e21,h⟩:=A4 h
        refine U2 trivial (AI8 hS hL e21) ?_
        refine M0 trivial ?_
        exact hb3 _ [(7000,7000),(9000,9000)] _ y21.Plus y21.Minus (IntKind.wrap .i64 (x4+1)) trivial h
       ·replace h:=itF c20 h
        exact hb3 _ [(7000,7000),(9000,9000)] _ y18.Plus y18.Minus (IntKind.wrap .i64 (x4+1)) trivial h
      ·replace h:=itF c19 h
       obtain ⟨y22,e22,h⟩:=A4 h
       refine A2 hS [] (by decide:(2:Nat)<=2) (Al4 hS hL e22) ?_
       refine A1 hS trivial (b:=y22 != 0) (fun c21=>?_) (fun c21=>?_)
       ·replace h:=itT c21 h
        refine F0 hS trivial [2,4,5] ?_
        obtain ⟨y23,e23,h⟩:=A4 h
        refine U2 (by decide:(2:Nat)<=2) (Al4 hS hL e23) ?_
        obtain ⟨y24,e24,h⟩:=A4 h
        refine U2 trivial (AI8 hS hL e24) ?_
        refine M0 trivial ?_
        exact hb3 _ [(7000,7000),(9000,9000)] _ y24.Plus y24.Minus (IntKind.wrap .i64 (x4+1)) trivial h
       ·replace h:=itF c21 h
        exact hb3 _ [(7000,7000),(9000,9000)] _ x2 x3 (IntKind.wrap .i64 (x4+1)) trivial h
     ·replace h:=itF c17 h
      obtain rfl:=A3 h
      exact B1 hS trivial [] ⟨rfl,rfl,rfl⟩
def W4 (N:Nat) (p_s:Sound) (p_from:Sound) (p_mask:Int):Option (Sound × Int):=
 (H2 N p_s).bind fun y1=>
 lt (fun (z1:Bool)=>
  if z1=true then
   some ((⟨0,0⟩:Sound),14)
  else
   if (decide (16777215 < p_mask))=true then
    some ((⟨0,0⟩:Sound),2)
   else
    CN1 N (fun self1 (x2:Int) (x3:Int) (x4:Int)=>
     if (decide (x4 < 24))=true then
      if (0:Int)<=x4 then
       if ((C6 .and .u32 (shI .shr .u32 p_mask x4) 1) == 1)=true then
        (U3 N p_from x4).bind fun y8=>
        (Ah3 N (⟨x2,x3⟩:Sound) x4 y8).bind fun y9=>
        self1 y9.Plus y9.Minus (IntKind.wrap .i64 (x4+1))
       else
        self1 x2 x3 (IntKind.wrap .i64 (x4+1))
      else none
     else
      some ((⟨x2,x3⟩:Sound),0)
     ) p_s.Plus p_s.Minus 0
  ) fun k1=>
  if (!y1)=true then
   k1 true
  else
   (H2 N p_from).bind fun y3=>
   k1 (!y3)
theorem Cc8 {N:Nat} {p_s:Sound} {p_from:Sound} {p_mask:Int}   {y:(Sound × Int)} (h:W4 N p_s p_from p_mask=some y) :
 FunO S Bl1 [(.p (.agg (A0 p_s))),(.p (.agg (A0 p_from))),(pU p_mask)] [] (.tup [(.p (.agg (A0 y.1))),(pN y.2)]) ([]) []:=by
 unfold W4 at h
 refine A6 hS Cc3 ?_
 refine R7 hS trivial 4 4000 [(pI .u32 p_s.Plus),(pI .u32 p_s.Minus)] ?_
 refine R7 hS trivial 6 5000 [(pI .u32 p_from.Plus),(pI .u32 p_from.Minus)] ?_
 obtain ⟨y1,e1,h⟩:=A4 h
 refine A2 hS [] (by decide:(2:Nat)<=2) (Q9 hS hL e1) ?_
 refine AH1 hS trivial (B0 hS) h 0 (fun z1=>⟨[(17,(pB z1)),(6,(.reg 7000 0)),(4,(.p (.ptr [(pI .u32 p_from.Plus),(pI .u32 p_from.Minus)]))),(3,(.p (.ptr [(pI .u32 p_s.Plus),(pI .u32 p_s.Minus)]))),(2,(pU p_mask))], [(7000,(.cells [(pU 0),(pU 0)]))]⟩) (fun M1 k1 hb1 h=>?_) (fun z1 h=>?_)
 ·refine A7 hS trivial (b:=!y1) (fun c3=>?_) (fun c3=>?_)
  ·replace h:=itT c3 h
   exact hb1 _ [(7000,7000)] _ true trivial h
  ·replace h:=itF c3 h
   obtain ⟨y3,e3,h⟩:=A4 h
   refine A2 hS [] (by decide:(2:Nat)<=2) (Q9 hS hL e3) ?_
   exact hb1 _ [(7000,7000)] _ (!y3) trivial h
 ·refine A1 hS trivial (b:=z1) (fun c4=>?_) (fun c4=>?_)
  ·replace h:=itT c4 h
   obtain rfl:=A3 h
   exact B1 hS trivial [] ⟨rfl,rfl,rfl⟩
  ·replace h:=itF c4 h
   refine A1 hS trivial (b:=decide (16777215 < p_mask)) (fun c5=>?_) (fun c5=>?_)
   ·replace h:=itT c5 h
    obtain rfl:=A3 h
    exact B1 hS trivial [] ⟨rfl,rfl,rfl⟩
   ·replace h:=itF c5 h
    refine BU5 hS (by decide:(2:Nat)<=2) h (fun x2 x3 x4=>⟨[(9,(pN x4)),(8,(.reg 9000 0)),(6,(.reg 7000 0)),(4,(.p (.ptr [(pI .u32 p_from.Plus),(pI .u32 p_from.Minus)]))),(2,(pU p_mask))], [(9000,(.cells [(pU x2),(pU x3)])),(7000,(.cells [(pU 0),(pU 0)]))]⟩) (ids:=[(7000,7000),(9000,9000)]) (fun _ _ _ _ _ self1 x2 x3 x4 hb2 h=>?_)
    refine A1 hS trivial (b:=decide (x4 < 24)) (fun c11=>?_) (fun c11=>?_)
    ·replace h:=itT c11 h
     obtain ⟨c12,h⟩:=F3 h
     refine A1 hS c12 (b:=(C6 .and .u32 (shI .shr .u32 p_mask x4) 1) == 1) (fun c13=>?_) (fun c13=>?_)
     ·replace h:=itT c13 h
      refine F0 hS trivial [2,4,5] ?_
      obtain ⟨y8,e8,h⟩:=A4 h
      refine U2 (by decide:(2:Nat)<=2) (Al4 hS hL e8) ?_
      obtain ⟨y9,e9,h⟩:=A4 h
      refine U2 trivial (AI8 hS hL e9) ?_
      refine M0 trivial ?_
      exact hb2 _ [(7000,7000),(9000,9000)] _ y9.Plus y9.Minus (IntKind.wrap .i64 (x4+1)) trivial h
     ·replace h:=itF c13 h
      exact hb2 _ [(7000,7000),(9000,9000)] _ x2 x3 (IntKind.wrap .i64 (x4+1)) trivial h
    ·replace h:=itF c11 h
     obtain rfl:=A3 h
     exact B1 hS trivial [] ⟨rfl,rfl,rfl⟩
def P3 (N:Nat) (p_s:Sound):Option Bool:=
 some ((((C6 .and .u32 p_s.Plus p_s.Minus) == 0) && (decide (p_s.Plus < 16777216))) && (decide (p_s.Minus < 16777216)))
theorem Ba3 {N:Nat} {p_s:Sound}   {y:Bool} (h:P3 N p_s=some y) :
 FunO S AX7 [(.p (.agg (A0 p_s)))] [] (pB y) ([]) []:=by
 unfold P3 at h
 refine A6 hS BL4 ?_
 obtain ⟨t1,ht1⟩:∃ x:Bool,x=((((C6 .and .u32 p_s.Plus p_s.Minus) == 0) && (decide (p_s.Plus < 16777216))) && (decide (p_s.Minus < 16777216))):=⟨_,rfl⟩
 refine S9 hS trivial (B0 hS) 0 ⟨[(2,(pB t1))], []⟩ (fun M1 hb1=>?_) ?_
 ·refine A7 hS trivial (b:=(C6 .and .u32 p_s.Plus p_s.Minus) == 0) (fun c3=>?_) (fun c3=>?_)
  ·refine A7 hS trivial (b:=decide (p_s.Plus < 16777216)) (fun c4=>?_) (fun c4=>?_)
   ·exact hb1 _ [] _ trivial (by kernel_rfl) (by kernel_rfl) (klR [(0, .eq (.bb (decide (p_s.Minus < 16777216))) (.bb t1))] (al1 (by simp only [ht1,c3,c4,Leaf.ok,pm,if_true,if_false]) al0))
   ·exact hb1 _ [] _ trivial (by kernel_rfl) (by kernel_rfl) (klR [(0, .eq (.bb false) (.bb t1))] (al1 (by simp only [ht1,c3,c4,Leaf.ok,pm,if_true,if_false]) al0))
  ·exact hb1 _ [] _ trivial (by kernel_rfl) (by kernel_rfl) (klR [(0, .eq (.bb false) (.bb t1))] (al1 (by simp only [ht1,c3,Leaf.ok,pm,if_true,if_false]) al0))
 ·subst ht1
  obtain rfl:=A3 h
  exact B1 hS trivial [] ⟨rfl,rfl,rfl⟩
def U4 (N:Nat) (p_w:(Sl Sound)):Option Int:=
 if (decide (32 < (p_w.n:Int)))=true then
  some 11
 else
  Ae3 N (fun self1 (x1:Int)=>
   if (decide (x1 < (p_w.n:Int)))=true then
    if ((0:Int)<=x1/\x1 < (p_w.n:Int)) then
     (P3 N (p_w.g x1.toNat)).bind fun y3=>
     if (!y3)=true then
      some 14
     else
      self1 (IntKind.wrap .i64 (x1+1))
    else none
   else
    some 0
   ) 0
theorem Al5 {N:Nat} {p_w:(Sl Sound)}   {y:Int} (h:U4 N p_w=some y) :
 FunO S AX3 [(.p (vSl 2 A0 p_w))] [] (pN y) ([]) []:=by
 unfold U4 at h
 refine A6 hS BL0 ?_
 refine A1 hS trivial (b:=decide (32 < (p_w.n:Int))) (fun c1=>?_) (fun c1=>?_)
 ·replace h:=itT c1 h
  obtain rfl:=A3 h
  exact B1 hS trivial [] ⟨rfl,rfl,rfl⟩
 ·replace h:=itF c1 h
  refine U1 hS trivial h (fun x1=>⟨[(3,(pN x1)),(0,(.p (vSl 2 A0 p_w)))], []⟩) (ids:=[]) (fun _ _ _ _ _ self1 x1 hb1 h=>?_)
  refine A1 hS trivial (b:=decide (x1 < (p_w.n:Int))) (fun c8=>?_) (fun c8=>?_)
  ·replace h:=itT c8 h
   obtain ⟨c9,h⟩:=F3 h
   obtain ⟨y3,e3,h⟩:=A4 h
   refine A2 hS [] (And.intro c9 (by decide:(2:Nat)<=2)) (Ba3 hS hL e3) ?_
   refine A1 hS trivial (b:=!y3) (fun c10=>?_) (fun c10=>?_)
   ·replace h:=itT c10 h
    obtain rfl:=A3 h
    exact B1 hS trivial [] ⟨rfl,rfl,rfl⟩
   ·replace h:=itF c10 h
    exact hb1 _ [] _ (IntKind.wrap .i64 (x1+1)) trivial h
  ·replace h:=itF c8 h
   obtain rfl:=A3 h
   exact B1 hS trivial [] ⟨rfl,rfl,rfl⟩
def At6 (N:Nat) (p_a:(Sl Sound)) (p_b:(Sl Sound)):Option Bool:=
 if ((p_a.n:Int) != (p_b.n:Int))=true then
  some false
 else
  Ae3 N (fun self1 (x1:Int)=>
   if (decide (x1 < (p_a.n:Int)))=true then
    if (((0:Int)<=x1/\x1 < (p_a.n:Int))/\((0:Int)<=x1/\x1 < (p_b.n:Int))) then
     if ((((p_a.g x1.toNat).Plus == (p_b.g x1.toNat).Plus) && ((p_a.g x1.toNat).Minus == (p_b.g x1.toNat).Minus)) != true)=true then
      some false
     else
      self1 (IntKind.wrap .i64 (x1+1))
    else none
   else
    some true
   ) 0
theorem BN9 {N:Nat} {p_a:(Sl Sound)} {p_b:(Sl Sound)}   {y:Bool} (h:At6 N p_a p_b=some y) :
 FunO S AX4 [(.p (vSl 2 A0 p_a)),(.p (vSl 2 A0 p_b))] [] (pB y) ([]) []:=by
 unfold At6 at h
 refine A6 hS BL1 ?_
 refine A1 hS trivial (b:=(p_a.n:Int) != (p_b.n:Int)) (fun c1=>?_) (fun c1=>?_)
 ·replace h:=itT c1 h
  obtain rfl:=A3 h
  exact B1 hS trivial [] ⟨rfl,rfl,rfl⟩
 ·replace h:=itF c1 h
  refine U1 hS trivial h (fun x1=>⟨[(5,(pN x1)),(1,(.p (vSl 2 A0 p_b))),(0,(.p (vSl 2 A0 p_a)))], []⟩) (ids:=[]) (fun _ _ _ _ _ self1 x1 hb1 h=>?_)
  refine A1 hS trivial (b:=decide (x1 < (p_a.n:Int))) (fun c8=>?_) (fun c8=>?_)
  ·replace h:=itT c8 h
   refine F0 hS trivial [2,3,6,7] ?_
   obtain ⟨c9,h⟩:=F3 h
   refine M0 (And.intro (And.intro (And.intro (And.intro c9.1 (by decide:(2:Nat)<=2)) c9.2) (by decide:(2:Nat)<=2)) (by decide +kernel:Cs5 Tryz.prog B2=true)) ?_
   refine A1 hS trivial (b:=((((p_a.g x1.toNat).Plus == (p_b.g x1.toNat).Plus) && ((p_a.g x1.toNat).Minus == (p_b.g x1.toNat).Minus)) != true)) (fun c10=>?_) (fun c10=>?_)
   ·replace h:=itT c10 h
    obtain rfl:=A3 h
    exact B1 hS trivial [] ⟨rfl,rfl,rfl⟩
   ·replace h:=itF c10 h
    exact hb1 _ [] _ (IntKind.wrap .i64 (x1+1)) trivial h
  ·replace h:=itF c8 h
   obtain rfl:=A3 h
   exact B1 hS trivial [] ⟨rfl,rfl,rfl⟩
def Aj7 (N:Nat) (p_w:(Sl Sound)):Option (Sl Sound):=
 V9 N (fun self1 (x1:Sl Sound) (x2:Int)=>
  if (decide (x2 < (p_w.n:Int)))=true then
   if (((0:Int)<=x2/\x2 < (p_w.n:Int))/\((x1.n+(Sl.of [(p_w.g x2.toNat)]:Sl Sound).n) * 8<=140737488355328/\x1.n+(Sl.of [(p_w.g x2.toNat)]:Sl Sound).n<=140737488355328)) then
    self1 (x1.push (p_w.g x2.toNat)) (IntKind.wrap .i64 (x2+1))
   else none
  else
   some x1
  ) (Sl.nil:Sl Sound) 0
theorem Cc9 {N:Nat} {p_w:(Sl Sound)}   {y:(Sl Sound)} (h:Aj7 N p_w=some y) :
 FunO S Bk6 [(.p (vSl 2 A0 p_w))] [] (.vec 0) ([(.vec B2 2 y.n (fun i=>A0 (y.g i)) true)]) []:=by
 unfold Aj7 at h
 refine A6 hS Cb7 ?_
 refine H9 hS trivial h (fun x1 x2=>⟨[(4,(pN x2)),(3,(.vec 4500)),(0,(.p (vSl 2 A0 p_w)))], [(4500,(.vec B2 2 x1.n (fun i=>A0 (x1.g i)) false))]⟩) (ids:=[]) (fun _ _ _ _ _ self1 x1 x2 hb1 h=>?_)
 refine A1 hS trivial (b:=decide (x2 < (p_w.n:Int))) (fun c3=>?_) (fun c3=>?_)
 ·replace h:=itT c3 h
  obtain ⟨c4,h⟩:=F3 h
  exact hb1 _ [(4500,18000)] _ (x1.push (p_w.g x2.toNat)) (IntKind.wrap .i64 (x2+1)) (And.intro (And.intro (And.intro c4.1 (by decide:(2:Nat)<=2)) (rfl:true=true)) c4.2) h (by kernel_rfl) (by kernel_rfl) (klR [(2, .fn (x1.n+1) (x1.push (p_w.g x2.toNat)).n (T4 x1.n (fun i=>A0 (x1.g i)) (D9 [(pI .u32 0),(pI .u32 0)] [(0,A0 (p_w.g x2.toNat))])) (fun i=>A0 ((x1.push (p_w.g x2.toNat)).g i)))] (al1 ⟨rfl,(Aw9 (c:=A0) (v:=x1) (x:=(p_w.g x2.toNat)) (z:=[(pI .u32 0),(pI .u32 0)]) same rfl rfl)⟩ al0))
 ·replace h:=itF c3 h
  obtain rfl:=A3 h
  exact B4 hS trivial ⟨[(2,(.vec 4500))], [(4500,(.vec B2 2 x1.n (fun i=>A0 (x1.g i)) true))]⟩ [4500] (ids:=[(4500,4500)]) ⟨rfl,rfl,rfl⟩
def Ac2 (N:Nat) (p_s:Sound):Option Bool:=
 some (((C6 .and .u32 p_s.Plus p_s.Minus) == 0) && ((shI .shr .u32 (C6 .or .u32 p_s.Plus p_s.Minus) 24) == 0))
theorem BD0 {N:Nat} {p_s:Sound}   {y:Bool} (h:Ac2 N p_s=some y) :
 FunO S AP8 [(.p (.agg (A0 p_s)))] [] (pB y) ([]) []:=by
 unfold Ac2 at h
 refine A6 hS BA6 ?_
 obtain ⟨t1,ht1⟩:∃ x:Bool,x=(((C6 .and .u32 p_s.Plus p_s.Minus) == 0) && ((shI .shr .u32 (C6 .or .u32 p_s.Plus p_s.Minus) 24) == 0)):=⟨_,rfl⟩
 refine S9 hS trivial (B0 hS) 0 ⟨[(2,(pB t1))], []⟩ (fun M1 hb1=>?_) ?_
 ·refine A7 hS trivial (b:=(C6 .and .u32 p_s.Plus p_s.Minus) == 0) (fun c2=>?_) (fun c2=>?_)
  ·exact hb1 _ [] _ (by decide:(0:Int)<=24) (by kernel_rfl) (by kernel_rfl) (klR [(0, .eq (.bb ((shI .shr .u32 (C6 .or .u32 p_s.Plus p_s.Minus) 24) == 0)) (.bb t1))] (al1 (by simp only [ht1,c2,Leaf.ok,pm,if_true,if_false]) al0))
  ·exact hb1 _ [] _ trivial (by kernel_rfl) (by kernel_rfl) (klR [(0, .eq (.bb false) (.bb t1))] (al1 (by simp only [ht1,c2,Leaf.ok,pm,if_true,if_false]) al0))
 ·subst ht1
  obtain rfl:=A3 h
  exact B1 hS trivial [] ⟨rfl,rfl,rfl⟩
def U5 (N:Nat) (p_w:(Sl Sound)):Option Int:=
 if (decide (32 < (p_w.n:Int)))=true then
  some 11
 else
  Ae3 N (fun self1 (x1:Int)=>
   if (decide (x1 < (p_w.n:Int)))=true then
    if ((0:Int)<=x1/\x1 < (p_w.n:Int)) then
     (Ac2 N (p_w.g x1.toNat)).bind fun y3=>
     if (!y3)=true then
      some 14
     else
      self1 (IntKind.wrap .i64 (x1+1))
    else none
   else
    some 0
   ) 0
theorem Ay3 {N:Nat} {p_w:(Sl Sound)}   {y:Int} (h:U5 N p_w=some y) :
 FunO S AP6 [(.p (vSl 2 A0 p_w))] [] (pN y) ([]) []:=by
 unfold U5 at h
 refine A6 hS BA4 ?_
 refine A1 hS trivial (b:=decide (32 < (p_w.n:Int))) (fun c1=>?_) (fun c1=>?_)
 ·replace h:=itT c1 h
  obtain rfl:=A3 h
  exact B1 hS trivial [] ⟨rfl,rfl,rfl⟩
 ·replace h:=itF c1 h
  refine U1 hS trivial h (fun x1=>⟨[(10,(pN x1)),(9,(pN (p_w.n:Int))),(8,(.p (vSl 2 A0 p_w)))], []⟩) (ids:=[]) (fun _ _ _ _ _ self1 x1 hb1 h=>?_)
  refine A1 hS trivial (b:=decide (x1 < (p_w.n:Int))) (fun c8=>?_) (fun c8=>?_)
  ·replace h:=itT c8 h
   obtain ⟨c9,h⟩:=F3 h
   obtain ⟨y3,e3,h⟩:=A4 h
   refine A2 hS [] (And.intro c9 (by decide:(2:Nat)<=2)) (BD0 hS hL e3) ?_
   refine A1 hS trivial (b:=!y3) (fun c10=>?_) (fun c10=>?_)
   ·replace h:=itT c10 h
    obtain rfl:=A3 h
    exact B1 hS trivial [] ⟨rfl,rfl,rfl⟩
   ·replace h:=itF c10 h
    exact hb1 _ [] _ (IntKind.wrap .i64 (x1+1)) trivial h
  ·replace h:=itF c8 h
   obtain rfl:=A3 h
   exact B1 hS trivial [] ⟨rfl,rfl,rfl⟩
def E2 (N:Nat) (p_s1:(Sl Sound)) (p_s2:(Sl Sound)):Option Bool:=
 if ((p_s1.n:Int) != (p_s2.n:Int))=true then
  some false
 else
  Ae3 N (fun self1 (x1:Int)=>
   if (decide (x1 < (p_s1.n:Int)))=true then
    if (((0:Int)<=x1/\x1 < (p_s1.n:Int))/\((0:Int)<=x1/\x1 < (p_s2.n:Int))) then
     if ((((p_s1.g x1.toNat).Plus == (p_s2.g x1.toNat).Plus) && ((p_s1.g x1.toNat).Minus == (p_s2.g x1.toNat).Minus)) != true)=true then
      some false
     else
      self1 (IntKind.wrap .i64 (x1+1))
    else none
   else
    some true
   ) 0
theorem Y3 {N:Nat} {p_s1:(Sl Sound)} {p_s2:(Sl Sound)}   {y:Bool} (h:E2 N p_s1 p_s2=some y) :
 FunO S K5 [(.p (vSl 2 A0 p_s1)),(.p (vSl 2 A0 p_s2))] [] (pB y) ([]) []:=by
 unfold E2 at h
 refine A6 hS X8 ?_
 refine A1 hS trivial (b:=(p_s1.n:Int) != (p_s2.n:Int)) (fun c1=>?_) (fun c1=>?_)
 ·replace h:=itT c1 h
  obtain rfl:=A3 h
  exact B1 hS trivial [] ⟨rfl,rfl,rfl⟩
 ·replace h:=itF c1 h
  refine U1 hS trivial h (fun x1=>⟨[(13,(pN x1)),(12,(pN (p_s1.n:Int))),(1,(.p (vSl 2 A0 p_s2))),(0,(.p (vSl 2 A0 p_s1)))], []⟩) (ids:=[]) (fun _ _ _ _ _ self1 x1 hb1 h=>?_)
  refine A1 hS trivial (b:=decide (x1 < (p_s1.n:Int))) (fun c8=>?_) (fun c8=>?_)
  ·replace h:=itT c8 h
   refine F0 hS trivial [2,3,6,7] ?_
   obtain ⟨c9,h⟩:=F3 h
   refine M0 (And.intro (And.intro (And.intro (And.intro c9.1 (by decide:(2:Nat)<=2)) c9.2) (by decide:(2:Nat)<=2)) (by decide +kernel:Cs5 Tryz.prog B2=true)) ?_
   refine A1 hS trivial (b:=((((p_s1.g x1.toNat).Plus == (p_s2.g x1.toNat).Plus) && ((p_s1.g x1.toNat).Minus == (p_s2.g x1.toNat).Minus)) != true)) (fun c10=>?_) (fun c10=>?_)
   ·replace h:=itT c10 h
    obtain rfl:=A3 h
    exact B1 hS trivial [] ⟨rfl,rfl,rfl⟩
   ·replace h:=itF c10 h
    exact hb1 _ [] _ (IntKind.wrap .i64 (x1+1)) trivial h
  ·replace h:=itF c8 h
   obtain rfl:=A3 h
   exact B1 hS trivial [] ⟨rfl,rfl,rfl⟩
def Ah4 (N:Nat) (p_a:(Sl Sound)) (p_b:(Sl Sound)):Option Bool:=
 (E2 N p_a p_b).bind fun y1=>
 some y1
theorem BD1 {N:Nat} {p_a:(Sl Sound)} {p_b:(Sl Sound)}   {y:Bool} (h:Ah4 N p_a p_b=some y) :
 FunO S AP1 [(.p (vSl 2 A0 p_a)),(.p (vSl 2 A0 p_b))] [] (pB y) ([]) []:=by
 unfold Ah4 at h
 refine A6 hS Bz8 ?_
 obtain ⟨y1,e1,h⟩:=A4 h
 refine A2 hS [] trivial (Y3 hS hL e1) ?_
 obtain rfl:=A3 h
 exact B1 hS trivial [] ⟨rfl,rfl,rfl⟩
def N2 (N:Nat) (p_s:Sound):Option Bool:=
 some (((C6 .and .u32 p_s.Plus p_s.Minus) == 0) && ((shI .shr .u32 (C6 .or .u32 p_s.Plus p_s.Minus) 24) == 0))
theorem An5 {N:Nat} {p_s:Sound}   {y:Bool} (h:N2 N p_s=some y) :
 FunO S AQ0 [(.p (.agg (A0 p_s)))] [] (pB y) ([]) []:=by
 unfold N2 at h
 refine A6 hS BA9 ?_
 obtain ⟨t1,ht1⟩:∃ x:Bool,x=(((C6 .and .u32 p_s.Plus p_s.Minus) == 0) && ((shI .shr .u32 (C6 .or .u32 p_s.Plus p_s.Minus) 24) == 0)):=⟨_,rfl⟩
 refine S9 hS trivial (B0 hS) 0 ⟨[(2,(pB t1))], []⟩ (fun M1 hb1=>?_) ?_
 ·refine A7 hS trivial (b:=(C6 .and .u32 p_s.Plus p_s.Minus) == 0) (fun c2=>?_) (fun c2=>?_)
  ·exact hb1 _ [] _ (by decide:(0:Int)<=24) (by kernel_rfl) (by kernel_rfl) (klR [(0, .eq (.bb ((shI .shr .u32 (C6 .or .u32 p_s.Plus p_s.Minus) 24) == 0)) (.bb t1))] (al1 (by simp only [ht1,c2,Leaf.ok,pm,if_true,if_false]) al0))
  ·exact hb1 _ [] _ trivial (by kernel_rfl) (by kernel_rfl) (klR [(0, .eq (.bb false) (.bb t1))] (al1 (by simp only [ht1,c2,Leaf.ok,pm,if_true,if_false]) al0))
 ·subst ht1
  obtain rfl:=A3 h
  exact B1 hS trivial [] ⟨rfl,rfl,rfl⟩
def N9 (N:Nat) (p_n:Int):Option (Nat->Int):=
 V9 N (fun self1 (x1:Nat->Int) (x2:Int)=>
  if (decide (x2 < (IntKind.wrap .i64 (p_n+1))))=true then
   if (((0:Int)<=x2/\((0:Int)<=x2/\x2 < 33))/\(0+x2.toNat * 1) < 33) then
    self1 (AW4 x1 (0+x2.toNat * 1) (shI .shl .u64 1 x2)) (IntKind.wrap .i64 (x2+1))
   else none
  else
   some x1
  ) (fun _=>0) 0
theorem Al6 {N:Nat} {p_n:Int}   {y:(Nat->Int)} (h:N9 N p_n=some y) :
 FunO S Ay0 [(pN p_n)] [] (.p (.agg (cA 33 (pI .u64) y))) ([]) []:=by
 unfold N9 at h
 refine A6 hS AZ7 ?_
 refine H9 hS trivial h (fun x1 x2=>⟨[(7,(pN x2)),(6,(pN (IntKind.wrap .i64 (p_n+1)))),(3,(.reg 4000 0)),(2,(.reg 3000 0))], [(4000,(.arr 33 (fun i=>pI .u64 (x1 i)))),(3000,(.arr 33 (fun i=>pI .u64 ((fun _=>0) i))))]⟩) (ids:=[(3000,3000),(4000,4000)]) (fun _ _ _ _ _ self1 x1 x2 hb1 h=>?_) (hle:=(klR [(2, .fn 33 33 (fun i=>[(fun i=>(List.replicate 33 (pI .u64 0)).getD i default) i]) (fun i=>[pI .u64 ((fun _=>0) i)])),(3, .fn 33 33 (fun i=>[(fun i=>(List.replicate 33 (pI .u64 0)).getD i default) i]) (fun i=>[pI .u64 ((fun _=>0) i)]))] (al1 ⟨rfl,(Af0 (z:=pI .u64 0) rfl)⟩ (al1 ⟨rfl,(Af0 (z:=pI .u64 0) rfl)⟩ al0))))
 refine A1 hS trivial (b:=decide (x2 < (IntKind.wrap .i64 (p_n+1)))) (fun c3=>?_) (fun c3=>?_)
 ·replace h:=itT c3 h
  obtain ⟨c4,h⟩:=F3 h
  exact hb1 _ [(3000,3000),(4000,4000)] _ (AW4 x1 (0+x2.toNat * 1) (shI .shl .u64 1 x2)) (IntKind.wrap .i64 (x2+1)) c4 h (by kernel_rfl) (by kernel_rfl) (klR [(2, .fn 33 33 (fun i=>[(fun i=>if i=(0+x2.toNat * 1) then (pI .u64 (shI .shl .u64 1 x2)) else (fun i=>pI .u64 (x1 i)) i) i]) (fun i=>[pI .u64 ((AW4 x1 (0+x2.toNat * 1) (shI .shl .u64 1 x2)) i)]))] (al1 ⟨rfl,(CJ1 (c:=pI .u64) (v:=x1) (x:=shI .shl .u64 1 x2) (fun _ _=>rfl) rfl)⟩ al0))
 ·replace h:=itF c3 h
  obtain rfl:=A3 h
  exact B1 hS (And.intro rfl (E7 _ _):(0:Nat)=0/\(Ai6 33 (fun i=>pI .u64 (x1 i))).length=33) [] ⟨rfl,rfl,rfl⟩
def J4 (N:Nat) (p_x:(Nat->Int)) (p_y:(Nat->Int)):Option (Nat->Int):=
 V9 N (fun self1 (x1:Nat->Int) (x2:Int)=>
  if (decide (x2 < 33))=true then
   if (((0:Int)<=x2/\x2 < 33)/\(0+x2.toNat * 1) < 33) then
    if (((((0:Int)<=x2/\x2 < 33)/\(0+x2.toNat * 1) < 33)/\((0:Int)<=x2/\x2 < 33))/\(0+x2.toNat * 1) < 33) then
     self1 (AW4 x1 (0+x2.toNat * 1) (C6 .or .u64 (x1 (0+x2.toNat * 1)) (p_y (0+x2.toNat * 1)))) (IntKind.wrap .i64 (x2+1))
    else none
   else none
  else
   some x1
  ) p_x 0
theorem An6 {N:Nat} {p_x:(Nat->Int)} {p_y:(Nat->Int)}   {y:(Nat->Int)} (h:J4 N p_x p_y=some y) :
 FunO S An3 [(.reg 0 0),(.reg 1 0)] [(.arr 33 (fun i=>pI .u64 (p_x i))),(.arr 33 (fun i=>pI .u64 (p_y i)))] (.tup []) ([(.arr 33 (fun i=>pI .u64 (y i))),(.arr 33 (fun i=>pI .u64 (p_y i)))]) [true,true]:=by
 unfold J4 at h
 refine A6 hS AI5 ?_
 refine H9 hS trivial h (fun x1 x2=>⟨[(7,(pN x2)),(6,(.reg 1 0)),(0,(.reg 0 0))], [(1,(.arr 33 (fun i=>pI .u64 (p_y i)))),(0,(.arr 33 (fun i=>pI .u64 (x1 i))))]⟩) (ids:=[(0,0),(1,1)]) (fun _ _ _ _ _ self1 x1 x2 hb1 h=>?_)
 refine A1 hS trivial (b:=decide (x2 < 33)) (fun c7=>?_) (fun c7=>?_)
 ·replace h:=itT c7 h
  refine BJ8 hS trivial ?_
  obtain ⟨c8,h⟩:=F3 h
  refine M0 c8 ?_
  refine BJ8 hS trivial ?_
  obtain ⟨c9,h⟩:=F3 h
  refine M0 c9 ?_
  exact hb1 _ [(0,0),(1,1)] _ (AW4 x1 (0+x2.toNat * 1) (C6 .or .u64 (x1 (0+x2.toNat * 1)) (p_y (0+x2.toNat * 1)))) (IntKind.wrap .i64 (x2+1)) trivial h (by kernel_rfl) (by kernel_rfl) (klR [(2, .fn 33 33 (fun i=>[(fun i=>if i=(0+x2.toNat * 1) then (pI .u64 (C6 .or .u64 (x1 (0+x2.toNat * 1)) (p_y (0+x2.toNat * 1)))) else (fun i=>pI .u64 (x1 i)) i) i]) (fun i=>[pI .u64 ((AW4 x1 (0+x2.toNat * 1) (C6 .or .u64 (x1 (0+x2.toNat * 1)) (p_y (0+x2.toNat * 1)))) i)]))] (al1 ⟨rfl,(CJ1 (c:=pI .u64) (v:=x1) (x:=C6 .or .u64 (x1 (0+x2.toNat * 1)) (p_y (0+x2.toNat * 1))) (fun _ _=>rfl) rfl)⟩ al0))
 ·replace h:=itF c7 h
  obtain rfl:=A3 h
  exact B4 hS trivial ⟨[], [(1,(.arr 33 (fun i=>pI .u64 (p_y i)))),(0,(.arr 33 (fun i=>pI .u64 (x1 i))))]⟩ [0,1] (ids:=[(0,0),(1,1)]) ⟨rfl,rfl,rfl⟩
def W5 (N:Nat) (p_w:(Sl Sound)) (p_at:Int):Option Int:=
 if ((decide (p_at < 0)) || (decide ((p_w.n:Int) < p_at)))=true then
  some 3
 else
  some 0
theorem AI9 {N:Nat} {p_w:(Sl Sound)} {p_at:Int}   {y:Int} (h:W5 N p_w p_at=some y) :
 FunO S AI3 [(.p (vSl 2 A0 p_w)),(pN p_at)] [] (pN y) ([]) []:=by
 unfold W5 at h
 refine A6 hS Br1 ?_
 obtain ⟨t1,ht1⟩:∃ x:Bool,x=((decide (p_at < 0)) || (decide ((p_w.n:Int) < p_at))):=⟨_,rfl⟩
 refine S9 hS trivial (B0 hS) 0 ⟨[(12,(pB t1))], []⟩ (fun M1 hb1=>?_) ?_
 ·refine A7 hS trivial (b:=decide (p_at < 0)) (fun c2=>?_) (fun c2=>?_)
  ·exact hb1 _ [] _ trivial (by kernel_rfl) (by kernel_rfl) (klR [(0, .eq (.bb true) (.bb t1))] (al1 (by simp only [ht1,c2,Leaf.ok,pm,if_true,if_false]) al0))
  ·exact hb1 _ [] _ trivial (by kernel_rfl) (by kernel_rfl) (klR [(0, .eq (.bb (decide ((p_w.n:Int) < p_at))) (.bb t1))] (al1 (by simp only [ht1,c2,Leaf.ok,pm,if_true,if_false]) al0))
 ·subst ht1
  refine A1 hS trivial (b:=((decide (p_at < 0)) || (decide ((p_w.n:Int) < p_at)))) (fun c3=>?_) (fun c3=>?_)
  ·replace h:=itT c3 h
   obtain rfl:=A3 h
   exact B1 hS trivial [] ⟨rfl,rfl,rfl⟩
  ·replace h:=itF c3 h
   obtain rfl:=A3 h
   exact B1 hS trivial [] ⟨rfl,rfl,rfl⟩
def Z3 (N:Nat) (p_p:Pat):Option Int:=
 if (if (p_p.Kind == 0)=true then p_p.Kind == 0 else (if (p_p.Kind == 2)=true then p_p.Kind == 2 else p_p.Kind == 6))=true then
  lt (fun (z1:Bool)=>
   if z1=true then
    some 2
   else
    (N2 N p_p.Is).bind fun y1=>
    if (!y1)=true then
     some 14
    else
     some 0
   ) fun k1=>
   if (((p_p.Is.Plus == 0) && (p_p.Is.Minus == 0)) != true)=true then
    k1 true
   else
    if p_p.Not=true then
     k1 true
    else
     if (p_p.Min != 0)=true then
      k1 true
     else
      if (p_p.Max != 0)=true then
       k1 true
      else
       k1 (decide (0 < (p_p.L.n:Int)))
 else
  if (p_p.Kind == 1)=true then
   lt (fun (z2:Bool)=>
    if z2=true then
     some 2
    else
     (N2 N p_p.Is).bind fun y2=>
     if (!y2)=true then
      some 14
     else
      some 0
    ) fun k2=>
    if (((0 == 0) && (0 == 0)) != true)=true then
     k2 true
    else
     if (p_p.Min != 0)=true then
      k2 true
     else
      if (p_p.Max != 0)=true then
       k2 true
      else
       k2 (decide (0 < (p_p.L.n:Int)))
  else
   lt (fun (z3:Int × Int)=>
    if (((((((p_p.Is.Plus == 0) && (p_p.Is.Minus == 0)) != true) || p_p.Not) || (z3.1 != 0)) || (z3.2 != 0)) || (decide (0 < 0)))=true then
     some 2
    else
     (N2 N p_p.Is).bind fun y3=>
     if (!y3)=true then
      some 14
     else
      some 0
    ) fun k3=>
    if (if (p_p.Kind == 3)=true then p_p.Kind == 3 else p_p.Kind == 4)=true then
     k3 (p_p.Min,p_p.Max)
    else
     if (p_p.Kind == 5)=true then
      if (((((p_p.L.n:Int) != 1) || (decide (p_p.Min < 0))) || (decide (32 < p_p.Min))) || ((p_p.Max != (-1)) && ((decide (p_p.Max < p_p.Min)) || (decide (32 < p_p.Max)))))=true then
       some 2
      else
       k3 (0,0)
     else
      some 2
theorem Bg0 {N:Nat} {p_p:Pat}   {y:Int} (h:Z3 N p_p=some y) :
 FunO S AD0 [(.p (.agg (B6 p_p)))] [] (pN y) ([]) []:=by
 unfold Z3 at h
 refine A6 hS Bf2 ?_
 obtain ⟨t1,ht1⟩:∃ x:Bool,x=(if (p_p.Kind == 0)=true then p_p.Kind == 0 else (if (p_p.Kind == 2)=true then p_p.Kind == 2 else p_p.Kind == 6)):=⟨_,rfl⟩
 refine S9 hS trivial (B0 hS) 0 ⟨[(8,(pB t1)),(7,(pN p_p.Kind)),(3,(.reg 4000 0)),(1,(.reg 2000 0))], [(4000,(.cells [(pN 0),(pU p_p.Is.Plus),(pU p_p.Is.Minus),(pB p_p.Not),(pN p_p.Min),(pN p_p.Max),(.p (.sl false 7 p_p.L.n (Ad2 p_p)))])),(2000,(.cells ((B6 p_p).map .p)))]⟩ (fun M1 hb1=>?_) ?_
 ·refine A1 hS trivial (b:=p_p.Kind == 0) (fun c3=>?_) (fun c3=>?_)
  ·exact hb1 _ [(2000,2000),(4000,4000)] _ trivial (by kernel_rfl) (by kernel_rfl) (klR [(0, .eq (.bb (p_p.Kind == 0)) (.bb t1))] (al1 (by simp only [ht1,c3,Leaf.ok,pm,if_true,if_false]) al0))
  ·refine A1 hS trivial (b:=p_p.Kind == 2) (fun c4=>?_) (fun c4=>?_)
   ·exact hb1 _ [(2000,2000),(4000,4000)] _ trivial (by kernel_rfl) (by kernel_rfl) (klR [(0, .eq (.bb (p_p.Kind == 2)) (.bb t1))] (al1 (by simp only [ht1,c3,c4,Leaf.ok,pm,if_true,if_false]) al0))
   ·exact hb1 _ [(2000,2000),(4000,4000)] _ trivial (by kernel_rfl) (by kernel_rfl) (klR [(0, .eq (.bb (p_p.Kind == 6)) (.bb t1))] (al1 (by simp only [ht1,c3,c4,Leaf.ok,pm,if_true,if_false]) al0))
 ·subst ht1
  refine A1 hS trivial (b:=(if (p_p.Kind == 0)=true then p_p.Kind == 0 else (if (p_p.Kind == 2)=true then p_p.Kind == 2 else p_p.Kind == 6))) (fun c28=>?_) (fun c28=>?_)
  ·replace h:=itT c28 h
   refine AH1 hS (by decide +kernel:Cs5 Tryz.prog B2=true) (B0 hS) h 0 (fun z1=>⟨[(57,(pB z1)),(1,(.reg 2000 0))], [(2000,(.cells ((B6 p_p).map .p)))]⟩) (fun M4 k1 hb4 h=>?_) (fun z1 h=>?_)
   ·refine A7 hS trivial (b:=(((p_p.Is.Plus == 0) && (p_p.Is.Minus == 0)) != true)) (fun c37=>?_) (fun c37=>?_)
    ·replace h:=itT c37 h
     exact hb4 _ [(2000,2000)] _ true trivial h
    ·replace h:=itF c37 h
     refine A7 hS trivial (b:=p_p.Not) (fun c38=>?_) (fun c38=>?_)
     ·replace h:=itT c38 h
      exact hb4 _ [(2000,2000)] _ true trivial h
     ·replace h:=itF c38 h
      refine A7 hS trivial (b:=p_p.Min != 0) (fun c39=>?_) (fun c39=>?_)
      ·replace h:=itT c39 h
       exact hb4 _ [(2000,2000)] _ true trivial h
      ·replace h:=itF c39 h
       refine A7 hS trivial (b:=p_p.Max != 0) (fun c40=>?_) (fun c40=>?_)
       ·replace h:=itT c40 h
        exact hb4 _ [(2000,2000)] _ true trivial h
       ·replace h:=itF c40 h
        refine J7 hS trivial 79 ⟨[(78,(.p (vSl 7 B6 p_p.L))),(76,(.p (.v (.bool false)))),(1,(.reg 2000 0))], [(2000,(.cells ((B6 p_p).map .p)))]⟩ (ids:=[(2000,2000)]) ?_ (hle:=(klR [(0, .fn p_p.L.n p_p.L.n (Ad2 p_p) (fun i=>B6 (p_p.L.g i)))] (al1 ⟨rfl,M9 p_p⟩ al0)))
        exact hb4 _ [(2000,2000)] _ (decide (0 < (p_p.L.n:Int))) trivial h
   ·refine A1 hS trivial (b:=z1) (fun c41=>?_) (fun c41=>?_)
    ·replace h:=itT c41 h
     obtain rfl:=A3 h
     exact B1 hS trivial [] ⟨rfl,rfl,rfl⟩
    ·replace h:=itF c41 h
     obtain ⟨y1,e1,h⟩:=A4 h
     refine A2 hS [] trivial (An5 hS hL e1) ?_
     refine A1 hS trivial (b:=!y1) (fun c42=>?_) (fun c42=>?_)
     ·replace h:=itT c42 h
      obtain rfl:=A3 h
      exact B1 hS trivial [] ⟨rfl,rfl,rfl⟩
     ·replace h:=itF c42 h
      obtain rfl:=A3 h
      exact B1 hS trivial [] ⟨rfl,rfl,rfl⟩
  ·replace h:=itF c28 h
   refine A1 hS trivial (b:=p_p.Kind == 1) (fun c64=>?_) (fun c64=>?_)
   ·replace h:=itT c64 h
    refine AH1 hS (by decide +kernel:Cs5 Tryz.prog B2=true) (B0 hS) h 0 (fun z2=>⟨[(57,(pB z2)),(1,(.reg 2000 0))], [(2000,(.cells ((B6 p_p).map .p)))]⟩) (fun M7 k2 hb7 h=>?_) (fun z2 h=>?_)
    ·refine A7 hS trivial (b:=(((0 == 0) && (0 == 0)) != true)) (fun c73=>?_) (fun c73=>?_)
     ·replace h:=itT c73 h
      exact hb7 _ [(2000,2000)] _ true trivial h
     ·replace h:=itF c73 h
      refine A7 hS trivial (b:=false) (fun c74=>?_) (fun c74=>?_)
      ·exact Bool.noConfusion ((rfl:false=false).symm.trans c74)
      ·refine A7 hS trivial (b:=p_p.Min != 0) (fun c75=>?_) (fun c75=>?_)
       ·replace h:=itT c75 h
        exact hb7 _ [(2000,2000)] _ true trivial h
       ·replace h:=itF c75 h
        refine A7 hS trivial (b:=p_p.Max != 0) (fun c76=>?_) (fun c76=>?_)
        ·replace h:=itT c76 h
         exact hb7 _ [(2000,2000)] _ true trivial h
        ·replace h:=itF c76 h
         refine J7 hS trivial 79 ⟨[(78,(.p (vSl 7 B6 p_p.L))),(76,(.p (.v (.bool false)))),(1,(.reg 2000 0))], [(2000,(.cells ((B6 p_p).map .p)))]⟩ (ids:=[(2000,2000)]) ?_ (hle:=(klR [(0, .fn p_p.L.n p_p.L.n (Ad2 p_p) (fun i=>B6 (p_p.L.g i)))] (al1 ⟨rfl,M9 p_p⟩ al0)))
         exact hb7 _ [(2000,2000)] _ (decide (0 < (p_p.L.n:Int))) trivial h
    ·refine A1 hS trivial (b:=z2) (fun c77=>?_) (fun c77=>?_)
     ·replace h:=itT c77 h
      obtain rfl:=A3 h
      exact B1 hS trivial [] ⟨rfl,rfl,rfl⟩
     ·replace h:=itF c77 h
      obtain ⟨y2,e2,h⟩:=A4 h
      refine A2 hS [] trivial (An5 hS hL e2) ?_
      refine A1 hS trivial (b:=!y2) (fun c78=>?_) (fun c78=>?_)
      ·replace h:=itT c78 h
       obtain rfl:=A3 h
       exact B1 hS trivial [] ⟨rfl,rfl,rfl⟩
      ·replace h:=itF c78 h
       obtain rfl:=A3 h
       exact B1 hS trivial [] ⟨rfl,rfl,rfl⟩
   ·replace h:=itF c64 h
    obtain ⟨t6,ht6⟩:∃ x:Bool,x=(if (p_p.Kind == 3)=true then p_p.Kind == 3 else p_p.Kind == 4):=⟨_,rfl⟩
    refine S9 hS trivial (B0 hS) 0 ⟨[(17,(pB t6)),(7,(pN p_p.Kind)),(3,(.reg 4000 0)),(1,(.reg 2000 0))], [(4000,(.cells [(pN 0),(pU p_p.Is.Plus),(pU p_p.Is.Minus),(pB p_p.Not),(pN p_p.Min),(pN p_p.Max),(.p (.sl false 7 p_p.L.n (Ad2 p_p)))])),(2000,(.cells ((B6 p_p).map .p)))]⟩ (fun M8 hb8=>?_) ?_
    ·refine A1 hS trivial (b:=p_p.Kind == 3) (fun c80=>?_) (fun c80=>?_)
     ·exact hb8 _ [(2000,2000),(4000,4000)] _ trivial (by kernel_rfl) (by kernel_rfl) (klR [(0, .eq (.bb (p_p.Kind == 3)) (.bb t6))] (al1 (by simp only [ht6,c80,Leaf.ok,pm,if_true,if_false]) al0))
     ·exact hb8 _ [(2000,2000),(4000,4000)] _ trivial (by kernel_rfl) (by kernel_rfl) (klR [(0, .eq (.bb (p_p.Kind == 4)) (.bb t6))] (al1 (by simp only [ht6,c80,Leaf.ok,pm,if_true,if_false]) al0))
    ·subst ht6
     refine AH1 hS trivial (B0 hS) h 0 (fun z3=>⟨[(3,(.reg 4000 0)),(1,(.reg 2000 0))], [(4000,(.cells [(pN 0),(pU p_p.Is.Plus),(pU p_p.Is.Minus),(pB p_p.Not),(pN z3.1),(pN z3.2),(.p P6)])),(2000,(.cells ((B6 p_p).map .p)))]⟩) (fun M10 k3 hb10 h=>?_) (fun z3 h=>?_)
     ·refine A1 hS trivial (b:=(if (p_p.Kind == 3)=true then p_p.Kind == 3 else p_p.Kind == 4)) (fun c96=>?_) (fun c96=>?_)
      ·replace h:=itT c96 h
       exact hb10 _ [(2000,2000),(4000,4000)] _ (p_p.Min,p_p.Max) trivial h
      ·replace h:=itF c96 h
       refine A1 hS trivial (b:=p_p.Kind == 5) (fun c97=>?_) (fun c97=>?_)
       ·replace h:=itT c97 h
        refine J7 hS trivial 25 ⟨[(24,(.p (vSl 7 B6 p_p.L))),(3,(.reg 4000 0)),(1,(.reg 2000 0))], [(4000,(.cells [(pN 0),(pU p_p.Is.Plus),(pU p_p.Is.Minus),(pB p_p.Not),(pN p_p.Min),(pN p_p.Max),(.p (.sl false 7 p_p.L.n (Ad2 p_p)))])),(2000,(.cells ((B6 p_p).map .p)))]⟩ (ids:=[(2000,2000),(4000,4000)]) ?_ (hle:=(klR [(0, .fn p_p.L.n p_p.L.n (Ad2 p_p) (fun i=>B6 (p_p.L.g i)))] (al1 ⟨rfl,M9 p_p⟩ al0)))
        obtain ⟨t8,ht8⟩:∃ x:Bool,x=(((((p_p.L.n:Int) != 1) || (decide (p_p.Min < 0))) || (decide (32 < p_p.Min))) || ((p_p.Max != (-1)) && ((decide (p_p.Max < p_p.Min)) || (decide (32 < p_p.Max))))):=⟨_,rfl⟩
        refine S9 hS trivial (B0 hS) 0 ⟨[(53,(pB t8)),(3,(.reg 4000 0)),(1,(.reg 2000 0))], [(4000,(.cells [(pN 0),(pU p_p.Is.Plus),(pU p_p.Is.Minus),(pB p_p.Not),(pN p_p.Min),(pN p_p.Max),(.p (.sl false 7 p_p.L.n (Ad2 p_p)))])),(2000,(.cells ((B6 p_p).map .p)))]⟩ (fun M11 hb11=>?_) ?_
        ·refine A7 hS trivial (b:=(p_p.L.n:Int) != 1) (fun c103=>?_) (fun c103=>?_)
         ·exact hb11 _ [(2000,2000),(4000,4000)] _ trivial (by kernel_rfl) (by kernel_rfl) (klR [(0, .eq (.bb true) (.bb t8))] (al1 (by simp only [ht8,c103,Leaf.ok,pm,if_true,if_false]) al0))
         ·refine A7 hS trivial (b:=decide (p_p.Min < 0)) (fun c104=>?_) (fun c104=>?_)
          ·exact hb11 _ [(2000,2000),(4000,4000)] _ trivial (by kernel_rfl) (by kernel_rfl) (klR [(0, .eq (.bb true) (.bb t8))] (al1 (by simp only [ht8,c103,c104,Leaf.ok,pm,if_true,if_false]) al0))
          ·refine A7 hS trivial (b:=decide (32 < p_p.Min)) (fun c105=>?_) (fun c105=>?_)
           ·exact hb11 _ [(2000,2000),(4000,4000)] _ trivial (by kernel_rfl) (by kernel_rfl) (klR [(0, .eq (.bb true) (.bb t8))] (al1 (by simp only [ht8,c103,c104,c105,Leaf.ok,pm,if_true,if_false]) al0))
           ·refine A7 hS trivial (b:=p_p.Max != (-1)) (fun c106=>?_) (fun c106=>?_)
            ·refine A7 hS trivial (b:=decide (p_p.Max < p_p.Min)) (fun c107=>?_) (fun c107=>?_)
             ·exact hb11 _ [(2000,2000),(4000,4000)] _ trivial (by kernel_rfl) (by kernel_rfl) (klR [(0, .eq (.bb true) (.bb t8))] (al1 (by simp only [ht8,c103,c104,c105,c106,c107,Leaf.ok,pm,if_true,if_false]) al0))
             ·exact hb11 _ [(2000,2000),(4000,4000)] _ trivial (by kernel_rfl) (by kernel_rfl) (klR [(0, .eq (.bb (decide (32 < p_p.Max))) (.bb t8))] (al1 (by simp only [ht8,c103,c104,c105,c106,c107,Leaf.ok,pm,if_true,if_false]) al0))
            ·exact hb11 _ [(2000,2000),(4000,4000)] _ trivial (by kernel_rfl) (by kernel_rfl) (klR [(0, .eq (.bb false) (.bb t8))] (al1 (by simp only [ht8,c103,c104,c105,c106,Leaf.ok,pm,if_true,if_false]) al0))
        ·subst ht8
         refine A1 hS trivial (b:=(((((p_p.L.n:Int) != 1) || (decide (p_p.Min < 0))) || (decide (32 < p_p.Min))) || ((p_p.Max != (-1)) && ((decide (p_p.Max < p_p.Min)) || (decide (32 < p_p.Max)))))) (fun c108=>?_) (fun c108=>?_)
         ·replace h:=itT c108 h
          obtain rfl:=A3 h
          exact B1 hS trivial [] ⟨rfl,rfl,rfl⟩
         ·replace h:=itF c108 h
          exact hb10 _ [(2000,2000),(4000,4000)] _ (0,0) trivial h
       ·replace h:=itF c97 h
        obtain rfl:=A3 h
        exact B1 hS trivial [] ⟨rfl,rfl,rfl⟩
     ·obtain ⟨t9,ht9⟩:∃ x:Bool,x=(((((((p_p.Is.Plus == 0) && (p_p.Is.Minus == 0)) != true) || p_p.Not) || (z3.1 != 0)) || (z3.2 != 0)) || (decide (0 < 0))):=⟨_,rfl⟩
      refine S9 hS (by decide +kernel:Cs5 Tryz.prog B2=true) (B0 hS) 0 ⟨[(57,(pB t9)),(1,(.reg 2000 0))], [(2000,(.cells ((B6 p_p).map .p)))]⟩ (fun M12 hb12=>?_) ?_
      ·refine A7 hS trivial (b:=(((p_p.Is.Plus == 0) && (p_p.Is.Minus == 0)) != true)) (fun c113=>?_) (fun c113=>?_)
       ·exact hb12 _ [(2000,2000)] _ trivial (by kernel_rfl) (by kernel_rfl) (klR [(0, .eq (.bb true) (.bb t9))] (al1 (by simp only [ht9,c113,Leaf.ok,pm,if_true,if_false]) al0))
       ·refine A7 hS trivial (b:=p_p.Not) (fun c114=>?_) (fun c114=>?_)
        ·exact hb12 _ [(2000,2000)] _ trivial (by kernel_rfl) (by kernel_rfl) (klR [(0, .eq (.bb true) (.bb t9))] (al1 (by simp only [ht9,c113,c114,Leaf.ok,pm,if_true,if_false]) al0))
        ·refine A7 hS trivial (b:=z3.1 != 0) (fun c115=>?_) (fun c115=>?_)
         ·exact hb12 _ [(2000,2000)] _ trivial (by kernel_rfl) (by kernel_rfl) (klR [(0, .eq (.bb true) (.bb t9))] (al1 (by simp only [ht9,c113,c114,c115,Leaf.ok,pm,if_true,if_false]) al0))
         ·refine A7 hS trivial (b:=z3.2 != 0) (fun c116=>?_) (fun c116=>?_)
          ·exact hb12 _ [(2000,2000)] _ trivial (by kernel_rfl) (by kernel_rfl) (klR [(0, .eq (.bb true) (.bb t9))] (al1 (by simp only [ht9,c113,c114,c115,c116,Leaf.ok,pm,if_true,if_false]) al0))
          ·exact hb12 _ [(2000,2000)] _ trivial (by kernel_rfl) (by kernel_rfl) (klR [(0, .eq (.bb (decide (0 < 0))) (.bb t9))] (al1 (by simp only [ht9,c113,c114,c115,c116,Leaf.ok,pm,if_true,if_false]) al0))
      ·subst ht9
       refine A1 hS trivial (b:=(((((((p_p.Is.Plus == 0) && (p_p.Is.Minus == 0)) != true) || p_p.Not) || (z3.1 != 0)) || (z3.2 != 0)) || (decide (0 < 0)))) (fun c117=>?_) (fun c117=>?_)
       ·replace h:=itT c117 h
        obtain rfl:=A3 h
        exact B1 hS trivial [] ⟨rfl,rfl,rfl⟩
       ·replace h:=itF c117 h
        obtain ⟨y3,e3,h⟩:=A4 h
        refine A2 hS [] trivial (An5 hS hL e3) ?_
        refine A1 hS trivial (b:=!y3) (fun c118=>?_) (fun c118=>?_)
        ·replace h:=itT c118 h
         obtain rfl:=A3 h
         exact B1 hS trivial [] ⟨rfl,rfl,rfl⟩
        ·replace h:=itF c118 h
         obtain rfl:=A3 h
         exact B1 hS trivial [] ⟨rfl,rfl,rfl⟩
def Aq7 (N:Nat) (p_p:Pat):Option Int:=
 if ((decide (p_p.Kind < 0)) || (decide (6 < p_p.Kind)))=true then
  some 2
 else
  if ((p_p.Kind != 1) && ((((p_p.Is.Plus == 0) && (p_p.Is.Minus == 0)) != true) || p_p.Not))=true then
   some 2
  else
   lt (fun (z1:Bool)=>
    if z1=true then
     some 2
    else
     if ((p_p.Kind != 5) && ((p_p.Min != 0) || (p_p.Max != 0)))=true then
      some 2
     else
      lt (fun (z2:Bool)=>
       if z2=true then
        some 2
       else
        (P3 N p_p.Is).bind fun y1=>
        if (!y1)=true then
         some 14
        else
         some 0
       ) fun k2=>
       if (p_p.Kind == 5)=true then
        if ((p_p.L.n:Int) != 1)=true then
         k2 true
        else
         if (decide (p_p.Min < 0))=true then
          k2 true
         else
          if (decide (32 < p_p.Min))=true then
           k2 true
          else
           if (p_p.Max != (-1))=true then
            if (decide (p_p.Max < p_p.Min))=true then
             k2 true
            else
             k2 (decide (32 < p_p.Max))
           else
            k2 false
       else
        k2 false
    ) fun k1=>
    if (p_p.Kind != 3)=true then
     if (p_p.Kind != 4)=true then
      if (p_p.Kind != 5)=true then
       k1 (decide (0 < (p_p.L.n:Int)))
      else
       k1 false
     else
      k1 false
    else
     k1 false
theorem Cd0 {N:Nat} {p_p:Pat}   {y:Int} (h:Aq7 N p_p=some y) :
 FunO S Bk7 [(.p (.agg (B6 p_p)))] [] (pN y) ([]) []:=by
 unfold Aq7 at h
 refine A6 hS Cb9 ?_
 obtain ⟨t1,ht1⟩:∃ x:Bool,x=((decide (p_p.Kind < 0)) || (decide (6 < p_p.Kind))):=⟨_,rfl⟩
 refine S9 hS trivial (B0 hS) 0 ⟨[(10,(pB t1)),(1,(.reg 2000 0))], [(2000,(.cells ((B6 p_p).map .p)))]⟩ (fun M1 hb1=>?_) ?_
 ·refine A7 hS trivial (b:=decide (p_p.Kind < 0)) (fun c2=>?_) (fun c2=>?_)
  ·exact hb1 _ [(2000,2000)] _ trivial (by kernel_rfl) (by kernel_rfl) (klR [(0, .eq (.bb true) (.bb t1))] (al1 (by simp only [ht1,c2,Leaf.ok,pm,if_true,if_false]) al0))
  ·exact hb1 _ [(2000,2000)] _ trivial (by kernel_rfl) (by kernel_rfl) (klR [(0, .eq (.bb (decide (6 < p_p.Kind))) (.bb t1))] (al1 (by simp only [ht1,c2,Leaf.ok,pm,if_true,if_false]) al0))
 ·subst ht1
  refine A1 hS trivial (b:=((decide (p_p.Kind < 0)) || (decide (6 < p_p.Kind)))) (fun c3=>?_) (fun c3=>?_)
  ·replace h:=itT c3 h
   obtain rfl:=A3 h
   exact B1 hS trivial [] ⟨rfl,rfl,rfl⟩
  ·replace h:=itF c3 h
   obtain ⟨t2,ht2⟩:∃ x:Bool,x=((p_p.Kind != 1) && ((((p_p.Is.Plus == 0) && (p_p.Is.Minus == 0)) != true) || p_p.Not)):=⟨_,rfl⟩
   refine S9 hS trivial (B0 hS) 0 ⟨[(23,(pB t2)),(1,(.reg 2000 0))], [(2000,(.cells ((B6 p_p).map .p)))]⟩ (fun M2 hb2=>?_) ?_
   ·refine A7 hS trivial (b:=p_p.Kind != 1) (fun c6=>?_) (fun c6=>?_)
    ·refine A7 hS (by decide +kernel:Cs5 Tryz.prog B2=true) (b:=(((p_p.Is.Plus == 0) && (p_p.Is.Minus == 0)) != true)) (fun c7=>?_) (fun c7=>?_)
     ·exact hb2 _ [(2000,2000)] _ trivial (by kernel_rfl) (by kernel_rfl) (klR [(0, .eq (.bb true) (.bb t2))] (al1 (by simp only [ht2,c6,c7,Leaf.ok,pm,if_true,if_false]) al0))
     ·exact hb2 _ [(2000,2000)] _ trivial (by kernel_rfl) (by kernel_rfl) (klR [(0, .eq (.bb p_p.Not) (.bb t2))] (al1 (by simp only [ht2,c6,c7,Leaf.ok,pm,if_true,if_false]) al0))
    ·exact hb2 _ [(2000,2000)] _ trivial (by kernel_rfl) (by kernel_rfl) (klR [(0, .eq (.bb false) (.bb t2))] (al1 (by simp only [ht2,c6,Leaf.ok,pm,if_true,if_false]) al0))
   ·subst ht2
    refine A1 hS trivial (b:=((p_p.Kind != 1) && ((((p_p.Is.Plus == 0) && (p_p.Is.Minus == 0)) != true) || p_p.Not))) (fun c8=>?_) (fun c8=>?_)
    ·replace h:=itT c8 h
     obtain rfl:=A3 h
     exact B1 hS trivial [] ⟨rfl,rfl,rfl⟩
    ·replace h:=itF c8 h
     refine AH1 hS trivial (B0 hS) h 0 (fun z1=>⟨[(42,(pB z1)),(1,(.reg 2000 0))], [(2000,(.cells ((B6 p_p).map .p)))]⟩) (fun M3 k1 hb3 h=>?_) (fun z1 h=>?_)
     ·refine A7 hS trivial (b:=p_p.Kind != 3) (fun c15=>?_) (fun c15=>?_)
      ·replace h:=itT c15 h
       refine A7 hS trivial (b:=p_p.Kind != 4) (fun c16=>?_) (fun c16=>?_)
       ·replace h:=itT c16 h
        refine A7 hS trivial (b:=p_p.Kind != 5) (fun c17=>?_) (fun c17=>?_)
        ·replace h:=itT c17 h
         refine J7 hS trivial 40 ⟨[(39,(.p (vSl 7 B6 p_p.L))),(37,(.p (.v (.bool true)))),(1,(.reg 2000 0))], [(2000,(.cells ((B6 p_p).map .p)))]⟩ (ids:=[(2000,2000)]) ?_ (hle:=(klR [(0, .fn p_p.L.n p_p.L.n (Ad2 p_p) (fun i=>B6 (p_p.L.g i)))] (al1 ⟨rfl,M9 p_p⟩ al0)))
         exact hb3 _ [(2000,2000)] _ (decide (0 < (p_p.L.n:Int))) trivial h
        ·replace h:=itF c17 h
         exact hb3 _ [(2000,2000)] _ false trivial h
       ·replace h:=itF c16 h
        exact hb3 _ [(2000,2000)] _ false trivial h
      ·replace h:=itF c15 h
       exact hb3 _ [(2000,2000)] _ false trivial h
     ·refine A1 hS trivial (b:=z1) (fun c18=>?_) (fun c18=>?_)
      ·replace h:=itT c18 h
       obtain rfl:=A3 h
       exact B1 hS trivial [] ⟨rfl,rfl,rfl⟩
      ·replace h:=itF c18 h
       obtain ⟨t3,ht3⟩:∃ x:Bool,x=((p_p.Kind != 5) && ((p_p.Min != 0) || (p_p.Max != 0))):=⟨_,rfl⟩
       refine S9 hS trivial (B0 hS) 0 ⟨[(55,(pB t3)),(1,(.reg 2000 0))], [(2000,(.cells ((B6 p_p).map .p)))]⟩ (fun M4 hb4=>?_) ?_
       ·refine A7 hS trivial (b:=p_p.Kind != 5) (fun c21=>?_) (fun c21=>?_)
        ·refine A7 hS trivial (b:=p_p.Min != 0) (fun c22=>?_) (fun c22=>?_)
         ·exact hb4 _ [(2000,2000)] _ trivial (by kernel_rfl) (by kernel_rfl) (klR [(0, .eq (.bb true) (.bb t3))] (al1 (by simp only [ht3,c21,c22,Leaf.ok,pm,if_true,if_false]) al0))
         ·exact hb4 _ [(2000,2000)] _ trivial (by kernel_rfl) (by kernel_rfl) (klR [(0, .eq (.bb (p_p.Max != 0)) (.bb t3))] (al1 (by simp only [ht3,c21,c22,Leaf.ok,pm,if_true,if_false]) al0))
        ·exact hb4 _ [(2000,2000)] _ trivial (by kernel_rfl) (by kernel_rfl) (klR [(0, .eq (.bb false) (.bb t3))] (al1 (by simp only [ht3,c21,Leaf.ok,pm,if_true,if_false]) al0))
       ·subst ht3
        refine A1 hS trivial (b:=((p_p.Kind != 5) && ((p_p.Min != 0) || (p_p.Max != 0)))) (fun c23=>?_) (fun c23=>?_)
        ·replace h:=itT c23 h
         obtain rfl:=A3 h
         exact B1 hS trivial [] ⟨rfl,rfl,rfl⟩
        ·replace h:=itF c23 h
         refine AH1 hS trivial (B0 hS) h 0 (fun z2=>⟨[(91,(pB z2)),(1,(.reg 2000 0))], [(2000,(.cells ((B6 p_p).map .p)))]⟩) (fun M5 k2 hb5 h=>?_) (fun z2 h=>?_)
         ·refine A7 hS trivial (b:=p_p.Kind == 5) (fun c31=>?_) (fun c31=>?_)
          ·replace h:=itT c31 h
           refine J7 hS trivial 62 ⟨[(61,(.p (vSl 7 B6 p_p.L))),(59,(.p (.v (.bool true)))),(1,(.reg 2000 0))], [(2000,(.cells ((B6 p_p).map .p)))]⟩ (ids:=[(2000,2000)]) ?_ (hle:=(klR [(0, .fn p_p.L.n p_p.L.n (Ad2 p_p) (fun i=>B6 (p_p.L.g i)))] (al1 ⟨rfl,M9 p_p⟩ al0)))
           refine A7 hS trivial (b:=(p_p.L.n:Int) != 1) (fun c32=>?_) (fun c32=>?_)
           ·replace h:=itT c32 h
            exact hb5 _ [(2000,2000)] _ true trivial h
           ·replace h:=itF c32 h
            refine A7 hS trivial (b:=decide (p_p.Min < 0)) (fun c33=>?_) (fun c33=>?_)
            ·replace h:=itT c33 h
             exact hb5 _ [(2000,2000)] _ true trivial h
            ·replace h:=itF c33 h
             refine A7 hS trivial (b:=decide (32 < p_p.Min)) (fun c34=>?_) (fun c34=>?_)
             ·replace h:=itT c34 h
              exact hb5 _ [(2000,2000)] _ true trivial h
             ·replace h:=itF c34 h
              refine A7 hS trivial (b:=p_p.Max != (-1)) (fun c35=>?_) (fun c35=>?_)
              ·replace h:=itT c35 h
               refine A7 hS trivial (b:=decide (p_p.Max < p_p.Min)) (fun c36=>?_) (fun c36=>?_)
               ·replace h:=itT c36 h
                exact hb5 _ [(2000,2000)] _ true trivial h
               ·replace h:=itF c36 h
                exact hb5 _ [(2000,2000)] _ (decide (32 < p_p.Max)) trivial h
              ·replace h:=itF c35 h
               exact hb5 _ [(2000,2000)] _ false trivial h
          ·replace h:=itF c31 h
           exact hb5 _ [(2000,2000)] _ false trivial h
         ·refine A1 hS trivial (b:=z2) (fun c37=>?_) (fun c37=>?_)
          ·replace h:=itT c37 h
           obtain rfl:=A3 h
           exact B1 hS trivial [] ⟨rfl,rfl,rfl⟩
          ·replace h:=itF c37 h
           obtain ⟨y1,e1,h⟩:=A4 h
           refine A2 hS [] trivial (Ba3 hS hL e1) ?_
           refine A1 hS trivial (b:=!y1) (fun c38=>?_) (fun c38=>?_)
           ·replace h:=itT c38 h
            obtain rfl:=A3 h
            exact B1 hS trivial [] ⟨rfl,rfl,rfl⟩
           ·replace h:=itF c38 h
            obtain rfl:=A3 h
            exact B1 hS trivial [] ⟨rfl,rfl,rfl⟩
def Al7 (N:Nat) (p_s:Sound) (p_cond:Sound):Option Bool:=
 some (((C6 .and .u32 p_s.Plus p_cond.Plus) == p_cond.Plus) && ((C6 .and .u32 p_s.Minus p_cond.Minus) == p_cond.Minus))
theorem Ba4 {N:Nat} {p_s:Sound} {p_cond:Sound}   {y:Bool} (h:Al7 N p_s p_cond=some y) :
 FunO S Ax7 [(.p (.agg (A0 p_s))),(.p (.agg (A0 p_cond)))] [] (pB y) ([]) []:=by
 unfold Al7 at h
 refine A6 hS AZ3 ?_
 obtain ⟨t1,ht1⟩:∃ x:Bool,x=(((C6 .and .u32 p_s.Plus p_cond.Plus) == p_cond.Plus) && ((C6 .and .u32 p_s.Minus p_cond.Minus) == p_cond.Minus)):=⟨_,rfl⟩
 refine S9 hS trivial (B0 hS) 0 ⟨[(4,(pB t1))], []⟩ (fun M1 hb1=>?_) ?_
 ·refine A7 hS trivial (b:=(C6 .and .u32 p_s.Plus p_cond.Plus) == p_cond.Plus) (fun c2=>?_) (fun c2=>?_)
  ·exact hb1 _ [] _ trivial (by kernel_rfl) (by kernel_rfl) (klR [(0, .eq (.bb ((C6 .and .u32 p_s.Minus p_cond.Minus) == p_cond.Minus)) (.bb t1))] (al1 (by simp only [ht1,c2,Leaf.ok,pm,if_true,if_false]) al0))
  ·exact hb1 _ [] _ trivial (by kernel_rfl) (by kernel_rfl) (klR [(0, .eq (.bb false) (.bb t1))] (al1 (by simp only [ht1,c2,Leaf.ok,pm,if_true,if_false]) al0))
 ·subst ht1
  obtain rfl:=A3 h
  exact B1 hS trivial [] ⟨rfl,rfl,rfl⟩
def Aj8 (N:Nat) (p_n:Int):Option (Sl Int):=
 if ((0:Int)<=(IntKind.wrap .i64 (p_n+1))/\(IntKind.wrap .i64 (p_n+1))<=(IntKind.wrap .i64 (p_n+1))/\(IntKind.wrap .i64 (p_n+1)) * 8<=140737488355328/\(IntKind.wrap .i64 (p_n+1))<=140737488355328) then
  V9 N (fun self1 (x1:Sl Int) (x2:Int)=>
   if (decide (x2<=p_n))=true then
    if (((0:Int)<=x2/\((0:Int)<=x2/\x2 < (x1.n:Int)))/\x2.toNat < x1.n) then
     self1 (x1.upd x2.toNat (shI .shl .u64 1 x2)) (IntKind.wrap .i64 (x2+1))
    else none
   else
    some x1
   ) (Sl.rep (IntKind.wrap .i64 (p_n+1)).toNat 0:Sl Int) 0
 else none
theorem Bl6 {N:Nat} {p_n:Int}   {y:(Sl Int)} (h:Aj8 N p_n=some y) :
 FunO S Bl3 [(pN p_n)] [] (.vec 0) ([(.vec E1 1 y.n (fun i=>(cI .u64) (y.g i)) true)]) []:=by
 unfold Aj8 at h
 refine A6 hS Cc5 ?_
 obtain ⟨c1,h⟩:=F3 h
 refine H9 hS c1 h (fun x1 x2=>⟨[(4,(pN x2)),(3,(.vec 8000)),(0,(pN p_n))], [(8000,(.vec E1 1 x1.n (fun i=>(cI .u64) (x1.g i)) false))]⟩) (ids:=[(8000,8000)]) (fun _ _ _ _ _ self1 x1 x2 hb1 h=>?_)
 refine A1 hS trivial (b:=decide (x2<=p_n)) (fun c4=>?_) (fun c4=>?_)
 ·replace h:=itT c4 h
  obtain ⟨c5,h⟩:=F3 h
  exact hb1 _ [(8000,8000)] _ (x1.upd x2.toNat (shI .shl .u64 1 x2)) (IntKind.wrap .i64 (x2+1)) (And.intro (And.intro c5.1.1 c5.1.2) (And.intro (rfl:(1:Nat)=1) (And.intro c5.2 (by decide:(1:Nat)<=1)))) h (by kernel_rfl) (by kernel_rfl) (klR [(2, .fn x1.n (x1.upd x2.toNat (shI .shl .u64 1 x2)).n (fun l=>if l=x2.toNat then splice ((fun i=>(cI .u64) (x1.g i)) l) 0 [(pI .u64 (shI .shl .u64 1 x2))] else (fun i=>(cI .u64) (x1.g i)) l) (fun i=>(cI .u64) ((x1.upd x2.toNat (shI .shl .u64 1 x2)).g i)))] (al1 ⟨rfl,(CH9 (c:=(cI .u64)) (v:=x1) (x:=shI .shl .u64 1 x2) same (fun _=>by first | rfl | (dsimp only;split <;> rfl)))⟩ al0))
 ·replace h:=itF c4 h
  obtain rfl:=A3 h
  exact B4 hS trivial ⟨[(2,(.vec 8000))], [(8000,(.vec E1 1 x1.n (fun i=>(cI .u64) (x1.g i)) true))]⟩ [8000] (ids:=[(8000,8000)]) ⟨rfl,rfl,rfl⟩
def U6 (N:Nat) (p_x:(Sl Int)) (p_y:(Sl Int)):Option (Sl Int):=
 if ((0:Int)<=(p_x.n:Int)/\(p_x.n:Int)<=(p_x.n:Int)/\(p_x.n:Int) * 8<=140737488355328/\(p_x.n:Int)<=140737488355328) then
  V9 N (fun self3 (x3:Sl Int) (x4:Int)=>
   if (decide (x4 < (p_x.n:Int)))=true then
    V9 N (fun self4 (x7:Sl Int) (x8:Int)=>
     if (decide (x8 < (p_y.n:Int)))=true then
      if (((0:Int)<=x4/\x4 < (p_x.n:Int))/\(0:Int)<=x8) then
       if ((C6 .and .u64 (shI .shr .u64 (p_x.g x4.toNat) x8) 1) == 1)=true then
        if ((((((0:Int)<=x4/\x4 < (x7.n:Int))/\x4.toNat < x7.n)/\((0:Int)<=x8/\x8 < (p_y.n:Int)))/\((0:Int)<=x4/\x4 < (x7.n:Int)))/\x4.toNat < x7.n) then
         self4 (x7.upd x4.toNat (C6 .or .u64 (x7.g x4.toNat) (p_y.g x8.toNat))) (IntKind.wrap .i64 (x8+1))
        else none
       else
        self4 x7 (IntKind.wrap .i64 (x8+1))
      else none
     else
      self3 x7 (IntKind.wrap .i64 (x4+1))
     ) x3 0
   else
    some x3
   ) (Sl.rep (p_x.n:Int).toNat 0:Sl Int) 0
 else none
theorem Ay4 {N:Nat} {p_x:(Sl Int)} {p_y:(Sl Int)}   {y:(Sl Int)} (h:U6 N p_x p_y=some y) :
 FunO S AQ5 [(.p (vSl 1 (cI .u64) p_x)),(.p (vSl 1 (cI .u64) p_y))] [] (.vec 0) ([(.vec E1 1 y.n (fun i=>(cI .u64) (y.g i)) true)]) []:=by
 unfold U6 at h
 refine A6 hS BC2 ?_
 obtain ⟨c1,h⟩:=F3 h
 refine H9 hS c1 h (fun x3 x4=>⟨[(6,(pN x4)),(5,(.vec 11000)),(1,(.p (vSl 1 (cI .u64) p_y))),(0,(.p (vSl 1 (cI .u64) p_x)))], [(11000,(.vec E1 1 x3.n (fun i=>(cI .u64) (x3.g i)) false))]⟩) (ids:=[(11000,11000)]) (fun _ _ _ _ _ self3 x3 x4 hb3 h=>?_)
 refine A1 hS trivial (b:=decide (x4 < (p_x.n:Int))) (fun c28=>?_) (fun c28=>?_)
 ·replace h:=itT c28 h
  refine H9 hS trivial h (fun x7 x8=>⟨[(7,(pN x8)),(6,(pN x4)),(5,(.vec 11000)),(1,(.p (vSl 1 (cI .u64) p_y))),(0,(.p (vSl 1 (cI .u64) p_x)))], [(11000,(.vec E1 1 x7.n (fun i=>(cI .u64) (x7.g i)) false))]⟩) (ids:=[(11000,11000)]) (fun _ _ _ _ _ self4 x7 x8 hb4 h=>?_)
  refine A1 hS trivial (b:=decide (x8 < (p_y.n:Int))) (fun c37=>?_) (fun c37=>?_)
  ·replace h:=itT c37 h
   obtain ⟨c38,h⟩:=F3 h
   refine A1 hS c38 (b:=(C6 .and .u64 (shI .shr .u64 (p_x.g x4.toNat) x8) 1) == 1) (fun c39=>?_) (fun c39=>?_)
   ·replace h:=itT c39 h
    refine F0 hS trivial [8,9] ?_
    obtain ⟨c40,h⟩:=F3 h
    refine M0 (And.intro (And.intro (And.intro (And.intro c40.1.1.1.1 c40.1.1.1.2) c40.1.1.2) c40.1.2) (And.intro (rfl:(1:Nat)=1) (And.intro c40.2 (by decide:(1:Nat)<=1)))) ?_
    exact hb4 _ [(11000,11000)] _ (x7.upd x4.toNat (C6 .or .u64 (x7.g x4.toNat) (p_y.g x8.toNat))) (IntKind.wrap .i64 (x8+1)) trivial h (by kernel_rfl) (by kernel_rfl) (klR [(4, .fn x7.n (x7.upd x4.toNat (C6 .or .u64 (x7.g x4.toNat) (p_y.g x8.toNat))).n (fun l=>if l=x4.toNat then splice ((fun i=>(cI .u64) (x7.g i)) l) 0 [(pI .u64 (C6 .or .u64 (x7.g x4.toNat) (p_y.g x8.toNat)))] else (fun i=>(cI .u64) (x7.g i)) l) (fun i=>(cI .u64) ((x7.upd x4.toNat (C6 .or .u64 (x7.g x4.toNat) (p_y.g x8.toNat))).g i)))] (al1 ⟨rfl,(CH9 (c:=(cI .u64)) (v:=x7) (x:=C6 .or .u64 (x7.g x4.toNat) (p_y.g x8.toNat)) same (fun _=>by first | rfl | (dsimp only;split <;> rfl)))⟩ al0))
   ·replace h:=itF c39 h
    exact hb4 _ [(11000,11000)] _ x7 (IntKind.wrap .i64 (x8+1)) trivial h
  ·replace h:=itF c37 h
   exact hb3 _ [(11000,11000)] _ x7 (IntKind.wrap .i64 (x4+1)) trivial h
 ·replace h:=itF c28 h
  obtain rfl:=A3 h
  exact B4 hS trivial ⟨[(4,(.vec 11000))], [(11000,(.vec E1 1 x3.n (fun i=>(cI .u64) (x3.g i)) true))]⟩ [11000] (ids:=[(11000,11000)]) ⟨rfl,rfl,rfl⟩
def Aj9 (N:Nat) (p_x:(Sl Int)) (p_y:(Sl Int)):Option (Sl Int):=
 if ((0:Int)<=(p_x.n:Int)/\(p_x.n:Int)<=(p_x.n:Int)/\(p_x.n:Int) * 8<=140737488355328/\(p_x.n:Int)<=140737488355328) then
  V9 N (fun self1 (x1:Sl Int) (x2:Int)=>
   if (decide (x2 < (p_x.n:Int)))=true then
    if (((((0:Int)<=x2/\x2 < (p_x.n:Int))/\((0:Int)<=x2/\x2 < (p_y.n:Int)))/\((0:Int)<=x2/\x2 < (x1.n:Int)))/\x2.toNat < x1.n) then
     self1 (x1.upd x2.toNat (C6 .or .u64 (p_x.g x2.toNat) (p_y.g x2.toNat))) (IntKind.wrap .i64 (x2+1))
    else none
   else
    some x1
   ) (Sl.rep (p_x.n:Int).toNat 0:Sl Int) 0
 else none
theorem Bl7 {N:Nat} {p_x:(Sl Int)} {p_y:(Sl Int)}   {y:(Sl Int)} (h:Aj9 N p_x p_y=some y) :
 FunO S Bl4 [(.p (vSl 1 (cI .u64) p_x)),(.p (vSl 1 (cI .u64) p_y))] [] (.vec 0) ([(.vec E1 1 y.n (fun i=>(cI .u64) (y.g i)) true)]) []:=by
 unfold Aj9 at h
 refine A6 hS Cc6 ?_
 obtain ⟨c1,h⟩:=F3 h
 refine H9 hS c1 h (fun x1 x2=>⟨[(6,(pN x2)),(5,(.vec 10000)),(1,(.p (vSl 1 (cI .u64) p_y))),(0,(.p (vSl 1 (cI .u64) p_x)))], [(10000,(.vec E1 1 x1.n (fun i=>(cI .u64) (x1.g i)) false))]⟩) (ids:=[(10000,10000)]) (fun _ _ _ _ _ self1 x1 x2 hb1 h=>?_)
 refine A1 hS trivial (b:=decide (x2 < (p_x.n:Int))) (fun c6=>?_) (fun c6=>?_)
 ·replace h:=itT c6 h
  refine F0 hS trivial [4,5,8,9] ?_
  obtain ⟨c7,h⟩:=F3 h
  refine M0 (And.intro (And.intro (And.intro c7.1.1.1 c7.1.1.2) c7.1.2) (And.intro (rfl:(1:Nat)=1) (And.intro c7.2 (by decide:(1:Nat)<=1)))) ?_
  exact hb1 _ [(10000,10000)] _ (x1.upd x2.toNat (C6 .or .u64 (p_x.g x2.toNat) (p_y.g x2.toNat))) (IntKind.wrap .i64 (x2+1)) trivial h (by kernel_rfl) (by kernel_rfl) (klR [(3, .fn x1.n (x1.upd x2.toNat (C6 .or .u64 (p_x.g x2.toNat) (p_y.g x2.toNat))).n (fun l=>if l=x2.toNat then splice ((fun i=>(cI .u64) (x1.g i)) l) 0 [(pI .u64 (C6 .or .u64 (p_x.g x2.toNat) (p_y.g x2.toNat)))] else (fun i=>(cI .u64) (x1.g i)) l) (fun i=>(cI .u64) ((x1.upd x2.toNat (C6 .or .u64 (p_x.g x2.toNat) (p_y.g x2.toNat))).g i)))] (al1 ⟨rfl,(CH9 (c:=(cI .u64)) (v:=x1) (x:=C6 .or .u64 (p_x.g x2.toNat) (p_y.g x2.toNat)) same (fun _=>by first | rfl | (dsimp only;split <;> rfl)))⟩ al0))
 ·replace h:=itF c6 h
  obtain rfl:=A3 h
  exact B4 hS trivial ⟨[(4,(.vec 10000))], [(10000,(.vec E1 1 x1.n (fun i=>(cI .u64) (x1.g i)) true))]⟩ [10000] (ids:=[(10000,10000)]) ⟨rfl,rfl,rfl⟩
def Al8 (N:Nat) (p_x:(Sl Int)) (p_y:(Sl Int)):Option Bool:=
 Ae3 N (fun self1 (x1:Int)=>
  if (decide (x1 < (p_x.n:Int)))=true then
   if (((0:Int)<=x1/\x1 < (p_x.n:Int))/\((0:Int)<=x1/\x1 < (p_y.n:Int))) then
    if ((p_x.g x1.toNat) != (p_y.g x1.toNat))=true then
     some false
    else
     self1 (IntKind.wrap .i64 (x1+1))
   else none
  else
   some true
  ) 0
theorem BO0 {N:Nat} {p_x:(Sl Int)} {p_y:(Sl Int)}   {y:Bool} (h:Al8 N p_x p_y=some y) :
 FunO S AZ4 [(.p (vSl 1 (cI .u64) p_x)),(.p (vSl 1 (cI .u64) p_y))] [] (pB y) ([]) []:=by
 unfold Al8 at h
 refine A6 hS BN1 ?_
 refine U1 hS trivial h (fun x1=>⟨[(5,(pN x1)),(1,(.p (vSl 1 (cI .u64) p_y))),(0,(.p (vSl 1 (cI .u64) p_x)))], []⟩) (ids:=[]) (fun _ _ _ _ _ self1 x1 hb1 h=>?_)
 refine A1 hS trivial (b:=decide (x1 < (p_x.n:Int))) (fun c7=>?_) (fun c7=>?_)
 ·replace h:=itT c7 h
  refine F0 hS trivial [2,3,6,7] ?_
  obtain ⟨c8,h⟩:=F3 h
  refine M0 c8 ?_
  refine A1 hS trivial (b:=(p_x.g x1.toNat) != (p_y.g x1.toNat)) (fun c9=>?_) (fun c9=>?_)
  ·replace h:=itT c9 h
   obtain rfl:=A3 h
   exact B1 hS trivial [] ⟨rfl,rfl,rfl⟩
  ·replace h:=itF c9 h
   exact hb1 _ [] _ (IntKind.wrap .i64 (x1+1)) trivial h
 ·replace h:=itF c7 h
  obtain rfl:=A3 h
  exact B1 hS trivial [] ⟨rfl,rfl,rfl⟩
end Go.AM
