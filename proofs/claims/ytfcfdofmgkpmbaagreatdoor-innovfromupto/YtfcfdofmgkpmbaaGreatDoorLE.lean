/- What a law's walk and its plain proof need, part 5: no condition of its own. -/
import Derived.Test.YtfcfdofmgkpmbaaGreatDoorLD
import Derived.Test.YtfcfdofmgkpmbaaGreatDoorLC
import Derived.RecoverIn
import Derived.Test.YtfcfdofmgkpmbaaGreatDoorProg
import Derived.Lib.SlTrimSet
import Derived.TacticsInMore
set_option linter.defProp false
set_option linter.unusedSimpArgs false
set_option linter.unusedVariables false
set_option linter.unusedSectionVars false
namespace Go.AM
noncomputable abbrev Ak3:=Go.Proofs.Tryz.prog.funcs
def Wf (D:List Deferred)(a:Act):Act:={ a with defers:=a.defers++D }
theorem DN (D:List Deferred)(a:Act)(d:Option Tmp)(v:Value):(Wf D a).put d v=Wf D (a.put d v):=by cases d<;>rfl
theorem GQ {F:Fence}{n:Nat}{P:Program}{ops:Array Oper}{Q:Exit->Act->World->Prop}(D:List Deferred):∀(l:List Nat) (a:Act) (w:World),wpOpsIn F n P ops Q l a w ->
 wpOpsIn F n P ops (fun e a' w'=>∃a0,a' = Wf D a0/\Q e a0 w') l (Wf D a) w
 |[],a,w,h=>⟨a,rfl,h⟩
 |i::l,a,w,h=>by
  have ih:=GQ (F:=F) (n:=n) (P:=P) (ops:=ops) (Q:=Q) D l;simp only[wpOpsIn]at h⊢;have e1:(Wf D a).eval=a.eval:=by funext x;cases x<;>rfl
  have e2:(Wf D a).tmps=a.tmps:=rfl;cases ho:ops[i]? with
  |none=>simp only[ho]at h⊢;exact ih a w h
  |some o=>
   simp only[ho]at h⊢;rw[e2,e1];by_cases hw:Region.wanted o (yielded ops a.tmps)=true
   ·rw[if_pos hw]at h⊢;refine⟨by rw[e1];exact h.1,?_⟩;have h2:=h.2;rw[e1];generalize (o.semAt F.round a.eval).run P w=r at h2;unfold Oper.uponIn at h2⊢;split at h2
    ·rw[DN];exact ih _ _ h2
    ·rw[DN];exact ih _ _ h2
    ·exact ih _ _ h2 |> fun x=>by
      rename_i d w'
      have:({ (Wf D a)with defers:=d::(Wf D a).defers }:Act).put o.dst undef=Wf D (({ a with defers:=d::a.defers }:Act).put o.dst undef):=by rw[<- DN];rfl
      rw[this];exact x
    ·refine⟨h2.1,h2.2.mono ?_⟩;intro e w' he;cases e with
     |returned v=>have:=ih _ _ he;rw[<- DN]at this;exact this
     |panicked ch=>exact⟨a,rfl,he⟩
     |outgrown=>obtain⟨a1,w1,h3⟩:=he;exact⟨Wf D a1,w1,a1,rfl,h3⟩
    ·refine⟨h2.1,fun c cs hr=>?_⟩;obtain⟨v,w',g1,g2⟩:=h2.2 c cs hr;exact⟨v,w',by have:=ih _ _ g1;rw[<- DN]at this;exact this,g2⟩
    ·refine⟨h2.1,h2.2.mono ?_⟩;intro e w' he;cases e with
     |returned v=>have:=ih _ _ he;rw[<- DN]at this;exact this
     |panicked ch=>exact⟨a,rfl,he⟩
     |outgrown=>obtain⟨a1,w1,h3⟩:=he;exact⟨Wf D a1,w1,a1,rfl,h3⟩
    ·exact⟨a,rfl,h2⟩
    ·exact h2.elim
   ·rw[if_neg hw]at h⊢;rw[DN];exact⟨h.1,ih _ _ h.2⟩
section
variable {P:Program}{C:Ctx}{st:St}{rho:Nat->Value}
theorem DO {fn:Func}{R:Ending->World->Prop}{u:FrameMode}(hu:u ≠ .run){tmps:Array Value}{D:List Deferred}(hfin:∀a w,Sat C st a w rho->a.tmps=tmps->LeavesInM Fence.wide 0 P fn tmps R D u w) :∀(ds:List Deferred) (a:Act) (w:World),a.defers=ds->a.tmps=tmps->Sat C st a w rho->LeavesInM Fence.wide 0 P fn tmps R (ds++D) u w
 |[],a,w,hd,ht,h=>hfin a w h ht
 |d::ds,a,w,hd,ht,h=>by obtain⟨r,w',h1,h2,h3⟩:=h.unmark hd;exact⟨hu,.inl ⟨r,w',h1,h2,DO hu hfin ds { a with defers:=ds } w' rfl ht h3⟩⟩
end
end Go.AM
namespace Go.AM
structure A3 where
 Langs:Int
 Has:(Sl Int)
 deriving Inhabited
abbrev C7 (x:A3):List PV:=[(pI .i64 x.Langs),vSl 1 (cI .u64) x.Has]
structure R9 where
 Langs:Int
 Has:(Sl Int)
 deriving Inhabited
abbrev JK (x:R9):List PV:=[(pI .i64 x.Langs),vSl 1 (cI .u64) x.Has]
structure I7 where
 a0:Int
 a1:Int
 deriving Inhabited,DecidableEq
abbrev N3 (x:I7):List PV:=[(pI .i64 x.a0),pI .i64 x.a1]
structure J1 where
 Parent:Int
 Name:Str
 deriving Inhabited,DecidableEq
abbrev H0 (x:J1):List PV:=[(pI .i64 x.Parent),.str x.Name]
structure Sound where
 Plus:Int
 Minus:Int
 deriving Inhabited,DecidableEq
abbrev A0 (x:Sound):List PV:=[(pI .u32 x.Plus),pI .u32 x.Minus]
inductive Pat where
 |nil
 |mk (Kind:Int) (Is:Sound) (Not:Bool) (Min:Int) (Max:Int) (n:Nat) (g:Nat->Pat)
instance:Inhabited Pat:=⟨.nil⟩
def Pat.Kind:Pat->Int
 |.nil=>0
 |.mk x _ _ _ _ _ _=>x
def Pat.Is:Pat->Sound
 |.nil=>default
 |.mk _ x _ _ _ _ _=>x
def Pat.Not:Pat->Bool
 |.nil=>false
 |.mk _ _ x _ _ _ _=>x
def Pat.Min:Pat->Int
 |.nil=>0
 |.mk _ _ _ x _ _ _=>x
def Pat.Max:Pat->Int
 |.nil=>0
 |.mk _ _ _ _ x _ _=>x
def Pat.L:Pat->Sl Pat
 |.nil=>⟨0,fun _=>.nil⟩
 |.mk _ _ _ _ _ n g=>⟨n,g⟩
def Bl:Pat->Nat->List PV
 |.nil=>fun _=>[]
 |.mk _ _ _ _ _ n g=>fun i=>[(pI .i64 (g i).Kind),pI .u32 (g i).Is.Plus,pI .u32 (g i).Is.Minus,.bb (g i).Not,pI .i64 (g i).Min,pI .i64 (g i).Max,.sl false 7 (g i).L.n (Bl (g i))]
abbrev B0 (x:Pat):List PV:=[(pI .i64 x.Kind),pI .u32 x.Is.Plus,pI .u32 x.Is.Minus,.bb x.Not,pI .i64 x.Min,pI .i64 x.Max,.sl false 7 x.L.n (Bl x)]
theorem P4 (x:Pat):∀i,i<x.L.n->Bl x i=B0 (x.L.g i):=by
 cases x with
 |nil=>intro i hi;exact absurd (show i<0 from hi) (by omega)
 |mk Kind Is Not Min Max n g=>exact fun _ _=>rfl
structure Ai where
 From:Int
 Clear:Int
 Set:Sound
 Take:Int
 Of:Int
 deriving Inhabited,DecidableEq
abbrev O2 (x:Ai):List PV:=[(pI .i64 x.From),pI .u32 x.Clear,pI .u32 x.Set.Plus,pI .u32 x.Set.Minus,pI .u32 x.Take,pI .i64 x.Of]
structure Law where
 Name:Str
 Left:Pat
 Right:Pat
 If:(Sl Sound)
 Out:(Sl Ai)
 Mode:Int
 deriving Inhabited
abbrev B3 (x:Law):List PV:=[(.str x.Name),pI .i64 x.Left.Kind,pI .u32 x.Left.Is.Plus,pI .u32 x.Left.Is.Minus,.bb x.Left.Not,pI .i64 x.Left.Min,pI .i64 x.Left.Max,.sl false 7 x.Left.L.n (Bl x.Left),pI .i64 x.Right.Kind,pI .u32 x.Right.Is.Plus,pI .u32 x.Right.Is.Minus,.bb x.Right.Not,pI .i64 x.Right.Min,pI .i64 x.Right.Max,.sl false 7 x.Right.L.n (Bl x.Right),vSl 2 A0 x.If,vSl 6 O2 x.Out,pI .i64 x.Mode]
structure A8 where
 Tree:(Sl J1)
 Laws:(Sl Law)
 On:(Sl (Sl Int))
 deriving Inhabited
abbrev A7 (x:A8):List PV:=[(vSl 2 H0 x.Tree),vSl 18 B3 x.Laws,vSl 1 (cL 1 (cI .i64)) x.On]
inductive Part where
 |nil
 |sound (x:Sound) (no:Bool)
 |edge (e:Bool)
 |seq (n:Nat) (g:Nat->Part)
 |alt (n:Nat) (g:Nat->Part)
 |rep (o:Part) (mn mx:Int)
instance:Inhabited Part:=⟨.nil⟩
def Part.t:Part->Nat
 |.nil=>0
 |.sound _ _=>276
 |.edge _=>278
 |.seq _ _=>283
 |.alt _ _=>280
 |.rep _ _ _=>282
def Part.v:Part->PV
 |.nil=>.bb false
 |.sound x no=>.agg [pI .u32 x.Plus,pI .u32 x.Minus,.bb no]
 |.edge e=>.agg [.bb e]
 |.seq n g=>.agg [.sl false 1 n fun i=>[.iface (g i).t (g i).v]]
 |.alt n g=>.agg [.sl false 1 n fun i=>[.iface (g i).t (g i).v]]
 |.rep o mn mx=>.agg [.iface o.t o.v,pI .i64 mn,pI .i64 mx]
abbrev EK (x:Part):PV:=.iface x.t x.v
abbrev Dp (x:Part):List PV:=[EK x]
structure Wg where
 is:Sound
 not:Bool
 deriving Inhabited,DecidableEq
abbrev ST (x:Wg):List PV:=[(pI .u32 x.is.Plus),pI .u32 x.is.Minus,.bb x.not]
structure Aa4 where
 end_:Bool
 deriving Inhabited,DecidableEq
abbrev Aa5 (x:Aa4):List PV:=[(.bb x.end_)]
structure Palt where
 l:(Sl Part)
 deriving Inhabited
abbrev Ai0 (x:Palt):List PV:=[(vSl 1 Dp x.l)]
structure Prep where
 of:Part
 min:Int
 max:Int
 deriving Inhabited
abbrev Ai1 (x:Prep):List PV:=[(EK x.of),pI .i64 x.min,pI .i64 x.max]
structure Pseq where
 l:(Sl Part)
 deriving Inhabited
abbrev Ai2 (x:Pseq):List PV:=[(vSl 1 Dp x.l)]
end Go.AM
namespace Go.AM
open Go.Proofs
abbrev BV:Nat:=5
theorem Ev:Ak3[BV]? = some Tryz.f5:=Tryz.func5
abbrev JL:Nat:=15
theorem QZ:Ak3[JL]? = some Tryz.f15:=Tryz.func15
abbrev FE:Nat:=17
theorem Ld:Ak3[FE]? = some Tryz.f17:=Tryz.func17
abbrev Dq:Nat:=19
theorem HJ:Ak3[Dq]? = some Tryz.f19:=Tryz.func19
abbrev GR:Nat:=21
theorem Nw:Ak3[GR]? = some Tryz.f21:=Tryz.func21
abbrev X5:Nat:=23
theorem CK:Ak3[X5]? = some Tryz.f23:=Tryz.func23
abbrev P9:Nat:=24
theorem Bm:Ak3[P9]? = some Tryz.f24:=Tryz.func24
abbrev Mt:Nat:=25
theorem TZ:Ak3[Mt]? = some Tryz.f25:=Tryz.func25
abbrev Il:Nat:=26
theorem Pw:Ak3[Il]? = some Tryz.f26:=Tryz.func26
abbrev JM:Nat:=28
theorem Ra:Ak3[JM]? = some Tryz.f28:=Tryz.func28
abbrev Im:Nat:=29
theorem Px:Ak3[Im]? = some Tryz.f29:=Tryz.func29
abbrev Mu:Nat:=30
theorem Ua:Ak3[Mu]? = some Tryz.f30:=Tryz.func30
abbrev GS:Nat:=31
theorem Nx:Ak3[GS]? = some Tryz.f31:=Tryz.func31
abbrev FF:Nat:=33
theorem Lf:Ak3[FF]? = some Tryz.f33:=Tryz.func33
abbrev JN:Nat:=35
theorem Rb:Ak3[JN]? = some Tryz.f35:=Tryz.func35
abbrev GT:Nat:=40
theorem Ny:Ak3[GT]? = some Tryz.f40:=Tryz.func40
abbrev L0:Nat:=42
theorem Ce:Ak3[L0]? = some Tryz.f42:=Tryz.func42
abbrev O9:Nat:=45
theorem AG:Ak3[O9]? = some Tryz.f45:=Tryz.func45
abbrev GU:Nat:=49
theorem Nz:Ak3[GU]? = some Tryz.f49:=Tryz.func49
abbrev JO:Nat:=54
theorem Rc:Ak3[JO]? = some Tryz.f54:=Tryz.func54
abbrev V9:Nat:=56
theorem BB:Ak3[V9]? = some Tryz.f56:=Tryz.func56
abbrev Z0:Nat:=57
theorem Cf:Ak3[Z0]? = some Tryz.f57:=Tryz.func57
abbrev Eh:Nat:=58
theorem IH:Ak3[Eh]? = some Tryz.f58:=Tryz.func58
abbrev Dr:Nat:=59
theorem HK:Ak3[Dr]? = some Tryz.f59:=Tryz.func59
abbrev Cg:Nat:=61
theorem Gh:Ak3[Cg]? = some Tryz.f61:=Tryz.func61
abbrev JP:Nat:=62
theorem Rd:Ak3[JP]? = some Tryz.f62:=Tryz.func62
abbrev I8:Nat:=64
theorem U2:Ak3[I8]? = some Tryz.f64:=Tryz.func64
abbrev EL:Nat:=65
theorem JQ:Ak3[EL]? = some Tryz.f65:=Tryz.func65
abbrev JR:Nat:=67
theorem Re:Ak3[JR]? = some Tryz.f67:=Tryz.func67
abbrev JS:Nat:=68
theorem Rf:Ak3[JS]? = some Tryz.f68:=Tryz.func68
abbrev Mv:Nat:=69
theorem Ub:Ak3[Mv]? = some Tryz.f69:=Tryz.func69
abbrev EM:Nat:=70
theorem JT:Ak3[EM]? = some Tryz.f70:=Tryz.func70
abbrev FG:Nat:=71
theorem Lg:Ak3[FG]? = some Tryz.f71:=Tryz.func71
abbrev FH:Nat:=72
theorem Lh:Ak3[FH]? = some Tryz.f72:=Tryz.func72
abbrev Io:Nat:=73
theorem Py:Ak3[Io]? = some Tryz.f73:=Tryz.func73
abbrev Mw:Nat:=74
theorem Uc:Ak3[Mw]? = some Tryz.f74:=Tryz.func74
abbrev Ip:Nat:=75
theorem Pz:Ak3[Ip]? = some Tryz.f75:=Tryz.func75
abbrev FI:Nat:=76
theorem Li:Ak3[FI]? = some Tryz.f76:=Tryz.func76
abbrev EN:Nat:=77
abbrev EO:Nat:=78
theorem JU:Ak3[EO]? = some Tryz.f78:=Tryz.func78
abbrev JV:Nat:=81
theorem Rg:Ak3[JV]? = some Tryz.f81:=Tryz.func81
abbrev Z1:Nat:=82
theorem Ch:Ak3[Z1]? = some Tryz.f82:=Tryz.func82
abbrev Bn:Nat:=83
theorem II:Ak3[Bn]? = some Tryz.f83:=Tryz.func83
abbrev DP:Nat:=85
theorem NA:Ak3[DP]? = some Tryz.f85:=Tryz.func85
abbrev JW:Nat:=87
theorem Rh:Ak3[JW]? = some Tryz.f87:=Tryz.func87
abbrev Iq:Nat:=89
theorem PA:Ak3[Iq]? = some Tryz.f89:=Tryz.func89
abbrev GV:Nat:=90
theorem NB:Ak3[GV]? = some Tryz.f90:=Tryz.func90
abbrev FJ:Nat:=92
theorem Lj:Ak3[FJ]? = some Tryz.f92:=Tryz.func92
abbrev GW:Nat:=93
theorem NC:Ak3[GW]? = some Tryz.f93:=Tryz.func93
abbrev FK:Nat:=94
theorem Lk:Ak3[FK]? = some Tryz.f94:=Tryz.func94
abbrev J2:Nat:=97
theorem Q0:Ak3[J2]? = some Tryz.f97:=Tryz.func97
abbrev E5:Nat:=98
theorem S0:Ak3[E5]? = some Tryz.f98:=Tryz.func98
abbrev M0:Nat:=99
theorem Z2:Ak3[M0]? = some Tryz.f99:=Tryz.func99
abbrev Mx:Nat:=100
theorem Ud:Ak3[Mx]? = some Tryz.f100:=Tryz.func100
abbrev JX:Nat:=101
theorem Ri:Ak3[JX]? = some Tryz.f101:=Tryz.func101
abbrev JY:Nat:=102
theorem Rj:Ak3[JY]? = some Tryz.f102:=Tryz.func102
abbrev Fo:Nat:=103
theorem Ue:Ak3[Fo]? = some Tryz.f103:=Tryz.func103
abbrev DQ:Nat:=104
theorem Rk:Ak3[DQ]? = some Tryz.f104:=Tryz.func104
abbrev EP:Nat:=105
theorem JZ:Ak3[EP]? = some Tryz.f105:=Tryz.func105
abbrev FL:Nat:=106
theorem Ll:Ak3[FL]? = some Tryz.f106:=Tryz.func106
abbrev My:Nat:=107
theorem Uf:Ak3[My]? = some Tryz.f107:=Tryz.func107
abbrev Ir:Nat:=108
theorem PB:Ak3[Ir]? = some Tryz.f108:=Tryz.func108
abbrev FM:Nat:=111
theorem Lm:Ak3[FM]? = some Tryz.f111:=Tryz.func111
abbrev Ei:Nat:=112
theorem IJ:Ak3[Ei]? = some Tryz.f112:=Tryz.func112
abbrev O3:Nat:=115
theorem AB:Ak3[O3]? = some Tryz.f115:=Tryz.func115
abbrev AZ:Nat:=116
theorem EQ:Ak3[AZ]? = some Tryz.f116:=Tryz.func116
abbrev GX:Nat:=117
theorem ND:Ak3[GX]? = some Tryz.f117:=Tryz.func117
abbrev Mz:Nat:=118
theorem Ug:Ak3[Mz]? = some Tryz.f118:=Tryz.func118
abbrev GY:Nat:=119
theorem NE:Ak3[GY]? = some Tryz.f119:=Tryz.func119
abbrev GZ:Nat:=120
theorem NF:Ak3[GZ]? = some Tryz.f120:=Tryz.func120
abbrev Ka:Nat:=121
theorem Rl:Ak3[Ka]? = some Tryz.f121:=Tryz.func121
abbrev Iu:Nat:=122
theorem PC:Ak3[Iu]? = some Tryz.f122:=Tryz.func122
abbrev G1:Nat:=123
theorem P2:Ak3[G1]? = some Tryz.f123:=Tryz.func123
abbrev H3:Nat:=124
theorem R0:Ak3[H3]? = some Tryz.f124:=Tryz.func124
abbrev Iv:Nat:=125
theorem PD:Ak3[Iv]? = some Tryz.f125:=Tryz.func125
abbrev ER:Nat:=126
theorem Kb:Ak3[ER]? = some Tryz.f126:=Tryz.func126
abbrev Aq:Nat:=127
theorem Kc:Ak3[Aq]? = some Tryz.f127:=Tryz.func127
abbrev Ej:Nat:=128
theorem IK:Ak3[Ej]? = some Tryz.f128:=Tryz.func128
abbrev BH:Nat:=132
theorem NG:Ak3[BH]? = some Tryz.f132:=Tryz.func132
abbrev MA:Nat:=133
theorem Uh:Ak3[MA]? = some Tryz.f133:=Tryz.func133
abbrev MB:Nat:=134
theorem Ui:Ak3[MB]? = some Tryz.f134:=Tryz.func134
abbrev Kd:Nat:=135
theorem Rm:Ak3[Kd]? = some Tryz.f135:=Tryz.func135
abbrev Ke:Nat:=136
theorem Rn:Ak3[Ke]? = some Tryz.f136:=Tryz.func136
abbrev MC:Nat:=137
theorem Uj:Ak3[MC]? = some Tryz.f137:=Tryz.func137
abbrev FN:Nat:=139
theorem Ln:Ak3[FN]? = some Tryz.f139:=Tryz.func139
abbrev G5:Nat:=140
theorem Cx:Ak3[G5]? = some Tryz.f140:=Tryz.func140
abbrev P0:Nat:=141
theorem ES:Ak3[P0]? = some Tryz.f141:=Tryz.func141
abbrev F8:Nat:=142
theorem Ek:Ak3[F8]? = some Tryz.f142:=Tryz.func142
abbrev Kf:Nat:=143
theorem Ro:Ak3[Kf]? = some Tryz.f143:=Tryz.func143
abbrev Q1:Nat:=146
theorem Bo:Ak3[Q1]? = some Tryz.f146:=Tryz.func146
abbrev CL:Nat:=147
theorem Lo:Ak3[CL]? = some Tryz.f147:=Tryz.func147
abbrev FO:Nat:=148
theorem Lp:Ak3[FO]? = some Tryz.f148:=Tryz.func148
abbrev K4:Nat:=149
theorem X6:Ak3[K4]? = some Tryz.f149:=Tryz.func149
abbrev H1:Nat:=150
theorem Q5:Ak3[H1]? = some Tryz.f150:=Tryz.func150
abbrev J6:Nat:=151
theorem W3:Ak3[J6]? = some Tryz.f151:=Tryz.func151
abbrev Ha:Nat:=152
theorem NH:Ak3[Ha]? = some Tryz.f152:=Tryz.func152
abbrev U3:Nat:=153
theorem HL:Ak3[U3]? = some Tryz.f153:=Tryz.func153
abbrev F1:Nat:=154
theorem J7:Ak3[F1]? = some Tryz.f154:=Tryz.func154
abbrev N4:Nat:=155
theorem Ar:Ak3[N4]? = some Tryz.f155:=Tryz.func155
abbrev Iw:Nat:=156
theorem PE:Ak3[Iw]? = some Tryz.f156:=Tryz.func156
abbrev Fp:Nat:=157
theorem Uk:Ak3[Fp]? = some Tryz.f157:=Tryz.func157
abbrev H4:Nat:=159
theorem R4:Ak3[H4]? = some Tryz.f159:=Tryz.func159
abbrev El:Nat:=160
theorem IL:Ak3[El]? = some Tryz.f160:=Tryz.func160
abbrev FP:Nat:=161
theorem Lq:Ak3[FP]? = some Tryz.f161:=Tryz.func161
abbrev Ix:Nat:=171
theorem PF:Ak3[Ix]? = some Tryz.f171:=Tryz.func171
abbrev D4:Nat:=172
theorem U4:Ak3[D4]? = some Tryz.f172:=Tryz.func172
abbrev MD:Nat:=173
theorem Ul:Ak3[MD]? = some Tryz.f173:=Tryz.func173
abbrev J8:Nat:=174
theorem W4:Ak3[J8]? = some Tryz.f174:=Tryz.func174
abbrev N2:Nat:=175
theorem IM:Ak3[N2]? = some Tryz.f175:=Tryz.func175
abbrev Kg:Nat:=176
theorem Rp:Ak3[Kg]? = some Tryz.f176:=Tryz.func176
abbrev Kh:Nat:=182
theorem Rq:Ak3[Kh]? = some Tryz.f182:=Tryz.func182
abbrev Ki:Nat:=189
theorem Rr:Ak3[Ki]? = some Tryz.f189:=Tryz.func189
abbrev PG:Nat:=190
theorem Wh:Ak3[PG]? = some Tryz.f190:=Tryz.func190
abbrev DR:Nat:=196
theorem Rs:Ak3[DR]? = some Tryz.f196:=Tryz.func196
abbrev ME:Nat:=197
theorem Um:Ak3[ME]? = some Tryz.f197:=Tryz.func197
abbrev I9:Nat:=198
theorem U5:Ak3[I9]? = some Tryz.f198:=Tryz.func198
abbrev PH:Nat:=199
theorem Wi:Ak3[PH]? = some Tryz.f199:=Tryz.func199
abbrev PI:Nat:=200
theorem Wj:Ak3[PI]? = some Tryz.f200:=Tryz.func200
abbrev Hb:Nat:=201
theorem NI:Ak3[Hb]? = some Tryz.f201:=Tryz.func201
abbrev Cy:Nat:=207
theorem PJ:Ak3[Cy]? = some Tryz.f207:=Tryz.func207
abbrev Iy:Nat:=208
theorem PK:Ak3[Iy]? = some Tryz.f208:=Tryz.func208
abbrev Ds:Nat:=209
theorem HM:Ak3[Ds]? = some Tryz.f209:=Tryz.func209
abbrev F5:Nat:=210
theorem X7:Ak3[F5]? = some Tryz.f210:=Tryz.func210
abbrev FQ:Nat:=211
theorem Lr:Ak3[FQ]? = some Tryz.f211:=Tryz.func211
abbrev Iz:Nat:=212
theorem PL:Ak3[Iz]? = some Tryz.f212:=Tryz.func212
abbrev Q3:Nat:=217
theorem Ls:Ak3[Q3]? = some Tryz.f217:=Tryz.func217
abbrev Hc:Nat:=218
theorem NJ:Ak3[Hc]? = some Tryz.f218:=Tryz.func218
abbrev Kj:Nat:=219
theorem Rt:Ak3[Kj]? = some Tryz.f219:=Tryz.func219
abbrev Kk:Nat:=220
theorem Ru:Ak3[Kk]? = some Tryz.f220:=Tryz.func220
abbrev Kl:Nat:=221
theorem Rv:Ak3[Kl]? = some Tryz.f221:=Tryz.func221
abbrev Hd:Nat:=227
theorem NK:Ak3[Hd]? = some Tryz.f227:=Tryz.func227
abbrev He:Nat:=228
theorem NL:Ak3[He]? = some Tryz.f228:=Tryz.func228
abbrev FR:Nat:=229
theorem Lt:Ak3[FR]? = some Tryz.f229:=Tryz.func229
abbrev ET:Nat:=234
theorem Km:Ak3[ET]? = some Tryz.f234:=Tryz.func234
abbrev AT:Nat:=235
theorem Lu:Ak3[AT]? = some Tryz.f235:=Tryz.func235
abbrev Y5:Nat:=236
theorem Em:Ak3[Y5]? = some Tryz.f236:=Tryz.func236
abbrev Ba:Nat:=259
theorem EU:Ak3[Ba]? = some Tryz.f259:=Tryz.func259
abbrev Ci:Nat:=260
theorem Kn:Ak3[Ci]? = some Tryz.f260:=Tryz.func260
abbrev CM:Nat:=261
theorem Lw:Ak3[CM]? = some Tryz.f261:=Tryz.func261
abbrev DS:Nat:=262
theorem NM:Ak3[DS]? = some Tryz.f262:=Tryz.func262
abbrev Cz:Nat:=263
theorem Hf:Ak3[Cz]? = some Tryz.f263:=Tryz.func263
abbrev DT:Nat:=264
theorem NN:Ak3[DT]? = some Tryz.f264:=Tryz.func264
abbrev EV:Nat:=265
theorem Ko:Ak3[EV]? = some Tryz.f265:=Tryz.func265
abbrev W6:Nat:=266
theorem BC:Ak3[W6]? = some Tryz.f266:=Tryz.func266
abbrev DU:Nat:=267
theorem NO:Ak3[DU]? = some Tryz.f267:=Tryz.func267
abbrev D2:Nat:=3
abbrev YT:Nat:=4
abbrev AU:Nat:=9
abbrev NP:Nat:=29
abbrev NQ:Nat:=42
abbrev P5:Nat:=44
abbrev CA:Nat:=51
abbrev NR:Nat:=54
abbrev O1:Nat:=76
abbrev D1:Nat:=87
abbrev HN:Nat:=95
abbrev Dt:Nat:=121
abbrev Kq:Nat:=124
abbrev Wk:Nat:=155
abbrev Rw:Nat:=269
end Go.AM
namespace Go.AM
open IntKind (wrap)
abbrev U (x:BitVec 64):Int:=(x.toNat:Int)
theorem PM {n:Nat}(h:n<2 ^ 64):IntKind.u64.wrap (n:Int)=n:=by have h1:((n:Int) % (2 ^ 64:Int))=n:=Int.emod_eq_of_lt (by omega) (by omega);unfold wrap;simp only[IntKind.bits,IntKind.signed,h1,Bool.false_and,Bool.false_eq_true,if_false]
theorem Aa6 (x:BitVec 64):BitVec.ofInt 64 (U x)=x:=by
 apply BitVec.eq_of_toNat_eq;rw[BitVec.toNat_ofInt]
 have:=x.isLt
 show ((x.toNat:Int) % ((2 ^ 64:Nat):Int)).toNat=x.toNat;omega
theorem or64 (x y:BitVec 64):D9 .or .u64 (U x) (U y)=U (x ||| y):=by simp only[D9,IntKind.bits,Aa6];exact PM (x ||| y).isLt
theorem shl64 (n:Nat)(h:n<64):shI .shl .u64 1 n=U (1#64 <<< n):=by
 simp only[shI,IntKind.bits,Int.toNat_natCast];rw[Nat.min_eq_left (by omega)];show wrap .u64 (1*2 ^ n)=((1#64 <<< n).toNat:Int);rw[BitVec.toNat_shiftLeft,Nat.shiftLeft_eq];have h1:(2:Nat) ^ n<2 ^ 64:=Nat.pow_lt_pow_right (by omega) h;have e:((1:Int)*2 ^ n)=((2 ^ n:Nat):Int):=by norm_cast;omega
 rw[e,PM h1]
 norm_cast
 rw[Nat.mod_eq_of_lt]
 ·simp
 ·simpa using h1
end Go.AM
namespace Go.AM
open Go.Proofs
abbrev Ya:List AV:=[.reg 0 0,.reg 1 0,.reg 2 0,.reg 3 0]
abbrev Rx (c:Int)(a:Sl Law)(b:Sl Sound)(y:PV):List Obj:=[.cells [pN c],.cells [.p (vSl 18 B3 a)],.cells [.p (vSl 2 A0 b)],.cells [.p y]]
def byB (x:Int)(i:Nat):UInt8:=UInt8.ofNat (x / 2 ^ (8*i) % 256).toNat
def Un (s:Int×Int)(q:Nat):List UInt8:=(List.range q).flatMap fun i=>[byB s.1 i,byB s.2 i]
def SU (g:Nat->Int×Int)(n:Nat):List UInt8:=(List.range n).flatMap fun i=>Un (g i) 4
def Uo (w:Sl Sound):Str:=SU (fun i=>((w.g i).Plus,(w.g i).Minus)) w.n
structure MF (S:X1):Prop where
 attR:∀{a:Sl Law}{b y:Sl Sound},FunO S F8 [.p (vSl 18 B3 a),.p (vSl 2 A0 b)] [] (.p (vSl 2 A0 y)) [] []->FunO S G5 Ya (Rx 0 a b H7) (.tup []) (Rx 0 a b (vSl 2 A0 y)) [true,true,true,true]
 attP:∀{a:Sl Law}{b:Sl Sound}{c:Int},(S.F F8 [.p (vSl 18 B3 a),.p (vSl 2 A0 b)] [] fun res o k=>res=.panic (.iface 210 (pI .i64 c))/\o=[]/\k=[])->FunO S G5 Ya (Rx 0 a b H7) (.tup []) (Rx c a b H7) [true,true,true,true]
 tz:∀x:BitVec 64,Vl S L0 [.p (pI .u64 (U x))] (.p (pI .i64 (Lib.ctz 64 x.toNat:Nat)))
 trim:∀s c:Str,s.length<1000000000000->c.length<1000000->(∀b∈c,b.toNat<128)->Vl S CL [.p (.str s),.p (.str c)] (.p (.str (Lib.trimS s c)))
 growS:∀(f:Nat->List PV) (n:Nat),n*8<=140737488355328->FunO S F5 [.p H7,.p (pI .i64 (n:Int))] [] (.vec 0) [.vec D1 2 0 f false] []
 text:∀(w:Sl Sound) (e:Int),w.n*8<=140737488355328->Vl S EN [.p (vSl 2 A0 w),.p (pI .i64 e)] (.p (.str (if e=0 then Uo w else [45])))
def M4 (N:Nat)(x:Int):Option Int:=if 0<=x/\x<18446744073709551616 then some ((Lib.ctz 64 x.toNat:Nat):Int)else none
def CN (N:Nat)(s c:Str):Option Str:=if s.length<1000000000000/\c.length<1000000/\(c.all fun b=>decide (b.toNat<128)) then some (Lib.trimS s c)else none
def K5 (N:Nat)(n:Int):Option (Sl Sound):=if 0<=n/\n*8<=140737488355328 then some (Sl.nil:Sl Sound)else none
section
variable {S:X1}(hS:F4 S Tryz.prog) (hL:MF S)
include hS hL
theorem S1 {N:Nat}{x y:Int}(h:M4 N x=some y):FunO S L0 [.p (pI .u64 x)] [] (.p (pI .i64 y)) [] []:=by
 obtain⟨⟨h0,h1⟩,h⟩:=E2 h;obtain rfl:=B6 h
 have:=hL.tz (BitVec.ofNat 64 x.toNat)
 have e:(BitVec.ofNat 64 x.toNat).toNat=x.toNat:=by rw[BitVec.toNat_ofNat];omega
 have e2:U (BitVec.ofNat 64 x.toNat)=x:=by show ((BitVec.ofNat 64 x.toNat).toNat:Int)=x;rw[e];omega
 rw[e,e2]at this;exact this
theorem Lx {N:Nat}{s c:Str}{y:Str}(h:CN N s c=some y):FunO S CL [.p (.str s),.p (.str c)] [] (.p (.str y)) [] []:=by obtain⟨⟨h0,h1,h2⟩,h⟩:=E2 h;obtain rfl:=B6 h;exact hL.trim s c h0 h1 fun b hb=>by simpa using List.all_eq_true.1 h2 b hb
theorem X8 {N:Nat}{n:Int}{y:Sl Sound}(h:K5 N n=some y):FunO S F5 [.p H7,.p (pI .i64 n)] [] (.vec 0) [.vec D1 2 y.n (fun i=>A0 (y.g i)) false] []:=by
 obtain⟨⟨h0,h1⟩,h⟩:=E2 h;obtain rfl:=B6 h
 have:=hL.growS (fun i=>A0 default) n.toNat (by omega)
 rw[show ((n.toNat:Nat):Int)=n by omega]at this;exact this
def B1 (N:Nat)(s:Sl Sound):Option (Sl Sound):=if (0+s.n)*8<=140737488355328/\0+s.n<=140737488355328 then some s else none
theorem J9 {N:Nat}{s y:Sl Sound}(h:B1 N s=some y):FunO S F1 [.p (vSl 2 A0 s)] [] (.vec 0) [.vec D1 2 y.n (fun i=>A0 (y.g i)) true] []:=by
 unfold B1 at h;obtain⟨c1,h⟩:=E2 h;obtain rfl:=B6 h;refine A2 hS J7 ?_;refine ZV hS trivial 3 (k:=2) (n:=s.n) (f:=fun i=>A0 (s.g i)) (fun h0=>?_) ?_
 ·obtain⟨n,g⟩:=s;obtain rfl:n=0:=h0;exact A6 hS trivial ⟨[(2,.vec 3700)],[(3700,.vec D1 2 0 (fun i=>A0 (g i)) true)]⟩ [3700] (ids:=[]) ⟨rfl,rfl,rfl⟩
 ·exact A6 hS (And.intro (rfl:true=true) c1) ⟨[(2,.vec 8000)],[(8000,.vec D1 2 s.n (fun i=>A0 (s.g i)) true)]⟩ [8000] (ids:=[(8000,8000)]) ⟨rfl,rfl,rfl⟩
   (hle:=klR [(0,.fn (0+s.n) s.n (AW 0 (E4 [pI .u32 0,pI .u32 0] []) (fun i=>A0 (s.g i))) (fun i=>A0 (s.g i)))] (al1 ⟨Nat.zero_add _,fun i _=>by simp[AW]⟩ al0))
def G6 (N:Nat)(s:Sl Ai):Option (Sl Ai):=if (0+s.n)*32<=140737488355328/\0+s.n<=140737488355328 then some s else none
theorem U6 {N:Nat}{s y:Sl Sound}(h:B1 N s=some y):FunO S F1 [.p (vSl 2 A0 s)] [] (.p (vSl 2 A0 y)) [] []:=by
 unfold B1 at h;obtain⟨c1,h⟩:=E2 h;obtain rfl:=B6 h;refine A2 hS J7 ?_;refine ZV hS trivial 3 (k:=2) (n:=s.n) (f:=fun i=>A0 (s.g i)) (fun h0=>?_) ?_
 ·obtain⟨n,g⟩:=s;obtain rfl:n=0:=h0;exact A6 hS trivial ⟨[(2,.p (vSl 2 A0 ⟨0,g⟩))],[]⟩ [] (ids:=[]) ⟨rfl,rfl,rfl⟩
 ·exact A6 hS (And.intro (rfl:true=true) c1) ⟨[(2,.p (vSl 2 A0 s))],[]⟩ [] (ids:=[]) ⟨rfl,rfl,rfl⟩
   (hle:=klR [(0,.fn (0+s.n) s.n (AW 0 (E4 [pI .u32 0,pI .u32 0] []) (fun i=>A0 (s.g i))) (fun i=>A0 (s.g i)))] (al1 ⟨Nat.zero_add _,fun i _=>by simp[AW]⟩ al0))
theorem Ah {N:Nat}{s y:Sl Ai}(h:G6 N s=some y):FunO S N4 [.p (vSl 6 O2 s)] [] (.p (vSl 6 O2 y)) [] []:=by
 unfold G6 at h;obtain⟨c1,h⟩:=E2 h;obtain rfl:=B6 h;refine A2 hS Ar ?_;refine ZV hS trivial 3 (k:=6) (n:=s.n) (f:=fun i=>O2 (s.g i)) (fun h0=>?_) ?_
 ·obtain⟨n,g⟩:=s;obtain rfl:n=0:=h0;exact A6 hS trivial ⟨[(2,.p (vSl 6 O2 ⟨0,g⟩))],[]⟩ [] (ids:=[]) ⟨rfl,rfl,rfl⟩
 ·exact A6 hS (And.intro (rfl:true=true) c1) ⟨[(2,.p (vSl 6 O2 s))],[]⟩ [] (ids:=[]) ⟨rfl,rfl,rfl⟩
   (hle:=klR [(0,.fn (0+s.n) s.n (AW 0 (E4 [pI .i64 0,pI .u32 0,pI .u32 0,pI .u32 0,pI .u32 0,pI .i64 0] []) (fun i=>O2 (s.g i))) (fun i=>O2 (s.g i)))] (al1 ⟨Nat.zero_add _,fun i _=>by simp[AW]⟩ al0))
def EW (N:Nat)(w:Sl Sound)(e:Int):Option Str:=if w.n*8<=140737488355328 then some (if e=0 then Uo w else [45])else none
theorem PN {N:Nat}{w:Sl Sound}{e:Int}{y:Str}(h:EW N w e=some y):FunO S EN [.p (vSl 2 A0 w),.p (pI .i64 e)] [] (.p (.str y)) [] []:=by unfold EW at h;obtain⟨c1,h⟩:=E2 h;obtain rfl:=B6 h;exact hL.text w e c1
end
end Go.AM
set_option maxRecDepth 100000
namespace Go.AM
open Go.Proofs
theorem Up (v:Value)(w:World):(Instr.typeAssert (.iface 210 v) 20 210 true).run Tryz.prog w=.ok (.tuple #[v,.bool true]) w:=by kernel_rfl
theorem Ry (p:Value)(w:World):CallsDIn Fence.wide 0 Tryz.prog P0 #[p] .returning w fun e u' w'=>e=.returned (.tuple #[])/\u' = .returning/\w' = w:=by
 refine callsDIn_of_wpSIn ES rfl (by simp[Fence.wide]) fun c₀ cs hu=>?_;apply wpSIn_seq;apply wpSIn_region;simp[wpOpsSIn,go_sem,recoverD,hu,Tryz.f141,Exit.thenS];refine wpSIn_of_wpIn rfl (wpIn_block (wpIn_seq (wpIn_region ?_)));simp[wpOpsIn,Oper.wpIn,Oper.semAt,Oper.uponIn,go_sem,Exit.then];refine wpIn_cond (t:=true) (by simp[Act.eval]) ?_;simp only[if_true];refine wpIn_region ?_;simp[wpOpsIn,Oper.wpIn,Oper.semAt,Oper.uponIn,go_sem,Exit.inBlock,bodyPostS,results];cases c₀
 simp_all
theorem IN (p:Value)(c:Int)(older:List PanicEntry)(w w1:World)(hst:(Instr.storeAt 30 p (.int .i64 c)).run Tryz.prog w=.ok () w1)(hn:∃b,p=.pointer (some b)) :CallsDIn Fence.wide 0 Tryz.prog P0 #[p] (.panicking ({ v:=.iface 210 (.int .i64 c),recovered:=false }::older)) w fun e u' w'=>
  e=.returned (.tuple #[])/\u' = .panicking ({ v:=.iface 210 (.int .i64 c),recovered:=true }::older)/\w' = w1:=by
 obtain⟨b,rfl⟩:=hn;refine callsDIn_of_wpSIn ES rfl (by simp[Fence.wide]) fun c₀ cs hu=>?_;apply wpSIn_seq;apply wpSIn_region;simp[wpOpsSIn,go_sem,recoverD,hu,Tryz.f141,Exit.thenS];refine wpSIn_of_wpIn rfl (wpIn_block (wpIn_seq (wpIn_region ?_)));simp[wpOpsIn,Oper.wpIn,Oper.semAt,Oper.uponIn,go_sem,Exit.then];refine wpIn_cond (t:=false) (by simp[Act.eval]) ?_;simp only[Bool.false_eq_true,if_false];refine wpIn_seq (wpIn_region ?_);simp[wpOpsIn,Oper.wpIn,Oper.semAt,Oper.uponIn,go_sem,Exit.then,Up];refine wpIn_cond (t:=true) (by simp[Act.eval]) ?_;simp only[if_true];refine wpIn_seq (wpIn_region ?_);simp[wpOpsIn,Oper.wpIn,Oper.semAt,Oper.uponIn,go_sem,Exit.then];refine wpIn_region ?_;simp[wpOpsIn,Oper.wpIn,Oper.semAt,Oper.uponIn,go_sem,hst,Exit.inBlock,bodyPostS,results];simp[go_sem]at hst;rw[hst];simp[Result.andThen]
noncomputable def Ac7:Code:=match Tryz.f140.body with
 |some (.seq _ c)=>c
 |_=>.skip
theorem Aa7 {S:X1}(hS:F4 S Tryz.prog){a:Sl Law}{b y:Sl Sound}(hF:FunO S F8 [.p (vSl 18 B3 a),.p (vSl 2 A0 b)] [] (.p (vSl 2 A0 y)) [] []) :KG S Tryz.prog (Mr S (fun st=>H8 [0,1,2,3] st.regs [0,1,2,3]=some (Rx 0 a b (vSl 2 A0 y))) fun _ _=>False) (.code Ac7 [] ⟨argEnv Ya,objRegs (Rx 0 a b H7)⟩):=by refine B4 hS [] trivial hF ?_;exact K_upN hS trivial ⟨[],[(3,.cells [.p (vSl 2 A0 y)]),(2,.cells [.p (vSl 2 A0 b)]),(1,.cells [.p (vSl 18 B3 a)]),(0,.cells [pN 0])]⟩ (ids:=[(0,0),(1,1),(2,2),(3,3)]) rfl
theorem Wl {S:X1}(hS:F4 S Tryz.prog){a:Sl Law}{b:Sl Sound}{c:Int}(hF:S.F F8 [.p (vSl 18 B3 a),.p (vSl 2 A0 b)] [] fun res o k=>res=.panic (.iface 210 (pI .i64 c))/\o=[]/\k=[]) :KG S Tryz.prog (Mr S (fun _=>False) fun x st=>x=.iface 210 (pI .i64 c)/\store Tryz.prog st.regs 30 (.reg 0 0) (.p (pI .i64 c))=some ([],ins 0 (.cells [pN c]) st.regs)/\H8 [0,1,2,3] (ins 0 (.cells [pN c]) st.regs) [0,1,2,3]=some (Rx c a b H7)) (.code Ac7 [] ⟨argEnv Ya,objRegs (Rx 0 a b H7)⟩):=by refine Aa2 hS [] trivial hF ?_;exact K_upP hS trivial ⟨rfl,by kernel_rfl,by kernel_rfl⟩
noncomputable def att1:Code:=match Tryz.f140.body with
 |some (.seq c _)=>c
 |_=>.skip
noncomputable def attOps:Array Oper:=match Ac7 with
 |.region _ ops _=>ops
 |_=>#[]
theorem SV:Ac7=.region 1 attOps false:=by kernel_rfl
theorem Ai3:attOps.toList.all (Fz 7 attOps.toList)=true:=by kernel_rfl
theorem Yb:¬Tryz.f140.name = "runtime.NumGoroutine" := by decide +kernel
theorem SW:Tryz.f140.body=some (.seq att1 Ac7):=by kernel_rfl
theorem Aa8 {C:Ctx}{vs:Array Value}{w:World}{rho:Nat->Value}{args:List AV}{objs:List Obj}{n:Nat}(hS:Sat C ⟨argEnv args,objRegs objs⟩ ⟨vs,[]⟩ w rho)(hvs:vs.size=args.length) :Sat C ⟨argEnv args,objRegs objs⟩ { tmps:=vs++Array.replicate n undef,defers:=[] } w rho:=by
 refine⟨hS.toSatE,fun t=>?_,hS.pin,hS.marks⟩
 have:=hS.env t
 by_cases ht:t<vs.size
 ·simpa[Array.getD_eq_getD_getElem?,Array.getElem?_append,ht]using this
 ·show RepA w _ _ _ _ (get (argEnv args) t);rw[Ab,List.getD_eq_getElem?_getD,List.getElem?_eq_none (by omega)];exact .top _
theorem Kr {R:St->Prop}{X:PV->St->Prop}{a:Sl Law}{b:Sl Sound}{objs' : List Obj}
 (hreg:KG (Ft Tryz.prog) Tryz.prog (Mr (Ft Tryz.prog) R X) (.code Ac7 [] ⟨argEnv Ya,objRegs (Rx 0 a b H7)⟩))
 (hR:∀st,R st->H8 [0,1,2,3] st.regs [0,1,2,3]=some objs')
 (hX:∀x st,X x st->∃c regs',x=.iface 210 (pI .i64 c)/\store Tryz.prog st.regs 30 (.reg 0 0) (.p (pI .i64 c))=some ([],regs')/\H8 [0,1,2,3] regs' [0,1,2,3]=some objs') :
 FunO (Ft Tryz.prog) G5 Ya (Rx 0 a b H7) (.tup []) objs' [true,true,true,true]:=by
 intro 𝒢 C w vs rho hG hS hvs;obtain⟨l⟩:=vs
 match l,hvs with
 |[v0,v1,v2,v3],hvs=>?_
 refine⟨.enter G5 #[v0,v1,v2,v3],w,by simp[callFunc,Cx,SW,Yb],?_⟩;refine callsIn_of_wp_marks Cx SW trivial ?_;have hS':=Aa8 (n:=Tryz.f140.ntmps-4) hS hvs;have hn7:Tryz.f140.ntmps-4=3:=rfl;rw[hn7]at hS';have hsz:((#[v0,v1,v2,v3]:Array Value)++Array.replicate 3 undef).size=7:=rfl;have hw:Ht (Ft Tryz.prog) Tryz.prog attOps.toList attOps.toList (Mr (Ft Tryz.prog) R X) ⟨argEnv Ya,objRegs (Rx 0 a b H7)⟩:=by
  have:=hreg.out
  rw[SV]at this;simpa only[G,awp,kp,Bool.false_eq_true,if_false]using this
 have hops:=Ju (𝒢:=𝒢.fix C.rho0) (n:=7) (ro:=none) (ops:=attOps) Ai3 attOps.toList 0 rfl (by simp) ⟨hG,rfl⟩ hS' hsz hw;have hfr:=GQ [{ target:=.fn (.func P0) #[],args:=#[v0] }] _ _ _ hops;rw[List.drop_zero]at hfr;obtain⟨b0,hv0,hrho0⟩:∃b0,v0=.pointer (some ⟨b0,0,none⟩)/\rho 0=.pointer (some ⟨b0,0,none⟩):=by
  have h0:RepA w _ _ rho v0 (.reg 0 0):=hS.env 0;cases h0 with
  |reg _ _ b0 _ h=>exact⟨b0,rfl,h⟩
 have hend:∀{C' : Ctx}{st' : St}{a' : Act}{w' : World}{rho' : Nat->Value},(𝒢.fix C.rho0).G C' -> Sat C' st' a' w' rho' -> H8 [0,1,2,3] st'.regs [0,1,2,3]=some objs' ->
  LeavesInM Fence.wide 0 Tryz.prog Tryz.f140 a'.tmps (fun e w'=>∃C' r objs0 ks rho', 𝒢.G C' /\ (r=.ret (.tup [])/\objs0=objs' /\ ks=[true,true,true,true])/\SatE C' (objRegs objs0) w' rho' /\
   Zv w' (Prv C'.X (A1 (objRegs objs0)) rho') (Lv (A1 (objRegs objs0))) rho' e r/\∀i:Nat,ks[i]? = some true->i<objs0.length/\rho' i=rho i) [] .returning w':=by
  intro C' st' a' w' rho' hG' hs' hob;obtain⟨g1,g2,g3⟩:=Jv hs' (by decide) hob;obtain⟨hl,hg⟩:=U0 hob;refine⟨.tuple #[],by simp[results,Tryz.f140],C', .ret (.tup []),objs',_,_,hG'.1,⟨rfl,rfl,rfl⟩,g1,⟨_,rfl,.tup _ _ rfl fun i hi=>absurd hi (by simp)⟩,?_⟩;intro i hi;have hi4:i<4:=by
   have:=(List.getElem?_eq_some_iff.1 hi).1
   simpa using this
  refine⟨by rw[hl];exact hi4,?_⟩;have e1:[0,1,2,3][i]? = some i:=by
   match i,hi4 with
   |0,_=>rfl
   |1,_=>rfl
   |2,_=>rfl
   |3,_=>rfl
  obtain⟨o,_,ho,_⟩:=hg i i e1;show rho' ([0,1,2,3].getD i 0)=rho i;rw[Bi e1,hs'.pin i (by omega) (by simp[Lv,ho]),hG'.2];refine (hS.pin i (by omega) ?_).symm;rw[Lv,C6]
  match i,hi4 with
  |0,_=>rfl
  |1,_=>rfl
  |2,_=>rfl
  |3,_=>rfl
 generalize hQ:bodyPostM _ _ _ _ _=QQ;refine wpIn_seq ?_;simp only[att1,Tryz.f140];refine wpIn_region ?_;simp[wpOpsIn,Oper.wpIn,Oper.semAt,Oper.uponIn,go_sem,Exit.then];subst hQ;rw[SV];refine wpIn_mono (wpIn_region (F:=FW none) hfr) ?_;rintro e a' w' ⟨a0,rfl,hq⟩;cases e with
 |exit id=>obtain⟨_,_,_,_,_,_,h⟩:=hq;exact h.elim
 |goto l=>obtain⟨_,_,_,_,_,_,h⟩:=hq;exact h.elim
 |ret=>obtain⟨_,_,_,_,_,_,h⟩:=hq;exact h.elim
 |outgrown=>exact hq.elim
 |normal=>
  obtain⟨C',st',rho',hG',hs',hsz',hu⟩:=hq;obtain⟨st2,rho2,hR2,_,hs2⟩:=hu C' a0 w' rho' hs';refine DO (C:=C') (st:=st2) (rho:=rho2) (by simp) ?_ a0.defers a0 w' rfl rfl hs2;intro a3 w3 hs3 ht;refine⟨by simp,.inr ⟨by simp[Fence.wide],_,_,P0,#[v0],rfl,by simp[go_sem],fun _ _=>trivial,?_⟩⟩;refine (Ry v0 w3).mono ?_;rintro e u' w4 ⟨rfl,rfl,rfl⟩
  have:=hend hG' hs3 (hR st2 hR2)
  rw[ht]at this;exact this
 |panic chain=>
  obtain⟨C',st',rho',v,x,rfl,hG',hs',hsz',hv,hXx⟩:=hq;obtain⟨c,regs',rfl,hst,hob⟩:=hX x st' hXx;obtain rfl:v=.iface 210 (.int .i64 c):=by
   cases hv with
   |iface _ _ _ h=>cases h;rfl
  refine DO (C:=C') (st:=st') (rho:=rho') (by simp) ?_ a0.defers a0 w' rfl rfl hs';intro a3 w3 hs3 ht;have hlive:Lv (A1 st'.regs) 0:=by
   cases hj:A1 st'.regs 0 with
   |some o=>simp[Lv,hj]
   |none=>
    unfold store at hst;split at hst
    ·simp[hj]at hst
    ·cases hst
  have hr0:rho' 0=.pointer (some ⟨b0,0,none⟩):=by rw[hs3.pin 0 (by omega) hlive,hG'.2,<- hrho0];exact (hS.pin 0 (by omega) rfl).symm
  have hva:RS C' st' w3 rho' v0 (.reg 0 0):=by rw[hv0];exact .reg 0 0 b0 hlive hr0
  obtain⟨w4,hrun,hs4,_⟩:=Jk hs3 (vx:=.int .i64 c) hva (.p _ _ (.v _)) hst trivial;refine⟨by simp,.inr ⟨by simp[Fence.wide],_,_,P0,#[v0],rfl,by simp[go_sem],fun _ _=>trivial,?_⟩⟩;refine (IN v0 c [] w3 w4 hrun ⟨_,hv0⟩).mono ?_;rintro e u' w5 ⟨rfl,rfl,rfl⟩
  have:=hend hG' hs4 hob
  rw[ht]at this;exact this
theorem Rz {a:Sl Law}{b y:Sl Sound}(hF:FunO (Ft Tryz.prog) F8 [.p (vSl 18 B3 a),.p (vSl 2 A0 b)] [] (.p (vSl 2 A0 y)) [] []) :FunO (Ft Tryz.prog) G5 Ya (Rx 0 a b H7) (.tup []) (Rx 0 a b (vSl 2 A0 y)) [true,true,true,true]:=
 Kr (Aa7 (Ac1 Tryz.prog) hF) (fun st h=>h) (fun x st h=>h.elim)
theorem NS {a:Sl Law}{b:Sl Sound}{c:Int}(hF:(Ft Tryz.prog).F F8 [.p (vSl 18 B3 a),.p (vSl 2 A0 b)] [] fun res o k=>res=.panic (.iface 210 (pI .i64 c))/\o=[]/\k=[]) :FunO (Ft Tryz.prog) G5 Ya (Rx 0 a b H7) (.tup []) (Rx c a b H7) [true,true,true,true]:=
 Kr (Wl (Ac1 Tryz.prog) hF) (fun st h=>h.elim) (fun x st h=>⟨c,_,h.1,h.2.1,h.2.2⟩)
end Go.AM
namespace Go.AM
open IntKind (wrap)
open Go.Proofs
set_option maxRecDepth 10000
set_option maxHeartbeats 2000000
variable {S:X1}(hS:F4 S Tryz.prog) (hL:MF S)
include hS hL
def E7 (N:Nat)(p_s:Sound):Option Bool:=
 some (((D9 .and .u32 p_s.Plus p_s.Minus)==0)&&(decide ((D9 .or .u32 p_s.Plus p_s.Minus)<=16777215)))
theorem N5 {N:Nat}{p_s:Sound}{y:Bool}(h:E7 N p_s=some y) :FunO S GZ [.p (.agg (A0 p_s))] [] (pB y) ([]) []:=by unfold E7 at h;refine A2 hS NF ?_;refine kB hS (A5 hS) trivial trivial 7 (.n (.a ((D9 .and .u32 p_s.Plus p_s.Minus)==0)) (.a (decide ((D9 .or .u32 p_s.Plus p_s.Minus)<=16777215)))) ?_;cases h;exact kR hS
def AH (N:Nat)(p_s:Sound)(p_cond:Sound):Option Bool:=
 (E7 N p_s).bind fun y1=>
 lt (fun (z1:Bool)=>
  some z1
  ) fun k1=>
  if y1 then
   (E7 N p_cond).bind fun y3=>
   if y3 then
    if ((D9 .andNot .u32 p_cond.Plus p_s.Plus)==0) then
     k1 ((D9 .andNot .u32 p_cond.Minus p_s.Minus)==0)
    else
     k1 false
   else
    k1 false
  else
   k1 false
theorem HO {N:Nat}{p_s:Sound}{p_cond:Sound}{y:Bool}(h:AH N p_s p_cond=some y) :FunO S Ds [.p (.agg (A0 p_s)),.p (.agg (A0 p_cond))] [] (pB y) ([]) []:=by
 unfold AH at h;refine A2 hS HM ?_;refine kC hS h (N5 hS hL) (fun y1 h=>?_);refine IW hS trivial (A5 hS) h 0 (fun z1=>⟨[(4,pB z1)],[]⟩) (fun M1 k1 hb1 h=>?_) (fun z1 h=>?_)
 ·refine kG hS h (fun h=>?_) (fun h=>?_)
  ·refine kC hS h (N5 hS hL) (fun y3 h=>?_);refine kG hS h (fun h=>?_) (fun h=>?_)
   ·refine kG hS h (fun h=>?_) (fun h=>?_)
    ·exact hb1 _ [] _ ((D9 .andNot .u32 p_cond.Minus p_s.Minus)==0) trivial h
    ·exact hb1 _ [] _ false trivial h
   ·exact hb1 _ [] _ false trivial h
  ·exact hb1 _ [] _ false trivial h
 ·cases h;exact kR hS
def DV (N:Nat)(p_s:Sound):Option Int:=
 some (D9 .or .u32 p_s.Plus p_s.Minus)
theorem Ks {N:Nat}{p_s:Sound}{y:Int}(h:DV N p_s=some y) :FunO S Kk [.p (.agg (A0 p_s))] [] (pU y) ([]) []:=by unfold DV at h;refine A2 hS Ru ?_;cases h;exact kR hS
def DW (N:Nat)(p_s:Sound)(p_from:Sound)(p_set:Int):Option Sound:=
 some (⟨D9 .or .u32 (D9 .andNot .u32 p_s.Plus p_set) (D9 .and .u32 p_from.Plus p_set),D9 .or .u32 (D9 .andNot .u32 p_s.Minus p_set) (D9 .and .u32 p_from.Minus p_set)⟩:Sound)
theorem Kt {N:Nat}{p_s:Sound}{p_from:Sound}{p_set:Int}{y:Sound}(h:DW N p_s p_from p_set=some y) :FunO S Kl [.p (.agg (A0 p_s)),.p (.agg (A0 p_from)),pU p_set] [] (.p (.agg (A0 y))) ([]) []:=by unfold DW at h;refine A2 hS Rv ?_;cases h;exact kR hS
def CO (N:Nat)(p_s:Sound)(p_clear:Int)(p_set:Sound):Option (Sound×Int):=
 (E7 N p_s).bind fun y1=>
 lt (fun (z1:Bool)=>
  if z1 then
   some ((⟨0,0⟩:Sound),14)
  else
   lt (fun (z2:Bool)=>
    if z2 then
     some ((⟨0,0⟩:Sound),2)
    else
     (DV N p_set).bind fun y6=>
     (DW N p_s p_set (D9 .or .u32 p_clear y6)).bind fun y7=>
     some (y7,0)
    ) fun k2=>
    if (decide (16777215<p_clear)) then
     k2 true
    else
     (DV N p_set).bind fun y5=>
     k2 ((D9 .and .u32 p_clear y5) != 0)
  ) fun k1=>
  if (!y1) then
   k1 true
  else
   (E7 N p_set).bind fun y3=>
   k1 (!y3)
theorem Ly {N:Nat}{p_s:Sound}{p_clear:Int}{p_set:Sound}{y:Sound×Int}(h:CO N p_s p_clear p_set=some y) :FunO S FQ [.p (.agg (A0 p_s)),pU p_clear,.p (.agg (A0 p_set))] [] (.tup [.p (.agg (A0 y.1)),pN y.2]) ([]) []:=by
 unfold CO at h;refine A2 hS Lr ?_;refine H9 hS trivial 5 4000 [pI .u32 p_s.Plus,pI .u32 p_s.Minus] ?_;refine H9 hS trivial 6 6000 [pI .u32 p_set.Plus,pI .u32 p_set.Minus] ?_;obtain⟨y1,e1,h⟩:=B5 h;refine B4 hS [] (by decide:(2:Nat)<=2) (N5 hS hL e1) ?_;refine IW hS trivial (A5 hS) h 0 (fun z1=>⟨[(15,pB z1),(6,.reg 7000 0),(5,.p (.ptr [pI .u32 p_set.Plus,pI .u32 p_set.Minus])),(3,.p (.ptr [pI .u32 p_s.Plus,pI .u32 p_s.Minus])),(1,pU p_clear)],[(7000,.cells [pU 0,pU 0])]⟩) (fun M1 k1 hb1 h=>?_) (fun z1 h=>?_)
 ·refine kG hS h (fun h=>?_) (fun h=>?_)
  ·exact hb1 _ [(7000,7000)] _ true trivial h
  ·obtain⟨y3,e3,h⟩:=B5 h;refine B4 hS [] (by decide:(2:Nat)<=2) (N5 hS hL e3) ?_;exact hb1 _ [(7000,7000)] _ (!y3) trivial h
 ·refine kI hS h (fun h=>?_) (fun h=>?_)
  ·cases h;exact kR hS
  ·refine IW hS trivial (A5 hS) h 0 (fun z2=>⟨[(25,pB z2),(6,.reg 7000 0),(5,.p (.ptr [pI .u32 p_set.Plus,pI .u32 p_set.Minus])),(3,.p (.ptr [pI .u32 p_s.Plus,pI .u32 p_s.Minus])),(1,pU p_clear)],[(7000,.cells [pU 0,pU 0])]⟩) (fun M2 k2 hb2 h=>?_) (fun z2 h=>?_)
   ·refine kG hS h (fun h=>?_) (fun h=>?_)
    ·exact hb2 _ [(7000,7000)] _ true trivial h
    ·obtain⟨y5,e5,h⟩:=B5 h;refine B4 hS [] (by decide:(2:Nat)<=2) (Ks hS hL e5) ?_;exact hb2 _ [(7000,7000)] _ ((D9 .and .u32 p_clear y5) != 0) trivial h
   ·refine kI hS h (fun h=>?_) (fun h=>?_)
    ·cases h;exact kR hS
    ·refine G8 hS trivial [0,1,3,4,6] ?_;obtain⟨y6,e6,h⟩:=B5 h;refine BA (And.intro (And.intro (by decide:(2:Nat)<=2) (by decide:(2:Nat)<=2)) (by decide:(2:Nat)<=2)) (Ks hS hL e6) ?_;obtain⟨y7,e7,h⟩:=B5 h;refine BA trivial (Kt hS hL e7) ?_;refine O0 trivial ?_;cases h;exact kR hS
def EX (N:Nat)(p_s:Sound)(p_from:Sound)(p_mask:Int):Option (Sound×Int):=
 (E7 N p_s).bind fun y1=>
 lt (fun (z1:Bool)=>
  if z1 then
   some ((⟨0,0⟩:Sound),14)
  else
   if (decide (16777215<p_mask)) then
    some ((⟨0,0⟩:Sound),2)
   else
    (DW N p_s p_from p_mask).bind fun y4=>
    some (y4,0)
  ) fun k1=>
  if (!y1) then
   k1 true
  else
   (E7 N p_from).bind fun y3=>
   k1 (!y3)
theorem PO {N:Nat}{p_s:Sound}{p_from:Sound}{p_mask:Int}{y:Sound×Int}(h:EX N p_s p_from p_mask=some y) :FunO S Iz [.p (.agg (A0 p_s)),.p (.agg (A0 p_from)),pU p_mask] [] (.tup [.p (.agg (A0 y.1)),pN y.2]) ([]) []:=by
 unfold EX at h;refine A2 hS PL ?_;refine kC hS h (N5 hS hL) (fun y1 h=>?_);refine IW hS trivial (A5 hS) h 0 (fun z1=>⟨[(15,pB z1),(6,.reg 7000 0),(4,.reg 5000 0),(3,.reg 4000 0),(2,pU p_mask)],[(7000,.cells [pU 0,pU 0]),(5000,.cells [pU p_from.Plus,pU p_from.Minus]),(4000,.cells [pU p_s.Plus,pU p_s.Minus])]⟩) (fun M1 k1 hb1 h=>?_) (fun z1 h=>?_)
 ·refine kG hS h (fun h=>?_) (fun h=>?_)
  ·exact hb1 _ [(4000,4000),(5000,5000),(7000,7000)] _ true trivial h
  ·refine kC hS h (N5 hS hL) (fun y3 h=>?_);exact hb1 _ [(4000,4000),(5000,5000),(7000,7000)] _ (!y3) trivial h
 ·refine kI hS h (fun h=>?_) (fun h=>?_)
  ·cases h;exact kR hS
  ·refine kI hS h (fun h=>?_) (fun h=>?_)
   ·cases h;exact kR hS
   ·refine kC hS h (Kt hS hL) (fun y4 h=>?_);cases h;exact kR hS
def S2 (N:Nat)(p_s:Sound):Option Bool:=
 Az N (fun self1 (x1:Int)=>
  if (decide (x1<32)) then
   if ((0:Int)<=x1/\(0:Int)<=x1)then
    if ((((D9 .and .u32 (shI .shr .u32 p_s.Plus x1) 1)==1)&&((D9 .and .u32 (shI .shr .u32 p_s.Minus x1) 1)==1))||((((D9 .and .u32 (shI .shr .u32 p_s.Plus x1) 1)==1)||((D9 .and .u32 (shI .shr .u32 p_s.Minus x1) 1)==1))&&(decide (24<=x1)))) then
     some false
    else
     self1 (wrap .i64 (x1+1))
   else none
  else
   some true
  ) 0
theorem Ku {N:Nat}{p_s:Sound}{y:Bool}(h:S2 N p_s=some y) :FunO S Ke [.p (.agg (A0 p_s))] [] (pB y) ([]) []:=by
 unfold S2 at h;refine A2 hS Rn ?_;refine N0 hS trivial h (fun x1=>⟨[(3,pN x1),(1,.reg 2000 0)],[(2000,.cells [pU p_s.Plus,pU p_s.Minus])]⟩) (ids:=[(2000,2000)]) (fun _ _ _ _ _ self1 x1 hb1 h=>?_);refine kI hS h (fun h=>?_) (fun h=>?_)
 ·obtain⟨c7,h⟩:=E2 h;refine kB hS (A5 hS) c7 trivial 12 (.o (.n (.a ((D9 .and .u32 (shI .shr .u32 p_s.Plus x1) 1)==1)) (.a ((D9 .and .u32 (shI .shr .u32 p_s.Minus x1) 1)==1))) (.n (.o (.a ((D9 .and .u32 (shI .shr .u32 p_s.Plus x1) 1)==1)) (.a ((D9 .and .u32 (shI .shr .u32 p_s.Minus x1) 1)==1))) (.a (decide (24<=x1))))) ?_;refine kI hS h (fun h=>?_) (fun h=>?_)
  ·cases h;exact kR hS
  ·exact hb1 _ [(2000,2000)] _ (wrap .i64 (x1+1)) trivial h
 ·cases h;exact kR hS
def S3 (N:Nat)(p_s:Sound):Option Bool:=
 some ((((D9 .and .u32 p_s.Plus p_s.Minus)==0)&&(decide (p_s.Plus<16777216)))&&(decide (p_s.Minus<16777216)))
theorem RA {N:Nat}{p_s:Sound}{y:Bool}(h:S3 N p_s=some y) :FunO S Kf [.p (.agg (A0 p_s))] [] (pB y) ([]) []:=by unfold S3 at h;refine A2 hS Ro ?_;refine kB hS (A5 hS) trivial trivial 9 (.n (.n (.a ((D9 .and .u32 p_s.Plus p_s.Minus)==0)) (.a (decide (p_s.Plus<16777216)))) (.a (decide (p_s.Minus<16777216)))) ?_;cases h;exact kR hS
def Kv (N:Nat)(p_a:Sl Sound)(p_b:Sl Sound):Option Bool:=
 if ((p_a.n:Int) != (p_b.n:Int)) then
  some false
 else
  Az N (fun self1 (x1:Int)=>
   if (decide (x1<(p_a.n:Int))) then
    if (((0:Int)<=x1/\x1<(p_a.n:Int))/\((0:Int)<=x1/\x1<(p_b.n:Int)))then
     if ((((p_a.g x1.toNat).Plus==(p_b.g x1.toNat).Plus)&&((p_a.g x1.toNat).Minus==(p_b.g x1.toNat).Minus)) != true) then
      some false
     else
      self1 (wrap .i64 (x1+1))
    else none
   else
    some true
   ) 0
theorem Aa9 {N:Nat}{p_a:Sl Sound}{p_b:Sl Sound}{y:Bool}(h:Kv N p_a p_b=some y) :FunO S JV [.p (vSl 2 A0 p_a),.p (vSl 2 A0 p_b)] [] (pB y) ([]) []:=by
 unfold Kv at h;refine A2 hS Rg ?_;refine kI hS h (fun h=>?_) (fun h=>?_)
 ·cases h;exact kR hS
 ·refine N0 hS trivial h (fun x1=>⟨[(5,pN x1),(1,.p (vSl 2 A0 p_b)),(0,.p (vSl 2 A0 p_a))],[]⟩) (ids:=[]) (fun _ _ _ _ _ self1 x1 hb1 h=>?_);refine kI hS h (fun h=>?_) (fun h=>?_)
  ·refine G8 hS trivial [2,3,6,7] ?_;obtain⟨c9,h⟩:=E2 h;refine O0 (And.intro (And.intro (And.intro (And.intro c9.1 (by decide:(2:Nat)<=2)) c9.2) (by decide:(2:Nat)<=2)) (by decide +kernel:Za Tryz.prog D1=true)) ?_;refine kI hS h (fun h=>?_) (fun h=>?_)
   ·cases h;exact kR hS
   ·exact hb1 _ [] _ (wrap .i64 (x1+1)) trivial h
  ·cases h;exact kR hS
def Bb (N:Nat)(p_s:Sound):Option Bool:=
 some (((D9 .and .u32 p_s.Plus p_s.Minus)==0)&&((shI .shr .u32 (D9 .or .u32 p_s.Plus p_s.Minus) 24)==0))
theorem PP {N:Nat}{p_s:Sound}{y:Bool}(h:Bb N p_s=some y) :FunO S Ir [.p (.agg (A0 p_s))] [] (pB y) ([]) []:=by
 unfold Bb at h;refine A2 hS PB ?_;obtain⟨t1,ht1⟩:∃x:Bool,x=(((D9 .and .u32 p_s.Plus p_s.Minus)==0)&&((shI .shr .u32 (D9 .or .u32 p_s.Plus p_s.Minus) 24)==0)):=⟨_,rfl⟩;refine QX hS trivial (A5 hS) 0 ⟨[(2,pB t1)],[]⟩ (fun M1 hb1=>?_) ?_
 ·refine EH hS trivial (b:=(D9 .and .u32 p_s.Plus p_s.Minus)==0) (fun c2=>?_) (fun c2=>?_)
  ·exact hb1 _ [] _ (by decide:(0:Int)<=24) (hle:=klR [(0,.eq (.bb ((shI .shr .u32 (D9 .or .u32 p_s.Plus p_s.Minus) 24)==0)) (.bb t1))] (al1 (by simp only[ht1,c2,Leaf.ok,pm,if_true,if_false]) al0))
  ·exact hb1 _ [] _ trivial (hle:=klR [(0,.eq (.bb false) (.bb t1))] (al1 (by simp only[ht1,c2,Leaf.ok,pm,if_true,if_false]) al0))
 ·subst ht1;cases h;exact kR hS
def Bc (N:Nat)(p_w:Sl Sound):Option Int:=
 if (decide (32<(p_w.n:Int))) then
  some 11
 else
  Az N (fun self1 (x1:Int)=>
   if (decide (x1<(p_w.n:Int))) then
    if ((0:Int)<=x1/\x1<(p_w.n:Int))then
     (Bb N (p_w.g x1.toNat)).bind fun y3=>
     if (!y3) then
      some 14
     else
      self1 (wrap .i64 (x1+1))
    else none
   else
    some 0
   ) 0
theorem EY {N:Nat}{p_w:Sl Sound}{y:Int}(h:Bc N p_w=some y) :FunO S Ip [.p (vSl 2 A0 p_w)] [] (pN y) ([]) []:=by
 unfold Bc at h;refine A2 hS Pz ?_;refine kI hS h (fun h=>?_) (fun h=>?_)
 ·cases h;exact kR hS
 ·refine N0 hS trivial h (fun x1=>⟨[(10,pN x1),(9,pN (p_w.n:Int)),(8,.p (vSl 2 A0 p_w))],[]⟩) (ids:=[]) (fun _ _ _ _ _ self1 x1 hb1 h=>?_);refine kI hS h (fun h=>?_) (fun h=>?_)
  ·obtain⟨c9,h⟩:=E2 h;obtain⟨y3,e3,h⟩:=B5 h;refine B4 hS [] (And.intro c9 (by decide:(2:Nat)<=2)) (PP hS hL e3) ?_;refine kI hS h (fun h=>?_) (fun h=>?_)
   ·cases h;exact kR hS
   ·exact hb1 _ [] _ (wrap .i64 (x1+1)) trivial h
  ·cases h;exact kR hS
def K6 (N:Nat)(p_s:Sound):Option Bool:=
 some (((D9 .and .u32 p_s.Plus p_s.Minus)==0)&&((shI .shr .u32 (D9 .or .u32 p_s.Plus p_s.Minus) 24)==0))
theorem CB {N:Nat}{p_s:Sound}{y:Bool}(h:K6 N p_s=some y) :FunO S Ix [.p (.agg (A0 p_s))] [] (pB y) ([]) []:=by
 unfold K6 at h;refine A2 hS PF ?_;obtain⟨t1,ht1⟩:∃x:Bool,x=(((D9 .and .u32 p_s.Plus p_s.Minus)==0)&&((shI .shr .u32 (D9 .or .u32 p_s.Plus p_s.Minus) 24)==0)):=⟨_,rfl⟩;refine QX hS trivial (A5 hS) 0 ⟨[(2,pB t1)],[]⟩ (fun M1 hb1=>?_) ?_
 ·refine EH hS trivial (b:=(D9 .and .u32 p_s.Plus p_s.Minus)==0) (fun c2=>?_) (fun c2=>?_)
  ·exact hb1 _ [] _ (by decide:(0:Int)<=24) (hle:=klR [(0,.eq (.bb ((shI .shr .u32 (D9 .or .u32 p_s.Plus p_s.Minus) 24)==0)) (.bb t1))] (al1 (by simp only[ht1,c2,Leaf.ok,pm,if_true,if_false]) al0))
  ·exact hb1 _ [] _ trivial (hle:=klR [(0,.eq (.bb false) (.bb t1))] (al1 (by simp only[ht1,c2,Leaf.ok,pm,if_true,if_false]) al0))
 ·subst ht1;cases h;exact kR hS
def S4 (N:Nat)(p_n:Int):Option (Nat->Int):=
 Bj N (fun self1 (x1:Nat->Int) (x2:Int)=>
  if (decide (x2<(wrap .i64 (p_n+1)))) then
   if (((0:Int)<=x2/\((0:Int)<=x2/\x2<33))/\(0+x2.toNat*1)<33)then
    self1 (IY x1 (0+x2.toNat*1) (shI .shl .u64 1 x2)) (wrap .i64 (x2+1))
   else none
  else
   some x1
  ) (fun _=>0) 0
theorem Cj {N:Nat}{p_n:Int}{y:Nat->Int}(h:S4 N p_n=some y) :FunO S EV [pN p_n] [] (.p (.agg (cA 33 (pI .u64) y))) ([]) []:=by
 unfold S4 at h;refine A2 hS Ko ?_;refine G0 hS trivial h (fun x1 x2=>⟨[(7,pN x2),(6,pN (wrap .i64 (p_n+1))),(3,.reg 4000 0),(2,.reg 3000 0)],[(4000,.arr 33 (fun i=>pI .u64 (x1 i))),(3000,.arr 33 (fun i=>pI .u64 ((fun _=>0) i)))]⟩) (ids:=[(3000,3000),(4000,4000)]) (fun _ _ _ _ _ self1 x1 x2 hb1 h=>?_) (hle:=klR [(2,.fn 33 33 (fun i=>[(fun i=>(List.replicate 33 (pI .u64 0)).getD i default) i]) (fun i=>[pI .u64 ((fun _=>0) i)])),(3,.fn 33 33 (fun i=>[(fun i=>(List.replicate 33 (pI .u64 0)).getD i default) i]) (fun i=>[pI .u64 ((fun _=>0) i)]))] (al1 ⟨rfl,Ap (z:=pI .u64 0) rfl⟩ (al1 ⟨rfl,Ap (z:=pI .u64 0) rfl⟩ al0)));refine kI hS h (fun h=>?_) (fun h=>?_)
 ·obtain⟨c4,h⟩:=E2 h;exact hb1 _ [(3000,3000),(4000,4000)] _ (IY x1 (0+x2.toNat*1) (shI .shl .u64 1 x2)) (wrap .i64 (x2+1)) c4 h (hle:=klR [(2,.fn 33 33 (fun i=>[(fun i=>if i=(0+x2.toNat*1)then (pI .u64 (shI .shl .u64 1 x2))else (fun i=>pI .u64 (x1 i)) i) i]) (fun i=>[pI .u64 (IY x1 (0+x2.toNat*1) (shI .shl .u64 1 x2) i)]))] (al1 ⟨rfl,YQ (c:=pI .u64) (v:=x1) (x:=shI .shl .u64 1 x2) (fun _ _=>rfl) rfl⟩ al0))
 ·obtain rfl:=B6 h;exact A6 hS (And.intro rfl (D7 _ _):(0:Nat)=0/\(Aj 33 (fun i=>pI .u64 (x1 i))).length=33) ⟨[(2,.reg 3000 0)],[(3000,.arr 33 (fun i=>pI .u64 (x1 i)))]⟩ [] (ids:=[(3000,3000)]) ⟨rfl,rfl,rfl⟩ (hle:=klR [(0,.fn 33 33 (fun i=>[(fun i=>(cA 33 (pI .u64) x1).getD i default) i]) (fun i=>[pI .u64 (x1 i)]))] (al1 ⟨rfl,C9 33 (fun i=>pI .u64 (x1 i))⟩ al0))
def Q8 (N:Nat)(p_x:Nat->Int)(p_y:Nat->Int):Option (Nat->Int):=
 Bj N (fun self1 (x1:Nat->Int) (x2:Int)=>
  if (decide (x2<33)) then
   if (((0:Int)<=x2/\x2<33)/\(0+x2.toNat*1)<33)then
    if (((((0:Int)<=x2/\x2<33)/\(0+x2.toNat*1)<33)/\((0:Int)<=x2/\x2<33))/\(0+x2.toNat*1)<33)then
     self1 (IY x1 (0+x2.toNat*1) (D9 .or .u64 (x1 (0+x2.toNat*1)) (p_y (0+x2.toNat*1)))) (wrap .i64 (x2+1))
    else none
   else none
  else
   some x1
  ) p_x 0
theorem CC {N:Nat}{p_x:Nat->Int}{p_y:Nat->Int}{y:Nat->Int}(h:Q8 N p_x p_y=some y) :FunO S Cz [.reg 0 0,.reg 1 0] [.arr 33 (fun i=>pI .u64 (p_x i)),.arr 33 (fun i=>pI .u64 (p_y i))] (.tup []) ([.arr 33 (fun i=>pI .u64 (y i)),.arr 33 (fun i=>pI .u64 (p_y i))]) [true,true]:=by
 unfold Q8 at h;refine A2 hS Hf ?_;refine G0 hS trivial h (fun x1 x2=>⟨[(7,pN x2),(6,.reg 1 0),(0,.reg 0 0)],[(1,.arr 33 (fun i=>pI .u64 (p_y i))),(0,.arr 33 (fun i=>pI .u64 (x1 i)))]⟩) (ids:=[(0,0),(1,1)]) (fun _ _ _ _ _ self1 x1 x2 hb1 h=>?_);refine kI hS h (fun h=>?_) (fun h=>?_)
 ·refine Gg hS trivial ?_;obtain⟨c8,h⟩:=E2 h;refine O0 c8 ?_;refine Gg hS trivial ?_;obtain⟨c9,h⟩:=E2 h;refine O0 c9 ?_;exact hb1 _ [(0,0),(1,1)] _ (IY x1 (0+x2.toNat*1) (D9 .or .u64 (x1 (0+x2.toNat*1)) (p_y (0+x2.toNat*1)))) (wrap .i64 (x2+1)) trivial h (hle:=klR [(2,.fn 33 33 (fun i=>[(fun i=>if i=(0+x2.toNat*1)then (pI .u64 (D9 .or .u64 (x1 (0+x2.toNat*1)) (p_y (0+x2.toNat*1))))else (fun i=>pI .u64 (x1 i)) i) i]) (fun i=>[pI .u64 (IY x1 (0+x2.toNat*1) (D9 .or .u64 (x1 (0+x2.toNat*1)) (p_y (0+x2.toNat*1))) i)]))] (al1 ⟨rfl,YQ (c:=pI .u64) (v:=x1) (x:=D9 .or .u64 (x1 (0+x2.toNat*1)) (p_y (0+x2.toNat*1))) (fun _ _=>rfl) rfl⟩ al0))
 ·obtain rfl:=B6 h;exact A6 hS trivial ⟨[],[(1,.arr 33 (fun i=>pI .u64 (p_y i))),(0,.arr 33 (fun i=>pI .u64 (x1 i)))]⟩ [0,1] (ids:=[(0,0),(1,1)]) ⟨rfl,rfl,rfl⟩
def BI (N:Nat)(p_w:Sl Sound)(p_at:Int):Option Int:=
 if ((decide (p_at<0))||(decide ((p_w.n:Int)<p_at))) then
  some 3
 else
  some 0
theorem Hg {N:Nat}{p_w:Sl Sound}{p_at:Int}{y:Int}(h:BI N p_w p_at=some y) :FunO S He [.p (vSl 2 A0 p_w),pN p_at] [] (pN y) ([]) []:=by
 unfold BI at h;refine A2 hS NL ?_;refine kB hS (A5 hS) trivial trivial 5 (.o (.a (decide (p_at<0))) (.a (decide ((p_w.n:Int)<p_at)))) ?_;refine kI hS h (fun h=>?_) (fun h=>?_)
 ·cases h;exact kR hS
 ·cases h;exact kR hS
def X9 (N:Nat)(p_p:Pat):Option Int:=
 if (if (p_p.Kind==0) then p_p.Kind==0 else (if (p_p.Kind==2) then p_p.Kind==2 else p_p.Kind==6)) then
  lt (fun (z1:Bool)=>
   if z1 then
    some 2
   else
    (K6 N p_p.Is).bind fun y1=>
    if (!y1) then
     some 14
    else
     some 0
   ) fun k1=>
   if (((p_p.Is.Plus==0)&&(p_p.Is.Minus==0)) != true) then
    k1 true
   else
    if p_p.Not then
     k1 true
    else
     if (p_p.Min != 0) then
      k1 true
     else
      if (p_p.Max != 0) then
       k1 true
      else
       k1 (decide (0<(p_p.L.n:Int)))
 else
  if (p_p.Kind==1) then
   lt (fun (z2:Bool)=>
    if z2 then
     some 2
    else
     (K6 N p_p.Is).bind fun y2=>
     if (!y2) then
      some 14
     else
      some 0
    ) fun k2=>
    if (((0==0)&&(0==0)) != true) then
     k2 true
    else
     if (p_p.Min != 0) then
      k2 true
     else
      if (p_p.Max != 0) then
       k2 true
      else
       k2 (decide (0<(p_p.L.n:Int)))
  else
   lt (fun (z3:Int×Int)=>
    if (((((((p_p.Is.Plus==0)&&(p_p.Is.Minus==0)) != true)||p_p.Not)||(z3.1 != 0))||(z3.2 != 0))||(decide (0<0))) then
     some 2
    else
     (K6 N p_p.Is).bind fun y3=>
     if (!y3) then
      some 14
     else
      some 0
    ) fun k3=>
    if (if (p_p.Kind==3) then p_p.Kind==3 else p_p.Kind==4) then
     k3 (p_p.Min,p_p.Max)
    else
     if (p_p.Kind==5) then
      if (((((p_p.L.n:Int) != 1)||(decide (p_p.Min<0)))||(decide (32<p_p.Min)))||((p_p.Max != (-1))&&((decide (p_p.Max<p_p.Min))||(decide (32<p_p.Max))))) then
       some 2
      else
       k3 (0,0)
     else
      some 2
theorem Lz {N:Nat}{p_p:Pat}{y:Int}(h:X9 N p_p=some y) :FunO S FO [.p (.agg (B0 p_p))] [] (pN y) ([]) []:=by
 unfold X9 at h;refine A2 hS Lp ?_;obtain⟨t1,ht1⟩:∃x:Bool,x=(if (p_p.Kind==0) then p_p.Kind==0 else (if (p_p.Kind==2) then p_p.Kind==2 else p_p.Kind==6)):=⟨_,rfl⟩;refine QX hS trivial (A5 hS) 0 ⟨[(8,pB t1),(7,pN p_p.Kind),(3,.reg 4000 0),(1,.reg 2000 0)],[(4000,.cells [pN 0,pU p_p.Is.Plus,pU p_p.Is.Minus,pB p_p.Not,pN p_p.Min,pN p_p.Max,.p (.sl false 7 p_p.L.n (Bl p_p))]),(2000,.cells ((B0 p_p).map .p))]⟩ (fun M1 hb1=>?_) ?_
 ·refine D3 hS trivial (b:=p_p.Kind==0) (fun c3=>?_) (fun c3=>?_)
  ·exact hb1 _ [(2000,2000),(4000,4000)] _ trivial (hle:=klR [(0,.eq (.bb (p_p.Kind==0)) (.bb t1))] (al1 (by simp only[ht1,c3,Leaf.ok,pm,if_true,if_false]) al0))
  ·refine D3 hS trivial (b:=p_p.Kind==2) (fun c4=>?_) (fun c4=>?_)
   ·exact hb1 _ [(2000,2000),(4000,4000)] _ trivial (hle:=klR [(0,.eq (.bb (p_p.Kind==2)) (.bb t1))] (al1 (by simp only[ht1,c3,c4,Leaf.ok,pm,if_true,if_false]) al0))
   ·exact hb1 _ [(2000,2000),(4000,4000)] _ trivial (hle:=klR [(0,.eq (.bb (p_p.Kind==6)) (.bb t1))] (al1 (by simp only[ht1,c3,c4,Leaf.ok,pm,if_true,if_false]) al0))
 ·subst ht1;refine kI hS h (fun h=>?_) (fun h=>?_)
  ·refine IW hS (by decide +kernel:Za Tryz.prog D1=true) (A5 hS) h 0 (fun z1=>⟨[(57,pB z1),(1,.reg 2000 0)],[(2000,.cells ((B0 p_p).map .p))]⟩) (fun M3 k1 hb3 h=>?_) (fun z1 h=>?_)
   ·refine kG hS h (fun h=>?_) (fun h=>?_)
    ·exact hb3 _ [(2000,2000)] _ true trivial h
    ·refine kG hS h (fun h=>?_) (fun h=>?_)
     ·exact hb3 _ [(2000,2000)] _ true trivial h
     ·refine kG hS h (fun h=>?_) (fun h=>?_)
      ·exact hb3 _ [(2000,2000)] _ true trivial h
      ·refine kG hS h (fun h=>?_) (fun h=>?_)
       ·exact hb3 _ [(2000,2000)] _ true trivial h
       ·refine K3 hS trivial 79 ⟨[(78,.p (vSl 7 B0 p_p.L)),(76,.p (.v (.bool false))),(1,.reg 2000 0)],[(2000,.cells ((B0 p_p).map .p))]⟩ (ids:=[(2000,2000)]) ?_ (hle:=klR [(0,.fn p_p.L.n p_p.L.n (Bl p_p) (fun i=>B0 (p_p.L.g i)))] (al1 ⟨rfl,P4 p_p⟩ al0));exact hb3 _ [(2000,2000)] _ (decide (0<(p_p.L.n:Int))) trivial h
   ·refine kI hS h (fun h=>?_) (fun h=>?_)
    ·cases h;exact kR hS
    ·refine kC hS h (CB hS hL) (fun y1 h=>?_);refine kI hS h (fun h=>?_) (fun h=>?_)
     ·cases h;exact kR hS
     ·cases h;exact kR hS
  ·refine kI hS h (fun h=>?_) (fun h=>?_)
   ·refine IW hS (by decide +kernel:Za Tryz.prog D1=true) (A5 hS) h 0 (fun z2=>⟨[(57,pB z2),(1,.reg 2000 0)],[(2000,.cells ((B0 p_p).map .p))]⟩) (fun M5 k2 hb5 h=>?_) (fun z2 h=>?_)
    ·refine kG hS h (fun h=>?_) (fun h=>?_)
     ·exact hb5 _ [(2000,2000)] _ true trivial h
     ·refine EH hS trivial (b:=false) (fun c54=>?_) (fun c54=>?_)
      ·exact Bool.noConfusion ((rfl:false=false).symm.trans c54)
      ·refine kG hS h (fun h=>?_) (fun h=>?_)
       ·exact hb5 _ [(2000,2000)] _ true trivial h
       ·refine kG hS h (fun h=>?_) (fun h=>?_)
        ·exact hb5 _ [(2000,2000)] _ true trivial h
        ·refine K3 hS trivial 79 ⟨[(78,.p (vSl 7 B0 p_p.L)),(76,.p (.v (.bool false))),(1,.reg 2000 0)],[(2000,.cells ((B0 p_p).map .p))]⟩ (ids:=[(2000,2000)]) ?_ (hle:=klR [(0,.fn p_p.L.n p_p.L.n (Bl p_p) (fun i=>B0 (p_p.L.g i)))] (al1 ⟨rfl,P4 p_p⟩ al0));exact hb5 _ [(2000,2000)] _ (decide (0<(p_p.L.n:Int))) trivial h
    ·refine kI hS h (fun h=>?_) (fun h=>?_)
     ·cases h;exact kR hS
     ·refine kC hS h (CB hS hL) (fun y2 h=>?_);refine kI hS h (fun h=>?_) (fun h=>?_)
      ·cases h;exact kR hS
      ·cases h;exact kR hS
   ·obtain⟨t4,ht4⟩:∃x:Bool,x=(if (p_p.Kind==3) then p_p.Kind==3 else p_p.Kind==4):=⟨_,rfl⟩;refine QX hS trivial (A5 hS) 0 ⟨[(17,pB t4),(7,pN p_p.Kind),(3,.reg 4000 0),(1,.reg 2000 0)],[(4000,.cells [pN 0,pU p_p.Is.Plus,pU p_p.Is.Minus,pB p_p.Not,pN p_p.Min,pN p_p.Max,.p (.sl false 7 p_p.L.n (Bl p_p))]),(2000,.cells ((B0 p_p).map .p))]⟩ (fun M6 hb6=>?_) ?_
    ·refine D3 hS trivial (b:=p_p.Kind==3) (fun c60=>?_) (fun c60=>?_)
     ·exact hb6 _ [(2000,2000),(4000,4000)] _ trivial (hle:=klR [(0,.eq (.bb (p_p.Kind==3)) (.bb t4))] (al1 (by simp only[ht4,c60,Leaf.ok,pm,if_true,if_false]) al0))
     ·exact hb6 _ [(2000,2000),(4000,4000)] _ trivial (hle:=klR [(0,.eq (.bb (p_p.Kind==4)) (.bb t4))] (al1 (by simp only[ht4,c60,Leaf.ok,pm,if_true,if_false]) al0))
    ·subst ht4;refine IW hS trivial (A5 hS) h 0 (fun z3=>⟨[(3,.reg 4000 0),(1,.reg 2000 0)],[(4000,.cells [pN 0,pU p_p.Is.Plus,pU p_p.Is.Minus,pB p_p.Not,pN z3.1,pN z3.2,.p H7]),(2000,.cells ((B0 p_p).map .p))]⟩) (fun M7 k3 hb7 h=>?_) (fun z3 h=>?_)
     ·refine kI hS h (fun h=>?_) (fun h=>?_)
      ·exact hb7 _ [(2000,2000),(4000,4000)] _ (p_p.Min,p_p.Max) trivial h
      ·refine kI hS h (fun h=>?_) (fun h=>?_)
       ·refine K3 hS trivial 25 ⟨[(24,.p (vSl 7 B0 p_p.L)),(3,.reg 4000 0),(1,.reg 2000 0)],[(4000,.cells [pN 0,pU p_p.Is.Plus,pU p_p.Is.Minus,pB p_p.Not,pN p_p.Min,pN p_p.Max,.p (.sl false 7 p_p.L.n (Bl p_p))]),(2000,.cells ((B0 p_p).map .p))]⟩ (ids:=[(2000,2000),(4000,4000)]) ?_ (hle:=klR [(0,.fn p_p.L.n p_p.L.n (Bl p_p) (fun i=>B0 (p_p.L.g i)))] (al1 ⟨rfl,P4 p_p⟩ al0));refine kB hS (A5 hS) trivial trivial 26 (.o (.o (.o (.a ((p_p.L.n:Int) != 1)) (.a (decide (p_p.Min<0)))) (.a (decide (32<p_p.Min)))) (.n (.a (p_p.Max != (-1))) (.o (.a (decide (p_p.Max<p_p.Min))) (.a (decide (32<p_p.Max)))))) ?_;refine kI hS h (fun h=>?_) (fun h=>?_)
        ·cases h;exact kR hS
        ·exact hb7 _ [(2000,2000),(4000,4000)] _ (0,0) trivial h
       ·cases h;exact kR hS
     ·refine kB hS (A5 hS) (by decide +kernel:Za Tryz.prog D1=true) trivial 19 (.o (.o (.o (.o (.a (((p_p.Is.Plus==0)&&(p_p.Is.Minus==0)) != true)) (.a p_p.Not)) (.a (z3.1 != 0))) (.a (z3.2 != 0))) (.a (decide (0<0)))) ?_;refine kI hS h (fun h=>?_) (fun h=>?_)
      ·cases h;exact kR hS
      ·refine kC hS h (CB hS hL) (fun y3 h=>?_);refine kI hS h (fun h=>?_) (fun h=>?_)
       ·cases h;exact kR hS
       ·cases h;exact kR hS
def Du (N:Nat)(p_p:Pat):Option Int:=
 if ((decide (p_p.Kind<0))||(decide (6<p_p.Kind))) then
  some 2
 else
  if ((p_p.Kind != 1)&&((((p_p.Is.Plus==0)&&(p_p.Is.Minus==0)) != true)||p_p.Not)) then
   some 2
  else
   lt (fun (z1:Bool)=>
    if z1 then
     some 2
    else
     if ((p_p.Kind != 5)&&((p_p.Min != 0)||(p_p.Max != 0))) then
      some 2
     else
      lt (fun (z2:Bool)=>
       if z2 then
        some 2
       else
        (S3 N p_p.Is).bind fun y1=>
        if (!y1) then
         some 14
        else
         some 0
       ) fun k2=>
       if (p_p.Kind==5) then
        if ((p_p.L.n:Int) != 1) then
         k2 true
        else
         if (decide (p_p.Min<0)) then
          k2 true
         else
          if (decide (32<p_p.Min)) then
           k2 true
          else
           if (p_p.Max != (-1)) then
            if (decide (p_p.Max<p_p.Min)) then
             k2 true
            else
             k2 (decide (32<p_p.Max))
           else
            k2 false
       else
        k2 false
    ) fun k1=>
    if (p_p.Kind != 3) then
     if (p_p.Kind != 4) then
      if (p_p.Kind != 5) then
       k1 (decide (0<(p_p.L.n:Int)))
      else
       k1 false
     else
      k1 false
    else
     k1 false
theorem Uq {N:Nat}{p_p:Pat}{y:Int}(h:Du N p_p=some y) :FunO S MD [.p (.agg (B0 p_p))] [] (pN y) ([]) []:=by
 unfold Du at h;refine A2 hS Ul ?_;refine kB hS (A5 hS) trivial trivial 4 (.o (.a (decide (p_p.Kind<0))) (.a (decide (6<p_p.Kind)))) ?_;refine kI hS h (fun h=>?_) (fun h=>?_)
 ·cases h;exact kR hS
 ·obtain⟨t1,ht1⟩:∃x:Bool,x=((p_p.Kind != 1)&&((((p_p.Is.Plus==0)&&(p_p.Is.Minus==0)) != true)||p_p.Not)):=⟨_,rfl⟩;refine QX hS trivial (A5 hS) 0 ⟨[(23,pB t1),(1,.reg 2000 0)],[(2000,.cells ((B0 p_p).map .p))]⟩ (fun M1 hb1=>?_) ?_
  ·refine EH hS trivial (b:=p_p.Kind != 1) (fun c4=>?_) (fun c4=>?_)
   ·refine EH hS (by decide +kernel:Za Tryz.prog D1=true) (b:=((p_p.Is.Plus==0)&&(p_p.Is.Minus==0)) != true) (fun c5=>?_) (fun c5=>?_)
    ·exact hb1 _ [(2000,2000)] _ trivial (hle:=klR [(0,.eq (.bb true) (.bb t1))] (al1 (by simp only[ht1,c4,c5,Leaf.ok,pm,if_true,if_false]) al0))
    ·exact hb1 _ [(2000,2000)] _ trivial (hle:=klR [(0,.eq (.bb p_p.Not) (.bb t1))] (al1 (by simp only[ht1,c4,c5,Leaf.ok,pm,if_true,if_false]) al0))
   ·exact hb1 _ [(2000,2000)] _ trivial (hle:=klR [(0,.eq (.bb false) (.bb t1))] (al1 (by simp only[ht1,c4,Leaf.ok,pm,if_true,if_false]) al0))
  ·subst ht1;refine kI hS h (fun h=>?_) (fun h=>?_)
   ·cases h;exact kR hS
   ·refine IW hS trivial (A5 hS) h 0 (fun z1=>⟨[(42,pB z1),(1,.reg 2000 0)],[(2000,.cells ((B0 p_p).map .p))]⟩) (fun M2 k1 hb2 h=>?_) (fun z1 h=>?_)
    ·refine kG hS h (fun h=>?_) (fun h=>?_)
     ·refine kG hS h (fun h=>?_) (fun h=>?_)
      ·refine kG hS h (fun h=>?_) (fun h=>?_)
       ·refine K3 hS trivial 40 ⟨[(39,.p (vSl 7 B0 p_p.L)),(37,.p (.v (.bool true))),(1,.reg 2000 0)],[(2000,.cells ((B0 p_p).map .p))]⟩ (ids:=[(2000,2000)]) ?_ (hle:=klR [(0,.fn p_p.L.n p_p.L.n (Bl p_p) (fun i=>B0 (p_p.L.g i)))] (al1 ⟨rfl,P4 p_p⟩ al0));exact hb2 _ [(2000,2000)] _ (decide (0<(p_p.L.n:Int))) trivial h
       ·exact hb2 _ [(2000,2000)] _ false trivial h
      ·exact hb2 _ [(2000,2000)] _ false trivial h
     ·exact hb2 _ [(2000,2000)] _ false trivial h
    ·refine kI hS h (fun h=>?_) (fun h=>?_)
     ·cases h;exact kR hS
     ·refine kB hS (A5 hS) trivial trivial 9 (.n (.a (p_p.Kind != 5)) (.o (.a (p_p.Min != 0)) (.a (p_p.Max != 0)))) ?_;refine kI hS h (fun h=>?_) (fun h=>?_)
      ·cases h;exact kR hS
      ·refine IW hS trivial (A5 hS) h 0 (fun z2=>⟨[(91,pB z2),(1,.reg 2000 0)],[(2000,.cells ((B0 p_p).map .p))]⟩) (fun M3 k2 hb3 h=>?_) (fun z2 h=>?_)
       ·refine kG hS h (fun h=>?_) (fun h=>?_)
        ·refine K3 hS trivial 62 ⟨[(61,.p (vSl 7 B0 p_p.L)),(59,.p (.v (.bool true))),(1,.reg 2000 0)],[(2000,.cells ((B0 p_p).map .p))]⟩ (ids:=[(2000,2000)]) ?_ (hle:=klR [(0,.fn p_p.L.n p_p.L.n (Bl p_p) (fun i=>B0 (p_p.L.g i)))] (al1 ⟨rfl,P4 p_p⟩ al0));refine kG hS h (fun h=>?_) (fun h=>?_)
         ·exact hb3 _ [(2000,2000)] _ true trivial h
         ·refine kG hS h (fun h=>?_) (fun h=>?_)
          ·exact hb3 _ [(2000,2000)] _ true trivial h
          ·refine kG hS h (fun h=>?_) (fun h=>?_)
           ·exact hb3 _ [(2000,2000)] _ true trivial h
           ·refine kG hS h (fun h=>?_) (fun h=>?_)
            ·refine kG hS h (fun h=>?_) (fun h=>?_)
             ·exact hb3 _ [(2000,2000)] _ true trivial h
             ·exact hb3 _ [(2000,2000)] _ (decide (32<p_p.Max)) trivial h
            ·exact hb3 _ [(2000,2000)] _ false trivial h
        ·exact hb3 _ [(2000,2000)] _ false trivial h
       ·refine kI hS h (fun h=>?_) (fun h=>?_)
        ·cases h;exact kR hS
        ·refine kC hS h (RA hS hL) (fun y1 h=>?_);refine kI hS h (fun h=>?_) (fun h=>?_)
         ·cases h;exact kR hS
         ·cases h;exact kR hS
end Go.AM
namespace Go.AM
open IntKind (wrap)
open Go.Proofs
set_option maxRecDepth 10000
set_option maxHeartbeats 2000000
variable {S:X1}(hS:F4 S Tryz.prog) (hL:MF S)
include hS hL
def At (rec:Pat->Int->Option Int)(N:Nat)(p_p:Pat)(p_before:Int):Option Int:=
 Bj N (fun self1 (x1:Int) (x2:Int)=>
  if ((decide (x2<(p_p.L.n:Int)))&&(decide (x1<=40))) then
   if ((0:Int)<=x2/\x2<(p_p.L.n:Int))then
    (rec (p_p.L.g x2.toNat) x1).bind fun y3=>
    self1 y3 (wrap .i64 (x2+1))
   else none
  else
   some x1
  ) (wrap .i64 (p_before+1)) 0
def Z3:Nat->Pat->Int->Option Int
 |0=>fun _ _=>none
 |N+1=>At (Z3 N) N
theorem PQ {N:Nat}{rec:Pat->Int->Option Int}(hrec:∀{p_p:Pat}{p_before:Int}{y:Int},rec p_p p_before=some y->FunO S DQ [.p (.agg (B0 p_p)),pN p_before] [] (pN y) ([]) []){p_p:Pat}{p_before:Int}{y:Int}(h:At rec N p_p p_before=some y) :FunO S DQ [.p (.agg (B0 p_p)),pN p_before] [] (pN y) ([]) []:=by
 unfold At at h;refine A2 hS Rk ?_;refine G0 hS trivial h (fun x1 x2=>⟨[(6,pN x2),(5,pN x1),(2,.reg 3000 0)],[(3000,.cells ((B0 p_p).map .p))]⟩) (ids:=[(3000,3000)]) (fun _ _ _ _ _ self1 x1 x2 hb1 h=>?_);refine K3 hS trivial 12 ⟨[(11,.p (vSl 7 B0 p_p.L)),(9,pN x2),(6,pN x2),(5,pN x1),(2,.reg 3000 0)],[(3000,.cells ((B0 p_p).map .p))]⟩ (ids:=[(3000,3000)]) ?_ (hle:=klR [(0,.fn p_p.L.n p_p.L.n (Bl p_p) (fun i=>B0 (p_p.L.g i)))] (al1 ⟨rfl,P4 p_p⟩ al0));refine kB hS (A5 hS) trivial trivial 3 (.n (.a (decide (x2<(p_p.L.n:Int)))) (.a (decide (x1<=40)))) ?_;refine kI hS h (fun h=>?_) (fun h=>?_)
 ·refine K3 hS trivial 23 ⟨[(22,pN x2),(21,.p (vSl 7 B0 p_p.L)),(6,pN x2),(5,pN x1),(2,.reg 3000 0)],[(3000,.cells ((B0 p_p).map .p))]⟩ (ids:=[(3000,3000)]) ?_ (hle:=klR [(1,.fn p_p.L.n p_p.L.n (Bl p_p) (fun i=>B0 (p_p.L.g i)))] (al1 ⟨rfl,P4 p_p⟩ al0));obtain⟨c6,h⟩:=E2 h;obtain⟨y3,e3,h⟩:=B5 h;refine B4 hS [] (And.intro c6 (by decide:(7:Nat)<=7)) (hrec e3) ?_;exact hb1 _ [(3000,3000)] _ y3 (wrap .i64 (x2+1)) trivial h
 ·cases h;exact kR hS
theorem RB {N:Nat}{p_p:Pat}{p_before:Int}{y:Int}(h:Z3 N p_p p_before=some y) :FunO S DQ [.p (.agg (B0 p_p)),pN p_before] [] (pN y) ([]) []:=by
 induction N generalizing p_p p_before y with
 |zero=>cases (show (none:Option Int)=some y from h)
 |succ N ih=>exact PQ hS hL (fun e=>ih e) h
def U7 (N:Nat)(p_p:Pat):Option Int:=
 (Z3 N p_p 0).bind fun y1=>
 some y1
theorem Dv {N:Nat}{p_p:Pat}{y:Int}(h:U7 N p_p=some y) :FunO S Mv [.p (.agg (B0 p_p))] [] (pN y) ([]) []:=by unfold U7 at h;refine A2 hS Ub ?_;refine kC hS h (RB hS hL) (fun y1 h=>?_);cases h;exact kR hS
def S5 (rec:Pat->Option Int)(N:Nat)(p_p:Pat):Option Int:=
 Bj N (fun self1 (x1:Int) (x2:Int)=>
  if (decide (x2<(p_p.L.n:Int))) then
   if ((0:Int)<=x2/\x2<(p_p.L.n:Int))then
    (rec (p_p.L.g x2.toNat)).bind fun y3=>
    self1 (wrap .i64 (x1+y3)) (wrap .i64 (x2+1))
   else none
  else
   some x1
  ) (if (p_p.Kind==5) then 1 else 0) 0
def U8:Nat->Pat->Option Int
 |0=>fun _=>none
 |N+1=>S5 (U8 N) N
theorem LA {N:Nat}{rec:Pat->Option Int}(hrec:∀{p_p:Pat}{y:Int},rec p_p=some y->FunO S BH [.p (.agg (B0 p_p))] [] (pN y) ([]) []){p_p:Pat}{y:Int}(h:S5 rec N p_p=some y) :FunO S BH [.p (.agg (B0 p_p))] [] (pN y) ([]) []:=by
 unfold S5 at h;refine A2 hS NG ?_;obtain⟨t1,ht1⟩:∃x:Int,x=(if (p_p.Kind==5) then 1 else 0):=⟨_,rfl⟩;refine QX hS trivial (A5 hS) 0 ⟨[(3,pN t1),(1,.reg 2000 0)],[(2000,.cells ((B0 p_p).map .p))]⟩ (fun M1 hb1=>?_) ?_
 ·refine D3 hS trivial (b:=p_p.Kind==5) (fun c2=>?_) (fun c2=>?_)
  ·exact hb1 _ [(2000,2000)] _ trivial (hle:=klR [(0,.eq (pI .i64 1) (pI .i64 t1))] (al1 (by simp only[ht1,c2,Leaf.ok,pm,if_true,if_false]) al0))
  ·exact hb1 _ [(2000,2000)] _ trivial (hle:=klR [(0,.eq (pI .i64 0) (pI .i64 t1))] (al1 (by simp only[ht1,c2,Leaf.ok,pm,if_true,if_false]) al0))
 ·subst ht1;refine G0 hS trivial h (fun x1 x2=>⟨[(4,pN x2),(3,pN x1),(1,.reg 2000 0)],[(2000,.cells ((B0 p_p).map .p))]⟩) (ids:=[(2000,2000)]) (fun _ _ _ _ _ self1 x1 x2 hb2 h=>?_);refine K3 hS trivial 11 ⟨[(10,.p (vSl 7 B0 p_p.L)),(8,pN x2),(4,pN x2),(3,pN x1),(1,.reg 2000 0)],[(2000,.cells ((B0 p_p).map .p))]⟩ (ids:=[(2000,2000)]) ?_ (hle:=klR [(0,.fn p_p.L.n p_p.L.n (Bl p_p) (fun i=>B0 (p_p.L.g i)))] (al1 ⟨rfl,P4 p_p⟩ al0));refine kI hS h (fun h=>?_) (fun h=>?_)
  ·refine K3 hS trivial 19 ⟨[(18,pN x2),(17,.p (vSl 7 B0 p_p.L)),(15,pN x1),(4,pN x2),(1,.reg 2000 0)],[(2000,.cells ((B0 p_p).map .p))]⟩ (ids:=[(2000,2000)]) ?_ (hle:=klR [(1,.fn p_p.L.n p_p.L.n (Bl p_p) (fun i=>B0 (p_p.L.g i)))] (al1 ⟨rfl,P4 p_p⟩ al0));obtain⟨c8,h⟩:=E2 h;obtain⟨y3,e3,h⟩:=B5 h;refine B4 hS [] (And.intro c8 (by decide:(7:Nat)<=7)) (hrec e3) ?_;exact hb2 _ [(2000,2000)] _ (wrap .i64 (x1+y3)) (wrap .i64 (x2+1)) trivial h
  ·cases h;exact kR hS
theorem NT {N:Nat}{p_p:Pat}{y:Int}(h:U8 N p_p=some y) :FunO S BH [.p (.agg (B0 p_p))] [] (pN y) ([]) []:=by
 induction N generalizing p_p y with
 |zero=>cases (show (none:Option Int)=some y from h)
 |succ N ih=>exact LA hS hL (fun e=>ih e) h
def BQ (N:Nat)(p_laws:Sl Law):Option Int:=
 Bj N (fun self3 (x3:Int) (x4:Int)=>
  if ((decide (x4<(p_laws.n:Int)))&&(decide (x4<=300))) then
   if (((0:Int)<=x4/\x4<(p_laws.n:Int))/\((0:Int)<=x4/\x4<(p_laws.n:Int)))then
    Bj N (fun self4 (x7:Int) (x8:Int)=>
     if (decide (x8<((Sl.of [(p_laws.g x4.toNat).Left,(p_laws.g x4.toNat).Right]:Sl Pat).n:Int))) then
      if ((0:Int)<=x8/\x8<((Sl.of [(p_laws.g x4.toNat).Left,(p_laws.g x4.toNat).Right]:Sl Pat).n:Int))then
       (U7 N ((Sl.of [(p_laws.g x4.toNat).Left,(p_laws.g x4.toNat).Right]:Sl Pat).g x8.toNat)).bind fun y17=>
       if (decide (y17<=40)) then
        (U8 N ((Sl.of [(p_laws.g x4.toNat).Left,(p_laws.g x4.toNat).Right]:Sl Pat).g x8.toNat)).bind fun y18=>
        self4 (wrap .i64 (x7+y18)) (wrap .i64 (x8+1))
       else
        self4 x7 (wrap .i64 (x8+1))
      else none
     else
      self3 (if x3<x7 then x7 else x3) (wrap .i64 (x4+1))
     ) 0 0
   else none
  else
   some x3
  ) 0 0
theorem Ur {N:Nat}{p_laws:Sl Law}{y:Int}(h:BQ N p_laws=some y) :FunO S Mx [.p (vSl 18 B3 p_laws)] [] (pN y) ([]) []:=by
 unfold BQ at h;refine A2 hS Ud ?_;refine G0 hS trivial h (fun x3 x4=>⟨[(4,pN x4),(3,pN x3),(0,.p (vSl 18 B3 p_laws))],[]⟩) (ids:=[]) (fun _ _ _ _ _ self3 x3 x4 hb3 h=>?_);refine kB hS (A5 hS) trivial trivial 3 (.n (.a (decide (x4<(p_laws.n:Int)))) (.a (decide (x4<=300)))) ?_;refine kI hS h (fun h=>?_) (fun h=>?_)
 ·refine G8 hS trivial [2,4,7,9] ?_;obtain⟨c24,h⟩:=E2 h;refine CJ (And.intro (And.intro (And.intro c24.1 (by decide:(7:Nat)<=17)) c24.2) (by decide:(7:Nat)<=10)) (x:=.sl true 7 2 (E4 [pI .i64 0,pI .u32 0,pI .u32 0,.v (.bool false),pI .i64 0,pI .i64 0,H7] [(0,B0 (p_laws.g x4.toNat).Left),(1,B0 (p_laws.g x4.toNat).Right)])) ?_;refine O0 trivial ?_;refine G0 hS trivial h (fun x7 x8=>⟨[(30,pN x8),(29,pN ((Sl.of [(p_laws.g x4.toNat).Left,(p_laws.g x4.toNat).Right]:Sl Pat).n:Int)),(28,.p (vSl 7 B0 (Sl.of [(p_laws.g x4.toNat).Left,(p_laws.g x4.toNat).Right]:Sl Pat))),(5,pN x7),(4,pN x4),(3,pN x3),(0,.p (vSl 18 B3 p_laws))],[]⟩) (ids:=[]) (fun _ _ _ _ _ self4 x7 x8 hb4 h=>?_) (hle:=klR [(2,.fn 2 (Sl.of [(p_laws.g x4.toNat).Left,(p_laws.g x4.toNat).Right]:Sl Pat).n (E4 [pI .i64 0,pI .u32 0,pI .u32 0,.v (.bool false),pI .i64 0,pI .i64 0,H7] [(0,B0 (p_laws.g x4.toNat).Left),(1,B0 (p_laws.g x4.toNat).Right)]) (fun i=>B0 ((Sl.of [(p_laws.g x4.toNat).Left,(p_laws.g x4.toNat).Right]:Sl Pat).g i)))] (al1 ⟨rfl,(fun i hi=>match i,hi with|0,_=>rfl|1,_=>rfl|_+2,hi=>absurd hi (by omega))⟩ al0));refine kI hS h (fun h=>?_) (fun h=>?_)
  ·obtain⟨c32,h⟩:=E2 h;refine H9 hS (And.intro c32 (by decide:(7:Nat)<=7)) 34 8000 (B0 ((Sl.of [(p_laws.g x4.toNat).Left,(p_laws.g x4.toNat).Right]:Sl Pat).g x8.toNat)) ?_;obtain⟨y17,e17,h⟩:=B5 h;refine B4 hS [] (by decide:(7:Nat)<=7) (Dv hS hL e17) ?_;refine kI hS h (fun h=>?_) (fun h=>?_)
   ·obtain⟨y18,e18,h⟩:=B5 h;refine B4 hS [] (by decide:(7:Nat)<=7) (NT hS hL e18) ?_;exact hb4 _ [] _ (wrap .i64 (x7+y18)) (wrap .i64 (x8+1)) trivial h
   ·exact hb4 _ [] _ x7 (wrap .i64 (x8+1)) trivial h
  ·exact hb3 _ [] _ (if x3<x7 then x7 else x3) (wrap .i64 (x4+1)) trivial h
 ·cases h;exact kR hS
def S6 (rec:Pat->Int->Option (Int×Int))(N:Nat)(p_p:Pat)(p_before:Int):Option (Int×Int):=
 if (p_before==40) then
  some (p_before,12)
 else
  (Du N p_p).bind fun y1=>
  if (y1 != 0) then
   some (p_before,y1)
  else
   Bj N (fun self1 (x1:Int) (x2:Int)=>
    if (decide (x2<(p_p.L.n:Int))) then
     if ((0:Int)<=x2/\x2<(p_p.L.n:Int))then
      (rec (p_p.L.g x2.toNat) x1).bind fun y4=>
      if (y4.2 != 0) then
       some (y4.1,y4.2)
      else
       self1 y4.1 (wrap .i64 (x2+1))
     else none
    else
     some (x1,0)
    ) (wrap .i64 (p_before+1)) 0
def BR:Nat->Pat->Int->Option (Int×Int)
 |0=>fun _ _=>none
 |N+1=>S6 (BR N) N
theorem RC {N:Nat}{rec:Pat->Int->Option (Int×Int)}(hrec:∀{p_p:Pat}{p_before:Int}{y:Int×Int},rec p_p p_before=some y->FunO S Fp [.p (.agg (B0 p_p)),pN p_before] [] (.tup [pN y.1,pN y.2]) ([]) []){p_p:Pat}{p_before:Int}{y:Int×Int}(h:S6 rec N p_p p_before=some y) :FunO S Fp [.p (.agg (B0 p_p)),pN p_before] [] (.tup [pN y.1,pN y.2]) ([]) []:=by
 unfold S6 at h;refine A2 hS Uk ?_;refine kI hS h (fun h=>?_) (fun h=>?_)
 ·cases h;exact kR hS
 ·refine kC hS h (Uq hS hL) (fun y1 h=>?_);refine kI hS h (fun h=>?_) (fun h=>?_)
  ·cases h;exact kR hS
  ·refine G0 hS trivial h (fun x1 x2=>⟨[(8,pN x2),(7,pN x1),(2,.reg 3000 0)],[(3000,.cells ((B0 p_p).map .p))]⟩) (ids:=[(3000,3000)]) (fun _ _ _ _ _ self1 x1 x2 hb1 h=>?_);refine K3 hS trivial 23 ⟨[(22,.p (vSl 7 B0 p_p.L)),(20,pN x2),(8,pN x2),(7,pN x1),(2,.reg 3000 0)],[(3000,.cells ((B0 p_p).map .p))]⟩ (ids:=[(3000,3000)]) ?_ (hle:=klR [(0,.fn p_p.L.n p_p.L.n (Bl p_p) (fun i=>B0 (p_p.L.g i)))] (al1 ⟨rfl,P4 p_p⟩ al0));refine kI hS h (fun h=>?_) (fun h=>?_)
   ·refine K3 hS trivial 31 ⟨[(30,pN x2),(29,.p (vSl 7 B0 p_p.L)),(8,pN x2),(7,pN x1),(2,.reg 3000 0)],[(3000,.cells ((B0 p_p).map .p))]⟩ (ids:=[(3000,3000)]) ?_ (hle:=klR [(1,.fn p_p.L.n p_p.L.n (Bl p_p) (fun i=>B0 (p_p.L.g i)))] (al1 ⟨rfl,P4 p_p⟩ al0));obtain⟨c10,h⟩:=E2 h;obtain⟨y4,e4,h⟩:=B5 h;refine B4 hS [] (And.intro c10 (by decide:(7:Nat)<=7)) (hrec e4) ?_;refine kI hS h (fun h=>?_) (fun h=>?_)
    ·cases h;exact kR hS
    ·exact hb1 _ [(3000,3000)] _ y4.1 (wrap .i64 (x2+1)) trivial h
   ·cases h;exact kR hS
theorem Us {N:Nat}{p_p:Pat}{p_before:Int}{y:Int×Int}(h:BR N p_p p_before=some y) :FunO S Fp [.p (.agg (B0 p_p)),pN p_before] [] (.tup [pN y.1,pN y.2]) ([]) []:=by
 induction N generalizing p_p p_before y with
 |zero=>cases (show (none:Option (Int×Int))=some y from h)
 |succ N ih=>exact RC hS hL (fun e=>ih e) h
def AI (N:Nat)(p_p:Pat):Option Int:=
 (BR N p_p 0).bind fun y1=>
 some y1.2
theorem Kw {N:Nat}{p_p:Pat}{y:Int}(h:AI N p_p=some y) :FunO S Kd [.p (.agg (B0 p_p))] [] (pN y) ([]) []:=by unfold AI at h;refine A2 hS Rm ?_;refine kC hS h (Us hS hL) (fun y1 h=>?_);cases h;exact kR hS
def AJ (N:Nat)(p_s:Str):Option Bool:=
 Az N (fun self1 (x1:Int)=>
  if (decide (x1<(p_s.length:Int))) then
   if ((0:Int)<=x1/\x1<(p_s.length:Int))then
    if (!(((((decide (97<=(V8 p_s x1)))&&(decide ((V8 p_s x1)<=122)))||((decide (65<=(V8 p_s x1)))&&(decide ((V8 p_s x1)<=90))))||((decide (48<=(V8 p_s x1)))&&(decide ((V8 p_s x1)<=57))))||((V8 p_s x1)==45))) then
     some false
    else
     self1 (wrap .i64 (x1+1))
   else none
  else
   some ((decide (1<=(p_s.length:Int)))&&(decide ((p_s.length:Int)<=24)))
  ) 0
theorem Ut {N:Nat}{p_s:Str}{y:Bool}(h:AJ N p_s=some y) :FunO S MB [.p (.str p_s)] [] (pB y) ([]) []:=by
 unfold AJ at h;refine A2 hS Ui ?_;refine N0 hS trivial h (fun x1=>⟨[(3,pN x1),(0,.p (.str p_s))],[]⟩) (ids:=[]) (fun _ _ _ _ _ self1 x1 hb1 h=>?_);refine kI hS h (fun h=>?_) (fun h=>?_)
 ·obtain⟨c8,h⟩:=E2 h;refine kB hS (A5 hS) c8 trivial 23 (.o (.o (.o (.n (.a (decide (97<=(V8 p_s x1)))) (.a (decide ((V8 p_s x1)<=122)))) (.n (.a (decide (65<=(V8 p_s x1)))) (.a (decide ((V8 p_s x1)<=90))))) (.n (.a (decide (48<=(V8 p_s x1)))) (.a (decide ((V8 p_s x1)<=57))))) (.a ((V8 p_s x1)==45))) ?_;refine kI hS h (fun h=>?_) (fun h=>?_)
  ·cases h;exact kR hS
  ·exact hb1 _ [] _ (wrap .i64 (x1+1)) trivial h
 ·refine kB hS (A5 hS) trivial trivial 4 (.n (.a (decide (1<=(p_s.length:Int)))) (.a (decide ((p_s.length:Int)<=24)))) ?_;cases h;exact kR hS
def Dw (N:Nat)(p_x:Ai)(p_k:Int):Option Bool:=
 lt (fun (z1:Bool)=>
  if z1 then
   some false
  else
   if ((((D9 .and .u32 p_x.Clear (D9 .or .u32 p_x.Set.Plus p_x.Set.Minus)) != 0)||((D9 .and .u32 p_x.Take (D9 .or .u32 p_x.Set.Plus p_x.Set.Minus)) != 0))||((D9 .and .u32 p_x.Take p_x.Clear) != 0)) then
    some false
   else
    if (p_x.Take==0) then
     some (p_x.Of==0)
    else
     some ((decide (0<=p_x.Of))&&(decide (p_x.Of<p_k)))
  ) fun k1=>
  if (decide (p_x.From<(-1))) then
   k1 true
  else
   if (decide (p_k<=p_x.From)) then
    k1 true
   else
    (S2 N p_x.Set).bind fun y2=>
    if (!y2) then
     k1 true
    else
     if ((D9 .andNot .u32 p_x.Clear 16777215) != 0) then
      k1 true
     else
      k1 ((D9 .andNot .u32 p_x.Take 16777215) != 0)
theorem Uu {N:Nat}{p_x:Ai}{p_k:Int}{y:Bool}(h:Dw N p_x p_k=some y) :FunO S MC [.p (.agg (O2 p_x)),pN p_k] [] (pB y) ([]) []:=by
 unfold Dw at h;refine A2 hS Uj ?_;refine IW hS trivial (A5 hS) h 0 (fun z1=>⟨[(32,pB z1),(2,.reg 3000 0),(1,pN p_k)],[(3000,.cells ((O2 p_x).map .p))]⟩) (fun M1 k1 hb1 h=>?_) (fun z1 h=>?_)
 ·refine kG hS h (fun h=>?_) (fun h=>?_)
  ·exact hb1 _ [(3000,3000)] _ true trivial h
  ·refine kG hS h (fun h=>?_) (fun h=>?_)
   ·exact hb1 _ [(3000,3000)] _ true trivial h
   ·refine kC hS h (Ku hS hL) (fun y2 h=>?_);refine kG hS h (fun h=>?_) (fun h=>?_)
    ·exact hb1 _ [(3000,3000)] _ true trivial h
    ·refine kG hS h (fun h=>?_) (fun h=>?_)
     ·exact hb1 _ [(3000,3000)] _ true trivial h
     ·exact hb1 _ [(3000,3000)] _ ((D9 .andNot .u32 p_x.Take 16777215) != 0) trivial h
 ·refine kI hS h (fun h=>?_) (fun h=>?_)
  ·cases h;exact kR hS
  ·refine kB hS (A5 hS) trivial trivial 14 (.o (.o (.a ((D9 .and .u32 p_x.Clear (D9 .or .u32 p_x.Set.Plus p_x.Set.Minus)) != 0)) (.a ((D9 .and .u32 p_x.Take (D9 .or .u32 p_x.Set.Plus p_x.Set.Minus)) != 0))) (.a ((D9 .and .u32 p_x.Take p_x.Clear) != 0))) ?_;refine kI hS h (fun h=>?_) (fun h=>?_)
   ·cases h;exact kR hS
   ·refine kI hS h (fun h=>?_) (fun h=>?_)
    ·cases h;exact kR hS
    ·refine kB hS (A5 hS) trivial trivial 5 (.n (.a (decide (0<=p_x.Of))) (.a (decide (p_x.Of<p_k)))) ?_;cases h;exact kR hS
def AK (N:Nat)(p_l:Law):Option Int:=
 (AJ N p_l.Name).bind fun y1=>
 lt (fun (z1:Bool)=>
  if z1 then
   some 17
  else
   if (((((decide (4<(p_l.If.n:Int)))||(decide (6<(p_l.Out.n:Int))))||((wrap .i64 ((p_l.If.n:Int)+(p_l.Out.n:Int)))==0))||(decide (p_l.Mode<1)))||(decide (3<p_l.Mode))) then
    some 17
   else
    Az N (fun self1 (x2:Int)=>
     if (decide (x2<(p_l.If.n:Int))) then
      if ((0:Int)<=x2/\x2<(p_l.If.n:Int))then
       (S2 N (p_l.If.g x2.toNat)).bind fun y8=>
       if (!y8) then
        some 17
       else
        self1 (wrap .i64 (x2+1))
      else none
     else
      Az N (fun self2 (x3:Int)=>
       if (decide (x3<(p_l.Out.n:Int))) then
        if ((0:Int)<=x3/\x3<(p_l.Out.n:Int))then
         (Dw N (p_l.Out.g x3.toNat) (p_l.If.n:Int)).bind fun y11=>
         if (!y11) then
          some 17
         else
          self2 (wrap .i64 (x3+1))
        else none
       else
        some 0
       ) 0
     ) 0
  ) fun k1=>
  if (!y1) then
   k1 true
  else
   (AI N p_l.Left).bind fun y4=>
   if (y4 != 0) then
    k1 true
   else
    (AI N p_l.Right).bind fun y5=>
    k1 (y5 != 0)
theorem RD {N:Nat}{p_l:Law}{y:Int}(h:AK N p_l=some y) :FunO S JY [.p (.agg (B3 p_l))] [] (pN y) ([]) []:=by
 unfold AK at h;refine A2 hS Rj ?_;refine H9 hS trivial 2 2000 (B3 p_l) ?_;refine kC hS h (Ut hS hL) (fun y1 h=>?_);refine IW hS trivial (A5 hS) h 0 (fun z1=>⟨[(20,pB z1),(1,.p (.ptr (B3 p_l)))],[]⟩) (fun M1 k1 hb1 h=>?_) (fun z1 h=>?_)
 ·refine kG hS h (fun h=>?_) (fun h=>?_)
  ·exact hb1 _ [] _ true trivial h
  ·obtain⟨y4,e4,h⟩:=B5 h;refine B4 hS [] (by decide:(7:Nat)<=17) (Kw hS hL e4) ?_;refine kG hS h (fun h=>?_) (fun h=>?_)
   ·exact hb1 _ [] _ true trivial h
   ·obtain⟨y5,e5,h⟩:=B5 h;refine B4 hS [] (by decide:(7:Nat)<=10) (Kw hS hL e5) ?_;exact hb1 _ [] _ (y5 != 0) trivial h
 ·refine kI hS h (fun h=>?_) (fun h=>?_)
  ·cases h;exact kR hS
  ·refine kB hS (A5 hS) trivial trivial 25 (.o (.o (.o (.o (.a (decide (4<(p_l.If.n:Int)))) (.a (decide (6<(p_l.Out.n:Int))))) (.a ((wrap .i64 ((p_l.If.n:Int)+(p_l.Out.n:Int)))==0))) (.a (decide (p_l.Mode<1)))) (.a (decide (3<p_l.Mode)))) ?_;refine kI hS h (fun h=>?_) (fun h=>?_)
   ·cases h;exact kR hS
   ·refine N0 hS trivial h (fun x2=>⟨[(3,pN x2),(1,.p (.ptr (B3 p_l)))],[]⟩) (ids:=[]) (fun _ _ _ _ _ self1 x2 hb2 h=>?_);refine kI hS h (fun h=>?_) (fun h=>?_)
    ·obtain⟨c15,h⟩:=E2 h;obtain⟨y8,e8,h⟩:=B5 h;refine B4 hS [] (And.intro c15 (by decide:(2:Nat)<=2)) (Ku hS hL e8) ?_;refine kI hS h (fun h=>?_) (fun h=>?_)
     ·cases h;exact kR hS
     ·exact hb2 _ [] _ (wrap .i64 (x2+1)) trivial h
    ·refine N0 hS trivial h (fun x3=>⟨[(4,pN x3),(1,.p (.ptr (B3 p_l)))],[]⟩) (ids:=[]) (fun _ _ _ _ _ self2 x3 hb3 h=>?_);refine kI hS h (fun h=>?_) (fun h=>?_)
     ·refine G8 hS trivial [1,3,4,6,8] ?_;obtain⟨c24,h⟩:=E2 h;obtain⟨y11,e11,h⟩:=B5 h;refine BA (And.intro c24 (by decide:(6:Nat)<=6)) (Uu hS hL e11) ?_;refine O0 trivial ?_;refine kI hS h (fun h=>?_) (fun h=>?_)
      ·cases h;exact kR hS
      ·exact hb3 _ [] _ (wrap .i64 (x3+1)) trivial h
     ·cases h;exact kR hS
end Go.AM
namespace Go.AM
open IntKind (wrap)
open Go.Proofs
set_option maxRecDepth 10000
set_option maxHeartbeats 2000000
variable {S:X1}(hS:F4 S Tryz.prog) (hL:MF S)
include hS hL
def Q2 (N:Nat)(q0:Int):Option (List (Int)):=
 Az N (fun self1 (x1:Int)=>
  if (x1 != 0) then
   (M4 N x1).bind fun y3=>
   if (0:Int)<=y3 then
    Fv y3 (
     self1 (D9 .andNot .u64 x1 (shI .shl .u64 1 y3))
     )
   else none
  else
   some []
  ) q0
theorem Bp {N:Nat}{q0:Int}{L:List (Int)}(h:Q2 N q0=some L) :DH S Y5 [] [.reg 0 0] [.cells [.p (pI .u64 q0)]] (L.map (fun (x:Int)=>[pI .i64 x])):=by
 unfold Q2 at h;refine DL hS Em ?_;refine EI hS trivial h (fun x1 L1=>⟨[(1,.reg 0 0),(0,.yf 1)],[(1,.yld (L1.map (fun (x:Int)=>[pI .i64 x])) true),(0,.cells [.p (pI .u64 x1)])]⟩) (ids:=[(0,0),(1,1)]) (fun _ _ _ _ _ self1 x1 L1 hb1 h=>?_);refine kI hS h (fun h=>?_) (fun h=>?_)
 ·refine kC hS h (S1 hS hL) (fun y3 h=>?_);refine Gg hS trivial ?_;obtain⟨c10,h⟩:=E2 h;refine O0 c10 ?_;obtain⟨L4,rfl,hcL4⟩:=JG h;replace h:=hcL4;refine Cd hS trivial (ys:=(fun (x:Int)=>[pI .i64 x]) y3) (rest:=L4.map (fun (x:Int)=>[pI .i64 x])) ?_ ?_
  ·refine D3 hS trivial (b:=false) (fun c11=>?_) (fun c11=>?_)
   ·exact Bool.noConfusion ((rfl:false=false).symm.trans c11)
   ·exact hb1 _ [(0,0),(1,1)] _ (D9 .andNot .u64 x1 (shI .shl .u64 1 y3)) L4 trivial h
  ·refine D3 hS trivial (b:=true) (fun c12=>?_) (fun c12=>?_)
   ·exact A6 hS trivial (a:=.tup []) (objs:=[(.cells [.p (pI .u64 (D9 .andNot .u64 x1 (shI .shl .u64 1 y3)))]),.yld [] false]) ⟨[],[(1,.yld [] false),(0,.cells [.p (pI .u64 (D9 .andNot .u64 x1 (shI .shl .u64 1 y3)))])]⟩ [0,1] (ids:=[(0,0),(1,1)]) ⟨false,rfl,rfl,_,rfl⟩
   ·exact Bool.noConfusion ((rfl:true=true).symm.trans c12)
 ·obtain rfl:=B6 h;exact A6 hS trivial (a:=.tup []) (objs:=[(.cells [.p (pI .u64 x1)]),.yld [] true]) ⟨[],[(1,.yld [] true),(0,.cells [.p (pI .u64 x1)])]⟩ [0,1] (ids:=[(0,0),(1,1)]) ⟨true,rfl,rfl,_,rfl⟩
def Y0 (N:Nat)(p_s:Int):Option (Int):=
 some p_s
theorem CP {N:Nat}{p_s:Int}{y:Int}(h:Y0 N p_s=some y) :FunO S FR [.p (pI .u64 p_s)] [] (.clo Y5 [] [.reg 0 0]) ([.cells [.p (pI .u64 y)]]) []:=by unfold Y0 at h;refine A2 hS Lt ?_;obtain rfl:=B6 h;exact A6 hS trivial ⟨[(2,.clo Y5 [] [.reg 2000 0])],[(2000,.cells [.p (pI .u64 p_s)])]⟩ [2000] (ids:=[(2000,2000)]) ⟨rfl,rfl,rfl⟩
def G7 (N:Nat)(p_x:Nat->Int)(p_y:Nat->Int):Option (Nat->Int):=
 Bj N (fun self3 (x3:Nat->Int) (x4:Int)=>
  if (decide (x4<33)) then
   if (((0:Int)<=x4/\x4<33)/\(0+x4.toNat*1)<33)then
    (Y0 N (p_x (0+x4.toNat*1))).bind fun y3=>
    (Q2 N y3).bind fun L3=>
    Y9 L3 (fun self4 (x7:Int) (z3:Nat->Int)=>
     if (((((((0:Int)<=x4/\x4<33)/\(0+x4.toNat*1)<33)/\((0:Int)<=x7/\x7<33))/\(0+x7.toNat*1)<33)/\((0:Int)<=x4/\x4<33))/\(0+x4.toNat*1)<33)then
      self4 (IY z3 (0+x4.toNat*1) (D9 .or .u64 (z3 (0+x4.toNat*1)) (p_y (0+x7.toNat*1))))
     else none
     ) (fun (z3:Nat->Int)=>
      self3 z3 (wrap .i64 (x4+1))
     ) x3
   else none
  else
   some x3
  ) (fun _=>0) 0
theorem O6 {N:Nat}{p_x:Nat->Int}{p_y:Nat->Int}{y:Nat->Int}(h:G7 N p_x p_y=some y) :FunO S W6 [.reg 0 0,.reg 1 0] [.arr 33 (fun i=>pI .u64 (p_x i)),.arr 33 (fun i=>pI .u64 (p_y i))] (.p (.agg (cA 33 (pI .u64) y))) ([.arr 33 (fun i=>pI .u64 (p_x i)),.arr 33 (fun i=>pI .u64 (p_y i))]) [true,true]:=by
 unfold G7 at h;refine A2 hS BC ?_;refine G0 hS trivial h (fun x3 x4=>⟨[(10,pN x4),(9,.reg 0 0),(5,.reg 6000 0),(4,.reg 5000 0),(3,.reg 4000 0)],[(6000,.arr 33 (fun i=>pI .u64 (x3 i))),(5000,.arr 33 (fun i=>pI .u64 ((fun _=>0) i))),(4000,.cells [.reg 1 0]),(1,.arr 33 (fun i=>pI .u64 (p_y i))),(0,.arr 33 (fun i=>pI .u64 (p_x i)))]⟩) (ids:=[(0,0),(1,1),(4000,4000),(5000,5000),(6000,6000)]) (fun _ _ _ _ _ self3 x3 x4 hb3 h=>?_) (hle:=klR [(1,.fn 33 33 (fun i=>[(fun i=>(List.replicate 33 (pI .u64 0)).getD i default) i]) (fun i=>[pI .u64 ((fun _=>0) i)])),(2,.fn 33 33 (fun i=>[(fun i=>(List.replicate 33 (pI .u64 0)).getD i default) i]) (fun i=>[pI .u64 ((fun _=>0) i)]))] (al1 ⟨rfl,Ap (z:=pI .u64 0) rfl⟩ (al1 ⟨rfl,Ap (z:=pI .u64 0) rfl⟩ al0)));refine kI hS h (fun h=>?_) (fun h=>?_)
 ·refine U1 hS trivial [(2,.l [0]),(3,.l [0]),(4,.a [7000]),(5,.a [7000])] ?_;obtain⟨c12,h⟩:=E2 h;refine O0 c12 ?_;refine H9 hS trivial 16 7000 [pI .i64 x4] ?_;refine kC hS h (CP hS hL) (fun y3 h=>?_);obtain⟨L3,e6,h⟩:=B5 h;refine DM hS trivial [18000] [10,9,6,5,4,3] 905 (fun z3=>⟨[(10,pN x4),(9,.reg 0 0),(6,.p (.ptr [pI .i64 x4])),(5,.reg 6000 0),(4,.reg 5000 0),(3,.reg 4000 0)],[(6000,.arr 33 (fun i=>pI .u64 (z3 i))),(5000,.arr 33 (fun i=>pI .u64 ((fun _=>0) i))),(4000,.cells [.reg 1 0]),(1,.arr 33 (fun i=>pI .u64 (p_y i))),(0,.arr 33 (fun i=>pI .u64 (p_x i)))]⟩) (idl:=[(0,0),(1,1),(4000,4000),(5000,5000),(6000,6000)]) h (Bp hS hL e6) (fun _=>by kernel_rfl) (fun _=>by kernel_rfl) (fun _=>by kernel_rfl) (fun _=>by kernel_rfl) (fun x7 _ self4 z3 hb4 h=>?_) (fun z3 h=>?_)
  ·refine GP hS trivial ?_;refine U1 hS trivial [(0,.n),(1,.l [6000]),(2,.l [6000]),(3,.l [4000]),(6,.l [1]),(7,.l [1]),(9,.l [6000]),(10,.a [6000])] ?_;obtain⟨c15,h⟩:=E2 h;refine O0 c15 ?_;exact hb4 _ [(0,0),(1,1),(905,905),(4000,4000),(5000,5000),(6000,6000)] _ (IY z3 (0+x4.toNat*1) (D9 .or .u64 (z3 (0+x4.toNat*1)) (p_y (0+x7.toNat*1)))) trivial h (hle:=klR [(0,.fn 33 33 (fun i=>[(fun i=>if i=(0+x4.toNat*1)then (pI .u64 (D9 .or .u64 (z3 (0+x4.toNat*1)) (p_y (0+x7.toNat*1))))else (fun i=>pI .u64 (z3 i)) i) i]) (fun i=>[pI .u64 (IY z3 (0+x4.toNat*1) (D9 .or .u64 (z3 (0+x4.toNat*1)) (p_y (0+x7.toNat*1))) i)]))] (al1 ⟨rfl,YQ (c:=pI .u64) (v:=z3) (x:=D9 .or .u64 (z3 (0+x4.toNat*1)) (p_y (0+x7.toNat*1))) (fun _ _=>rfl) rfl⟩ al0))
  ·exact hb3 _ [(0,0),(1,1),(4000,4000),(5000,5000),(6000,6000)] _ z3 (wrap .i64 (x4+1)) trivial h
 ·obtain rfl:=B6 h;exact A6 hS (And.intro rfl (D7 _ _):(0:Nat)=0/\(Aj 33 (fun i=>pI .u64 (x3 i))).length=33) ⟨[(4,.reg 5000 0)],[(5000,.arr 33 (fun i=>pI .u64 (x3 i))),(1,.arr 33 (fun i=>pI .u64 (p_y i))),(0,.arr 33 (fun i=>pI .u64 (p_x i)))]⟩ [0,1] (ids:=[(0,0),(1,1),(5000,5000)]) ⟨rfl,rfl,rfl⟩ (hle:=klR [(0,.fn 33 33 (fun i=>[(fun i=>(cA 33 (pI .u64) x3).getD i default) i]) (fun i=>[pI .u64 (x3 i)]))] (al1 ⟨rfl,C9 33 (fun i=>pI .u64 (x3 i))⟩ al0))
def N6 (N:Nat)(p_x:Nat->Int):Option (Nat->Int):=
 Bj N (fun self3 (x3:Nat->Int) (x4:Int)=>
  if (decide (x4<33)) then
   if (((0:Int)<=x4/\x4<33)/\(0+x4.toNat*1)<33)then
    (Y0 N (p_x (0+x4.toNat*1))).bind fun y3=>
    (Q2 N y3).bind fun L3=>
    Y9 L3 (fun self4 (x7:Int) (z3:Nat->Int)=>
     if (((((((0:Int)<=x4/\x4<33)/\(0+x4.toNat*1)<33)/\((0:Int)<=x7/\x7<33))/\(0+x7.toNat*1)<33)/\((0:Int)<=x4/\x4<33))/\(0+x4.toNat*1)<33)then
      self4 (IY z3 (0+x4.toNat*1) (D9 .or .u64 (z3 (0+x4.toNat*1)) (p_x (0+x7.toNat*1))))
     else none
     ) (fun (z3:Nat->Int)=>
      self3 z3 (wrap .i64 (x4+1))
     ) x3
   else none
  else
   some x3
  ) (fun _=>0) 0
theorem Bd {N:Nat}{p_x:Nat->Int}{y:Nat->Int}(h:N6 N p_x=some y) :FunO S W6 [.reg 0 0,.reg 0 0] [.arr 33 (fun i=>pI .u64 (p_x i))] (.p (.agg (cA 33 (pI .u64) y))) ([.arr 33 (fun i=>pI .u64 (p_x i))]) [true]:=by
 unfold N6 at h;refine A2 hS BC ?_;refine G0 hS trivial h (fun x3 x4=>⟨[(10,pN x4),(9,.reg 0 0),(5,.reg 6000 0),(4,.reg 5000 0),(3,.reg 4000 0)],[(6000,.arr 33 (fun i=>pI .u64 (x3 i))),(5000,.arr 33 (fun i=>pI .u64 ((fun _=>0) i))),(4000,.cells [.reg 0 0]),(0,.arr 33 (fun i=>pI .u64 (p_x i)))]⟩) (ids:=[(0,0),(4000,4000),(5000,5000),(6000,6000)]) (fun _ _ _ _ _ self3 x3 x4 hb3 h=>?_) (hle:=klR [(1,.fn 33 33 (fun i=>[(fun i=>(List.replicate 33 (pI .u64 0)).getD i default) i]) (fun i=>[pI .u64 ((fun _=>0) i)])),(2,.fn 33 33 (fun i=>[(fun i=>(List.replicate 33 (pI .u64 0)).getD i default) i]) (fun i=>[pI .u64 ((fun _=>0) i)]))] (al1 ⟨rfl,Ap (z:=pI .u64 0) rfl⟩ (al1 ⟨rfl,Ap (z:=pI .u64 0) rfl⟩ al0)));refine kI hS h (fun h=>?_) (fun h=>?_)
 ·refine U1 hS trivial [(2,.l [0]),(3,.l [0]),(4,.a [7000]),(5,.a [7000])] ?_;obtain⟨c12,h⟩:=E2 h;refine O0 c12 ?_;refine H9 hS trivial 16 7000 [pI .i64 x4] ?_;refine kC hS h (CP hS hL) (fun y3 h=>?_);obtain⟨L3,e6,h⟩:=B5 h;refine DM hS trivial [18000] [10,9,6,5,4,3] 905 (fun z3=>⟨[(10,pN x4),(9,.reg 0 0),(6,.p (.ptr [pI .i64 x4])),(5,.reg 6000 0),(4,.reg 5000 0),(3,.reg 4000 0)],[(6000,.arr 33 (fun i=>pI .u64 (z3 i))),(5000,.arr 33 (fun i=>pI .u64 ((fun _=>0) i))),(4000,.cells [.reg 0 0]),(0,.arr 33 (fun i=>pI .u64 (p_x i)))]⟩) (idl:=[(0,0),(4000,4000),(5000,5000),(6000,6000)]) h (Bp hS hL e6) (fun _=>by kernel_rfl) (fun _=>by kernel_rfl) (fun _=>by kernel_rfl) (fun _=>by kernel_rfl) (fun x7 _ self4 z3 hb4 h=>?_) (fun z3 h=>?_)
  ·refine GP hS trivial ?_;refine U1 hS trivial [(0,.n),(1,.l [6000]),(2,.l [6000]),(3,.l [4000]),(6,.l [0]),(7,.l [0]),(9,.l [6000]),(10,.a [6000])] ?_;obtain⟨c15,h⟩:=E2 h;refine O0 c15 ?_;exact hb4 _ [(0,0),(905,905),(4000,4000),(5000,5000),(6000,6000)] _ (IY z3 (0+x4.toNat*1) (D9 .or .u64 (z3 (0+x4.toNat*1)) (p_x (0+x7.toNat*1)))) trivial h (hle:=klR [(0,.fn 33 33 (fun i=>[(fun i=>if i=(0+x4.toNat*1)then (pI .u64 (D9 .or .u64 (z3 (0+x4.toNat*1)) (p_x (0+x7.toNat*1))))else (fun i=>pI .u64 (z3 i)) i) i]) (fun i=>[pI .u64 (IY z3 (0+x4.toNat*1) (D9 .or .u64 (z3 (0+x4.toNat*1)) (p_x (0+x7.toNat*1))) i)]))] (al1 ⟨rfl,YQ (c:=pI .u64) (v:=z3) (x:=D9 .or .u64 (z3 (0+x4.toNat*1)) (p_x (0+x7.toNat*1))) (fun _ _=>rfl) rfl⟩ al0))
  ·exact hb3 _ [(0,0),(4000,4000),(5000,5000),(6000,6000)] _ z3 (wrap .i64 (x4+1)) trivial h
 ·obtain rfl:=B6 h;exact A6 hS (And.intro rfl (D7 _ _):(0:Nat)=0/\(Aj 33 (fun i=>pI .u64 (x3 i))).length=33) ⟨[(4,.reg 5000 0)],[(5000,.arr 33 (fun i=>pI .u64 (x3 i))),(0,.arr 33 (fun i=>pI .u64 (p_x i)))]⟩ [0] (ids:=[(0,0),(5000,5000)]) ⟨rfl,rfl,rfl⟩ (hle:=klR [(0,.fn 33 33 (fun i=>[(fun i=>(cA 33 (pI .u64) x3).getD i default) i]) (fun i=>[pI .u64 (x3 i)]))] (al1 ⟨rfl,C9 33 (fun i=>pI .u64 (x3 i))⟩ al0))
def I0 (N:Nat)(p_x:Nat->Int)(p_k:Int)(p_n:Int):Option (Nat->Int):=
 (S4 N p_n).bind fun y1=>
 Ac5 N (fun self1 (x1:Int) (x2:Nat->Int) (x3:Nat->Int)=>
  if (decide (0<x1)) then
   if ((D9 .and .i64 x1 1)==1) then
    (G7 N x3 x2).bind fun y8=>
    (N6 N x2).bind fun y9=>
    self1 (shI .shr .i64 x1 1) y9 y8
   else
    (N6 N x2).bind fun y10=>
    self1 (shI .shr .i64 x1 1) y10 x3
  else
   some x3
  ) p_k p_x y1
theorem S7 {N:Nat}{p_x:Nat->Int}{p_k:Int}{p_n:Int}{y:Nat->Int}(h:I0 N p_x p_k p_n=some y) :FunO S Ba [.p (.agg (cA 33 (pI .u64) p_x)),pN p_k,pN p_n] [] (.p (.agg (cA 33 (pI .u64) y))) ([]) []:=by
 unfold I0 at h;refine A2 hS EU ?_;refine kC hS h (Cj hS hL) (fun y1 h=>?_);refine SL hS (And.intro rfl (D7 _ _):(0:Nat)=0/\(Aj 33 (fun i=>pI .u64 (y1 i))).length=33) h (fun x1 x2 x3=>⟨[(7,.reg 8000 0),(6,.reg 7000 0),(3,.reg 4000 0),(1,pN x1)],[(8000,.arr 33 (fun i=>pI .u64 (x3 i))),(7000,.arr 33 (fun i=>pI .u64 ((fun _=>0) i))),(4000,.arr 33 (fun i=>pI .u64 (x2 i)))]⟩) (ids:=[(4000,4000),(7000,7000),(8000,8000)]) (fun _ _ _ _ _ self1 x1 x2 x3 hb1 h=>?_) (hle:=klR [(1,.fn 33 33 (fun i=>[(fun i=>(cA 33 (pI .u64) y1).getD i default) i]) (fun i=>[pI .u64 (y1 i)])),(2,.fn 33 33 (fun i=>[(fun i=>(List.replicate 33 (pI .u64 0)).getD i default) i]) (fun i=>[pI .u64 ((fun _=>0) i)])),(3,.fn 33 33 (fun i=>[(fun i=>(cA 33 (pI .u64) p_x).getD i default) i]) (fun i=>[pI .u64 (p_x i)]))] (al1 ⟨rfl,C9 33 (fun i=>pI .u64 (y1 i))⟩ (al1 ⟨rfl,Ap (z:=pI .u64 0) rfl⟩ (al1 ⟨rfl,C9 33 (fun i=>pI .u64 (p_x i))⟩ al0))));refine kI hS h (fun h=>?_) (fun h=>?_)
 ·refine kI hS h (fun h=>?_) (fun h=>?_)
  ·obtain⟨y8,e8,h⟩:=B5 h;refine B4 hS [8000,4000] trivial (O6 hS hL e8) ?_;obtain⟨y9,e9,h⟩:=B5 h;refine B4 hS [4000] (And.intro rfl (D7 _ _):(0:Nat)=0/\(Aj 33 (fun i=>pI .u64 (y8 i))).length=33) (Bd hS hL e9) ?_;exact hb1 _ [(4000,4000),(7000,7000),(8000,8000)] _ (shI .shr .i64 x1 1) y9 y8 (And.intro (And.intro rfl (D7 _ _):(0:Nat)=0/\(Aj 33 (fun i=>pI .u64 (y9 i))).length=33) (by decide:(0:Int)<=1)) h (hle:=klR [(1,.fn 33 33 (fun i=>[(fun i=>(cA 33 (pI .u64) y8).getD i default) i]) (fun i=>[pI .u64 (y8 i)])),(3,.fn 33 33 (fun i=>[(fun i=>(cA 33 (pI .u64) y9).getD i default) i]) (fun i=>[pI .u64 (y9 i)]))] (al1 ⟨rfl,C9 33 (fun i=>pI .u64 (y8 i))⟩ (al1 ⟨rfl,C9 33 (fun i=>pI .u64 (y9 i))⟩ al0)))
  ·obtain⟨y10,e10,h⟩:=B5 h;refine B4 hS [4000] trivial (Bd hS hL e10) ?_;exact hb1 _ [(4000,4000),(7000,7000),(8000,8000)] _ (shI .shr .i64 x1 1) y10 x3 (And.intro (And.intro rfl (D7 _ _):(0:Nat)=0/\(Aj 33 (fun i=>pI .u64 (y10 i))).length=33) (by decide:(0:Int)<=1)) h (hle:=klR [(3,.fn 33 33 (fun i=>[(fun i=>(cA 33 (pI .u64) y10).getD i default) i]) (fun i=>[pI .u64 (y10 i)]))] (al1 ⟨rfl,C9 33 (fun i=>pI .u64 (y10 i))⟩ al0))
 ·obtain rfl:=B6 h;exact A6 hS (And.intro rfl (D7 _ _):(0:Nat)=0/\(Aj 33 (fun i=>pI .u64 (x3 i))).length=33) ⟨[(6,.reg 7000 0)],[(7000,.arr 33 (fun i=>pI .u64 (x3 i)))]⟩ [] (ids:=[(7000,7000)]) ⟨rfl,rfl,rfl⟩ (hle:=klR [(0,.fn 33 33 (fun i=>[(fun i=>(cA 33 (pI .u64) x3).getD i default) i]) (fun i=>[pI .u64 (x3 i)]))] (al1 ⟨rfl,C9 33 (fun i=>pI .u64 (x3 i))⟩ al0))
end Go.AM
namespace Go.AM
open IntKind (wrap)
open Go.Proofs
set_option maxRecDepth 10000
set_option maxHeartbeats 2000000
variable {S:X1}(hS:F4 S Tryz.prog) (hL:MF S)
include hS hL
def Ck (N:Nat)(p_x:Wg)(p_w:Sl Sound):Option (Nat->Int):=
 Bj N (fun self1 (x1:Nat->Int) (x2:Int)=>
  if (decide (x2<(p_w.n:Int))) then
   if ((0:Int)<=x2/\x2<(p_w.n:Int))then
    if ((((D9 .or .u32 (D9 .andNot .u32 p_x.is.Plus (p_w.g x2.toNat).Plus) (D9 .andNot .u32 p_x.is.Minus (p_w.g x2.toNat).Minus))==0)==p_x.not) != true) then
     if (((0:Int)<=(wrap .i64 (x2+1))/\((0:Int)<=x2/\x2<33))/\(0+x2.toNat*1)<33)then
      self1 (IY x1 (0+x2.toNat*1) (shI .shl .u64 1 (wrap .i64 (x2+1)))) (wrap .i64 (x2+1))
     else none
    else
     self1 x1 (wrap .i64 (x2+1))
   else none
  else
   some x1
  ) (fun _=>0) 0
theorem Kx {N:Nat}{p_x:Wg}{p_w:Sl Sound}{y:Nat->Int}(h:Ck N p_x p_w=some y) :FunO S Ci [.p (.agg (ST p_x)),.p (vSl 2 A0 p_w)] [] (.p (.agg (cA 33 (pI .u64) y))) ([]) []:=by
 unfold Ck at h;refine A2 hS Kn ?_;refine G0 hS trivial h (fun x1 x2=>⟨[(9,pN x2),(8,pN (p_w.n:Int)),(7,.p (vSl 2 A0 p_w)),(4,.reg 5000 0),(2,.reg 3000 0)],[(5000,.arr 33 (fun i=>pI .u64 (x1 i))),(3000,.cells ((ST p_x).map .p))]⟩) (ids:=[(3000,3000),(5000,5000)]) (fun _ _ _ _ _ self1 x1 x2 hb1 h=>?_) (hle:=klR [(3,.fn 33 33 (fun i=>[(fun i=>(List.replicate 33 (pI .u64 0)).getD i default) i]) (fun i=>[pI .u64 ((fun _=>0) i)]))] (al1 ⟨rfl,Ap (z:=pI .u64 0) rfl⟩ al0));refine kI hS h (fun h=>?_) (fun h=>?_)
 ·obtain⟨c8,h⟩:=E2 h;refine D3 hS (And.intro c8 (by decide:(2:Nat)<=2)) (b:=(((D9 .or .u32 (D9 .andNot .u32 p_x.is.Plus (p_w.g x2.toNat).Plus) (D9 .andNot .u32 p_x.is.Minus (p_w.g x2.toNat).Minus))==0)==p_x.not) != true) (fun c9=>?_) (fun c9=>?_)
  ·replace h:=itT c9 h;obtain⟨c10,h⟩:=E2 h;exact hb1 _ [(3000,3000),(5000,5000)] _ (IY x1 (0+x2.toNat*1) (shI .shl .u64 1 (wrap .i64 (x2+1)))) (wrap .i64 (x2+1)) c10 h (hle:=klR [(3,.fn 33 33 (fun i=>[(fun i=>if i=(0+x2.toNat*1)then (pI .u64 (shI .shl .u64 1 (wrap .i64 (x2+1))))else (fun i=>pI .u64 (x1 i)) i) i]) (fun i=>[pI .u64 (IY x1 (0+x2.toNat*1) (shI .shl .u64 1 (wrap .i64 (x2+1))) i)]))] (al1 ⟨rfl,YQ (c:=pI .u64) (v:=x1) (x:=shI .shl .u64 1 (wrap .i64 (x2+1))) (fun _ _=>rfl) rfl⟩ al0))
  ·replace h:=itF c9 h;exact hb1 _ [(3000,3000),(5000,5000)] _ x1 (wrap .i64 (x2+1)) trivial h
 ·obtain rfl:=B6 h;exact A6 hS (And.intro rfl (D7 _ _):(0:Nat)=0/\(Aj 33 (fun i=>pI .u64 (x1 i))).length=33) ⟨[(4,.reg 5000 0)],[(5000,.arr 33 (fun i=>pI .u64 (x1 i)))]⟩ [] (ids:=[(5000,5000)]) ⟨rfl,rfl,rfl⟩ (hle:=klR [(0,.fn 33 33 (fun i=>[(fun i=>(cA 33 (pI .u64) x1).getD i default) i]) (fun i=>[pI .u64 (x1 i)]))] (al1 ⟨rfl,C9 33 (fun i=>pI .u64 (x1 i))⟩ al0))
def CQ (N:Nat)(p_x:Aa4)(p_w:Sl Sound):Option (Nat->Int):=
 if p_x.end_ then
  if (((0:Int)<=(p_w.n:Int)/\((0:Int)<=(p_w.n:Int)/\(p_w.n:Int)<33))/\(0+(p_w.n:Int).toNat*1)<33)then
   some (IY (fun _=>0) (0+(p_w.n:Int).toNat*1) (shI .shl .u64 1 (p_w.n:Int)))
  else none
 else
  if (((0:Int)<=0/\(0:Int)<33)/\(0+0*1)<33)then
   some (IY (fun _=>0) (0+0*1) (shI .shl .u64 1 0))
  else none
theorem LB {N:Nat}{p_x:Aa4}{p_w:Sl Sound}{y:Nat->Int}(h:CQ N p_x p_w=some y) :FunO S CM [.p (.agg (Aa5 p_x)),.p (vSl 2 A0 p_w)] [] (.p (.agg (cA 33 (pI .u64) y))) ([]) []:=by
 unfold CQ at h;refine A2 hS Lw ?_;refine kI hS h (fun h=>?_) (fun h=>?_)
 ·obtain⟨c2,h⟩:=E2 h;obtain rfl:=B6 h;exact A6 hS (And.intro (And.intro (And.intro c2.1.1 c2.1.2) c2.2) (And.intro rfl (D7 _ _):(0:Nat)=0/\(Aj 33 (fun i=>if i=(0+(p_w.n:Int).toNat*1)then (pI .u64 (shI .shl .u64 1 (p_w.n:Int)))else (fun i=>(List.replicate 33 (pI .u64 0)).getD i default) i)).length=33)) ⟨[(4,.reg 5000 0)],[(5000,.arr 33 (fun i=>pI .u64 (IY (fun _=>0) (0+(p_w.n:Int).toNat*1) (shI .shl .u64 1 (p_w.n:Int)) i)))]⟩ [] (ids:=[(5000,5000)]) ⟨rfl,rfl,rfl⟩ (hle:=klR [(0,.fn 33 33 (fun i=>[(fun i=>(Aj 33 (fun i=>if i=(0+(p_w.n:Int).toNat*1)then (pI .u64 (shI .shl .u64 1 (p_w.n:Int)))else (fun i=>(List.replicate 33 (pI .u64 0)).getD i default) i)).getD i default) i]) (fun i=>[pI .u64 (IY (fun _=>0) (0+(p_w.n:Int).toNat*1) (shI .shl .u64 1 (p_w.n:Int)) i)]))] (al1 ⟨rfl,fun i hi=>(C9 33 (fun i=>if i=(0+(p_w.n:Int).toNat*1)then (pI .u64 (shI .shl .u64 1 (p_w.n:Int)))else (fun i=>(List.replicate 33 (pI .u64 0)).getD i default) i) i hi).trans (YQ (c:=pI .u64) (v:=fun _=>0) (x:=shI .shl .u64 1 (p_w.n:Int)) (Ap (z:=pI .u64 0) rfl) rfl i hi)⟩ al0))
 ·obtain⟨c3,h⟩:=E2 h;obtain rfl:=B6 h;exact A6 hS (And.intro (And.intro (And.intro (by decide:(0:Int)<=0) c3.1) c3.2) (And.intro rfl (D7 _ _):(0:Nat)=0/\(Aj 33 (fun i=>if i=(0+0*1)then (pI .u64 (shI .shl .u64 1 0))else (fun i=>(List.replicate 33 (pI .u64 0)).getD i default) i)).length=33)) ⟨[(4,.reg 5000 0)],[(5000,.arr 33 (fun i=>pI .u64 (IY (fun _=>0) (0+0*1) (shI .shl .u64 1 0) i)))]⟩ [] (ids:=[(5000,5000)]) ⟨rfl,rfl,rfl⟩ (hle:=klR [(0,.fn 33 33 (fun i=>[(fun i=>(Aj 33 (fun i=>if i=(0+0*1)then (pI .u64 (shI .shl .u64 1 0))else (fun i=>(List.replicate 33 (pI .u64 0)).getD i default) i)).getD i default) i]) (fun i=>[pI .u64 (IY (fun _=>0) (0+0*1) (shI .shl .u64 1 0) i)]))] (al1 ⟨rfl,fun i hi=>(C9 33 (fun i=>if i=(0+0*1)then (pI .u64 (shI .shl .u64 1 0))else (fun i=>(List.replicate 33 (pI .u64 0)).getD i default) i) i hi).trans (YQ (c:=pI .u64) (v:=fun _=>0) (x:=shI .shl .u64 1 0) (Ap (z:=pI .u64 0) rfl) rfl i hi)⟩ al0))
def DX (rec:Part->(Sl Sound)->Option (Nat->Int))(N:Nat)(p_x:Pseq)(p_w:Sl Sound):Option (Nat->Int):=
 (S4 N (p_w.n:Int)).bind fun y1=>
 Bj N (fun self1 (x1:Nat->Int) (x2:Int)=>
  if (decide (x2<(p_x.l.n:Int))) then
   if ((0:Int)<=x2/\x2<(p_x.l.n:Int))then
    (rec (p_x.l.g x2.toNat) p_w).bind fun y6=>
    (G7 N x1 y6).bind fun y7=>
    self1 y7 (wrap .i64 (x2+1))
   else none
  else
   some x1
  ) y1 0
theorem NU {N:Nat}{rec:Part->(Sl Sound)->Option ((Nat->Int))}(hrec:∀{x:Part}{b0:(Sl Sound)}{y:(Nat->Int)},rec x b0=some y->Ah0 S Tryz.prog (EK x) "ablaut/pats.in" [(.p (vSl 2 A0 b0))] (.p (.agg (cA 33 (pI .u64) y)))){p_x:Pseq}{p_w:(Sl Sound)}{y:(Nat->Int)}(h:DX rec N p_x p_w=some y) :FunO S DU [(.p (.agg (Ai2 p_x))),(.p (vSl 2 A0 p_w))] [] (.p (.agg (cA 33 (pI .u64) y))) ([]) []:=by
 unfold DX at h;refine A2 hS NO ?_;refine kC hS h (Cj hS hL) (fun y1 h=>?_);refine G0 hS (And.intro rfl (D7 _ _):(0:Nat)=0/\(Aj 33 (fun i=>pI .u64 (y1 i))).length=33) h (fun x1 x2=>⟨[(15,(pN x2)),(14,(pN (p_x.l.n:Int))),(13,(.p (vSl 1 Dp p_x.l))),(5,(.reg 6000 0)),(4,(.reg 5000 0)),(1,(.p (vSl 2 A0 p_w)))],[(6000,(.arr 33 (fun i=>pI .u64 (x1 i)))),(5000,(.arr 33 (fun i=>pI .u64 ((fun _=>0) i))))]⟩) (ids:=[(5000,5000),(6000,6000)]) (fun _ _ _ _ _ self1 x1 x2 hb1 h=>?_) (hle:=(klR [(4,.fn 33 33 (fun i=>[(fun i=>(cA 33 (pI .u64) y1).getD i default) i]) (fun i=>[pI .u64 (y1 i)])),(5,.fn 33 33 (fun i=>[(fun i=>(List.replicate 33 (pI .u64 0)).getD i default) i]) (fun i=>[pI .u64 ((fun _=>0) i)]))] (al1 ⟨rfl,(C9 33 (fun i=>pI .u64 (y1 i)))⟩ (al1 ⟨rfl,(Ap (z:=pI .u64 0) rfl)⟩ al0))));refine kI hS h (fun h=>?_) (fun h=>?_)
 ·obtain⟨c6,h⟩:=E2 h;obtain⟨y6,e6,h⟩:=B5 h;refine IX hS c6 (hrec e6) ?_;refine Cw hS (And.intro rfl (D7 _ _):(0:Nat)=0/\(Aj 33 (fun i=>pI .u64 (y6 i))).length=33) ⟨[(15,(pN x2)),(14,(pN (p_x.l.n:Int))),(13,(.p (vSl 1 Dp p_x.l))),(8,(.reg 9000 0)),(5,(.reg 6000 0)),(4,(.reg 5000 0)),(1,(.p (vSl 2 A0 p_w)))],[(9000,(.arr 33 (fun i=>pI .u64 (y6 i)))),(6000,(.arr 33 (fun i=>pI .u64 (x1 i)))),(5000,(.arr 33 (fun i=>pI .u64 ((fun _=>0) i))))]⟩ (ids:=[(5000,5000),(6000,6000),(9000,9000)]) ?_ (hle:=(klR [(4,.fn 33 33 (fun i=>[(fun i=>(cA 33 (pI .u64) y6).getD i default) i]) (fun i=>[pI .u64 (y6 i)]))] (al1 ⟨rfl,(C9 33 (fun i=>pI .u64 (y6 i)))⟩ al0)));obtain⟨y7,e7,h⟩:=B5 h;refine B4 hS [6000,9000] trivial (O6 hS hL e7) ?_;exact hb1 _ [(5000,5000),(6000,6000)] _ y7 (wrap .i64 (x2+1)) (And.intro rfl (D7 _ _):(0:Nat)=0/\(Aj 33 (fun i=>pI .u64 (y7 i))).length=33) h (hle:=klR [(4,.fn 33 33 (fun i=>[(fun i=>(cA 33 (pI .u64) y7).getD i default) i]) (fun i=>[pI .u64 (y7 i)]))] (al1 ⟨rfl,(C9 33 (fun i=>pI .u64 (y7 i)))⟩ al0))
 ·obtain rfl:=B6 h;exact A6 hS (And.intro rfl (D7 _ _):(0:Nat)=0/\(Aj 33 (fun i=>pI .u64 (x1 i))).length=33) ⟨[(4,(.reg 5000 0))],[(5000,(.arr 33 (fun i=>pI .u64 (x1 i))))]⟩ [] (ids:=[(5000,5000)]) ⟨rfl,rfl,rfl⟩ (hle:=(klR [(0,.fn 33 33 (fun i=>[(fun i=>(cA 33 (pI .u64) x1).getD i default) i]) (fun i=>[pI .u64 (x1 i)]))] (al1 ⟨rfl,(C9 33 (fun i=>pI .u64 (x1 i)))⟩ al0)))
def DY (rec:Part->(Sl Sound)->Option (Nat->Int))(N:Nat)(p_x:Palt)(p_w:Sl Sound):Option (Nat->Int):=
 Bj N (fun self1 (x1:Nat->Int) (x2:Int)=>
  if (decide (x2<(p_x.l.n:Int))) then
   if ((0:Int)<=x2/\x2<(p_x.l.n:Int))then
    (rec (p_x.l.g x2.toNat) p_w).bind fun y5=>
    (Q8 N x1 y5).bind fun y6=>
    self1 y6 (wrap .i64 (x2+1))
   else none
  else
   some x1
  ) (fun _=>0) 0
theorem NV {N:Nat}{rec:Part->(Sl Sound)->Option ((Nat->Int))}(hrec:∀{x:Part}{b0:(Sl Sound)}{y:(Nat->Int)},rec x b0=some y->Ah0 S Tryz.prog (EK x) "ablaut/pats.in" [(.p (vSl 2 A0 b0))] (.p (.agg (cA 33 (pI .u64) y)))){p_x:Palt}{p_w:(Sl Sound)}{y:(Nat->Int)}(h:DY rec N p_x p_w=some y) :FunO S DS [(.p (.agg (Ai0 p_x))),(.p (vSl 2 A0 p_w))] [] (.p (.agg (cA 33 (pI .u64) y))) ([]) []:=by
 unfold DY at h;refine A2 hS NM ?_;refine G0 hS trivial h (fun x1 x2=>⟨[(11,(pN x2)),(10,(pN (p_x.l.n:Int))),(9,(.p (vSl 1 Dp p_x.l))),(4,(.reg 5000 0)),(1,(.p (vSl 2 A0 p_w)))],[(5000,(.arr 33 (fun i=>pI .u64 (x1 i))))]⟩) (ids:=[(5000,5000)]) (fun _ _ _ _ _ self1 x1 x2 hb1 h=>?_) (hle:=(klR [(4,.fn 33 33 (fun i=>[(fun i=>(List.replicate 33 (pI .u64 0)).getD i default) i]) (fun i=>[pI .u64 ((fun _=>0) i)]))] (al1 ⟨rfl,(Ap (z:=pI .u64 0) rfl)⟩ al0)));refine kI hS h (fun h=>?_) (fun h=>?_)
 ·obtain⟨c6,h⟩:=E2 h;obtain⟨y5,e5,h⟩:=B5 h;refine IX hS c6 (hrec e5) ?_;refine Cw hS (And.intro rfl (D7 _ _):(0:Nat)=0/\(Aj 33 (fun i=>pI .u64 (y5 i))).length=33) ⟨[(11,(pN x2)),(10,(pN (p_x.l.n:Int))),(9,(.p (vSl 1 Dp p_x.l))),(7,(.reg 8000 0)),(4,(.reg 5000 0)),(1,(.p (vSl 2 A0 p_w)))],[(8000,(.arr 33 (fun i=>pI .u64 (y5 i)))),(5000,(.arr 33 (fun i=>pI .u64 (x1 i))))]⟩ (ids:=[(5000,5000),(8000,8000)]) ?_ (hle:=(klR [(4,.fn 33 33 (fun i=>[(fun i=>(cA 33 (pI .u64) y5).getD i default) i]) (fun i=>[pI .u64 (y5 i)]))] (al1 ⟨rfl,(C9 33 (fun i=>pI .u64 (y5 i)))⟩ al0)));obtain⟨y6,e6,h⟩:=B5 h;refine B4 hS [5000,8000] trivial (CC hS hL e6) ?_;exact hb1 _ [(5000,5000)] _ y6 (wrap .i64 (x2+1)) trivial h
 ·obtain rfl:=B6 h;exact A6 hS (And.intro rfl (D7 _ _):(0:Nat)=0/\(Aj 33 (fun i=>pI .u64 (x1 i))).length=33) ⟨[(4,(.reg 5000 0))],[(5000,(.arr 33 (fun i=>pI .u64 (x1 i))))]⟩ [] (ids:=[(5000,5000)]) ⟨rfl,rfl,rfl⟩ (hle:=(klR [(0,.fn 33 33 (fun i=>[(fun i=>(cA 33 (pI .u64) x1).getD i default) i]) (fun i=>[pI .u64 (x1 i)]))] (al1 ⟨rfl,(C9 33 (fun i=>pI .u64 (x1 i)))⟩ al0)))
def DZ (rec:Part->(Sl Sound)->Option (Nat->Int))(N:Nat)(p_x:Prep)(p_w:Sl Sound):Option (Nat->Int):=
 (rec p_x.of p_w).bind fun y1=>
 (I0 N y1 p_x.min (p_w.n:Int)).bind fun y2=>
 (S4 N (p_w.n:Int)).bind fun y3=>
 (Q8 N y1 y3).bind fun y4=>
 if (decide (p_x.max<0)) then
  (I0 N y4 (p_w.n:Int) (p_w.n:Int)).bind fun y5=>
  (G7 N y2 y5).bind fun y6=>
  some y6
 else
  (I0 N y4 (wrap .i64 (p_x.max-p_x.min)) (p_w.n:Int)).bind fun y7=>
  (G7 N y2 y7).bind fun y8=>
  some y8
theorem NW {N:Nat}{rec:Part->(Sl Sound)->Option ((Nat->Int))}(hrec:∀{x:Part}{b0:(Sl Sound)}{y:(Nat->Int)},rec x b0=some y->Ah0 S Tryz.prog (EK x) "ablaut/pats.in" [(.p (vSl 2 A0 b0))] (.p (.agg (cA 33 (pI .u64) y)))){p_x:Prep}{p_w:(Sl Sound)}{y:(Nat->Int)}(h:DZ rec N p_x p_w=some y) :FunO S DT [(.p (.agg (Ai1 p_x))),(.p (vSl 2 A0 p_w))] [] (.p (.agg (cA 33 (pI .u64) y))) ([]) []:=by
 unfold DZ at h;refine A2 hS NN ?_;obtain⟨y1,e1,h⟩:=B5 h;refine IX hS trivial (hrec e1) ?_;refine Cw hS (And.intro rfl (D7 _ _):(0:Nat)=0/\(Aj 33 (fun i=>pI .u64 (y1 i))).length=33) ⟨[(18,(pN (p_w.n:Int))),(16,(pN p_x.min)),(14,(.p (.agg (cA 33 (pI .u64) y1)))),(5,(.reg 6000 0)),(4,(.reg 5000 0)),(2,(.reg 3000 0)),(1,(.p (vSl 2 A0 p_w)))],[(6000,(.arr 33 (fun i=>pI .u64 (y1 i)))),(5000,(.arr 33 (fun i=>pI .u64 ((fun _=>0) i)))),(3000,(.cells [(.p (EK p_x.of)),(pN p_x.min),(pN p_x.max)]))]⟩ (ids:=[(3000,3000),(5000,5000),(6000,6000)]) ?_ (hle:=(klR [(2,.eq (.agg (Aj 33 (fun i=>(cA 33 (pI .u64) y1).getD i default))) (.agg (cA 33 (pI .u64) y1))),(4,.fn 33 33 (fun i=>[(fun i=>(cA 33 (pI .u64) y1).getD i default) i]) (fun i=>[pI .u64 (y1 i)])),(5,.fn 33 33 (fun i=>[(fun i=>(List.replicate 33 (pI .u64 0)).getD i default) i]) (fun i=>[pI .u64 ((fun _=>0) i)]))] (al1 (congrArg PV.agg (TW (C9 33 (fun i=>pI .u64 (y1 i))))) (al1 ⟨rfl,(C9 33 (fun i=>pI .u64 (y1 i)))⟩ (al1 ⟨rfl,(Ap (z:=pI .u64 0) rfl)⟩ al0)))));refine kC hS h (S7 hS hL) (fun y2 h=>?_);obtain⟨y3,e3,h⟩:=B5 h;refine B4 hS [] (And.intro (And.intro rfl (D7 _ _):(0:Nat)=0/\(Aj 33 (fun i=>pI .u64 (y2 i))).length=33) (And.intro rfl (D7 _ _):(0:Nat)=0/\(Aj 33 (fun i=>pI .u64 (y1 i))).length=33)) (Cj hS hL e3) ?_;refine Cw hS (And.intro rfl (D7 _ _):(0:Nat)=0/\(Aj 33 (fun i=>pI .u64 (y3 i))).length=33) ⟨[(8,(.reg 9000 0)),(7,(.reg 8000 0)),(6,(.reg 7000 0)),(4,(.reg 5000 0)),(2,(.reg 3000 0)),(1,(.p (vSl 2 A0 p_w)))],[(9000,(.arr 33 (fun i=>pI .u64 (y3 i)))),(8000,(.arr 33 (fun i=>pI .u64 (y1 i)))),(7000,(.arr 33 (fun i=>pI .u64 (y2 i)))),(5000,(.arr 33 (fun i=>pI .u64 ((fun _=>0) i)))),(3000,(.cells [(.p (EK p_x.of)),(pN p_x.min),(pN p_x.max)]))]⟩ (ids:=[(3000,3000),(5000,5000),(7000,7000),(8000,8000),(9000,9000)]) ?_ (hle:=(klR [(1,.fn 33 33 (fun i=>[(fun i=>(cA 33 (pI .u64) y3).getD i default) i]) (fun i=>[pI .u64 (y3 i)])),(2,.fn 33 33 (fun i=>[(fun i=>(cA 33 (pI .u64) y1).getD i default) i]) (fun i=>[pI .u64 (y1 i)])),(3,.fn 33 33 (fun i=>[(fun i=>(cA 33 (pI .u64) y2).getD i default) i]) (fun i=>[pI .u64 (y2 i)]))] (al1 ⟨rfl,(C9 33 (fun i=>pI .u64 (y3 i)))⟩ (al1 ⟨rfl,(C9 33 (fun i=>pI .u64 (y1 i)))⟩ (al1 ⟨rfl,(C9 33 (fun i=>pI .u64 (y2 i)))⟩ al0)))));obtain⟨y4,e4,h⟩:=B5 h;refine B4 hS [8000,9000] trivial (CC hS hL e4) ?_;refine kI hS h (fun h=>?_) (fun h=>?_)
 ·refine kC hS h (S7 hS hL) (fun y5 h=>?_);refine Cw hS (And.intro rfl (D7 _ _):(0:Nat)=0/\(Aj 33 (fun i=>pI .u64 (y5 i))).length=33) ⟨[(7,(.reg 8000 0)),(6,(.reg 7000 0)),(4,(.reg 5000 0))],[(8000,(.arr 33 (fun i=>pI .u64 (y5 i)))),(7000,(.arr 33 (fun i=>pI .u64 (y2 i)))),(5000,(.arr 33 (fun i=>pI .u64 ((fun _=>0) i))))]⟩ (ids:=[(5000,5000),(7000,7000),(8000,8000)]) ?_ (hle:=(klR [(0,.fn 33 33 (fun i=>[(fun i=>(cA 33 (pI .u64) y5).getD i default) i]) (fun i=>[pI .u64 (y5 i)]))] (al1 ⟨rfl,(C9 33 (fun i=>pI .u64 (y5 i)))⟩ al0)));obtain⟨y6,e6,h⟩:=B5 h;refine B4 hS [7000,8000] trivial (O6 hS hL e6) ?_;obtain rfl:=B6 h;exact A6 hS (And.intro rfl (D7 _ _):(0:Nat)=0/\(Aj 33 (fun i=>pI .u64 (y6 i))).length=33) ⟨[(4,(.reg 5000 0))],[(5000,(.arr 33 (fun i=>pI .u64 (y6 i))))]⟩ [] (ids:=[(5000,5000)]) ⟨rfl,rfl,rfl⟩ (hle:=(klR [(0,.fn 33 33 (fun i=>[(fun i=>(cA 33 (pI .u64) y6).getD i default) i]) (fun i=>[pI .u64 (y6 i)]))] (al1 ⟨rfl,(C9 33 (fun i=>pI .u64 (y6 i)))⟩ al0)))
 ·refine kC hS h (S7 hS hL) (fun y7 h=>?_);refine Cw hS (And.intro rfl (D7 _ _):(0:Nat)=0/\(Aj 33 (fun i=>pI .u64 (y7 i))).length=33) ⟨[(7,(.reg 8000 0)),(6,(.reg 7000 0)),(4,(.reg 5000 0))],[(8000,(.arr 33 (fun i=>pI .u64 (y7 i)))),(7000,(.arr 33 (fun i=>pI .u64 (y2 i)))),(5000,(.arr 33 (fun i=>pI .u64 ((fun _=>0) i))))]⟩ (ids:=[(5000,5000),(7000,7000),(8000,8000)]) ?_ (hle:=(klR [(0,.fn 33 33 (fun i=>[(fun i=>(cA 33 (pI .u64) y7).getD i default) i]) (fun i=>[pI .u64 (y7 i)]))] (al1 ⟨rfl,(C9 33 (fun i=>pI .u64 (y7 i)))⟩ al0)));obtain⟨y8,e8,h⟩:=B5 h;refine B4 hS [7000,8000] trivial (O6 hS hL e8) ?_;obtain rfl:=B6 h;exact A6 hS (And.intro rfl (D7 _ _):(0:Nat)=0/\(Aj 33 (fun i=>pI .u64 (y8 i))).length=33) ⟨[(4,(.reg 5000 0))],[(5000,(.arr 33 (fun i=>pI .u64 (y8 i))))]⟩ [] (ids:=[(5000,5000)]) ⟨rfl,rfl,rfl⟩ (hle:=(klR [(0,.fn 33 33 (fun i=>[(fun i=>(cA 33 (pI .u64) y8).getD i default) i]) (fun i=>[pI .u64 (y8 i)]))] (al1 ⟨rfl,(C9 33 (fun i=>pI .u64 (y8 i)))⟩ al0)))
def Bq (rec:Pat->Option Part)(N:Nat)(p_p:Pat):Option Part:=
 Bj N (fun self1 (x1:Sl Part) (x2:Int)=>
  if (decide (x2<(p_p.L.n:Int))) then
   if ((0:Int)<=x2/\x2<(p_p.L.n:Int))then
    (rec (p_p.L.g x2.toNat)).bind fun y3=>
    if ((x1.n+(Sl.of [y3]:Sl Part).n)*16<=140737488355328/\x1.n+(Sl.of [y3]:Sl Part).n<=140737488355328)then
     self1 (x1.push y3) (wrap .i64 (x2+1))
    else none
   else none
  else
   if (p_p.Kind==1) then
    some (Part.sound p_p.Is p_p.Not)
   else
    if (p_p.Kind==2) then
     some (Part.edge false)
    else
     if (p_p.Kind==6) then
      some (Part.edge true)
     else
      if (p_p.Kind==4) then
       some (Part.alt x1.n x1.g)
      else
       if (p_p.Kind==5) then
        if (((0:Int)<=0/\0<(x1.n:Int))/\0<x1.n)then
         some (Part.rep (x1.g 0) p_p.Min p_p.Max)
        else none
       else
        some (Part.seq x1.n x1.g)
  ) (Sl.nil:Sl Part) 0
def CR:Nat->Pat->Option Part
 |0=>fun _=>none
 |N+1=>Bq (CR N) N
theorem Ky {N:Nat}{rec:Pat->Option Part}(hrec:∀{p_p:Pat}{y:Part},rec p_p=some y->FunO S AT [.p (.agg (B0 p_p))] [] (.p (EK y)) ([]) []){p_p:Pat}{y:Part}(h:Bq rec N p_p=some y) :FunO S AT [.p (.agg (B0 p_p))] [] (.p (EK y)) ([]) []:=by
 unfold Bq at h;refine A2 hS Lu ?_;refine H9 hS trivial 2 2000 (B0 p_p) ?_;refine K3 hS trivial 8 ⟨[(7,.p (vSl 7 B0 p_p.L)),(3,.p H7),(1,.p (.ptr (B0 p_p)))],[]⟩ (ids:=[]) ?_ (hle:=klR [(0,.fn p_p.L.n p_p.L.n (Bl p_p) (fun i=>B0 (p_p.L.g i)))] (al1 ⟨rfl,P4 p_p⟩ al0));refine G0 hS trivial h (fun x1 x2=>⟨[(9,pN x2),(8,pN (p_p.L.n:Int)),(7,.p (vSl 7 B0 p_p.L)),(3,.vec 4500),(1,.p (.ptr (B0 p_p)))],[(4500,.vec Rw 1 x1.n (fun i=>Dp (x1.g i)) false)]⟩) (ids:=[]) (fun _ _ _ _ _ self1 x1 x2 hb1 h=>?_);refine kI hS h (fun h=>?_) (fun h=>?_)
 ·obtain⟨c6,h⟩:=E2 h;refine H9 hS (And.intro c6 (by decide:(7:Nat)<=7)) 13 6000 (B0 (p_p.L.g x2.toNat)) ?_;obtain⟨y3,e3,h⟩:=B5 h;refine B4 hS [] (by decide:(7:Nat)<=7) (hrec e3) ?_;obtain⟨c7,h⟩:=E2 h;exact hb1 _ [(4500,18000)] _ (x1.push y3) (wrap .i64 (x2+1)) (And.intro (rfl:true=true) c7) h (hle:=klR [(4,.fn (x1.n+1) (x1.push y3).n (AW x1.n (fun i=>Dp (x1.g i)) (E4 [.v .nilIface] [(0,Dp y3)])) (fun i=>Dp ((x1.push y3).g i)))] (al1 ⟨rfl,Mo (c:=Dp) (v:=x1) (x:=y3) (z:=[(.v .nilIface)]) same rfl rfl⟩ al0))
 ·refine kI hS h (fun h=>?_) (fun h=>?_)
  ·obtain rfl:=B6 h;exact VZ hS (by decide:(2:Nat)<=6) [] ⟨rfl,rfl,rfl⟩
  ·refine kI hS h (fun h=>?_) (fun h=>?_)
   ·cases h;exact kR hS
   ·refine kI hS h (fun h=>?_) (fun h=>?_)
    ·cases h;exact kR hS
    ·refine kI hS h (fun h=>?_) (fun h=>?_)
     ·refine K3 hS trivial 40 ⟨[(39,.p (vSl 1 Dp x1))],[]⟩ (ids:=[]) ?_;cases h;exact kR hS
     ·refine kI hS h (fun h=>?_) (fun h=>?_)
      ·refine G8 hS trivial [4,6] ?_;obtain⟨c13,h⟩:=E2 h;refine O0 c13 ?_;cases h;exact kR hS
      ·refine K3 hS trivial 54 ⟨[(53,.p (vSl 1 Dp x1))],[]⟩ (ids:=[]) ?_;cases h;exact kR hS
theorem LC {N:Nat}{p_p:Pat}{y:Part}(h:CR N p_p=some y) :FunO S AT [.p (.agg (B0 p_p))] [] (.p (EK y)) ([]) []:=by
 induction N generalizing p_p y with
 |zero=>cases (show (none:Option Part)=some y from h)
 |succ N ih=>exact Ky hS hL (fun e=>ih e) h
end Go.AM
namespace Go.AM
open Go.Proofs
variable {S:X1}(hS:F4 S Tryz.prog) (hL:MF S)
include hS hL
def EZ:Nat->Part->Sl Sound->Option (Nat->Int)
 |0=>fun _ _=>none
 |N+1=>fun p w=>match p with
  |.nil=>none
  |.sound x no=>Ck N ⟨x,no⟩ w
  |.edge e=>CQ N ⟨e⟩ w
  |.seq n g=>DX (EZ N) N ⟨⟨n,g⟩⟩ w
  |.alt n g=>DY (EZ N) N ⟨⟨n,g⟩⟩ w
  |.rep o mn mx=>DZ (EZ N) N ⟨o,mn,mx⟩ w
theorem Wm {N:Nat}{x:Part}{w:Sl Sound}{y:Nat->Int}(h:EZ N x w=some y):Ah0 S Tryz.prog (EK x) "ablaut/pats.in" [(.p (vSl 2 A0 w))] (.p (.agg (cA 33 (pI .u64) y))):=by
 induction N generalizing x w y with
 |zero=>cases h
 |succ N ih=>
  cases x with
  |nil=>cases h
  |sound s no=>exact⟨_,_,Ci,rfl,by kernel_rfl,Kx hS hL (p_x:=⟨s,no⟩) h⟩
  |edge e=>exact⟨_,_,CM,rfl,by kernel_rfl,LB hS hL (N:=N) (p_x:=⟨e⟩) h⟩
  |seq n g=>exact⟨_,_,DU,rfl,by kernel_rfl,NU hS hL (fun e=>ih e) (p_x:=⟨⟨n,g⟩⟩) h⟩
  |alt n g=>exact⟨_,_,DS,rfl,by kernel_rfl,NV hS hL (fun e=>ih e) (p_x:=⟨⟨n,g⟩⟩) h⟩
  |rep o mn mx=>exact⟨_,_,DT,rfl,by kernel_rfl,NW hS hL (fun e=>ih e) (p_x:=⟨o,mn,mx⟩) h⟩
end Go.AM
namespace Go.AM
open IntKind (wrap)
open Go.Proofs
set_option maxRecDepth 10000
set_option maxHeartbeats 2000000
variable {S:X1}(hS:F4 S Tryz.prog) (hL:MF S)
include hS hL
def Cl (N:Nat)(p_s:Sound):Option Bool:=
 (K6 N p_s).bind fun y1=>
 some (!y1)
theorem Kz {N:Nat}{p_s:Sound}{y:Bool}(h:Cl N p_s=some y) :FunO S ET [.p (.agg (A0 p_s))] [] (pB y) ([]) []:=by unfold Cl at h;refine A2 hS Km ?_;refine kC hS h (CB hS hL) (fun y1 h=>?_);cases h;exact kR hS
def C8 (N:Nat)(p_s:Sl Sound)(p_f:Sound->Option Bool):Option Int:=
 Az N (fun self1 (x1:Int)=>
  if (decide (x1<(p_s.n:Int))) then
   if ((0:Int)<=x1/\x1<(p_s.n:Int))then
    (p_f (p_s.g x1.toNat)).bind fun y3=>
    if y3 then
     some x1
    else
     self1 (wrap .i64 (x1+1))
   else none
  else
   some (-1)
  ) 0
theorem Q6 {N:Nat}{p_s:Sl Sound}{p_f:Sound->Option Bool}{kp_f:Nat}(hp_f:∀{a0:Sound}{b:Bool},p_f a0=some b->FunO S kp_f [.p (.agg (A0 a0))] [] (pB b) [] []){y:Int}(h:C8 N p_s p_f=some y) :FunO S H1 [.p (vSl 2 A0 p_s),.clo kp_f [] []] [] (pN y) ([]) []:=by
 unfold C8 at h;refine A2 hS Q5 ?_;refine N0 hS trivial h (fun x1=>⟨[(8,pN x1),(7,pN (p_s.n:Int)),(1,.clo kp_f [] []),(0,.p (vSl 2 A0 p_s))],[]⟩) (ids:=[]) (fun _ _ _ _ _ self1 x1 hb1 h=>?_);refine kI hS h (fun h=>?_) (fun h=>?_)
 ·obtain⟨c8,h⟩:=E2 h;obtain⟨y3,e3,h⟩:=B5 h;refine B4 hS [] (And.intro c8 (by decide:(2:Nat)<=2)) (hp_f e3) ?_;refine kI hS h (fun h=>?_) (fun h=>?_)
  ·cases h;exact kR hS
  ·exact hb1 _ [] _ (wrap .i64 (x1+1)) trivial h
 ·cases h;exact kR hS
def A9 (N:Nat)(p_s:Sl Sound)(p_f:Sound->Option Bool):Option Bool:=
 (C8 N p_s p_f).bind fun y1=>
 some (decide (0<=y1))
theorem G3 {N:Nat}{p_s:Sl Sound}{p_f:Sound->Option Bool}{kp_f:Nat}(hp_f:∀{a0:Sound}{b:Bool},p_f a0=some b->FunO S kp_f [.p (.agg (A0 a0))] [] (pB b) [] []){y:Bool}(h:A9 N p_s p_f=some y) :FunO S G1 [.p (vSl 2 A0 p_s),.clo kp_f [] []] [] (pB y) ([]) []:=by unfold A9 at h;refine A2 hS P2 ?_;refine kC hS h (Q6 hS hL (fun e=>hp_f e)) (fun y1 h=>?_);cases h;exact kR hS
def C0 (N:Nat)(q0:Sl Pat):Option (List (Int×Pat)):=
 Az N (fun self1 (x1:Int)=>
  if (decide (0<=x1)) then
   if ((0:Int)<=x1/\x1<(q0.n:Int))then
    Fv (x1,q0.g x1.toNat) (
     self1 (wrap .i64 (x1-1))
     )
   else none
  else
   some []
  ) (wrap .i64 ((q0.n:Int)-1))
theorem U9 {N:Nat}{q0:Sl Pat}{L:List (Int×Pat)}(h:C0 N q0=some L) :DH S D4 [] [.reg 0 0] [.cells [.p (vSl 7 B0 q0)]] (L.map (fun (x:Int×Pat)=>[pI .i64 x.1,(fun x=>.agg (B0 x)) x.2])):=by
 unfold C0 at h;refine DL hS U4 ?_;refine EI hS trivial h (fun x1 L1=>⟨[(3,pN x1),(1,.reg 0 0),(0,.yf 1)],[(1,.yld (L1.map (fun (x:Int×Pat)=>[pI .i64 x.1,(fun x=>.agg (B0 x)) x.2])) true),(0,.cells [.p (vSl 7 B0 q0)])]⟩) (ids:=[(0,0),(1,1)]) (fun _ _ _ _ _ self1 x1 L1 hb1 h=>?_);refine kI hS h (fun h=>?_) (fun h=>?_)
 ·obtain⟨c10,h⟩:=E2 h;obtain⟨L4,rfl,hcL4⟩:=JG h;replace h:=hcL4;refine Cd hS (And.intro c10 (by decide:(7:Nat)<=7)) (ys:=(fun (x:Int×Pat)=>[pI .i64 x.1,(fun x=>.agg (B0 x)) x.2]) (x1,q0.g x1.toNat)) (rest:=L4.map (fun (x:Int×Pat)=>[pI .i64 x.1,(fun x=>.agg (B0 x)) x.2])) ?_ ?_
  ·refine D3 hS trivial (b:=false) (fun c11=>?_) (fun c11=>?_)
   ·exact Bool.noConfusion ((rfl:false=false).symm.trans c11)
   ·exact hb1 _ [(0,0),(1,1)] _ (wrap .i64 (x1-1)) L4 trivial h
  ·refine D3 hS trivial (b:=true) (fun c12=>?_) (fun c12=>?_)
   ·exact A6 hS trivial (a:=.tup []) (objs:=[(.cells [.p (vSl 7 B0 q0)]),.yld [] false]) ⟨[],[(1,.yld [] false),(0,.cells [.p (vSl 7 B0 q0)])]⟩ [0,1] (ids:=[(0,0),(1,1)]) ⟨false,rfl,rfl,_,rfl⟩
   ·exact Bool.noConfusion ((rfl:true=true).symm.trans c12)
 ·obtain rfl:=B6 h;exact A6 hS trivial (a:=.tup []) (objs:=[(.cells [.p (vSl 7 B0 q0)]),.yld [] true]) ⟨[],[(1,.yld [] true),(0,.cells [.p (vSl 7 B0 q0)])]⟩ [0,1] (ids:=[(0,0),(1,1)]) ⟨true,rfl,rfl,_,rfl⟩
def F6 (N:Nat)(p_s:Sl Pat):Option (Sl Pat):=
 some p_s
theorem Y1 {N:Nat}{p_s:Sl Pat}{y:Sl Pat}(h:F6 N p_s=some y) :FunO S K4 [.p (vSl 7 B0 p_s)] [] (.clo D4 [] [.reg 0 0]) ([.cells [.p (vSl 7 B0 y)]]) []:=by unfold F6 at h;refine A2 hS X6 ?_;obtain rfl:=B6 h;exact A6 hS trivial ⟨[(2,.clo D4 [] [.reg 2000 0])],[(2000,.cells [.p (vSl 7 B0 p_s)])]⟩ [2000] (ids:=[(2000,2000)]) ⟨rfl,rfl,rfl⟩
def S8 (N:Nat)(p_p:Pat):Option Int:=
 Bj N (fun self3 (x3:Sl Pat) (x4:Int)=>
  if (decide (0<(x3.n:Int))) then
   if (x4==40) then
    some 12
   else
    if (((0:Int)<=(wrap .i64 ((x3.n:Int)-1))/\(wrap .i64 ((x3.n:Int)-1))<(x3.n:Int))/\(wrap .i64 ((x3.n:Int)-1)).toNat<x3.n)then
     if ((0:Int)<=(wrap .i64 ((x3.n:Int)-1))/\(wrap .i64 ((x3.n:Int)-1))<=(x3.n:Int))then
      (X9 N (x3.g (wrap .i64 ((x3.n:Int)-1)).toNat)).bind fun y5=>
      if (y5 != 0) then
       some y5
      else
       if ((0:Int)<=(if 41<((x3.g (wrap .i64 ((x3.n:Int)-1)).toNat).L.n:Int)then 41 else ((x3.g (wrap .i64 ((x3.n:Int)-1)).toNat).L.n:Int))/\(if 41<((x3.g (wrap .i64 ((x3.n:Int)-1)).toNat).L.n:Int)then 41 else ((x3.g (wrap .i64 ((x3.n:Int)-1)).toNat).L.n:Int))<=((x3.g (wrap .i64 ((x3.n:Int)-1)).toNat).L.n:Int))then
        (F6 N ((x3.g (wrap .i64 ((x3.n:Int)-1)).toNat).L.take (if 41<((x3.g (wrap .i64 ((x3.n:Int)-1)).toNat).L.n:Int)then 41 else ((x3.g (wrap .i64 ((x3.n:Int)-1)).toNat).L.n:Int)).toNat)).bind fun y6=>
        (C0 N y6).bind fun L3=>
        Y9 L3 (fun self4 (x7:Int×Pat) (z3:Sl Pat)=>
         if ((((z3.n+(Sl.of [Pat.nil]:Sl Pat).n)*64<=140737488355328/\z3.n+(Sl.of [Pat.nil]:Sl Pat).n<=140737488355328)/\((0:Int)<=(z3.n:Int)/\(z3.n:Int)<((z3.push Pat.nil).n:Int)))/\(z3.n:Int).toNat<(z3.push Pat.nil).n)then
          self4 ((z3.push Pat.nil).upd (z3.n:Int).toNat x7.2)
         else none
         ) (fun (z3:Sl Pat)=>
          self3 z3 (wrap .i64 (x4+1))
         ) (x3.take (wrap .i64 ((x3.n:Int)-1)).toNat)
       else none
     else none
    else none
  else
   some 0
  ) (Sl.of [p_p]:Sl Pat) 0
theorem Fa {N:Nat}{p_p:Pat}{y:Int}(h:S8 N p_p=some y) :FunO S Iu [.p (.agg (B0 p_p))] [] (pN y) ([]) []:=by
 unfold S8 at h;refine A2 hS PC ?_;refine H9 hS trivial 2 2000 (B0 p_p) ?_;refine G0 hS (And.intro (by decide:(7:Nat)<=7) (rfl:true=true)) h (fun x3 x4=>⟨[(4,pN x4),(3,.reg 4000 0)],[(4501,.vec Dt 7 x3.n (fun i=>B0 (x3.g i)) false),(4000,.cells [.vec 4501])]⟩) (ids:=[(4000,4000),(4501,12000)]) (fun _ _ _ _ _ self3 x3 x4 hb3 h=>?_) (hle:=klR [(1,.fn 1 (Sl.of [p_p]:Sl Pat).n (E4 [pI .i64 0,pI .u32 0,pI .u32 0,.v (.bool false),pI .i64 0,pI .i64 0,H7] [(0,B0 p_p)]) (fun i=>B0 ((Sl.of [p_p]:Sl Pat).g i)))] (al1 ⟨rfl,(fun i hi=>match i,hi with|0,_=>rfl|_+1,hi=>absurd hi (by omega))⟩ al0));refine kI hS h (fun h=>?_) (fun h=>?_)
 ·refine kI hS h (fun h=>?_) (fun h=>?_)
  ·cases h;exact kR hS
  ·obtain⟨c21,h⟩:=E2 h;refine H9 hS (And.intro (And.intro c21.1 (by decide:(7:Nat)<=7)) c21.2) 25 6000 (B0 (x3.g (wrap .i64 ((x3.n:Int)-1)).toNat)) ?_;obtain⟨c22,h⟩:=E2 h;refine Ah1 hS c22 30 4501 (wrap .i64 ((x3.n:Int)-1)).toNat 4508 (e:=Dt) (k:=7) (N:=x3.n) (f:=fun i=>B0 (x3.g i)) (by have hq:=c22;omega) ?_;obtain⟨y5,e7,h⟩:=B5 h;refine B4 hS [] (by decide:(7:Nat)<=7) (Lz hS hL e7) ?_;refine kI hS h (fun h=>?_) (fun h=>?_)
   ·cases h;exact kR hS
   ·refine K3 hS trivial 39 ⟨[(38,.p (vSl 7 B0 (x3.g (wrap .i64 ((x3.n:Int)-1)).toNat).L)),(36,.p (vSl 7 B0 (x3.g (wrap .i64 ((x3.n:Int)-1)).toNat).L)),(4,pN x4),(3,.reg 4000 0)],[(4508,.vec Dt 7 (x3.take (wrap .i64 ((x3.n:Int)-1)).toNat).n (fun i=>B0 ((x3.take (wrap .i64 ((x3.n:Int)-1)).toNat).g i)) false),(4000,.cells [.vec 4508])]⟩ (ids:=[(4000,4000),(4508,4508)]) ?_ (hle:=klR [(0,.fn (x3.g (wrap .i64 ((x3.n:Int)-1)).toNat).L.n (x3.g (wrap .i64 ((x3.n:Int)-1)).toNat).L.n (Bl (x3.g (wrap .i64 ((x3.n:Int)-1)).toNat)) (fun i=>B0 ((x3.g (wrap .i64 ((x3.n:Int)-1)).toNat).L.g i))),(1,.fn (x3.g (wrap .i64 ((x3.n:Int)-1)).toNat).L.n (x3.g (wrap .i64 ((x3.n:Int)-1)).toNat).L.n (Bl (x3.g (wrap .i64 ((x3.n:Int)-1)).toNat)) (fun i=>B0 ((x3.g (wrap .i64 ((x3.n:Int)-1)).toNat).L.g i)))] (al1 ⟨rfl,P4 (x3.g (wrap .i64 ((x3.n:Int)-1)).toNat)⟩ (al1 ⟨rfl,P4 (x3.g (wrap .i64 ((x3.n:Int)-1)).toNat)⟩ al0)));obtain⟨c24,h⟩:=E2 h;obtain⟨y6,e8,h⟩:=B5 h;refine B4 hS [] c24 (Y1 hS hL e8) ?_;obtain⟨L3,e9,h⟩:=B5 h;refine DM hS trivial [44000] [4,3] 905 (fun z3=>⟨[(4,pN x4),(3,.reg 4000 0)],[(4500,.vec Dt 7 z3.n (fun i=>B0 (z3.g i)) false),(4000,.cells [.vec 4500])]⟩) (idl:=[(4000,4000),(4500,4508)]) h (U9 hS hL e9) (fun _=>by kernel_rfl) (fun _=>by kernel_rfl) (fun _=>by kernel_rfl) (fun _=>by kernel_rfl) (fun x7 _ self4 z3 hb4 h=>?_) (fun z3 h=>?_)
    ·refine GP hS trivial ?_;refine Wc hS trivial 10000 (B0 x7.2) ?_;refine U1 hS trivial [(0,.l [4000]),(1,.n),(2,.l [4500]),(4,.a [51000,4500]),(5,.l [51000]),(6,.a [51000]),(7,.a [4000])] ?_;refine CJ (by decide:(7:Nat)<=7) (x:=.sl true 7 1 (E4 [pI .i64 0,pI .u32 0,pI .u32 0,.v (.bool false),pI .i64 0,pI .i64 0,H7] [(0,[pI .i64 0,pI .u32 0,pI .u32 0,.v (.bool false),pI .i64 0,pI .i64 0,H7])])) ?_;obtain⟨c27,h⟩:=E2 h;refine O0 (And.intro (And.intro c27.1.1 c27.1.2) (And.intro (rfl:(7:Nat)=7) (And.intro c27.2 (by decide:(7:Nat)<=7)))) ?_;exact hb4 _ [(905,905),(4000,4000),(4500,51000)] _ ((z3.push Pat.nil).upd (z3.n:Int).toNat x7.2) trivial h (hle:=klR [(0,.fn (z3.n+1) ((z3.push Pat.nil).upd (z3.n:Int).toNat x7.2).n (fun l=>if l=(z3.n:Int).toNat then splice (AW z3.n (fun i=>B0 (z3.g i)) (E4 [pI .i64 0,pI .u32 0,pI .u32 0,.v (.bool false),pI .i64 0,pI .i64 0,H7] [(0,[pI .i64 0,pI .u32 0,pI .u32 0,.v (.bool false),pI .i64 0,pI .i64 0,H7])]) l) 0 [pI .i64 x7.2.Kind,pI .u32 x7.2.Is.Plus,pI .u32 x7.2.Is.Minus,.bb x7.2.Not,pI .i64 x7.2.Min,pI .i64 x7.2.Max,.sl false 7 x7.2.L.n (Bl x7.2)]else (AW z3.n (fun i=>B0 (z3.g i)) (E4 [pI .i64 0,pI .u32 0,pI .u32 0,.v (.bool false),pI .i64 0,pI .i64 0,H7] [(0,[pI .i64 0,pI .u32 0,pI .u32 0,.v (.bool false),pI .i64 0,pI .i64 0,H7])])) l) (fun i=>B0 (((z3.push Pat.nil).upd (z3.n:Int).toNat x7.2).g i)))] (al1 ⟨rfl,setH (c:=B0) (v:=z3.push Pat.nil) (x:=x7.2) (app1H (c:=B0) (v:=z3) (z:=Pat.nil) same rfl) (fun _=>by simp[AW,E4,splice])⟩ al0))
    ·exact hb3 _ [(4000,4000),(4501,4500)] _ z3 (wrap .i64 (x4+1)) trivial h
 ·cases h;exact kR hS
def BJ (N:Nat)(p_p:Pat)(p_w:Sl Sound):Option ((Nat->Int)×Int):=
 (S8 N p_p).bind fun y1=>
 if (y1 != 0) then
  some (fun _=>0,y1)
 else
  if (decide (32<(p_w.n:Int))) then
   some (fun _=>0,11)
  else
   (A9 N p_w (fun (u1:Sound)=>Cl N u1)).bind fun y2=>
   if y2 then
    some (fun _=>0,14)
   else
    (CR N p_p).bind fun y3=>
    (EZ N y3 p_w).bind fun y4=>
    some (y4,0)
theorem Hh {N:Nat}{p_p:Pat}{p_w:Sl Sound}{y:(Nat->Int)×Int}(h:BJ N p_p p_w=some y) :FunO S Hd [.p (.agg (B0 p_p)),.p (vSl 2 A0 p_w)] [] (.tup [.p (.agg (cA 33 (pI .u64) y.1)),pN y.2]) ([]) []:=by
 unfold BJ at h;refine A2 hS NK ?_;refine kC hS h (Fa hS hL) (fun y1 h=>?_);refine kI hS h (fun h=>?_) (fun h=>?_)
 ·obtain rfl:=B6 h;exact A6 hS (And.intro rfl (D7 _ _):(0:Nat)=0/\(Aj 33 (fun i=>pI .u64 ((fun _=>0) i))).length=33) ⟨[(5,pN y1),(4,.reg 5000 0)],[(5000,.arr 33 (fun i=>pI .u64 ((fun _=>0) i)))]⟩ [] (ids:=[(5000,5000)]) ⟨rfl,rfl,rfl⟩ (hle:=klR [(1,.fn 33 33 (fun i=>[(fun i=>(cA 33 (pI .u64) (fun _=>0)).getD i default) i]) (fun i=>[pI .u64 ((fun _=>0) i)]))] (al1 ⟨rfl,C9 33 (fun i=>pI .u64 ((fun _=>0) i))⟩ al0))
 ·refine kI hS h (fun h=>?_) (fun h=>?_)
  ·obtain rfl:=B6 h;exact A6 hS (And.intro rfl (D7 _ _):(0:Nat)=0/\(Aj 33 (fun i=>pI .u64 ((fun _=>0) i))).length=33) ⟨[(5,pN 11),(4,.reg 5000 0)],[(5000,.arr 33 (fun i=>pI .u64 ((fun _=>0) i)))]⟩ [] (ids:=[(5000,5000)]) ⟨rfl,rfl,rfl⟩ (hle:=klR [(1,.fn 33 33 (fun i=>[(fun i=>(cA 33 (pI .u64) (fun _=>0)).getD i default) i]) (fun i=>[pI .u64 ((fun _=>0) i)]))] (al1 ⟨rfl,C9 33 (fun i=>pI .u64 ((fun _=>0) i))⟩ al0))
  ·refine kC hS h (G3 hS hL (fun e=>Kz hS hL e)) (fun y2 h=>?_);refine kI hS h (fun h=>?_) (fun h=>?_)
   ·obtain rfl:=B6 h;exact A6 hS (And.intro rfl (D7 _ _):(0:Nat)=0/\(Aj 33 (fun i=>pI .u64 ((fun _=>0) i))).length=33) ⟨[(5,pN 14),(4,.reg 5000 0)],[(5000,.arr 33 (fun i=>pI .u64 ((fun _=>0) i)))]⟩ [] (ids:=[(5000,5000)]) ⟨rfl,rfl,rfl⟩ (hle:=klR [(1,.fn 33 33 (fun i=>[(fun i=>(cA 33 (pI .u64) (fun _=>0)).getD i default) i]) (fun i=>[pI .u64 ((fun _=>0) i)]))] (al1 ⟨rfl,C9 33 (fun i=>pI .u64 ((fun _=>0) i))⟩ al0))
   ·refine kC hS h (LC hS hL) (fun y3 h=>?_);obtain⟨y4,e4,h⟩:=B5 h;refine IX hS trivial (Wm hS hL e4) ?_;obtain rfl:=B6 h;exact A6 hS (And.intro rfl (D7 _ _):(0:Nat)=0/\(Aj 33 (fun i=>pI .u64 (y4 i))).length=33) ⟨[(5,pN 0),(4,.reg 5000 0)],[(5000,.arr 33 (fun i=>pI .u64 (y4 i)))]⟩ [] (ids:=[(5000,5000)]) ⟨rfl,rfl,rfl⟩ (hle:=klR [(1,.fn 33 33 (fun i=>[(fun i=>(cA 33 (pI .u64) y4).getD i default) i]) (fun i=>[pI .u64 (y4 i)]))] (al1 ⟨rfl,C9 33 (fun i=>pI .u64 (y4 i))⟩ al0))
def Ea (N:Nat)(p_p:Pat)(p_w:Sl Sound)(p_end:Int):Option ((Sl Int)×Int):=
 (BJ N p_p p_w).bind fun y1=>
 lt (fun (z1:Int)=>
  if (z1 != 0) then
   some ((Sl.nil:Sl Int),z1)
  else
   Bj N (fun self1 (x2:Sl Int) (x3:Int)=>
    if (decide (x3<(wrap .i64 ((p_w.n:Int)+1)))) then
     if ((((0:Int)<=x3/\x3<33)/\(0+x3.toNat*1)<33)/\(0:Int)<=p_end)then
      if ((D9 .and .u64 (shI .shr .u64 (y1.1 (0+x3.toNat*1)) p_end) 1)==1) then
       if ((x2.n+(Sl.of [x3]:Sl Int).n)*8<=140737488355328/\x2.n+(Sl.of [x3]:Sl Int).n<=140737488355328)then
        self1 (x2.push x3) (wrap .i64 (x3+1))
       else none
      else
       self1 x2 (wrap .i64 (x3+1))
     else none
    else
     some (x2,0)
    ) (Sl.nil:Sl Int) 0
  ) fun k1=>
  if (y1.2==0) then
   (BI N p_w p_end).bind fun y3=>
   k1 y3
  else
   k1 y1.2
theorem NX {N:Nat}{p_p:Pat}{p_w:Sl Sound}{p_end:Int}{y:(Sl Int)×Int}(h:Ea N p_p p_w p_end=some y) :FunO S Hc [.p (.agg (B0 p_p)),.p (vSl 2 A0 p_w),pN p_end] [] (.tup [.vec 0,pN y.2]) ([.vec D2 1 y.1.n (fun i=>cI .i64 (y.1.g i)) true]) []:=by
 unfold Ea at h;refine A2 hS NJ ?_;refine kC hS h (Hh hS hL) (fun y1 h=>?_);refine IW hS (And.intro rfl (D7 _ _):(0:Nat)=0/\(Aj 33 (fun i=>pI .u64 (y1.1 i))).length=33) (A5 hS) h 0 (fun z1=>⟨[(9,pN z1),(8,.reg 9000 0),(2,pN p_end),(1,.p (vSl 2 A0 p_w))],[(9000,.arr 33 (fun i=>pI .u64 (y1.1 i)))]⟩) (fun M1 k1 hb1 h=>?_) (fun z1 h=>?_)
 ·refine kI hS h (fun h=>?_) (fun h=>?_)
  ·refine kC hS h (Hg hS hL) (fun y3 h=>?_);exact hb1 _ [(9000,9000)] _ y3 trivial h (hle:=klR [(3,.fn 33 33 (fun i=>[(fun i=>(cA 33 (pI .u64) y1.1).getD i default) i]) (fun i=>[pI .u64 (y1.1 i)]))] (al1 ⟨rfl,C9 33 (fun i=>pI .u64 (y1.1 i))⟩ al0))
  ·exact hb1 _ [(9000,9000)] _ y1.2 trivial h (hle:=klR [(3,.fn 33 33 (fun i=>[(fun i=>(cA 33 (pI .u64) y1.1).getD i default) i]) (fun i=>[pI .u64 (y1.1 i)]))] (al1 ⟨rfl,C9 33 (fun i=>pI .u64 (y1.1 i))⟩ al0))
 ·refine kI hS h (fun h=>?_) (fun h=>?_)
  ·obtain rfl:=B6 h;exact A6 hS trivial ⟨[(7,pN z1),(6,.vec 7700)],[(7700,.vec D2 1 (Sl.nil:Sl Int).n (fun i=>cI .i64 ((Sl.nil:Sl Int).g i)) true)]⟩ [7700] (ids:=[]) ⟨rfl,rfl,rfl⟩
  ·refine G0 hS trivial h (fun x2 x3=>⟨[(29,pN x3),(28,pN (wrap .i64 ((p_w.n:Int)+1))),(10,.vec 11500),(8,.reg 9000 0),(2,pN p_end)],[(11500,.vec D2 1 x2.n (fun i=>cI .i64 (x2.g i)) false),(9000,.arr 33 (fun i=>pI .u64 (y1.1 i)))]⟩) (ids:=[(9000,9000)]) (fun _ _ _ _ _ self1 x2 x3 hb2 h=>?_);refine kI hS h (fun h=>?_) (fun h=>?_)
   ·obtain⟨c12,h⟩:=E2 h;refine D3 hS c12 (b:=(D9 .and .u64 (shI .shr .u64 (y1.1 (0+x3.toNat*1)) p_end) 1)==1) (fun c13=>?_) (fun c13=>?_)
    ·replace h:=itT c13 h;obtain⟨c14,h⟩:=E2 h;exact hb2 _ [(9000,9000),(11500,43000)] _ (x2.push x3) (wrap .i64 (x3+1)) (And.intro (rfl:true=true) c14) h (hle:=klR [(3,.fn (x2.n+1) (x2.push x3).n (AW x2.n (fun i=>cI .i64 (x2.g i)) (E4 [pI .i64 0] [(0,cI .i64 x3)])) (fun i=>cI .i64 ((x2.push x3).g i)))] (al1 ⟨rfl,Mo (c:=cI .i64) (v:=x2) (x:=x3) (z:=[(pI .i64 0)]) same rfl rfl⟩ al0))
    ·replace h:=itF c13 h;exact hb2 _ [(9000,9000),(11500,11500)] _ x2 (wrap .i64 (x3+1)) trivial h
   ·obtain rfl:=B6 h;exact A6 hS trivial ⟨[(7,pN 0),(6,.vec 11500)],[(11500,.vec D2 1 x2.n (fun i=>cI .i64 (x2.g i)) true)]⟩ [11500] (ids:=[(11500,11500)]) ⟨rfl,rfl,rfl⟩
def I1 (N:Nat)(p_seq:List (Int)):Option (Sl Int):=
 Y9 p_seq (fun self1 (x1:Int) (z1:Sl Int)=>
  if ((z1.n+(Sl.of [x1]:Sl Int).n)*8<=140737488355328/\z1.n+(Sl.of [x1]:Sl Int).n<=140737488355328)then
   self1 (z1.push x1)
  else none
  ) (fun (z1:Sl Int)=>
   some z1
  ) (Sl.nil:Sl Int)
theorem Be {N:Nat}{p_seq:List (Int)}{p_seq_0:Int}{kp_seq:Nat}(fp_seq:∃fn,Ak3[kp_seq]? = some fn/\fn.body.isSome=true/\(fn.name == "runtime.NumGoroutine")=false)(hp_seq:DH S kp_seq [] [.reg 0 0] [(.cells [(.p (pI .u64 p_seq_0))])] (p_seq.map (fun (x:Int)=>[(pI .i64) x]))){y:(Sl Int)}(h:I1 N p_seq=some y) :FunO S J2 [(.p H7),(.clo kp_seq [] [(.reg 0 0)])] [(.cells [(.p (pI .u64 p_seq_0))])] (.vec 0) ([(.vec D2 1 y.n (fun i=>(cI .i64) (y.g i)) true)]) [false]:=by
 unfold I1 at h;refine A2 hS Q0 ?_;refine Nq hS trivial fp_seq [0] [2] 901 (fun z1=>⟨[(2,(.reg 3000 0))],[(3500,(.vec D2 1 z1.n (fun i=>(cI .i64) (z1.g i)) false)),(3000,(.cells [(.vec 3500)]))]⟩) (idl:=[(3000,3000)]) h hp_seq (fun _=>by kernel_rfl) (fun _=>by kernel_rfl) (fun _=>by kernel_rfl) (fun _=>by kernel_rfl) (fun x1 _ self1 z1 hb1 h=>?_) (fun z1 h=>?_)
 ·refine GP hS trivial ?_;obtain⟨c1,h⟩:=E2 h;exact hb1 _ [(901,901),(3000,3000),(3500,12000)] _ (z1.push x1) (And.intro (rfl:true=true) c1) h (hle:=klR [(0,.fn (z1.n+1) (z1.push x1).n (AW z1.n (fun i=>(cI .i64) (z1.g i)) (E4 [(pI .i64 0)] [(0,(cI .i64) x1)])) (fun i=>(cI .i64) ((z1.push x1).g i)))] (al1 ⟨rfl,(Mo (c:=(cI .i64)) (v:=z1) (x:=x1) (z:=[(pI .i64 0)]) same rfl rfl)⟩ al0))
 ·obtain rfl:=B6 h;exact A6 hS trivial ⟨[(4,(.vec 3500))],[(3500,(.vec D2 1 z1.n (fun i=>(cI .i64) (z1.g i)) true))]⟩ [3500] (ids:=[(3500,3500)]) ⟨rfl,rfl,rfl⟩
def S9 (N:Nat)(p_seq:List (Int)):Option (Sl Int):=
 (I1 N p_seq).bind fun y1=>
 some y1
theorem Fb {N:Nat}{p_seq:List (Int)}{p_seq_0:Int}{kp_seq:Nat}(fp_seq:∃fn,Ak3[kp_seq]? = some fn/\fn.body.isSome=true/\(fn.name == "runtime.NumGoroutine")=false)(hp_seq:DH S kp_seq [] [.reg 0 0] [(.cells [(.p (pI .u64 p_seq_0))])] (p_seq.map (fun (x:Int)=>[(pI .i64) x]))){y:(Sl Int)}(h:S9 N p_seq=some y) :FunO S V9 [(.clo kp_seq [] [(.reg 0 0)])] [(.cells [(.p (pI .u64 p_seq_0))])] (.vec 0) ([(.vec D2 1 y.n (fun i=>(cI .i64) (y.g i)) true)]) [false]:=by unfold S9 at h;refine A2 hS BB ?_;obtain⟨y1,e1,h⟩:=B5 h;refine B4 hS [0] trivial (Be hS hL fp_seq hp_seq e1) ?_;obtain rfl:=B6 h;exact A6 hS trivial ⟨[(2,(.vec 5000))],[(5000,(.vec D2 1 y1.n (fun i=>(cI .i64) (y1.g i)) true))]⟩ [5000] (ids:=[(5000,5000)]) ⟨rfl,rfl,rfl⟩
def Gi (N:Nat)(p_p:Pat)(p_w:Sl Sound)(p_at:Int):Option ((Sl Int)×Int):=
 (BJ N p_p p_w).bind fun y1=>
 lt (fun (z1:Int)=>
  if (z1 != 0) then
   some ((Sl.nil:Sl Int),z1)
  else
   if (((0:Int)<=p_at/\p_at<33)/\(0+p_at.toNat*1)<33)then
    (Y0 N (y1.1 (0+p_at.toNat*1))).bind fun y4=>
    (Q2 N y4).bind fun L1=>
    (S9 N L1).bind fun y5=>
    some (y5,0)
   else none
  ) fun k1=>
  if (y1.2==0) then
   (BI N p_w p_at).bind fun y3=>
   k1 y3
  else
   k1 y1.2
theorem RE {N:Nat}{p_p:Pat}{p_w:Sl Sound}{p_at:Int}{y:(Sl Int)×Int}(h:Gi N p_p p_w p_at=some y) :FunO S Kj [.p (.agg (B0 p_p)),.p (vSl 2 A0 p_w),pN p_at] [] (.tup [.vec 0,pN y.2]) ([.vec D2 1 y.1.n (fun i=>cI .i64 (y.1.g i)) true]) []:=by
 unfold Gi at h;refine A2 hS Rt ?_;refine kC hS h (Hh hS hL) (fun y1 h=>?_);refine IW hS (And.intro rfl (D7 _ _):(0:Nat)=0/\(Aj 33 (fun i=>pI .u64 (y1.1 i))).length=33) (A5 hS) h 0 (fun z1=>⟨[(9,pN z1),(8,.reg 9000 0),(2,pN p_at)],[(9000,.arr 33 (fun i=>pI .u64 (y1.1 i)))]⟩) (fun M1 k1 hb1 h=>?_) (fun z1 h=>?_)
 ·refine kI hS h (fun h=>?_) (fun h=>?_)
  ·refine kC hS h (Hg hS hL) (fun y3 h=>?_);exact hb1 _ [(9000,9000)] _ y3 trivial h (hle:=klR [(2,.fn 33 33 (fun i=>[(fun i=>(cA 33 (pI .u64) y1.1).getD i default) i]) (fun i=>[pI .u64 (y1.1 i)]))] (al1 ⟨rfl,C9 33 (fun i=>pI .u64 (y1.1 i))⟩ al0))
  ·exact hb1 _ [(9000,9000)] _ y1.2 trivial h (hle:=klR [(2,.fn 33 33 (fun i=>[(fun i=>(cA 33 (pI .u64) y1.1).getD i default) i]) (fun i=>[pI .u64 (y1.1 i)]))] (al1 ⟨rfl,C9 33 (fun i=>pI .u64 (y1.1 i))⟩ al0))
 ·refine kI hS h (fun h=>?_) (fun h=>?_)
  ·obtain rfl:=B6 h;exact A6 hS trivial ⟨[(7,pN z1),(6,.vec 7700)],[(7700,.vec D2 1 (Sl.nil:Sl Int).n (fun i=>cI .i64 ((Sl.nil:Sl Int).g i)) true)]⟩ [7700] (ids:=[]) ⟨rfl,rfl,rfl⟩
  ·obtain⟨c5,h⟩:=E2 h;obtain⟨y4,e4,h⟩:=B5 h;refine B4 hS [] c5 (CP hS hL e4) ?_;obtain⟨L1,e5,h⟩:=B5 h;obtain⟨y5,e6,h⟩:=B5 h;refine B4 hS [28000] trivial (Fb hS hL ⟨_,Em,by decide +kernel,by decide +kernel⟩ (Bp hS hL e5) e6) ?_;obtain rfl:=B6 h;exact A6 hS trivial ⟨[(7,pN 0),(6,.vec 29000)],[(29000,.vec D2 1 y5.n (fun i=>cI .i64 (y5.g i)) true)]⟩ [29000] (ids:=[(29000,29000)]) ⟨rfl,rfl,rfl⟩
end Go.AM
namespace Go.AM
open IntKind (wrap)
open Go.Proofs
set_option maxRecDepth 10000
set_option maxHeartbeats 2000000
variable {S:X1}(hS:F4 S Tryz.prog) (hL:MF S)
include hS hL
def AL (N:Nat)(p_s:Str):Option Bool:=
 lt (fun (z1:Bool)=>
  some z1
  ) fun k1=>
  if ((p_s==[]) != true) then
   if (decide ((p_s.length:Int)<=24)) then
    (CN N p_s [97,98,99,100,101,102,103,104,105,106,107,108,109,110,111,112,113,114,115,116,117,118,119,120,121,122,65,66,67,68,69,70,71,72,73,74,75,76,77,78,79,80,81,82,83,84,85,86,87,88,89,90,48,49,50,51,52,53,54,55,56,57,45]).bind fun y2=>
    k1 ((y2==[]) != false)
   else
    k1 false
  else
   k1 false
theorem RF {N:Nat}{p_s:Str}{y:Bool}(h:AL N p_s=some y) :FunO S Ka [.p (.str p_s)] [] (pB y) ([]) []:=by
 unfold AL at h;refine A2 hS Rl ?_;refine IW hS trivial (A5 hS) h 0 (fun z1=>⟨[(2,pB z1)],[]⟩) (fun M1 k1 hb1 h=>?_) (fun z1 h=>?_)
 ·refine kG hS h (fun h=>?_) (fun h=>?_)
  ·refine kG hS h (fun h=>?_) (fun h=>?_)
   ·refine kC hS h (Lx hS hL) (fun y2 h=>?_);exact hb1 _ [] _ ((y2==[]) != false) trivial h
   ·exact hb1 _ [] _ false trivial h
  ·exact hb1 _ [] _ false trivial h
 ·cases h;exact kR hS
def Ad (N:Nat)(p_x:Ai)(p_k:Int):Option Bool:=
 lt (fun (z1:Bool)=>
  if z1 then
   some false
  else
   if ((((D9 .andNot .u32 (D9 .or .u32 p_x.Clear p_x.Take) 16777215) != 0)||((D9 .and .u32 p_x.Clear (D9 .or .u32 p_x.Set.Plus p_x.Set.Minus)) != 0))||((D9 .and .u32 p_x.Take (D9 .or .u32 (D9 .or .u32 p_x.Set.Plus p_x.Set.Minus) p_x.Clear)) != 0)) then
    some false
   else
    if (p_x.Take==0) then
     some (p_x.Of==0)
    else
     some ((decide (0<=p_x.Of))&&(decide (p_x.Of<p_k)))
  ) fun k1=>
  if (decide (p_x.From<(-1))) then
   k1 true
  else
   if (decide (p_k<=p_x.From)) then
    k1 true
   else
    (E7 N p_x.Set).bind fun y2=>
    k1 (!y2)
theorem Uv {N:Nat}{p_x:Ai}{p_k:Int}{y:Bool}(h:Ad N p_x p_k=some y) :FunO S Mz [.p (.agg (O2 p_x)),pN p_k] [] (pB y) ([]) []:=by
 unfold Ad at h;refine A2 hS Ug ?_;refine IW hS trivial (A5 hS) h 0 (fun z1=>⟨[(13,pB z1),(5,pU (D9 .or .u32 p_x.Set.Plus p_x.Set.Minus)),(2,.reg 3000 0),(1,pN p_k)],[(3000,.cells ((O2 p_x).map .p))]⟩) (fun M1 k1 hb1 h=>?_) (fun z1 h=>?_)
 ·refine kG hS h (fun h=>?_) (fun h=>?_)
  ·exact hb1 _ [(3000,3000)] _ true trivial h
  ·refine kG hS h (fun h=>?_) (fun h=>?_)
   ·exact hb1 _ [(3000,3000)] _ true trivial h
   ·refine kC hS h (N5 hS hL) (fun y2 h=>?_);exact hb1 _ [(3000,3000)] _ (!y2) trivial h
 ·refine kI hS h (fun h=>?_) (fun h=>?_)
  ·cases h;exact kR hS
  ·refine kB hS (A5 hS) trivial trivial 16 (.o (.o (.a ((D9 .andNot .u32 (D9 .or .u32 p_x.Clear p_x.Take) 16777215) != 0)) (.a ((D9 .and .u32 p_x.Clear (D9 .or .u32 p_x.Set.Plus p_x.Set.Minus)) != 0))) (.a ((D9 .and .u32 p_x.Take (D9 .or .u32 (D9 .or .u32 p_x.Set.Plus p_x.Set.Minus) p_x.Clear)) != 0))) ?_;refine kI hS h (fun h=>?_) (fun h=>?_)
   ·cases h;exact kR hS
   ·refine kI hS h (fun h=>?_) (fun h=>?_)
    ·cases h;exact kR hS
    ·refine kB hS (A5 hS) trivial trivial 5 (.n (.a (decide (0<=p_x.Of))) (.a (decide (p_x.Of<p_k)))) ?_;cases h;exact kR hS
def V2 (N:Nat)(p_x:Ai)(q0:Int):Option Bool:=
 (Ad N p_x q0).bind fun y1=>
 some (!y1)
theorem NY {N:Nat}{p_x:Ai}{q0:Int}{y:Bool}(h:V2 N p_x q0=some y) :FunO S GX [.p (.agg (O2 p_x)),.reg 0 0] [.cells [pN q0]] (pB y) ([.cells [pN q0]]) [true]:=by unfold V2 at h;refine A2 hS ND ?_;refine kC hS h (Uv hS hL) (fun y1 h=>?_);obtain rfl:=B6 h;exact A6 hS trivial ⟨[(3,pB (!y1))],[(0,.cells [pN q0])]⟩ [0] (ids:=[(0,0)]) ⟨rfl,rfl,rfl⟩
def V4 (N:Nat)(p_s:Sound):Option Bool:=
 (E7 N p_s).bind fun y1=>
 some (!y1)
theorem NZ {N:Nat}{p_s:Sound}{y:Bool}(h:V4 N p_s=some y) :FunO S GY [.p (.agg (A0 p_s))] [] (pB y) ([]) []:=by unfold V4 at h;refine A2 hS NE ?_;refine kC hS h (N5 hS hL) (fun y1 h=>?_);cases h;exact kR hS
def D6 (N:Nat)(p_s:Sl Ai)(p_f:Ai->Option Bool):Option Int:=
 Az N (fun self1 (x1:Int)=>
  if (decide (x1<(p_s.n:Int))) then
   if ((0:Int)<=x1/\x1<(p_s.n:Int))then
    (p_f (p_s.g x1.toNat)).bind fun y3=>
    if y3 then
     some x1
    else
     self1 (wrap .i64 (x1+1))
   else none
  else
   some (-1)
  ) 0
theorem W7 {N:Nat}{p_s:Sl Ai}{p_f:Ai->Option Bool}{p_f_0:Int}{kp_f:Nat}(hp_f:∀{a0:Ai}{b:Bool},p_f a0=some b->FunO S kp_f [.p (.agg (O2 a0)),.reg 0 0] [.cells [pN p_f_0]] (pB b) [.cells [pN p_f_0]] [true]){y:Int}(h:D6 N p_s p_f=some y) :FunO S J6 [.p (vSl 6 O2 p_s),.clo kp_f [] [.reg 0 0]] [.cells [pN p_f_0]] (pN y) ([.cells [pN p_f_0]]) [true]:=by
 unfold D6 at h;refine A2 hS W3 ?_;refine N0 hS trivial h (fun x1=>⟨[(8,pN x1),(7,pN (p_s.n:Int)),(1,.clo kp_f [] [.reg 0 0]),(0,.p (vSl 6 O2 p_s))],[(0,.cells [pN p_f_0])]⟩) (ids:=[(0,0)]) (fun _ _ _ _ _ self1 x1 hb1 h=>?_);refine kI hS h (fun h=>?_) (fun h=>?_)
 ·obtain⟨c8,h⟩:=E2 h;obtain⟨y3,e3,h⟩:=B5 h;refine B4 hS [0] (And.intro c8 (by decide:(6:Nat)<=6)) (hp_f e3) ?_;refine kI hS h (fun h=>?_) (fun h=>?_)
  ·obtain rfl:=B6 h;exact A6 hS trivial ⟨[(4,pN x1)],[(0,.cells [pN p_f_0])]⟩ [0] (ids:=[(0,0)]) ⟨rfl,rfl,rfl⟩
  ·exact hb1 _ [(0,0)] _ (wrap .i64 (x1+1)) trivial h
 ·obtain rfl:=B6 h;exact A6 hS trivial ⟨[(4,pN (-1))],[(0,.cells [pN p_f_0])]⟩ [0] (ids:=[(0,0)]) ⟨rfl,rfl,rfl⟩
def B9 (N:Nat)(p_s:Sl Ai)(p_f:Ai->Option Bool):Option Bool:=
 (D6 N p_s p_f).bind fun y1=>
 some (decide (0<=y1))
theorem R5 {N:Nat}{p_s:Sl Ai}{p_f:Ai->Option Bool}{p_f_0:Int}{kp_f:Nat}(hp_f:∀{a0:Ai}{b:Bool},p_f a0=some b->FunO S kp_f [.p (.agg (O2 a0)),.reg 0 0] [.cells [pN p_f_0]] (pB b) [.cells [pN p_f_0]] [true]){y:Bool}(h:B9 N p_s p_f=some y) :FunO S H3 [.p (vSl 6 O2 p_s),.clo kp_f [] [.reg 0 0]] [.cells [pN p_f_0]] (pB y) ([.cells [pN p_f_0]]) [true]:=by unfold B9 at h;refine A2 hS R0 ?_;obtain⟨y1,e1,h⟩:=B5 h;refine B4 hS [0] trivial (W7 hS hL (fun e=>hp_f e) e1) ?_;obtain rfl:=B6 h;exact A6 hS trivial ⟨[(4,pB (decide (0<=y1)))],[(0,.cells [pN p_f_0])]⟩ [0] (ids:=[(0,0)]) ⟨rfl,rfl,rfl⟩
def T0 (N:Nat)(p_l:Law):Option Int:=
 (AL N p_l.Name).bind fun y1=>
 if (!y1) then
  some 17
 else
  (S8 N p_l.Left).bind fun y2=>
  if (y2 != 0) then
   some 17
  else
   (S8 N p_l.Right).bind fun y3=>
   if (y3 != 0) then
    some 17
   else
    if (decide (4<(p_l.If.n:Int))) then
     some 17
    else
     if (decide (6<(p_l.Out.n:Int))) then
      some 17
     else
      if ((wrap .i64 ((p_l.If.n:Int)+(p_l.Out.n:Int)))==0) then
       some 17
      else
       if ((decide (p_l.Mode<1))||(decide (3<p_l.Mode))) then
        some 17
       else
        (A9 N p_l.If (fun (u1:Sound)=>V4 N u1)).bind fun y4=>
        if y4 then
         some 17
        else
         (B9 N p_l.Out (fun (u2:Ai)=>V2 N u2 (p_l.If.n:Int))).bind fun y5=>
         if y5 then
          some 17
         else
          some 0
theorem Gj {N:Nat}{p_l:Law}{y:Int}(h:T0 N p_l=some y) :FunO S JW [.p (.agg (B3 p_l))] [] (pN y) ([]) []:=by
 unfold T0 at h;refine A2 hS Rh ?_;refine kC hS h (RF hS hL) (fun y1 h=>?_);refine D3 hS trivial (b:=!y1) (fun c1=>?_) (fun c1=>?_)
 ·replace h:=itT c1 h;refine D3 hS trivial (b:=!y1) (fun c2=>?_) (fun c2=>?_)
  ·cases h;exact kR hS
  ·exact Bool.noConfusion (c1.symm.trans c2)
 ·replace h:=itF c1 h;refine kC hS h (Fa hS hL) (fun y2 h=>?_);refine D3 hS trivial (b:=y2 != 0) (fun c3=>?_) (fun c3=>?_)
  ·replace h:=itT c3 h;refine D3 hS trivial (b:=y2 != 0) (fun c4=>?_) (fun c4=>?_)
   ·cases h;exact kR hS
   ·exact Bool.noConfusion (c3.symm.trans c4)
  ·replace h:=itF c3 h;refine kC hS h (Fa hS hL) (fun y3 h=>?_);refine D3 hS trivial (b:=y3 != 0) (fun c5=>?_) (fun c5=>?_)
   ·replace h:=itT c5 h;refine D3 hS trivial (b:=y3 != 0) (fun c6=>?_) (fun c6=>?_)
    ·cases h;exact kR hS
    ·exact Bool.noConfusion (c5.symm.trans c6)
   ·replace h:=itF c5 h;refine D3 hS trivial (b:=decide (4<(p_l.If.n:Int))) (fun c7=>?_) (fun c7=>?_)
    ·replace h:=itT c7 h;refine D3 hS trivial (b:=decide (4<(p_l.If.n:Int))) (fun c8=>?_) (fun c8=>?_)
     ·cases h;exact kR hS
     ·exact Bool.noConfusion (c7.symm.trans c8)
    ·replace h:=itF c7 h;refine D3 hS trivial (b:=decide (6<(p_l.Out.n:Int))) (fun c9=>?_) (fun c9=>?_)
     ·replace h:=itT c9 h;refine D3 hS trivial (b:=decide (6<(p_l.Out.n:Int))) (fun c10=>?_) (fun c10=>?_)
      ·cases h;exact kR hS
      ·exact Bool.noConfusion (c9.symm.trans c10)
     ·replace h:=itF c9 h;refine D3 hS trivial (b:=(wrap .i64 ((p_l.If.n:Int)+(p_l.Out.n:Int)))==0) (fun c11=>?_) (fun c11=>?_)
      ·replace h:=itT c11 h;refine D3 hS trivial (b:=(wrap .i64 ((p_l.If.n:Int)+(p_l.Out.n:Int)))==0) (fun c12=>?_) (fun c12=>?_)
       ·cases h;exact kR hS
       ·exact Bool.noConfusion (c11.symm.trans c12)
      ·replace h:=itF c11 h;refine kB hS (A5 hS) trivial trivial 4 (.o (.a (decide (p_l.Mode<1))) (.a (decide (3<p_l.Mode)))) ?_;refine D3 hS trivial (b:=(decide (p_l.Mode<1))||(decide (3<p_l.Mode))) (fun c13=>?_) (fun c13=>?_)
       ·replace h:=itT c13 h;refine D3 hS trivial (b:=(decide (p_l.Mode<1))||(decide (3<p_l.Mode))) (fun c14=>?_) (fun c14=>?_)
        ·cases h;exact kR hS
        ·exact Bool.noConfusion (c13.symm.trans c14)
       ·replace h:=itF c13 h;refine kC hS h (G3 hS hL (fun e=>NZ hS hL e)) (fun y4 h=>?_);refine D3 hS trivial (b:=y4) (fun c15=>?_) (fun c15=>?_)
        ·replace h:=itT c15 h;refine D3 hS trivial (b:=y4) (fun c16=>?_) (fun c16=>?_)
         ·cases h;exact kR hS
         ·exact Bool.noConfusion (c15.symm.trans c16)
        ·replace h:=itF c15 h;obtain⟨y5,e5,h⟩:=B5 h;refine B4 hS [4000] trivial (R5 hS hL (fun e=>NY hS hL e) e5) ?_;refine kI hS h (fun h=>?_) (fun h=>?_)
         ·cases h;exact kR hS
         ·cases h;exact kR hS
def Gk (N:Nat)(p_l:Law)(p_w:Sl Sound):Option Int:=
 (T0 N p_l).bind fun y1=>
 if (y1 != 0) then
  some y1
 else
  (Bc N p_w).bind fun y2=>
  some y2
theorem RG {N:Nat}{p_l:Law}{p_w:Sl Sound}{y:Int}(h:Gk N p_l p_w=some y) :FunO S Ki [.p (.agg (B3 p_l)),.p (vSl 2 A0 p_w)] [] (pN y) ([]) []:=by
 unfold Gk at h;refine A2 hS Rr ?_;refine kC hS h (Gj hS hL) (fun y1 h=>?_);refine kI hS h (fun h=>?_) (fun h=>?_)
 ·cases h;exact kR hS
 ·refine kC hS h (EY hS hL) (fun y2 h=>?_);cases h;exact kR hS
def CS (N:Nat)(p_at:Int)(q0:Law)(q1:Sl Sound):Option Bool:=
 (Ea N q0.Left q1 p_at).bind fun y1=>
 if ((y1.1.n:Int)==0) then
  some false
 else
  (Gi N q0.Right q1 (wrap .i64 (p_at+(q0.If.n:Int)))).bind fun y2=>
  some (decide (0<(y2.1.n:Int)))
theorem LD {N:Nat}{p_at:Int}{q0:Law}{q1:Sl Sound}{y:Bool}(h:CS N p_at q0 q1=some y) :FunO S Q3 [pN p_at,.reg 0 0,.reg 1 0] [.cells ((B3 q0).map .p),.cells [.p (vSl 2 A0 q1)]] (pB y) ([.cells ((B3 q0).map .p),.cells [.p (vSl 2 A0 q1)]]) [true,true]:=by
 unfold CS at h;refine A2 hS Ls ?_;refine kC hS h (NX hS hL) (fun y1 h=>?_);refine kI hS h (fun h=>?_) (fun h=>?_)
 ·obtain rfl:=B6 h;exact A6 hS trivial ⟨[(4,pB false)],[(1,.cells [.p (vSl 2 A0 q1)]),(0,.cells ((B3 q0).map .p))]⟩ [0,1] (ids:=[(0,0),(1,1)]) ⟨rfl,rfl,rfl⟩
 ·refine kC hS h (RE hS hL) (fun y2 h=>?_);obtain rfl:=B6 h;exact A6 hS trivial ⟨[(4,pB (decide (0<(y2.1.n:Int))))],[(1,.cells [.p (vSl 2 A0 q1)]),(0,.cells ((B3 q0).map .p))]⟩ [0,1] (ids:=[(0,0),(1,1)]) ⟨rfl,rfl,rfl⟩
def Fc (N:Nat)(p_l:Law)(p_w:Sl Sound):Option (Law×(Sl Sound)):=
 some (p_l,p_w)
theorem PR {N:Nat}{p_l:Law}{p_w:Sl Sound}{y:Law×(Sl Sound)}(h:Fc N p_l p_w=some y) :FunO S Iy [.p (.agg (B3 p_l)),.p (vSl 2 A0 p_w)] [] (.clo Q3 [] [.reg 0 0,.reg 1 0]) ([.cells ((B3 y.1).map .p),.cells [.p (vSl 2 A0 y.2)]]) []:=by unfold Fc at h;refine A2 hS PK ?_;obtain rfl:=B6 h;exact A6 hS trivial ⟨[(4,.clo Q3 [] [.reg 3000 0,.reg 4000 0])],[(4000,.cells [.p (vSl 2 A0 p_w)]),(3000,.cells ((B3 p_l).map .p))]⟩ [3000,4000] (ids:=[(3000,3000),(4000,4000)]) ⟨rfl,rfl,rfl⟩
def Hi (N:Nat)(p_l:Law)(p_cut:Sl Sound):Option (Sl Sound):=
 Bj N (fun self1 (x1:Sl Sound) (x2:Int)=>
  if (decide (x2<(p_l.Out.n:Int))) then
   if ((0:Int)<=x2/\x2<(p_l.Out.n:Int))then
    if ((decide (0<=(p_l.Out.g x2.toNat).From))=true->((0:Int)<=(p_l.Out.g x2.toNat).From/\(p_l.Out.g x2.toNat).From<(p_cut.n:Int)))then
     (CO N (⟨(if (decide (0<=(p_l.Out.g x2.toNat).From)) then (p_cut.g (p_l.Out.g x2.toNat).From.toNat).Plus else 0),(if (decide (0<=(p_l.Out.g x2.toNat).From)) then (p_cut.g (p_l.Out.g x2.toNat).From.toNat).Minus else 0)⟩:Sound) (p_l.Out.g x2.toNat).Clear (p_l.Out.g x2.toNat).Set).bind fun y5=>
     if ((p_l.Out.g x2.toNat).Take != 0) then
      if ((0:Int)<=(p_l.Out.g x2.toNat).Of/\(p_l.Out.g x2.toNat).Of<(p_cut.n:Int))then
       (EX N y5.1 (p_cut.g (p_l.Out.g x2.toNat).Of.toNat) (p_l.Out.g x2.toNat).Take).bind fun y6=>
       if ((x1.n+(Sl.of [y6.1]:Sl Sound).n)*8<=140737488355328/\x1.n+(Sl.of [y6.1]:Sl Sound).n<=140737488355328)then
        self1 (x1.push y6.1) (wrap .i64 (x2+1))
       else none
      else none
     else
      if ((x1.n+(Sl.of [y5.1]:Sl Sound).n)*8<=140737488355328/\x1.n+(Sl.of [y5.1]:Sl Sound).n<=140737488355328)then
       self1 (x1.push y5.1) (wrap .i64 (x2+1))
      else none
    else none
   else none
  else
   some x1
  ) (Sl.nil:Sl Sound) 0
theorem PS {N:Nat}{p_l:Law}{p_cut:Sl Sound}{y:Sl Sound}(h:Hi N p_l p_cut=some y) :FunO S PH [.p (.agg (B3 p_l)),.p (vSl 2 A0 p_cut)] [] (.p (vSl 2 A0 y)) ([]) []:=by
 unfold Hi at h;refine A2 hS Wi ?_;refine H9 hS trivial 4 3000 (B3 p_l) ?_;refine G0 hS trivial h (fun x1 x2=>⟨[(12,pN x2),(11,pN (p_l.Out.n:Int)),(10,.p (vSl 6 O2 p_l.Out)),(5,.vec 6500),(1,.p (vSl 2 A0 p_cut))],[(6500,.vec D1 2 x1.n (fun i=>A0 (x1.g i)) false)]⟩) (ids:=[]) (fun _ _ _ _ _ self1 x1 x2 hb3 h=>?_);refine kI hS h (fun h=>?_) (fun h=>?_)
 ·obtain⟨c16,h⟩:=E2 h;refine H9 hS (And.intro c16 (by decide:(6:Nat)<=6)) 8 8000 (O2 (p_l.Out.g x2.toNat)) ?_;obtain⟨c18,h⟩:=E2 h;obtain⟨t5,ht5⟩:∃x:Int,x=(if (decide (0<=(p_l.Out.g x2.toNat).From)) then (p_cut.g (p_l.Out.g x2.toNat).From.toNat).Plus else 0):=⟨_,rfl⟩;obtain⟨t6,ht6⟩:∃x:Int,x=(if (decide (0<=(p_l.Out.g x2.toNat).From)) then (p_cut.g (p_l.Out.g x2.toNat).From.toNat).Minus else 0):=⟨_,rfl⟩;refine QX hS trivial (A5 hS) 0 ⟨[(12,pN x2),(11,pN (p_l.Out.n:Int)),(10,.p (vSl 6 O2 p_l.Out)),(8,.reg 9000 0),(7,.p (.ptr (O2 (p_l.Out.g x2.toNat)))),(5,.vec 6500),(1,.p (vSl 2 A0 p_cut))],[(9000,.cells [pU t5,pU t6]),(6500,.vec D1 2 x1.n (fun i=>A0 (x1.g i)) false)]⟩ (fun M3 hb4=>?_) ?_
  ·refine D3 hS trivial (b:=decide (0<=(p_l.Out.g x2.toNat).From)) (fun c19=>?_) (fun c19=>?_)
   ·exact hb4 _ [(6500,6500),(9000,9000)] _ (And.intro (c18 c19) (by decide:(2:Nat)<=2)) (hle:=klR [(5,.eq (pI .u32 (p_cut.g (p_l.Out.g x2.toNat).From.toNat).Plus) (pI .u32 t5)),(6,.eq (pI .u32 (p_cut.g (p_l.Out.g x2.toNat).From.toNat).Minus) (pI .u32 t6))] (al1 (by simp only[ht5,ht6,c19,Leaf.ok,pm,if_true,if_false]) (al1 (by simp only[ht5,ht6,c19,Leaf.ok,pm,if_true,if_false]) al0)))
   ·exact hb4 _ [(6500,6500),(9000,9000)] _ trivial (hle:=klR [(5,.eq (pI .u32 0) (pI .u32 t5)),(6,.eq (pI .u32 0) (pI .u32 t6))] (al1 (by simp only[ht5,ht6,c19,Leaf.ok,pm,if_true,if_false]) (al1 (by simp only[ht5,ht6,c19,Leaf.ok,pm,if_true,if_false]) al0)))
  ·subst ht6;subst ht5;obtain⟨y5,e5,h⟩:=B5 h;refine B4 hS [] (by decide:(2:Nat)<=4) (Ly hS hL e5) ?_;refine kI hS h (fun h=>?_) (fun h=>?_)
   ·refine G8 hS trivial [3,4,5,7,8] ?_;obtain⟨c21,h⟩:=E2 h;obtain⟨y6,e6,h⟩:=B5 h;refine BA (And.intro c21 (by decide:(2:Nat)<=2)) (PO hS hL e6) ?_;refine O0 trivial ?_;obtain⟨c22,h⟩:=E2 h;exact hb3 _ [(6500,52000)] _ (x1.push y6.1) (wrap .i64 (x2+1)) (And.intro (rfl:true=true) c22) h (hle:=klR [(4,.fn (x1.n+1) (x1.push y6.1).n (AW x1.n (fun i=>A0 (x1.g i)) (E4 [pI .u32 0,pI .u32 0] [(0,A0 y6.1)])) (fun i=>A0 ((x1.push y6.1).g i)))] (al1 ⟨rfl,Mo (c:=A0) (v:=x1) (x:=y6.1) (z:=[(pI .u32 0),pI .u32 0]) same rfl rfl⟩ al0))
   ·obtain⟨c23,h⟩:=E2 h;exact hb3 _ [(6500,52000)] _ (x1.push y5.1) (wrap .i64 (x2+1)) (And.intro (rfl:true=true) c23) h (hle:=klR [(4,.fn (x1.n+1) (x1.push y5.1).n (AW x1.n (fun i=>A0 (x1.g i)) (E4 [pI .u32 0,pI .u32 0] [(0,A0 y5.1)])) (fun i=>A0 ((x1.push y5.1).g i)))] (al1 ⟨rfl,Mo (c:=A0) (v:=x1) (x:=y5.1) (z:=[(pI .u32 0),pI .u32 0]) same rfl rfl⟩ al0))
 ·obtain rfl:=B6 h;exact A6 hS trivial ⟨[(4,.p (vSl 2 A0 x1))],[]⟩ [] (ids:=[]) ⟨rfl,rfl,rfl⟩
def D5 (N:Nat)(p_slices:Sl (Sl Sound)):Option (Sl Sound):=
 Bj N (fun self1 (x1:Int) (x2:Int)=>
  if (decide (x2<(p_slices.n:Int))) then
   if ((0:Int)<=x2/\x2<(p_slices.n:Int))then
    if (decide ((wrap .i64 (x1+((p_slices.g x2.toNat).n:Int)))<0)) then
     none
    else
     self1 (wrap .i64 (x1+((p_slices.g x2.toNat).n:Int))) (wrap .i64 (x2+1))
   else none
  else
   (K5 N x1).bind fun y1=>
   Bj N (fun self2 (x3:Sl Sound) (x4:Int)=>
    if (decide (x4<(p_slices.n:Int))) then
     if (((0:Int)<=x4/\x4<(p_slices.n:Int))/\((x3.n+(p_slices.g x4.toNat).n)*8<=140737488355328/\x3.n+(p_slices.g x4.toNat).n<=140737488355328))then
      self2 (x3.app (p_slices.g x4.toNat)) (wrap .i64 (x4+1))
     else none
    else
     some x3
    ) y1 0
  ) 0 0
theorem J0 {N:Nat}{p_slices:Sl (Sl Sound)}{y:Sl Sound}(h:D5 N p_slices=some y) :FunO S I9 [.p (vSl 1 (cL 2 A0) p_slices)] [] (.vec 0) ([.vec D1 2 y.n (fun i=>A0 (y.g i)) true]) []:=by
 unfold D5 at h;refine A2 hS U5 ?_;refine G0 hS trivial h (fun x1 x2=>⟨[(11,pN x2),(10,pN (p_slices.n:Int)),(9,.p (vSl 1 (cL 2 A0) p_slices)),(3,pN x1),(0,.p (vSl 1 (cL 2 A0) p_slices))],[]⟩) (ids:=[]) (fun _ _ _ _ _ self1 x1 x2 hb1 h=>?_);refine kI hS h (fun h=>?_) (fun h=>?_)
 ·obtain⟨c8,h⟩:=E2 h;refine D3 hS c8 (b:=decide ((wrap .i64 (x1+((p_slices.g x2.toNat).n:Int)))<0)) (fun c9=>?_) (fun c9=>?_)
  ·replace h:=itT c9 h;cases h
  ·replace h:=itF c9 h;exact hb1 _ [] _ (wrap .i64 (x1+((p_slices.g x2.toNat).n:Int))) (wrap .i64 (x2+1)) trivial h
 ·refine kC hS h (X8 hS hL) (fun y1 h=>?_);refine G0 hS trivial h (fun x3 x4=>⟨[(27,pN x4),(26,pN (p_slices.n:Int)),(25,.p (vSl 1 (cL 2 A0) p_slices)),(6,.vec 7500)],[(7500,.vec D1 2 x3.n (fun i=>A0 (x3.g i)) false)]⟩) (ids:=[(7500,25000)]) (fun _ _ _ _ _ self2 x3 x4 hb2 h=>?_);refine kI hS h (fun h=>?_) (fun h=>?_)
  ·obtain⟨c13,h⟩:=E2 h;exact hb2 _ [(7500,34000)] _ (x3.app (p_slices.g x4.toNat)) (wrap .i64 (x4+1)) c13 h (hle:=klR [(3,.fn (x3.n+(p_slices.g x4.toNat).n) (x3.app (p_slices.g x4.toNat)).n (AW x3.n (fun i=>A0 (x3.g i)) (fun i=>A0 ((p_slices.g x4.toNat).g i))) (fun i=>A0 ((x3.app (p_slices.g x4.toNat)).g i)))] (al1 ⟨rfl,Ak1 (c:=A0) (v:=x3) (w:=p_slices.g x4.toNat) same rfl same rfl⟩ al0))
  ·obtain rfl:=B6 h;exact A6 hS trivial ⟨[(2,.vec 7500)],[(7500,.vec D1 2 x3.n (fun i=>A0 (x3.g i)) true)]⟩ [7500] (ids:=[(7500,7500)]) ⟨rfl,rfl,rfl⟩
def BK (N:Nat)(p_l:Law)(p_w:Sl Sound)(p_at:Int):Option (Sl Sound):=
 if (((0:Int)<=p_at/\p_at<=(p_w.n:Int))/\((0:Int)<=p_at/\p_at<=(wrap .i64 (p_at+(p_l.If.n:Int)))/\(wrap .i64 (p_at+(p_l.If.n:Int)))<=(p_w.n:Int)))then
  (Hi N p_l (p_w.sub p_at.toNat (wrap .i64 (p_at+(p_l.If.n:Int))).toNat)).bind fun y1=>
  if ((0:Int)<=(wrap .i64 (p_at+(p_l.If.n:Int)))/\(wrap .i64 (p_at+(p_l.If.n:Int)))<=(p_w.n:Int))then
   (D5 N (Sl.of [p_w.take p_at.toNat,y1,p_w.drop (wrap .i64 (p_at+(p_l.If.n:Int))).toNat]:Sl (Sl Sound))).bind fun y2=>
   some y2
  else none
 else none
theorem Hj {N:Nat}{p_l:Law}{p_w:Sl Sound}{p_at:Int}{y:Sl Sound}(h:BK N p_l p_w p_at=some y) :FunO S Hb [.p (.agg (B3 p_l)),.p (vSl 2 A0 p_w),pN p_at] [] (.vec 0) ([.vec D1 2 y.n (fun i=>A0 (y.g i)) true]) []:=by unfold BK at h;refine A2 hS NI ?_;refine H9 hS trivial 6 4000 (B3 p_l) ?_;refine G8 hS trivial [3,8] ?_;obtain⟨c1,h⟩:=E2 h;obtain⟨y1,e1,h⟩:=B5 h;refine BA (And.intro (And.intro c1.1 (by decide:(18:Nat)<=18)) c1.2) (PS hS hL e1) ?_;obtain⟨c2,h⟩:=E2 h;refine CJ c2 (x:=.sl true 1 3 (E4 [H7] [(0,cL 2 A0 (p_w.take p_at.toNat)),(1,cL 2 A0 y1),(2,cL 2 A0 (p_w.drop (wrap .i64 (p_at+(p_l.If.n:Int))).toNat))])) ?_;obtain⟨y2,e2,h⟩:=B5 h;refine SM [] trivial (FunO.le hS (args:=[.p (.sl true 1 3 (E4 [H7] [(0,cL 2 A0 (p_w.take p_at.toNat)),(1,cL 2 A0 y1),(2,cL 2 A0 (p_w.drop (wrap .i64 (p_at+(p_l.If.n:Int))).toNat))]))]) (by exact⟨YD rfl (fun i hi=>match i,hi with|0,_=>rfl|1,_=>rfl|2,_=>rfl|_+3,hi=>absurd hi (by omega)),trivial⟩) (J0 hS hL e2)) ?_;refine O0 trivial ?_;obtain rfl:=B6 h;exact A6 hS trivial ⟨[(6,.vec 27000)],[(27000,.vec D1 2 y2.n (fun i=>A0 (y2.g i)) true)]⟩ [27000] (ids:=[(27000,27000)]) ⟨rfl,rfl,rfl⟩
def CD (N:Nat)(q0:Law)(q1:Sl Sound)(q2:Int):Option (List (Int)):=
 (Fc N q0 q1).bind fun y1=>
 Az N (fun self3 (x2:Int)=>
  if (decide ((wrap .i64 (x2+(q0.If.n:Int)))<=(q1.n:Int))) then
   Az N (fun self4 (x4:Int)=>
    if (decide (x4<(q0.If.n:Int))) then
     if ((0:Int)<=x4/\x4<(q0.If.n:Int))then
      if ((0:Int)<=(wrap .i64 (x2+x4))/\(wrap .i64 (x2+x4))<(q1.n:Int))then
       (AH N (q1.g (wrap .i64 (x2+x4)).toNat) (q0.If.g x4.toNat)).bind fun y12=>
       if (!y12) then
        self3 (wrap .i64 (x2+1))
       else
        self4 (wrap .i64 (x4+1))
      else none
     else none
    else
     (CS N x2 y1.1 y1.2).bind fun y13=>
     if y13 then
      Fv x2 (
       self3 (wrap .i64 (x2+1))
       )
     else
      self3 (wrap .i64 (x2+1))
    ) 0
  else
   some []
  ) q2
theorem IA {N:Nat}{q0:Law}{q1:Sl Sound}{q2:Int}{L:List (Int)}(h:CD N q0 q1 q2=some L) :DH S Cy [] [.reg 0 0,.reg 1 0,.reg 2 0] [.cells ((B3 q0).map .p),.cells [.p (vSl 2 A0 q1)],.cells [pN q2]] (L.map (fun (x:Int)=>[pI .i64 x])):=by
 unfold CD at h;refine DL hS PJ ?_;refine kC hS h (PR hS hL) (fun y1 h=>?_);refine EI hS trivial h (fun x2 L1=>⟨[(6,pN x2),(5,.clo Q3 [] [.reg 12000 0,.reg 12001 0]),(2,.reg 1 0),(1,.reg 0 0),(0,.yf 3)],[(12001,.cells [.p (vSl 2 A0 y1.2)]),(12000,.cells ((B3 y1.1).map .p)),(3,.yld (L1.map (fun (x:Int)=>[pI .i64 x])) true),(2,.cells [pN q2]),(1,.cells [.p (vSl 2 A0 q1)]),(0,.cells ((B3 q0).map .p))]⟩) (ids:=[(0,0),(1,1),(2,2),(3,3),(12000,12000),(12001,12001)]) (fun _ _ _ _ _ self3 x2 L1 hb3 h=>?_);refine kI hS h (fun h=>?_) (fun h=>?_)
 ·refine EI hS trivial h (fun x4 L8=>⟨[(26,pN x4),(25,pN (q0.If.n:Int)),(24,.p (vSl 2 A0 q0.If)),(6,pN x2),(5,.clo Q3 [] [.reg 12000 0,.reg 12001 0]),(2,.reg 1 0),(1,.reg 0 0),(0,.yf 3)],[(12001,.cells [.p (vSl 2 A0 y1.2)]),(12000,.cells ((B3 y1.1).map .p)),(3,.yld (L8.map (fun (x:Int)=>[pI .i64 x])) true),(2,.cells [pN q2]),(1,.cells [.p (vSl 2 A0 q1)]),(0,.cells ((B3 q0).map .p))]⟩) (ids:=[(0,0),(1,1),(2,2),(3,3),(12000,12000),(12001,12001)]) (fun _ _ _ _ _ self4 x4 L8 hb4 h=>?_);refine kI hS h (fun h=>?_) (fun h=>?_)
  ·obtain⟨c47,h⟩:=E2 h;refine Wc hS (And.intro c47 (by decide:(2:Nat)<=2)) 9000 [pI .u32 (q0.If.g x4.toNat).Plus,pI .u32 (q0.If.g x4.toNat).Minus] ?_;refine G8 hS trivial [4,5,6,7] ?_;obtain⟨c48,h⟩:=E2 h;obtain⟨y12,e12,h⟩:=B5 h;refine BA (And.intro (And.intro c48 (by decide:(2:Nat)<=2)) (by decide:(2:Nat)<=2)) (HO hS hL e12) ?_;refine O0 trivial ?_;refine kI hS h (fun h=>?_) (fun h=>?_)
   ·exact hb3 _ [(0,0),(1,1),(2,2),(3,3),(12000,12000),(12001,12001)] _ (wrap .i64 (x2+1)) L8 trivial h
   ·exact hb4 _ [(0,0),(1,1),(2,2),(3,3),(12000,12000),(12001,12001)] _ (wrap .i64 (x4+1)) L8 trivial h
  ·obtain⟨y13,e13,h⟩:=B5 h;refine B4 hS [12000,12001] trivial (LD hS hL e13) ?_;refine kG hS h (fun h=>?_) (fun h=>?_)
   ·obtain⟨L10,rfl,hcL10⟩:=JG h;replace h:=hcL10;refine Cd hS trivial (ys:=(fun (x:Int)=>[pI .i64 x]) x2) (rest:=L10.map (fun (x:Int)=>[pI .i64 x])) ?_ ?_
    ·refine D3 hS trivial (b:=false) (fun c53=>?_) (fun c53=>?_)
     ·exact Bool.noConfusion ((rfl:false=false).symm.trans c53)
     ·exact hb3 _ [(0,0),(1,1),(2,2),(3,3),(12000,12000),(12001,12001)] _ (wrap .i64 (x2+1)) L10 trivial h
    ·refine D3 hS trivial (b:=true) (fun c54=>?_) (fun c54=>?_)
     ·exact A6 hS trivial (a:=.tup []) (objs:=[(.cells ((B3 q0).map .p)),.cells [.p (vSl 2 A0 q1)],.cells [pN q2],.yld [] false]) ⟨[],[(3,.yld [] false),(2,.cells [pN q2]),(1,.cells [.p (vSl 2 A0 q1)]),(0,.cells ((B3 q0).map .p))]⟩ [0,1,2,3] (ids:=[(0,0),(1,1),(2,2),(3,3)]) ⟨false,rfl,rfl,_,rfl⟩
     ·exact Bool.noConfusion ((rfl:true=true).symm.trans c54)
   ·exact hb3 _ [(0,0),(1,1),(2,2),(3,3),(12000,12000),(12001,12001)] _ (wrap .i64 (x2+1)) L8 trivial h
 ·obtain rfl:=B6 h;exact A6 hS trivial (a:=.tup []) (objs:=[(.cells ((B3 q0).map .p)),.cells [.p (vSl 2 A0 q1)],.cells [pN q2],.yld [] true]) ⟨[],[(3,.yld [] true),(2,.cells [pN q2]),(1,.cells [.p (vSl 2 A0 q1)]),(0,.cells ((B3 q0).map .p))]⟩ [0,1,2,3] (ids:=[(0,0),(1,1),(2,2),(3,3)]) ⟨true,rfl,rfl,_,rfl⟩
def Fq (N:Nat)(p_l:Law)(p_w:Sl Sound)(p_from:Int):Option (Law×(Sl Sound)×Int):=
 some (p_l,p_w,p_from)
theorem MG {N:Nat}{p_l:Law}{p_w:Sl Sound}{p_from:Int}{y:Law×(Sl Sound)×Int}(h:Fq N p_l p_w p_from=some y) :FunO S ME [.p (.agg (B3 p_l)),.p (vSl 2 A0 p_w),pN p_from] [] (.clo Cy [] [.reg 0 0,.reg 1 0,.reg 2 0]) ([.cells ((B3 y.1).map .p),.cells [.p (vSl 2 A0 y.2.1)],.cells [pN y.2.2]]) []:=by unfold Fq at h;refine A2 hS Um ?_;obtain rfl:=B6 h;exact A6 hS trivial ⟨[(6,.clo Cy [] [.reg 4000 0,.reg 5000 0,.reg 6000 0])],[(6000,.cells [pN p_from]),(5000,.cells [.p (vSl 2 A0 p_w)]),(4000,.cells ((B3 p_l).map .p))]⟩ [4000,5000,6000] (ids:=[(4000,4000),(5000,5000),(6000,6000)]) ⟨rfl,rfl,rfl⟩
def Hk (N:Nat)(p_l:Law)(p_w:Sl Sound)(p_at:Int):Option Bool:=
 (Fq N p_l p_w p_at).bind fun y1=>
 (CD N y1.1 y1.2.1 y1.2.2).bind fun L1=>
 Y9 L1 (fun self1 (x1:Int) (_:Unit)=>
  some (x1==p_at)
  ) (fun (_:Unit)=>
   some false
  ) ()
theorem PT {N:Nat}{p_l:Law}{p_w:Sl Sound}{p_at:Int}{y:Bool}(h:Hk N p_l p_w p_at=some y) :FunO S PI [.p (.agg (B3 p_l)),.p (vSl 2 A0 p_w),pN p_at] [] (pB y) ([]) []:=by
 unfold Hk at h;refine A2 hS Wj ?_;refine kC hS h (MG hS hL) (fun y1 h=>?_);obtain⟨L1,e2,h⟩:=B5 h;refine DM hS trivial [12000,12001,12002] [6,5] 901 (fun _=>⟨[(6,.reg 7000 0),(5,.reg 6000 0)],[(7000,.cells [.p (.v (.bool false))]),(6000,.cells [pN p_at])]⟩) (idl:=[(6000,6000),(7000,7000)]) h (IA hS hL e2) (fun _=>by kernel_rfl) (fun _=>by kernel_rfl) (fun _=>by kernel_rfl) (fun _=>by kernel_rfl) (fun x1 _ self1 _ hb1 h=>?_) (fun _ h=>?_)
 ·refine GP hS trivial ?_;refine Nt hS trivial ⟨[(6,.reg 7000 0),(5,.reg 6000 0)],[(7000,.cells [pB (x1==p_at)]),(6000,.cells [pN p_at])]⟩ (ids:=[(901,901),(6000,6000),(7000,7000)]) ?_;cases h;exact kR hS
 ·cases h;exact kR hS
def Gl (N:Nat)(q0:Sl Sound)(q1:Law)(q2:Int)(q3:Int):Option (List (Int×(Sl Sound))):=
 if (q1.Mode==1) then
  (Fq N q1 q0 0).bind fun y1=>
  (CD N y1.1 y1.2.1 y1.2.2).bind fun L1=>
  Y9 L1 (fun self1 (x1:Int) (z1:(Sl Sound)×Int×Int)=>
   if (decide (x1<z1.2.1)) then
    self1 (z1.1,z1.2.1,z1.2.2)
   else
    if (((0:Int)<=(wrap .i64 (x1+z1.2.2))/\(wrap .i64 (x1+z1.2.2))<=(z1.1.n:Int))/\((0:Int)<=x1/\x1<=(wrap .i64 (x1+q2))/\(wrap .i64 (x1+q2))<=(q0.n:Int)))then
     (Hi N q1 (q0.sub x1.toNat (wrap .i64 (x1+q2)).toNat)).bind fun y6=>
     if ((0:Int)<=(wrap .i64 (x1+q2))/\(wrap .i64 (x1+q2))<=(q0.n:Int))then
      (D5 N (Sl.of [z1.1.take (wrap .i64 (x1+z1.2.2)).toNat,y6,q0.drop (wrap .i64 (x1+q2)).toNat]:Sl (Sl Sound))).bind fun y7=>
      Fv (x1,y7) (
       self1 (y7,wrap .i64 (x1+(if q2<1 then 1 else q2)),wrap .i64 ((wrap .i64 (z1.2.2+q3))-q2))
       )
     else none
    else none
   ) (fun (z1:(Sl Sound)×Int×Int)=>
    some []
   ) (q0,0,0)
 else
  if (q1.Mode==2) then
   Bj N (fun self2 (x5:Sl Sound) (x6:Int)=>
    if (decide ((wrap .i64 (x6+q2))<=(x5.n:Int))) then
     (Hk N q1 x5 x6).bind fun y12=>
     if (!y12) then
      self2 x5 (wrap .i64 (x6+1))
     else
      (BK N q1 x5 x6).bind fun y13=>
      Fv (x6,y13) (
       if (q2==0) then
        self2 y13 (wrap .i64 ((wrap .i64 (x6+q3))+1))
       else
        self2 y13 (wrap .i64 (x6+q3))
       )
    else
     some []
    ) q0 0
  else
   if (q1.Mode==3) then
    Bj N (fun self3 (x7:Sl Sound) (x8:Int)=>
     if (decide (0<=x8)) then
      (Hk N q1 x7 x8).bind fun y18=>
      if (!y18) then
       self3 x7 (wrap .i64 (x8-1))
      else
       (BK N q1 x7 x8).bind fun y19=>
       Fv (x8,y19) (
        self3 y19 (wrap .i64 (x8-(if q2<1 then 1 else q2)))
        )
     else
      some []
     ) q0 (wrap .i64 ((q0.n:Int)-q2))
   else
    some []
theorem RH {N:Nat}{q0:Sl Sound}{q1:Law}{q2:Int}{q3:Int}{L:List (Int×(Sl Sound))}(h:Gl N q0 q1 q2 q3=some L) :DH S DR [] [.reg 0 0,.reg 1 0,.reg 2 0,.reg 3 0] [.cells [.p (vSl 2 A0 q0)],.cells ((B3 q1).map .p),.cells [pN q2],.cells [pN q3]] (L.map (fun (x:Int×(Sl Sound))=>[pI .i64 x.1,vSl 2 A0 x.2])):=by
 unfold Gl at h;refine DL hS Rs ?_;refine kI hS h (fun h=>?_) (fun h=>?_)
 ·refine kC hS h (MG hS hL) (fun y1 h=>?_);obtain⟨L1,e2,h⟩:=B5 h;refine XQ hS trivial [20000,20001,20002] [8,7,6,5,4,3,2,1] 900 (fun z1 L2=>⟨[(8,.reg 9000 0),(7,.reg 8000 0),(6,.reg 7000 0),(5,.reg 6000 0),(4,.reg 3 0),(3,.reg 2 0),(2,.reg 1 0),(1,.reg 0 0)],[(9000,.cells [pN z1.2.2]),(8000,.cells [pN z1.2.1]),(7000,.cells [.p (vSl 2 A0 z1.1)]),(6000,.cells [.yf 4]),(4,.yld (L2.map (fun (x:Int×(Sl Sound))=>[pI .i64 x.1,vSl 2 A0 x.2])) true),(3,.cells [pN q3]),(2,.cells [pN q2]),(1,.cells ((B3 q1).map .p)),(0,.cells [.p (vSl 2 A0 q0)])]⟩) (idl:=[(0,0),(1,1),(2,2),(3,3),(4,4),(6000,6000),(7000,7000),(8000,8000),(9000,9000)]) h (IA hS hL e2) (fun _=>by kernel_rfl) (fun _ _=>by kernel_rfl) (fun _ _=>by kernel_rfl) (fun _ _=>by kernel_rfl) (fun x1 _ self1 z1 L2 hb1 h=>?_) (fun z1 L2 h=>?_)
  ·refine GP hS trivial ?_;refine kI hS h (fun h=>?_) (fun h=>?_)
   ·exact hb1 _ [(0,0),(1,1),(2,2),(3,3),(4,4),(900,900),(6000,6000),(7000,7000),(8000,8000),(9000,9000)] _ (z1.1,z1.2.1,z1.2.2) L2 trivial h
   ·refine U1 hS trivial [(0,.l [7000]),(2,.l [9000]),(5,.l [1]),(6,.l [0]),(9,.l [2]),(12,.n),(13,.l [0]),(15,.l [2]),(20,.a [7000])] ?_;obtain⟨c13,h⟩:=E2 h;obtain⟨y6,e7,h⟩:=B5 h;refine BA c13 (PS hS hL e7) ?_;obtain⟨c14,h⟩:=E2 h;refine CJ c14 (x:=.sl true 1 3 (E4 [H7] [(0,cL 2 A0 (z1.1.take (wrap .i64 (x1+z1.2.2)).toNat)),(1,cL 2 A0 y6),(2,cL 2 A0 (q0.drop (wrap .i64 (x1+q2)).toNat))])) ?_;obtain⟨y7,e8,h⟩:=B5 h;refine SM [] trivial (FunO.le hS (args:=[.p (.sl true 1 3 (E4 [H7] [(0,cL 2 A0 (z1.1.take (wrap .i64 (x1+z1.2.2)).toNat)),(1,cL 2 A0 y6),(2,cL 2 A0 (q0.drop (wrap .i64 (x1+q2)).toNat))]))]) (by exact⟨YD rfl (fun i hi=>match i,hi with|0,_=>rfl|1,_=>rfl|2,_=>rfl|_+3,hi=>absurd hi (by omega)),trivial⟩) (J0 hS hL e8)) ?_;refine O0 trivial ?_;obtain⟨L5,rfl,hcL5⟩:=JG h;replace h:=hcL5;refine Cd hS trivial (ys:=(fun (x:Int×(Sl Sound))=>[pI .i64 x.1,vSl 2 A0 x.2]) (x1,y7)) (rest:=L5.map (fun (x:Int×(Sl Sound))=>[pI .i64 x.1,vSl 2 A0 x.2])) ?_ ?_
    ·refine D3 hS trivial (b:=false) (fun c15=>?_) (fun c15=>?_)
     ·exact Bool.noConfusion ((rfl:false=false).symm.trans c15)
     ·refine U1 hS trivial [(1,.l [2]),(4,.l [9000]),(5,.l [3]),(7,.l [2]),(9,.a [8000]),(10,.a [9000])] ?_;refine O0 trivial ?_;exact hb1 _ [(0,0),(1,1),(2,2),(3,3),(4,4),(900,900),(6000,6000),(7000,7000),(8000,8000),(9000,9000)] _ (y7,wrap .i64 (x1+(if q2<1 then 1 else q2)),wrap .i64 ((wrap .i64 (z1.2.2+q3))-q2)) L5 trivial h
    ·refine D3 hS trivial (b:=true) (fun c16=>?_) (fun c16=>?_)
     ·refine Nt hS trivial ⟨[(8,.reg 9000 0),(7,.reg 8000 0),(6,.reg 7000 0),(5,.reg 6000 0),(4,.reg 3 0),(3,.reg 2 0),(2,.reg 1 0),(1,.reg 0 0)],[(44000,.vec D1 2 y7.n (fun i=>A0 (y7.g i)) true),(9000,.cells [pN z1.2.2]),(8000,.cells [pN z1.2.1]),(7000,.cells [.vec 44000]),(6000,.cells [.yf 4]),(4,.yld [] false),(3,.cells [pN q3]),(2,.cells [pN q2]),(1,.cells ((B3 q1).map .p)),(0,.cells [.p (vSl 2 A0 q0)])]⟩ (ids:=[(0,0),(1,1),(2,2),(3,3),(4,4),(900,900),(6000,6000),(7000,7000),(8000,8000),(9000,9000),(44000,44000)]) ?_;exact A6 hS trivial (a:=.tup []) (objs:=[(.cells [.p (vSl 2 A0 q0)]),.cells ((B3 q1).map .p),.cells [pN q2],.cells [pN q3],.yld [] false]) ⟨[],[(4,.yld [] false),(3,.cells [pN q3]),(2,.cells [pN q2]),(1,.cells ((B3 q1).map .p)),(0,.cells [.p (vSl 2 A0 q0)])]⟩ [0,1,2,3,4] (ids:=[(0,0),(1,1),(2,2),(3,3),(4,4)]) ⟨false,rfl,rfl,_,rfl⟩
     ·exact Bool.noConfusion ((rfl:true=true).symm.trans c16)
  ·obtain rfl:=B6 h;exact A6 hS trivial (a:=.tup []) (objs:=[(.cells [.p (vSl 2 A0 q0)]),.cells ((B3 q1).map .p),.cells [pN q2],.cells [pN q3],.yld [] true]) ⟨[],[(4,.yld [] true),(3,.cells [pN q3]),(2,.cells [pN q2]),(1,.cells ((B3 q1).map .p)),(0,.cells [.p (vSl 2 A0 q0)])]⟩ [0,1,2,3,4] (ids:=[(0,0),(1,1),(2,2),(3,3),(4,4)]) ⟨true,rfl,rfl,_,rfl⟩
 ·refine kI hS h (fun h=>?_) (fun h=>?_)
  ·refine Np hS trivial h (fun x5 x6 L6=>⟨[(10,pN x6),(6,.reg 7000 0),(5,.reg 6000 0),(4,.reg 3 0),(3,.reg 2 0),(2,.reg 1 0)],[(7000,.cells [.p (vSl 2 A0 x5)]),(6000,.cells [.yf 4]),(4,.yld (L6.map (fun (x:Int×(Sl Sound))=>[pI .i64 x.1,vSl 2 A0 x.2])) true),(3,.cells [pN q3]),(2,.cells [pN q2]),(1,.cells ((B3 q1).map .p)),(0,.cells [.p (vSl 2 A0 q0)])]⟩) (ids:=[(0,0),(1,1),(2,2),(3,3),(4,4),(6000,6000),(7000,7000)]) (fun _ _ _ _ _ self2 x5 x6 L6 hb2 h=>?_);refine kI hS h (fun h=>?_) (fun h=>?_)
   ·refine kC hS h (PT hS hL) (fun y12 h=>?_);refine kI hS h (fun h=>?_) (fun h=>?_)
    ·exact hb2 _ [(0,0),(1,1),(2,2),(3,3),(4,4),(6000,6000),(7000,7000)] _ x5 (wrap .i64 (x6+1)) L6 trivial h
    ·refine kC hS h (Hj hS hL) (fun y13 h=>?_);obtain⟨L9,rfl,hcL9⟩:=JG h;replace h:=hcL9;refine Cd hS trivial (ys:=(fun (x:Int×(Sl Sound))=>[pI .i64 x.1,vSl 2 A0 x.2]) (x6,y13)) (rest:=L9.map (fun (x:Int×(Sl Sound))=>[pI .i64 x.1,vSl 2 A0 x.2])) ?_ ?_
     ·refine D3 hS trivial (b:=false) (fun c30=>?_) (fun c30=>?_)
      ·exact Bool.noConfusion ((rfl:false=false).symm.trans c30)
      ·refine kI hS h (fun h=>?_) (fun h=>?_)
       ·exact hb2 _ [(0,0),(1,1),(2,2),(3,3),(4,4),(6000,6000),(7000,7000)] _ y13 (wrap .i64 ((wrap .i64 (x6+q3))+1)) L9 trivial h
       ·exact hb2 _ [(0,0),(1,1),(2,2),(3,3),(4,4),(6000,6000),(7000,7000)] _ y13 (wrap .i64 (x6+q3)) L9 trivial h
     ·refine D3 hS trivial (b:=true) (fun c32=>?_) (fun c32=>?_)
      ·exact A6 hS trivial (a:=.tup []) (objs:=[(.cells [.p (vSl 2 A0 q0)]),.cells ((B3 q1).map .p),.cells [pN q2],.cells [pN q3],.yld [] false]) ⟨[],[(4,.yld [] false),(3,.cells [pN q3]),(2,.cells [pN q2]),(1,.cells ((B3 q1).map .p)),(0,.cells [.p (vSl 2 A0 q0)])]⟩ [0,1,2,3,4] (ids:=[(0,0),(1,1),(2,2),(3,3),(4,4)]) ⟨false,rfl,rfl,_,rfl⟩
      ·exact Bool.noConfusion ((rfl:true=true).symm.trans c32)
   ·obtain rfl:=B6 h;exact A6 hS trivial (a:=.tup []) (objs:=[(.cells [.p (vSl 2 A0 q0)]),.cells ((B3 q1).map .p),.cells [pN q2],.cells [pN q3],.yld [] true]) ⟨[],[(4,.yld [] true),(3,.cells [pN q3]),(2,.cells [pN q2]),(1,.cells ((B3 q1).map .p)),(0,.cells [.p (vSl 2 A0 q0)])]⟩ [0,1,2,3,4] (ids:=[(0,0),(1,1),(2,2),(3,3),(4,4)]) ⟨true,rfl,rfl,_,rfl⟩
  ·refine kI hS h (fun h=>?_) (fun h=>?_)
   ·refine Np hS trivial h (fun x7 x8 L10=>⟨[(11,pN x8),(6,.reg 7000 0),(5,.reg 6000 0),(3,.reg 2 0),(2,.reg 1 0)],[(7000,.cells [.p (vSl 2 A0 x7)]),(6000,.cells [.yf 4]),(4,.yld (L10.map (fun (x:Int×(Sl Sound))=>[pI .i64 x.1,vSl 2 A0 x.2])) true),(3,.cells [pN q3]),(2,.cells [pN q2]),(1,.cells ((B3 q1).map .p)),(0,.cells [.p (vSl 2 A0 q0)])]⟩) (ids:=[(0,0),(1,1),(2,2),(3,3),(4,4),(6000,6000),(7000,7000)]) (fun _ _ _ _ _ self3 x7 x8 L10 hb3 h=>?_);refine kI hS h (fun h=>?_) (fun h=>?_)
    ·refine kC hS h (PT hS hL) (fun y18 h=>?_);refine kI hS h (fun h=>?_) (fun h=>?_)
     ·exact hb3 _ [(0,0),(1,1),(2,2),(3,3),(4,4),(6000,6000),(7000,7000)] _ x7 (wrap .i64 (x8-1)) L10 trivial h
     ·refine kC hS h (Hj hS hL) (fun y19 h=>?_);obtain⟨L13,rfl,hcL13⟩:=JG h;replace h:=hcL13;refine Cd hS trivial (ys:=(fun (x:Int×(Sl Sound))=>[pI .i64 x.1,vSl 2 A0 x.2]) (x8,y19)) (rest:=L13.map (fun (x:Int×(Sl Sound))=>[pI .i64 x.1,vSl 2 A0 x.2])) ?_ ?_
      ·refine D3 hS trivial (b:=false) (fun c44=>?_) (fun c44=>?_)
       ·exact Bool.noConfusion ((rfl:false=false).symm.trans c44)
       ·exact hb3 _ [(0,0),(1,1),(2,2),(3,3),(4,4),(6000,6000),(7000,7000)] _ y19 (wrap .i64 (x8-(if q2<1 then 1 else q2))) L13 trivial h
      ·refine D3 hS trivial (b:=true) (fun c45=>?_) (fun c45=>?_)
       ·exact A6 hS trivial (a:=.tup []) (objs:=[(.cells [.p (vSl 2 A0 q0)]),.cells ((B3 q1).map .p),.cells [pN q2],.cells [pN q3],.yld [] false]) ⟨[],[(4,.yld [] false),(3,.cells [pN q3]),(2,.cells [pN q2]),(1,.cells ((B3 q1).map .p)),(0,.cells [.p (vSl 2 A0 q0)])]⟩ [0,1,2,3,4] (ids:=[(0,0),(1,1),(2,2),(3,3),(4,4)]) ⟨false,rfl,rfl,_,rfl⟩
       ·exact Bool.noConfusion ((rfl:true=true).symm.trans c45)
    ·obtain rfl:=B6 h;exact A6 hS trivial (a:=.tup []) (objs:=[(.cells [.p (vSl 2 A0 q0)]),.cells ((B3 q1).map .p),.cells [pN q2],.cells [pN q3],.yld [] true]) ⟨[],[(4,.yld [] true),(3,.cells [pN q3]),(2,.cells [pN q2]),(1,.cells ((B3 q1).map .p)),(0,.cells [.p (vSl 2 A0 q0)])]⟩ [0,1,2,3,4] (ids:=[(0,0),(1,1),(2,2),(3,3),(4,4)]) ⟨true,rfl,rfl,_,rfl⟩
   ·obtain rfl:=B6 h;exact A6 hS trivial (a:=.tup []) (objs:=[(.cells [.p (vSl 2 A0 q0)]),.cells ((B3 q1).map .p),.cells [pN q2],.cells [pN q3],.yld [] true]) ⟨[],[(4,.yld [] true),(3,.cells [pN q3]),(2,.cells [pN q2]),(1,.cells ((B3 q1).map .p)),(0,.cells [.p (vSl 2 A0 q0)])]⟩ [0,1,2,3,4] (ids:=[(0,0),(1,1),(2,2),(3,3),(4,4)]) ⟨true,rfl,rfl,_,rfl⟩
def KA (N:Nat)(p_l:Law)(p_w:Sl Sound):Option ((Sl Sound)×Law×Int×Int):=
 some (p_w,p_l,(p_l.If.n:Int),(p_l.Out.n:Int))
theorem Wn {N:Nat}{p_l:Law}{p_w:Sl Sound}{y:(Sl Sound)×Law×Int×Int}(h:KA N p_l p_w=some y) :FunO S PG [.p (.agg (B3 p_l)),.p (vSl 2 A0 p_w)] [] (.clo DR [] [.reg 0 0,.reg 1 0,.reg 2 0,.reg 3 0]) ([.cells [.p (vSl 2 A0 y.1)],.cells ((B3 y.2.1).map .p),.cells [pN y.2.2.1],.cells [pN y.2.2.2]]) []:=by unfold KA at h;refine A2 hS Wh ?_;refine U1 hS trivial [(1,.l [3000]),(2,.n),(4,.l [3000]),(5,.n),(6,.a [6000]),(7,.a [7000]),(8,.a [6000]),(9,.a [7000])] ?_;refine O0 trivial ?_;obtain rfl:=B6 h;exact A6 hS trivial ⟨[(4,.clo DR [] [.reg 4000 0,.reg 3000 0,.reg 6000 0,.reg 7000 0])],[(7000,.cells [pN (p_l.Out.n:Int)]),(6000,.cells [pN (p_l.If.n:Int)]),(4000,.cells [.p (vSl 2 A0 p_w)]),(3000,.cells ((B3 p_l).map .p))]⟩ [4000,3000,6000,7000] (ids:=[(3000,3000),(4000,4000),(6000,6000),(7000,7000)]) ⟨rfl,rfl,rfl⟩
def Gm (N:Nat)(p_l:Law)(p_w:Sl Sound):Option ((Sl Int)×(Sl (Sl Sound))×Int):=
 (Gk N p_l p_w).bind fun y1=>
 if (y1 != 0) then
  some ((Sl.nil:Sl Int),(Sl.nil:Sl (Sl Sound)),y1)
 else
  (KA N p_l p_w).bind fun y2=>
  (Gl N y2.1 y2.2.1 y2.2.2.1 y2.2.2.2).bind fun L1=>
  Y9 L1 (fun self1 (x1:Int×(Sl Sound)) (z1:(Sl Int)×(Sl (Sl Sound)))=>
   if (decide (32<(x1.2.n:Int))) then
    some ((Sl.nil:Sl Int),(Sl.nil:Sl (Sl Sound)),11)
   else
    if ((z1.1.n+(Sl.of [x1.1]:Sl Int).n)*8<=140737488355328/\z1.1.n+(Sl.of [x1.1]:Sl Int).n<=140737488355328)then
     if ((z1.2.n+(Sl.of [x1.2]:Sl (Sl Sound)).n)*24<=140737488355328/\z1.2.n+(Sl.of [x1.2]:Sl (Sl Sound)).n<=140737488355328)then
      self1 (z1.1.push x1.1,z1.2.push x1.2)
     else none
    else none
   ) (fun (z1:(Sl Int)×(Sl (Sl Sound)))=>
    some (z1.1,z1.2,0)
   ) ((Sl.nil:Sl Int),(Sl.nil:Sl (Sl Sound)))
theorem RI {N:Nat}{p_l:Law}{p_w:Sl Sound}{y:(Sl Int)×(Sl (Sl Sound))×Int}(h:Gm N p_l p_w=some y) :FunO S Kh [.p (.agg (B3 p_l)),.p (vSl 2 A0 p_w)] [] (.tup [.vec 0,.vec 1,pN y.2.2]) ([.vec D2 1 y.1.n (fun i=>cI .i64 (y.1.g i)) true,.vec O1 1 y.2.1.n (fun i=>cL 2 A0 (y.2.1.g i)) true]) []:=by
 unfold Gm at h;refine A2 hS Rq ?_;refine H9 hS trivial 4 3000 (B3 p_l) ?_;obtain⟨y1,e1,h⟩:=B5 h;refine B4 hS [] (by decide:(18:Nat)<=18) (RG hS hL e1) ?_;refine kI hS h (fun h=>?_) (fun h=>?_)
 ·obtain rfl:=B6 h;exact A6 hS trivial ⟨[(6,.reg 7000 0),(5,.reg 6000 0),(4,.reg 5000 0)],[(7000,.cells [pN y1]),(6701,.vec O1 1 (Sl.nil:Sl (Sl Sound)).n (fun i=>cL 2 A0 ((Sl.nil:Sl (Sl Sound)).g i)) true),(6000,.cells [.vec 6701]),(5700,.vec D2 1 (Sl.nil:Sl Int).n (fun i=>cI .i64 ((Sl.nil:Sl Int).g i)) true),(5000,.cells [.vec 5700])]⟩ [5700,6701] (ids:=[(5000,5000),(6000,6000),(7000,7000)]) ⟨rfl,rfl,rfl⟩
 ·obtain⟨y2,e2,h⟩:=B5 h;refine B4 hS [] (by decide:(18:Nat)<=18) (Wn hS hL e2) ?_;obtain⟨L1,e3,h⟩:=B5 h;refine DM hS trivial [21000,21001,21002,21003] [9,8,6,5,4] 901 (fun z1=>⟨[(9,.reg 10000 0),(8,.reg 9000 0),(6,.reg 7000 0),(5,.reg 6000 0),(4,.reg 5000 0)],[(10500,.vec O1 1 z1.2.n (fun i=>cL 2 A0 (z1.2.g i)) false),(10000,.cells [.vec 10500]),(9500,.vec D2 1 z1.1.n (fun i=>cI .i64 (z1.1.g i)) false),(9000,.cells [.vec 9500]),(7000,.cells [pN 0]),(6000,.cells [.p H7]),(5000,.cells [.p H7])]⟩) (idl:=[(5000,5000),(6000,6000),(7000,7000),(9000,9000),(10000,10000)]) h (RH hS hL e3) (fun _=>by kernel_rfl) (fun _=>by kernel_rfl) (fun _=>by kernel_rfl) (fun _=>by kernel_rfl) (fun x1 _ self1 z1 hb1 h=>?_) (fun z1 h=>?_)
  ·refine GP hS trivial ?_;refine kI hS h (fun h=>?_) (fun h=>?_)
   ·refine Nt hS trivial ⟨[(9,.reg 10000 0),(8,.reg 9000 0),(6,.reg 7000 0),(5,.reg 6000 0),(4,.reg 5000 0)],[(10500,.vec O1 1 z1.2.n (fun i=>cL 2 A0 (z1.2.g i)) false),(10000,.cells [.vec 10500]),(9500,.vec D2 1 z1.1.n (fun i=>cI .i64 (z1.1.g i)) false),(9000,.cells [.vec 9500]),(7000,.cells [pN 11]),(6000,.cells [.p H7]),(5000,.cells [.p H7])]⟩ (ids:=[(901,901),(5000,5000),(6000,6000),(7000,7000),(9000,9000),(9500,9500),(10000,10000),(10500,10500)]) ?_;obtain rfl:=B6 h;exact A6 hS trivial ⟨[(6,.reg 7000 0),(5,.reg 6000 0),(4,.reg 5000 0)],[(7000,.cells [pN 11]),(6701,.vec O1 1 (Sl.nil:Sl (Sl Sound)).n (fun i=>cL 2 A0 ((Sl.nil:Sl (Sl Sound)).g i)) true),(6000,.cells [.vec 6701]),(5700,.vec D2 1 (Sl.nil:Sl Int).n (fun i=>cI .i64 ((Sl.nil:Sl Int).g i)) true),(5000,.cells [.vec 5700])]⟩ [5700,6701] (ids:=[(5000,5000),(6000,6000),(7000,7000)]) ⟨rfl,rfl,rfl⟩
   ·refine U1 hS trivial [(0,.l [9000]),(3,.a [30000,9500]),(4,.l [10000]),(7,.a [34000,10500]),(8,.a [9000]),(9,.a [10000])] ?_;refine CJ trivial (x:=.sl true 1 1 (E4 [pI .i64 0] [(0,cI .i64 x1.1)])) ?_;obtain⟨c9,h⟩:=E2 h;refine CJ c9 (x:=.sl true 1 1 (E4 [H7] [(0,cL 2 A0 x1.2)])) ?_;obtain⟨c10,h⟩:=E2 h;refine O0 c10 ?_;exact hb1 _ [(901,901),(5000,5000),(6000,6000),(7000,7000),(9000,9000),(9500,30000),(10000,10000),(10500,34000)] _ (z1.1.push x1.1,z1.2.push x1.2) trivial h (hle:=klR [(0,.fn (z1.2.n+1) (z1.2.push x1.2).n (AW z1.2.n (fun i=>cL 2 A0 (z1.2.g i)) (E4 [H7] [(0,cL 2 A0 x1.2)])) (fun i=>cL 2 A0 ((z1.2.push x1.2).g i))),(1,.fn (z1.1.n+1) (z1.1.push x1.1).n (AW z1.1.n (fun i=>cI .i64 (z1.1.g i)) (E4 [pI .i64 0] [(0,cI .i64 x1.1)])) (fun i=>cI .i64 ((z1.1.push x1.1).g i)))] (al1 ⟨rfl,Mo (c:=cL 2 A0) (v:=z1.2) (x:=x1.2) (z:=[H7]) same rfl rfl⟩ (al1 ⟨rfl,Mo (c:=cI .i64) (v:=z1.1) (x:=x1.1) (z:=[(pI .i64 0)]) same rfl rfl⟩ al0)))
  ·refine U1 hS trivial [(0,.l [9000]),(1,.l [10000]),(2,.a [5000]),(3,.a [6000]),(4,.a [7000])] ?_;refine O0 trivial ?_;obtain rfl:=B6 h;exact A6 hS trivial ⟨[(6,.reg 7000 0),(5,.reg 6000 0),(4,.reg 5000 0)],[(10500,.vec O1 1 z1.2.n (fun i=>cL 2 A0 (z1.2.g i)) true),(9500,.vec D2 1 z1.1.n (fun i=>cI .i64 (z1.1.g i)) true),(7000,.cells [pN 0]),(6000,.cells [.vec 10500]),(5000,.cells [.vec 9500])]⟩ [9500,10500] (ids:=[(5000,5000),(6000,6000),(7000,7000),(9500,9500),(10500,10500)]) ⟨rfl,rfl,rfl⟩
def Gn (N:Nat)(p_l:Law)(p_w:Sl Sound):Option ((Sl Sound)×Int):=
 (Gm N p_l p_w).bind fun y1=>
 if (y1.2.2 != 0) then
  some ((Sl.nil:Sl Sound),y1.2.2)
 else
  if (decide (0<(y1.2.1.n:Int))) then
   if (((0:Int)<=(wrap .i64 ((y1.2.1.n:Int)-1))/\(wrap .i64 ((y1.2.1.n:Int)-1))<(y1.2.1.n:Int))/\(wrap .i64 ((y1.2.1.n:Int)-1)).toNat<y1.2.1.n)then
    some (y1.2.1.g (wrap .i64 ((y1.2.1.n:Int)-1)).toNat,0)
   else none
  else
   (B1 N p_w).bind fun y2=>
   some (y2,0)
theorem RJ {N:Nat}{p_l:Law}{p_w:Sl Sound}{y:(Sl Sound)×Int}(h:Gn N p_l p_w=some y) :FunO S Kg [.p (.agg (B3 p_l)),.p (vSl 2 A0 p_w)] [] (.tup [.p (vSl 2 A0 y.1),pN y.2]) ([]) []:=by
 unfold Gn at h;refine A2 hS Rp ?_;refine kC hS h (RI hS hL) (fun y1 h=>?_);refine kI hS h (fun h=>?_) (fun h=>?_)
 ·obtain rfl:=B6 h;exact A6 hS trivial ⟨[(5,pN y1.2.2),(4,.p (vSl 2 A0 (Sl.nil:Sl Sound)))],[]⟩ [] (ids:=[]) ⟨rfl,rfl,rfl⟩
 ·refine kI hS h (fun h=>?_) (fun h=>?_)
  ·obtain⟨c3,h⟩:=E2 h;obtain rfl:=B6 h;exact VZ hS c3 [] ⟨rfl,rfl,rfl⟩
  ·refine kC hS h (J9 hS hL) (fun y2 h=>?_);obtain rfl:=B6 h;exact A6 hS trivial ⟨[(5,pN 0),(4,.p (vSl 2 A0 y2))],[]⟩ [] (ids:=[]) ⟨rfl,rfl,rfl⟩
end Go.AM
namespace Go.AM
open IntKind (wrap)
open Go.Proofs
set_option maxRecDepth 10000
set_option maxHeartbeats 2000000
variable {S:X1}(hS:F4 S Tryz.prog) (hL:MF S)
include hS hL
def Br (N:Nat)(p_l:Law):Option Bool:=
 (T0 N p_l).bind fun y1=>
 some (y1 != 0)
theorem IO {N:Nat}{p_l:Law}{y:Bool}(h:Br N p_l=some y) :FunO S El [.p (.agg (B3 p_l))] [] (pB y) ([]) []:=by unfold Br at h;refine A2 hS IL ?_;refine kC hS h (Gj hS hL) (fun y1 h=>?_);cases h;exact kR hS
def F2 (N:Nat)(p_s:Sl Law)(p_f:Law->Option Bool):Option Int:=
 Az N (fun self1 (x1:Int)=>
  if (decide (x1<(p_s.n:Int))) then
   if ((0:Int)<=x1/\x1<(p_s.n:Int))then
    (p_f (p_s.g x1.toNat)).bind fun y3=>
    if y3 then
     some x1
    else
     self1 (wrap .i64 (x1+1))
   else none
  else
   some (-1)
  ) 0
theorem W8 {N:Nat}{p_s:Sl Law}{p_f:Law->Option Bool}{kp_f:Nat}(hp_f:∀{a0:Law}{b:Bool},p_f a0=some b->FunO S kp_f [.p (.agg (B3 a0))] [] (pB b) [] []){y:Int}(h:F2 N p_s p_f=some y) :FunO S J8 [.p (vSl 18 B3 p_s),.clo kp_f [] []] [] (pN y) ([]) []:=by
 unfold F2 at h;refine A2 hS W4 ?_;refine N0 hS trivial h (fun x1=>⟨[(8,pN x1),(7,pN (p_s.n:Int)),(1,.clo kp_f [] []),(0,.p (vSl 18 B3 p_s))],[]⟩) (ids:=[]) (fun _ _ _ _ _ self1 x1 hb1 h=>?_);refine kI hS h (fun h=>?_) (fun h=>?_)
 ·obtain⟨c8,h⟩:=E2 h;obtain⟨y3,e3,h⟩:=B5 h;refine B4 hS [] (And.intro c8 (by decide:(18:Nat)<=18)) (hp_f e3) ?_;refine kI hS h (fun h=>?_) (fun h=>?_)
  ·cases h;exact kR hS
  ·exact hb1 _ [] _ (wrap .i64 (x1+1)) trivial h
 ·cases h;exact kR hS
def E1 (N:Nat)(p_s:Sl Law)(p_f:Law->Option Bool):Option Bool:=
 (F2 N p_s p_f).bind fun y1=>
 some (decide (0<=y1))
theorem R6 {N:Nat}{p_s:Sl Law}{p_f:Law->Option Bool}{kp_f:Nat}(hp_f:∀{a0:Law}{b:Bool},p_f a0=some b->FunO S kp_f [.p (.agg (B3 a0))] [] (pB b) [] []){y:Bool}(h:E1 N p_s p_f=some y) :FunO S H4 [.p (vSl 18 B3 p_s),.clo kp_f [] []] [] (pB y) ([]) []:=by unfold E1 at h;refine A2 hS R4 ?_;refine kC hS h (W8 hS hL (fun e=>hp_f e)) (fun y1 h=>?_);cases h;exact kR hS
def CT (N:Nat)(p_laws:Sl Law):Option Int:=
 if (decide (64<(p_laws.n:Int))) then
  some 12
 else
  (E1 N p_laws (fun (u1:Law)=>Br N u1)).bind fun y1=>
  if y1 then
   some 17
  else
   some 0
theorem LE {N:Nat}{p_laws:Sl Law}{y:Int}(h:CT N p_laws=some y) :FunO S FN [.p (vSl 18 B3 p_laws)] [] (pN y) ([]) []:=by
 unfold CT at h;refine A2 hS Ln ?_;refine kI hS h (fun h=>?_) (fun h=>?_)
 ·cases h;exact kR hS
 ·refine kC hS h (R6 hS hL (fun e=>IO hS hL e)) (fun y1 h=>?_);refine kI hS h (fun h=>?_) (fun h=>?_)
  ·cases h;exact kR hS
  ·cases h;exact kR hS
def CU (N:Nat)(p_laws:Sl Law)(p_words:Sl (Sl Sound)):Option Int:=
 (CT N p_laws).bind fun y1=>
 if (y1 != 0) then
  some y1
 else
  if (decide (256<(p_words.n:Int))) then
   some 12
  else
   Az N (fun self1 (x1:Int)=>
    if (decide (x1<(p_words.n:Int))) then
     if ((0:Int)<=x1/\x1<(p_words.n:Int))then
      (Bc N (p_words.g x1.toNat)).bind fun y4=>
      if (y4 != 0) then
       some y4
      else
       self1 (wrap .i64 (x1+1))
     else none
    else
     some 0
    ) 0
theorem LF {N:Nat}{p_laws:Sl Law}{p_words:Sl (Sl Sound)}{y:Int}(h:CU N p_laws p_words=some y) :FunO S FM [.p (vSl 18 B3 p_laws),.p (vSl 1 (cL 2 A0) p_words)] [] (pN y) ([]) []:=by
 unfold CU at h;refine A2 hS Lm ?_;refine kC hS h (LE hS hL) (fun y1 h=>?_);refine kI hS h (fun h=>?_) (fun h=>?_)
 ·cases h;exact kR hS
 ·refine kI hS h (fun h=>?_) (fun h=>?_)
  ·cases h;exact kR hS
  ·refine N0 hS trivial h (fun x1=>⟨[(19,pN x1),(18,pN (p_words.n:Int)),(17,.p (vSl 1 (cL 2 A0) p_words))],[]⟩) (ids:=[]) (fun _ _ _ _ _ self1 x1 hb1 h=>?_);refine kI hS h (fun h=>?_) (fun h=>?_)
   ·obtain⟨c10,h⟩:=E2 h;obtain⟨y4,e4,h⟩:=B5 h;refine B4 hS [] c10 (EY hS hL e4) ?_;refine kI hS h (fun h=>?_) (fun h=>?_)
    ·cases h;exact kR hS
    ·exact hb1 _ [] _ (wrap .i64 (x1+1)) trivial h
   ·cases h;exact kR hS
end Go.AM
