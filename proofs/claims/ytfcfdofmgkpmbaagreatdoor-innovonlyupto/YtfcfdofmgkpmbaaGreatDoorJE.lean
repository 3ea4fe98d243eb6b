/- What a law's walk and its plain proof need, part 5: no condition of its own. -/
import Derived.Test.YtfcfdofmgkpmbaaGreatDoorJD
import Derived.Test.YtfcfdofmgkpmbaaGreatDoorJC
import Derived.RecoverIn
import Derived.Test.YtfcfdofmgkpmbaaGreatDoorProg
import Derived.Lib.SlTrimSet
import Derived.TacticsInMore
set_option linter.defProp false
set_option linter.unusedSimpArgs false
set_option linter.unusedVariables false
set_option linter.unusedSectionVars false
namespace Go.AM
noncomputable abbrev Af9:=Go.Proofs.Tryz.prog.funcs
def VG (D:List Deferred)(a:Act):Act:={ a with defers:=a.defers++D }
theorem DO (D:List Deferred)(a:Act)(d:Option Tmp)(v:Value):(VG D a).put d v=VG D (a.put d v):=by cases d<;>rfl
theorem Hl {F:Fence}{n:Nat}{P:Program}{ops:Array Oper}{Q:Exit->Act->World->Prop}(D:List Deferred):∀(l:List Nat) (a:Act) (w:World),wpOpsIn F n P ops Q l a w ->
 wpOpsIn F n P ops (fun e a' w'=>∃a0,a' = VG D a0/\Q e a0 w') l (VG D a) w
 |[],a,w,h=>⟨a,rfl,h⟩
 |i::l,a,w,h=>by
  have ih:=Hl (F:=F) (n:=n) (P:=P) (ops:=ops) (Q:=Q) D l;simp only[wpOpsIn]at h⊢;have e1:(VG D a).eval=a.eval:=by funext x;cases x<;>rfl
  have e2:(VG D a).tmps=a.tmps:=rfl;cases ho:ops[i]? with
  |none=>simp only[ho]at h⊢;exact ih a w h
  |some o=>
   simp only[ho]at h⊢;rw[e2,e1];by_cases hw:Region.wanted o (yielded ops a.tmps)=true
   ·rw[if_pos hw]at h⊢;refine⟨by rw[e1];exact h.1,?_⟩;have h2:=h.2;rw[e1];generalize (o.semAt F.round a.eval).run P w=r at h2;unfold Oper.uponIn at h2⊢;split at h2
    ·rw[DO];exact ih _ _ h2
    ·rw[DO];exact ih _ _ h2
    ·exact ih _ _ h2 |> fun x=>by
      rename_i d w'
      have:({ (VG D a)with defers:=d::(VG D a).defers }:Act).put o.dst undef=VG D (({ a with defers:=d::a.defers }:Act).put o.dst undef):=by rw[<- DO];rfl
      rw[this];exact x
    ·refine⟨h2.1,h2.2.mono ?_⟩;intro e w' he;cases e with
     |returned v=>have:=ih _ _ he;rw[<- DO]at this;exact this
     |panicked ch=>exact⟨a,rfl,he⟩
     |outgrown=>obtain⟨a1,w1,h3⟩:=he;exact⟨VG D a1,w1,a1,rfl,h3⟩
    ·refine⟨h2.1,fun c cs hr=>?_⟩;obtain⟨v,w',g1,g2⟩:=h2.2 c cs hr;exact⟨v,w',by have:=ih _ _ g1;rw[<- DO]at this;exact this,g2⟩
    ·refine⟨h2.1,h2.2.mono ?_⟩;intro e w' he;cases e with
     |returned v=>have:=ih _ _ he;rw[<- DO]at this;exact this
     |panicked ch=>exact⟨a,rfl,he⟩
     |outgrown=>obtain⟨a1,w1,h3⟩:=he;exact⟨VG D a1,w1,a1,rfl,h3⟩
    ·exact⟨a,rfl,h2⟩
    ·exact h2.elim
   ·rw[if_neg hw]at h⊢;rw[DO];exact⟨h.1,ih _ _ h.2⟩
section
variable {P:Program}{C:Ctx}{st:St}{rho:Nat->Value}
theorem DP {fn:Func}{R:Ending->World->Prop}{u:FrameMode}(hu:u ≠ .run){tmps:Array Value}{D:List Deferred}(hfin:∀a w,Sat C st a w rho->a.tmps=tmps->LeavesInM Fence.wide 0 P fn tmps R D u w) :∀(ds:List Deferred) (a:Act) (w:World),a.defers=ds->a.tmps=tmps->Sat C st a w rho->LeavesInM Fence.wide 0 P fn tmps R (ds++D) u w
 |[],a,w,hd,ht,h=>hfin a w h ht
 |d::ds,a,w,hd,ht,h=>by obtain⟨r,w',h1,h2,h3⟩:=h.unmark hd;exact⟨hu,.inl ⟨r,w',h1,h2,DP hu hfin ds { a with defers:=ds } w' rfl ht h3⟩⟩
end
end Go.AM
namespace Go.AM
structure A1 where
 Langs:Int
 Has:(Sl Int)
 deriving Inhabited
abbrev A8 (x:A1):List PV:=[(pI .i64 x.Langs),vSl 1 (cI .u64) x.Has]
structure C8 where
 Langs:Int
 Has:(Sl Int)
 deriving Inhabited
abbrev R4 (x:C8):List PV:=[(pI .i64 x.Langs),vSl 1 (cI .u64) x.Has]
structure B6 where
 a0:Int
 a1:Int
 deriving Inhabited,DecidableEq
abbrev G7 (x:B6):List PV:=[(pI .i64 x.a0),pI .i64 x.a1]
structure T4 where
 Parent:Int
 Name:Str
 deriving Inhabited,DecidableEq
abbrev P7 (x:T4):List PV:=[(pI .i64 x.Parent),.str x.Name]
structure A2 where
 Plus:Int
 Minus:Int
 deriving Inhabited,DecidableEq
abbrev A0 (x:A2):List PV:=[(pI .u32 x.Plus),pI .u32 x.Minus]
inductive Pat where
 |nil
 |mk (Kind:Int) (Is:A2) (Not:Bool) (Min:Int) (Max:Int) (n:Nat) (g:Nat->Pat)
instance:Inhabited Pat:=⟨.nil⟩
def Pat.Kind:Pat->Int
 |.nil=>0
 |.mk x _ _ _ _ _ _=>x
def Pat.Is:Pat->A2
 |.nil=>default
 |.mk _ x _ _ _ _ _=>x
def Pat.Not:Pat->Bool
 |.nil=>false
 |.mk _ _ x _ _ _ _=>x
def Pat.Min:Pat->Int
 |.nil=>0
 |.mk _ _ _ x _ _ _=>x
def Pat.Max:Pat->Int
 |.nil=>0
 |.mk _ _ _ _ x _ _=>x
def Pat.L:Pat->Sl Pat
 |.nil=>⟨0,fun _=>.nil⟩
 |.mk _ _ _ _ _ n g=>⟨n,g⟩
def EX:Pat->Nat->List PV
 |.nil=>fun _=>[]
 |.mk _ _ _ _ _ n g=>fun i=>[(pI .i64 (g i).Kind),pI .u32 (g i).Is.Plus,pI .u32 (g i).Is.Minus,.bb (g i).Not,pI .i64 (g i).Min,pI .i64 (g i).Max,.sl false 7 (g i).L.n (EX (g i))]
abbrev D7 (x:Pat):List PV:=[(pI .i64 x.Kind),pI .u32 x.Is.Plus,pI .u32 x.Is.Minus,.bb x.Not,pI .i64 x.Min,pI .i64 x.Max,.sl false 7 x.L.n (EX x)]
theorem DQ (x:Pat):∀i,i<x.L.n->EX x i=D7 (x.L.g i):=by
 cases x with
 |nil=>intro i hi;exact absurd (show i<0 from hi) (by omega)
 |mk Kind Is Not Min Max n g=>exact fun _ _=>rfl
structure Bj where
 From:Int
 Clear:Int
 Set:A2
 Take:Int
 Of:Int
 deriving Inhabited,DecidableEq
abbrev R5 (x:Bj):List PV:=[(pI .i64 x.From),pI .u32 x.Clear,pI .u32 x.Set.Plus,pI .u32 x.Set.Minus,pI .u32 x.Take,pI .i64 x.Of]
structure Law where
 Name:Str
 Left:Pat
 Right:Pat
 If:(Sl A2)
 Out:(Sl Bj)
 Mode:Int
 deriving Inhabited
abbrev C0 (x:Law):List PV:=[(.str x.Name),pI .i64 x.Left.Kind,pI .u32 x.Left.Is.Plus,pI .u32 x.Left.Is.Minus,.bb x.Left.Not,pI .i64 x.Left.Min,pI .i64 x.Left.Max,.sl false 7 x.Left.L.n (EX x.Left),pI .i64 x.Right.Kind,pI .u32 x.Right.Is.Plus,pI .u32 x.Right.Is.Minus,.bb x.Right.Not,pI .i64 x.Right.Min,pI .i64 x.Right.Max,.sl false 7 x.Right.L.n (EX x.Right),vSl 2 A0 x.If,vSl 6 R5 x.Out,pI .i64 x.Mode]
structure H8 where
 Tree:(Sl T4)
 Laws:(Sl Law)
 On:(Sl (Sl Int))
 deriving Inhabited
abbrev E1 (x:H8):List PV:=[(vSl 2 P7 x.Tree),vSl 18 C0 x.Laws,vSl 1 (cL 1 (cI .i64)) x.On]
inductive Part where
 |nil
 |sound (x:A2) (no:Bool)
 |edge (e:Bool)
 |seq (n:Nat) (g:Nat->Part)
 |alt (n:Nat) (g:Nat->Part)
 |rep (o:Part) (mn mx:Int)
instance:Inhabited Part:=⟨.nil⟩
def Part.t:Part->Nat
 |.nil=>0
 |.sound _ _=>276
 |.edge _=>278
 |.seq _ _=>283
 |.alt _ _=>280
 |.rep _ _ _=>282
def Part.v:Part->PV
 |.nil=>.bb false
 |.sound x no=>.agg [pI .u32 x.Plus,pI .u32 x.Minus,.bb no]
 |.edge e=>.agg [.bb e]
 |.seq n g=>.agg [.sl false 1 n fun i=>[.iface (g i).t (g i).v]]
 |.alt n g=>.agg [.sl false 1 n fun i=>[.iface (g i).t (g i).v]]
 |.rep o mn mx=>.agg [.iface o.t o.v,pI .i64 mn,pI .i64 mx]
abbrev EY (x:Part):PV:=.iface x.t x.v
abbrev Ds (x:Part):List PV:=[EY x]
structure VH where
 is:A2
 not:Bool
 deriving Inhabited,DecidableEq
abbrev SO (x:VH):List PV:=[(pI .u32 x.is.Plus),pI .u32 x.is.Minus,.bb x.not]
structure Zm where
 end_:Bool
 deriving Inhabited,DecidableEq
abbrev Zn (x:Zm):List PV:=[(.bb x.end_)]
structure Palt where
 l:(Sl Part)
 deriving Inhabited
abbrev Ad5 (x:Palt):List PV:=[(vSl 1 Ds x.l)]
structure Prep where
 of:Part
 min:Int
 max:Int
 deriving Inhabited
abbrev Ad6 (x:Prep):List PV:=[(EY x.of),pI .i64 x.min,pI .i64 x.max]
structure Pseq where
 l:(Sl Part)
 deriving Inhabited
abbrev Ad7 (x:Pseq):List PV:=[(vSl 1 Ds x.l)]
end Go.AM
namespace Go.AM
open Go.Proofs
abbrev Az:Nat:=3
theorem De:Af9[Az]? = some Tryz.f3:=Tryz.func3
abbrev BO:Nat:=4
theorem EI:Af9[BO]? = some Tryz.f4:=Tryz.func4
abbrev Bg:Nat:=9
theorem Eo:Af9[Bg]? = some Tryz.f9:=Tryz.func9
abbrev Ag:Nat:=10
theorem Cp:Af9[Ag]? = some Tryz.f10:=Tryz.func10
abbrev PT:Nat:=14
theorem VJ:Af9[PT]? = some Tryz.f14:=Tryz.func14
abbrev Kx:Nat:=15
theorem Rr:Af9[Kx]? = some Tryz.f15:=Tryz.func15
abbrev Ky:Nat:=16
theorem Rs:Af9[Ky]? = some Tryz.f16:=Tryz.func16
abbrev FT:Nat:=17
theorem LK:Af9[FT]? = some Tryz.f17:=Tryz.func17
abbrev IQ:Nat:=18
theorem PU:Af9[IQ]? = some Tryz.f18:=Tryz.func18
abbrev Dt:Nat:=19
theorem Ij:Af9[Dt]? = some Tryz.f19:=Tryz.func19
abbrev EZ:Nat:=20
theorem Kz:Af9[EZ]? = some Tryz.f20:=Tryz.func20
abbrev Hm:Nat:=21
theorem NS:Af9[Hm]? = some Tryz.f21:=Tryz.func21
abbrev KA:Nat:=22
theorem Rt:Af9[KA]? = some Tryz.f22:=Tryz.func22
abbrev Y0:Nat:=23
theorem CM:Af9[Y0]? = some Tryz.f23:=Tryz.func23
abbrev R6:Nat:=24
theorem Bk:Af9[R6]? = some Tryz.f24:=Tryz.func24
abbrev MT:Nat:=25
theorem TV:Af9[MT]? = some Tryz.f25:=Tryz.func25
abbrev IR:Nat:=26
theorem PW:Af9[IR]? = some Tryz.f26:=Tryz.func26
abbrev MU:Nat:=27
theorem TW:Af9[MU]? = some Tryz.f27:=Tryz.func27
abbrev IS:Nat:=29
theorem PX:Af9[IS]? = some Tryz.f29:=Tryz.func29
abbrev Hn:Nat:=31
theorem NT:Af9[Hn]? = some Tryz.f31:=Tryz.func31
abbrev FU:Nat:=33
theorem LL:Af9[FU]? = some Tryz.f33:=Tryz.func33
abbrev KB:Nat:=35
theorem Ru:Af9[KB]? = some Tryz.f35:=Tryz.func35
abbrev Cv:Nat:=37
theorem Ho:Af9[Cv]? = some Tryz.f37:=Tryz.func37
abbrev Hq:Nat:=40
theorem NU:Af9[Hq]? = some Tryz.f40:=Tryz.func40
abbrev O2:Nat:=42
theorem BY:Af9[O2]? = some Tryz.f42:=Tryz.func42
abbrev MV:Nat:=44
theorem TX:Af9[MV]? = some Tryz.f44:=Tryz.func44
abbrev Q4:Nat:=45
theorem AC:Af9[Q4]? = some Tryz.f45:=Tryz.func45
abbrev Ao:Nat:=46
theorem DR:Af9[Ao]? = some Tryz.f46:=Tryz.func46
abbrev Hr:Nat:=49
theorem NV:Af9[Hr]? = some Tryz.f49:=Tryz.func49
abbrev KC:Nat:=54
theorem Rv:Af9[KC]? = some Tryz.f54:=Tryz.func54
abbrev Q5:Nat:=55
theorem AD:Af9[Q5]? = some Tryz.f55:=Tryz.func55
abbrev W8:Nat:=56
theorem Bw:Af9[W8]? = some Tryz.f56:=Tryz.func56
abbrev Z3:Nat:=57
theorem BZ:Af9[Z3]? = some Tryz.f57:=Tryz.func57
abbrev Et:Nat:=58
theorem Jl:Af9[Et]? = some Tryz.f58:=Tryz.func58
abbrev Du:Nat:=59
theorem Ik:Af9[Du]? = some Tryz.f59:=Tryz.func59
abbrev MW:Nat:=60
theorem TY:Af9[MW]? = some Tryz.f60:=Tryz.func60
abbrev Ca:Nat:=61
theorem GA:Af9[Ca]? = some Tryz.f61:=Tryz.func61
abbrev KD:Nat:=62
theorem Rw:Af9[KD]? = some Tryz.f62:=Tryz.func62
abbrev PY:Nat:=63
theorem VK:Af9[PY]? = some Tryz.f63:=Tryz.func63
abbrev K7:Nat:=64
theorem U8:Af9[K7]? = some Tryz.f64:=Tryz.func64
abbrev Fa:Nat:=65
theorem KE:Af9[Fa]? = some Tryz.f65:=Tryz.func65
abbrev SP:Nat:=66
theorem Xw:Af9[SP]? = some Tryz.f66:=Tryz.func66
abbrev Fb:Nat:=70
theorem KF:Af9[Fb]? = some Tryz.f70:=Tryz.func70
abbrev FV:Nat:=71
theorem LM:Af9[FV]? = some Tryz.f71:=Tryz.func71
abbrev FX:Nat:=72
theorem LN:Af9[FX]? = some Tryz.f72:=Tryz.func72
abbrev IT:Nat:=75
theorem PZ:Af9[IT]? = some Tryz.f75:=Tryz.func75
abbrev FY:Nat:=76
theorem LO:Af9[FY]? = some Tryz.f76:=Tryz.func76
abbrev Fc:Nat:=77
abbrev Fd:Nat:=78
theorem KH:Af9[Fd]? = some Tryz.f78:=Tryz.func78
abbrev KI:Nat:=81
theorem Rx:Af9[KI]? = some Tryz.f81:=Tryz.func81
abbrev Z4:Nat:=82
theorem Cb:Af9[Z4]? = some Tryz.f82:=Tryz.func82
abbrev Bl:Nat:=83
theorem Jm:Af9[Bl]? = some Tryz.f83:=Tryz.func83
abbrev DS:Nat:=85
theorem NW:Af9[DS]? = some Tryz.f85:=Tryz.func85
abbrev KJ:Nat:=87
theorem Ry:Af9[KJ]? = some Tryz.f87:=Tryz.func87
abbrev IU:Nat:=89
theorem Qa:Af9[IU]? = some Tryz.f89:=Tryz.func89
abbrev Hs:Nat:=90
theorem NX:Af9[Hs]? = some Tryz.f90:=Tryz.func90
abbrev FZ:Nat:=92
theorem LP:Af9[FZ]? = some Tryz.f92:=Tryz.func92
abbrev Ht:Nat:=93
theorem NY:Af9[Ht]? = some Tryz.f93:=Tryz.func93
abbrev Ga:Nat:=94
theorem LQ:Af9[Ga]? = some Tryz.f94:=Tryz.func94
abbrev L0:Nat:=97
theorem R7:Af9[L0]? = some Tryz.f97:=Tryz.func97
abbrev F2:Nat:=98
theorem T5:Af9[F2]? = some Tryz.f98:=Tryz.func98
abbrev O3:Nat:=99
theorem Z5:Af9[O3]? = some Tryz.f99:=Tryz.func99
abbrev Fe:Nat:=105
theorem KK:Af9[Fe]? = some Tryz.f105:=Tryz.func105
abbrev IV:Nat:=108
theorem Qb:Af9[IV]? = some Tryz.f108:=Tryz.func108
abbrev Gb:Nat:=111
theorem LR:Af9[Gb]? = some Tryz.f111:=Tryz.func111
abbrev Eu:Nat:=112
theorem Jn:Af9[Eu]? = some Tryz.f112:=Tryz.func112
abbrev P8:Nat:=115
theorem Ax:Af9[P8]? = some Tryz.f115:=Tryz.func115
abbrev AX:Nat:=116
theorem Ff:Af9[AX]? = some Tryz.f116:=Tryz.func116
abbrev Hu:Nat:=117
theorem NZ:Af9[Hu]? = some Tryz.f117:=Tryz.func117
abbrev MX:Nat:=118
theorem TZ:Af9[MX]? = some Tryz.f118:=Tryz.func118
abbrev Hv:Nat:=119
theorem Oa:Af9[Hv]? = some Tryz.f119:=Tryz.func119
abbrev Hw:Nat:=120
theorem Ob:Af9[Hw]? = some Tryz.f120:=Tryz.func120
abbrev KL:Nat:=121
theorem Rz:Af9[KL]? = some Tryz.f121:=Tryz.func121
abbrev IW:Nat:=122
theorem Qc:Af9[IW]? = some Tryz.f122:=Tryz.func122
abbrev H9:Nat:=123
theorem Q7:Af9[H9]? = some Tryz.f123:=Tryz.func123
abbrev J4:Nat:=124
theorem S8:Af9[J4]? = some Tryz.f124:=Tryz.func124
abbrev IX:Nat:=125
theorem Qd:Af9[IX]? = some Tryz.f125:=Tryz.func125
abbrev Fg:Nat:=126
theorem KM:Af9[Fg]? = some Tryz.f126:=Tryz.func126
abbrev Ap:Nat:=127
theorem KN:Af9[Ap]? = some Tryz.f127:=Tryz.func127
abbrev Ev:Nat:=128
theorem Jo:Af9[Ev]? = some Tryz.f128:=Tryz.func128
abbrev Gc:Nat:=139
theorem LS:Af9[Gc]? = some Tryz.f139:=Tryz.func139
abbrev I1:Nat:=140
theorem Cw:Af9[I1]? = some Tryz.f140:=Tryz.func140
abbrev Q6:Nat:=141
theorem Fh:Af9[Q6]? = some Tryz.f141:=Tryz.func141
abbrev H3:Nat:=142
theorem Ew:Af9[H3]? = some Tryz.f142:=Tryz.func142
abbrev R8:Nat:=146
theorem Bm:Af9[R8]? = some Tryz.f146:=Tryz.func146
abbrev CN:Nat:=147
theorem LT:Af9[CN]? = some Tryz.f147:=Tryz.func147
abbrev Gd:Nat:=148
theorem LU:Af9[Gd]? = some Tryz.f148:=Tryz.func148
abbrev N7:Nat:=149
theorem Y1:Af9[N7]? = some Tryz.f149:=Tryz.func149
abbrev I9:Nat:=150
theorem S4:Af9[I9]? = some Tryz.f150:=Tryz.func150
abbrev N1:Nat:=151
theorem W9:Af9[N1]? = some Tryz.f151:=Tryz.func151
abbrev Hx:Nat:=152
theorem Oc:Af9[Hx]? = some Tryz.f152:=Tryz.func152
abbrev U9:Nat:=153
theorem Il:Af9[U9]? = some Tryz.f153:=Tryz.func153
abbrev G1:Nat:=154
theorem N2:Af9[G1]? = some Tryz.f154:=Tryz.func154
abbrev O9:Nat:=155
theorem Aq:Af9[O9]? = some Tryz.f155:=Tryz.func155
abbrev J5:Nat:=159
theorem S9:Af9[J5]? = some Tryz.f159:=Tryz.func159
abbrev Ex:Nat:=160
theorem Jp:Af9[Ex]? = some Tryz.f160:=Tryz.func160
abbrev Ge:Nat:=161
theorem LW:Af9[Ge]? = some Tryz.f161:=Tryz.func161
abbrev IY:Nat:=171
theorem Qe:Af9[IY]? = some Tryz.f171:=Tryz.func171
abbrev D5:Nat:=172
theorem V2:Af9[D5]? = some Tryz.f172:=Tryz.func172
abbrev N3:Nat:=174
theorem X0:Af9[N3]? = some Tryz.f174:=Tryz.func174
abbrev O8:Nat:=175
theorem Jq:Af9[O8]? = some Tryz.f175:=Tryz.func175
abbrev KO:Nat:=176
theorem RA:Af9[KO]? = some Tryz.f176:=Tryz.func176
abbrev KP:Nat:=182
theorem RB:Af9[KP]? = some Tryz.f182:=Tryz.func182
abbrev KQ:Nat:=189
theorem RC:Af9[KQ]? = some Tryz.f189:=Tryz.func189
abbrev Qf:Nat:=190
theorem VL:Af9[Qf]? = some Tryz.f190:=Tryz.func190
abbrev DT:Nat:=196
theorem RD:Af9[DT]? = some Tryz.f196:=Tryz.func196
abbrev MY:Nat:=197
theorem Ua:Af9[MY]? = some Tryz.f197:=Tryz.func197
abbrev K8:Nat:=198
theorem V4:Af9[K8]? = some Tryz.f198:=Tryz.func198
abbrev Qg:Nat:=199
theorem VM:Af9[Qg]? = some Tryz.f199:=Tryz.func199
abbrev Qh:Nat:=200
theorem VN:Af9[Qh]? = some Tryz.f200:=Tryz.func200
abbrev Hy:Nat:=201
theorem Od:Af9[Hy]? = some Tryz.f201:=Tryz.func201
abbrev Cx:Nat:=207
theorem Qi:Af9[Cx]? = some Tryz.f207:=Tryz.func207
abbrev IZ:Nat:=208
theorem Qj:Af9[IZ]? = some Tryz.f208:=Tryz.func208
abbrev Dv:Nat:=209
theorem Im:Af9[Dv]? = some Tryz.f209:=Tryz.func209
abbrev H1:Nat:=210
theorem Y2:Af9[H1]? = some Tryz.f210:=Tryz.func210
abbrev Gf:Nat:=211
theorem LX:Af9[Gf]? = some Tryz.f211:=Tryz.func211
abbrev Ja:Nat:=212
theorem Qk:Af9[Ja]? = some Tryz.f212:=Tryz.func212
abbrev S2:Nat:=217
theorem LY:Af9[S2]? = some Tryz.f217:=Tryz.func217
abbrev Hz:Nat:=218
theorem Oe:Af9[Hz]? = some Tryz.f218:=Tryz.func218
abbrev KR:Nat:=219
theorem RE:Af9[KR]? = some Tryz.f219:=Tryz.func219
abbrev KS:Nat:=220
theorem RF:Af9[KS]? = some Tryz.f220:=Tryz.func220
abbrev KT:Nat:=221
theorem RG:Af9[KT]? = some Tryz.f221:=Tryz.func221
abbrev HA:Nat:=227
theorem Og:Af9[HA]? = some Tryz.f227:=Tryz.func227
abbrev HD:Nat:=228
theorem Oh:Af9[HD]? = some Tryz.f228:=Tryz.func228
abbrev Gg:Nat:=229
theorem LZ:Af9[Gg]? = some Tryz.f229:=Tryz.func229
abbrev Fi:Nat:=234
theorem KU:Af9[Fi]? = some Tryz.f234:=Tryz.func234
abbrev AQ:Nat:=235
theorem Ma:Af9[AQ]? = some Tryz.f235:=Tryz.func235
abbrev Y8:Nat:=236
theorem Ey:Af9[Y8]? = some Tryz.f236:=Tryz.func236
abbrev AY:Nat:=259
theorem Fj:Af9[AY]? = some Tryz.f259:=Tryz.func259
abbrev Cc:Nat:=260
theorem KV:Af9[Cc]? = some Tryz.f260:=Tryz.func260
abbrev CO:Nat:=261
theorem Mb:Af9[CO]? = some Tryz.f261:=Tryz.func261
abbrev DU:Nat:=262
theorem Oi:Af9[DU]? = some Tryz.f262:=Tryz.func262
abbrev Cy:Nat:=263
theorem HE:Af9[Cy]? = some Tryz.f263:=Tryz.func263
abbrev DV:Nat:=264
theorem Oj:Af9[DV]? = some Tryz.f264:=Tryz.func264
abbrev Fk:Nat:=265
theorem KW:Af9[Fk]? = some Tryz.f265:=Tryz.func265
abbrev X1:Nat:=266
theorem Bx:Af9[X1]? = some Tryz.f266:=Tryz.func266
abbrev DW:Nat:=267
theorem Ok:Af9[DW]? = some Tryz.f267:=Tryz.func267
abbrev E7:Nat:=3
abbrev Yj:Nat:=4
abbrev AR:Nat:=9
abbrev Ol:Nat:=24
abbrev Om:Nat:=29
abbrev Io:Nat:=42
abbrev O7:Nat:=44
abbrev Cz:Nat:=51
abbrev P4:Nat:=76
abbrev D8:Nat:=87
abbrev MZ:Nat:=95
abbrev Fl:Nat:=121
abbrev Ql:Nat:=124
abbrev RH:Nat:=269
end Go.AM
namespace Go.AM
open IntKind (wrap)
abbrev U (x:BitVec 64):Int:=(x.toNat:Int)
theorem Y3 {n:Nat}(h:n<2 ^ 64):IntKind.u64.wrap (n:Int)=n:=by have h1:((n:Int) % (2 ^ 64:Int))=n:=Int.emod_eq_of_lt (by omega) (by omega);unfold wrap;simp only[IntKind.bits,IntKind.signed,h1,Bool.false_and,Bool.false_eq_true,if_false]
theorem RI (x:BitVec 64):BitVec.ofInt 64 (U x)=x:=by
 apply BitVec.eq_of_toNat_eq;rw[BitVec.toNat_ofInt]
 have:=x.isLt
 show ((x.toNat:Int) % ((2 ^ 64:Nat):Int)).toNat=x.toNat;omega
theorem Mc (x y:BitVec 64):A9 .and .u64 (U x) (U y)=U (x &&& y):=by simp only[A9,IntKind.bits,RI];exact Y3 (x &&& y).isLt
theorem ZH (x y:BitVec 64):A9 .or .u64 (U x) (U y)=U (x ||| y):=by simp only[A9,IntKind.bits,RI];exact Y3 (x ||| y).isLt
theorem DX (x y:BitVec 64):A9 .andNot .u64 (U x) (U y)=U (x &&& ~~~ y):=by simp only[A9,IntKind.bits,RI];exact Y3 (x &&& ~~~ y).isLt
theorem Zo (x:BitVec 64)(n:Nat):shI .shr .u64 (U x) n=U (x >>> n):=by
 simp only[shI,IntKind.bits,Int.toNat_natCast];have hx:=x.isLt;show Int.fdiv (x.toNat:Int) (2 ^ min n 64)=((x >>> n).toNat:Int);rw[BitVec.toNat_ushiftRight,Nat.shiftRight_eq_div_pow];have e:((2:Int) ^ (min n 64))=((2 ^ (min n 64):Nat):Int):=by norm_cast
 rw[e,Int.fdiv_eq_ediv_of_nonneg _ (Int.natCast_nonneg _),<- Int.natCast_ediv];congr 1;by_cases h:n<=64
 ·rw[Nat.min_eq_left h]
 ·rw[Nat.min_eq_right (by omega),Nat.div_eq_of_lt hx,Nat.div_eq_of_lt];exact Nat.lt_of_lt_of_le hx (Nat.pow_le_pow_right (by omega) (by omega))
theorem Ad8:(1:Int)=U 1#64:=rfl
theorem Ub (n:Nat)(h:n<64):shI .shl .u64 1 n=U (1#64 <<< n):=by
 simp only[shI,IntKind.bits,Int.toNat_natCast];rw[Nat.min_eq_left (by omega)];show wrap .u64 (1*2 ^ n)=((1#64 <<< n).toNat:Int);rw[BitVec.toNat_shiftLeft,Nat.shiftLeft_eq];have h1:(2:Nat) ^ n<2 ^ 64:=Nat.pow_lt_pow_right (by omega) h;have e:((1:Int)*2 ^ n)=((2 ^ n:Nat):Int):=by norm_cast;omega
 rw[e,Y3 h1]
 norm_cast
 rw[Nat.mod_eq_of_lt]
 ·simp
 ·simpa using h1
theorem RJ {i:Nat}:(1#64).getLsbD i=decide (i=0):=by rw[BitVec.getLsbD_one];simp
theorem VO {n i:Nat}(h:n<64)(hi:i<64):(1#64 <<< n).getLsbD i=decide (i=n):=by rw[BitVec.getLsbD_shiftLeft,RJ,Bool.eq_iff_iff];simp only[Bool.and_eq_true,Bool.not_eq_true',decide_eq_true_eq,decide_eq_false_iff_not];omega
theorem Zp (x:BitVec 64)(i:Nat):(A9 .and .u64 (shI .shr .u64 (U x) (i:Int)) 1==1)=x.getLsbD i:=by
 rw[Zo,Ad8,Mc];have h:(x >>> i &&& 1#64)=(BitVec.ofBool (x.getLsbD i)).setWidth 64:=by
  apply BitVec.eq_of_getLsbD_eq;intro j hj;simp only[BitVec.getLsbD_and,BitVec.getLsbD_ushiftRight,BitVec.getLsbD_setWidth,BitVec.getLsbD_ofBool];by_cases h0:j=0
  ·subst h0;simp
  ·have:(1#64).getLsbD j=false:=by rw[RJ];simp[h0]
   simp[this,h0]
 rw[h];cases x.getLsbD i<;>rfl
theorem DY {x y:BitVec 64}(h:∀b,b<64->(x.getLsbD b=true↔y.getLsbD b=true)):x=y:=
 BitVec.eq_of_getLsbD_eq fun b hb=>Bool.eq_iff_iff.2 (h b hb)
end Go.AM
namespace Go.AM
open Go.Proofs
abbrev Xx:List AV:=[.reg 0 0,.reg 1 0,.reg 2 0,.reg 3 0]
abbrev RK (c:Int)(a:Sl Law)(b:Sl A2)(y:PV):List Obj:=[.cells [pN c],.cells [.p (vSl 18 C0 a)],.cells [.p (vSl 2 A0 b)],.cells [.p y]]
def byB (x:Int)(i:Nat):UInt8:=UInt8.ofNat (x / 2 ^ (8*i) % 256).toNat
def Uc (s:Int×Int)(q:Nat):List UInt8:=(List.range q).flatMap fun i=>[byB s.1 i,byB s.2 i]
def SQ (g:Nat->Int×Int)(n:Nat):List UInt8:=(List.range n).flatMap fun i=>Uc (g i) 4
def Ud (w:Sl A2):Str:=SQ (fun i=>((w.g i).Plus,(w.g i).Minus)) w.n
structure Oo (S:Y7):Prop where
 attR:∀{a:Sl Law}{b y:Sl A2},FunO S H3 [.p (vSl 18 C0 a),.p (vSl 2 A0 b)] [] (.p (vSl 2 A0 y)) [] []->FunO S I1 Xx (RK 0 a b K5) (.tup []) (RK 0 a b (vSl 2 A0 y)) [true,true,true,true]
 attP:∀{a:Sl Law}{b:Sl A2}{c:Int},(S.F H3 [.p (vSl 18 C0 a),.p (vSl 2 A0 b)] [] fun res o k=>res=.panic (.iface 210 (pI .i64 c))/\o=[]/\k=[])->FunO S I1 Xx (RK 0 a b K5) (.tup []) (RK c a b K5) [true,true,true,true]
 tz:∀x:BitVec 64,UR S O2 [.p (pI .u64 (U x))] (.p (pI .i64 (Lib.ctz 64 x.toNat:Nat)))
 trim:∀s c:Str,s.length<1000000000000->c.length<1000000->(∀b∈c,b.toNat<128)->UR S CN [.p (.str s),.p (.str c)] (.p (.str (Lib.trimS s c)))
 growS:∀(f:Nat->List PV) (n:Nat),n*8<=140737488355328->FunO S H1 [.p K5,.p (pI .i64 (n:Int))] [] (.vec 0) [.vec D8 2 0 f false] []
 text:∀(w:Sl A2) (e:Int),w.n*8<=140737488355328->UR S Fc [.p (vSl 2 A0 w),.p (pI .i64 e)] (.p (.str (if e=0 then Ud w else [45])))
def F3 (N:Nat)(x:Int):Option Int:=if 0<=x/\x<18446744073709551616 then some ((Lib.ctz 64 x.toNat:Nat):Int)else none
def Gh (N:Nat)(s c:Str):Option Str:=if s.length<1000000000000/\c.length<1000000/\(c.all fun b=>decide (b.toNat<128)) then some (Lib.trimS s c)else none
def N8 (N:Nat)(n:Int):Option (Sl A2):=if 0<=n/\n*8<=140737488355328 then some (Sl.nil:Sl A2)else none
section
variable {S:Y7}(hS:H0 S Tryz.prog) (hL:Oo S)
include hS hL
theorem T6 {N:Nat}{x y:Int}(h:F3 N x=some y):FunO S O2 [.p (pI .u64 x)] [] (.p (pI .i64 y)) [] []:=by
 obtain⟨⟨h0,h1⟩,h⟩:=G9 h;obtain rfl:=B8 h
 have:=hL.tz (BitVec.ofNat 64 x.toNat)
 have e:(BitVec.ofNat 64 x.toNat).toNat=x.toNat:=by rw[BitVec.toNat_ofNat];omega
 have e2:U (BitVec.ofNat 64 x.toNat)=x:=by show ((BitVec.ofNat 64 x.toNat).toNat:Int)=x;rw[e];omega
 rw[e,e2]at this;exact this
theorem Md {N:Nat}{s c:Str}{y:Str}(h:Gh N s c=some y):FunO S CN [.p (.str s),.p (.str c)] [] (.p (.str y)) [] []:=by obtain⟨⟨h0,h1,h2⟩,h⟩:=G9 h;obtain rfl:=B8 h;exact hL.trim s c h0 h1 fun b hb=>by simpa using List.all_eq_true.1 h2 b hb
theorem Y4 {N:Nat}{n:Int}{y:Sl A2}(h:N8 N n=some y):FunO S H1 [.p K5,.p (pI .i64 n)] [] (.vec 0) [.vec D8 2 y.n (fun i=>A0 (y.g i)) false] []:=by
 obtain⟨⟨h0,h1⟩,h⟩:=G9 h;obtain rfl:=B8 h
 have:=hL.growS (fun i=>A0 default) n.toNat (by omega)
 rw[show ((n.toNat:Nat):Int)=n by omega]at this;exact this
def B3 (N:Nat)(s:Sl A2):Option (Sl A2):=if (0+s.n)*8<=140737488355328/\0+s.n<=140737488355328 then some s else none
theorem N4 {N:Nat}{s y:Sl A2}(h:B3 N s=some y):FunO S G1 [.p (vSl 2 A0 s)] [] (.vec 0) [.vec D8 2 y.n (fun i=>A0 (y.g i)) true] []:=by
 unfold B3 at h;obtain⟨c1,h⟩:=G9 h;obtain rfl:=B8 h;refine A4 hS N2 ?_;refine Xk hS trivial 3 (k:=2) (n:=s.n) (f:=fun i=>A0 (s.g i)) (fun h0=>?_) ?_
 ·obtain⟨n,g⟩:=s;obtain rfl:n=0:=h0;exact A6 hS trivial ⟨[(2,.vec 3700)],[(3700,.vec D8 2 0 (fun i=>A0 (g i)) true)]⟩ [3700] (ids:=[]) ⟨rfl,rfl,rfl⟩
 ·exact A6 hS (And.intro (rfl:true=true) c1) ⟨[(2,.vec 8000)],[(8000,.vec D8 2 s.n (fun i=>A0 (s.g i)) true)]⟩ [8000] (ids:=[(8000,8000)]) ⟨rfl,rfl,rfl⟩
   (hle:=klR [(0,.fn (0+s.n) s.n (Ay 0 (E9 [pI .u32 0,pI .u32 0] []) (fun i=>A0 (s.g i))) (fun i=>A0 (s.g i)))] (al1 ⟨Nat.zero_add _,fun i _=>by simp[Ay]⟩ al0))
def I2 (N:Nat)(s:Sl Bj):Option (Sl Bj):=if (0+s.n)*32<=140737488355328/\0+s.n<=140737488355328 then some s else none
theorem V5 {N:Nat}{s y:Sl A2}(h:B3 N s=some y):FunO S G1 [.p (vSl 2 A0 s)] [] (.p (vSl 2 A0 y)) [] []:=by
 unfold B3 at h;obtain⟨c1,h⟩:=G9 h;obtain rfl:=B8 h;refine A4 hS N2 ?_;refine Xk hS trivial 3 (k:=2) (n:=s.n) (f:=fun i=>A0 (s.g i)) (fun h0=>?_) ?_
 ·obtain⟨n,g⟩:=s;obtain rfl:n=0:=h0;exact A6 hS trivial ⟨[(2,.p (vSl 2 A0 ⟨0,g⟩))],[]⟩ [] (ids:=[]) ⟨rfl,rfl,rfl⟩
 ·exact A6 hS (And.intro (rfl:true=true) c1) ⟨[(2,.p (vSl 2 A0 s))],[]⟩ [] (ids:=[]) ⟨rfl,rfl,rfl⟩
   (hle:=klR [(0,.fn (0+s.n) s.n (Ay 0 (E9 [pI .u32 0,pI .u32 0] []) (fun i=>A0 (s.g i))) (fun i=>A0 (s.g i)))] (al1 ⟨Nat.zero_add _,fun i _=>by simp[Ay]⟩ al0))
theorem Ae {N:Nat}{s y:Sl Bj}(h:I2 N s=some y):FunO S O9 [.p (vSl 6 R5 s)] [] (.p (vSl 6 R5 y)) [] []:=by
 unfold I2 at h;obtain⟨c1,h⟩:=G9 h;obtain rfl:=B8 h;refine A4 hS Aq ?_;refine Xk hS trivial 3 (k:=6) (n:=s.n) (f:=fun i=>R5 (s.g i)) (fun h0=>?_) ?_
 ·obtain⟨n,g⟩:=s;obtain rfl:n=0:=h0;exact A6 hS trivial ⟨[(2,.p (vSl 6 R5 ⟨0,g⟩))],[]⟩ [] (ids:=[]) ⟨rfl,rfl,rfl⟩
 ·exact A6 hS (And.intro (rfl:true=true) c1) ⟨[(2,.p (vSl 6 R5 s))],[]⟩ [] (ids:=[]) ⟨rfl,rfl,rfl⟩
   (hle:=klR [(0,.fn (0+s.n) s.n (Ay 0 (E9 [pI .i64 0,pI .u32 0,pI .u32 0,pI .u32 0,pI .u32 0,pI .i64 0] []) (fun i=>R5 (s.g i))) (fun i=>R5 (s.g i)))] (al1 ⟨Nat.zero_add _,fun i _=>by simp[Ay]⟩ al0))
def F6 (N:Nat)(s:Sl Int):Option (Sl Int):=if (0+s.n)*8<=140737488355328/\0+s.n<=140737488355328 then some s else none
theorem AE {N:Nat}{s y:Sl Int}(h:F6 N s=some y):FunO S Q5 [.p (vSl 1 (cI .u64) s)] [] (.vec 0) [.vec O7 1 y.n (fun i=>cI .u64 (y.g i)) true] []:=by
 unfold F6 at h;obtain⟨c1,h⟩:=G9 h;obtain rfl:=B8 h;refine A4 hS AD ?_;refine Xk hS trivial 3 (k:=1) (n:=s.n) (f:=fun i=>cI .u64 (s.g i)) (fun h0=>?_) ?_
 ·obtain⟨n,g⟩:=s;obtain rfl:n=0:=h0;exact A6 hS trivial ⟨[(2,.vec 3700)],[(3700,.vec O7 1 0 (fun i=>cI .u64 (g i)) true)]⟩ [3700] (ids:=[]) ⟨rfl,rfl,rfl⟩
 ·exact A6 hS (And.intro (rfl:true=true) c1) ⟨[(2,.vec 8000)],[(8000,.vec O7 1 s.n (fun i=>cI .u64 (s.g i)) true)]⟩ [8000] (ids:=[(8000,8000)]) ⟨rfl,rfl,rfl⟩
   (hle:=klR [(0,.fn (0+s.n) s.n (Ay 0 (E9 [pI .u64 0] []) (fun i=>cI .u64 (s.g i))) (fun i=>cI .u64 (s.g i)))] (al1 ⟨Nat.zero_add _,fun i _=>by simp[Ay]⟩ al0))
def Fm (N:Nat)(w:Sl A2)(e:Int):Option Str:=if w.n*8<=140737488355328 then some (if e=0 then Ud w else [45])else none
theorem Qm {N:Nat}{w:Sl A2}{e:Int}{y:Str}(h:Fm N w e=some y):FunO S Fc [.p (vSl 2 A0 w),.p (pI .i64 e)] [] (.p (.str y)) [] []:=by unfold Fm at h;obtain⟨c1,h⟩:=G9 h;obtain rfl:=B8 h;exact hL.text w e c1
end
end Go.AM
set_option maxRecDepth 100000
namespace Go.AM
open Go.Proofs
theorem Ue (v:Value)(w:World):(Instr.typeAssert (.iface 210 v) 20 210 true).run Tryz.prog w=.ok (.tuple #[v,.bool true]) w:=by kernel_rfl
theorem RL (p:Value)(w:World):CallsDIn Fence.wide 0 Tryz.prog Q6 #[p] .returning w fun e u' w'=>e=.returned (.tuple #[])/\u' = .returning/\w' = w:=by
 refine callsDIn_of_wpSIn Fh rfl (by simp[Fence.wide]) fun c₀ cs hu=>?_;apply wpSIn_seq;apply wpSIn_region;simp[wpOpsSIn,go_sem,recoverD,hu,Tryz.f141,Exit.thenS];refine wpSIn_of_wpIn rfl (wpIn_block (wpIn_seq (wpIn_region ?_)));simp[wpOpsIn,Oper.wpIn,Oper.semAt,Oper.uponIn,go_sem,Exit.then];refine wpIn_cond (t:=true) (by simp[Act.eval]) ?_;simp only[if_true];refine wpIn_region ?_;simp[wpOpsIn,Oper.wpIn,Oper.semAt,Oper.uponIn,go_sem,Exit.inBlock,bodyPostS,results];cases c₀
 simp_all
theorem Jr (p:Value)(c:Int)(older:List PanicEntry)(w w1:World)(hst:(Instr.storeAt 30 p (.int .i64 c)).run Tryz.prog w=.ok () w1)(hn:∃b,p=.pointer (some b)) :CallsDIn Fence.wide 0 Tryz.prog Q6 #[p] (.panicking ({ v:=.iface 210 (.int .i64 c),recovered:=false }::older)) w fun e u' w'=>
  e=.returned (.tuple #[])/\u' = .panicking ({ v:=.iface 210 (.int .i64 c),recovered:=true }::older)/\w' = w1:=by
 obtain⟨b,rfl⟩:=hn;refine callsDIn_of_wpSIn Fh rfl (by simp[Fence.wide]) fun c₀ cs hu=>?_;apply wpSIn_seq;apply wpSIn_region;simp[wpOpsSIn,go_sem,recoverD,hu,Tryz.f141,Exit.thenS];refine wpSIn_of_wpIn rfl (wpIn_block (wpIn_seq (wpIn_region ?_)));simp[wpOpsIn,Oper.wpIn,Oper.semAt,Oper.uponIn,go_sem,Exit.then];refine wpIn_cond (t:=false) (by simp[Act.eval]) ?_;simp only[Bool.false_eq_true,if_false];refine wpIn_seq (wpIn_region ?_);simp[wpOpsIn,Oper.wpIn,Oper.semAt,Oper.uponIn,go_sem,Exit.then,Ue];refine wpIn_cond (t:=true) (by simp[Act.eval]) ?_;simp only[if_true];refine wpIn_seq (wpIn_region ?_);simp[wpOpsIn,Oper.wpIn,Oper.semAt,Oper.uponIn,go_sem,Exit.then];refine wpIn_region ?_;simp[wpOpsIn,Oper.wpIn,Oper.semAt,Oper.uponIn,go_sem,hst,Exit.inBlock,bodyPostS,results];simp[go_sem]at hst;rw[hst];simp[Result.andThen]
noncomputable def ZI:Code:=match Tryz.f140.body with
 |some (.seq _ c)=>c
 |_=>.skip
theorem Zq {S:Y7}(hS:H0 S Tryz.prog){a:Sl Law}{b y:Sl A2}(hF:FunO S H3 [.p (vSl 18 C0 a),.p (vSl 2 A0 b)] [] (.p (vSl 2 A0 y)) [] []) :KG S Tryz.prog (MS S (fun st=>J9 [0,1,2,3] st.regs [0,1,2,3]=some (RK 0 a b (vSl 2 A0 y))) fun _ _=>False) (.code ZI [] ⟨argEnv Xx,objRegs (RK 0 a b K5)⟩):=by refine B7 hS [] trivial hF ?_;exact K_upN hS trivial ⟨[],[(3,.cells [.p (vSl 2 A0 y)]),(2,.cells [.p (vSl 2 A0 b)]),(1,.cells [.p (vSl 18 C0 a)]),(0,.cells [pN 0])]⟩ (ids:=[(0,0),(1,1),(2,2),(3,3)]) rfl
theorem VP {S:Y7}(hS:H0 S Tryz.prog){a:Sl Law}{b:Sl A2}{c:Int}(hF:S.F H3 [.p (vSl 18 C0 a),.p (vSl 2 A0 b)] [] fun res o k=>res=.panic (.iface 210 (pI .i64 c))/\o=[]/\k=[]) :KG S Tryz.prog (MS S (fun _=>False) fun x st=>x=.iface 210 (pI .i64 c)/\store Tryz.prog st.regs 30 (.reg 0 0) (.p (pI .i64 c))=some ([],ins 0 (.cells [pN c]) st.regs)/\J9 [0,1,2,3] (ins 0 (.cells [pN c]) st.regs) [0,1,2,3]=some (RK c a b K5)) (.code ZI [] ⟨argEnv Xx,objRegs (RK 0 a b K5)⟩):=by refine Zl hS [] trivial hF ?_;exact K_upP hS trivial ⟨rfl,by kernel_rfl,by kernel_rfl⟩
noncomputable def att1:Code:=match Tryz.f140.body with
 |some (.seq c _)=>c
 |_=>.skip
noncomputable def attOps:Array Oper:=match ZI with
 |.region _ ops _=>ops
 |_=>#[]
theorem SR:ZI=.region 1 attOps false:=by kernel_rfl
theorem Ad9:attOps.toList.all (FP 7 attOps.toList)=true:=by kernel_rfl
theorem Xy:¬Tryz.f140.name = "runtime.NumGoroutine" := by decide +kernel
theorem SS:Tryz.f140.body=some (.seq att1 ZI):=by kernel_rfl
theorem Zr {C:Ctx}{vs:Array Value}{w:World}{rho:Nat->Value}{args:List AV}{objs:List Obj}{n:Nat}(hS:Sat C ⟨argEnv args,objRegs objs⟩ ⟨vs,[]⟩ w rho)(hvs:vs.size=args.length) :Sat C ⟨argEnv args,objRegs objs⟩ { tmps:=vs++Array.replicate n undef,defers:=[] } w rho:=by
 refine⟨hS.toSatE,fun t=>?_,hS.pin,hS.marks⟩
 have:=hS.env t
 by_cases ht:t<vs.size
 ·simpa[Array.getD_eq_getD_getElem?,Array.getElem?_append,ht]using this
 ·show RepA w _ _ _ _ (get (argEnv args) t);rw[Ac,List.getD_eq_getElem?_getD,List.getElem?_eq_none (by omega)];exact .top _
theorem KX {R:St->Prop}{X:PV->St->Prop}{a:Sl Law}{b:Sl A2}{objs' : List Obj}
 (hreg:KG (EH Tryz.prog) Tryz.prog (MS (EH Tryz.prog) R X) (.code ZI [] ⟨argEnv Xx,objRegs (RK 0 a b K5)⟩))
 (hR:∀st,R st->J9 [0,1,2,3] st.regs [0,1,2,3]=some objs')
 (hX:∀x st,X x st->∃c regs',x=.iface 210 (pI .i64 c)/\store Tryz.prog st.regs 30 (.reg 0 0) (.p (pI .i64 c))=some ([],regs')/\J9 [0,1,2,3] regs' [0,1,2,3]=some objs') :
 FunO (EH Tryz.prog) I1 Xx (RK 0 a b K5) (.tup []) objs' [true,true,true,true]:=by
 intro 𝒢 C w vs rho hG hS hvs;obtain⟨l⟩:=vs
 match l,hvs with
 |[v0,v1,v2,v3],hvs=>?_
 refine⟨.enter I1 #[v0,v1,v2,v3],w,by simp[callFunc,Cw,SS,Xy],?_⟩;refine callsIn_of_wp_marks Cw SS trivial ?_;have hS':=Zr (n:=Tryz.f140.ntmps-4) hS hvs;have hn7:Tryz.f140.ntmps-4=3:=rfl;rw[hn7]at hS';have hsz:((#[v0,v1,v2,v3]:Array Value)++Array.replicate 3 undef).size=7:=rfl;have hw:HQ (EH Tryz.prog) Tryz.prog attOps.toList attOps.toList (MS (EH Tryz.prog) R X) ⟨argEnv Xx,objRegs (RK 0 a b K5)⟩:=by
  have:=hreg.out
  rw[SR]at this;simpa only[G,awp,kp,Bool.false_eq_true,if_false]using this
 have hops:=Kd (𝒢:=𝒢.fix C.rho0) (n:=7) (ro:=none) (ops:=attOps) Ad9 attOps.toList 0 rfl (by simp) ⟨hG,rfl⟩ hS' hsz hw;have hfr:=Hl [{ target:=.fn (.func Q6) #[],args:=#[v0] }] _ _ _ hops;rw[List.drop_zero]at hfr;obtain⟨b0,hv0,hrho0⟩:∃b0,v0=.pointer (some ⟨b0,0,none⟩)/\rho 0=.pointer (some ⟨b0,0,none⟩):=by
  have h0:RepA w _ _ rho v0 (.reg 0 0):=hS.env 0;cases h0 with
  |reg _ _ b0 _ h=>exact⟨b0,rfl,h⟩
 have hend:∀{C' : Ctx}{st' : St}{a' : Act}{w' : World}{rho' : Nat->Value},(𝒢.fix C.rho0).G C' -> Sat C' st' a' w' rho' -> J9 [0,1,2,3] st'.regs [0,1,2,3]=some objs' ->
  LeavesInM Fence.wide 0 Tryz.prog Tryz.f140 a'.tmps (fun e w'=>∃C' r objs0 ks rho', 𝒢.G C' /\ (r=.ret (.tup [])/\objs0=objs' /\ ks=[true,true,true,true])/\SatE C' (objRegs objs0) w' rho' /\
   YH w' (Prv C'.X (A3 (objRegs objs0)) rho') (Lv (A3 (objRegs objs0))) rho' e r/\∀i:Nat,ks[i]? = some true->i<objs0.length/\rho' i=rho i) [] .returning w':=by
  intro C' st' a' w' rho' hG' hs' hob;obtain⟨g1,g2,g3⟩:=Ke hs' (by decide) hob;obtain⟨hl,hg⟩:=U6 hob;refine⟨.tuple #[],by simp[results,Tryz.f140],C', .ret (.tup []),objs',_,_,hG'.1,⟨rfl,rfl,rfl⟩,g1,⟨_,rfl,.tup _ _ rfl fun i hi=>absurd hi (by simp)⟩,?_⟩;intro i hi;have hi4:i<4:=by
   have:=(List.getElem?_eq_some_iff.1 hi).1
   simpa using this
  refine⟨by rw[hl];exact hi4,?_⟩;have e1:[0,1,2,3][i]? = some i:=by
   match i,hi4 with
   |0,_=>rfl
   |1,_=>rfl
   |2,_=>rfl
   |3,_=>rfl
  obtain⟨o,_,ho,_⟩:=hg i i e1;show rho' ([0,1,2,3].getD i 0)=rho i;rw[Bh e1,hs'.pin i (by omega) (by simp[Lv,ho]),hG'.2];refine (hS.pin i (by omega) ?_).symm;rw[Lv,D0]
  match i,hi4 with
  |0,_=>rfl
  |1,_=>rfl
  |2,_=>rfl
  |3,_=>rfl
 generalize hQ:bodyPostM _ _ _ _ _=QQ;refine wpIn_seq ?_;simp only[att1,Tryz.f140];refine wpIn_region ?_;simp[wpOpsIn,Oper.wpIn,Oper.semAt,Oper.uponIn,go_sem,Exit.then];subst hQ;rw[SR];refine wpIn_mono (wpIn_region (F:=FW none) hfr) ?_;rintro e a' w' ⟨a0,rfl,hq⟩;cases e with
 |exit id=>obtain⟨_,_,_,_,_,_,h⟩:=hq;exact h.elim
 |goto l=>obtain⟨_,_,_,_,_,_,h⟩:=hq;exact h.elim
 |ret=>obtain⟨_,_,_,_,_,_,h⟩:=hq;exact h.elim
 |outgrown=>exact hq.elim
 |normal=>
  obtain⟨C',st',rho',hG',hs',hsz',hu⟩:=hq;obtain⟨st2,rho2,hR2,_,hs2⟩:=hu C' a0 w' rho' hs';refine DP (C:=C') (st:=st2) (rho:=rho2) (by simp) ?_ a0.defers a0 w' rfl rfl hs2;intro a3 w3 hs3 ht;refine⟨by simp,.inr ⟨by simp[Fence.wide],_,_,Q6,#[v0],rfl,by simp[go_sem],fun _ _=>trivial,?_⟩⟩;refine (RL v0 w3).mono ?_;rintro e u' w4 ⟨rfl,rfl,rfl⟩
  have:=hend hG' hs3 (hR st2 hR2)
  rw[ht]at this;exact this
 |panic chain=>
  obtain⟨C',st',rho',v,x,rfl,hG',hs',hsz',hv,hXx⟩:=hq;obtain⟨c,regs',rfl,hst,hob⟩:=hX x st' hXx;obtain rfl:v=.iface 210 (.int .i64 c):=by
   cases hv with
   |iface _ _ _ h=>cases h;rfl
  refine DP (C:=C') (st:=st') (rho:=rho') (by simp) ?_ a0.defers a0 w' rfl rfl hs';intro a3 w3 hs3 ht;have hlive:Lv (A3 st'.regs) 0:=by
   cases hj:A3 st'.regs 0 with
   |some o=>simp[Lv,hj]
   |none=>
    unfold store at hst;split at hst
    ·simp[hj]at hst
    ·cases hst
  have hr0:rho' 0=.pointer (some ⟨b0,0,none⟩):=by rw[hs3.pin 0 (by omega) hlive,hG'.2,<- hrho0];exact (hS.pin 0 (by omega) rfl).symm
  have hva:RS C' st' w3 rho' v0 (.reg 0 0):=by rw[hv0];exact .reg 0 0 b0 hlive hr0
  obtain⟨w4,hrun,hs4,_⟩:=JT hs3 (vx:=.int .i64 c) hva (.p _ _ (.v _)) hst trivial;refine⟨by simp,.inr ⟨by simp[Fence.wide],_,_,Q6,#[v0],rfl,by simp[go_sem],fun _ _=>trivial,?_⟩⟩;refine (Jr v0 c [] w3 w4 hrun ⟨_,hv0⟩).mono ?_;rintro e u' w5 ⟨rfl,rfl,rfl⟩
  have:=hend hG' hs4 hob
  rw[ht]at this;exact this
theorem RM {a:Sl Law}{b y:Sl A2}(hF:FunO (EH Tryz.prog) H3 [.p (vSl 18 C0 a),.p (vSl 2 A0 b)] [] (.p (vSl 2 A0 y)) [] []) :FunO (EH Tryz.prog) I1 Xx (RK 0 a b K5) (.tup []) (RK 0 a b (vSl 2 A0 y)) [true,true,true,true]:=
 KX (Zq (ZB Tryz.prog) hF) (fun st h=>h) (fun x st h=>h.elim)
theorem Oq {a:Sl Law}{b:Sl A2}{c:Int}(hF:(EH Tryz.prog).F H3 [.p (vSl 18 C0 a),.p (vSl 2 A0 b)] [] fun res o k=>res=.panic (.iface 210 (pI .i64 c))/\o=[]/\k=[]) :FunO (EH Tryz.prog) I1 Xx (RK 0 a b K5) (.tup []) (RK c a b K5) [true,true,true,true]:=
 KX (VP (ZB Tryz.prog) hF) (fun st h=>h.elim) (fun x st h=>⟨c,_,h.1,h.2.1,h.2.2⟩)
end Go.AM
namespace Go.AM
open IntKind (wrap)
open Go.Proofs
set_option maxRecDepth 10000
set_option maxHeartbeats 2000000
variable {S:Y7}(hS:H0 S Tryz.prog) (hL:Oo S)
include hS hL
def J6 (N:Nat)(p_s:A2):Option Bool:=
 some (((A9 .and .u32 p_s.Plus p_s.Minus)==0)&&(decide ((A9 .or .u32 p_s.Plus p_s.Minus)<=16777215)))
theorem P0 {N:Nat}{p_s:A2}{y:Bool}(h:J6 N p_s=some y) :FunO S Hw [.p (.agg (A0 p_s))] [] (pB y) ([]) []:=by unfold J6 at h;refine A4 hS Ob ?_;refine kB hS (A7 hS) trivial trivial 7 (.n (.a ((A9 .and .u32 p_s.Plus p_s.Minus)==0)) (.a (decide ((A9 .or .u32 p_s.Plus p_s.Minus)<=16777215)))) ?_;cases h;exact kR hS
def AF (N:Nat)(p_s:A2)(p_cond:A2):Option Bool:=
 (J6 N p_s).bind fun y1=>
 lt (fun (z1:Bool)=>
  some z1
  ) fun k1=>
  if y1 then
   (J6 N p_cond).bind fun y3=>
   if y3 then
    if ((A9 .andNot .u32 p_cond.Plus p_s.Plus)==0) then
     k1 ((A9 .andNot .u32 p_cond.Minus p_s.Minus)==0)
    else
     k1 false
   else
    k1 false
  else
   k1 false
theorem Ip {N:Nat}{p_s:A2}{p_cond:A2}{y:Bool}(h:AF N p_s p_cond=some y) :FunO S Dv [.p (.agg (A0 p_s)),.p (.agg (A0 p_cond))] [] (pB y) ([]) []:=by
 unfold AF at h;refine A4 hS Im ?_;refine kC hS h (P0 hS hL) (fun y1 h=>?_);refine Kr hS trivial (A7 hS) h 0 (fun z1=>⟨[(4,pB z1)],[]⟩) (fun M1 k1 hb1 h=>?_) (fun z1 h=>?_)
 ·refine kG hS h (fun h=>?_) (fun h=>?_)
  ·refine kC hS h (P0 hS hL) (fun y3 h=>?_);refine kG hS h (fun h=>?_) (fun h=>?_)
   ·refine kG hS h (fun h=>?_) (fun h=>?_)
    ·exact hb1 _ [] _ ((A9 .andNot .u32 p_cond.Minus p_s.Minus)==0) trivial h
    ·exact hb1 _ [] _ false trivial h
   ·exact hb1 _ [] _ false trivial h
  ·exact hb1 _ [] _ false trivial h
 ·cases h;exact kR hS
def DZ (N:Nat)(p_s:A2):Option Int:=
 some (A9 .or .u32 p_s.Plus p_s.Minus)
theorem KY {N:Nat}{p_s:A2}{y:Int}(h:DZ N p_s=some y) :FunO S KS [.p (.agg (A0 p_s))] [] (pU y) ([]) []:=by unfold DZ at h;refine A4 hS RF ?_;cases h;exact kR hS
def Ea (N:Nat)(p_s:A2)(p_from:A2)(p_set:Int):Option A2:=
 some (⟨A9 .or .u32 (A9 .andNot .u32 p_s.Plus p_set) (A9 .and .u32 p_from.Plus p_set),A9 .or .u32 (A9 .andNot .u32 p_s.Minus p_set) (A9 .and .u32 p_from.Minus p_set)⟩:A2)
theorem KZ {N:Nat}{p_s:A2}{p_from:A2}{p_set:Int}{y:A2}(h:Ea N p_s p_from p_set=some y) :FunO S KT [.p (.agg (A0 p_s)),.p (.agg (A0 p_from)),pU p_set] [] (.p (.agg (A0 y))) ([]) []:=by unfold Ea at h;refine A4 hS RG ?_;cases h;exact kR hS
def CP (N:Nat)(p_s:A2)(p_clear:Int)(p_set:A2):Option (A2×Int):=
 (J6 N p_s).bind fun y1=>
 lt (fun (z1:Bool)=>
  if z1 then
   some ((⟨0,0⟩:A2),14)
  else
   lt (fun (z2:Bool)=>
    if z2 then
     some ((⟨0,0⟩:A2),2)
    else
     (DZ N p_set).bind fun y6=>
     (Ea N p_s p_set (A9 .or .u32 p_clear y6)).bind fun y7=>
     some (y7,0)
    ) fun k2=>
    if (decide (16777215<p_clear)) then
     k2 true
    else
     (DZ N p_set).bind fun y5=>
     k2 ((A9 .and .u32 p_clear y5) != 0)
  ) fun k1=>
  if (!y1) then
   k1 true
  else
   (J6 N p_set).bind fun y3=>
   k1 (!y3)
theorem Me {N:Nat}{p_s:A2}{p_clear:Int}{p_set:A2}{y:A2×Int}(h:CP N p_s p_clear p_set=some y) :FunO S Gf [.p (.agg (A0 p_s)),pU p_clear,.p (.agg (A0 p_set))] [] (.tup [.p (.agg (A0 y.1)),pN y.2]) ([]) []:=by
 unfold CP at h;refine A4 hS LX ?_;refine H5 hS trivial 5 4000 [pI .u32 p_s.Plus,pI .u32 p_s.Minus] ?_;refine H5 hS trivial 6 6000 [pI .u32 p_set.Plus,pI .u32 p_set.Minus] ?_;obtain⟨y1,e1,h⟩:=B5 h;refine B7 hS [] (by decide:(2:Nat)<=2) (P0 hS hL e1) ?_;refine Kr hS trivial (A7 hS) h 0 (fun z1=>⟨[(15,pB z1),(6,.reg 7000 0),(5,.p (.ptr [pI .u32 p_set.Plus,pI .u32 p_set.Minus])),(3,.p (.ptr [pI .u32 p_s.Plus,pI .u32 p_s.Minus])),(1,pU p_clear)],[(7000,.cells [pU 0,pU 0])]⟩) (fun M1 k1 hb1 h=>?_) (fun z1 h=>?_)
 ·refine kG hS h (fun h=>?_) (fun h=>?_)
  ·exact hb1 _ [(7000,7000)] _ true trivial h
  ·obtain⟨y3,e3,h⟩:=B5 h;refine B7 hS [] (by decide:(2:Nat)<=2) (P0 hS hL e3) ?_;exact hb1 _ [(7000,7000)] _ (!y3) trivial h
 ·refine kI hS h (fun h=>?_) (fun h=>?_)
  ·cases h;exact kR hS
  ·refine Kr hS trivial (A7 hS) h 0 (fun z2=>⟨[(25,pB z2),(6,.reg 7000 0),(5,.p (.ptr [pI .u32 p_set.Plus,pI .u32 p_set.Minus])),(3,.p (.ptr [pI .u32 p_s.Plus,pI .u32 p_s.Minus])),(1,pU p_clear)],[(7000,.cells [pU 0,pU 0])]⟩) (fun M2 k2 hb2 h=>?_) (fun z2 h=>?_)
   ·refine kG hS h (fun h=>?_) (fun h=>?_)
    ·exact hb2 _ [(7000,7000)] _ true trivial h
    ·obtain⟨y5,e5,h⟩:=B5 h;refine B7 hS [] (by decide:(2:Nat)<=2) (KY hS hL e5) ?_;exact hb2 _ [(7000,7000)] _ ((A9 .and .u32 p_clear y5) != 0) trivial h
   ·refine kI hS h (fun h=>?_) (fun h=>?_)
    ·cases h;exact kR hS
    ·refine I7 hS trivial [0,1,3,4,6] ?_;obtain⟨y6,e6,h⟩:=B5 h;refine Q9 (And.intro (And.intro (by decide:(2:Nat)<=2) (by decide:(2:Nat)<=2)) (by decide:(2:Nat)<=2)) (KY hS hL e6) ?_;obtain⟨y7,e7,h⟩:=B5 h;refine Q9 trivial (KZ hS hL e7) ?_;refine J2 trivial ?_;cases h;exact kR hS
def Fn (N:Nat)(p_s:A2)(p_from:A2)(p_mask:Int):Option (A2×Int):=
 (J6 N p_s).bind fun y1=>
 lt (fun (z1:Bool)=>
  if z1 then
   some ((⟨0,0⟩:A2),14)
  else
   if (decide (16777215<p_mask)) then
    some ((⟨0,0⟩:A2),2)
   else
    (Ea N p_s p_from p_mask).bind fun y4=>
    some (y4,0)
  ) fun k1=>
  if (!y1) then
   k1 true
  else
   (J6 N p_from).bind fun y3=>
   k1 (!y3)
theorem Qn {N:Nat}{p_s:A2}{p_from:A2}{p_mask:Int}{y:A2×Int}(h:Fn N p_s p_from p_mask=some y) :FunO S Ja [.p (.agg (A0 p_s)),.p (.agg (A0 p_from)),pU p_mask] [] (.tup [.p (.agg (A0 y.1)),pN y.2]) ([]) []:=by
 unfold Fn at h;refine A4 hS Qk ?_;refine kC hS h (P0 hS hL) (fun y1 h=>?_);refine Kr hS trivial (A7 hS) h 0 (fun z1=>⟨[(15,pB z1),(6,.reg 7000 0),(4,.reg 5000 0),(3,.reg 4000 0),(2,pU p_mask)],[(7000,.cells [pU 0,pU 0]),(5000,.cells [pU p_from.Plus,pU p_from.Minus]),(4000,.cells [pU p_s.Plus,pU p_s.Minus])]⟩) (fun M1 k1 hb1 h=>?_) (fun z1 h=>?_)
 ·refine kG hS h (fun h=>?_) (fun h=>?_)
  ·exact hb1 _ [(4000,4000),(5000,5000),(7000,7000)] _ true trivial h
  ·refine kC hS h (P0 hS hL) (fun y3 h=>?_);exact hb1 _ [(4000,4000),(5000,5000),(7000,7000)] _ (!y3) trivial h
 ·refine kI hS h (fun h=>?_) (fun h=>?_)
  ·cases h;exact kR hS
  ·refine kI hS h (fun h=>?_) (fun h=>?_)
   ·cases h;exact kR hS
   ·refine kC hS h (KZ hS hL) (fun y4 h=>?_);cases h;exact kR hS
def La (N:Nat)(p_a:Sl A2)(p_b:Sl A2):Option Bool:=
 if ((p_a.n:Int) != (p_b.n:Int)) then
  some false
 else
  Co N (fun self1 (x1:Int)=>
   if (decide (x1<(p_a.n:Int))) then
    if (((0:Int)<=x1/\x1<(p_a.n:Int))/\((0:Int)<=x1/\x1<(p_b.n:Int)))then
     if ((((p_a.g x1.toNat).Plus==(p_b.g x1.toNat).Plus)&&((p_a.g x1.toNat).Minus==(p_b.g x1.toNat).Minus)) != true) then
      some false
     else
      self1 (wrap .i64 (x1+1))
    else none
   else
    some true
   ) 0
theorem Zs {N:Nat}{p_a:Sl A2}{p_b:Sl A2}{y:Bool}(h:La N p_a p_b=some y) :FunO S KI [.p (vSl 2 A0 p_a),.p (vSl 2 A0 p_b)] [] (pB y) ([]) []:=by
 unfold La at h;refine A4 hS Rx ?_;refine kI hS h (fun h=>?_) (fun h=>?_)
 ·cases h;exact kR hS
 ·refine W6 hS trivial h (fun x1=>⟨[(5,pN x1),(1,.p (vSl 2 A0 p_b)),(0,.p (vSl 2 A0 p_a))],[]⟩) (ids:=[]) (fun _ _ _ _ _ self1 x1 hb1 h=>?_);refine kI hS h (fun h=>?_) (fun h=>?_)
  ·refine I7 hS trivial [2,3,6,7] ?_;obtain⟨c9,h⟩:=G9 h;refine J2 (And.intro (And.intro (And.intro (And.intro c9.1 (by decide:(2:Nat)<=2)) c9.2) (by decide:(2:Nat)<=2)) (by decide +kernel:ZC Tryz.prog D8=true)) ?_;refine kI hS h (fun h=>?_) (fun h=>?_)
   ·cases h;exact kR hS
   ·exact hb1 _ [] _ (wrap .i64 (x1+1)) trivial h
  ·cases h;exact kR hS
def Fo (N:Nat)(p_s:A2):Option Bool:=
 some (((A9 .and .u32 p_s.Plus p_s.Minus)==0)&&((shI .shr .u32 (A9 .or .u32 p_s.Plus p_s.Minus) 24)==0))
theorem Qo {N:Nat}{p_s:A2}{y:Bool}(h:Fo N p_s=some y) :FunO S IV [.p (.agg (A0 p_s))] [] (pB y) ([]) []:=by
 unfold Fo at h;refine A4 hS Qb ?_;obtain⟨t1,ht1⟩:∃x:Bool,x=(((A9 .and .u32 p_s.Plus p_s.Minus)==0)&&((shI .shr .u32 (A9 .or .u32 p_s.Plus p_s.Minus) 24)==0)):=⟨_,rfl⟩;refine TO hS trivial (A7 hS) 0 ⟨[(2,pB t1)],[]⟩ (fun M1 hb1=>?_) ?_
 ·refine NL hS trivial (b:=(A9 .and .u32 p_s.Plus p_s.Minus)==0) (fun c2=>?_) (fun c2=>?_)
  ·exact hb1 _ [] _ (by decide:(0:Int)<=24) (hle:=klR [(0,.eq (.bb ((shI .shr .u32 (A9 .or .u32 p_s.Plus p_s.Minus) 24)==0)) (.bb t1))] (al1 (by simp only[ht1,c2,Leaf.ok,pm,if_true,if_false]) al0))
  ·exact hb1 _ [] _ trivial (hle:=klR [(0,.eq (.bb false) (.bb t1))] (al1 (by simp only[ht1,c2,Leaf.ok,pm,if_true,if_false]) al0))
 ·subst ht1;cases h;exact kR hS
def AZ (N:Nat)(p_w:Sl A2):Option Int:=
 if (decide (32<(p_w.n:Int))) then
  some 11
 else
  Co N (fun self1 (x1:Int)=>
   if (decide (x1<(p_w.n:Int))) then
    if ((0:Int)<=x1/\x1<(p_w.n:Int))then
     (Fo N (p_w.g x1.toNat)).bind fun y3=>
     if (!y3) then
      some 14
     else
      self1 (wrap .i64 (x1+1))
    else none
   else
    some 0
   ) 0
theorem Fp {N:Nat}{p_w:Sl A2}{y:Int}(h:AZ N p_w=some y) :FunO S IT [.p (vSl 2 A0 p_w)] [] (pN y) ([]) []:=by
 unfold AZ at h;refine A4 hS PZ ?_;refine kI hS h (fun h=>?_) (fun h=>?_)
 ·cases h;exact kR hS
 ·refine W6 hS trivial h (fun x1=>⟨[(10,pN x1),(9,pN (p_w.n:Int)),(8,.p (vSl 2 A0 p_w))],[]⟩) (ids:=[]) (fun _ _ _ _ _ self1 x1 hb1 h=>?_);refine kI hS h (fun h=>?_) (fun h=>?_)
  ·obtain⟨c9,h⟩:=G9 h;obtain⟨y3,e3,h⟩:=B5 h;refine B7 hS [] (And.intro c9 (by decide:(2:Nat)<=2)) (Qo hS hL e3) ?_;refine kI hS h (fun h=>?_) (fun h=>?_)
   ·cases h;exact kR hS
   ·exact hb1 _ [] _ (wrap .i64 (x1+1)) trivial h
  ·cases h;exact kR hS
def Ad (N:Nat)(p_s:A2):Option Bool:=
 some (((A9 .and .u32 p_s.Plus p_s.Minus)==0)&&((shI .shr .u32 (A9 .or .u32 p_s.Plus p_s.Minus) 24)==0))
theorem CA {N:Nat}{p_s:A2}{y:Bool}(h:Ad N p_s=some y) :FunO S IY [.p (.agg (A0 p_s))] [] (pB y) ([]) []:=by
 unfold Ad at h;refine A4 hS Qe ?_;obtain⟨t1,ht1⟩:∃x:Bool,x=(((A9 .and .u32 p_s.Plus p_s.Minus)==0)&&((shI .shr .u32 (A9 .or .u32 p_s.Plus p_s.Minus) 24)==0)):=⟨_,rfl⟩;refine TO hS trivial (A7 hS) 0 ⟨[(2,pB t1)],[]⟩ (fun M1 hb1=>?_) ?_
 ·refine NL hS trivial (b:=(A9 .and .u32 p_s.Plus p_s.Minus)==0) (fun c2=>?_) (fun c2=>?_)
  ·exact hb1 _ [] _ (by decide:(0:Int)<=24) (hle:=klR [(0,.eq (.bb ((shI .shr .u32 (A9 .or .u32 p_s.Plus p_s.Minus) 24)==0)) (.bb t1))] (al1 (by simp only[ht1,c2,Leaf.ok,pm,if_true,if_false]) al0))
  ·exact hb1 _ [] _ trivial (hle:=klR [(0,.eq (.bb false) (.bb t1))] (al1 (by simp only[ht1,c2,Leaf.ok,pm,if_true,if_false]) al0))
 ·subst ht1;cases h;exact kR hS
def T7 (N:Nat)(p_n:Int):Option (Nat->Int):=
 Dq N (fun self1 (x1:Nat->Int) (x2:Int)=>
  if (decide (x2<(wrap .i64 (p_n+1)))) then
   if (((0:Int)<=x2/\((0:Int)<=x2/\x2<33))/\(0+x2.toNat*1)<33)then
    self1 (IP x1 (0+x2.toNat*1) (shI .shl .u64 1 x2)) (wrap .i64 (x2+1))
   else none
  else
   some x1
  ) (fun _=>0) 0
theorem Cd {N:Nat}{p_n:Int}{y:Nat->Int}(h:T7 N p_n=some y) :FunO S Fk [pN p_n] [] (.p (.agg (cA 33 (pI .u64) y))) ([]) []:=by
 unfold T7 at h;refine A4 hS KW ?_;refine N0 hS trivial h (fun x1 x2=>⟨[(7,pN x2),(6,pN (wrap .i64 (p_n+1))),(3,.reg 4000 0),(2,.reg 3000 0)],[(4000,.arr 33 (fun i=>pI .u64 (x1 i))),(3000,.arr 33 (fun i=>pI .u64 ((fun _=>0) i)))]⟩) (ids:=[(3000,3000),(4000,4000)]) (fun _ _ _ _ _ self1 x1 x2 hb1 h=>?_) (hle:=klR [(2,.fn 33 33 (fun i=>[(fun i=>(List.replicate 33 (pI .u64 0)).getD i default) i]) (fun i=>[pI .u64 ((fun _=>0) i)])),(3,.fn 33 33 (fun i=>[(fun i=>(List.replicate 33 (pI .u64 0)).getD i default) i]) (fun i=>[pI .u64 ((fun _=>0) i)]))] (al1 ⟨rfl,An (z:=pI .u64 0) rfl⟩ (al1 ⟨rfl,An (z:=pI .u64 0) rfl⟩ al0)));refine kI hS h (fun h=>?_) (fun h=>?_)
 ·obtain⟨c4,h⟩:=G9 h;exact hb1 _ [(3000,3000),(4000,4000)] _ (IP x1 (0+x2.toNat*1) (shI .shl .u64 1 x2)) (wrap .i64 (x2+1)) c4 h (hle:=klR [(2,.fn 33 33 (fun i=>[(fun i=>if i=(0+x2.toNat*1)then (pI .u64 (shI .shl .u64 1 x2))else (fun i=>pI .u64 (x1 i)) i) i]) (fun i=>[pI .u64 (IP x1 (0+x2.toNat*1) (shI .shl .u64 1 x2) i)]))] (al1 ⟨rfl,Yg (c:=pI .u64) (v:=x1) (x:=shI .shl .u64 1 x2) (fun _ _=>rfl) rfl⟩ al0))
 ·obtain rfl:=B8 h;exact A6 hS (And.intro rfl (E2 _ _):(0:Nat)=0/\(Ah 33 (fun i=>pI .u64 (x1 i))).length=33) ⟨[(2,.reg 3000 0)],[(3000,.arr 33 (fun i=>pI .u64 (x1 i)))]⟩ [] (ids:=[(3000,3000)]) ⟨rfl,rfl,rfl⟩ (hle:=klR [(0,.fn 33 33 (fun i=>[(fun i=>(cA 33 (pI .u64) x1).getD i default) i]) (fun i=>[pI .u64 (x1 i)]))] (al1 ⟨rfl,D2 33 (fun i=>pI .u64 (x1 i))⟩ al0))
def S6 (N:Nat)(p_x:Nat->Int)(p_y:Nat->Int):Option (Nat->Int):=
 Dq N (fun self1 (x1:Nat->Int) (x2:Int)=>
  if (decide (x2<33)) then
   if (((0:Int)<=x2/\x2<33)/\(0+x2.toNat*1)<33)then
    if (((((0:Int)<=x2/\x2<33)/\(0+x2.toNat*1)<33)/\((0:Int)<=x2/\x2<33))/\(0+x2.toNat*1)<33)then
     self1 (IP x1 (0+x2.toNat*1) (A9 .or .u64 (x1 (0+x2.toNat*1)) (p_y (0+x2.toNat*1)))) (wrap .i64 (x2+1))
    else none
   else none
  else
   some x1
  ) p_x 0
theorem CB {N:Nat}{p_x:Nat->Int}{p_y:Nat->Int}{y:Nat->Int}(h:S6 N p_x p_y=some y) :FunO S Cy [.reg 0 0,.reg 1 0] [.arr 33 (fun i=>pI .u64 (p_x i)),.arr 33 (fun i=>pI .u64 (p_y i))] (.tup []) ([.arr 33 (fun i=>pI .u64 (y i)),.arr 33 (fun i=>pI .u64 (p_y i))]) [true,true]:=by
 unfold S6 at h;refine A4 hS HE ?_;refine N0 hS trivial h (fun x1 x2=>⟨[(7,pN x2),(6,.reg 1 0),(0,.reg 0 0)],[(1,.arr 33 (fun i=>pI .u64 (p_y i))),(0,.arr 33 (fun i=>pI .u64 (x1 i)))]⟩) (ids:=[(0,0),(1,1)]) (fun _ _ _ _ _ self1 x1 x2 hb1 h=>?_);refine kI hS h (fun h=>?_) (fun h=>?_)
 ·refine EU hS trivial ?_;obtain⟨c8,h⟩:=G9 h;refine J2 c8 ?_;refine EU hS trivial ?_;obtain⟨c9,h⟩:=G9 h;refine J2 c9 ?_;exact hb1 _ [(0,0),(1,1)] _ (IP x1 (0+x2.toNat*1) (A9 .or .u64 (x1 (0+x2.toNat*1)) (p_y (0+x2.toNat*1)))) (wrap .i64 (x2+1)) trivial h (hle:=klR [(2,.fn 33 33 (fun i=>[(fun i=>if i=(0+x2.toNat*1)then (pI .u64 (A9 .or .u64 (x1 (0+x2.toNat*1)) (p_y (0+x2.toNat*1))))else (fun i=>pI .u64 (x1 i)) i) i]) (fun i=>[pI .u64 (IP x1 (0+x2.toNat*1) (A9 .or .u64 (x1 (0+x2.toNat*1)) (p_y (0+x2.toNat*1))) i)]))] (al1 ⟨rfl,Yg (c:=pI .u64) (v:=x1) (x:=A9 .or .u64 (x1 (0+x2.toNat*1)) (p_y (0+x2.toNat*1))) (fun _ _=>rfl) rfl⟩ al0))
 ·obtain rfl:=B8 h;exact A6 hS trivial ⟨[],[(1,.arr 33 (fun i=>pI .u64 (p_y i))),(0,.arr 33 (fun i=>pI .u64 (x1 i)))]⟩ [0,1] (ids:=[(0,0),(1,1)]) ⟨rfl,rfl,rfl⟩
def BF (N:Nat)(p_w:Sl A2)(p_at:Int):Option Int:=
 if ((decide (p_at<0))||(decide ((p_w.n:Int)<p_at))) then
  some 3
 else
  some 0
theorem HF {N:Nat}{p_w:Sl A2}{p_at:Int}{y:Int}(h:BF N p_w p_at=some y) :FunO S HD [.p (vSl 2 A0 p_w),pN p_at] [] (pN y) ([]) []:=by
 unfold BF at h;refine A4 hS Oh ?_;refine kB hS (A7 hS) trivial trivial 5 (.o (.a (decide (p_at<0))) (.a (decide ((p_w.n:Int)<p_at)))) ?_;refine kI hS h (fun h=>?_) (fun h=>?_)
 ·cases h;exact kR hS
 ·cases h;exact kR hS
def CQ (N:Nat)(p_p:Pat):Option Int:=
 if (if (p_p.Kind==0) then p_p.Kind==0 else (if (p_p.Kind==2) then p_p.Kind==2 else p_p.Kind==6)) then
  lt (fun (z1:Bool)=>
   if z1 then
    some 2
   else
    (Ad N p_p.Is).bind fun y1=>
    if (!y1) then
     some 14
    else
     some 0
   ) fun k1=>
   if (((p_p.Is.Plus==0)&&(p_p.Is.Minus==0)) != true) then
    k1 true
   else
    if p_p.Not then
     k1 true
    else
     if (p_p.Min != 0) then
      k1 true
     else
      if (p_p.Max != 0) then
       k1 true
      else
       k1 (decide (0<(p_p.L.n:Int)))
 else
  if (p_p.Kind==1) then
   lt (fun (z2:Bool)=>
    if z2 then
     some 2
    else
     (Ad N p_p.Is).bind fun y2=>
     if (!y2) then
      some 14
     else
      some 0
    ) fun k2=>
    if (((0==0)&&(0==0)) != true) then
     k2 true
    else
     if (p_p.Min != 0) then
      k2 true
     else
      if (p_p.Max != 0) then
       k2 true
      else
       k2 (decide (0<(p_p.L.n:Int)))
  else
   lt (fun (z3:Int×Int)=>
    if (((((((p_p.Is.Plus==0)&&(p_p.Is.Minus==0)) != true)||p_p.Not)||(z3.1 != 0))||(z3.2 != 0))||(decide (0<0))) then
     some 2
    else
     (Ad N p_p.Is).bind fun y3=>
     if (!y3) then
      some 14
     else
      some 0
    ) fun k3=>
    if (if (p_p.Kind==3) then p_p.Kind==3 else p_p.Kind==4) then
     k3 (p_p.Min,p_p.Max)
    else
     if (p_p.Kind==5) then
      if (((((p_p.L.n:Int) != 1)||(decide (p_p.Min<0)))||(decide (32<p_p.Min)))||((p_p.Max != (-1))&&((decide (p_p.Max<p_p.Min))||(decide (32<p_p.Max))))) then
       some 2
      else
       k3 (0,0)
     else
      some 2
theorem Mf {N:Nat}{p_p:Pat}{y:Int}(h:CQ N p_p=some y) :FunO S Gd [.p (.agg (D7 p_p))] [] (pN y) ([]) []:=by
 unfold CQ at h;refine A4 hS LU ?_;obtain⟨t1,ht1⟩:∃x:Bool,x=(if (p_p.Kind==0) then p_p.Kind==0 else (if (p_p.Kind==2) then p_p.Kind==2 else p_p.Kind==6)):=⟨_,rfl⟩;refine TO hS trivial (A7 hS) 0 ⟨[(8,pB t1),(7,pN p_p.Kind),(3,.reg 4000 0),(1,.reg 2000 0)],[(4000,.cells [pN 0,pU p_p.Is.Plus,pU p_p.Is.Minus,pB p_p.Not,pN p_p.Min,pN p_p.Max,.p (.sl false 7 p_p.L.n (EX p_p))]),(2000,.cells ((D7 p_p).map .p))]⟩ (fun M1 hb1=>?_) ?_
 ·refine D9 hS trivial (b:=p_p.Kind==0) (fun c3=>?_) (fun c3=>?_)
  ·exact hb1 _ [(2000,2000),(4000,4000)] _ trivial (hle:=klR [(0,.eq (.bb (p_p.Kind==0)) (.bb t1))] (al1 (by simp only[ht1,c3,Leaf.ok,pm,if_true,if_false]) al0))
  ·refine D9 hS trivial (b:=p_p.Kind==2) (fun c4=>?_) (fun c4=>?_)
   ·exact hb1 _ [(2000,2000),(4000,4000)] _ trivial (hle:=klR [(0,.eq (.bb (p_p.Kind==2)) (.bb t1))] (al1 (by simp only[ht1,c3,c4,Leaf.ok,pm,if_true,if_false]) al0))
   ·exact hb1 _ [(2000,2000),(4000,4000)] _ trivial (hle:=klR [(0,.eq (.bb (p_p.Kind==6)) (.bb t1))] (al1 (by simp only[ht1,c3,c4,Leaf.ok,pm,if_true,if_false]) al0))
 ·subst ht1;refine kI hS h (fun h=>?_) (fun h=>?_)
  ·refine Kr hS (by decide +kernel:ZC Tryz.prog D8=true) (A7 hS) h 0 (fun z1=>⟨[(57,pB z1),(1,.reg 2000 0)],[(2000,.cells ((D7 p_p).map .p))]⟩) (fun M3 k1 hb3 h=>?_) (fun z1 h=>?_)
   ·refine kG hS h (fun h=>?_) (fun h=>?_)
    ·exact hb3 _ [(2000,2000)] _ true trivial h
    ·refine kG hS h (fun h=>?_) (fun h=>?_)
     ·exact hb3 _ [(2000,2000)] _ true trivial h
     ·refine kG hS h (fun h=>?_) (fun h=>?_)
      ·exact hb3 _ [(2000,2000)] _ true trivial h
      ·refine kG hS h (fun h=>?_) (fun h=>?_)
       ·exact hb3 _ [(2000,2000)] _ true trivial h
       ·refine W7 hS trivial 79 ⟨[(78,.p (vSl 7 D7 p_p.L)),(76,.p (.v (.bool false))),(1,.reg 2000 0)],[(2000,.cells ((D7 p_p).map .p))]⟩ (ids:=[(2000,2000)]) ?_ (hle:=klR [(0,.fn p_p.L.n p_p.L.n (EX p_p) (fun i=>D7 (p_p.L.g i)))] (al1 ⟨rfl,DQ p_p⟩ al0));exact hb3 _ [(2000,2000)] _ (decide (0<(p_p.L.n:Int))) trivial h
   ·refine kI hS h (fun h=>?_) (fun h=>?_)
    ·cases h;exact kR hS
    ·refine kC hS h (CA hS hL) (fun y1 h=>?_);refine kI hS h (fun h=>?_) (fun h=>?_)
     ·cases h;exact kR hS
     ·cases h;exact kR hS
  ·refine kI hS h (fun h=>?_) (fun h=>?_)
   ·refine Kr hS (by decide +kernel:ZC Tryz.prog D8=true) (A7 hS) h 0 (fun z2=>⟨[(57,pB z2),(1,.reg 2000 0)],[(2000,.cells ((D7 p_p).map .p))]⟩) (fun M5 k2 hb5 h=>?_) (fun z2 h=>?_)
    ·refine kG hS h (fun h=>?_) (fun h=>?_)
     ·exact hb5 _ [(2000,2000)] _ true trivial h
     ·refine NL hS trivial (b:=false) (fun c54=>?_) (fun c54=>?_)
      ·exact Bool.noConfusion ((rfl:false=false).symm.trans c54)
      ·refine kG hS h (fun h=>?_) (fun h=>?_)
       ·exact hb5 _ [(2000,2000)] _ true trivial h
       ·refine kG hS h (fun h=>?_) (fun h=>?_)
        ·exact hb5 _ [(2000,2000)] _ true trivial h
        ·refine W7 hS trivial 79 ⟨[(78,.p (vSl 7 D7 p_p.L)),(76,.p (.v (.bool false))),(1,.reg 2000 0)],[(2000,.cells ((D7 p_p).map .p))]⟩ (ids:=[(2000,2000)]) ?_ (hle:=klR [(0,.fn p_p.L.n p_p.L.n (EX p_p) (fun i=>D7 (p_p.L.g i)))] (al1 ⟨rfl,DQ p_p⟩ al0));exact hb5 _ [(2000,2000)] _ (decide (0<(p_p.L.n:Int))) trivial h
    ·refine kI hS h (fun h=>?_) (fun h=>?_)
     ·cases h;exact kR hS
     ·refine kC hS h (CA hS hL) (fun y2 h=>?_);refine kI hS h (fun h=>?_) (fun h=>?_)
      ·cases h;exact kR hS
      ·cases h;exact kR hS
   ·obtain⟨t4,ht4⟩:∃x:Bool,x=(if (p_p.Kind==3) then p_p.Kind==3 else p_p.Kind==4):=⟨_,rfl⟩;refine TO hS trivial (A7 hS) 0 ⟨[(17,pB t4),(7,pN p_p.Kind),(3,.reg 4000 0),(1,.reg 2000 0)],[(4000,.cells [pN 0,pU p_p.Is.Plus,pU p_p.Is.Minus,pB p_p.Not,pN p_p.Min,pN p_p.Max,.p (.sl false 7 p_p.L.n (EX p_p))]),(2000,.cells ((D7 p_p).map .p))]⟩ (fun M6 hb6=>?_) ?_
    ·refine D9 hS trivial (b:=p_p.Kind==3) (fun c60=>?_) (fun c60=>?_)
     ·exact hb6 _ [(2000,2000),(4000,4000)] _ trivial (hle:=klR [(0,.eq (.bb (p_p.Kind==3)) (.bb t4))] (al1 (by simp only[ht4,c60,Leaf.ok,pm,if_true,if_false]) al0))
     ·exact hb6 _ [(2000,2000),(4000,4000)] _ trivial (hle:=klR [(0,.eq (.bb (p_p.Kind==4)) (.bb t4))] (al1 (by simp only[ht4,c60,Leaf.ok,pm,if_true,if_false]) al0))
    ·subst ht4;refine Kr hS trivial (A7 hS) h 0 (fun z3=>⟨[(3,.reg 4000 0),(1,.reg 2000 0)],[(4000,.cells [pN 0,pU p_p.Is.Plus,pU p_p.Is.Minus,pB p_p.Not,pN z3.1,pN z3.2,.p K5]),(2000,.cells ((D7 p_p).map .p))]⟩) (fun M7 k3 hb7 h=>?_) (fun z3 h=>?_)
     ·refine kI hS h (fun h=>?_) (fun h=>?_)
      ·exact hb7 _ [(2000,2000),(4000,4000)] _ (p_p.Min,p_p.Max) trivial h
      ·refine kI hS h (fun h=>?_) (fun h=>?_)
       ·refine W7 hS trivial 25 ⟨[(24,.p (vSl 7 D7 p_p.L)),(3,.reg 4000 0),(1,.reg 2000 0)],[(4000,.cells [pN 0,pU p_p.Is.Plus,pU p_p.Is.Minus,pB p_p.Not,pN p_p.Min,pN p_p.Max,.p (.sl false 7 p_p.L.n (EX p_p))]),(2000,.cells ((D7 p_p).map .p))]⟩ (ids:=[(2000,2000),(4000,4000)]) ?_ (hle:=klR [(0,.fn p_p.L.n p_p.L.n (EX p_p) (fun i=>D7 (p_p.L.g i)))] (al1 ⟨rfl,DQ p_p⟩ al0));refine kB hS (A7 hS) trivial trivial 26 (.o (.o (.o (.a ((p_p.L.n:Int) != 1)) (.a (decide (p_p.Min<0)))) (.a (decide (32<p_p.Min)))) (.n (.a (p_p.Max != (-1))) (.o (.a (decide (p_p.Max<p_p.Min))) (.a (decide (32<p_p.Max)))))) ?_;refine kI hS h (fun h=>?_) (fun h=>?_)
        ·cases h;exact kR hS
        ·exact hb7 _ [(2000,2000),(4000,4000)] _ (0,0) trivial h
       ·cases h;exact kR hS
     ·refine kB hS (A7 hS) (by decide +kernel:ZC Tryz.prog D8=true) trivial 19 (.o (.o (.o (.o (.a (((p_p.Is.Plus==0)&&(p_p.Is.Minus==0)) != true)) (.a p_p.Not)) (.a (z3.1 != 0))) (.a (z3.2 != 0))) (.a (decide (0<0)))) ?_;refine kI hS h (fun h=>?_) (fun h=>?_)
      ·cases h;exact kR hS
      ·refine kC hS h (CA hS hL) (fun y3 h=>?_);refine kI hS h (fun h=>?_) (fun h=>?_)
       ·cases h;exact kR hS
       ·cases h;exact kR hS
end Go.AM
namespace Go.AM
open IntKind (wrap)
open Go.Proofs
set_option maxRecDepth 10000
set_option maxHeartbeats 2000000
variable {S:Y7}(hS:H0 S Tryz.prog) (hL:Oo S)
include hS hL
def Uf (N:Nat)(p_s:Str):Option Bool:=
 Co N (fun self1 (x1:Int)=>
  if (decide (x1<(p_s.length:Int))) then
   if ((0:Int)<=x1/\x1<(p_s.length:Int))then
    if (!(((((decide (97<=(IO p_s x1)))&&(decide ((IO p_s x1)<=122)))||((decide (65<=(IO p_s x1)))&&(decide ((IO p_s x1)<=90))))||((decide (48<=(IO p_s x1)))&&(decide ((IO p_s x1)<=57))))||((IO p_s x1)==45))) then
     some false
    else
     self1 (wrap .i64 (x1+1))
   else none
  else
   some ((decide (1<=(p_s.length:Int)))&&(decide ((p_s.length:Int)<=24)))
  ) 0
end Go.AM
namespace Go.AM
open IntKind (wrap)
open Go.Proofs
set_option maxRecDepth 10000
set_option maxHeartbeats 2000000
variable {S:Y7}(hS:H0 S Tryz.prog) (hL:Oo S)
include hS hL
def R9 (N:Nat)(q0:Int):Option (List (Int)):=
 Co N (fun self1 (x1:Int)=>
  if (x1 != 0) then
   (F3 N x1).bind fun y3=>
   if (0:Int)<=y3 then
    Hj y3 (
     self1 (A9 .andNot .u64 x1 (shI .shl .u64 1 y3))
     )
   else none
  else
   some []
  ) q0
theorem Bn {N:Nat}{q0:Int}{L:List (Int)}(h:R9 N q0=some L) :DI S Y8 [] [.reg 0 0] [.cells [.p (pI .u64 q0)]] (L.map (fun (x:Int)=>[pI .i64 x])):=by
 unfold R9 at h;refine DM hS Ey ?_;refine EV hS trivial h (fun x1 L1=>⟨[(1,.reg 0 0),(0,.yf 1)],[(1,.yld (L1.map (fun (x:Int)=>[pI .i64 x])) true),(0,.cells [.p (pI .u64 x1)])]⟩) (ids:=[(0,0),(1,1)]) (fun _ _ _ _ _ self1 x1 L1 hb1 h=>?_);refine kI hS h (fun h=>?_) (fun h=>?_)
 ·refine kC hS h (T6 hS hL) (fun y3 h=>?_);refine EU hS trivial ?_;obtain⟨c10,h⟩:=G9 h;refine J2 c10 ?_;obtain⟨L4,rfl,hcL4⟩:=Kt h;replace h:=hcL4;refine BX hS trivial (ys:=(fun (x:Int)=>[pI .i64 x]) y3) (rest:=L4.map (fun (x:Int)=>[pI .i64 x])) ?_ ?_
  ·refine D9 hS trivial (b:=false) (fun c11=>?_) (fun c11=>?_)
   ·exact Bool.noConfusion ((rfl:false=false).symm.trans c11)
   ·exact hb1 _ [(0,0),(1,1)] _ (A9 .andNot .u64 x1 (shI .shl .u64 1 y3)) L4 trivial h
  ·refine D9 hS trivial (b:=true) (fun c12=>?_) (fun c12=>?_)
   ·exact A6 hS trivial (a:=.tup []) (objs:=[(.cells [.p (pI .u64 (A9 .andNot .u64 x1 (shI .shl .u64 1 y3)))]),.yld [] false]) ⟨[],[(1,.yld [] false),(0,.cells [.p (pI .u64 (A9 .andNot .u64 x1 (shI .shl .u64 1 y3)))])]⟩ [0,1] (ids:=[(0,0),(1,1)]) ⟨false,rfl,rfl,_,rfl⟩
   ·exact Bool.noConfusion ((rfl:true=true).symm.trans c12)
 ·obtain rfl:=B8 h;exact A6 hS trivial (a:=.tup []) (objs:=[(.cells [.p (pI .u64 x1)]),.yld [] true]) ⟨[],[(1,.yld [] true),(0,.cells [.p (pI .u64 x1)])]⟩ [0,1] (ids:=[(0,0),(1,1)]) ⟨true,rfl,rfl,_,rfl⟩
def Y5 (N:Nat)(p_s:Int):Option (Int):=
 some p_s
theorem CR {N:Nat}{p_s:Int}{y:Int}(h:Y5 N p_s=some y) :FunO S Gg [.p (pI .u64 p_s)] [] (.clo Y8 [] [.reg 0 0]) ([.cells [.p (pI .u64 y)]]) []:=by unfold Y5 at h;refine A4 hS LZ ?_;obtain rfl:=B8 h;exact A6 hS trivial ⟨[(2,.clo Y8 [] [.reg 2000 0])],[(2000,.cells [.p (pI .u64 p_s)])]⟩ [2000] (ids:=[(2000,2000)]) ⟨rfl,rfl,rfl⟩
def I5 (N:Nat)(p_x:Nat->Int)(p_y:Nat->Int):Option (Nat->Int):=
 Dq N (fun self3 (x3:Nat->Int) (x4:Int)=>
  if (decide (x4<33)) then
   if (((0:Int)<=x4/\x4<33)/\(0+x4.toNat*1)<33)then
    (Y5 N (p_x (0+x4.toNat*1))).bind fun y3=>
    (R9 N y3).bind fun L3=>
    S7 L3 (fun self4 (x7:Int) (z3:Nat->Int)=>
     if (((((((0:Int)<=x4/\x4<33)/\(0+x4.toNat*1)<33)/\((0:Int)<=x7/\x7<33))/\(0+x7.toNat*1)<33)/\((0:Int)<=x4/\x4<33))/\(0+x4.toNat*1)<33)then
      self4 (IP z3 (0+x4.toNat*1) (A9 .or .u64 (z3 (0+x4.toNat*1)) (p_y (0+x7.toNat*1))))
     else none
     ) (fun (z3:Nat->Int)=>
      self3 z3 (wrap .i64 (x4+1))
     ) x3
   else none
  else
   some x3
  ) (fun _=>0) 0
theorem Q1 {N:Nat}{p_x:Nat->Int}{p_y:Nat->Int}{y:Nat->Int}(h:I5 N p_x p_y=some y) :FunO S X1 [.reg 0 0,.reg 1 0] [.arr 33 (fun i=>pI .u64 (p_x i)),.arr 33 (fun i=>pI .u64 (p_y i))] (.p (.agg (cA 33 (pI .u64) y))) ([.arr 33 (fun i=>pI .u64 (p_x i)),.arr 33 (fun i=>pI .u64 (p_y i))]) [true,true]:=by
 unfold I5 at h;refine A4 hS Bx ?_;refine N0 hS trivial h (fun x3 x4=>⟨[(10,pN x4),(9,.reg 0 0),(5,.reg 6000 0),(4,.reg 5000 0),(3,.reg 4000 0)],[(6000,.arr 33 (fun i=>pI .u64 (x3 i))),(5000,.arr 33 (fun i=>pI .u64 ((fun _=>0) i))),(4000,.cells [.reg 1 0]),(1,.arr 33 (fun i=>pI .u64 (p_y i))),(0,.arr 33 (fun i=>pI .u64 (p_x i)))]⟩) (ids:=[(0,0),(1,1),(4000,4000),(5000,5000),(6000,6000)]) (fun _ _ _ _ _ self3 x3 x4 hb3 h=>?_) (hle:=klR [(1,.fn 33 33 (fun i=>[(fun i=>(List.replicate 33 (pI .u64 0)).getD i default) i]) (fun i=>[pI .u64 ((fun _=>0) i)])),(2,.fn 33 33 (fun i=>[(fun i=>(List.replicate 33 (pI .u64 0)).getD i default) i]) (fun i=>[pI .u64 ((fun _=>0) i)]))] (al1 ⟨rfl,An (z:=pI .u64 0) rfl⟩ (al1 ⟨rfl,An (z:=pI .u64 0) rfl⟩ al0)));refine kI hS h (fun h=>?_) (fun h=>?_)
 ·refine U7 hS trivial [(2,.l [0]),(3,.l [0]),(4,.a [7000]),(5,.a [7000])] ?_;obtain⟨c12,h⟩:=G9 h;refine J2 c12 ?_;refine H5 hS trivial 16 7000 [pI .i64 x4] ?_;refine kC hS h (CR hS hL) (fun y3 h=>?_);obtain⟨L3,e6,h⟩:=B5 h;refine DN hS trivial [18000] [10,9,6,5,4,3] 905 (fun z3=>⟨[(10,pN x4),(9,.reg 0 0),(6,.p (.ptr [pI .i64 x4])),(5,.reg 6000 0),(4,.reg 5000 0),(3,.reg 4000 0)],[(6000,.arr 33 (fun i=>pI .u64 (z3 i))),(5000,.arr 33 (fun i=>pI .u64 ((fun _=>0) i))),(4000,.cells [.reg 1 0]),(1,.arr 33 (fun i=>pI .u64 (p_y i))),(0,.arr 33 (fun i=>pI .u64 (p_x i)))]⟩) (idl:=[(0,0),(1,1),(4000,4000),(5000,5000),(6000,6000)]) h (Bn hS hL e6) (fun _=>by kernel_rfl) (fun _=>by kernel_rfl) (fun _=>by kernel_rfl) (fun _=>by kernel_rfl) (fun x7 _ self4 z3 hb4 h=>?_) (fun z3 h=>?_)
  ·refine Hk hS trivial ?_;refine U7 hS trivial [(0,.n),(1,.l [6000]),(2,.l [6000]),(3,.l [4000]),(6,.l [1]),(7,.l [1]),(9,.l [6000]),(10,.a [6000])] ?_;obtain⟨c15,h⟩:=G9 h;refine J2 c15 ?_;exact hb4 _ [(0,0),(1,1),(905,905),(4000,4000),(5000,5000),(6000,6000)] _ (IP z3 (0+x4.toNat*1) (A9 .or .u64 (z3 (0+x4.toNat*1)) (p_y (0+x7.toNat*1)))) trivial h (hle:=klR [(0,.fn 33 33 (fun i=>[(fun i=>if i=(0+x4.toNat*1)then (pI .u64 (A9 .or .u64 (z3 (0+x4.toNat*1)) (p_y (0+x7.toNat*1))))else (fun i=>pI .u64 (z3 i)) i) i]) (fun i=>[pI .u64 (IP z3 (0+x4.toNat*1) (A9 .or .u64 (z3 (0+x4.toNat*1)) (p_y (0+x7.toNat*1))) i)]))] (al1 ⟨rfl,Yg (c:=pI .u64) (v:=z3) (x:=A9 .or .u64 (z3 (0+x4.toNat*1)) (p_y (0+x7.toNat*1))) (fun _ _=>rfl) rfl⟩ al0))
  ·exact hb3 _ [(0,0),(1,1),(4000,4000),(5000,5000),(6000,6000)] _ z3 (wrap .i64 (x4+1)) trivial h
 ·obtain rfl:=B8 h;exact A6 hS (And.intro rfl (E2 _ _):(0:Nat)=0/\(Ah 33 (fun i=>pI .u64 (x3 i))).length=33) ⟨[(4,.reg 5000 0)],[(5000,.arr 33 (fun i=>pI .u64 (x3 i))),(1,.arr 33 (fun i=>pI .u64 (p_y i))),(0,.arr 33 (fun i=>pI .u64 (p_x i)))]⟩ [0,1] (ids:=[(0,0),(1,1),(5000,5000)]) ⟨rfl,rfl,rfl⟩ (hle:=klR [(0,.fn 33 33 (fun i=>[(fun i=>(cA 33 (pI .u64) x3).getD i default) i]) (fun i=>[pI .u64 (x3 i)]))] (al1 ⟨rfl,D2 33 (fun i=>pI .u64 (x3 i))⟩ al0))
def P1 (N:Nat)(p_x:Nat->Int):Option (Nat->Int):=
 Dq N (fun self3 (x3:Nat->Int) (x4:Int)=>
  if (decide (x4<33)) then
   if (((0:Int)<=x4/\x4<33)/\(0+x4.toNat*1)<33)then
    (Y5 N (p_x (0+x4.toNat*1))).bind fun y3=>
    (R9 N y3).bind fun L3=>
    S7 L3 (fun self4 (x7:Int) (z3:Nat->Int)=>
     if (((((((0:Int)<=x4/\x4<33)/\(0+x4.toNat*1)<33)/\((0:Int)<=x7/\x7<33))/\(0+x7.toNat*1)<33)/\((0:Int)<=x4/\x4<33))/\(0+x4.toNat*1)<33)then
      self4 (IP z3 (0+x4.toNat*1) (A9 .or .u64 (z3 (0+x4.toNat*1)) (p_x (0+x7.toNat*1))))
     else none
     ) (fun (z3:Nat->Int)=>
      self3 z3 (wrap .i64 (x4+1))
     ) x3
   else none
  else
   some x3
  ) (fun _=>0) 0
theorem Ba {N:Nat}{p_x:Nat->Int}{y:Nat->Int}(h:P1 N p_x=some y) :FunO S X1 [.reg 0 0,.reg 0 0] [.arr 33 (fun i=>pI .u64 (p_x i))] (.p (.agg (cA 33 (pI .u64) y))) ([.arr 33 (fun i=>pI .u64 (p_x i))]) [true]:=by
 unfold P1 at h;refine A4 hS Bx ?_;refine N0 hS trivial h (fun x3 x4=>⟨[(10,pN x4),(9,.reg 0 0),(5,.reg 6000 0),(4,.reg 5000 0),(3,.reg 4000 0)],[(6000,.arr 33 (fun i=>pI .u64 (x3 i))),(5000,.arr 33 (fun i=>pI .u64 ((fun _=>0) i))),(4000,.cells [.reg 0 0]),(0,.arr 33 (fun i=>pI .u64 (p_x i)))]⟩) (ids:=[(0,0),(4000,4000),(5000,5000),(6000,6000)]) (fun _ _ _ _ _ self3 x3 x4 hb3 h=>?_) (hle:=klR [(1,.fn 33 33 (fun i=>[(fun i=>(List.replicate 33 (pI .u64 0)).getD i default) i]) (fun i=>[pI .u64 ((fun _=>0) i)])),(2,.fn 33 33 (fun i=>[(fun i=>(List.replicate 33 (pI .u64 0)).getD i default) i]) (fun i=>[pI .u64 ((fun _=>0) i)]))] (al1 ⟨rfl,An (z:=pI .u64 0) rfl⟩ (al1 ⟨rfl,An (z:=pI .u64 0) rfl⟩ al0)));refine kI hS h (fun h=>?_) (fun h=>?_)
 ·refine U7 hS trivial [(2,.l [0]),(3,.l [0]),(4,.a [7000]),(5,.a [7000])] ?_;obtain⟨c12,h⟩:=G9 h;refine J2 c12 ?_;refine H5 hS trivial 16 7000 [pI .i64 x4] ?_;refine kC hS h (CR hS hL) (fun y3 h=>?_);obtain⟨L3,e6,h⟩:=B5 h;refine DN hS trivial [18000] [10,9,6,5,4,3] 905 (fun z3=>⟨[(10,pN x4),(9,.reg 0 0),(6,.p (.ptr [pI .i64 x4])),(5,.reg 6000 0),(4,.reg 5000 0),(3,.reg 4000 0)],[(6000,.arr 33 (fun i=>pI .u64 (z3 i))),(5000,.arr 33 (fun i=>pI .u64 ((fun _=>0) i))),(4000,.cells [.reg 0 0]),(0,.arr 33 (fun i=>pI .u64 (p_x i)))]⟩) (idl:=[(0,0),(4000,4000),(5000,5000),(6000,6000)]) h (Bn hS hL e6) (fun _=>by kernel_rfl) (fun _=>by kernel_rfl) (fun _=>by kernel_rfl) (fun _=>by kernel_rfl) (fun x7 _ self4 z3 hb4 h=>?_) (fun z3 h=>?_)
  ·refine Hk hS trivial ?_;refine U7 hS trivial [(0,.n),(1,.l [6000]),(2,.l [6000]),(3,.l [4000]),(6,.l [0]),(7,.l [0]),(9,.l [6000]),(10,.a [6000])] ?_;obtain⟨c15,h⟩:=G9 h;refine J2 c15 ?_;exact hb4 _ [(0,0),(905,905),(4000,4000),(5000,5000),(6000,6000)] _ (IP z3 (0+x4.toNat*1) (A9 .or .u64 (z3 (0+x4.toNat*1)) (p_x (0+x7.toNat*1)))) trivial h (hle:=klR [(0,.fn 33 33 (fun i=>[(fun i=>if i=(0+x4.toNat*1)then (pI .u64 (A9 .or .u64 (z3 (0+x4.toNat*1)) (p_x (0+x7.toNat*1))))else (fun i=>pI .u64 (z3 i)) i) i]) (fun i=>[pI .u64 (IP z3 (0+x4.toNat*1) (A9 .or .u64 (z3 (0+x4.toNat*1)) (p_x (0+x7.toNat*1))) i)]))] (al1 ⟨rfl,Yg (c:=pI .u64) (v:=z3) (x:=A9 .or .u64 (z3 (0+x4.toNat*1)) (p_x (0+x7.toNat*1))) (fun _ _=>rfl) rfl⟩ al0))
  ·exact hb3 _ [(0,0),(4000,4000),(5000,5000),(6000,6000)] _ z3 (wrap .i64 (x4+1)) trivial h
 ·obtain rfl:=B8 h;exact A6 hS (And.intro rfl (E2 _ _):(0:Nat)=0/\(Ah 33 (fun i=>pI .u64 (x3 i))).length=33) ⟨[(4,.reg 5000 0)],[(5000,.arr 33 (fun i=>pI .u64 (x3 i))),(0,.arr 33 (fun i=>pI .u64 (p_x i)))]⟩ [0] (ids:=[(0,0),(5000,5000)]) ⟨rfl,rfl,rfl⟩ (hle:=klR [(0,.fn 33 33 (fun i=>[(fun i=>(cA 33 (pI .u64) x3).getD i default) i]) (fun i=>[pI .u64 (x3 i)]))] (al1 ⟨rfl,D2 33 (fun i=>pI .u64 (x3 i))⟩ al0))
def K0 (N:Nat)(p_x:Nat->Int)(p_k:Int)(p_n:Int):Option (Nat->Int):=
 (T7 N p_n).bind fun y1=>
 WZ N (fun self1 (x1:Int) (x2:Nat->Int) (x3:Nat->Int)=>
  if (decide (0<x1)) then
   if ((A9 .and .i64 x1 1)==1) then
    (I5 N x3 x2).bind fun y8=>
    (P1 N x2).bind fun y9=>
    self1 (shI .shr .i64 x1 1) y9 y8
   else
    (P1 N x2).bind fun y10=>
    self1 (shI .shr .i64 x1 1) y10 x3
  else
   some x3
  ) p_k p_x y1
theorem T8 {N:Nat}{p_x:Nat->Int}{p_k:Int}{p_n:Int}{y:Nat->Int}(h:K0 N p_x p_k p_n=some y) :FunO S AY [.p (.agg (cA 33 (pI .u64) p_x)),pN p_k,pN p_n] [] (.p (.agg (cA 33 (pI .u64) y))) ([]) []:=by
 unfold K0 at h;refine A4 hS Fj ?_;refine kC hS h (Cd hS hL) (fun y1 h=>?_);refine Ks hS (And.intro rfl (E2 _ _):(0:Nat)=0/\(Ah 33 (fun i=>pI .u64 (y1 i))).length=33) h (fun x1 x2 x3=>⟨[(7,.reg 8000 0),(6,.reg 7000 0),(3,.reg 4000 0),(1,pN x1)],[(8000,.arr 33 (fun i=>pI .u64 (x3 i))),(7000,.arr 33 (fun i=>pI .u64 ((fun _=>0) i))),(4000,.arr 33 (fun i=>pI .u64 (x2 i)))]⟩) (ids:=[(4000,4000),(7000,7000),(8000,8000)]) (fun _ _ _ _ _ self1 x1 x2 x3 hb1 h=>?_) (hle:=klR [(1,.fn 33 33 (fun i=>[(fun i=>(cA 33 (pI .u64) y1).getD i default) i]) (fun i=>[pI .u64 (y1 i)])),(2,.fn 33 33 (fun i=>[(fun i=>(List.replicate 33 (pI .u64 0)).getD i default) i]) (fun i=>[pI .u64 ((fun _=>0) i)])),(3,.fn 33 33 (fun i=>[(fun i=>(cA 33 (pI .u64) p_x).getD i default) i]) (fun i=>[pI .u64 (p_x i)]))] (al1 ⟨rfl,D2 33 (fun i=>pI .u64 (y1 i))⟩ (al1 ⟨rfl,An (z:=pI .u64 0) rfl⟩ (al1 ⟨rfl,D2 33 (fun i=>pI .u64 (p_x i))⟩ al0))));refine kI hS h (fun h=>?_) (fun h=>?_)
 ·refine kI hS h (fun h=>?_) (fun h=>?_)
  ·obtain⟨y8,e8,h⟩:=B5 h;refine B7 hS [8000,4000] trivial (Q1 hS hL e8) ?_;obtain⟨y9,e9,h⟩:=B5 h;refine B7 hS [4000] (And.intro rfl (E2 _ _):(0:Nat)=0/\(Ah 33 (fun i=>pI .u64 (y8 i))).length=33) (Ba hS hL e9) ?_;exact hb1 _ [(4000,4000),(7000,7000),(8000,8000)] _ (shI .shr .i64 x1 1) y9 y8 (And.intro (And.intro rfl (E2 _ _):(0:Nat)=0/\(Ah 33 (fun i=>pI .u64 (y9 i))).length=33) (by decide:(0:Int)<=1)) h (hle:=klR [(1,.fn 33 33 (fun i=>[(fun i=>(cA 33 (pI .u64) y8).getD i default) i]) (fun i=>[pI .u64 (y8 i)])),(3,.fn 33 33 (fun i=>[(fun i=>(cA 33 (pI .u64) y9).getD i default) i]) (fun i=>[pI .u64 (y9 i)]))] (al1 ⟨rfl,D2 33 (fun i=>pI .u64 (y8 i))⟩ (al1 ⟨rfl,D2 33 (fun i=>pI .u64 (y9 i))⟩ al0)))
  ·obtain⟨y10,e10,h⟩:=B5 h;refine B7 hS [4000] trivial (Ba hS hL e10) ?_;exact hb1 _ [(4000,4000),(7000,7000),(8000,8000)] _ (shI .shr .i64 x1 1) y10 x3 (And.intro (And.intro rfl (E2 _ _):(0:Nat)=0/\(Ah 33 (fun i=>pI .u64 (y10 i))).length=33) (by decide:(0:Int)<=1)) h (hle:=klR [(3,.fn 33 33 (fun i=>[(fun i=>(cA 33 (pI .u64) y10).getD i default) i]) (fun i=>[pI .u64 (y10 i)]))] (al1 ⟨rfl,D2 33 (fun i=>pI .u64 (y10 i))⟩ al0))
 ·obtain rfl:=B8 h;exact A6 hS (And.intro rfl (E2 _ _):(0:Nat)=0/\(Ah 33 (fun i=>pI .u64 (x3 i))).length=33) ⟨[(6,.reg 7000 0)],[(7000,.arr 33 (fun i=>pI .u64 (x3 i)))]⟩ [] (ids:=[(7000,7000)]) ⟨rfl,rfl,rfl⟩ (hle:=klR [(0,.fn 33 33 (fun i=>[(fun i=>(cA 33 (pI .u64) x3).getD i default) i]) (fun i=>[pI .u64 (x3 i)]))] (al1 ⟨rfl,D2 33 (fun i=>pI .u64 (x3 i))⟩ al0))
end Go.AM
namespace Go.AM
open IntKind (wrap)
open Go.Proofs
set_option maxRecDepth 10000
set_option maxHeartbeats 2000000
variable {S:Y7}(hS:H0 S Tryz.prog) (hL:Oo S)
include hS hL
def Ce (N:Nat)(p_x:VH)(p_w:Sl A2):Option (Nat->Int):=
 Dq N (fun self1 (x1:Nat->Int) (x2:Int)=>
  if (decide (x2<(p_w.n:Int))) then
   if ((0:Int)<=x2/\x2<(p_w.n:Int))then
    if ((((A9 .or .u32 (A9 .andNot .u32 p_x.is.Plus (p_w.g x2.toNat).Plus) (A9 .andNot .u32 p_x.is.Minus (p_w.g x2.toNat).Minus))==0)==p_x.not) != true) then
     if (((0:Int)<=(wrap .i64 (x2+1))/\((0:Int)<=x2/\x2<33))/\(0+x2.toNat*1)<33)then
      self1 (IP x1 (0+x2.toNat*1) (shI .shl .u64 1 (wrap .i64 (x2+1)))) (wrap .i64 (x2+1))
     else none
    else
     self1 x1 (wrap .i64 (x2+1))
   else none
  else
   some x1
  ) (fun _=>0) 0
theorem Lb {N:Nat}{p_x:VH}{p_w:Sl A2}{y:Nat->Int}(h:Ce N p_x p_w=some y) :FunO S Cc [.p (.agg (SO p_x)),.p (vSl 2 A0 p_w)] [] (.p (.agg (cA 33 (pI .u64) y))) ([]) []:=by
 unfold Ce at h;refine A4 hS KV ?_;refine N0 hS trivial h (fun x1 x2=>⟨[(9,pN x2),(8,pN (p_w.n:Int)),(7,.p (vSl 2 A0 p_w)),(4,.reg 5000 0),(2,.reg 3000 0)],[(5000,.arr 33 (fun i=>pI .u64 (x1 i))),(3000,.cells ((SO p_x).map .p))]⟩) (ids:=[(3000,3000),(5000,5000)]) (fun _ _ _ _ _ self1 x1 x2 hb1 h=>?_) (hle:=klR [(3,.fn 33 33 (fun i=>[(fun i=>(List.replicate 33 (pI .u64 0)).getD i default) i]) (fun i=>[pI .u64 ((fun _=>0) i)]))] (al1 ⟨rfl,An (z:=pI .u64 0) rfl⟩ al0));refine kI hS h (fun h=>?_) (fun h=>?_)
 ·obtain⟨c8,h⟩:=G9 h;refine D9 hS (And.intro c8 (by decide:(2:Nat)<=2)) (b:=(((A9 .or .u32 (A9 .andNot .u32 p_x.is.Plus (p_w.g x2.toNat).Plus) (A9 .andNot .u32 p_x.is.Minus (p_w.g x2.toNat).Minus))==0)==p_x.not) != true) (fun c9=>?_) (fun c9=>?_)
  ·replace h:=itT c9 h;obtain⟨c10,h⟩:=G9 h;exact hb1 _ [(3000,3000),(5000,5000)] _ (IP x1 (0+x2.toNat*1) (shI .shl .u64 1 (wrap .i64 (x2+1)))) (wrap .i64 (x2+1)) c10 h (hle:=klR [(3,.fn 33 33 (fun i=>[(fun i=>if i=(0+x2.toNat*1)then (pI .u64 (shI .shl .u64 1 (wrap .i64 (x2+1))))else (fun i=>pI .u64 (x1 i)) i) i]) (fun i=>[pI .u64 (IP x1 (0+x2.toNat*1) (shI .shl .u64 1 (wrap .i64 (x2+1))) i)]))] (al1 ⟨rfl,Yg (c:=pI .u64) (v:=x1) (x:=shI .shl .u64 1 (wrap .i64 (x2+1))) (fun _ _=>rfl) rfl⟩ al0))
  ·replace h:=itF c9 h;exact hb1 _ [(3000,3000),(5000,5000)] _ x1 (wrap .i64 (x2+1)) trivial h
 ·obtain rfl:=B8 h;exact A6 hS (And.intro rfl (E2 _ _):(0:Nat)=0/\(Ah 33 (fun i=>pI .u64 (x1 i))).length=33) ⟨[(4,.reg 5000 0)],[(5000,.arr 33 (fun i=>pI .u64 (x1 i)))]⟩ [] (ids:=[(5000,5000)]) ⟨rfl,rfl,rfl⟩ (hle:=klR [(0,.fn 33 33 (fun i=>[(fun i=>(cA 33 (pI .u64) x1).getD i default) i]) (fun i=>[pI .u64 (x1 i)]))] (al1 ⟨rfl,D2 33 (fun i=>pI .u64 (x1 i))⟩ al0))
def CS (N:Nat)(p_x:Zm)(p_w:Sl A2):Option (Nat->Int):=
 if p_x.end_ then
  if (((0:Int)<=(p_w.n:Int)/\((0:Int)<=(p_w.n:Int)/\(p_w.n:Int)<33))/\(0+(p_w.n:Int).toNat*1)<33)then
   some (IP (fun _=>0) (0+(p_w.n:Int).toNat*1) (shI .shl .u64 1 (p_w.n:Int)))
  else none
 else
  if (((0:Int)<=0/\(0:Int)<33)/\(0+0*1)<33)then
   some (IP (fun _=>0) (0+0*1) (shI .shl .u64 1 0))
  else none
theorem Mg {N:Nat}{p_x:Zm}{p_w:Sl A2}{y:Nat->Int}(h:CS N p_x p_w=some y) :FunO S CO [.p (.agg (Zn p_x)),.p (vSl 2 A0 p_w)] [] (.p (.agg (cA 33 (pI .u64) y))) ([]) []:=by
 unfold CS at h;refine A4 hS Mb ?_;refine kI hS h (fun h=>?_) (fun h=>?_)
 ·obtain⟨c2,h⟩:=G9 h;obtain rfl:=B8 h;exact A6 hS (And.intro (And.intro (And.intro c2.1.1 c2.1.2) c2.2) (And.intro rfl (E2 _ _):(0:Nat)=0/\(Ah 33 (fun i=>if i=(0+(p_w.n:Int).toNat*1)then (pI .u64 (shI .shl .u64 1 (p_w.n:Int)))else (fun i=>(List.replicate 33 (pI .u64 0)).getD i default) i)).length=33)) ⟨[(4,.reg 5000 0)],[(5000,.arr 33 (fun i=>pI .u64 (IP (fun _=>0) (0+(p_w.n:Int).toNat*1) (shI .shl .u64 1 (p_w.n:Int)) i)))]⟩ [] (ids:=[(5000,5000)]) ⟨rfl,rfl,rfl⟩ (hle:=klR [(0,.fn 33 33 (fun i=>[(fun i=>(Ah 33 (fun i=>if i=(0+(p_w.n:Int).toNat*1)then (pI .u64 (shI .shl .u64 1 (p_w.n:Int)))else (fun i=>(List.replicate 33 (pI .u64 0)).getD i default) i)).getD i default) i]) (fun i=>[pI .u64 (IP (fun _=>0) (0+(p_w.n:Int).toNat*1) (shI .shl .u64 1 (p_w.n:Int)) i)]))] (al1 ⟨rfl,fun i hi=>(D2 33 (fun i=>if i=(0+(p_w.n:Int).toNat*1)then (pI .u64 (shI .shl .u64 1 (p_w.n:Int)))else (fun i=>(List.replicate 33 (pI .u64 0)).getD i default) i) i hi).trans (Yg (c:=pI .u64) (v:=fun _=>0) (x:=shI .shl .u64 1 (p_w.n:Int)) (An (z:=pI .u64 0) rfl) rfl i hi)⟩ al0))
 ·obtain⟨c3,h⟩:=G9 h;obtain rfl:=B8 h;exact A6 hS (And.intro (And.intro (And.intro (by decide:(0:Int)<=0) c3.1) c3.2) (And.intro rfl (E2 _ _):(0:Nat)=0/\(Ah 33 (fun i=>if i=(0+0*1)then (pI .u64 (shI .shl .u64 1 0))else (fun i=>(List.replicate 33 (pI .u64 0)).getD i default) i)).length=33)) ⟨[(4,.reg 5000 0)],[(5000,.arr 33 (fun i=>pI .u64 (IP (fun _=>0) (0+0*1) (shI .shl .u64 1 0) i)))]⟩ [] (ids:=[(5000,5000)]) ⟨rfl,rfl,rfl⟩ (hle:=klR [(0,.fn 33 33 (fun i=>[(fun i=>(Ah 33 (fun i=>if i=(0+0*1)then (pI .u64 (shI .shl .u64 1 0))else (fun i=>(List.replicate 33 (pI .u64 0)).getD i default) i)).getD i default) i]) (fun i=>[pI .u64 (IP (fun _=>0) (0+0*1) (shI .shl .u64 1 0) i)]))] (al1 ⟨rfl,fun i hi=>(D2 33 (fun i=>if i=(0+0*1)then (pI .u64 (shI .shl .u64 1 0))else (fun i=>(List.replicate 33 (pI .u64 0)).getD i default) i) i hi).trans (Yg (c:=pI .u64) (v:=fun _=>0) (x:=shI .shl .u64 1 0) (An (z:=pI .u64 0) rfl) rfl i hi)⟩ al0))
def Eb (rec:Part->(Sl A2)->Option (Nat->Int))(N:Nat)(p_x:Pseq)(p_w:Sl A2):Option (Nat->Int):=
 (T7 N (p_w.n:Int)).bind fun y1=>
 Dq N (fun self1 (x1:Nat->Int) (x2:Int)=>
  if (decide (x2<(p_x.l.n:Int))) then
   if ((0:Int)<=x2/\x2<(p_x.l.n:Int))then
    (rec (p_x.l.g x2.toNat) p_w).bind fun y6=>
    (I5 N x1 y6).bind fun y7=>
    self1 y7 (wrap .i64 (x2+1))
   else none
  else
   some x1
  ) y1 0
theorem Ot {N:Nat}{rec:Part->(Sl A2)->Option ((Nat->Int))}(hrec:∀{x:Part}{b0:(Sl A2)}{y:(Nat->Int)},rec x b0=some y->Ac6 S Tryz.prog (EY x) "ablaut/pats.in" [(.p (vSl 2 A0 b0))] (.p (.agg (cA 33 (pI .u64) y)))){p_x:Pseq}{p_w:(Sl A2)}{y:(Nat->Int)}(h:Eb rec N p_x p_w=some y) :FunO S DW [(.p (.agg (Ad7 p_x))),(.p (vSl 2 A0 p_w))] [] (.p (.agg (cA 33 (pI .u64) y))) ([]) []:=by
 unfold Eb at h;refine A4 hS Ok ?_;refine kC hS h (Cd hS hL) (fun y1 h=>?_);refine N0 hS (And.intro rfl (E2 _ _):(0:Nat)=0/\(Ah 33 (fun i=>pI .u64 (y1 i))).length=33) h (fun x1 x2=>⟨[(15,(pN x2)),(14,(pN (p_x.l.n:Int))),(13,(.p (vSl 1 Ds p_x.l))),(5,(.reg 6000 0)),(4,(.reg 5000 0)),(1,(.p (vSl 2 A0 p_w)))],[(6000,(.arr 33 (fun i=>pI .u64 (x1 i)))),(5000,(.arr 33 (fun i=>pI .u64 ((fun _=>0) i))))]⟩) (ids:=[(5000,5000),(6000,6000)]) (fun _ _ _ _ _ self1 x1 x2 hb1 h=>?_) (hle:=(klR [(4,.fn 33 33 (fun i=>[(fun i=>(cA 33 (pI .u64) y1).getD i default) i]) (fun i=>[pI .u64 (y1 i)])),(5,.fn 33 33 (fun i=>[(fun i=>(List.replicate 33 (pI .u64 0)).getD i default) i]) (fun i=>[pI .u64 ((fun _=>0) i)]))] (al1 ⟨rfl,(D2 33 (fun i=>pI .u64 (y1 i)))⟩ (al1 ⟨rfl,(An (z:=pI .u64 0) rfl)⟩ al0))));refine kI hS h (fun h=>?_) (fun h=>?_)
 ·obtain⟨c6,h⟩:=G9 h;obtain⟨y6,e6,h⟩:=B5 h;refine JD hS c6 (hrec e6) ?_;refine Cu hS (And.intro rfl (E2 _ _):(0:Nat)=0/\(Ah 33 (fun i=>pI .u64 (y6 i))).length=33) ⟨[(15,(pN x2)),(14,(pN (p_x.l.n:Int))),(13,(.p (vSl 1 Ds p_x.l))),(8,(.reg 9000 0)),(5,(.reg 6000 0)),(4,(.reg 5000 0)),(1,(.p (vSl 2 A0 p_w)))],[(9000,(.arr 33 (fun i=>pI .u64 (y6 i)))),(6000,(.arr 33 (fun i=>pI .u64 (x1 i)))),(5000,(.arr 33 (fun i=>pI .u64 ((fun _=>0) i))))]⟩ (ids:=[(5000,5000),(6000,6000),(9000,9000)]) ?_ (hle:=(klR [(4,.fn 33 33 (fun i=>[(fun i=>(cA 33 (pI .u64) y6).getD i default) i]) (fun i=>[pI .u64 (y6 i)]))] (al1 ⟨rfl,(D2 33 (fun i=>pI .u64 (y6 i)))⟩ al0)));obtain⟨y7,e7,h⟩:=B5 h;refine B7 hS [6000,9000] trivial (Q1 hS hL e7) ?_;exact hb1 _ [(5000,5000),(6000,6000)] _ y7 (wrap .i64 (x2+1)) (And.intro rfl (E2 _ _):(0:Nat)=0/\(Ah 33 (fun i=>pI .u64 (y7 i))).length=33) h (hle:=klR [(4,.fn 33 33 (fun i=>[(fun i=>(cA 33 (pI .u64) y7).getD i default) i]) (fun i=>[pI .u64 (y7 i)]))] (al1 ⟨rfl,(D2 33 (fun i=>pI .u64 (y7 i)))⟩ al0))
 ·obtain rfl:=B8 h;exact A6 hS (And.intro rfl (E2 _ _):(0:Nat)=0/\(Ah 33 (fun i=>pI .u64 (x1 i))).length=33) ⟨[(4,(.reg 5000 0))],[(5000,(.arr 33 (fun i=>pI .u64 (x1 i))))]⟩ [] (ids:=[(5000,5000)]) ⟨rfl,rfl,rfl⟩ (hle:=(klR [(0,.fn 33 33 (fun i=>[(fun i=>(cA 33 (pI .u64) x1).getD i default) i]) (fun i=>[pI .u64 (x1 i)]))] (al1 ⟨rfl,(D2 33 (fun i=>pI .u64 (x1 i)))⟩ al0)))
def Ec (rec:Part->(Sl A2)->Option (Nat->Int))(N:Nat)(p_x:Palt)(p_w:Sl A2):Option (Nat->Int):=
 Dq N (fun self1 (x1:Nat->Int) (x2:Int)=>
  if (decide (x2<(p_x.l.n:Int))) then
   if ((0:Int)<=x2/\x2<(p_x.l.n:Int))then
    (rec (p_x.l.g x2.toNat) p_w).bind fun y5=>
    (S6 N x1 y5).bind fun y6=>
    self1 y6 (wrap .i64 (x2+1))
   else none
  else
   some x1
  ) (fun _=>0) 0
theorem Ou {N:Nat}{rec:Part->(Sl A2)->Option ((Nat->Int))}(hrec:∀{x:Part}{b0:(Sl A2)}{y:(Nat->Int)},rec x b0=some y->Ac6 S Tryz.prog (EY x) "ablaut/pats.in" [(.p (vSl 2 A0 b0))] (.p (.agg (cA 33 (pI .u64) y)))){p_x:Palt}{p_w:(Sl A2)}{y:(Nat->Int)}(h:Ec rec N p_x p_w=some y) :FunO S DU [(.p (.agg (Ad5 p_x))),(.p (vSl 2 A0 p_w))] [] (.p (.agg (cA 33 (pI .u64) y))) ([]) []:=by
 unfold Ec at h;refine A4 hS Oi ?_;refine N0 hS trivial h (fun x1 x2=>⟨[(11,(pN x2)),(10,(pN (p_x.l.n:Int))),(9,(.p (vSl 1 Ds p_x.l))),(4,(.reg 5000 0)),(1,(.p (vSl 2 A0 p_w)))],[(5000,(.arr 33 (fun i=>pI .u64 (x1 i))))]⟩) (ids:=[(5000,5000)]) (fun _ _ _ _ _ self1 x1 x2 hb1 h=>?_) (hle:=(klR [(4,.fn 33 33 (fun i=>[(fun i=>(List.replicate 33 (pI .u64 0)).getD i default) i]) (fun i=>[pI .u64 ((fun _=>0) i)]))] (al1 ⟨rfl,(An (z:=pI .u64 0) rfl)⟩ al0)));refine kI hS h (fun h=>?_) (fun h=>?_)
 ·obtain⟨c6,h⟩:=G9 h;obtain⟨y5,e5,h⟩:=B5 h;refine JD hS c6 (hrec e5) ?_;refine Cu hS (And.intro rfl (E2 _ _):(0:Nat)=0/\(Ah 33 (fun i=>pI .u64 (y5 i))).length=33) ⟨[(11,(pN x2)),(10,(pN (p_x.l.n:Int))),(9,(.p (vSl 1 Ds p_x.l))),(7,(.reg 8000 0)),(4,(.reg 5000 0)),(1,(.p (vSl 2 A0 p_w)))],[(8000,(.arr 33 (fun i=>pI .u64 (y5 i)))),(5000,(.arr 33 (fun i=>pI .u64 (x1 i))))]⟩ (ids:=[(5000,5000),(8000,8000)]) ?_ (hle:=(klR [(4,.fn 33 33 (fun i=>[(fun i=>(cA 33 (pI .u64) y5).getD i default) i]) (fun i=>[pI .u64 (y5 i)]))] (al1 ⟨rfl,(D2 33 (fun i=>pI .u64 (y5 i)))⟩ al0)));obtain⟨y6,e6,h⟩:=B5 h;refine B7 hS [5000,8000] trivial (CB hS hL e6) ?_;exact hb1 _ [(5000,5000)] _ y6 (wrap .i64 (x2+1)) trivial h
 ·obtain rfl:=B8 h;exact A6 hS (And.intro rfl (E2 _ _):(0:Nat)=0/\(Ah 33 (fun i=>pI .u64 (x1 i))).length=33) ⟨[(4,(.reg 5000 0))],[(5000,(.arr 33 (fun i=>pI .u64 (x1 i))))]⟩ [] (ids:=[(5000,5000)]) ⟨rfl,rfl,rfl⟩ (hle:=(klR [(0,.fn 33 33 (fun i=>[(fun i=>(cA 33 (pI .u64) x1).getD i default) i]) (fun i=>[pI .u64 (x1 i)]))] (al1 ⟨rfl,(D2 33 (fun i=>pI .u64 (x1 i)))⟩ al0)))
def Ed (rec:Part->(Sl A2)->Option (Nat->Int))(N:Nat)(p_x:Prep)(p_w:Sl A2):Option (Nat->Int):=
 (rec p_x.of p_w).bind fun y1=>
 (K0 N y1 p_x.min (p_w.n:Int)).bind fun y2=>
 (T7 N (p_w.n:Int)).bind fun y3=>
 (S6 N y1 y3).bind fun y4=>
 if (decide (p_x.max<0)) then
  (K0 N y4 (p_w.n:Int) (p_w.n:Int)).bind fun y5=>
  (I5 N y2 y5).bind fun y6=>
  some y6
 else
  (K0 N y4 (wrap .i64 (p_x.max-p_x.min)) (p_w.n:Int)).bind fun y7=>
  (I5 N y2 y7).bind fun y8=>
  some y8
theorem Ov {N:Nat}{rec:Part->(Sl A2)->Option ((Nat->Int))}(hrec:∀{x:Part}{b0:(Sl A2)}{y:(Nat->Int)},rec x b0=some y->Ac6 S Tryz.prog (EY x) "ablaut/pats.in" [(.p (vSl 2 A0 b0))] (.p (.agg (cA 33 (pI .u64) y)))){p_x:Prep}{p_w:(Sl A2)}{y:(Nat->Int)}(h:Ed rec N p_x p_w=some y) :FunO S DV [(.p (.agg (Ad6 p_x))),(.p (vSl 2 A0 p_w))] [] (.p (.agg (cA 33 (pI .u64) y))) ([]) []:=by
 unfold Ed at h;refine A4 hS Oj ?_;obtain⟨y1,e1,h⟩:=B5 h;refine JD hS trivial (hrec e1) ?_;refine Cu hS (And.intro rfl (E2 _ _):(0:Nat)=0/\(Ah 33 (fun i=>pI .u64 (y1 i))).length=33) ⟨[(18,(pN (p_w.n:Int))),(16,(pN p_x.min)),(14,(.p (.agg (cA 33 (pI .u64) y1)))),(5,(.reg 6000 0)),(4,(.reg 5000 0)),(2,(.reg 3000 0)),(1,(.p (vSl 2 A0 p_w)))],[(6000,(.arr 33 (fun i=>pI .u64 (y1 i)))),(5000,(.arr 33 (fun i=>pI .u64 ((fun _=>0) i)))),(3000,(.cells [(.p (EY p_x.of)),(pN p_x.min),(pN p_x.max)]))]⟩ (ids:=[(3000,3000),(5000,5000),(6000,6000)]) ?_ (hle:=(klR [(2,.eq (.agg (Ah 33 (fun i=>(cA 33 (pI .u64) y1).getD i default))) (.agg (cA 33 (pI .u64) y1))),(4,.fn 33 33 (fun i=>[(fun i=>(cA 33 (pI .u64) y1).getD i default) i]) (fun i=>[pI .u64 (y1 i)])),(5,.fn 33 33 (fun i=>[(fun i=>(List.replicate 33 (pI .u64 0)).getD i default) i]) (fun i=>[pI .u64 ((fun _=>0) i)]))] (al1 (congrArg PV.agg (TQ (D2 33 (fun i=>pI .u64 (y1 i))))) (al1 ⟨rfl,(D2 33 (fun i=>pI .u64 (y1 i)))⟩ (al1 ⟨rfl,(An (z:=pI .u64 0) rfl)⟩ al0)))));refine kC hS h (T8 hS hL) (fun y2 h=>?_);obtain⟨y3,e3,h⟩:=B5 h;refine B7 hS [] (And.intro (And.intro rfl (E2 _ _):(0:Nat)=0/\(Ah 33 (fun i=>pI .u64 (y2 i))).length=33) (And.intro rfl (E2 _ _):(0:Nat)=0/\(Ah 33 (fun i=>pI .u64 (y1 i))).length=33)) (Cd hS hL e3) ?_;refine Cu hS (And.intro rfl (E2 _ _):(0:Nat)=0/\(Ah 33 (fun i=>pI .u64 (y3 i))).length=33) ⟨[(8,(.reg 9000 0)),(7,(.reg 8000 0)),(6,(.reg 7000 0)),(4,(.reg 5000 0)),(2,(.reg 3000 0)),(1,(.p (vSl 2 A0 p_w)))],[(9000,(.arr 33 (fun i=>pI .u64 (y3 i)))),(8000,(.arr 33 (fun i=>pI .u64 (y1 i)))),(7000,(.arr 33 (fun i=>pI .u64 (y2 i)))),(5000,(.arr 33 (fun i=>pI .u64 ((fun _=>0) i)))),(3000,(.cells [(.p (EY p_x.of)),(pN p_x.min),(pN p_x.max)]))]⟩ (ids:=[(3000,3000),(5000,5000),(7000,7000),(8000,8000),(9000,9000)]) ?_ (hle:=(klR [(1,.fn 33 33 (fun i=>[(fun i=>(cA 33 (pI .u64) y3).getD i default) i]) (fun i=>[pI .u64 (y3 i)])),(2,.fn 33 33 (fun i=>[(fun i=>(cA 33 (pI .u64) y1).getD i default) i]) (fun i=>[pI .u64 (y1 i)])),(3,.fn 33 33 (fun i=>[(fun i=>(cA 33 (pI .u64) y2).getD i default) i]) (fun i=>[pI .u64 (y2 i)]))] (al1 ⟨rfl,(D2 33 (fun i=>pI .u64 (y3 i)))⟩ (al1 ⟨rfl,(D2 33 (fun i=>pI .u64 (y1 i)))⟩ (al1 ⟨rfl,(D2 33 (fun i=>pI .u64 (y2 i)))⟩ al0)))));obtain⟨y4,e4,h⟩:=B5 h;refine B7 hS [8000,9000] trivial (CB hS hL e4) ?_;refine kI hS h (fun h=>?_) (fun h=>?_)
 ·refine kC hS h (T8 hS hL) (fun y5 h=>?_);refine Cu hS (And.intro rfl (E2 _ _):(0:Nat)=0/\(Ah 33 (fun i=>pI .u64 (y5 i))).length=33) ⟨[(7,(.reg 8000 0)),(6,(.reg 7000 0)),(4,(.reg 5000 0))],[(8000,(.arr 33 (fun i=>pI .u64 (y5 i)))),(7000,(.arr 33 (fun i=>pI .u64 (y2 i)))),(5000,(.arr 33 (fun i=>pI .u64 ((fun _=>0) i))))]⟩ (ids:=[(5000,5000),(7000,7000),(8000,8000)]) ?_ (hle:=(klR [(0,.fn 33 33 (fun i=>[(fun i=>(cA 33 (pI .u64) y5).getD i default) i]) (fun i=>[pI .u64 (y5 i)]))] (al1 ⟨rfl,(D2 33 (fun i=>pI .u64 (y5 i)))⟩ al0)));obtain⟨y6,e6,h⟩:=B5 h;refine B7 hS [7000,8000] trivial (Q1 hS hL e6) ?_;obtain rfl:=B8 h;exact A6 hS (And.intro rfl (E2 _ _):(0:Nat)=0/\(Ah 33 (fun i=>pI .u64 (y6 i))).length=33) ⟨[(4,(.reg 5000 0))],[(5000,(.arr 33 (fun i=>pI .u64 (y6 i))))]⟩ [] (ids:=[(5000,5000)]) ⟨rfl,rfl,rfl⟩ (hle:=(klR [(0,.fn 33 33 (fun i=>[(fun i=>(cA 33 (pI .u64) y6).getD i default) i]) (fun i=>[pI .u64 (y6 i)]))] (al1 ⟨rfl,(D2 33 (fun i=>pI .u64 (y6 i)))⟩ al0)))
 ·refine kC hS h (T8 hS hL) (fun y7 h=>?_);refine Cu hS (And.intro rfl (E2 _ _):(0:Nat)=0/\(Ah 33 (fun i=>pI .u64 (y7 i))).length=33) ⟨[(7,(.reg 8000 0)),(6,(.reg 7000 0)),(4,(.reg 5000 0))],[(8000,(.arr 33 (fun i=>pI .u64 (y7 i)))),(7000,(.arr 33 (fun i=>pI .u64 (y2 i)))),(5000,(.arr 33 (fun i=>pI .u64 ((fun _=>0) i))))]⟩ (ids:=[(5000,5000),(7000,7000),(8000,8000)]) ?_ (hle:=(klR [(0,.fn 33 33 (fun i=>[(fun i=>(cA 33 (pI .u64) y7).getD i default) i]) (fun i=>[pI .u64 (y7 i)]))] (al1 ⟨rfl,(D2 33 (fun i=>pI .u64 (y7 i)))⟩ al0)));obtain⟨y8,e8,h⟩:=B5 h;refine B7 hS [7000,8000] trivial (Q1 hS hL e8) ?_;obtain rfl:=B8 h;exact A6 hS (And.intro rfl (E2 _ _):(0:Nat)=0/\(Ah 33 (fun i=>pI .u64 (y8 i))).length=33) ⟨[(4,(.reg 5000 0))],[(5000,(.arr 33 (fun i=>pI .u64 (y8 i))))]⟩ [] (ids:=[(5000,5000)]) ⟨rfl,rfl,rfl⟩ (hle:=(klR [(0,.fn 33 33 (fun i=>[(fun i=>(cA 33 (pI .u64) y8).getD i default) i]) (fun i=>[pI .u64 (y8 i)]))] (al1 ⟨rfl,(D2 33 (fun i=>pI .u64 (y8 i)))⟩ al0)))
def Bo (rec:Pat->Option Part)(N:Nat)(p_p:Pat):Option Part:=
 Dq N (fun self1 (x1:Sl Part) (x2:Int)=>
  if (decide (x2<(p_p.L.n:Int))) then
   if ((0:Int)<=x2/\x2<(p_p.L.n:Int))then
    (rec (p_p.L.g x2.toNat)).bind fun y3=>
    if ((x1.n+(Sl.of [y3]:Sl Part).n)*16<=140737488355328/\x1.n+(Sl.of [y3]:Sl Part).n<=140737488355328)then
     self1 (x1.push y3) (wrap .i64 (x2+1))
    else none
   else none
  else
   if (p_p.Kind==1) then
    some (Part.sound p_p.Is p_p.Not)
   else
    if (p_p.Kind==2) then
     some (Part.edge false)
    else
     if (p_p.Kind==6) then
      some (Part.edge true)
     else
      if (p_p.Kind==4) then
       some (Part.alt x1.n x1.g)
      else
       if (p_p.Kind==5) then
        if (((0:Int)<=0/\0<(x1.n:Int))/\0<x1.n)then
         some (Part.rep (x1.g 0) p_p.Min p_p.Max)
        else none
       else
        some (Part.seq x1.n x1.g)
  ) (Sl.nil:Sl Part) 0
def CT:Nat->Pat->Option Part
 |0=>fun _=>none
 |N+1=>Bo (CT N) N
theorem Lc {N:Nat}{rec:Pat->Option Part}(hrec:∀{p_p:Pat}{y:Part},rec p_p=some y->FunO S AQ [.p (.agg (D7 p_p))] [] (.p (EY y)) ([]) []){p_p:Pat}{y:Part}(h:Bo rec N p_p=some y) :FunO S AQ [.p (.agg (D7 p_p))] [] (.p (EY y)) ([]) []:=by
 unfold Bo at h;refine A4 hS Ma ?_;refine H5 hS trivial 2 2000 (D7 p_p) ?_;refine W7 hS trivial 8 ⟨[(7,.p (vSl 7 D7 p_p.L)),(3,.p K5),(1,.p (.ptr (D7 p_p)))],[]⟩ (ids:=[]) ?_ (hle:=klR [(0,.fn p_p.L.n p_p.L.n (EX p_p) (fun i=>D7 (p_p.L.g i)))] (al1 ⟨rfl,DQ p_p⟩ al0));refine N0 hS trivial h (fun x1 x2=>⟨[(9,pN x2),(8,pN (p_p.L.n:Int)),(7,.p (vSl 7 D7 p_p.L)),(3,.vec 4500),(1,.p (.ptr (D7 p_p)))],[(4500,.vec RH 1 x1.n (fun i=>Ds (x1.g i)) false)]⟩) (ids:=[]) (fun _ _ _ _ _ self1 x1 x2 hb1 h=>?_);refine kI hS h (fun h=>?_) (fun h=>?_)
 ·obtain⟨c6,h⟩:=G9 h;refine H5 hS (And.intro c6 (by decide:(7:Nat)<=7)) 13 6000 (D7 (p_p.L.g x2.toNat)) ?_;obtain⟨y3,e3,h⟩:=B5 h;refine B7 hS [] (by decide:(7:Nat)<=7) (hrec e3) ?_;obtain⟨c7,h⟩:=G9 h;exact hb1 _ [(4500,18000)] _ (x1.push y3) (wrap .i64 (x2+1)) (And.intro (rfl:true=true) c7) h (hle:=klR [(4,.fn (x1.n+1) (x1.push y3).n (Ay x1.n (fun i=>Ds (x1.g i)) (E9 [.v .nilIface] [(0,Ds y3)])) (fun i=>Ds ((x1.push y3).g i)))] (al1 ⟨rfl,LA (c:=Ds) (v:=x1) (x:=y3) (z:=[(.v .nilIface)]) same rfl rfl⟩ al0))
 ·refine kI hS h (fun h=>?_) (fun h=>?_)
  ·obtain rfl:=B8 h;exact Rp hS (by decide:(2:Nat)<=6) [] ⟨rfl,rfl,rfl⟩
  ·refine kI hS h (fun h=>?_) (fun h=>?_)
   ·cases h;exact kR hS
   ·refine kI hS h (fun h=>?_) (fun h=>?_)
    ·cases h;exact kR hS
    ·refine kI hS h (fun h=>?_) (fun h=>?_)
     ·refine W7 hS trivial 40 ⟨[(39,.p (vSl 1 Ds x1))],[]⟩ (ids:=[]) ?_;cases h;exact kR hS
     ·refine kI hS h (fun h=>?_) (fun h=>?_)
      ·refine I7 hS trivial [4,6] ?_;obtain⟨c13,h⟩:=G9 h;refine J2 c13 ?_;cases h;exact kR hS
      ·refine W7 hS trivial 54 ⟨[(53,.p (vSl 1 Ds x1))],[]⟩ (ids:=[]) ?_;cases h;exact kR hS
theorem Mh {N:Nat}{p_p:Pat}{y:Part}(h:CT N p_p=some y) :FunO S AQ [.p (.agg (D7 p_p))] [] (.p (EY y)) ([]) []:=by
 induction N generalizing p_p y with
 |zero=>cases (show (none:Option Part)=some y from h)
 |succ N ih=>exact Lc hS hL (fun e=>ih e) h
end Go.AM
namespace Go.AM
open Go.Proofs
variable {S:Y7}(hS:H0 S Tryz.prog) (hL:Oo S)
include hS hL
def Fq:Nat->Part->Sl A2->Option (Nat->Int)
 |0=>fun _ _=>none
 |N+1=>fun p w=>match p with
  |.nil=>none
  |.sound x no=>Ce N ⟨x,no⟩ w
  |.edge e=>CS N ⟨e⟩ w
  |.seq n g=>Eb (Fq N) N ⟨⟨n,g⟩⟩ w
  |.alt n g=>Ec (Fq N) N ⟨⟨n,g⟩⟩ w
  |.rep o mn mx=>Ed (Fq N) N ⟨o,mn,mx⟩ w
theorem VQ {N:Nat}{x:Part}{w:Sl A2}{y:Nat->Int}(h:Fq N x w=some y):Ac6 S Tryz.prog (EY x) "ablaut/pats.in" [(.p (vSl 2 A0 w))] (.p (.agg (cA 33 (pI .u64) y))):=by
 induction N generalizing x w y with
 |zero=>cases h
 |succ N ih=>
  cases x with
  |nil=>cases h
  |sound s no=>exact⟨_,_,Cc,rfl,by kernel_rfl,Lb hS hL (p_x:=⟨s,no⟩) h⟩
  |edge e=>exact⟨_,_,CO,rfl,by kernel_rfl,Mg hS hL (N:=N) (p_x:=⟨e⟩) h⟩
  |seq n g=>exact⟨_,_,DW,rfl,by kernel_rfl,Ot hS hL (fun e=>ih e) (p_x:=⟨⟨n,g⟩⟩) h⟩
  |alt n g=>exact⟨_,_,DU,rfl,by kernel_rfl,Ou hS hL (fun e=>ih e) (p_x:=⟨⟨n,g⟩⟩) h⟩
  |rep o mn mx=>exact⟨_,_,DV,rfl,by kernel_rfl,Ov hS hL (fun e=>ih e) (p_x:=⟨o,mn,mx⟩) h⟩
end Go.AM
namespace Go.AM
open IntKind (wrap)
open Go.Proofs
set_option maxRecDepth 10000
set_option maxHeartbeats 2000000
variable {S:Y7}(hS:H0 S Tryz.prog) (hL:Oo S)
include hS hL
def Cf (N:Nat)(p_s:A2):Option Bool:=
 (Ad N p_s).bind fun y1=>
 some (!y1)
theorem Ld {N:Nat}{p_s:A2}{y:Bool}(h:Cf N p_s=some y) :FunO S Fi [.p (.agg (A0 p_s))] [] (pB y) ([]) []:=by unfold Cf at h;refine A4 hS KU ?_;refine kC hS h (CA hS hL) (fun y1 h=>?_);cases h;exact kR hS
def E6 (N:Nat)(p_s:Sl A2)(p_f:A2->Option Bool):Option Int:=
 Co N (fun self1 (x1:Int)=>
  if (decide (x1<(p_s.n:Int))) then
   if ((0:Int)<=x1/\x1<(p_s.n:Int))then
    (p_f (p_s.g x1.toNat)).bind fun y3=>
    if y3 then
     some x1
    else
     self1 (wrap .i64 (x1+1))
   else none
  else
   some (-1)
  ) 0
theorem S5 {N:Nat}{p_s:Sl A2}{p_f:A2->Option Bool}{kp_f:Nat}(hp_f:∀{a0:A2}{b:Bool},p_f a0=some b->FunO S kp_f [.p (.agg (A0 a0))] [] (pB b) [] []){y:Int}(h:E6 N p_s p_f=some y) :FunO S I9 [.p (vSl 2 A0 p_s),.clo kp_f [] []] [] (pN y) ([]) []:=by
 unfold E6 at h;refine A4 hS S4 ?_;refine W6 hS trivial h (fun x1=>⟨[(8,pN x1),(7,pN (p_s.n:Int)),(1,.clo kp_f [] []),(0,.p (vSl 2 A0 p_s))],[]⟩) (ids:=[]) (fun _ _ _ _ _ self1 x1 hb1 h=>?_);refine kI hS h (fun h=>?_) (fun h=>?_)
 ·obtain⟨c8,h⟩:=G9 h;obtain⟨y3,e3,h⟩:=B5 h;refine B7 hS [] (And.intro c8 (by decide:(2:Nat)<=2)) (hp_f e3) ?_;refine kI hS h (fun h=>?_) (fun h=>?_)
  ·cases h;exact kR hS
  ·exact hb1 _ [] _ (wrap .i64 (x1+1)) trivial h
 ·cases h;exact kR hS
def C5 (N:Nat)(p_s:Sl A2)(p_f:A2->Option Bool):Option Bool:=
 (E6 N p_s p_f).bind fun y1=>
 some (decide (0<=y1))
theorem I0 {N:Nat}{p_s:Sl A2}{p_f:A2->Option Bool}{kp_f:Nat}(hp_f:∀{a0:A2}{b:Bool},p_f a0=some b->FunO S kp_f [.p (.agg (A0 a0))] [] (pB b) [] []){y:Bool}(h:C5 N p_s p_f=some y) :FunO S H9 [.p (vSl 2 A0 p_s),.clo kp_f [] []] [] (pB y) ([]) []:=by unfold C5 at h;refine A4 hS Q7 ?_;refine kC hS h (S5 hS hL (fun e=>hp_f e)) (fun y1 h=>?_);cases h;exact kR hS
def F7 (N:Nat)(q0:Sl Pat):Option (List (Int×Pat)):=
 Co N (fun self1 (x1:Int)=>
  if (decide (0<=x1)) then
   if ((0:Int)<=x1/\x1<(q0.n:Int))then
    Hj (x1,q0.g x1.toNat) (
     self1 (wrap .i64 (x1-1))
     )
   else none
  else
   some []
  ) (wrap .i64 ((q0.n:Int)-1))
theorem V6 {N:Nat}{q0:Sl Pat}{L:List (Int×Pat)}(h:F7 N q0=some L) :DI S D5 [] [.reg 0 0] [.cells [.p (vSl 7 D7 q0)]] (L.map (fun (x:Int×Pat)=>[pI .i64 x.1,(fun x=>.agg (D7 x)) x.2])):=by
 unfold F7 at h;refine DM hS V2 ?_;refine EV hS trivial h (fun x1 L1=>⟨[(3,pN x1),(1,.reg 0 0),(0,.yf 1)],[(1,.yld (L1.map (fun (x:Int×Pat)=>[pI .i64 x.1,(fun x=>.agg (D7 x)) x.2])) true),(0,.cells [.p (vSl 7 D7 q0)])]⟩) (ids:=[(0,0),(1,1)]) (fun _ _ _ _ _ self1 x1 L1 hb1 h=>?_);refine kI hS h (fun h=>?_) (fun h=>?_)
 ·obtain⟨c10,h⟩:=G9 h;obtain⟨L4,rfl,hcL4⟩:=Kt h;replace h:=hcL4;refine BX hS (And.intro c10 (by decide:(7:Nat)<=7)) (ys:=(fun (x:Int×Pat)=>[pI .i64 x.1,(fun x=>.agg (D7 x)) x.2]) (x1,q0.g x1.toNat)) (rest:=L4.map (fun (x:Int×Pat)=>[pI .i64 x.1,(fun x=>.agg (D7 x)) x.2])) ?_ ?_
  ·refine D9 hS trivial (b:=false) (fun c11=>?_) (fun c11=>?_)
   ·exact Bool.noConfusion ((rfl:false=false).symm.trans c11)
   ·exact hb1 _ [(0,0),(1,1)] _ (wrap .i64 (x1-1)) L4 trivial h
  ·refine D9 hS trivial (b:=true) (fun c12=>?_) (fun c12=>?_)
   ·exact A6 hS trivial (a:=.tup []) (objs:=[(.cells [.p (vSl 7 D7 q0)]),.yld [] false]) ⟨[],[(1,.yld [] false),(0,.cells [.p (vSl 7 D7 q0)])]⟩ [0,1] (ids:=[(0,0),(1,1)]) ⟨false,rfl,rfl,_,rfl⟩
   ·exact Bool.noConfusion ((rfl:true=true).symm.trans c12)
 ·obtain rfl:=B8 h;exact A6 hS trivial (a:=.tup []) (objs:=[(.cells [.p (vSl 7 D7 q0)]),.yld [] true]) ⟨[],[(1,.yld [] true),(0,.cells [.p (vSl 7 D7 q0)])]⟩ [0,1] (ids:=[(0,0),(1,1)]) ⟨true,rfl,rfl,_,rfl⟩
def H2 (N:Nat)(p_s:Sl Pat):Option (Sl Pat):=
 some p_s
theorem Y6 {N:Nat}{p_s:Sl Pat}{y:Sl Pat}(h:H2 N p_s=some y) :FunO S N7 [.p (vSl 7 D7 p_s)] [] (.clo D5 [] [.reg 0 0]) ([.cells [.p (vSl 7 D7 y)]]) []:=by unfold H2 at h;refine A4 hS Y1 ?_;obtain rfl:=B8 h;exact A6 hS trivial ⟨[(2,.clo D5 [] [.reg 2000 0])],[(2000,.cells [.p (vSl 7 D7 p_s)])]⟩ [2000] (ids:=[(2000,2000)]) ⟨rfl,rfl,rfl⟩
def Bb (N:Nat)(p_p:Pat):Option Int:=
 Dq N (fun self3 (x3:Sl Pat) (x4:Int)=>
  if (decide (0<(x3.n:Int))) then
   if (x4==40) then
    some 12
   else
    if (((0:Int)<=(wrap .i64 ((x3.n:Int)-1))/\(wrap .i64 ((x3.n:Int)-1))<(x3.n:Int))/\(wrap .i64 ((x3.n:Int)-1)).toNat<x3.n)then
     if ((0:Int)<=(wrap .i64 ((x3.n:Int)-1))/\(wrap .i64 ((x3.n:Int)-1))<=(x3.n:Int))then
      (CQ N (x3.g (wrap .i64 ((x3.n:Int)-1)).toNat)).bind fun y5=>
      if (y5 != 0) then
       some y5
      else
       if ((0:Int)<=(if 41<((x3.g (wrap .i64 ((x3.n:Int)-1)).toNat).L.n:Int)then 41 else ((x3.g (wrap .i64 ((x3.n:Int)-1)).toNat).L.n:Int))/\(if 41<((x3.g (wrap .i64 ((x3.n:Int)-1)).toNat).L.n:Int)then 41 else ((x3.g (wrap .i64 ((x3.n:Int)-1)).toNat).L.n:Int))<=((x3.g (wrap .i64 ((x3.n:Int)-1)).toNat).L.n:Int))then
        (H2 N ((x3.g (wrap .i64 ((x3.n:Int)-1)).toNat).L.take (if 41<((x3.g (wrap .i64 ((x3.n:Int)-1)).toNat).L.n:Int)then 41 else ((x3.g (wrap .i64 ((x3.n:Int)-1)).toNat).L.n:Int)).toNat)).bind fun y6=>
        (F7 N y6).bind fun L3=>
        S7 L3 (fun self4 (x7:Int×Pat) (z3:Sl Pat)=>
         if ((((z3.n+(Sl.of [Pat.nil]:Sl Pat).n)*64<=140737488355328/\z3.n+(Sl.of [Pat.nil]:Sl Pat).n<=140737488355328)/\((0:Int)<=(z3.n:Int)/\(z3.n:Int)<((z3.push Pat.nil).n:Int)))/\(z3.n:Int).toNat<(z3.push Pat.nil).n)then
          self4 ((z3.push Pat.nil).upd (z3.n:Int).toNat x7.2)
         else none
         ) (fun (z3:Sl Pat)=>
          self3 z3 (wrap .i64 (x4+1))
         ) (x3.take (wrap .i64 ((x3.n:Int)-1)).toNat)
       else none
     else none
    else none
  else
   some 0
  ) (Sl.of [p_p]:Sl Pat) 0
theorem Fr {N:Nat}{p_p:Pat}{y:Int}(h:Bb N p_p=some y) :FunO S IW [.p (.agg (D7 p_p))] [] (pN y) ([]) []:=by
 unfold Bb at h;refine A4 hS Qc ?_;refine H5 hS trivial 2 2000 (D7 p_p) ?_;refine N0 hS (And.intro (by decide:(7:Nat)<=7) (rfl:true=true)) h (fun x3 x4=>⟨[(4,pN x4),(3,.reg 4000 0)],[(4501,.vec Fl 7 x3.n (fun i=>D7 (x3.g i)) false),(4000,.cells [.vec 4501])]⟩) (ids:=[(4000,4000),(4501,12000)]) (fun _ _ _ _ _ self3 x3 x4 hb3 h=>?_) (hle:=klR [(1,.fn 1 (Sl.of [p_p]:Sl Pat).n (E9 [pI .i64 0,pI .u32 0,pI .u32 0,.v (.bool false),pI .i64 0,pI .i64 0,K5] [(0,D7 p_p)]) (fun i=>D7 ((Sl.of [p_p]:Sl Pat).g i)))] (al1 ⟨rfl,(fun i hi=>match i,hi with|0,_=>rfl|_+1,hi=>absurd hi (by omega))⟩ al0));refine kI hS h (fun h=>?_) (fun h=>?_)
 ·refine kI hS h (fun h=>?_) (fun h=>?_)
  ·cases h;exact kR hS
  ·obtain⟨c21,h⟩:=G9 h;refine H5 hS (And.intro (And.intro c21.1 (by decide:(7:Nat)<=7)) c21.2) 25 6000 (D7 (x3.g (wrap .i64 ((x3.n:Int)-1)).toNat)) ?_;obtain⟨c22,h⟩:=G9 h;refine Ac7 hS c22 30 4501 (wrap .i64 ((x3.n:Int)-1)).toNat 4508 (e:=Fl) (k:=7) (N:=x3.n) (f:=fun i=>D7 (x3.g i)) (by have hq:=c22;omega) ?_;obtain⟨y5,e7,h⟩:=B5 h;refine B7 hS [] (by decide:(7:Nat)<=7) (Mf hS hL e7) ?_;refine kI hS h (fun h=>?_) (fun h=>?_)
   ·cases h;exact kR hS
   ·refine W7 hS trivial 39 ⟨[(38,.p (vSl 7 D7 (x3.g (wrap .i64 ((x3.n:Int)-1)).toNat).L)),(36,.p (vSl 7 D7 (x3.g (wrap .i64 ((x3.n:Int)-1)).toNat).L)),(4,pN x4),(3,.reg 4000 0)],[(4508,.vec Fl 7 (x3.take (wrap .i64 ((x3.n:Int)-1)).toNat).n (fun i=>D7 ((x3.take (wrap .i64 ((x3.n:Int)-1)).toNat).g i)) false),(4000,.cells [.vec 4508])]⟩ (ids:=[(4000,4000),(4508,4508)]) ?_ (hle:=klR [(0,.fn (x3.g (wrap .i64 ((x3.n:Int)-1)).toNat).L.n (x3.g (wrap .i64 ((x3.n:Int)-1)).toNat).L.n (EX (x3.g (wrap .i64 ((x3.n:Int)-1)).toNat)) (fun i=>D7 ((x3.g (wrap .i64 ((x3.n:Int)-1)).toNat).L.g i))),(1,.fn (x3.g (wrap .i64 ((x3.n:Int)-1)).toNat).L.n (x3.g (wrap .i64 ((x3.n:Int)-1)).toNat).L.n (EX (x3.g (wrap .i64 ((x3.n:Int)-1)).toNat)) (fun i=>D7 ((x3.g (wrap .i64 ((x3.n:Int)-1)).toNat).L.g i)))] (al1 ⟨rfl,DQ (x3.g (wrap .i64 ((x3.n:Int)-1)).toNat)⟩ (al1 ⟨rfl,DQ (x3.g (wrap .i64 ((x3.n:Int)-1)).toNat)⟩ al0)));obtain⟨c24,h⟩:=G9 h;obtain⟨y6,e8,h⟩:=B5 h;refine B7 hS [] c24 (Y6 hS hL e8) ?_;obtain⟨L3,e9,h⟩:=B5 h;refine DN hS trivial [44000] [4,3] 905 (fun z3=>⟨[(4,pN x4),(3,.reg 4000 0)],[(4500,.vec Fl 7 z3.n (fun i=>D7 (z3.g i)) false),(4000,.cells [.vec 4500])]⟩) (idl:=[(4000,4000),(4500,4508)]) h (V6 hS hL e9) (fun _=>by kernel_rfl) (fun _=>by kernel_rfl) (fun _=>by kernel_rfl) (fun _=>by kernel_rfl) (fun x7 _ self4 z3 hb4 h=>?_) (fun z3 h=>?_)
    ·refine Hk hS trivial ?_;refine Xl hS trivial 10000 (D7 x7.2) ?_;refine U7 hS trivial [(0,.l [4000]),(1,.n),(2,.l [4500]),(4,.a [51000,4500]),(5,.l [51000]),(6,.a [51000]),(7,.a [4000])] ?_;refine CL (by decide:(7:Nat)<=7) (x:=.sl true 7 1 (E9 [pI .i64 0,pI .u32 0,pI .u32 0,.v (.bool false),pI .i64 0,pI .i64 0,K5] [(0,[pI .i64 0,pI .u32 0,pI .u32 0,.v (.bool false),pI .i64 0,pI .i64 0,K5])])) ?_;obtain⟨c27,h⟩:=G9 h;refine J2 (And.intro (And.intro c27.1.1 c27.1.2) (And.intro (rfl:(7:Nat)=7) (And.intro c27.2 (by decide:(7:Nat)<=7)))) ?_;exact hb4 _ [(905,905),(4000,4000),(4500,51000)] _ ((z3.push Pat.nil).upd (z3.n:Int).toNat x7.2) trivial h (hle:=klR [(0,.fn (z3.n+1) ((z3.push Pat.nil).upd (z3.n:Int).toNat x7.2).n (fun l=>if l=(z3.n:Int).toNat then splice (Ay z3.n (fun i=>D7 (z3.g i)) (E9 [pI .i64 0,pI .u32 0,pI .u32 0,.v (.bool false),pI .i64 0,pI .i64 0,K5] [(0,[pI .i64 0,pI .u32 0,pI .u32 0,.v (.bool false),pI .i64 0,pI .i64 0,K5])]) l) 0 [pI .i64 x7.2.Kind,pI .u32 x7.2.Is.Plus,pI .u32 x7.2.Is.Minus,.bb x7.2.Not,pI .i64 x7.2.Min,pI .i64 x7.2.Max,.sl false 7 x7.2.L.n (EX x7.2)]else (Ay z3.n (fun i=>D7 (z3.g i)) (E9 [pI .i64 0,pI .u32 0,pI .u32 0,.v (.bool false),pI .i64 0,pI .i64 0,K5] [(0,[pI .i64 0,pI .u32 0,pI .u32 0,.v (.bool false),pI .i64 0,pI .i64 0,K5])])) l) (fun i=>D7 (((z3.push Pat.nil).upd (z3.n:Int).toNat x7.2).g i)))] (al1 ⟨rfl,setH (c:=D7) (v:=z3.push Pat.nil) (x:=x7.2) (app1H (c:=D7) (v:=z3) (z:=Pat.nil) same rfl) (fun _=>by simp[Ay,E9,splice])⟩ al0))
    ·exact hb3 _ [(4000,4000),(4501,4500)] _ z3 (wrap .i64 (x4+1)) trivial h
 ·cases h;exact kR hS
def BG (N:Nat)(p_p:Pat)(p_w:Sl A2):Option ((Nat->Int)×Int):=
 (Bb N p_p).bind fun y1=>
 if (y1 != 0) then
  some (fun _=>0,y1)
 else
  if (decide (32<(p_w.n:Int))) then
   some (fun _=>0,11)
  else
   (C5 N p_w (fun (u1:A2)=>Cf N u1)).bind fun y2=>
   if y2 then
    some (fun _=>0,14)
   else
    (CT N p_p).bind fun y3=>
    (Fq N y3 p_w).bind fun y4=>
    some (y4,0)
theorem HG {N:Nat}{p_p:Pat}{p_w:Sl A2}{y:(Nat->Int)×Int}(h:BG N p_p p_w=some y) :FunO S HA [.p (.agg (D7 p_p)),.p (vSl 2 A0 p_w)] [] (.tup [.p (.agg (cA 33 (pI .u64) y.1)),pN y.2]) ([]) []:=by
 unfold BG at h;refine A4 hS Og ?_;refine kC hS h (Fr hS hL) (fun y1 h=>?_);refine kI hS h (fun h=>?_) (fun h=>?_)
 ·obtain rfl:=B8 h;exact A6 hS (And.intro rfl (E2 _ _):(0:Nat)=0/\(Ah 33 (fun i=>pI .u64 ((fun _=>0) i))).length=33) ⟨[(5,pN y1),(4,.reg 5000 0)],[(5000,.arr 33 (fun i=>pI .u64 ((fun _=>0) i)))]⟩ [] (ids:=[(5000,5000)]) ⟨rfl,rfl,rfl⟩ (hle:=klR [(1,.fn 33 33 (fun i=>[(fun i=>(cA 33 (pI .u64) (fun _=>0)).getD i default) i]) (fun i=>[pI .u64 ((fun _=>0) i)]))] (al1 ⟨rfl,D2 33 (fun i=>pI .u64 ((fun _=>0) i))⟩ al0))
 ·refine kI hS h (fun h=>?_) (fun h=>?_)
  ·obtain rfl:=B8 h;exact A6 hS (And.intro rfl (E2 _ _):(0:Nat)=0/\(Ah 33 (fun i=>pI .u64 ((fun _=>0) i))).length=33) ⟨[(5,pN 11),(4,.reg 5000 0)],[(5000,.arr 33 (fun i=>pI .u64 ((fun _=>0) i)))]⟩ [] (ids:=[(5000,5000)]) ⟨rfl,rfl,rfl⟩ (hle:=klR [(1,.fn 33 33 (fun i=>[(fun i=>(cA 33 (pI .u64) (fun _=>0)).getD i default) i]) (fun i=>[pI .u64 ((fun _=>0) i)]))] (al1 ⟨rfl,D2 33 (fun i=>pI .u64 ((fun _=>0) i))⟩ al0))
  ·refine kC hS h (I0 hS hL (fun e=>Ld hS hL e)) (fun y2 h=>?_);refine kI hS h (fun h=>?_) (fun h=>?_)
   ·obtain rfl:=B8 h;exact A6 hS (And.intro rfl (E2 _ _):(0:Nat)=0/\(Ah 33 (fun i=>pI .u64 ((fun _=>0) i))).length=33) ⟨[(5,pN 14),(4,.reg 5000 0)],[(5000,.arr 33 (fun i=>pI .u64 ((fun _=>0) i)))]⟩ [] (ids:=[(5000,5000)]) ⟨rfl,rfl,rfl⟩ (hle:=klR [(1,.fn 33 33 (fun i=>[(fun i=>(cA 33 (pI .u64) (fun _=>0)).getD i default) i]) (fun i=>[pI .u64 ((fun _=>0) i)]))] (al1 ⟨rfl,D2 33 (fun i=>pI .u64 ((fun _=>0) i))⟩ al0))
   ·refine kC hS h (Mh hS hL) (fun y3 h=>?_);obtain⟨y4,e4,h⟩:=B5 h;refine JD hS trivial (VQ hS hL e4) ?_;obtain rfl:=B8 h;exact A6 hS (And.intro rfl (E2 _ _):(0:Nat)=0/\(Ah 33 (fun i=>pI .u64 (y4 i))).length=33) ⟨[(5,pN 0),(4,.reg 5000 0)],[(5000,.arr 33 (fun i=>pI .u64 (y4 i)))]⟩ [] (ids:=[(5000,5000)]) ⟨rfl,rfl,rfl⟩ (hle:=klR [(1,.fn 33 33 (fun i=>[(fun i=>(cA 33 (pI .u64) y4).getD i default) i]) (fun i=>[pI .u64 (y4 i)]))] (al1 ⟨rfl,D2 33 (fun i=>pI .u64 (y4 i))⟩ al0))
def Ee (N:Nat)(p_p:Pat)(p_w:Sl A2)(p_end:Int):Option ((Sl Int)×Int):=
 (BG N p_p p_w).bind fun y1=>
 lt (fun (z1:Int)=>
  if (z1 != 0) then
   some ((Sl.nil:Sl Int),z1)
  else
   Dq N (fun self1 (x2:Sl Int) (x3:Int)=>
    if (decide (x3<(wrap .i64 ((p_w.n:Int)+1)))) then
     if ((((0:Int)<=x3/\x3<33)/\(0+x3.toNat*1)<33)/\(0:Int)<=p_end)then
      if ((A9 .and .u64 (shI .shr .u64 (y1.1 (0+x3.toNat*1)) p_end) 1)==1) then
       if ((x2.n+(Sl.of [x3]:Sl Int).n)*8<=140737488355328/\x2.n+(Sl.of [x3]:Sl Int).n<=140737488355328)then
        self1 (x2.push x3) (wrap .i64 (x3+1))
       else none
      else
       self1 x2 (wrap .i64 (x3+1))
     else none
    else
     some (x2,0)
    ) (Sl.nil:Sl Int) 0
  ) fun k1=>
  if (y1.2==0) then
   (BF N p_w p_end).bind fun y3=>
   k1 y3
  else
   k1 y1.2
theorem Ow {N:Nat}{p_p:Pat}{p_w:Sl A2}{p_end:Int}{y:(Sl Int)×Int}(h:Ee N p_p p_w p_end=some y) :FunO S Hz [.p (.agg (D7 p_p)),.p (vSl 2 A0 p_w),pN p_end] [] (.tup [.vec 0,pN y.2]) ([.vec E7 1 y.1.n (fun i=>cI .i64 (y.1.g i)) true]) []:=by
 unfold Ee at h;refine A4 hS Oe ?_;refine kC hS h (HG hS hL) (fun y1 h=>?_);refine Kr hS (And.intro rfl (E2 _ _):(0:Nat)=0/\(Ah 33 (fun i=>pI .u64 (y1.1 i))).length=33) (A7 hS) h 0 (fun z1=>⟨[(9,pN z1),(8,.reg 9000 0),(2,pN p_end),(1,.p (vSl 2 A0 p_w))],[(9000,.arr 33 (fun i=>pI .u64 (y1.1 i)))]⟩) (fun M1 k1 hb1 h=>?_) (fun z1 h=>?_)
 ·refine kI hS h (fun h=>?_) (fun h=>?_)
  ·refine kC hS h (HF hS hL) (fun y3 h=>?_);exact hb1 _ [(9000,9000)] _ y3 trivial h (hle:=klR [(3,.fn 33 33 (fun i=>[(fun i=>(cA 33 (pI .u64) y1.1).getD i default) i]) (fun i=>[pI .u64 (y1.1 i)]))] (al1 ⟨rfl,D2 33 (fun i=>pI .u64 (y1.1 i))⟩ al0))
  ·exact hb1 _ [(9000,9000)] _ y1.2 trivial h (hle:=klR [(3,.fn 33 33 (fun i=>[(fun i=>(cA 33 (pI .u64) y1.1).getD i default) i]) (fun i=>[pI .u64 (y1.1 i)]))] (al1 ⟨rfl,D2 33 (fun i=>pI .u64 (y1.1 i))⟩ al0))
 ·refine kI hS h (fun h=>?_) (fun h=>?_)
  ·obtain rfl:=B8 h;exact A6 hS trivial ⟨[(7,pN z1),(6,.vec 7700)],[(7700,.vec E7 1 (Sl.nil:Sl Int).n (fun i=>cI .i64 ((Sl.nil:Sl Int).g i)) true)]⟩ [7700] (ids:=[]) ⟨rfl,rfl,rfl⟩
  ·refine N0 hS trivial h (fun x2 x3=>⟨[(29,pN x3),(28,pN (wrap .i64 ((p_w.n:Int)+1))),(10,.vec 11500),(8,.reg 9000 0),(2,pN p_end)],[(11500,.vec E7 1 x2.n (fun i=>cI .i64 (x2.g i)) false),(9000,.arr 33 (fun i=>pI .u64 (y1.1 i)))]⟩) (ids:=[(9000,9000)]) (fun _ _ _ _ _ self1 x2 x3 hb2 h=>?_);refine kI hS h (fun h=>?_) (fun h=>?_)
   ·obtain⟨c12,h⟩:=G9 h;refine D9 hS c12 (b:=(A9 .and .u64 (shI .shr .u64 (y1.1 (0+x3.toNat*1)) p_end) 1)==1) (fun c13=>?_) (fun c13=>?_)
    ·replace h:=itT c13 h;obtain⟨c14,h⟩:=G9 h;exact hb2 _ [(9000,9000),(11500,43000)] _ (x2.push x3) (wrap .i64 (x3+1)) (And.intro (rfl:true=true) c14) h (hle:=klR [(3,.fn (x2.n+1) (x2.push x3).n (Ay x2.n (fun i=>cI .i64 (x2.g i)) (E9 [pI .i64 0] [(0,cI .i64 x3)])) (fun i=>cI .i64 ((x2.push x3).g i)))] (al1 ⟨rfl,LA (c:=cI .i64) (v:=x2) (x:=x3) (z:=[(pI .i64 0)]) same rfl rfl⟩ al0))
    ·replace h:=itF c13 h;exact hb2 _ [(9000,9000),(11500,11500)] _ x2 (wrap .i64 (x3+1)) trivial h
   ·obtain rfl:=B8 h;exact A6 hS trivial ⟨[(7,pN 0),(6,.vec 11500)],[(11500,.vec E7 1 x2.n (fun i=>cI .i64 (x2.g i)) true)]⟩ [11500] (ids:=[(11500,11500)]) ⟨rfl,rfl,rfl⟩
def K3 (N:Nat)(p_seq:List (Int)):Option (Sl Int):=
 S7 p_seq (fun self1 (x1:Int) (z1:Sl Int)=>
  if ((z1.n+(Sl.of [x1]:Sl Int).n)*8<=140737488355328/\z1.n+(Sl.of [x1]:Sl Int).n<=140737488355328)then
   self1 (z1.push x1)
  else none
  ) (fun (z1:Sl Int)=>
   some z1
  ) (Sl.nil:Sl Int)
theorem Bc {N:Nat}{p_seq:List (Int)}{p_seq_0:Int}{kp_seq:Nat}(fp_seq:∃fn,Af9[kp_seq]? = some fn/\fn.body.isSome=true/\(fn.name == "runtime.NumGoroutine")=false)(hp_seq:DI S kp_seq [] [.reg 0 0] [(.cells [(.p (pI .u64 p_seq_0))])] (p_seq.map (fun (x:Int)=>[(pI .i64) x]))){y:(Sl Int)}(h:K3 N p_seq=some y) :FunO S L0 [(.p K5),(.clo kp_seq [] [(.reg 0 0)])] [(.cells [(.p (pI .u64 p_seq_0))])] (.vec 0) ([(.vec E7 1 y.n (fun i=>(cI .i64) (y.g i)) true)]) [false]:=by
 unfold K3 at h;refine A4 hS R7 ?_;refine NN hS trivial fp_seq [0] [2] 901 (fun z1=>⟨[(2,(.reg 3000 0))],[(3500,(.vec E7 1 z1.n (fun i=>(cI .i64) (z1.g i)) false)),(3000,(.cells [(.vec 3500)]))]⟩) (idl:=[(3000,3000)]) h hp_seq (fun _=>by kernel_rfl) (fun _=>by kernel_rfl) (fun _=>by kernel_rfl) (fun _=>by kernel_rfl) (fun x1 _ self1 z1 hb1 h=>?_) (fun z1 h=>?_)
 ·refine Hk hS trivial ?_;obtain⟨c1,h⟩:=G9 h;exact hb1 _ [(901,901),(3000,3000),(3500,12000)] _ (z1.push x1) (And.intro (rfl:true=true) c1) h (hle:=klR [(0,.fn (z1.n+1) (z1.push x1).n (Ay z1.n (fun i=>(cI .i64) (z1.g i)) (E9 [(pI .i64 0)] [(0,(cI .i64) x1)])) (fun i=>(cI .i64) ((z1.push x1).g i)))] (al1 ⟨rfl,(LA (c:=(cI .i64)) (v:=z1) (x:=x1) (z:=[(pI .i64 0)]) same rfl rfl)⟩ al0))
 ·obtain rfl:=B8 h;exact A6 hS trivial ⟨[(4,(.vec 3500))],[(3500,(.vec E7 1 z1.n (fun i=>(cI .i64) (z1.g i)) true))]⟩ [3500] (ids:=[(3500,3500)]) ⟨rfl,rfl,rfl⟩
def T9 (N:Nat)(p_seq:List (Int)):Option (Sl Int):=
 (K3 N p_seq).bind fun y1=>
 some y1
theorem Fs {N:Nat}{p_seq:List (Int)}{p_seq_0:Int}{kp_seq:Nat}(fp_seq:∃fn,Af9[kp_seq]? = some fn/\fn.body.isSome=true/\(fn.name == "runtime.NumGoroutine")=false)(hp_seq:DI S kp_seq [] [.reg 0 0] [(.cells [(.p (pI .u64 p_seq_0))])] (p_seq.map (fun (x:Int)=>[(pI .i64) x]))){y:(Sl Int)}(h:T9 N p_seq=some y) :FunO S W8 [(.clo kp_seq [] [(.reg 0 0)])] [(.cells [(.p (pI .u64 p_seq_0))])] (.vec 0) ([(.vec E7 1 y.n (fun i=>(cI .i64) (y.g i)) true)]) [false]:=by unfold T9 at h;refine A4 hS Bw ?_;obtain⟨y1,e1,h⟩:=B5 h;refine B7 hS [0] trivial (Bc hS hL fp_seq hp_seq e1) ?_;obtain rfl:=B8 h;exact A6 hS trivial ⟨[(2,(.vec 5000))],[(5000,(.vec E7 1 y1.n (fun i=>(cI .i64) (y1.g i)) true))]⟩ [5000] (ids:=[(5000,5000)]) ⟨rfl,rfl,rfl⟩
def GB (N:Nat)(p_p:Pat)(p_w:Sl A2)(p_at:Int):Option ((Sl Int)×Int):=
 (BG N p_p p_w).bind fun y1=>
 lt (fun (z1:Int)=>
  if (z1 != 0) then
   some ((Sl.nil:Sl Int),z1)
  else
   if (((0:Int)<=p_at/\p_at<33)/\(0+p_at.toNat*1)<33)then
    (Y5 N (y1.1 (0+p_at.toNat*1))).bind fun y4=>
    (R9 N y4).bind fun L1=>
    (T9 N L1).bind fun y5=>
    some (y5,0)
   else none
  ) fun k1=>
  if (y1.2==0) then
   (BF N p_w p_at).bind fun y3=>
   k1 y3
  else
   k1 y1.2
theorem RN {N:Nat}{p_p:Pat}{p_w:Sl A2}{p_at:Int}{y:(Sl Int)×Int}(h:GB N p_p p_w p_at=some y) :FunO S KR [.p (.agg (D7 p_p)),.p (vSl 2 A0 p_w),pN p_at] [] (.tup [.vec 0,pN y.2]) ([.vec E7 1 y.1.n (fun i=>cI .i64 (y.1.g i)) true]) []:=by
 unfold GB at h;refine A4 hS RE ?_;refine kC hS h (HG hS hL) (fun y1 h=>?_);refine Kr hS (And.intro rfl (E2 _ _):(0:Nat)=0/\(Ah 33 (fun i=>pI .u64 (y1.1 i))).length=33) (A7 hS) h 0 (fun z1=>⟨[(9,pN z1),(8,.reg 9000 0),(2,pN p_at)],[(9000,.arr 33 (fun i=>pI .u64 (y1.1 i)))]⟩) (fun M1 k1 hb1 h=>?_) (fun z1 h=>?_)
 ·refine kI hS h (fun h=>?_) (fun h=>?_)
  ·refine kC hS h (HF hS hL) (fun y3 h=>?_);exact hb1 _ [(9000,9000)] _ y3 trivial h (hle:=klR [(2,.fn 33 33 (fun i=>[(fun i=>(cA 33 (pI .u64) y1.1).getD i default) i]) (fun i=>[pI .u64 (y1.1 i)]))] (al1 ⟨rfl,D2 33 (fun i=>pI .u64 (y1.1 i))⟩ al0))
  ·exact hb1 _ [(9000,9000)] _ y1.2 trivial h (hle:=klR [(2,.fn 33 33 (fun i=>[(fun i=>(cA 33 (pI .u64) y1.1).getD i default) i]) (fun i=>[pI .u64 (y1.1 i)]))] (al1 ⟨rfl,D2 33 (fun i=>pI .u64 (y1.1 i))⟩ al0))
 ·refine kI hS h (fun h=>?_) (fun h=>?_)
  ·obtain rfl:=B8 h;exact A6 hS trivial ⟨[(7,pN z1),(6,.vec 7700)],[(7700,.vec E7 1 (Sl.nil:Sl Int).n (fun i=>cI .i64 ((Sl.nil:Sl Int).g i)) true)]⟩ [7700] (ids:=[]) ⟨rfl,rfl,rfl⟩
  ·obtain⟨c5,h⟩:=G9 h;obtain⟨y4,e4,h⟩:=B5 h;refine B7 hS [] c5 (CR hS hL e4) ?_;obtain⟨L1,e5,h⟩:=B5 h;obtain⟨y5,e6,h⟩:=B5 h;refine B7 hS [28000] trivial (Fs hS hL ⟨_,Ey,by decide +kernel,by decide +kernel⟩ (Bn hS hL e5) e6) ?_;obtain rfl:=B8 h;exact A6 hS trivial ⟨[(7,pN 0),(6,.vec 29000)],[(29000,.vec E7 1 y5.n (fun i=>cI .i64 (y5.g i)) true)]⟩ [29000] (ids:=[(29000,29000)]) ⟨rfl,rfl,rfl⟩
end Go.AM
namespace Go.AM
open IntKind (wrap)
open Go.Proofs
set_option maxRecDepth 10000
set_option maxHeartbeats 2000000
variable {S:Y7}(hS:H0 S Tryz.prog) (hL:Oo S)
include hS hL
def GC (N:Nat)(p_s:Str):Option Bool:=
 lt (fun (z1:Bool)=>
  some z1
  ) fun k1=>
  if ((p_s==[]) != true) then
   if (decide ((p_s.length:Int)<=24)) then
    (Gh N p_s [97,98,99,100,101,102,103,104,105,106,107,108,109,110,111,112,113,114,115,116,117,118,119,120,121,122,65,66,67,68,69,70,71,72,73,74,75,76,77,78,79,80,81,82,83,84,85,86,87,88,89,90,48,49,50,51,52,53,54,55,56,57,45]).bind fun y2=>
    k1 ((y2==[]) != false)
   else
    k1 false
  else
   k1 false
theorem RO {N:Nat}{p_s:Str}{y:Bool}(h:GC N p_s=some y) :FunO S KL [.p (.str p_s)] [] (pB y) ([]) []:=by
 unfold GC at h;refine A4 hS Rz ?_;refine Kr hS trivial (A7 hS) h 0 (fun z1=>⟨[(2,pB z1)],[]⟩) (fun M1 k1 hb1 h=>?_) (fun z1 h=>?_)
 ·refine kG hS h (fun h=>?_) (fun h=>?_)
  ·refine kG hS h (fun h=>?_) (fun h=>?_)
   ·refine kC hS h (Md hS hL) (fun y2 h=>?_);exact hb1 _ [] _ ((y2==[]) != false) trivial h
   ·exact hb1 _ [] _ false trivial h
  ·exact hb1 _ [] _ false trivial h
 ·cases h;exact kR hS
def FH (N:Nat)(p_x:Bj)(p_k:Int):Option Bool:=
 lt (fun (z1:Bool)=>
  if z1 then
   some false
  else
   if ((((A9 .andNot .u32 (A9 .or .u32 p_x.Clear p_x.Take) 16777215) != 0)||((A9 .and .u32 p_x.Clear (A9 .or .u32 p_x.Set.Plus p_x.Set.Minus)) != 0))||((A9 .and .u32 p_x.Take (A9 .or .u32 (A9 .or .u32 p_x.Set.Plus p_x.Set.Minus) p_x.Clear)) != 0)) then
    some false
   else
    if (p_x.Take==0) then
     some (p_x.Of==0)
    else
     some ((decide (0<=p_x.Of))&&(decide (p_x.Of<p_k)))
  ) fun k1=>
  if (decide (p_x.From<(-1))) then
   k1 true
  else
   if (decide (p_k<=p_x.From)) then
    k1 true
   else
    (J6 N p_x.Set).bind fun y2=>
    k1 (!y2)
theorem Ug {N:Nat}{p_x:Bj}{p_k:Int}{y:Bool}(h:FH N p_x p_k=some y) :FunO S MX [.p (.agg (R5 p_x)),pN p_k] [] (pB y) ([]) []:=by
 unfold FH at h;refine A4 hS TZ ?_;refine Kr hS trivial (A7 hS) h 0 (fun z1=>⟨[(13,pB z1),(5,pU (A9 .or .u32 p_x.Set.Plus p_x.Set.Minus)),(2,.reg 3000 0),(1,pN p_k)],[(3000,.cells ((R5 p_x).map .p))]⟩) (fun M1 k1 hb1 h=>?_) (fun z1 h=>?_)
 ·refine kG hS h (fun h=>?_) (fun h=>?_)
  ·exact hb1 _ [(3000,3000)] _ true trivial h
  ·refine kG hS h (fun h=>?_) (fun h=>?_)
   ·exact hb1 _ [(3000,3000)] _ true trivial h
   ·refine kC hS h (P0 hS hL) (fun y2 h=>?_);exact hb1 _ [(3000,3000)] _ (!y2) trivial h
 ·refine kI hS h (fun h=>?_) (fun h=>?_)
  ·cases h;exact kR hS
  ·refine kB hS (A7 hS) trivial trivial 16 (.o (.o (.a ((A9 .andNot .u32 (A9 .or .u32 p_x.Clear p_x.Take) 16777215) != 0)) (.a ((A9 .and .u32 p_x.Clear (A9 .or .u32 p_x.Set.Plus p_x.Set.Minus)) != 0))) (.a ((A9 .and .u32 p_x.Take (A9 .or .u32 (A9 .or .u32 p_x.Set.Plus p_x.Set.Minus) p_x.Clear)) != 0))) ?_;refine kI hS h (fun h=>?_) (fun h=>?_)
   ·cases h;exact kR hS
   ·refine kI hS h (fun h=>?_) (fun h=>?_)
    ·cases h;exact kR hS
    ·refine kB hS (A7 hS) trivial trivial 5 (.n (.a (decide (0<=p_x.Of))) (.a (decide (p_x.Of<p_k)))) ?_;cases h;exact kR hS
def Ef (N:Nat)(p_x:Bj)(q0:Int):Option Bool:=
 (FH N p_x q0).bind fun y1=>
 some (!y1)
theorem Ox {N:Nat}{p_x:Bj}{q0:Int}{y:Bool}(h:Ef N p_x q0=some y) :FunO S Hu [.p (.agg (R5 p_x)),.reg 0 0] [.cells [pN q0]] (pB y) ([.cells [pN q0]]) [true]:=by unfold Ef at h;refine A4 hS NZ ?_;refine kC hS h (Ug hS hL) (fun y1 h=>?_);obtain rfl:=B8 h;exact A6 hS trivial ⟨[(3,pB (!y1))],[(0,.cells [pN q0])]⟩ [0] (ids:=[(0,0)]) ⟨rfl,rfl,rfl⟩
def Eg (N:Nat)(p_s:A2):Option Bool:=
 (J6 N p_s).bind fun y1=>
 some (!y1)
theorem Oy {N:Nat}{p_s:A2}{y:Bool}(h:Eg N p_s=some y) :FunO S Hv [.p (.agg (A0 p_s))] [] (pB y) ([]) []:=by unfold Eg at h;refine A4 hS Oa ?_;refine kC hS h (P0 hS hL) (fun y1 h=>?_);cases h;exact kR hS
def G3 (N:Nat)(p_s:Sl Bj)(p_f:Bj->Option Bool):Option Int:=
 Co N (fun self1 (x1:Int)=>
  if (decide (x1<(p_s.n:Int))) then
   if ((0:Int)<=x1/\x1<(p_s.n:Int))then
    (p_f (p_s.g x1.toNat)).bind fun y3=>
    if y3 then
     some x1
    else
     self1 (wrap .i64 (x1+1))
   else none
  else
   some (-1)
  ) 0
theorem X2 {N:Nat}{p_s:Sl Bj}{p_f:Bj->Option Bool}{p_f_0:Int}{kp_f:Nat}(hp_f:∀{a0:Bj}{b:Bool},p_f a0=some b->FunO S kp_f [.p (.agg (R5 a0)),.reg 0 0] [.cells [pN p_f_0]] (pB b) [.cells [pN p_f_0]] [true]){y:Int}(h:G3 N p_s p_f=some y) :FunO S N1 [.p (vSl 6 R5 p_s),.clo kp_f [] [.reg 0 0]] [.cells [pN p_f_0]] (pN y) ([.cells [pN p_f_0]]) [true]:=by
 unfold G3 at h;refine A4 hS W9 ?_;refine W6 hS trivial h (fun x1=>⟨[(8,pN x1),(7,pN (p_s.n:Int)),(1,.clo kp_f [] [.reg 0 0]),(0,.p (vSl 6 R5 p_s))],[(0,.cells [pN p_f_0])]⟩) (ids:=[(0,0)]) (fun _ _ _ _ _ self1 x1 hb1 h=>?_);refine kI hS h (fun h=>?_) (fun h=>?_)
 ·obtain⟨c8,h⟩:=G9 h;obtain⟨y3,e3,h⟩:=B5 h;refine B7 hS [0] (And.intro c8 (by decide:(6:Nat)<=6)) (hp_f e3) ?_;refine kI hS h (fun h=>?_) (fun h=>?_)
  ·obtain rfl:=B8 h;exact A6 hS trivial ⟨[(4,pN x1)],[(0,.cells [pN p_f_0])]⟩ [0] (ids:=[(0,0)]) ⟨rfl,rfl,rfl⟩
  ·exact hb1 _ [(0,0)] _ (wrap .i64 (x1+1)) trivial h
 ·obtain rfl:=B8 h;exact A6 hS trivial ⟨[(4,pN (-1))],[(0,.cells [pN p_f_0])]⟩ [0] (ids:=[(0,0)]) ⟨rfl,rfl,rfl⟩
def F0 (N:Nat)(p_s:Sl Bj)(p_f:Bj->Option Bool):Option Bool:=
 (G3 N p_s p_f).bind fun y1=>
 some (decide (0<=y1))
theorem T0 {N:Nat}{p_s:Sl Bj}{p_f:Bj->Option Bool}{p_f_0:Int}{kp_f:Nat}(hp_f:∀{a0:Bj}{b:Bool},p_f a0=some b->FunO S kp_f [.p (.agg (R5 a0)),.reg 0 0] [.cells [pN p_f_0]] (pB b) [.cells [pN p_f_0]] [true]){y:Bool}(h:F0 N p_s p_f=some y) :FunO S J4 [.p (vSl 6 R5 p_s),.clo kp_f [] [.reg 0 0]] [.cells [pN p_f_0]] (pB y) ([.cells [pN p_f_0]]) [true]:=by unfold F0 at h;refine A4 hS S8 ?_;obtain⟨y1,e1,h⟩:=B5 h;refine B7 hS [0] trivial (X2 hS hL (fun e=>hp_f e) e1) ?_;obtain rfl:=B8 h;exact A6 hS trivial ⟨[(4,pB (decide (0<=y1)))],[(0,.cells [pN p_f_0])]⟩ [0] (ids:=[(0,0)]) ⟨rfl,rfl,rfl⟩
def Cg (N:Nat)(p_l:Law):Option Int:=
 (GC N p_l.Name).bind fun y1=>
 if (!y1) then
  some 17
 else
  (Bb N p_l.Left).bind fun y2=>
  if (y2 != 0) then
   some 17
  else
   (Bb N p_l.Right).bind fun y3=>
   if (y3 != 0) then
    some 17
   else
    if (decide (4<(p_l.If.n:Int))) then
     some 17
    else
     if (decide (6<(p_l.Out.n:Int))) then
      some 17
     else
      if ((wrap .i64 ((p_l.If.n:Int)+(p_l.Out.n:Int)))==0) then
       some 17
      else
       if ((decide (p_l.Mode<1))||(decide (3<p_l.Mode))) then
        some 17
       else
        (C5 N p_l.If (fun (u1:A2)=>Eg N u1)).bind fun y4=>
        if y4 then
         some 17
        else
         (F0 N p_l.Out (fun (u2:Bj)=>Ef N u2 (p_l.If.n:Int))).bind fun y5=>
         if y5 then
          some 17
         else
          some 0
theorem GD {N:Nat}{p_l:Law}{y:Int}(h:Cg N p_l=some y) :FunO S KJ [.p (.agg (C0 p_l))] [] (pN y) ([]) []:=by
 unfold Cg at h;refine A4 hS Ry ?_;refine kC hS h (RO hS hL) (fun y1 h=>?_);refine D9 hS trivial (b:=!y1) (fun c1=>?_) (fun c1=>?_)
 ·replace h:=itT c1 h;refine D9 hS trivial (b:=!y1) (fun c2=>?_) (fun c2=>?_)
  ·cases h;exact kR hS
  ·exact Bool.noConfusion (c1.symm.trans c2)
 ·replace h:=itF c1 h;refine kC hS h (Fr hS hL) (fun y2 h=>?_);refine D9 hS trivial (b:=y2 != 0) (fun c3=>?_) (fun c3=>?_)
  ·replace h:=itT c3 h;refine D9 hS trivial (b:=y2 != 0) (fun c4=>?_) (fun c4=>?_)
   ·cases h;exact kR hS
   ·exact Bool.noConfusion (c3.symm.trans c4)
  ·replace h:=itF c3 h;refine kC hS h (Fr hS hL) (fun y3 h=>?_);refine D9 hS trivial (b:=y3 != 0) (fun c5=>?_) (fun c5=>?_)
   ·replace h:=itT c5 h;refine D9 hS trivial (b:=y3 != 0) (fun c6=>?_) (fun c6=>?_)
    ·cases h;exact kR hS
    ·exact Bool.noConfusion (c5.symm.trans c6)
   ·replace h:=itF c5 h;refine D9 hS trivial (b:=decide (4<(p_l.If.n:Int))) (fun c7=>?_) (fun c7=>?_)
    ·replace h:=itT c7 h;refine D9 hS trivial (b:=decide (4<(p_l.If.n:Int))) (fun c8=>?_) (fun c8=>?_)
     ·cases h;exact kR hS
     ·exact Bool.noConfusion (c7.symm.trans c8)
    ·replace h:=itF c7 h;refine D9 hS trivial (b:=decide (6<(p_l.Out.n:Int))) (fun c9=>?_) (fun c9=>?_)
     ·replace h:=itT c9 h;refine D9 hS trivial (b:=decide (6<(p_l.Out.n:Int))) (fun c10=>?_) (fun c10=>?_)
      ·cases h;exact kR hS
      ·exact Bool.noConfusion (c9.symm.trans c10)
     ·replace h:=itF c9 h;refine D9 hS trivial (b:=(wrap .i64 ((p_l.If.n:Int)+(p_l.Out.n:Int)))==0) (fun c11=>?_) (fun c11=>?_)
      ·replace h:=itT c11 h;refine D9 hS trivial (b:=(wrap .i64 ((p_l.If.n:Int)+(p_l.Out.n:Int)))==0) (fun c12=>?_) (fun c12=>?_)
       ·cases h;exact kR hS
       ·exact Bool.noConfusion (c11.symm.trans c12)
      ·replace h:=itF c11 h;refine kB hS (A7 hS) trivial trivial 4 (.o (.a (decide (p_l.Mode<1))) (.a (decide (3<p_l.Mode)))) ?_;refine D9 hS trivial (b:=(decide (p_l.Mode<1))||(decide (3<p_l.Mode))) (fun c13=>?_) (fun c13=>?_)
       ·replace h:=itT c13 h;refine D9 hS trivial (b:=(decide (p_l.Mode<1))||(decide (3<p_l.Mode))) (fun c14=>?_) (fun c14=>?_)
        ·cases h;exact kR hS
        ·exact Bool.noConfusion (c13.symm.trans c14)
       ·replace h:=itF c13 h;refine kC hS h (I0 hS hL (fun e=>Oy hS hL e)) (fun y4 h=>?_);refine D9 hS trivial (b:=y4) (fun c15=>?_) (fun c15=>?_)
        ·replace h:=itT c15 h;refine D9 hS trivial (b:=y4) (fun c16=>?_) (fun c16=>?_)
         ·cases h;exact kR hS
         ·exact Bool.noConfusion (c15.symm.trans c16)
        ·replace h:=itF c15 h;obtain⟨y5,e5,h⟩:=B5 h;refine B7 hS [4000] trivial (T0 hS hL (fun e=>Ox hS hL e) e5) ?_;refine kI hS h (fun h=>?_) (fun h=>?_)
         ·cases h;exact kR hS
         ·cases h;exact kR hS
def GE (N:Nat)(p_l:Law)(p_w:Sl A2):Option Int:=
 (Cg N p_l).bind fun y1=>
 if (y1 != 0) then
  some y1
 else
  (AZ N p_w).bind fun y2=>
  some y2
theorem RQ {N:Nat}{p_l:Law}{p_w:Sl A2}{y:Int}(h:GE N p_l p_w=some y) :FunO S KQ [.p (.agg (C0 p_l)),.p (vSl 2 A0 p_w)] [] (pN y) ([]) []:=by
 unfold GE at h;refine A4 hS RC ?_;refine kC hS h (GD hS hL) (fun y1 h=>?_);refine kI hS h (fun h=>?_) (fun h=>?_)
 ·cases h;exact kR hS
 ·refine kC hS h (Fp hS hL) (fun y2 h=>?_);cases h;exact kR hS
def CU (N:Nat)(p_at:Int)(q0:Law)(q1:Sl A2):Option Bool:=
 (Ee N q0.Left q1 p_at).bind fun y1=>
 if ((y1.1.n:Int)==0) then
  some false
 else
  (GB N q0.Right q1 (wrap .i64 (p_at+(q0.If.n:Int)))).bind fun y2=>
  some (decide (0<(y2.1.n:Int)))
theorem Mi {N:Nat}{p_at:Int}{q0:Law}{q1:Sl A2}{y:Bool}(h:CU N p_at q0 q1=some y) :FunO S S2 [pN p_at,.reg 0 0,.reg 1 0] [.cells ((C0 q0).map .p),.cells [.p (vSl 2 A0 q1)]] (pB y) ([.cells ((C0 q0).map .p),.cells [.p (vSl 2 A0 q1)]]) [true,true]:=by
 unfold CU at h;refine A4 hS LY ?_;refine kC hS h (Ow hS hL) (fun y1 h=>?_);refine kI hS h (fun h=>?_) (fun h=>?_)
 ·obtain rfl:=B8 h;exact A6 hS trivial ⟨[(4,pB false)],[(1,.cells [.p (vSl 2 A0 q1)]),(0,.cells ((C0 q0).map .p))]⟩ [0,1] (ids:=[(0,0),(1,1)]) ⟨rfl,rfl,rfl⟩
 ·refine kC hS h (RN hS hL) (fun y2 h=>?_);obtain rfl:=B8 h;exact A6 hS trivial ⟨[(4,pB (decide (0<(y2.1.n:Int))))],[(1,.cells [.p (vSl 2 A0 q1)]),(0,.cells ((C0 q0).map .p))]⟩ [0,1] (ids:=[(0,0),(1,1)]) ⟨rfl,rfl,rfl⟩
def Ft (N:Nat)(p_l:Law)(p_w:Sl A2):Option (Law×(Sl A2)):=
 some (p_l,p_w)
theorem Qp {N:Nat}{p_l:Law}{p_w:Sl A2}{y:Law×(Sl A2)}(h:Ft N p_l p_w=some y) :FunO S IZ [.p (.agg (C0 p_l)),.p (vSl 2 A0 p_w)] [] (.clo S2 [] [.reg 0 0,.reg 1 0]) ([.cells ((C0 y.1).map .p),.cells [.p (vSl 2 A0 y.2)]]) []:=by unfold Ft at h;refine A4 hS Qj ?_;obtain rfl:=B8 h;exact A6 hS trivial ⟨[(4,.clo S2 [] [.reg 3000 0,.reg 4000 0])],[(4000,.cells [.p (vSl 2 A0 p_w)]),(3000,.cells ((C0 p_l).map .p))]⟩ [3000,4000] (ids:=[(3000,3000),(4000,4000)]) ⟨rfl,rfl,rfl⟩
def HH (N:Nat)(p_l:Law)(p_cut:Sl A2):Option (Sl A2):=
 Dq N (fun self1 (x1:Sl A2) (x2:Int)=>
  if (decide (x2<(p_l.Out.n:Int))) then
   if ((0:Int)<=x2/\x2<(p_l.Out.n:Int))then
    if ((decide (0<=(p_l.Out.g x2.toNat).From))=true->((0:Int)<=(p_l.Out.g x2.toNat).From/\(p_l.Out.g x2.toNat).From<(p_cut.n:Int)))then
     (CP N (⟨(if (decide (0<=(p_l.Out.g x2.toNat).From)) then (p_cut.g (p_l.Out.g x2.toNat).From.toNat).Plus else 0),(if (decide (0<=(p_l.Out.g x2.toNat).From)) then (p_cut.g (p_l.Out.g x2.toNat).From.toNat).Minus else 0)⟩:A2) (p_l.Out.g x2.toNat).Clear (p_l.Out.g x2.toNat).Set).bind fun y5=>
     if ((p_l.Out.g x2.toNat).Take != 0) then
      if ((0:Int)<=(p_l.Out.g x2.toNat).Of/\(p_l.Out.g x2.toNat).Of<(p_cut.n:Int))then
       (Fn N y5.1 (p_cut.g (p_l.Out.g x2.toNat).Of.toNat) (p_l.Out.g x2.toNat).Take).bind fun y6=>
       if ((x1.n+(Sl.of [y6.1]:Sl A2).n)*8<=140737488355328/\x1.n+(Sl.of [y6.1]:Sl A2).n<=140737488355328)then
        self1 (x1.push y6.1) (wrap .i64 (x2+1))
       else none
      else none
     else
      if ((x1.n+(Sl.of [y5.1]:Sl A2).n)*8<=140737488355328/\x1.n+(Sl.of [y5.1]:Sl A2).n<=140737488355328)then
       self1 (x1.push y5.1) (wrap .i64 (x2+1))
      else none
    else none
   else none
  else
   some x1
  ) (Sl.nil:Sl A2) 0
theorem Qq {N:Nat}{p_l:Law}{p_cut:Sl A2}{y:Sl A2}(h:HH N p_l p_cut=some y) :FunO S Qg [.p (.agg (C0 p_l)),.p (vSl 2 A0 p_cut)] [] (.p (vSl 2 A0 y)) ([]) []:=by
 unfold HH at h;refine A4 hS VM ?_;refine H5 hS trivial 4 3000 (C0 p_l) ?_;refine N0 hS trivial h (fun x1 x2=>⟨[(12,pN x2),(11,pN (p_l.Out.n:Int)),(10,.p (vSl 6 R5 p_l.Out)),(5,.vec 6500),(1,.p (vSl 2 A0 p_cut))],[(6500,.vec D8 2 x1.n (fun i=>A0 (x1.g i)) false)]⟩) (ids:=[]) (fun _ _ _ _ _ self1 x1 x2 hb3 h=>?_);refine kI hS h (fun h=>?_) (fun h=>?_)
 ·obtain⟨c16,h⟩:=G9 h;refine H5 hS (And.intro c16 (by decide:(6:Nat)<=6)) 8 8000 (R5 (p_l.Out.g x2.toNat)) ?_;obtain⟨c18,h⟩:=G9 h;obtain⟨t5,ht5⟩:∃x:Int,x=(if (decide (0<=(p_l.Out.g x2.toNat).From)) then (p_cut.g (p_l.Out.g x2.toNat).From.toNat).Plus else 0):=⟨_,rfl⟩;obtain⟨t6,ht6⟩:∃x:Int,x=(if (decide (0<=(p_l.Out.g x2.toNat).From)) then (p_cut.g (p_l.Out.g x2.toNat).From.toNat).Minus else 0):=⟨_,rfl⟩;refine TO hS trivial (A7 hS) 0 ⟨[(12,pN x2),(11,pN (p_l.Out.n:Int)),(10,.p (vSl 6 R5 p_l.Out)),(8,.reg 9000 0),(7,.p (.ptr (R5 (p_l.Out.g x2.toNat)))),(5,.vec 6500),(1,.p (vSl 2 A0 p_cut))],[(9000,.cells [pU t5,pU t6]),(6500,.vec D8 2 x1.n (fun i=>A0 (x1.g i)) false)]⟩ (fun M3 hb4=>?_) ?_
  ·refine D9 hS trivial (b:=decide (0<=(p_l.Out.g x2.toNat).From)) (fun c19=>?_) (fun c19=>?_)
   ·exact hb4 _ [(6500,6500),(9000,9000)] _ (And.intro (c18 c19) (by decide:(2:Nat)<=2)) (hle:=klR [(5,.eq (pI .u32 (p_cut.g (p_l.Out.g x2.toNat).From.toNat).Plus) (pI .u32 t5)),(6,.eq (pI .u32 (p_cut.g (p_l.Out.g x2.toNat).From.toNat).Minus) (pI .u32 t6))] (al1 (by simp only[ht5,ht6,c19,Leaf.ok,pm,if_true,if_false]) (al1 (by simp only[ht5,ht6,c19,Leaf.ok,pm,if_true,if_false]) al0)))
   ·exact hb4 _ [(6500,6500),(9000,9000)] _ trivial (hle:=klR [(5,.eq (pI .u32 0) (pI .u32 t5)),(6,.eq (pI .u32 0) (pI .u32 t6))] (al1 (by simp only[ht5,ht6,c19,Leaf.ok,pm,if_true,if_false]) (al1 (by simp only[ht5,ht6,c19,Leaf.ok,pm,if_true,if_false]) al0)))
  ·subst ht6;subst ht5;obtain⟨y5,e5,h⟩:=B5 h;refine B7 hS [] (by decide:(2:Nat)<=4) (Me hS hL e5) ?_;refine kI hS h (fun h=>?_) (fun h=>?_)
   ·refine I7 hS trivial [3,4,5,7,8] ?_;obtain⟨c21,h⟩:=G9 h;obtain⟨y6,e6,h⟩:=B5 h;refine Q9 (And.intro c21 (by decide:(2:Nat)<=2)) (Qn hS hL e6) ?_;refine J2 trivial ?_;obtain⟨c22,h⟩:=G9 h;exact hb3 _ [(6500,52000)] _ (x1.push y6.1) (wrap .i64 (x2+1)) (And.intro (rfl:true=true) c22) h (hle:=klR [(4,.fn (x1.n+1) (x1.push y6.1).n (Ay x1.n (fun i=>A0 (x1.g i)) (E9 [pI .u32 0,pI .u32 0] [(0,A0 y6.1)])) (fun i=>A0 ((x1.push y6.1).g i)))] (al1 ⟨rfl,LA (c:=A0) (v:=x1) (x:=y6.1) (z:=[(pI .u32 0),pI .u32 0]) same rfl rfl⟩ al0))
   ·obtain⟨c23,h⟩:=G9 h;exact hb3 _ [(6500,52000)] _ (x1.push y5.1) (wrap .i64 (x2+1)) (And.intro (rfl:true=true) c23) h (hle:=klR [(4,.fn (x1.n+1) (x1.push y5.1).n (Ay x1.n (fun i=>A0 (x1.g i)) (E9 [pI .u32 0,pI .u32 0] [(0,A0 y5.1)])) (fun i=>A0 ((x1.push y5.1).g i)))] (al1 ⟨rfl,LA (c:=A0) (v:=x1) (x:=y5.1) (z:=[(pI .u32 0),pI .u32 0]) same rfl rfl⟩ al0))
 ·obtain rfl:=B8 h;exact A6 hS trivial ⟨[(4,.p (vSl 2 A0 x1))],[]⟩ [] (ids:=[]) ⟨rfl,rfl,rfl⟩
def D6 (N:Nat)(p_slices:Sl (Sl A2)):Option (Sl A2):=
 Dq N (fun self1 (x1:Int) (x2:Int)=>
  if (decide (x2<(p_slices.n:Int))) then
   if ((0:Int)<=x2/\x2<(p_slices.n:Int))then
    if (decide ((wrap .i64 (x1+((p_slices.g x2.toNat).n:Int)))<0)) then
     none
    else
     self1 (wrap .i64 (x1+((p_slices.g x2.toNat).n:Int))) (wrap .i64 (x2+1))
   else none
  else
   (N8 N x1).bind fun y1=>
   Dq N (fun self2 (x3:Sl A2) (x4:Int)=>
    if (decide (x4<(p_slices.n:Int))) then
     if (((0:Int)<=x4/\x4<(p_slices.n:Int))/\((x3.n+(p_slices.g x4.toNat).n)*8<=140737488355328/\x3.n+(p_slices.g x4.toNat).n<=140737488355328))then
      self2 (x3.app (p_slices.g x4.toNat)) (wrap .i64 (x4+1))
     else none
    else
     some x3
    ) y1 0
  ) 0 0
theorem K9 {N:Nat}{p_slices:Sl (Sl A2)}{y:Sl A2}(h:D6 N p_slices=some y) :FunO S K8 [.p (vSl 1 (cL 2 A0) p_slices)] [] (.vec 0) ([.vec D8 2 y.n (fun i=>A0 (y.g i)) true]) []:=by
 unfold D6 at h;refine A4 hS V4 ?_;refine N0 hS trivial h (fun x1 x2=>⟨[(11,pN x2),(10,pN (p_slices.n:Int)),(9,.p (vSl 1 (cL 2 A0) p_slices)),(3,pN x1),(0,.p (vSl 1 (cL 2 A0) p_slices))],[]⟩) (ids:=[]) (fun _ _ _ _ _ self1 x1 x2 hb1 h=>?_);refine kI hS h (fun h=>?_) (fun h=>?_)
 ·obtain⟨c8,h⟩:=G9 h;refine D9 hS c8 (b:=decide ((wrap .i64 (x1+((p_slices.g x2.toNat).n:Int)))<0)) (fun c9=>?_) (fun c9=>?_)
  ·replace h:=itT c9 h;cases h
  ·replace h:=itF c9 h;exact hb1 _ [] _ (wrap .i64 (x1+((p_slices.g x2.toNat).n:Int))) (wrap .i64 (x2+1)) trivial h
 ·refine kC hS h (Y4 hS hL) (fun y1 h=>?_);refine N0 hS trivial h (fun x3 x4=>⟨[(27,pN x4),(26,pN (p_slices.n:Int)),(25,.p (vSl 1 (cL 2 A0) p_slices)),(6,.vec 7500)],[(7500,.vec D8 2 x3.n (fun i=>A0 (x3.g i)) false)]⟩) (ids:=[(7500,25000)]) (fun _ _ _ _ _ self2 x3 x4 hb2 h=>?_);refine kI hS h (fun h=>?_) (fun h=>?_)
  ·obtain⟨c13,h⟩:=G9 h;exact hb2 _ [(7500,34000)] _ (x3.app (p_slices.g x4.toNat)) (wrap .i64 (x4+1)) c13 h (hle:=klR [(3,.fn (x3.n+(p_slices.g x4.toNat).n) (x3.app (p_slices.g x4.toNat)).n (Ay x3.n (fun i=>A0 (x3.g i)) (fun i=>A0 ((p_slices.g x4.toNat).g i))) (fun i=>A0 ((x3.app (p_slices.g x4.toNat)).g i)))] (al1 ⟨rfl,appL (c:=A0) (v:=x3) (w:=p_slices.g x4.toNat) same rfl same rfl⟩ al0))
  ·obtain rfl:=B8 h;exact A6 hS trivial ⟨[(2,.vec 7500)],[(7500,.vec D8 2 x3.n (fun i=>A0 (x3.g i)) true)]⟩ [7500] (ids:=[(7500,7500)]) ⟨rfl,rfl,rfl⟩
def BH (N:Nat)(p_l:Law)(p_w:Sl A2)(p_at:Int):Option (Sl A2):=
 if (((0:Int)<=p_at/\p_at<=(p_w.n:Int))/\((0:Int)<=p_at/\p_at<=(wrap .i64 (p_at+(p_l.If.n:Int)))/\(wrap .i64 (p_at+(p_l.If.n:Int)))<=(p_w.n:Int)))then
  (HH N p_l (p_w.sub p_at.toNat (wrap .i64 (p_at+(p_l.If.n:Int))).toNat)).bind fun y1=>
  if ((0:Int)<=(wrap .i64 (p_at+(p_l.If.n:Int)))/\(wrap .i64 (p_at+(p_l.If.n:Int)))<=(p_w.n:Int))then
   (D6 N (Sl.of [p_w.take p_at.toNat,y1,p_w.drop (wrap .i64 (p_at+(p_l.If.n:Int))).toNat]:Sl (Sl A2))).bind fun y2=>
   some y2
  else none
 else none
theorem HI {N:Nat}{p_l:Law}{p_w:Sl A2}{p_at:Int}{y:Sl A2}(h:BH N p_l p_w p_at=some y) :FunO S Hy [.p (.agg (C0 p_l)),.p (vSl 2 A0 p_w),pN p_at] [] (.vec 0) ([.vec D8 2 y.n (fun i=>A0 (y.g i)) true]) []:=by unfold BH at h;refine A4 hS Od ?_;refine H5 hS trivial 6 4000 (C0 p_l) ?_;refine I7 hS trivial [3,8] ?_;obtain⟨c1,h⟩:=G9 h;obtain⟨y1,e1,h⟩:=B5 h;refine Q9 (And.intro (And.intro c1.1 (by decide:(18:Nat)<=18)) c1.2) (Qq hS hL e1) ?_;obtain⟨c2,h⟩:=G9 h;refine CL c2 (x:=.sl true 1 3 (E9 [K5] [(0,cL 2 A0 (p_w.take p_at.toNat)),(1,cL 2 A0 y1),(2,cL 2 A0 (p_w.drop (wrap .i64 (p_at+(p_l.If.n:Int))).toNat))])) ?_;obtain⟨y2,e2,h⟩:=B5 h;refine VB [] trivial (FunO.le hS (args:=[.p (.sl true 1 3 (E9 [K5] [(0,cL 2 A0 (p_w.take p_at.toNat)),(1,cL 2 A0 y1),(2,cL 2 A0 (p_w.drop (wrap .i64 (p_at+(p_l.If.n:Int))).toNat))]))]) (by exact⟨XT rfl (fun i hi=>match i,hi with|0,_=>rfl|1,_=>rfl|2,_=>rfl|_+3,hi=>absurd hi (by omega)),trivial⟩) (K9 hS hL e2)) ?_;refine J2 trivial ?_;obtain rfl:=B8 h;exact A6 hS trivial ⟨[(6,.vec 27000)],[(27000,.vec D8 2 y2.n (fun i=>A0 (y2.g i)) true)]⟩ [27000] (ids:=[(27000,27000)]) ⟨rfl,rfl,rfl⟩
def CC (N:Nat)(q0:Law)(q1:Sl A2)(q2:Int):Option (List (Int)):=
 (Ft N q0 q1).bind fun y1=>
 Co N (fun self3 (x2:Int)=>
  if (decide ((wrap .i64 (x2+(q0.If.n:Int)))<=(q1.n:Int))) then
   Co N (fun self4 (x4:Int)=>
    if (decide (x4<(q0.If.n:Int))) then
     if ((0:Int)<=x4/\x4<(q0.If.n:Int))then
      if ((0:Int)<=(wrap .i64 (x2+x4))/\(wrap .i64 (x2+x4))<(q1.n:Int))then
       (AF N (q1.g (wrap .i64 (x2+x4)).toNat) (q0.If.g x4.toNat)).bind fun y12=>
       if (!y12) then
        self3 (wrap .i64 (x2+1))
       else
        self4 (wrap .i64 (x4+1))
      else none
     else none
    else
     (CU N x2 y1.1 y1.2).bind fun y13=>
     if y13 then
      Hj x2 (
       self3 (wrap .i64 (x2+1))
       )
     else
      self3 (wrap .i64 (x2+1))
    ) 0
  else
   some []
  ) q2
theorem Jb {N:Nat}{q0:Law}{q1:Sl A2}{q2:Int}{L:List (Int)}(h:CC N q0 q1 q2=some L) :DI S Cx [] [.reg 0 0,.reg 1 0,.reg 2 0] [.cells ((C0 q0).map .p),.cells [.p (vSl 2 A0 q1)],.cells [pN q2]] (L.map (fun (x:Int)=>[pI .i64 x])):=by
 unfold CC at h;refine DM hS Qi ?_;refine kC hS h (Qp hS hL) (fun y1 h=>?_);refine EV hS trivial h (fun x2 L1=>⟨[(6,pN x2),(5,.clo S2 [] [.reg 12000 0,.reg 12001 0]),(2,.reg 1 0),(1,.reg 0 0),(0,.yf 3)],[(12001,.cells [.p (vSl 2 A0 y1.2)]),(12000,.cells ((C0 y1.1).map .p)),(3,.yld (L1.map (fun (x:Int)=>[pI .i64 x])) true),(2,.cells [pN q2]),(1,.cells [.p (vSl 2 A0 q1)]),(0,.cells ((C0 q0).map .p))]⟩) (ids:=[(0,0),(1,1),(2,2),(3,3),(12000,12000),(12001,12001)]) (fun _ _ _ _ _ self3 x2 L1 hb3 h=>?_);refine kI hS h (fun h=>?_) (fun h=>?_)
 ·refine EV hS trivial h (fun x4 L8=>⟨[(26,pN x4),(25,pN (q0.If.n:Int)),(24,.p (vSl 2 A0 q0.If)),(6,pN x2),(5,.clo S2 [] [.reg 12000 0,.reg 12001 0]),(2,.reg 1 0),(1,.reg 0 0),(0,.yf 3)],[(12001,.cells [.p (vSl 2 A0 y1.2)]),(12000,.cells ((C0 y1.1).map .p)),(3,.yld (L8.map (fun (x:Int)=>[pI .i64 x])) true),(2,.cells [pN q2]),(1,.cells [.p (vSl 2 A0 q1)]),(0,.cells ((C0 q0).map .p))]⟩) (ids:=[(0,0),(1,1),(2,2),(3,3),(12000,12000),(12001,12001)]) (fun _ _ _ _ _ self4 x4 L8 hb4 h=>?_);refine kI hS h (fun h=>?_) (fun h=>?_)
  ·obtain⟨c47,h⟩:=G9 h;refine Xl hS (And.intro c47 (by decide:(2:Nat)<=2)) 9000 [pI .u32 (q0.If.g x4.toNat).Plus,pI .u32 (q0.If.g x4.toNat).Minus] ?_;refine I7 hS trivial [4,5,6,7] ?_;obtain⟨c48,h⟩:=G9 h;obtain⟨y12,e12,h⟩:=B5 h;refine Q9 (And.intro (And.intro c48 (by decide:(2:Nat)<=2)) (by decide:(2:Nat)<=2)) (Ip hS hL e12) ?_;refine J2 trivial ?_;refine kI hS h (fun h=>?_) (fun h=>?_)
   ·exact hb3 _ [(0,0),(1,1),(2,2),(3,3),(12000,12000),(12001,12001)] _ (wrap .i64 (x2+1)) L8 trivial h
   ·exact hb4 _ [(0,0),(1,1),(2,2),(3,3),(12000,12000),(12001,12001)] _ (wrap .i64 (x4+1)) L8 trivial h
  ·obtain⟨y13,e13,h⟩:=B5 h;refine B7 hS [12000,12001] trivial (Mi hS hL e13) ?_;refine kG hS h (fun h=>?_) (fun h=>?_)
   ·obtain⟨L10,rfl,hcL10⟩:=Kt h;replace h:=hcL10;refine BX hS trivial (ys:=(fun (x:Int)=>[pI .i64 x]) x2) (rest:=L10.map (fun (x:Int)=>[pI .i64 x])) ?_ ?_
    ·refine D9 hS trivial (b:=false) (fun c53=>?_) (fun c53=>?_)
     ·exact Bool.noConfusion ((rfl:false=false).symm.trans c53)
     ·exact hb3 _ [(0,0),(1,1),(2,2),(3,3),(12000,12000),(12001,12001)] _ (wrap .i64 (x2+1)) L10 trivial h
    ·refine D9 hS trivial (b:=true) (fun c54=>?_) (fun c54=>?_)
     ·exact A6 hS trivial (a:=.tup []) (objs:=[(.cells ((C0 q0).map .p)),.cells [.p (vSl 2 A0 q1)],.cells [pN q2],.yld [] false]) ⟨[],[(3,.yld [] false),(2,.cells [pN q2]),(1,.cells [.p (vSl 2 A0 q1)]),(0,.cells ((C0 q0).map .p))]⟩ [0,1,2,3] (ids:=[(0,0),(1,1),(2,2),(3,3)]) ⟨false,rfl,rfl,_,rfl⟩
     ·exact Bool.noConfusion ((rfl:true=true).symm.trans c54)
   ·exact hb3 _ [(0,0),(1,1),(2,2),(3,3),(12000,12000),(12001,12001)] _ (wrap .i64 (x2+1)) L8 trivial h
 ·obtain rfl:=B8 h;exact A6 hS trivial (a:=.tup []) (objs:=[(.cells ((C0 q0).map .p)),.cells [.p (vSl 2 A0 q1)],.cells [pN q2],.yld [] true]) ⟨[],[(3,.yld [] true),(2,.cells [pN q2]),(1,.cells [.p (vSl 2 A0 q1)]),(0,.cells ((C0 q0).map .p))]⟩ [0,1,2,3] (ids:=[(0,0),(1,1),(2,2),(3,3)]) ⟨true,rfl,rfl,_,rfl⟩
def FI (N:Nat)(p_l:Law)(p_w:Sl A2)(p_from:Int):Option (Law×(Sl A2)×Int):=
 some (p_l,p_w,p_from)
theorem Na {N:Nat}{p_l:Law}{p_w:Sl A2}{p_from:Int}{y:Law×(Sl A2)×Int}(h:FI N p_l p_w p_from=some y) :FunO S MY [.p (.agg (C0 p_l)),.p (vSl 2 A0 p_w),pN p_from] [] (.clo Cx [] [.reg 0 0,.reg 1 0,.reg 2 0]) ([.cells ((C0 y.1).map .p),.cells [.p (vSl 2 A0 y.2.1)],.cells [pN y.2.2]]) []:=by unfold FI at h;refine A4 hS Ua ?_;obtain rfl:=B8 h;exact A6 hS trivial ⟨[(6,.clo Cx [] [.reg 4000 0,.reg 5000 0,.reg 6000 0])],[(6000,.cells [pN p_from]),(5000,.cells [.p (vSl 2 A0 p_w)]),(4000,.cells ((C0 p_l).map .p))]⟩ [4000,5000,6000] (ids:=[(4000,4000),(5000,5000),(6000,6000)]) ⟨rfl,rfl,rfl⟩
def HJ (N:Nat)(p_l:Law)(p_w:Sl A2)(p_at:Int):Option Bool:=
 (FI N p_l p_w p_at).bind fun y1=>
 (CC N y1.1 y1.2.1 y1.2.2).bind fun L1=>
 S7 L1 (fun self1 (x1:Int) (_:Unit)=>
  some (x1==p_at)
  ) (fun (_:Unit)=>
   some false
  ) ()
theorem Qr {N:Nat}{p_l:Law}{p_w:Sl A2}{p_at:Int}{y:Bool}(h:HJ N p_l p_w p_at=some y) :FunO S Qh [.p (.agg (C0 p_l)),.p (vSl 2 A0 p_w),pN p_at] [] (pB y) ([]) []:=by
 unfold HJ at h;refine A4 hS VN ?_;refine kC hS h (Na hS hL) (fun y1 h=>?_);obtain⟨L1,e2,h⟩:=B5 h;refine DN hS trivial [12000,12001,12002] [6,5] 901 (fun _=>⟨[(6,.reg 7000 0),(5,.reg 6000 0)],[(7000,.cells [.p (.v (.bool false))]),(6000,.cells [pN p_at])]⟩) (idl:=[(6000,6000),(7000,7000)]) h (Jb hS hL e2) (fun _=>by kernel_rfl) (fun _=>by kernel_rfl) (fun _=>by kernel_rfl) (fun _=>by kernel_rfl) (fun x1 _ self1 _ hb1 h=>?_) (fun _ h=>?_)
 ·refine Hk hS trivial ?_;refine NQ hS trivial ⟨[(6,.reg 7000 0),(5,.reg 6000 0)],[(7000,.cells [pB (x1==p_at)]),(6000,.cells [pN p_at])]⟩ (ids:=[(901,901),(6000,6000),(7000,7000)]) ?_;cases h;exact kR hS
 ·cases h;exact kR hS
def GF (N:Nat)(q0:Sl A2)(q1:Law)(q2:Int)(q3:Int):Option (List (Int×(Sl A2))):=
 if (q1.Mode==1) then
  (FI N q1 q0 0).bind fun y1=>
  (CC N y1.1 y1.2.1 y1.2.2).bind fun L1=>
  S7 L1 (fun self1 (x1:Int) (z1:(Sl A2)×Int×Int)=>
   if (decide (x1<z1.2.1)) then
    self1 (z1.1,z1.2.1,z1.2.2)
   else
    if (((0:Int)<=(wrap .i64 (x1+z1.2.2))/\(wrap .i64 (x1+z1.2.2))<=(z1.1.n:Int))/\((0:Int)<=x1/\x1<=(wrap .i64 (x1+q2))/\(wrap .i64 (x1+q2))<=(q0.n:Int)))then
     (HH N q1 (q0.sub x1.toNat (wrap .i64 (x1+q2)).toNat)).bind fun y6=>
     if ((0:Int)<=(wrap .i64 (x1+q2))/\(wrap .i64 (x1+q2))<=(q0.n:Int))then
      (D6 N (Sl.of [z1.1.take (wrap .i64 (x1+z1.2.2)).toNat,y6,q0.drop (wrap .i64 (x1+q2)).toNat]:Sl (Sl A2))).bind fun y7=>
      Hj (x1,y7) (
       self1 (y7,wrap .i64 (x1+(if q2<1 then 1 else q2)),wrap .i64 ((wrap .i64 (z1.2.2+q3))-q2))
       )
     else none
    else none
   ) (fun (z1:(Sl A2)×Int×Int)=>
    some []
   ) (q0,0,0)
 else
  if (q1.Mode==2) then
   Dq N (fun self2 (x5:Sl A2) (x6:Int)=>
    if (decide ((wrap .i64 (x6+q2))<=(x5.n:Int))) then
     (HJ N q1 x5 x6).bind fun y12=>
     if (!y12) then
      self2 x5 (wrap .i64 (x6+1))
     else
      (BH N q1 x5 x6).bind fun y13=>
      Hj (x6,y13) (
       if (q2==0) then
        self2 y13 (wrap .i64 ((wrap .i64 (x6+q3))+1))
       else
        self2 y13 (wrap .i64 (x6+q3))
       )
    else
     some []
    ) q0 0
  else
   if (q1.Mode==3) then
    Dq N (fun self3 (x7:Sl A2) (x8:Int)=>
     if (decide (0<=x8)) then
      (HJ N q1 x7 x8).bind fun y18=>
      if (!y18) then
       self3 x7 (wrap .i64 (x8-1))
      else
       (BH N q1 x7 x8).bind fun y19=>
       Hj (x8,y19) (
        self3 y19 (wrap .i64 (x8-(if q2<1 then 1 else q2)))
        )
     else
      some []
     ) q0 (wrap .i64 ((q0.n:Int)-q2))
   else
    some []
theorem RR {N:Nat}{q0:Sl A2}{q1:Law}{q2:Int}{q3:Int}{L:List (Int×(Sl A2))}(h:GF N q0 q1 q2 q3=some L) :DI S DT [] [.reg 0 0,.reg 1 0,.reg 2 0,.reg 3 0] [.cells [.p (vSl 2 A0 q0)],.cells ((C0 q1).map .p),.cells [pN q2],.cells [pN q3]] (L.map (fun (x:Int×(Sl A2))=>[pI .i64 x.1,vSl 2 A0 x.2])):=by
 unfold GF at h;refine DM hS RD ?_;refine kI hS h (fun h=>?_) (fun h=>?_)
 ·refine kC hS h (Na hS hL) (fun y1 h=>?_);obtain⟨L1,e2,h⟩:=B5 h;refine Xj hS trivial [20000,20001,20002] [8,7,6,5,4,3,2,1] 900 (fun z1 L2=>⟨[(8,.reg 9000 0),(7,.reg 8000 0),(6,.reg 7000 0),(5,.reg 6000 0),(4,.reg 3 0),(3,.reg 2 0),(2,.reg 1 0),(1,.reg 0 0)],[(9000,.cells [pN z1.2.2]),(8000,.cells [pN z1.2.1]),(7000,.cells [.p (vSl 2 A0 z1.1)]),(6000,.cells [.yf 4]),(4,.yld (L2.map (fun (x:Int×(Sl A2))=>[pI .i64 x.1,vSl 2 A0 x.2])) true),(3,.cells [pN q3]),(2,.cells [pN q2]),(1,.cells ((C0 q1).map .p)),(0,.cells [.p (vSl 2 A0 q0)])]⟩) (idl:=[(0,0),(1,1),(2,2),(3,3),(4,4),(6000,6000),(7000,7000),(8000,8000),(9000,9000)]) h (Jb hS hL e2) (fun _=>by kernel_rfl) (fun _ _=>by kernel_rfl) (fun _ _=>by kernel_rfl) (fun _ _=>by kernel_rfl) (fun x1 _ self1 z1 L2 hb1 h=>?_) (fun z1 L2 h=>?_)
  ·refine Hk hS trivial ?_;refine kI hS h (fun h=>?_) (fun h=>?_)
   ·exact hb1 _ [(0,0),(1,1),(2,2),(3,3),(4,4),(900,900),(6000,6000),(7000,7000),(8000,8000),(9000,9000)] _ (z1.1,z1.2.1,z1.2.2) L2 trivial h
   ·refine U7 hS trivial [(0,.l [7000]),(2,.l [9000]),(5,.l [1]),(6,.l [0]),(9,.l [2]),(12,.n),(13,.l [0]),(15,.l [2]),(20,.a [7000])] ?_;obtain⟨c13,h⟩:=G9 h;obtain⟨y6,e7,h⟩:=B5 h;refine Q9 c13 (Qq hS hL e7) ?_;obtain⟨c14,h⟩:=G9 h;refine CL c14 (x:=.sl true 1 3 (E9 [K5] [(0,cL 2 A0 (z1.1.take (wrap .i64 (x1+z1.2.2)).toNat)),(1,cL 2 A0 y6),(2,cL 2 A0 (q0.drop (wrap .i64 (x1+q2)).toNat))])) ?_;obtain⟨y7,e8,h⟩:=B5 h;refine VB [] trivial (FunO.le hS (args:=[.p (.sl true 1 3 (E9 [K5] [(0,cL 2 A0 (z1.1.take (wrap .i64 (x1+z1.2.2)).toNat)),(1,cL 2 A0 y6),(2,cL 2 A0 (q0.drop (wrap .i64 (x1+q2)).toNat))]))]) (by exact⟨XT rfl (fun i hi=>match i,hi with|0,_=>rfl|1,_=>rfl|2,_=>rfl|_+3,hi=>absurd hi (by omega)),trivial⟩) (K9 hS hL e8)) ?_;refine J2 trivial ?_;obtain⟨L5,rfl,hcL5⟩:=Kt h;replace h:=hcL5;refine BX hS trivial (ys:=(fun (x:Int×(Sl A2))=>[pI .i64 x.1,vSl 2 A0 x.2]) (x1,y7)) (rest:=L5.map (fun (x:Int×(Sl A2))=>[pI .i64 x.1,vSl 2 A0 x.2])) ?_ ?_
    ·refine D9 hS trivial (b:=false) (fun c15=>?_) (fun c15=>?_)
     ·exact Bool.noConfusion ((rfl:false=false).symm.trans c15)
     ·refine U7 hS trivial [(1,.l [2]),(4,.l [9000]),(5,.l [3]),(7,.l [2]),(9,.a [8000]),(10,.a [9000])] ?_;refine J2 trivial ?_;exact hb1 _ [(0,0),(1,1),(2,2),(3,3),(4,4),(900,900),(6000,6000),(7000,7000),(8000,8000),(9000,9000)] _ (y7,wrap .i64 (x1+(if q2<1 then 1 else q2)),wrap .i64 ((wrap .i64 (z1.2.2+q3))-q2)) L5 trivial h
    ·refine D9 hS trivial (b:=true) (fun c16=>?_) (fun c16=>?_)
     ·refine NQ hS trivial ⟨[(8,.reg 9000 0),(7,.reg 8000 0),(6,.reg 7000 0),(5,.reg 6000 0),(4,.reg 3 0),(3,.reg 2 0),(2,.reg 1 0),(1,.reg 0 0)],[(44000,.vec D8 2 y7.n (fun i=>A0 (y7.g i)) true),(9000,.cells [pN z1.2.2]),(8000,.cells [pN z1.2.1]),(7000,.cells [.vec 44000]),(6000,.cells [.yf 4]),(4,.yld [] false),(3,.cells [pN q3]),(2,.cells [pN q2]),(1,.cells ((C0 q1).map .p)),(0,.cells [.p (vSl 2 A0 q0)])]⟩ (ids:=[(0,0),(1,1),(2,2),(3,3),(4,4),(900,900),(6000,6000),(7000,7000),(8000,8000),(9000,9000),(44000,44000)]) ?_;exact A6 hS trivial (a:=.tup []) (objs:=[(.cells [.p (vSl 2 A0 q0)]),.cells ((C0 q1).map .p),.cells [pN q2],.cells [pN q3],.yld [] false]) ⟨[],[(4,.yld [] false),(3,.cells [pN q3]),(2,.cells [pN q2]),(1,.cells ((C0 q1).map .p)),(0,.cells [.p (vSl 2 A0 q0)])]⟩ [0,1,2,3,4] (ids:=[(0,0),(1,1),(2,2),(3,3),(4,4)]) ⟨false,rfl,rfl,_,rfl⟩
     ·exact Bool.noConfusion ((rfl:true=true).symm.trans c16)
  ·obtain rfl:=B8 h;exact A6 hS trivial (a:=.tup []) (objs:=[(.cells [.p (vSl 2 A0 q0)]),.cells ((C0 q1).map .p),.cells [pN q2],.cells [pN q3],.yld [] true]) ⟨[],[(4,.yld [] true),(3,.cells [pN q3]),(2,.cells [pN q2]),(1,.cells ((C0 q1).map .p)),(0,.cells [.p (vSl 2 A0 q0)])]⟩ [0,1,2,3,4] (ids:=[(0,0),(1,1),(2,2),(3,3),(4,4)]) ⟨true,rfl,rfl,_,rfl⟩
 ·refine kI hS h (fun h=>?_) (fun h=>?_)
  ·refine NM hS trivial h (fun x5 x6 L6=>⟨[(10,pN x6),(6,.reg 7000 0),(5,.reg 6000 0),(4,.reg 3 0),(3,.reg 2 0),(2,.reg 1 0)],[(7000,.cells [.p (vSl 2 A0 x5)]),(6000,.cells [.yf 4]),(4,.yld (L6.map (fun (x:Int×(Sl A2))=>[pI .i64 x.1,vSl 2 A0 x.2])) true),(3,.cells [pN q3]),(2,.cells [pN q2]),(1,.cells ((C0 q1).map .p)),(0,.cells [.p (vSl 2 A0 q0)])]⟩) (ids:=[(0,0),(1,1),(2,2),(3,3),(4,4),(6000,6000),(7000,7000)]) (fun _ _ _ _ _ self2 x5 x6 L6 hb2 h=>?_);refine kI hS h (fun h=>?_) (fun h=>?_)
   ·refine kC hS h (Qr hS hL) (fun y12 h=>?_);refine kI hS h (fun h=>?_) (fun h=>?_)
    ·exact hb2 _ [(0,0),(1,1),(2,2),(3,3),(4,4),(6000,6000),(7000,7000)] _ x5 (wrap .i64 (x6+1)) L6 trivial h
    ·refine kC hS h (HI hS hL) (fun y13 h=>?_);obtain⟨L9,rfl,hcL9⟩:=Kt h;replace h:=hcL9;refine BX hS trivial (ys:=(fun (x:Int×(Sl A2))=>[pI .i64 x.1,vSl 2 A0 x.2]) (x6,y13)) (rest:=L9.map (fun (x:Int×(Sl A2))=>[pI .i64 x.1,vSl 2 A0 x.2])) ?_ ?_
     ·refine D9 hS trivial (b:=false) (fun c30=>?_) (fun c30=>?_)
      ·exact Bool.noConfusion ((rfl:false=false).symm.trans c30)
      ·refine kI hS h (fun h=>?_) (fun h=>?_)
       ·exact hb2 _ [(0,0),(1,1),(2,2),(3,3),(4,4),(6000,6000),(7000,7000)] _ y13 (wrap .i64 ((wrap .i64 (x6+q3))+1)) L9 trivial h
       ·exact hb2 _ [(0,0),(1,1),(2,2),(3,3),(4,4),(6000,6000),(7000,7000)] _ y13 (wrap .i64 (x6+q3)) L9 trivial h
     ·refine D9 hS trivial (b:=true) (fun c32=>?_) (fun c32=>?_)
      ·exact A6 hS trivial (a:=.tup []) (objs:=[(.cells [.p (vSl 2 A0 q0)]),.cells ((C0 q1).map .p),.cells [pN q2],.cells [pN q3],.yld [] false]) ⟨[],[(4,.yld [] false),(3,.cells [pN q3]),(2,.cells [pN q2]),(1,.cells ((C0 q1).map .p)),(0,.cells [.p (vSl 2 A0 q0)])]⟩ [0,1,2,3,4] (ids:=[(0,0),(1,1),(2,2),(3,3),(4,4)]) ⟨false,rfl,rfl,_,rfl⟩
      ·exact Bool.noConfusion ((rfl:true=true).symm.trans c32)
   ·obtain rfl:=B8 h;exact A6 hS trivial (a:=.tup []) (objs:=[(.cells [.p (vSl 2 A0 q0)]),.cells ((C0 q1).map .p),.cells [pN q2],.cells [pN q3],.yld [] true]) ⟨[],[(4,.yld [] true),(3,.cells [pN q3]),(2,.cells [pN q2]),(1,.cells ((C0 q1).map .p)),(0,.cells [.p (vSl 2 A0 q0)])]⟩ [0,1,2,3,4] (ids:=[(0,0),(1,1),(2,2),(3,3),(4,4)]) ⟨true,rfl,rfl,_,rfl⟩
  ·refine kI hS h (fun h=>?_) (fun h=>?_)
   ·refine NM hS trivial h (fun x7 x8 L10=>⟨[(11,pN x8),(6,.reg 7000 0),(5,.reg 6000 0),(3,.reg 2 0),(2,.reg 1 0)],[(7000,.cells [.p (vSl 2 A0 x7)]),(6000,.cells [.yf 4]),(4,.yld (L10.map (fun (x:Int×(Sl A2))=>[pI .i64 x.1,vSl 2 A0 x.2])) true),(3,.cells [pN q3]),(2,.cells [pN q2]),(1,.cells ((C0 q1).map .p)),(0,.cells [.p (vSl 2 A0 q0)])]⟩) (ids:=[(0,0),(1,1),(2,2),(3,3),(4,4),(6000,6000),(7000,7000)]) (fun _ _ _ _ _ self3 x7 x8 L10 hb3 h=>?_);refine kI hS h (fun h=>?_) (fun h=>?_)
    ·refine kC hS h (Qr hS hL) (fun y18 h=>?_);refine kI hS h (fun h=>?_) (fun h=>?_)
     ·exact hb3 _ [(0,0),(1,1),(2,2),(3,3),(4,4),(6000,6000),(7000,7000)] _ x7 (wrap .i64 (x8-1)) L10 trivial h
     ·refine kC hS h (HI hS hL) (fun y19 h=>?_);obtain⟨L13,rfl,hcL13⟩:=Kt h;replace h:=hcL13;refine BX hS trivial (ys:=(fun (x:Int×(Sl A2))=>[pI .i64 x.1,vSl 2 A0 x.2]) (x8,y19)) (rest:=L13.map (fun (x:Int×(Sl A2))=>[pI .i64 x.1,vSl 2 A0 x.2])) ?_ ?_
      ·refine D9 hS trivial (b:=false) (fun c44=>?_) (fun c44=>?_)
       ·exact Bool.noConfusion ((rfl:false=false).symm.trans c44)
       ·exact hb3 _ [(0,0),(1,1),(2,2),(3,3),(4,4),(6000,6000),(7000,7000)] _ y19 (wrap .i64 (x8-(if q2<1 then 1 else q2))) L13 trivial h
      ·refine D9 hS trivial (b:=true) (fun c45=>?_) (fun c45=>?_)
       ·exact A6 hS trivial (a:=.tup []) (objs:=[(.cells [.p (vSl 2 A0 q0)]),.cells ((C0 q1).map .p),.cells [pN q2],.cells [pN q3],.yld [] false]) ⟨[],[(4,.yld [] false),(3,.cells [pN q3]),(2,.cells [pN q2]),(1,.cells ((C0 q1).map .p)),(0,.cells [.p (vSl 2 A0 q0)])]⟩ [0,1,2,3,4] (ids:=[(0,0),(1,1),(2,2),(3,3),(4,4)]) ⟨false,rfl,rfl,_,rfl⟩
       ·exact Bool.noConfusion ((rfl:true=true).symm.trans c45)
    ·obtain rfl:=B8 h;exact A6 hS trivial (a:=.tup []) (objs:=[(.cells [.p (vSl 2 A0 q0)]),.cells ((C0 q1).map .p),.cells [pN q2],.cells [pN q3],.yld [] true]) ⟨[],[(4,.yld [] true),(3,.cells [pN q3]),(2,.cells [pN q2]),(1,.cells ((C0 q1).map .p)),(0,.cells [.p (vSl 2 A0 q0)])]⟩ [0,1,2,3,4] (ids:=[(0,0),(1,1),(2,2),(3,3),(4,4)]) ⟨true,rfl,rfl,_,rfl⟩
   ·obtain rfl:=B8 h;exact A6 hS trivial (a:=.tup []) (objs:=[(.cells [.p (vSl 2 A0 q0)]),.cells ((C0 q1).map .p),.cells [pN q2],.cells [pN q3],.yld [] true]) ⟨[],[(4,.yld [] true),(3,.cells [pN q3]),(2,.cells [pN q2]),(1,.cells ((C0 q1).map .p)),(0,.cells [.p (vSl 2 A0 q0)])]⟩ [0,1,2,3,4] (ids:=[(0,0),(1,1),(2,2),(3,3),(4,4)]) ⟨true,rfl,rfl,_,rfl⟩
def Lf (N:Nat)(p_l:Law)(p_w:Sl A2):Option ((Sl A2)×Law×Int×Int):=
 some (p_w,p_l,(p_l.If.n:Int),(p_l.Out.n:Int))
theorem VR {N:Nat}{p_l:Law}{p_w:Sl A2}{y:(Sl A2)×Law×Int×Int}(h:Lf N p_l p_w=some y) :FunO S Qf [.p (.agg (C0 p_l)),.p (vSl 2 A0 p_w)] [] (.clo DT [] [.reg 0 0,.reg 1 0,.reg 2 0,.reg 3 0]) ([.cells [.p (vSl 2 A0 y.1)],.cells ((C0 y.2.1).map .p),.cells [pN y.2.2.1],.cells [pN y.2.2.2]]) []:=by unfold Lf at h;refine A4 hS VL ?_;refine U7 hS trivial [(1,.l [3000]),(2,.n),(4,.l [3000]),(5,.n),(6,.a [6000]),(7,.a [7000]),(8,.a [6000]),(9,.a [7000])] ?_;refine J2 trivial ?_;obtain rfl:=B8 h;exact A6 hS trivial ⟨[(4,.clo DT [] [.reg 4000 0,.reg 3000 0,.reg 6000 0,.reg 7000 0])],[(7000,.cells [pN (p_l.Out.n:Int)]),(6000,.cells [pN (p_l.If.n:Int)]),(4000,.cells [.p (vSl 2 A0 p_w)]),(3000,.cells ((C0 p_l).map .p))]⟩ [4000,3000,6000,7000] (ids:=[(3000,3000),(4000,4000),(6000,6000),(7000,7000)]) ⟨rfl,rfl,rfl⟩
def GG (N:Nat)(p_l:Law)(p_w:Sl A2):Option ((Sl Int)×(Sl (Sl A2))×Int):=
 (GE N p_l p_w).bind fun y1=>
 if (y1 != 0) then
  some ((Sl.nil:Sl Int),(Sl.nil:Sl (Sl A2)),y1)
 else
  (Lf N p_l p_w).bind fun y2=>
  (GF N y2.1 y2.2.1 y2.2.2.1 y2.2.2.2).bind fun L1=>
  S7 L1 (fun self1 (x1:Int×(Sl A2)) (z1:(Sl Int)×(Sl (Sl A2)))=>
   if (decide (32<(x1.2.n:Int))) then
    some ((Sl.nil:Sl Int),(Sl.nil:Sl (Sl A2)),11)
   else
    if ((z1.1.n+(Sl.of [x1.1]:Sl Int).n)*8<=140737488355328/\z1.1.n+(Sl.of [x1.1]:Sl Int).n<=140737488355328)then
     if ((z1.2.n+(Sl.of [x1.2]:Sl (Sl A2)).n)*24<=140737488355328/\z1.2.n+(Sl.of [x1.2]:Sl (Sl A2)).n<=140737488355328)then
      self1 (z1.1.push x1.1,z1.2.push x1.2)
     else none
    else none
   ) (fun (z1:(Sl Int)×(Sl (Sl A2)))=>
    some (z1.1,z1.2,0)
   ) ((Sl.nil:Sl Int),(Sl.nil:Sl (Sl A2)))
theorem RU {N:Nat}{p_l:Law}{p_w:Sl A2}{y:(Sl Int)×(Sl (Sl A2))×Int}(h:GG N p_l p_w=some y) :FunO S KP [.p (.agg (C0 p_l)),.p (vSl 2 A0 p_w)] [] (.tup [.vec 0,.vec 1,pN y.2.2]) ([.vec E7 1 y.1.n (fun i=>cI .i64 (y.1.g i)) true,.vec P4 1 y.2.1.n (fun i=>cL 2 A0 (y.2.1.g i)) true]) []:=by
 unfold GG at h;refine A4 hS RB ?_;refine H5 hS trivial 4 3000 (C0 p_l) ?_;obtain⟨y1,e1,h⟩:=B5 h;refine B7 hS [] (by decide:(18:Nat)<=18) (RQ hS hL e1) ?_;refine kI hS h (fun h=>?_) (fun h=>?_)
 ·obtain rfl:=B8 h;exact A6 hS trivial ⟨[(6,.reg 7000 0),(5,.reg 6000 0),(4,.reg 5000 0)],[(7000,.cells [pN y1]),(6701,.vec P4 1 (Sl.nil:Sl (Sl A2)).n (fun i=>cL 2 A0 ((Sl.nil:Sl (Sl A2)).g i)) true),(6000,.cells [.vec 6701]),(5700,.vec E7 1 (Sl.nil:Sl Int).n (fun i=>cI .i64 ((Sl.nil:Sl Int).g i)) true),(5000,.cells [.vec 5700])]⟩ [5700,6701] (ids:=[(5000,5000),(6000,6000),(7000,7000)]) ⟨rfl,rfl,rfl⟩
 ·obtain⟨y2,e2,h⟩:=B5 h;refine B7 hS [] (by decide:(18:Nat)<=18) (VR hS hL e2) ?_;obtain⟨L1,e3,h⟩:=B5 h;refine DN hS trivial [21000,21001,21002,21003] [9,8,6,5,4] 901 (fun z1=>⟨[(9,.reg 10000 0),(8,.reg 9000 0),(6,.reg 7000 0),(5,.reg 6000 0),(4,.reg 5000 0)],[(10500,.vec P4 1 z1.2.n (fun i=>cL 2 A0 (z1.2.g i)) false),(10000,.cells [.vec 10500]),(9500,.vec E7 1 z1.1.n (fun i=>cI .i64 (z1.1.g i)) false),(9000,.cells [.vec 9500]),(7000,.cells [pN 0]),(6000,.cells [.p K5]),(5000,.cells [.p K5])]⟩) (idl:=[(5000,5000),(6000,6000),(7000,7000),(9000,9000),(10000,10000)]) h (RR hS hL e3) (fun _=>by kernel_rfl) (fun _=>by kernel_rfl) (fun _=>by kernel_rfl) (fun _=>by kernel_rfl) (fun x1 _ self1 z1 hb1 h=>?_) (fun z1 h=>?_)
  ·refine Hk hS trivial ?_;refine kI hS h (fun h=>?_) (fun h=>?_)
   ·refine NQ hS trivial ⟨[(9,.reg 10000 0),(8,.reg 9000 0),(6,.reg 7000 0),(5,.reg 6000 0),(4,.reg 5000 0)],[(10500,.vec P4 1 z1.2.n (fun i=>cL 2 A0 (z1.2.g i)) false),(10000,.cells [.vec 10500]),(9500,.vec E7 1 z1.1.n (fun i=>cI .i64 (z1.1.g i)) false),(9000,.cells [.vec 9500]),(7000,.cells [pN 11]),(6000,.cells [.p K5]),(5000,.cells [.p K5])]⟩ (ids:=[(901,901),(5000,5000),(6000,6000),(7000,7000),(9000,9000),(9500,9500),(10000,10000),(10500,10500)]) ?_;obtain rfl:=B8 h;exact A6 hS trivial ⟨[(6,.reg 7000 0),(5,.reg 6000 0),(4,.reg 5000 0)],[(7000,.cells [pN 11]),(6701,.vec P4 1 (Sl.nil:Sl (Sl A2)).n (fun i=>cL 2 A0 ((Sl.nil:Sl (Sl A2)).g i)) true),(6000,.cells [.vec 6701]),(5700,.vec E7 1 (Sl.nil:Sl Int).n (fun i=>cI .i64 ((Sl.nil:Sl Int).g i)) true),(5000,.cells [.vec 5700])]⟩ [5700,6701] (ids:=[(5000,5000),(6000,6000),(7000,7000)]) ⟨rfl,rfl,rfl⟩
   ·refine U7 hS trivial [(0,.l [9000]),(3,.a [30000,9500]),(4,.l [10000]),(7,.a [34000,10500]),(8,.a [9000]),(9,.a [10000])] ?_;refine CL trivial (x:=.sl true 1 1 (E9 [pI .i64 0] [(0,cI .i64 x1.1)])) ?_;obtain⟨c9,h⟩:=G9 h;refine CL c9 (x:=.sl true 1 1 (E9 [K5] [(0,cL 2 A0 x1.2)])) ?_;obtain⟨c10,h⟩:=G9 h;refine J2 c10 ?_;exact hb1 _ [(901,901),(5000,5000),(6000,6000),(7000,7000),(9000,9000),(9500,30000),(10000,10000),(10500,34000)] _ (z1.1.push x1.1,z1.2.push x1.2) trivial h (hle:=klR [(0,.fn (z1.2.n+1) (z1.2.push x1.2).n (Ay z1.2.n (fun i=>cL 2 A0 (z1.2.g i)) (E9 [K5] [(0,cL 2 A0 x1.2)])) (fun i=>cL 2 A0 ((z1.2.push x1.2).g i))),(1,.fn (z1.1.n+1) (z1.1.push x1.1).n (Ay z1.1.n (fun i=>cI .i64 (z1.1.g i)) (E9 [pI .i64 0] [(0,cI .i64 x1.1)])) (fun i=>cI .i64 ((z1.1.push x1.1).g i)))] (al1 ⟨rfl,LA (c:=cL 2 A0) (v:=z1.2) (x:=x1.2) (z:=[K5]) same rfl rfl⟩ (al1 ⟨rfl,LA (c:=cI .i64) (v:=z1.1) (x:=x1.1) (z:=[(pI .i64 0)]) same rfl rfl⟩ al0)))
  ·refine U7 hS trivial [(0,.l [9000]),(1,.l [10000]),(2,.a [5000]),(3,.a [6000]),(4,.a [7000])] ?_;refine J2 trivial ?_;obtain rfl:=B8 h;exact A6 hS trivial ⟨[(6,.reg 7000 0),(5,.reg 6000 0),(4,.reg 5000 0)],[(10500,.vec P4 1 z1.2.n (fun i=>cL 2 A0 (z1.2.g i)) true),(9500,.vec E7 1 z1.1.n (fun i=>cI .i64 (z1.1.g i)) true),(7000,.cells [pN 0]),(6000,.cells [.vec 10500]),(5000,.cells [.vec 9500])]⟩ [9500,10500] (ids:=[(5000,5000),(6000,6000),(7000,7000),(9500,9500),(10500,10500)]) ⟨rfl,rfl,rfl⟩
def GH (N:Nat)(p_l:Law)(p_w:Sl A2):Option ((Sl A2)×Int):=
 (GG N p_l p_w).bind fun y1=>
 if (y1.2.2 != 0) then
  some ((Sl.nil:Sl A2),y1.2.2)
 else
  if (decide (0<(y1.2.1.n:Int))) then
   if (((0:Int)<=(wrap .i64 ((y1.2.1.n:Int)-1))/\(wrap .i64 ((y1.2.1.n:Int)-1))<(y1.2.1.n:Int))/\(wrap .i64 ((y1.2.1.n:Int)-1)).toNat<y1.2.1.n)then
    some (y1.2.1.g (wrap .i64 ((y1.2.1.n:Int)-1)).toNat,0)
   else none
  else
   (B3 N p_w).bind fun y2=>
   some (y2,0)
theorem RV {N:Nat}{p_l:Law}{p_w:Sl A2}{y:(Sl A2)×Int}(h:GH N p_l p_w=some y) :FunO S KO [.p (.agg (C0 p_l)),.p (vSl 2 A0 p_w)] [] (.tup [.p (vSl 2 A0 y.1),pN y.2]) ([]) []:=by
 unfold GH at h;refine A4 hS RA ?_;refine kC hS h (RU hS hL) (fun y1 h=>?_);refine kI hS h (fun h=>?_) (fun h=>?_)
 ·obtain rfl:=B8 h;exact A6 hS trivial ⟨[(5,pN y1.2.2),(4,.p (vSl 2 A0 (Sl.nil:Sl A2)))],[]⟩ [] (ids:=[]) ⟨rfl,rfl,rfl⟩
 ·refine kI hS h (fun h=>?_) (fun h=>?_)
  ·obtain⟨c3,h⟩:=G9 h;obtain rfl:=B8 h;exact Rp hS c3 [] ⟨rfl,rfl,rfl⟩
  ·refine kC hS h (N4 hS hL) (fun y2 h=>?_);obtain rfl:=B8 h;exact A6 hS trivial ⟨[(5,pN 0),(4,.p (vSl 2 A0 y2))],[]⟩ [] (ids:=[]) ⟨rfl,rfl,rfl⟩
end Go.AM
namespace Go.AM
open IntKind (wrap)
open Go.Proofs
set_option maxRecDepth 10000
set_option maxHeartbeats 2000000
variable {S:Y7}(hS:H0 S Tryz.prog) (hL:Oo S)
include hS hL
def Bp (N:Nat)(p_l:Law):Option Bool:=
 (Cg N p_l).bind fun y1=>
 some (y1 != 0)
theorem Js {N:Nat}{p_l:Law}{y:Bool}(h:Bp N p_l=some y) :FunO S Ex [.p (.agg (C0 p_l))] [] (pB y) ([]) []:=by unfold Bp at h;refine A4 hS Jp ?_;refine kC hS h (GD hS hL) (fun y1 h=>?_);cases h;exact kR hS
def G5 (N:Nat)(p_s:Sl Law)(p_f:Law->Option Bool):Option Int:=
 Co N (fun self1 (x1:Int)=>
  if (decide (x1<(p_s.n:Int))) then
   if ((0:Int)<=x1/\x1<(p_s.n:Int))then
    (p_f (p_s.g x1.toNat)).bind fun y3=>
    if y3 then
     some x1
    else
     self1 (wrap .i64 (x1+1))
   else none
  else
   some (-1)
  ) 0
theorem X3 {N:Nat}{p_s:Sl Law}{p_f:Law->Option Bool}{kp_f:Nat}(hp_f:∀{a0:Law}{b:Bool},p_f a0=some b->FunO S kp_f [.p (.agg (C0 a0))] [] (pB b) [] []){y:Int}(h:G5 N p_s p_f=some y) :FunO S N3 [.p (vSl 18 C0 p_s),.clo kp_f [] []] [] (pN y) ([]) []:=by
 unfold G5 at h;refine A4 hS X0 ?_;refine W6 hS trivial h (fun x1=>⟨[(8,pN x1),(7,pN (p_s.n:Int)),(1,.clo kp_f [] []),(0,.p (vSl 18 C0 p_s))],[]⟩) (ids:=[]) (fun _ _ _ _ _ self1 x1 hb1 h=>?_);refine kI hS h (fun h=>?_) (fun h=>?_)
 ·obtain⟨c8,h⟩:=G9 h;obtain⟨y3,e3,h⟩:=B5 h;refine B7 hS [] (And.intro c8 (by decide:(18:Nat)<=18)) (hp_f e3) ?_;refine kI hS h (fun h=>?_) (fun h=>?_)
  ·cases h;exact kR hS
  ·exact hb1 _ [] _ (wrap .i64 (x1+1)) trivial h
 ·cases h;exact kR hS
def F1 (N:Nat)(p_s:Sl Law)(p_f:Law->Option Bool):Option Bool:=
 (G5 N p_s p_f).bind fun y1=>
 some (decide (0<=y1))
theorem T1 {N:Nat}{p_s:Sl Law}{p_f:Law->Option Bool}{kp_f:Nat}(hp_f:∀{a0:Law}{b:Bool},p_f a0=some b->FunO S kp_f [.p (.agg (C0 a0))] [] (pB b) [] []){y:Bool}(h:F1 N p_s p_f=some y) :FunO S J5 [.p (vSl 18 C0 p_s),.clo kp_f [] []] [] (pB y) ([]) []:=by unfold F1 at h;refine A4 hS S9 ?_;refine kC hS h (X3 hS hL (fun e=>hp_f e)) (fun y1 h=>?_);cases h;exact kR hS
def CV (N:Nat)(p_laws:Sl Law):Option Int:=
 if (decide (64<(p_laws.n:Int))) then
  some 12
 else
  (F1 N p_laws (fun (u1:Law)=>Bp N u1)).bind fun y1=>
  if y1 then
   some 17
  else
   some 0
theorem Mj {N:Nat}{p_laws:Sl Law}{y:Int}(h:CV N p_laws=some y) :FunO S Gc [.p (vSl 18 C0 p_laws)] [] (pN y) ([]) []:=by
 unfold CV at h;refine A4 hS LS ?_;refine kI hS h (fun h=>?_) (fun h=>?_)
 ·cases h;exact kR hS
 ·refine kC hS h (T1 hS hL (fun e=>Js hS hL e)) (fun y1 h=>?_);refine kI hS h (fun h=>?_) (fun h=>?_)
  ·cases h;exact kR hS
  ·cases h;exact kR hS
def CW (N:Nat)(p_laws:Sl Law)(p_words:Sl (Sl A2)):Option Int:=
 (CV N p_laws).bind fun y1=>
 if (y1 != 0) then
  some y1
 else
  if (decide (256<(p_words.n:Int))) then
   some 12
  else
   Co N (fun self1 (x1:Int)=>
    if (decide (x1<(p_words.n:Int))) then
     if ((0:Int)<=x1/\x1<(p_words.n:Int))then
      (AZ N (p_words.g x1.toNat)).bind fun y4=>
      if (y4 != 0) then
       some y4
      else
       self1 (wrap .i64 (x1+1))
     else none
    else
     some 0
    ) 0
theorem Mk {N:Nat}{p_laws:Sl Law}{p_words:Sl (Sl A2)}{y:Int}(h:CW N p_laws p_words=some y) :FunO S Gb [.p (vSl 18 C0 p_laws),.p (vSl 1 (cL 2 A0) p_words)] [] (pN y) ([]) []:=by
 unfold CW at h;refine A4 hS LR ?_;refine kC hS h (Mj hS hL) (fun y1 h=>?_);refine kI hS h (fun h=>?_) (fun h=>?_)
 ·cases h;exact kR hS
 ·refine kI hS h (fun h=>?_) (fun h=>?_)
  ·cases h;exact kR hS
  ·refine W6 hS trivial h (fun x1=>⟨[(19,pN x1),(18,pN (p_words.n:Int)),(17,.p (vSl 1 (cL 2 A0) p_words))],[]⟩) (ids:=[]) (fun _ _ _ _ _ self1 x1 hb1 h=>?_);refine kI hS h (fun h=>?_) (fun h=>?_)
   ·obtain⟨c10,h⟩:=G9 h;obtain⟨y4,e4,h⟩:=B5 h;refine B7 hS [] c10 (Fp hS hL e4) ?_;refine kI hS h (fun h=>?_) (fun h=>?_)
    ·cases h;exact kR hS
    ·exact hb1 _ [] _ (wrap .i64 (x1+1)) trivial h
   ·cases h;exact kR hS
end Go.AM
namespace Go.AM
open IntKind (wrap)
open Go.Proofs
set_option maxRecDepth 10000
set_option maxHeartbeats 2000000
variable {S:Y7}(hS:H0 S Tryz.prog) (hL:Oo S)
include hS hL
def Xz (c:Int):Option PV:=if c=0 then none else some (.iface 210 (pI .i64 c))
def Bq (N:Nat)(c:Int)(q0:Sl A2)(q1:Sl Law):Option (List (Int×(Sl A2))):=
 (B3 N q0).bind fun y1=>
 Hj (0,y1) (
  Dq N (fun self1 (x1:Sl A2) (x2:Int)=>
   if (decide (x2<(q1.n:Int))) then
    if ((0:Int)<=x2/\x2<(q1.n:Int))then
     (GH N (q1.g x2.toNat) x1).bind fun y4=>
     if (y4.2 != 0) then
      if y4.2=c then some []else none
     else
      Hj (wrap .i64 (x2+1),y4.1) (
       self1 y4.1 (wrap .i64 (x2+1))
       )
    else none
   else
    if c=0 then some []else none
   ) y1 0
  )
theorem Ez {N:Nat}{q0:Sl A2}{q1:Sl Law}{c:Int}{L:List (Int×(Sl A2))}(h:Bq N c q0 q1=some L) :Kv S O8 [] [.reg 0 0,.reg 1 0] [.cells [.p (vSl 2 A0 q0)],.cells [.p (vSl 18 C0 q1)]] (L.map (fun (x:Int×(Sl A2))=>[pI .i64 x.1,vSl 2 A0 x.2])) (Xz c):=by
 unfold Bq at h;refine VF hS Jq ?_;refine kC hS h (N4 hS hL) (fun y1 h=>?_);obtain⟨L1,rfl,hcL1⟩:=Kt h;replace h:=hcL1;refine BX hS trivial (ys:=(fun (x:Int×(Sl A2))=>[pI .i64 x.1,vSl 2 A0 x.2]) (0,y1)) (rest:=L1.map (fun (x:Int×(Sl A2))=>[pI .i64 x.1,vSl 2 A0 x.2])) ?_ ?_
 ·refine D9 hS trivial (b:=false) (fun c1=>?_) (fun c1=>?_)
  ·exact Bool.noConfusion ((rfl:false=false).symm.trans c1)
  ·refine NM hS trivial h (fun x1 x2 L2=>⟨[(17,pN x2),(16,pN (q1.n:Int)),(15,.p (vSl 18 C0 q1)),(4,.p (vSl 2 A0 x1)),(0,.yf 2)],[(2,.yld (L2.map (fun (x:Int×(Sl A2))=>[pI .i64 x.1,vSl 2 A0 x.2])) true),(1,.cells [.p (vSl 18 C0 q1)]),(0,.cells [.p (vSl 2 A0 q0)])]⟩) (ids:=[(0,0),(1,1),(2,2)]) (fun _ _ _ _ _ self1 x1 x2 L2 hb1 h=>?_);refine kI hS h (fun h=>?_) (fun h=>?_)
   ·obtain⟨c13,h⟩:=G9 h;obtain⟨y4,e4,h⟩:=B5 h;refine B7 hS [] (And.intro c13 (by decide:(18:Nat)<=18)) (RV hS hL e4) ?_;refine D9 hS trivial (b:=y4.2 != 0) (fun c14=>?_) (fun c14=>?_)
    ·replace h:=itT c14 h;obtain⟨c0,h⟩:=G9 h;obtain rfl:=B8 h;have hc0:Xz c=some (.iface 210 (pI .i64 y4.2)):=by
      have:¬y4.2=0:=by simpa using c14
      rw[<- c0];simp[Xz,this]
     refine Zj hS trivial (x:=.iface 210 (pI .i64 y4.2)) ?_;exact Yh hS trivial (x:=.iface 210 (pI .i64 y4.2)) (objs:=[(.cells [.p (vSl 2 A0 q0)]),.cells [.p (vSl 18 C0 q1)],.yld [] true]) [0,1,2] ⟨true,rfl,rfl,fun _=>by rw[hc0];rfl,fun e=>nomatch e⟩
    ·replace h:=itF c14 h;obtain⟨L5,rfl,hcL5⟩:=Kt h;replace h:=hcL5;refine BX hS trivial (ys:=(fun (x:Int×(Sl A2))=>[pI .i64 x.1,vSl 2 A0 x.2]) (wrap .i64 (x2+1),y4.1)) (rest:=L5.map (fun (x:Int×(Sl A2))=>[pI .i64 x.1,vSl 2 A0 x.2])) ?_ ?_
     ·refine D9 hS trivial (b:=false) (fun c15=>?_) (fun c15=>?_)
      ·exact Bool.noConfusion ((rfl:false=false).symm.trans c15)
      ·exact hb1 _ [(0,0),(1,1),(2,2)] _ y4.1 (wrap .i64 (x2+1)) L5 trivial h
     ·refine D9 hS trivial (b:=true) (fun c16=>?_) (fun c16=>?_)
      ·exact A6 hS trivial (a:=.tup []) (objs:=[(.cells [.p (vSl 2 A0 q0)]),.cells [.p (vSl 18 C0 q1)],.yld [] false]) ⟨[],[(2,.yld [] false),(1,.cells [.p (vSl 18 C0 q1)]),(0,.cells [.p (vSl 2 A0 q0)])]⟩ [0,1,2] (ids:=[(0,0),(1,1),(2,2)]) ⟨false,rfl,rfl,fun e=>(nomatch e),fun _=>⟨_,rfl⟩⟩
      ·exact Bool.noConfusion ((rfl:true=true).symm.trans c16)
   ·obtain⟨c0,h⟩:=G9 h;obtain rfl:=B8 h;exact A6 hS trivial (a:=.tup []) (objs:=[(.cells [.p (vSl 2 A0 q0)]),.cells [.p (vSl 18 C0 q1)],.yld [] true]) ⟨[],[(2,.yld [] true),(1,.cells [.p (vSl 18 C0 q1)]),(0,.cells [.p (vSl 2 A0 q0)])]⟩ [0,1,2] (ids:=[(0,0),(1,1),(2,2)]) ⟨true,rfl,rfl,fun _=>by subst c0;exact⟨_,rfl⟩,fun e=>(nomatch e)⟩
 ·refine D9 hS trivial (b:=true) (fun c17=>?_) (fun c17=>?_)
  ·exact A6 hS trivial (a:=.tup []) (objs:=[(.cells [.p (vSl 2 A0 q0)]),.cells [.p (vSl 18 C0 q1)],.yld [] false]) ⟨[],[(2,.yld [] false),(1,.cells [.p (vSl 18 C0 q1)]),(0,.cells [.p (vSl 2 A0 q0)])]⟩ [0,1,2] (ids:=[(0,0),(1,1),(2,2)]) ⟨false,rfl,rfl,fun e=>(nomatch e),fun _=>⟨_,rfl⟩⟩
  ·exact Bool.noConfusion ((rfl:true=true).symm.trans c17)
def CX (N:Nat)(p_laws:Sl Law)(p_w:Sl A2):Option ((Sl A2)×(Sl Law)):=
 some (p_w,p_laws)
theorem Gi {N:Nat}{p_laws:Sl Law}{p_w:Sl A2}{y:(Sl A2)×(Sl Law)}(h:CX N p_laws p_w=some y) :FunO S Ge [.p (vSl 18 C0 p_laws),.p (vSl 2 A0 p_w)] [] (.clo O8 [] [.reg 0 0,.reg 1 0]) ([.cells [.p (vSl 2 A0 y.1)],.cells [.p (vSl 18 C0 y.2)]]) []:=by unfold CX at h;refine A4 hS LW ?_;obtain rfl:=B8 h;exact A6 hS trivial ⟨[(4,.clo O8 [] [.reg 4000 0,.reg 3000 0])],[(4000,.cells [.p (vSl 2 A0 p_w)]),(3000,.cells [.p (vSl 18 C0 p_laws)])]⟩ [4000,3000] (ids:=[(3000,3000),(4000,4000)]) ⟨rfl,rfl,rfl⟩
def M0 (N:Nat)(c:Int)(p_laws:Sl Law)(p_w:Sl A2):Option (Sl A2):=
 (CX N p_laws p_w).bind fun y1=>
 (Bq N c y1.1 y1.2).bind fun L1=>
 S7 L1 (fun self1 (x1:Int×(Sl A2)) (z1:Sl A2)=>
  self1 x1.2
  ) (fun (z1:Sl A2)=>
   some z1
  ) (Sl.nil:Sl A2)
theorem Iq {N:Nat}{p_laws:Sl Law}{p_w:Sl A2}{y:Sl A2}(h:M0 N 0 p_laws p_w=some y) :FunO S H3 [.p (vSl 18 C0 p_laws),.p (vSl 2 A0 p_w)] [] (.p (vSl 2 A0 y)) ([]) []:=by
 unfold M0 at h;refine A4 hS Ew ?_;refine kC hS h (Gi hS hL) (fun y1 h=>?_);obtain⟨L1,e2,h⟩:=B5 h;have hf:Kv S O8 [] [.reg 0 0,.reg 1 0] [.cells [.p (vSl 2 A0 y1.1)],.cells [.p (vSl 18 C0 y1.2)]] (L1.map (fun (x:Int×(Sl A2))=>[pI .i64 x.1,vSl 2 A0 x.2])) none:=Ez hS hL e2;refine SN hS trivial [8000,8001] [4] 901 (fun z1=>⟨[(4,.reg 5000 0)],[(5000,.cells [.p (vSl 2 A0 z1)])]⟩) (idl:=[(5000,5000)]) h hf (fun _=>by kernel_rfl) (fun _=>by kernel_rfl) (fun _=>by kernel_rfl) (fun _=>by kernel_rfl) (fun x1 _ self1 z1 hb1 h=>?_) (fun z1 h=>?_)
 ·refine Hk hS trivial ?_;exact hb1 _ [(901,901),(5000,5000)] _ x1.2 trivial h
 ·cases h;exact kR hS
theorem Ir {N:Nat}{c:Int}{p_laws:Sl Law}{p_w:Sl A2}{y:Sl A2}(hc:c≠0)(h:M0 N c p_laws p_w=some y) :S.F H3 [.p (vSl 18 C0 p_laws),.p (vSl 2 A0 p_w)] [] fun res o k=>res=.panic (.iface 210 (pI .i64 c))/\o=[]/\k=[]:=by
 unfold M0 at h;refine Xt hS Ew ?_;refine kC hS h (Gi hS hL) (fun y1 h=>?_);obtain⟨L1,e2,h⟩:=B5 h;have hf:Kv S O8 [] [.reg 0 0,.reg 1 0] [.cells [.p (vSl 2 A0 y1.1)],.cells [.p (vSl 18 C0 y1.2)]] (L1.map (fun (x:Int×(Sl A2))=>[pI .i64 x.1,vSl 2 A0 x.2])) (some (.iface 210 (pI .i64 c))):=by
  have:=Ez hS hL e2
  simpa[Xz,hc]using this
 refine SN hS trivial [8000,8001] [4] 901 (fun z1=>⟨[(4,.reg 5000 0)],[(5000,.cells [.p (vSl 2 A0 z1)])]⟩) (idl:=[(5000,5000)]) h hf (fun _=>by kernel_rfl) (fun _=>by kernel_rfl) (fun _=>by kernel_rfl) (fun _=>by kernel_rfl) (fun x1 _ self1 z1 hb1 h=>?_) (fun z1 h=>?_)
 ·refine Hk hS trivial ?_;exact hb1 _ [(901,901),(5000,5000)] _ x1.2 trivial h
 ·exact Yh hS trivial (x:=.iface 210 (pI .i64 c)) (objs:=[]) [] ⟨rfl,rfl,rfl⟩
def Br (N:Nat)(p_laws:Sl Law)(p_w:Sl A2):Option ((Sl A2)×Bool):=
 match M0 N 0 p_laws p_w with
 |some y=>some (y,true)
 |none=>(M0 N 11 p_laws p_w).bind fun _=>some ((Sl.nil:Sl A2),false)
theorem Jt {N:Nat}{p_laws:Sl Law}{p_w:Sl A2}{y:(Sl A2)×Bool}(h:Br N p_laws p_w=some y) :FunO S Eu [.p (vSl 18 C0 p_laws),.p (vSl 2 A0 p_w)] [] (.tup [.p (vSl 2 A0 y.1),pB y.2]) ([]) []:=by
 unfold Br at h;refine A4 hS Jn ?_;rcases e:M0 N 0 p_laws p_w with _|z
 ·rw[e]at h;obtain⟨z,e1,h⟩:=B5 h;obtain rfl:=B8 h;refine B7 hS [7000,3000,4000,5000] trivial (hL.attP (Ir hS hL (by decide) e1)) ?_;refine U7 hS trivial [(0,.l [5000]),(1,.l [7000]),(3,.a [5000])] ?_;refine J2 trivial ?_;exact A6 hS trivial ⟨[(5,pB false),(4,.reg 5000 0)],[(5000,.cells [.p (vSl 2 A0 Sl.nil)])]⟩ [] (ids:=[(5000,5000)]) ⟨rfl,rfl,rfl⟩
 ·rw[e]at h;obtain rfl:=B8 h;refine B7 hS [7000,3000,4000,5000] trivial (hL.attR (Iq hS hL e)) ?_;refine U7 hS trivial [(0,.l [5000]),(1,.l [7000]),(3,.a [5000])] ?_;refine J2 trivial ?_;exact A6 hS trivial ⟨[(5,pB true),(4,.reg 5000 0)],[(5000,.cells [.p (vSl 2 A0 z)])]⟩ [] (ids:=[(5000,5000)]) ⟨rfl,rfl,rfl⟩
end Go.AM
namespace Go.AM
open Go.Proofs
set_option maxRecDepth 10000
set_option maxHeartbeats 2000000
variable {S:Y7}(hS:H0 S Tryz.prog) (hL:Oo S)
include hS hL
def Ch (N:Nat)(p_laws:Sl Law)(p_w:Sl A2):Option ((Sl A2)×Int):=
 (CW N p_laws (Sl.of [p_w]:Sl (Sl A2))).bind fun y1=>
 if (y1 != 0) then
  some ((Sl.nil:Sl A2),y1)
 else
  (Br N p_laws p_w).bind fun y2=>
  if (!y2.2) then
   some ((Sl.nil:Sl A2),11)
  else
   some (y2.1,0)
theorem Lg {N:Nat}{p_laws:Sl Law}{p_w:Sl A2}{y:(Sl A2)×Int}(h:Ch N p_laws p_w=some y) :FunO S Fd [.p (vSl 18 C0 p_laws),.p (vSl 2 A0 p_w)] [] (.tup [.p (vSl 2 A0 y.1),pN y.2]) ([]) []:=by
 unfold Ch at h;refine A4 hS KH ?_;refine Cu hS (rfl:true=true) ⟨[(11,.vec 12000),(9,.p (vSl 18 C0 p_laws)),(1,.p (vSl 2 A0 p_w)),(0,.p (vSl 18 C0 p_laws))],[(12000,.vec P4 1 (Sl.of [p_w]:Sl (Sl A2)).n (fun i=>cL 2 A0 ((Sl.of [p_w]:Sl (Sl A2)).g i)) false)]⟩ (ids:=[(12000,12000)]) ?_ (hle:=klR [(3,.fn 1 (Sl.of [p_w]:Sl (Sl A2)).n (E9 [K5] [(0,cL 2 A0 p_w)]) (fun i=>cL 2 A0 ((Sl.of [p_w]:Sl (Sl A2)).g i)))] (al1 ⟨rfl,(fun i hi=>match i,hi with|0,_=>rfl|_+1,hi=>absurd hi (by omega))⟩ al0));refine kC hS h (Mk hS hL) (fun y1 h=>?_);refine kI hS h (fun h=>?_) (fun h=>?_)
 ·obtain rfl:=B8 h;exact A6 hS trivial ⟨[(5,pN y1),(4,.p (vSl 2 A0 (Sl.nil:Sl A2)))],[]⟩ [] (ids:=[]) ⟨rfl,rfl,rfl⟩
 ·refine kC hS h (Jt hS hL) (fun y2 h=>?_);refine kI hS h (fun h=>?_) (fun h=>?_)
  ·obtain rfl:=B8 h;exact A6 hS trivial ⟨[(5,pN 11),(4,.p (vSl 2 A0 (Sl.nil:Sl A2)))],[]⟩ [] (ids:=[]) ⟨rfl,rfl,rfl⟩
  ·cases h;exact kR hS
end Go.AM
