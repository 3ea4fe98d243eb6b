/- What a law's walk and its plain proof need, part 5: no condition of its own. -/
import Derived.Test.YtfcfdofmgkpmbaaGreatDoorID
import Derived.Test.YtfcfdofmgkpmbaaGreatDoorIC
import Derived.RecoverIn
import Derived.Test.YtfcfdofmgkpmbaaGreatDoorProg
import Derived.Lib.SlTrimSet
import Derived.TacticsInMore
set_option linter.defProp false
set_option linter.unusedSimpArgs false
set_option linter.unusedVariables false
set_option linter.unusedSectionVars false
namespace Go.AM
noncomputable abbrev YN:=Go.Proofs.Tryz.prog.funcs
def ZF:=@Int.toNat_natCast
def Ab0:=@Bool.eq_iff_iff
def Ad1:=@BitVec.getLsbD_and
def Ad2:=@BitVec.toNat_ofNat
def Ae3:=@BitVec.eq_of_toNat_eq
def Af8:=@BitVec.eq_of_getLsbD_eq
def Ag0:=@BitVec.toNat_shiftLeft
def Ag9:=@Nat.pow_le_pow_right
def Tn (D:List Deferred)(a:Act):Act:={ a with defers:=a.defers++D }
theorem CV (D:List Deferred)(a:Act)(d:Option Tmp)(v:Value):(Tn D a).put d v=Tn D (a.put d v):=by cases d<;>rfl
theorem Gd {F:Fence}{n:Nat}{P:Program}{ops:Array Oper}{Q:Exit->Act->World->Prop}(D:List Deferred):∀(l:List Nat) (a:Act) (w:World),wpOpsIn F n P ops Q l a w ->
 wpOpsIn F n P ops (fun e a' w'=>∃a0,a' = Tn D a0/\Q e a0 w') l (Tn D a) w
 |[],a,w,h=>⟨a,rfl,h⟩
 |i::l,a,w,h=>by
  have ih:=Gd (F:=F) (n:=n) (P:=P) (ops:=ops) (Q:=Q) D l;simp only[wpOpsIn]at h⊢;have e1:(Tn D a).eval=a.eval:=by funext x;cases x<;>rfl
  have e2:(Tn D a).tmps=a.tmps:=rfl;cases ho:ops[i]? with
  |none=>simp only[ho]at h⊢;exact ih a w h
  |some o=>
   simp only[ho]at h⊢;rw[e2,e1];by_cases hw:Region.wanted o (yielded ops a.tmps)=true
   ·rw[if_pos hw]at h⊢;refine⟨by rw[e1];exact h.1,?_⟩;have h2:=h.2;rw[e1];generalize (o.semAt F.round a.eval).run P w=r at h2;unfold Oper.uponIn at h2⊢;split at h2
    ·rw[CV];exact ih _ _ h2
    ·rw[CV];exact ih _ _ h2
    ·exact ih _ _ h2 |> fun x=>by
      rename_i d w'
      have:({ (Tn D a)with defers:=d::(Tn D a).defers }:Act).put o.dst undef=Tn D (({ a with defers:=d::a.defers }:Act).put o.dst undef):=by rw[<- CV];rfl
      rw[this];exact x
    ·refine⟨h2.1,h2.2.mono ?_⟩;intro e w' he;cases e with
     |returned v=>have:=ih _ _ he;rw[<- CV]at this;exact this
     |panicked ch=>exact⟨a,rfl,he⟩
     |outgrown=>obtain⟨a1,w1,h3⟩:=he;exact⟨Tn D a1,w1,a1,rfl,h3⟩
    ·refine⟨h2.1,fun c cs hr=>?_⟩;obtain⟨v,w',g1,g2⟩:=h2.2 c cs hr;exact⟨v,w',by have:=ih _ _ g1;rw[<- CV]at this;exact this,g2⟩
    ·refine⟨h2.1,h2.2.mono ?_⟩;intro e w' he;cases e with
     |returned v=>have:=ih _ _ he;rw[<- CV]at this;exact this
     |panicked ch=>exact⟨a,rfl,he⟩
     |outgrown=>obtain⟨a1,w1,h3⟩:=he;exact⟨Tn D a1,w1,a1,rfl,h3⟩
    ·exact⟨a,rfl,h2⟩
    ·exact h2.elim
   ·rw[if_neg hw]at h⊢;rw[CV];exact⟨h.1,ih _ _ h.2⟩
section
variable {P:Program}{C:Ctx}{st:St}{rho:Nat->Value}
theorem CW {fn:Func}{R:Ending->World->Prop}{u:FrameMode}(hu:u ≠ .run){tmps:Array Value}{D:List Deferred}(hfin:∀a w,Sat C st a w rho->a.tmps=tmps->LeavesInM Fence.wide 0 P fn tmps R D u w) :∀(ds:List Deferred) (a:Act) (w:World),a.defers=ds->a.tmps=tmps->Sat C st a w rho->LeavesInM Fence.wide 0 P fn tmps R (ds++D) u w
 |[],a,w,hd,ht,h=>hfin a w h ht
 |d::ds,a,w,hd,ht,h=>by obtain⟨r,w',h1,h2,h3⟩:=h.unmark hd;exact⟨hu,.inl ⟨r,w',h1,h2,CW hu hfin ds { a with defers:=ds } w' rfl ht h3⟩⟩
end
end Go.AM
namespace Go.AM
structure A1 where
 Langs:Int
 Has:(Sl Int)
 deriving Inhabited
abbrev A9 (x:A1):List PV:=[(pI .i64 x.Langs),vSl 1 (cI .u64) x.Has]
structure E8 where
 Langs:Int
 Has:(Sl Int)
 deriving Inhabited
abbrev R7 (x:E8):List PV:=[(pI .i64 x.Langs),vSl 1 (cI .u64) x.Has]
structure I6 where
 a0:Int
 a1:Int
 deriving Inhabited,DecidableEq
abbrev N3 (x:I6):List PV:=[(pI .i64 x.a0),pI .i64 x.a1]
structure T0 where
 Parent:Int
 Name:Str
 deriving Inhabited,DecidableEq
abbrev O1 (x:T0):List PV:=[(pI .i64 x.Parent),.str x.Name]
structure A2 where
 Plus:Int
 Minus:Int
 deriving Inhabited,DecidableEq
abbrev A0 (x:A2):List PV:=[(pI .u32 x.Plus),pI .u32 x.Minus]
inductive Pat where
 |nil
 |mk (Kind:Int) (Is:A2) (Not:Bool) (Min:Int) (Max:Int) (n:Nat) (g:Nat->Pat)
instance:Inhabited Pat:=⟨.nil⟩
def Pat.Kind:Pat->Int
 |.nil=>0
 |.mk x _ _ _ _ _ _=>x
def Pat.Is:Pat->A2
 |.nil=>default
 |.mk _ x _ _ _ _ _=>x
def Pat.Not:Pat->Bool
 |.nil=>false
 |.mk _ _ x _ _ _ _=>x
def Pat.Min:Pat->Int
 |.nil=>0
 |.mk _ _ _ x _ _ _=>x
def Pat.Max:Pat->Int
 |.nil=>0
 |.mk _ _ _ _ x _ _=>x
def Pat.L:Pat->Sl Pat
 |.nil=>⟨0,fun _=>.nil⟩
 |.mk _ _ _ _ _ n g=>⟨n,g⟩
def DX:Pat->Nat->List PV
 |.nil=>fun _=>[]
 |.mk _ _ _ _ _ n g=>fun i=>[(pI .i64 (g i).Kind),pI .u32 (g i).Is.Plus,pI .u32 (g i).Is.Minus,.bb (g i).Not,pI .i64 (g i).Min,pI .i64 (g i).Max,.sl false 7 (g i).L.n (DX (g i))]
abbrev C8 (x:Pat):List PV:=[(pI .i64 x.Kind),pI .u32 x.Is.Plus,pI .u32 x.Is.Minus,.bb x.Not,pI .i64 x.Min,pI .i64 x.Max,.sl false 7 x.L.n (DX x)]
theorem CX (x:Pat):∀i,i<x.L.n->DX x i=C8 (x.L.g i):=by
 cases x with
 |nil=>intro i hi;exact absurd (show i<0 from hi) (by omega)
 |mk Kind Is Not Min Max n g=>exact fun _ _=>rfl
structure AF where
 From:Int
 Clear:Int
 Set:A2
 Take:Int
 Of:Int
 deriving Inhabited,DecidableEq
abbrev P7 (x:AF):List PV:=[(pI .i64 x.From),pI .u32 x.Clear,pI .u32 x.Set.Plus,pI .u32 x.Set.Minus,pI .u32 x.Take,pI .i64 x.Of]
structure Law where
 Name:Str
 Left:Pat
 Right:Pat
 If:(Sl A2)
 Out:(Sl AF)
 Mode:Int
 deriving Inhabited
abbrev B3 (x:Law):List PV:=[(.str x.Name),pI .i64 x.Left.Kind,pI .u32 x.Left.Is.Plus,pI .u32 x.Left.Is.Minus,.bb x.Left.Not,pI .i64 x.Left.Min,pI .i64 x.Left.Max,.sl false 7 x.Left.L.n (DX x.Left),pI .i64 x.Right.Kind,pI .u32 x.Right.Is.Plus,pI .u32 x.Right.Is.Minus,.bb x.Right.Not,pI .i64 x.Right.Min,pI .i64 x.Right.Max,.sl false 7 x.Right.L.n (DX x.Right),vSl 2 A0 x.If,vSl 6 P7 x.Out,pI .i64 x.Mode]
structure J1 where
 Tree:(Sl T0)
 Laws:(Sl Law)
 On:(Sl (Sl Int))
 deriving Inhabited
abbrev D1 (x:J1):List PV:=[(vSl 2 O1 x.Tree),vSl 18 B3 x.Laws,vSl 1 (cL 1 (cI .i64)) x.On]
inductive Part where
 |nil
 |sound (x:A2) (no:Bool)
 |edge (e:Bool)
 |seq (n:Nat) (g:Nat->Part)
 |alt (n:Nat) (g:Nat->Part)
 |rep (o:Part) (mn mx:Int)
instance:Inhabited Part:=⟨.nil⟩
def Part.t:Part->Nat
 |.nil=>0
 |.sound _ _=>276
 |.edge _=>278
 |.seq _ _=>283
 |.alt _ _=>280
 |.rep _ _ _=>282
def Part.v:Part->PV
 |.nil=>.bb false
 |.sound x no=>.agg [pI .u32 x.Plus,pI .u32 x.Minus,.bb no]
 |.edge e=>.agg [.bb e]
 |.seq n g=>.agg [.sl false 1 n fun i=>[.iface (g i).t (g i).v]]
 |.alt n g=>.agg [.sl false 1 n fun i=>[.iface (g i).t (g i).v]]
 |.rep o mn mx=>.agg [.iface o.t o.v,pI .i64 mn,pI .i64 mx]
abbrev DY (x:Part):PV:=.iface x.t x.v
abbrev CC (x:Part):List PV:=[DY x]
structure To where
 is:A2
 not:Bool
 deriving Inhabited,DecidableEq
abbrev QH (x:To):List PV:=[(pI .u32 x.is.Plus),pI .u32 x.is.Minus,.bb x.not]
structure WU where
 end_:Bool
 deriving Inhabited,DecidableEq
abbrev WV (x:WU):List PV:=[(.bb x.end_)]
structure Palt where
 l:(Sl Part)
 deriving Inhabited
abbrev Yu (x:Palt):List PV:=[(vSl 1 CC x.l)]
structure Prep where
 of:Part
 min:Int
 max:Int
 deriving Inhabited
abbrev Yv (x:Prep):List PV:=[(DY x.of),pI .i64 x.min,pI .i64 x.max]
structure Pseq where
 l:(Sl Part)
 deriving Inhabited
abbrev Yw (x:Pseq):List PV:=[(vSl 1 CC x.l)]
end Go.AM
namespace Go.AM
open Go.Proofs
abbrev AC:Nat:=7
theorem Dr:YN[AC]? = some Tryz.f7:=Tryz.func7
abbrev NU:Nat:=14
theorem Tp:YN[NU]? = some Tryz.f14:=Tryz.func14
abbrev IZ:Nat:=15
theorem Pr:YN[IZ]? = some Tryz.f15:=Tryz.func15
abbrev Ja:Nat:=16
theorem Ps:YN[Ja]? = some Tryz.f16:=Tryz.func16
abbrev EQ:Nat:=17
theorem Kd:YN[EQ]? = some Tryz.f17:=Tryz.func17
abbrev CD:Nat:=19
theorem GV:YN[CD]? = some Tryz.f19:=Tryz.func19
abbrev Ge:Nat:=21
theorem Mf:YN[Ge]? = some Tryz.f21:=Tryz.func21
abbrev Jb:Nat:=22
theorem Pt:YN[Jb]? = some Tryz.f22:=Tryz.func22
abbrev V5:Nat:=23
theorem BZ:YN[V5]? = some Tryz.f23:=Tryz.func23
abbrev P8:Nat:=24
theorem AG:YN[P8]? = some Tryz.f24:=Tryz.func24
abbrev Hy:Nat:=26
theorem NV:YN[Hy]? = some Tryz.f26:=Tryz.func26
abbrev Hz:Nat:=29
theorem NW:YN[Hz]? = some Tryz.f29:=Tryz.func29
abbrev Gf:Nat:=31
theorem Mg:YN[Gf]? = some Tryz.f31:=Tryz.func31
abbrev ER:Nat:=33
theorem Ke:YN[ER]? = some Tryz.f33:=Tryz.func33
abbrev HA:Nat:=34
theorem NX:YN[HA]? = some Tryz.f34:=Tryz.func34
abbrev Jc:Nat:=35
theorem Pu:YN[Jc]? = some Tryz.f35:=Tryz.func35
abbrev NY:Nat:=36
theorem Tq:YN[NY]? = some Tryz.f36:=Tryz.func36
abbrev BL:Nat:=37
theorem Gg:YN[BL]? = some Tryz.f37:=Tryz.func37
abbrev Dw:Nat:=38
theorem HR:YN[Dw]? = some Tryz.f38:=Tryz.func38
abbrev Gh:Nat:=40
theorem Mh:YN[Gh]? = some Tryz.f40:=Tryz.func40
abbrev K8:Nat:=42
theorem Bp:YN[K8]? = some Tryz.f42:=Tryz.func42
abbrev O8:Nat:=45
theorem Z9:YN[O8]? = some Tryz.f45:=Tryz.func45
abbrev Gi:Nat:=49
theorem Mi:YN[Gi]? = some Tryz.f49:=Tryz.func49
abbrev Jd:Nat:=54
theorem Pv:YN[Jd]? = some Tryz.f54:=Tryz.func54
abbrev O9:Nat:=55
theorem Aa:YN[O9]? = some Tryz.f55:=Tryz.func55
abbrev U1:Nat:=56
theorem AU:YN[U1]? = some Tryz.f56:=Tryz.func56
abbrev X1:Nat:=57
theorem Bq:YN[X1]? = some Tryz.f57:=Tryz.func57
abbrev Dx:Nat:=58
theorem HS:YN[Dx]? = some Tryz.f58:=Tryz.func58
abbrev CE:Nat:=59
theorem GW:YN[CE]? = some Tryz.f59:=Tryz.func59
abbrev Lm:Nat:=60
theorem RG:YN[Lm]? = some Tryz.f60:=Tryz.func60
abbrev Br:Nat:=61
theorem Ft:YN[Br]? = some Tryz.f61:=Tryz.func61
abbrev Je:Nat:=62
theorem Pw:YN[Je]? = some Tryz.f62:=Tryz.func62
abbrev NZ:Nat:=63
theorem Tr:YN[NZ]? = some Tryz.f63:=Tryz.func63
abbrev I7:Nat:=64
theorem T1:YN[I7]? = some Tryz.f64:=Tryz.func64
abbrev DZ:Nat:=65
theorem Jf:YN[DZ]? = some Tryz.f65:=Tryz.func65
abbrev QI:Nat:=66
theorem Vd:YN[QI]? = some Tryz.f66:=Tryz.func66
abbrev Ea:Nat:=70
theorem Jg:YN[Ea]? = some Tryz.f70:=Tryz.func70
abbrev ES:Nat:=71
theorem Kf:YN[ES]? = some Tryz.f71:=Tryz.func71
abbrev ET:Nat:=72
theorem Kg:YN[ET]? = some Tryz.f72:=Tryz.func72
abbrev HD:Nat:=75
theorem Oa:YN[HD]? = some Tryz.f75:=Tryz.func75
abbrev EU:Nat:=76
theorem Kh:YN[EU]? = some Tryz.f76:=Tryz.func76
abbrev Eb:Nat:=77
abbrev Ec:Nat:=78
theorem Jh:YN[Ec]? = some Tryz.f78:=Tryz.func78
abbrev Ji:Nat:=81
theorem Px:YN[Ji]? = some Tryz.f81:=Tryz.func81
abbrev X2:Nat:=82
theorem Bs:YN[X2]? = some Tryz.f82:=Tryz.func82
abbrev AH:Nat:=83
theorem HT:YN[AH]? = some Tryz.f83:=Tryz.func83
abbrev Ln:Nat:=84
theorem RH:YN[Ln]? = some Tryz.f84:=Tryz.func84
abbrev CY:Nat:=85
theorem Mj:YN[CY]? = some Tryz.f85:=Tryz.func85
abbrev Jj:Nat:=87
theorem Py:YN[Jj]? = some Tryz.f87:=Tryz.func87
abbrev HE:Nat:=89
theorem Ob:YN[HE]? = some Tryz.f89:=Tryz.func89
abbrev Gj:Nat:=90
theorem Mk:YN[Gj]? = some Tryz.f90:=Tryz.func90
abbrev EV:Nat:=92
theorem Ki:YN[EV]? = some Tryz.f92:=Tryz.func92
abbrev Gk:Nat:=93
theorem Ml:YN[Gk]? = some Tryz.f93:=Tryz.func93
abbrev EW:Nat:=94
theorem Kj:YN[EW]? = some Tryz.f94:=Tryz.func94
abbrev J2:Nat:=97
theorem P9:YN[J2]? = some Tryz.f97:=Tryz.func97
abbrev E1:Nat:=98
theorem R8:YN[E1]? = some Tryz.f98:=Tryz.func98
abbrev K9:Nat:=99
theorem X3:YN[K9]? = some Tryz.f99:=Tryz.func99
abbrev Ed:Nat:=105
theorem Jk:YN[Ed]? = some Tryz.f105:=Tryz.func105
abbrev HF:Nat:=108
theorem Oc:YN[HF]? = some Tryz.f108:=Tryz.func108
abbrev EX:Nat:=111
theorem Kk:YN[EX]? = some Tryz.f111:=Tryz.func111
abbrev Dy:Nat:=112
theorem HU:YN[Dy]? = some Tryz.f112:=Tryz.func112
abbrev O2:Nat:=115
theorem Z5:YN[O2]? = some Tryz.f115:=Tryz.func115
abbrev Au:Nat:=116
theorem Ee:YN[Au]? = some Tryz.f116:=Tryz.func116
abbrev Gl:Nat:=117
theorem Mm:YN[Gl]? = some Tryz.f117:=Tryz.func117
abbrev Lo:Nat:=118
theorem RI:YN[Lo]? = some Tryz.f118:=Tryz.func118
abbrev Gm:Nat:=119
theorem Mn:YN[Gm]? = some Tryz.f119:=Tryz.func119
abbrev Gn:Nat:=120
theorem Mo:YN[Gn]? = some Tryz.f120:=Tryz.func120
abbrev Jl:Nat:=121
theorem Pz:YN[Jl]? = some Tryz.f121:=Tryz.func121
abbrev HG:Nat:=122
theorem Od:YN[HG]? = some Tryz.f122:=Tryz.func122
abbrev G1:Nat:=123
theorem P1:YN[G1]? = some Tryz.f123:=Tryz.func123
abbrev H8:Nat:=124
theorem Q8:YN[H8]? = some Tryz.f124:=Tryz.func124
abbrev HH:Nat:=125
theorem Oe:YN[HH]? = some Tryz.f125:=Tryz.func125
abbrev Ef:Nat:=126
theorem Jm:YN[Ef]? = some Tryz.f126:=Tryz.func126
abbrev Z1:Nat:=127
theorem Jn:YN[Z1]? = some Tryz.f127:=Tryz.func127
abbrev Dz:Nat:=128
theorem HV:YN[Dz]? = some Tryz.f128:=Tryz.func128
abbrev EY:Nat:=139
theorem Kl:YN[EY]? = some Tryz.f139:=Tryz.func139
abbrev G6:Nat:=140
theorem BM:YN[G6]? = some Tryz.f140:=Tryz.func140
abbrev P0:Nat:=141
theorem Eg:YN[P0]? = some Tryz.f141:=Tryz.func141
abbrev F7:Nat:=142
theorem DA:YN[F7]? = some Tryz.f142:=Tryz.func142
abbrev Q0:Nat:=146
theorem AI:YN[Q0]? = some Tryz.f146:=Tryz.func146
abbrev Ca:Nat:=147
theorem Km:YN[Ca]? = some Tryz.f147:=Tryz.func147
abbrev EZ:Nat:=148
theorem Kn:YN[EZ]? = some Tryz.f148:=Tryz.func148
abbrev K4:Nat:=149
theorem V6:YN[K4]? = some Tryz.f149:=Tryz.func149
abbrev H2:Nat:=150
theorem Q5:YN[H2]? = some Tryz.f150:=Tryz.func150
abbrev J7:Nat:=151
theorem U2:YN[J7]? = some Tryz.f151:=Tryz.func151
abbrev Gp:Nat:=152
theorem Mp:YN[Gp]? = some Tryz.f152:=Tryz.func152
abbrev T2:Nat:=153
theorem GX:YN[T2]? = some Tryz.f153:=Tryz.func153
abbrev F0:Nat:=154
theorem J8:YN[F0]? = some Tryz.f154:=Tryz.func154
abbrev N4:Nat:=155
theorem Z2:YN[N4]? = some Tryz.f155:=Tryz.func155
abbrev H9:Nat:=159
theorem Q9:YN[H9]? = some Tryz.f159:=Tryz.func159
abbrev DB:Nat:=160
theorem HX:YN[DB]? = some Tryz.f160:=Tryz.func160
abbrev Fa:Nat:=161
theorem Ko:YN[Fa]? = some Tryz.f161:=Tryz.func161
abbrev HI:Nat:=171
theorem Og:YN[HI]? = some Tryz.f171:=Tryz.func171
abbrev C6:Nat:=172
theorem T3:YN[C6]? = some Tryz.f172:=Tryz.func172
abbrev J9:Nat:=174
theorem U3:YN[J9]? = some Tryz.f174:=Tryz.func174
abbrev N2:Nat:=175
theorem HY:YN[N2]? = some Tryz.f175:=Tryz.func175
abbrev Jo:Nat:=176
theorem PA:YN[Jo]? = some Tryz.f176:=Tryz.func176
abbrev Jp:Nat:=182
theorem PB:YN[Jp]? = some Tryz.f182:=Tryz.func182
abbrev Jq:Nat:=189
theorem PC:YN[Jq]? = some Tryz.f189:=Tryz.func189
abbrev Oh:Nat:=190
theorem Ts:YN[Oh]? = some Tryz.f190:=Tryz.func190
abbrev CZ:Nat:=196
theorem PD:YN[CZ]? = some Tryz.f196:=Tryz.func196
abbrev Lp:Nat:=197
theorem RJ:YN[Lp]? = some Tryz.f197:=Tryz.func197
abbrev I8:Nat:=198
theorem T4:YN[I8]? = some Tryz.f198:=Tryz.func198
abbrev Oi:Nat:=199
theorem Tt:YN[Oi]? = some Tryz.f199:=Tryz.func199
abbrev Oj:Nat:=200
theorem Tu:YN[Oj]? = some Tryz.f200:=Tryz.func200
abbrev Gq:Nat:=201
theorem Mq:YN[Gq]? = some Tryz.f201:=Tryz.func201
abbrev BN:Nat:=207
theorem Ok:YN[BN]? = some Tryz.f207:=Tryz.func207
abbrev HJ:Nat:=208
theorem Ol:YN[HJ]? = some Tryz.f208:=Tryz.func208
abbrev CF:Nat:=209
theorem GY:YN[CF]? = some Tryz.f209:=Tryz.func209
abbrev F4:Nat:=210
theorem V7:YN[F4]? = some Tryz.f210:=Tryz.func210
abbrev Fb:Nat:=211
theorem Kq:YN[Fb]? = some Tryz.f211:=Tryz.func211
abbrev HK:Nat:=212
theorem Om:YN[HK]? = some Tryz.f212:=Tryz.func212
abbrev Q3:Nat:=217
theorem Kr:YN[Q3]? = some Tryz.f217:=Tryz.func217
abbrev Gr:Nat:=218
theorem Mr:YN[Gr]? = some Tryz.f218:=Tryz.func218
abbrev Jr:Nat:=219
theorem PE:YN[Jr]? = some Tryz.f219:=Tryz.func219
abbrev Js:Nat:=220
theorem PF:YN[Js]? = some Tryz.f220:=Tryz.func220
abbrev Jt:Nat:=221
theorem PG:YN[Jt]? = some Tryz.f221:=Tryz.func221
abbrev Gs:Nat:=227
theorem Ms:YN[Gs]? = some Tryz.f227:=Tryz.func227
abbrev Gt:Nat:=228
theorem Mt:YN[Gt]? = some Tryz.f228:=Tryz.func228
abbrev Fc:Nat:=229
theorem Ks:YN[Fc]? = some Tryz.f229:=Tryz.func229
abbrev Eh:Nat:=234
theorem Ju:YN[Eh]? = some Tryz.f234:=Tryz.func234
abbrev Am:Nat:=235
theorem Kt:YN[Am]? = some Tryz.f235:=Tryz.func235
abbrev W4:Nat:=236
theorem DC:YN[W4]? = some Tryz.f236:=Tryz.func236
abbrev Av:Nat:=259
theorem Ei:YN[Av]? = some Tryz.f259:=Tryz.func259
abbrev Bt:Nat:=260
theorem Jv:YN[Bt]? = some Tryz.f260:=Tryz.func260
abbrev Cb:Nat:=261
theorem Ku:YN[Cb]? = some Tryz.f261:=Tryz.func261
abbrev Da:Nat:=262
theorem Mu:YN[Da]? = some Tryz.f262:=Tryz.func262
abbrev BO:Nat:=263
theorem Gu:YN[BO]? = some Tryz.f263:=Tryz.func263
abbrev Db:Nat:=264
theorem Mv:YN[Db]? = some Tryz.f264:=Tryz.func264
abbrev Ej:Nat:=265
theorem Jw:YN[Ej]? = some Tryz.f265:=Tryz.func265
abbrev U4:Nat:=266
theorem AW:YN[U4]? = some Tryz.f266:=Tryz.func266
abbrev Dc:Nat:=267
theorem Mw:YN[Dc]? = some Tryz.f267:=Tryz.func267
abbrev E3:Nat:=3
abbrev VK:Nat:=4
abbrev An:Nat:=9
abbrev Mx:Nat:=24
abbrev My:Nat:=29
abbrev Mz:Nat:=42
abbrev P4:Nat:=44
abbrev BP:Nat:=51
abbrev N8:Nat:=76
abbrev C9:Nat:=87
abbrev Lq:Nat:=95
abbrev Ek:Nat:=121
abbrev Oo:Nat:=124
abbrev PH:Nat:=269
end Go.AM
namespace Go.AM
open IntKind (wrap)
abbrev U (x:BitVec 64):Int:=(x.toNat:Int)
theorem Gv {n:Nat}(h:n<2 ^ 64):IntKind.u64.wrap (n:Int)=n:=by have h1:((n:Int) % (2 ^ 64:Int))=n:=Ad7 (by omega) (by omega);unfold wrap;simp only[IntKind.bits,IntKind.signed,h1,Ad9,YV,if_false]
theorem Tv (x:BitVec 64):BitVec.ofInt 64 (U x)=x:=by
 apply Ae3;rw[BitVec.toNat_ofInt]
 have:=x.isLt
 show ((x.toNat:Int) % ((2 ^ 64:Nat):Int)).toNat=x.toNat;omega
theorem Yx (x y:BitVec 64):G0 .and .u64 (U x) (U y)=U (x &&& y):=by simp only[G0,IntKind.bits,Tv];exact Gv (x &&& y).isLt
theorem MA (x y:BitVec 64):G0 .andNot .u64 (U x) (U y)=U (x &&& ~~~ y):=by simp only[G0,IntKind.bits,Tv];exact Gv (x &&& ~~~ y).isLt
theorem shr64 (x:BitVec 64)(n:Nat):shI .shr .u64 (U x) n=U (x >>> n):=by
 simp only[shI,IntKind.bits,ZF];have hx:=x.isLt;show Int.fdiv (x.toNat:Int) (2 ^ min n 64)=((x >>> n).toNat:Int);rw[BitVec.toNat_ushiftRight,Nat.shiftRight_eq_div_pow];have e:((2:Int) ^ (min n 64))=((2 ^ (min n 64):Nat):Int):=by norm_cast
 rw[e,Int.fdiv_eq_ediv_of_nonneg _ (Int.natCast_nonneg _),<- Int.natCast_ediv];congr 1;by_cases h:n<=64
 ·rw[Ab7 h]
 ·rw[Nat.min_eq_right (by omega),Ac6 hx,Ac6];exact Zl hx (Ag9 (by omega) (by omega))
theorem one64:(1:Int)=U 1#64:=rfl
theorem Yy (n:Nat)(h:n<64):shI .shl .u64 1 n=U (1#64 <<< n):=by
 simp only[shI,IntKind.bits,ZF];rw[Ab7 (by omega)];show wrap .u64 (1*2 ^ n)=((1#64 <<< n).toNat:Int);rw[Ag0,Nat.shiftLeft_eq];have h1:(2:Nat) ^ n<2 ^ 64:=Nat.pow_lt_pow_right (by omega) h;have e:((1:Int)*2 ^ n)=((2 ^ n:Nat):Int):=by norm_cast;omega
 rw[e,Gv h1]
 norm_cast
 rw[Aa3]
 ·simp
 ·simpa using h1
theorem Tw {i:Nat}:(1#64).getLsbD i=decide (i=0):=by rw[BitVec.getLsbD_one];simp
theorem WW {n i:Nat}(h:n<64)(hi:i<64):(1#64 <<< n).getLsbD i=decide (i=n):=by rw[BitVec.getLsbD_shiftLeft,Tw,Ab0];simp only[YR,Zf,decide_eq_true_eq,decide_eq_false_iff_not];omega
theorem WX (x:BitVec 64)(i:Nat):(G0 .and .u64 (shI .shr .u64 (U x) (i:Int)) 1==1)=x.getLsbD i:=by
 rw[shr64,one64,Yx];have h:(x >>> i &&& 1#64)=(BitVec.ofBool (x.getLsbD i)).setWidth 64:=by
  apply Af8;intro j hj;simp only[Ad1,BitVec.getLsbD_ushiftRight,BitVec.getLsbD_setWidth,BitVec.getLsbD_ofBool];by_cases h0:j=0
  ·subst h0;simp
  ·have:(1#64).getLsbD j=false:=by rw[Tw];simp[h0]
   simp[this,h0]
 rw[h];cases x.getLsbD i<;>rfl
theorem QJ {x y:BitVec 64}(h:∀b,b<64->(x.getLsbD b=true↔y.getLsbD b=true)):x=y:=
 Af8 fun b hb=>Ab0.2 (h b hb)
end Go.AM
namespace Go.AM
open Go.Proofs
abbrev Ve:List AV:=[.reg 0 0,.reg 1 0,.reg 2 0,.reg 3 0]
abbrev PI (c:Int)(a:Sl Law)(b:Sl A2)(y:PV):List Obj:=[.cells [pN c],.cells [.p (vSl 18 B3 a)],.cells [.p (vSl 2 A0 b)],.cells [.p y]]
def byB (x:Int)(i:Nat):UInt8:=UInt8.ofNat (x / 2 ^ (8*i) % 256).toNat
def RK (s:Int×Int)(q:Nat):List UInt8:=(List.range q).flatMap fun i=>[byB s.1 i,byB s.2 i]
def QK (g:Nat->Int×Int)(n:Nat):List UInt8:=(List.range n).flatMap fun i=>RK (g i) 4
def RL (w:Sl A2):Str:=QK (fun i=>((w.g i).Plus,(w.g i).Minus)) w.n
structure Oq (S:X8):Prop where
 attR:∀{a:Sl Law}{b y:Sl A2},FunO S F7 [.p (vSl 18 B3 a),.p (vSl 2 A0 b)] [] (.p (vSl 2 A0 y)) [] []->FunO S G6 Ve (PI 0 a b J5) (.tup []) (PI 0 a b (vSl 2 A0 y)) [true,true,true,true]
 attP:∀{a:Sl Law}{b:Sl A2}{c:Int},(S.F F7 [.p (vSl 18 B3 a),.p (vSl 2 A0 b)] [] fun res o k=>res=.panic (.iface 210 (pI .i64 c))/\o=[]/\k=[])->FunO S G6 Ve (PI 0 a b J5) (.tup []) (PI c a b J5) [true,true,true,true]
 tz:∀x:BitVec 64,Sv S K8 [.p (pI .u64 (U x))] (.p (pI .i64 (Lib.ctz 64 x.toNat:Nat)))
 trim:∀s c:Str,s.length<1000000000000->c.length<1000000->(∀b∈c,b.toNat<128)->Sv S Ca [.p (.str s),.p (.str c)] (.p (.str (Lib.trimS s c)))
 growS:∀(f:Nat->List PV) (n:Nat),n*8<=140737488355328->FunO S F4 [.p J5,.p (pI .i64 (n:Int))] [] (.vec 0) [.vec C9 2 0 f false] []
 text:∀(w:Sl A2) (e:Int),w.n*8<=140737488355328->Sv S Eb [.p (vSl 2 A0 w),.p (pI .i64 e)] (.p (.str (if e=0 then RL w else [45])))
def L0 (N:Nat)(x:Int):Option Int:=if 0<=x/\x<18446744073709551616 then some ((Lib.ctz 64 x.toNat:Nat):Int)else none
def Fd (N:Nat)(s c:Str):Option Str:=if s.length<1000000000000/\c.length<1000000/\(c.all fun b=>decide (b.toNat<128)) then some (Lib.trimS s c)else none
def K5 (N:Nat)(n:Int):Option (Sl A2):=if 0<=n/\n*8<=140737488355328 then some (Sl.nil:Sl A2)else none
section
variable {S:X8}(hS:F6 S Tryz.prog) (hL:Oq S)
include hS hL
theorem R9 {N:Nat}{x y:Int}(h:L0 N x=some y):FunO S K8 [.p (pI .u64 x)] [] (.p (pI .i64 y)) [] []:=by
 obtain⟨⟨h0,h1⟩,h⟩:=G5 h;obtain rfl:=B4 h
 have:=hL.tz (BitVec.ofNat 64 x.toNat)
 have e:(BitVec.ofNat 64 x.toNat).toNat=x.toNat:=by rw[Ad2];omega
 have e2:U (BitVec.ofNat 64 x.toNat)=x:=by show ((BitVec.ofNat 64 x.toNat).toNat:Int)=x;rw[e];omega
 rw[e,e2]at this;exact this
theorem Kv {N:Nat}{s c:Str}{y:Str}(h:Fd N s c=some y):FunO S Ca [.p (.str s),.p (.str c)] [] (.p (.str y)) [] []:=by obtain⟨⟨h0,h1,h2⟩,h⟩:=G5 h;obtain rfl:=B4 h;exact hL.trim s c h0 h1 fun b hb=>by simpa using Zg.1 h2 b hb
theorem V8 {N:Nat}{n:Int}{y:Sl A2}(h:K5 N n=some y):FunO S F4 [.p J5,.p (pI .i64 n)] [] (.vec 0) [.vec C9 2 y.n (fun i=>A0 (y.g i)) false] []:=by
 obtain⟨⟨h0,h1⟩,h⟩:=G5 h;obtain rfl:=B4 h
 have:=hL.growS (fun i=>A0 default) n.toNat (by omega)
 rw[show ((n.toNat:Nat):Int)=n by omega]at this;exact this
def A8 (N:Nat)(s:Sl A2):Option (Sl A2):=if (0+s.n)*8<=140737488355328/\0+s.n<=140737488355328 then some s else none
theorem K0 {N:Nat}{s y:Sl A2}(h:A8 N s=some y):FunO S F0 [.p (vSl 2 A0 s)] [] (.vec 0) [.vec C9 2 y.n (fun i=>A0 (y.g i)) true] []:=by
 unfold A8 at h;obtain⟨c1,h⟩:=G5 h;obtain rfl:=B4 h;refine A4 hS J8 ?_;refine UR hS trivial 3 (k:=2) (n:=s.n) (f:=fun i=>A0 (s.g i)) (fun h0=>?_) ?_
 ·obtain⟨n,g⟩:=s;obtain rfl:n=0:=h0;exact A6 hS trivial ⟨[(2,.vec 3700)],[(3700,.vec C9 2 0 (fun i=>A0 (g i)) true)]⟩ [3700] (ids:=[]) ⟨rfl,rfl,rfl⟩
 ·exact A6 hS (And.intro (rfl:true=true) c1) ⟨[(2,.vec 8000)],[(8000,.vec C9 2 s.n (fun i=>A0 (s.g i)) true)]⟩ [8000] (ids:=[(8000,8000)]) ⟨rfl,rfl,rfl⟩
   (hle:=klR [(0,.fn (0+s.n) s.n (AD 0 (E9 [pI .u32 0,pI .u32 0] []) (fun i=>A0 (s.g i))) (fun i=>A0 (s.g i)))] (al1 ⟨ZG _,fun i _=>by simp[AD]⟩ al0))
def G7 (N:Nat)(s:Sl AF):Option (Sl AF):=if (0+s.n)*32<=140737488355328/\0+s.n<=140737488355328 then some s else none
theorem T5 {N:Nat}{s y:Sl A2}(h:A8 N s=some y):FunO S F0 [.p (vSl 2 A0 s)] [] (.p (vSl 2 A0 y)) [] []:=by
 unfold A8 at h;obtain⟨c1,h⟩:=G5 h;obtain rfl:=B4 h;refine A4 hS J8 ?_;refine UR hS trivial 3 (k:=2) (n:=s.n) (f:=fun i=>A0 (s.g i)) (fun h0=>?_) ?_
 ·obtain⟨n,g⟩:=s;obtain rfl:n=0:=h0;exact A6 hS trivial ⟨[(2,.p (vSl 2 A0 ⟨0,g⟩))],[]⟩ [] (ids:=[]) ⟨rfl,rfl,rfl⟩
 ·exact A6 hS (And.intro (rfl:true=true) c1) ⟨[(2,.p (vSl 2 A0 s))],[]⟩ [] (ids:=[]) ⟨rfl,rfl,rfl⟩
   (hle:=klR [(0,.fn (0+s.n) s.n (AD 0 (E9 [pI .u32 0,pI .u32 0] []) (fun i=>A0 (s.g i))) (fun i=>A0 (s.g i)))] (al1 ⟨ZG _,fun i _=>by simp[AD]⟩ al0))
theorem Y3 {N:Nat}{s y:Sl AF}(h:G7 N s=some y):FunO S N4 [.p (vSl 6 P7 s)] [] (.p (vSl 6 P7 y)) [] []:=by
 unfold G7 at h;obtain⟨c1,h⟩:=G5 h;obtain rfl:=B4 h;refine A4 hS Z2 ?_;refine UR hS trivial 3 (k:=6) (n:=s.n) (f:=fun i=>P7 (s.g i)) (fun h0=>?_) ?_
 ·obtain⟨n,g⟩:=s;obtain rfl:n=0:=h0;exact A6 hS trivial ⟨[(2,.p (vSl 6 P7 ⟨0,g⟩))],[]⟩ [] (ids:=[]) ⟨rfl,rfl,rfl⟩
 ·exact A6 hS (And.intro (rfl:true=true) c1) ⟨[(2,.p (vSl 6 P7 s))],[]⟩ [] (ids:=[]) ⟨rfl,rfl,rfl⟩
   (hle:=klR [(0,.fn (0+s.n) s.n (AD 0 (E9 [pI .i64 0,pI .u32 0,pI .u32 0,pI .u32 0,pI .u32 0,pI .i64 0] []) (fun i=>P7 (s.g i))) (fun i=>P7 (s.g i)))] (al1 ⟨ZG _,fun i _=>by simp[AD]⟩ al0))
def E5 (N:Nat)(s:Sl Int):Option (Sl Int):=if (0+s.n)*8<=140737488355328/\0+s.n<=140737488355328 then some s else none
theorem Ab {N:Nat}{s y:Sl Int}(h:E5 N s=some y):FunO S O9 [.p (vSl 1 (cI .u64) s)] [] (.vec 0) [.vec P4 1 y.n (fun i=>cI .u64 (y.g i)) true] []:=by
 unfold E5 at h;obtain⟨c1,h⟩:=G5 h;obtain rfl:=B4 h;refine A4 hS Aa ?_;refine UR hS trivial 3 (k:=1) (n:=s.n) (f:=fun i=>cI .u64 (s.g i)) (fun h0=>?_) ?_
 ·obtain⟨n,g⟩:=s;obtain rfl:n=0:=h0;exact A6 hS trivial ⟨[(2,.vec 3700)],[(3700,.vec P4 1 0 (fun i=>cI .u64 (g i)) true)]⟩ [3700] (ids:=[]) ⟨rfl,rfl,rfl⟩
 ·exact A6 hS (And.intro (rfl:true=true) c1) ⟨[(2,.vec 8000)],[(8000,.vec P4 1 s.n (fun i=>cI .u64 (s.g i)) true)]⟩ [8000] (ids:=[(8000,8000)]) ⟨rfl,rfl,rfl⟩
   (hle:=klR [(0,.fn (0+s.n) s.n (AD 0 (E9 [pI .u64 0] []) (fun i=>cI .u64 (s.g i))) (fun i=>cI .u64 (s.g i)))] (al1 ⟨ZG _,fun i _=>by simp[AD]⟩ al0))
def El (N:Nat)(w:Sl A2)(e:Int):Option Str:=if w.n*8<=140737488355328 then some (if e=0 then RL w else [45])else none
theorem Ot {N:Nat}{w:Sl A2}{e:Int}{y:Str}(h:El N w e=some y):FunO S Eb [.p (vSl 2 A0 w),.p (pI .i64 e)] [] (.p (.str y)) [] []:=by unfold El at h;obtain⟨c1,h⟩:=G5 h;obtain rfl:=B4 h;exact hL.text w e c1
end
end Go.AM
set_option maxRecDepth 100000
namespace Go.AM
open Go.Proofs
theorem RM (v:Value)(w:World):(Instr.typeAssert (.iface 210 v) 20 210 true).run Tryz.prog w=.ok (.tuple #[v,.bool true]) w:=by kernel_rfl
theorem PJ (p:Value)(w:World):CallsDIn Fence.wide 0 Tryz.prog P0 #[p] .returning w fun e u' w'=>e=.returned (.tuple #[])/\u' = .returning/\w' = w:=by
 refine callsDIn_of_wpSIn Eg rfl (by simp[Fence.wide]) fun c₀ cs hu=>?_;apply wpSIn_seq;apply wpSIn_region;simp[wpOpsSIn,go_sem,recoverD,hu,Tryz.f141,Exit.thenS];refine wpSIn_of_wpIn rfl (wpIn_block (wpIn_seq (wpIn_region ?_)));simp[wpOpsIn,Oper.wpIn,Oper.semAt,Oper.uponIn,go_sem,Exit.then];refine wpIn_cond (t:=true) (by simp[Act.eval]) ?_;simp only[if_true];refine wpIn_region ?_;simp[wpOpsIn,Oper.wpIn,Oper.semAt,Oper.uponIn,go_sem,Exit.inBlock,bodyPostS,results];cases c₀
 simp_all
theorem HZ (p:Value)(c:Int)(older:List PanicEntry)(w w1:World)(hst:(Instr.storeAt 30 p (.int .i64 c)).run Tryz.prog w=.ok () w1)(hn:∃b,p=.pointer (some b)) :CallsDIn Fence.wide 0 Tryz.prog P0 #[p] (.panicking ({ v:=.iface 210 (.int .i64 c),recovered:=false }::older)) w fun e u' w'=>
  e=.returned (.tuple #[])/\u' = .panicking ({ v:=.iface 210 (.int .i64 c),recovered:=true }::older)/\w' = w1:=by
 obtain⟨b,rfl⟩:=hn;refine callsDIn_of_wpSIn Eg rfl (by simp[Fence.wide]) fun c₀ cs hu=>?_;apply wpSIn_seq;apply wpSIn_region;simp[wpOpsSIn,go_sem,recoverD,hu,Tryz.f141,Exit.thenS];refine wpSIn_of_wpIn rfl (wpIn_block (wpIn_seq (wpIn_region ?_)));simp[wpOpsIn,Oper.wpIn,Oper.semAt,Oper.uponIn,go_sem,Exit.then];refine wpIn_cond (t:=false) (by simp[Act.eval]) ?_;simp only[YV,if_false];refine wpIn_seq (wpIn_region ?_);simp[wpOpsIn,Oper.wpIn,Oper.semAt,Oper.uponIn,go_sem,Exit.then,RM];refine wpIn_cond (t:=true) (by simp[Act.eval]) ?_;simp only[if_true];refine wpIn_seq (wpIn_region ?_);simp[wpOpsIn,Oper.wpIn,Oper.semAt,Oper.uponIn,go_sem,Exit.then];refine wpIn_region ?_;simp[wpOpsIn,Oper.wpIn,Oper.semAt,Oper.uponIn,go_sem,hst,Exit.inBlock,bodyPostS,results];simp[go_sem]at hst;rw[hst];simp[Result.andThen]
noncomputable def Xp:Code:=match Tryz.f140.body with
 |some (.seq _ c)=>c
 |_=>.skip
theorem WY {S:X8}(hS:F6 S Tryz.prog){a:Sl Law}{b y:Sl A2}(hF:FunO S F7 [.p (vSl 18 B3 a),.p (vSl 2 A0 b)] [] (.p (vSl 2 A0 y)) [] []) :KG S Tryz.prog (Ll S (fun st=>I1 [0,1,2,3] st.regs [0,1,2,3]=some (PI 0 a b (vSl 2 A0 y))) fun _ _=>False) (.code Xp [] ⟨argEnv Ve,objRegs (PI 0 a b J5)⟩):=by refine B6 hS [] trivial hF ?_;exact K_upN hS trivial ⟨[],[(3,.cells [.p (vSl 2 A0 y)]),(2,.cells [.p (vSl 2 A0 b)]),(1,.cells [.p (vSl 18 B3 a)]),(0,.cells [pN 0])]⟩ (ids:=[(0,0),(1,1),(2,2),(3,3)]) rfl
theorem Tx {S:X8}(hS:F6 S Tryz.prog){a:Sl Law}{b:Sl A2}{c:Int}(hF:S.F F7 [.p (vSl 18 B3 a),.p (vSl 2 A0 b)] [] fun res o k=>res=.panic (.iface 210 (pI .i64 c))/\o=[]/\k=[]) :KG S Tryz.prog (Ll S (fun _=>False) fun x st=>x=.iface 210 (pI .i64 c)/\store Tryz.prog st.regs 30 (.reg 0 0) (.p (pI .i64 c))=some ([],ins 0 (.cells [pN c]) st.regs)/\I1 [0,1,2,3] (ins 0 (.cells [pN c]) st.regs) [0,1,2,3]=some (PI c a b J5)) (.code Xp [] ⟨argEnv Ve,objRegs (PI 0 a b J5)⟩):=by refine WT hS [] trivial hF ?_;exact K_upP hS trivial ⟨rfl,by kernel_rfl,by kernel_rfl⟩
noncomputable def att1:Code:=match Tryz.f140.body with
 |some (.seq c _)=>c
 |_=>.skip
noncomputable def attOps:Array Oper:=match Xp with
 |.region _ ops _=>ops
 |_=>#[]
theorem QL:Xp=.region 1 attOps false:=by kernel_rfl
theorem Yz:attOps.toList.all (EM 7 attOps.toList)=true:=by kernel_rfl
theorem Vf:¬Tryz.f140.name = "runtime.NumGoroutine" := by decide +kernel
theorem QM:Tryz.f140.body=some (.seq att1 Xp):=by kernel_rfl
theorem WZ {C:Ctx}{vs:Array Value}{w:World}{rho:Nat->Value}{args:List AV}{objs:List Obj}{n:Nat}(hS:Sat C ⟨argEnv args,objRegs objs⟩ ⟨vs,[]⟩ w rho)(hvs:vs.size=args.length) :Sat C ⟨argEnv args,objRegs objs⟩ { tmps:=vs++Array.replicate n undef,defers:=[] } w rho:=by
 refine⟨hS.toSatE,fun t=>?_,hS.pin,hS.marks⟩
 have:=hS.env t
 by_cases ht:t<vs.size
 ·simpa[YO,ZV,ht]using this
 ·show RepA w _ _ _ _ (get (argEnv args) t);rw[Y0,YM,Zv (by omega)];exact .top _
theorem Jx {R:St->Prop}{X:PV->St->Prop}{a:Sl Law}{b:Sl A2}{objs' : List Obj}
 (hreg:KG (EH Tryz.prog) Tryz.prog (Ll (EH Tryz.prog) R X) (.code Xp [] ⟨argEnv Ve,objRegs (PI 0 a b J5)⟩))
 (hR:∀st,R st->I1 [0,1,2,3] st.regs [0,1,2,3]=some objs')
 (hX:∀x st,X x st->∃c regs',x=.iface 210 (pI .i64 c)/\store Tryz.prog st.regs 30 (.reg 0 0) (.p (pI .i64 c))=some ([],regs')/\I1 [0,1,2,3] regs' [0,1,2,3]=some objs') :
 FunO (EH Tryz.prog) G6 Ve (PI 0 a b J5) (.tup []) objs' [true,true,true,true]:=by
 intro 𝒢 C w vs rho hG hS hvs;obtain⟨l⟩:=vs
 match l,hvs with
 |[v0,v1,v2,v3],hvs=>?_
 refine⟨.enter G6 #[v0,v1,v2,v3],w,by simp[callFunc,BM,QM,Vf],?_⟩;refine callsIn_of_wp_marks BM QM trivial ?_;have hS':=WZ (n:=Tryz.f140.ntmps-4) hS hvs;have hn7:Tryz.f140.ntmps-4=3:=rfl;rw[hn7]at hS';have hsz:((#[v0,v1,v2,v3]:Array Value)++Array.replicate 3 undef).size=7:=rfl;have hw:GF (EH Tryz.prog) Tryz.prog attOps.toList attOps.toList (Ll (EH Tryz.prog) R X) ⟨argEnv Ve,objRegs (PI 0 a b J5)⟩:=by
  have:=hreg.out
  rw[QL]at this;simpa only[G,awp,kp,YV,if_false]using this
 have hops:=II (𝒢:=𝒢.fix C.rho0) (n:=7) (ro:=none) (ops:=attOps) Yz attOps.toList 0 rfl (by simp) ⟨hG,rfl⟩ hS' hsz hw;have hfr:=Gd [{ target:=.fn (.func P0) #[],args:=#[v0] }] _ _ _ hops;rw[Ah1]at hfr;obtain⟨b0,hv0,hrho0⟩:∃b0,v0=.pointer (some ⟨b0,0,none⟩)/\rho 0=.pointer (some ⟨b0,0,none⟩):=by
  have h0:RepA w _ _ rho v0 (.reg 0 0):=hS.env 0;cases h0 with
  |reg _ _ b0 _ h=>exact⟨b0,rfl,h⟩
 have hend:∀{C' : Ctx}{st' : St}{a' : Act}{w' : World}{rho' : Nat->Value},(𝒢.fix C.rho0).G C' -> Sat C' st' a' w' rho' -> I1 [0,1,2,3] st'.regs [0,1,2,3]=some objs' ->
  LeavesInM Fence.wide 0 Tryz.prog Tryz.f140 a'.tmps (fun e w'=>∃C' r objs0 ks rho', 𝒢.G C' /\ (r=.ret (.tup [])/\objs0=objs' /\ ks=[true,true,true,true])/\SatE C' (objRegs objs0) w' rho' /\
   Wn w' (Prv C'.X (A3 (objRegs objs0)) rho') (Lv (A3 (objRegs objs0))) rho' e r/\∀i:Nat,ks[i]? = some true->i<objs0.length/\rho' i=rho i) [] .returning w':=by
  intro C' st' a' w' rho' hG' hs' hob;obtain⟨g1,g2,g3⟩:=IJ hs' (by decide) hob;obtain⟨hl,hg⟩:=S8 hob;refine⟨.tuple #[],by simp[results,Tryz.f140],C', .ret (.tup []),objs',_,_,hG'.1,⟨rfl,rfl,rfl⟩,g1,⟨_,rfl,.tup _ _ rfl fun i hi=>absurd hi (by simp)⟩,?_⟩;intro i hi;have hi4:i<4:=by
   have:=(YX.1 hi).1
   simpa using this
  refine⟨by rw[hl];exact hi4,?_⟩;have e1:[0,1,2,3][i]? = some i:=by
   match i,hi4 with
   |0,_=>rfl
   |1,_=>rfl
   |2,_=>rfl
   |3,_=>rfl
  obtain⟨o,_,ho,_⟩:=hg i i e1;show rho' ([0,1,2,3].getD i 0)=rho i;rw[AE e1,hs'.pin i (by omega) (by simp[Lv,ho]),hG'.2];refine (hS.pin i (by omega) ?_).symm;rw[Lv,C0]
  match i,hi4 with
  |0,_=>rfl
  |1,_=>rfl
  |2,_=>rfl
  |3,_=>rfl
 generalize hQ:bodyPostM _ _ _ _ _=QQ;refine wpIn_seq ?_;simp only[att1,Tryz.f140];refine wpIn_region ?_;simp[wpOpsIn,Oper.wpIn,Oper.semAt,Oper.uponIn,go_sem,Exit.then];subst hQ;rw[QL];refine wpIn_mono (wpIn_region (F:=FW none) hfr) ?_;rintro e a' w' ⟨a0,rfl,hq⟩;cases e with
 |exit id=>obtain⟨_,_,_,_,_,_,h⟩:=hq;exact h.elim
 |goto l=>obtain⟨_,_,_,_,_,_,h⟩:=hq;exact h.elim
 |ret=>obtain⟨_,_,_,_,_,_,h⟩:=hq;exact h.elim
 |outgrown=>exact hq.elim
 |normal=>
  obtain⟨C',st',rho',hG',hs',hsz',hu⟩:=hq;obtain⟨st2,rho2,hR2,_,hs2⟩:=hu C' a0 w' rho' hs';refine CW (C:=C') (st:=st2) (rho:=rho2) (by simp) ?_ a0.defers a0 w' rfl rfl hs2;intro a3 w3 hs3 ht;refine⟨by simp,.inr ⟨by simp[Fence.wide],_,_,P0,#[v0],rfl,by simp[go_sem],fun _ _=>trivial,?_⟩⟩;refine (PJ v0 w3).mono ?_;rintro e u' w4 ⟨rfl,rfl,rfl⟩
  have:=hend hG' hs3 (hR st2 hR2)
  rw[ht]at this;exact this
 |panic chain=>
  obtain⟨C',st',rho',v,x,rfl,hG',hs',hsz',hv,hXx⟩:=hq;obtain⟨c,regs',rfl,hst,hob⟩:=hX x st' hXx;obtain rfl:v=.iface 210 (.int .i64 c):=by
   cases hv with
   |iface _ _ _ h=>cases h;rfl
  refine CW (C:=C') (st:=st') (rho:=rho') (by simp) ?_ a0.defers a0 w' rfl rfl hs';intro a3 w3 hs3 ht;have hlive:Lv (A3 st'.regs) 0:=by
   cases hj:A3 st'.regs 0 with
   |some o=>simp[Lv,hj]
   |none=>
    unfold store at hst;split at hst
    ·simp[hj]at hst
    ·cases hst
  have hr0:rho' 0=.pointer (some ⟨b0,0,none⟩):=by rw[hs3.pin 0 (by omega) hlive,hG'.2,<- hrho0];exact (hS.pin 0 (by omega) rfl).symm
  have hva:RS C' st' w3 rho' v0 (.reg 0 0):=by rw[hv0];exact .reg 0 0 b0 hlive hr0
  obtain⟨w4,hrun,hs4,_⟩:=Iy hs3 (vx:=.int .i64 c) hva (.p _ _ (.v _)) hst trivial;refine⟨by simp,.inr ⟨by simp[Fence.wide],_,_,P0,#[v0],rfl,by simp[go_sem],fun _ _=>trivial,?_⟩⟩;refine (HZ v0 c [] w3 w4 hrun ⟨_,hv0⟩).mono ?_;rintro e u' w5 ⟨rfl,rfl,rfl⟩
  have:=hend hG' hs4 hob
  rw[ht]at this;exact this
theorem PK {a:Sl Law}{b y:Sl A2}(hF:FunO (EH Tryz.prog) F7 [.p (vSl 18 B3 a),.p (vSl 2 A0 b)] [] (.p (vSl 2 A0 y)) [] []) :FunO (EH Tryz.prog) G6 Ve (PI 0 a b J5) (.tup []) (PI 0 a b (vSl 2 A0 y)) [true,true,true,true]:=
 Jx (WY (good Tryz.prog) hF) (fun st h=>h) (fun x st h=>h.elim)
theorem MB {a:Sl Law}{b:Sl A2}{c:Int}(hF:(EH Tryz.prog).F F7 [.p (vSl 18 B3 a),.p (vSl 2 A0 b)] [] fun res o k=>res=.panic (.iface 210 (pI .i64 c))/\o=[]/\k=[]) :FunO (EH Tryz.prog) G6 Ve (PI 0 a b J5) (.tup []) (PI c a b J5) [true,true,true,true]:=
 Jx (Tx (good Tryz.prog) hF) (fun st h=>h.elim) (fun x st h=>⟨c,_,h.1,h.2.1,h.2.2⟩)
end Go.AM
namespace Go.AM
open IntKind (wrap)
open Go.Proofs
set_option maxRecDepth 10000
set_option maxHeartbeats 2000000
variable {S:X8}(hS:F6 S Tryz.prog) (hL:Oq S)
include hS hL
def I0 (N:Nat)(p_s:A2):Option Bool:=
 some (((G0 .and .u32 p_s.Plus p_s.Minus)==0)&&(decide ((G0 .or .u32 p_s.Plus p_s.Minus)<=16777215)))
theorem N5 {N:Nat}{p_s:A2}{y:Bool}(h:I0 N p_s=some y) :FunO S Gn [.p (.agg (A0 p_s))] [] (pB y) ([]) []:=by unfold I0 at h;refine A4 hS Mo ?_;refine kB hS (A7 hS) trivial trivial 7 (.n (.a ((G0 .and .u32 p_s.Plus p_s.Minus)==0)) (.a (decide ((G0 .or .u32 p_s.Plus p_s.Minus)<=16777215)))) ?_;cases h;exact kR hS
def Ac (N:Nat)(p_s:A2)(p_cond:A2):Option Bool:=
 (I0 N p_s).bind fun y1=>
 lt (fun (z1:Bool)=>
  some z1
  ) fun k1=>
  if y1 then
   (I0 N p_cond).bind fun y3=>
   if y3 then
    if ((G0 .andNot .u32 p_cond.Plus p_s.Plus)==0) then
     k1 ((G0 .andNot .u32 p_cond.Minus p_s.Minus)==0)
    else
     k1 false
   else
    k1 false
  else
   k1 false
theorem GZ {N:Nat}{p_s:A2}{p_cond:A2}{y:Bool}(h:Ac N p_s p_cond=some y) :FunO S CF [.p (.agg (A0 p_s)),.p (.agg (A0 p_cond))] [] (pB y) ([]) []:=by
 unfold Ac at h;refine A4 hS GY ?_;refine kC hS h (N5 hS hL) (fun y1 h=>?_);refine JT hS trivial (A7 hS) h 0 (fun z1=>⟨[(4,pB z1)],[]⟩) (fun M1 k1 hb1 h=>?_) (fun z1 h=>?_)
 ·refine kG hS h (fun h=>?_) (fun h=>?_)
  ·refine kC hS h (N5 hS hL) (fun y3 h=>?_);refine kG hS h (fun h=>?_) (fun h=>?_)
   ·refine kG hS h (fun h=>?_) (fun h=>?_)
    ·exact hb1 _ [] _ ((G0 .andNot .u32 p_cond.Minus p_s.Minus)==0) trivial h
    ·exact hb1 _ [] _ false trivial h
   ·exact hb1 _ [] _ false trivial h
  ·exact hb1 _ [] _ false trivial h
 ·cases h;exact kR hS
def Dd (N:Nat)(p_s:A2):Option Int:=
 some (G0 .or .u32 p_s.Plus p_s.Minus)
theorem Jy {N:Nat}{p_s:A2}{y:Int}(h:Dd N p_s=some y) :FunO S Js [.p (.agg (A0 p_s))] [] (pU y) ([]) []:=by unfold Dd at h;refine A4 hS PF ?_;cases h;exact kR hS
def De (N:Nat)(p_s:A2)(p_from:A2)(p_set:Int):Option A2:=
 some (⟨G0 .or .u32 (G0 .andNot .u32 p_s.Plus p_set) (G0 .and .u32 p_from.Plus p_set),G0 .or .u32 (G0 .andNot .u32 p_s.Minus p_set) (G0 .and .u32 p_from.Minus p_set)⟩:A2)
theorem Jz {N:Nat}{p_s:A2}{p_from:A2}{p_set:Int}{y:A2}(h:De N p_s p_from p_set=some y) :FunO S Jt [.p (.agg (A0 p_s)),.p (.agg (A0 p_from)),pU p_set] [] (.p (.agg (A0 y))) ([]) []:=by unfold De at h;refine A4 hS PG ?_;cases h;exact kR hS
def Cc (N:Nat)(p_s:A2)(p_clear:Int)(p_set:A2):Option (A2×Int):=
 (I0 N p_s).bind fun y1=>
 lt (fun (z1:Bool)=>
  if z1 then
   some ((⟨0,0⟩:A2),14)
  else
   lt (fun (z2:Bool)=>
    if z2 then
     some ((⟨0,0⟩:A2),2)
    else
     (Dd N p_set).bind fun y6=>
     (De N p_s p_set (G0 .or .u32 p_clear y6)).bind fun y7=>
     some (y7,0)
    ) fun k2=>
    if (decide (16777215<p_clear)) then
     k2 true
    else
     (Dd N p_set).bind fun y5=>
     k2 ((G0 .and .u32 p_clear y5) != 0)
  ) fun k1=>
  if (!y1) then
   k1 true
  else
   (I0 N p_set).bind fun y3=>
   k1 (!y3)
theorem Kw {N:Nat}{p_s:A2}{p_clear:Int}{p_set:A2}{y:A2×Int}(h:Cc N p_s p_clear p_set=some y) :FunO S Fb [.p (.agg (A0 p_s)),pU p_clear,.p (.agg (A0 p_set))] [] (.tup [.p (.agg (A0 y.1)),pN y.2]) ([]) []:=by
 unfold Cc at h;refine A4 hS Kq ?_;refine J6 hS trivial 5 4000 [pI .u32 p_s.Plus,pI .u32 p_s.Minus] ?_;refine J6 hS trivial 6 6000 [pI .u32 p_set.Plus,pI .u32 p_set.Minus] ?_;obtain⟨y1,e1,h⟩:=B5 h;refine B6 hS [] (by decide:(2:Nat)<=2) (N5 hS hL e1) ?_;refine JT hS trivial (A7 hS) h 0 (fun z1=>⟨[(15,pB z1),(6,.reg 7000 0),(5,.p (.ptr [pI .u32 p_set.Plus,pI .u32 p_set.Minus])),(3,.p (.ptr [pI .u32 p_s.Plus,pI .u32 p_s.Minus])),(1,pU p_clear)],[(7000,.cells [pU 0,pU 0])]⟩) (fun M1 k1 hb1 h=>?_) (fun z1 h=>?_)
 ·refine kG hS h (fun h=>?_) (fun h=>?_)
  ·exact hb1 _ [(7000,7000)] _ true trivial h
  ·obtain⟨y3,e3,h⟩:=B5 h;refine B6 hS [] (by decide:(2:Nat)<=2) (N5 hS hL e3) ?_;exact hb1 _ [(7000,7000)] _ (!y3) trivial h
 ·refine kI hS h (fun h=>?_) (fun h=>?_)
  ·cases h;exact kR hS
  ·refine JT hS trivial (A7 hS) h 0 (fun z2=>⟨[(25,pB z2),(6,.reg 7000 0),(5,.p (.ptr [pI .u32 p_set.Plus,pI .u32 p_set.Minus])),(3,.p (.ptr [pI .u32 p_s.Plus,pI .u32 p_s.Minus])),(1,pU p_clear)],[(7000,.cells [pU 0,pU 0])]⟩) (fun M2 k2 hb2 h=>?_) (fun z2 h=>?_)
   ·refine kG hS h (fun h=>?_) (fun h=>?_)
    ·exact hb2 _ [(7000,7000)] _ true trivial h
    ·obtain⟨y5,e5,h⟩:=B5 h;refine B6 hS [] (by decide:(2:Nat)<=2) (Jy hS hL e5) ?_;exact hb2 _ [(7000,7000)] _ ((G0 .and .u32 p_clear y5) != 0) trivial h
   ·refine kI hS h (fun h=>?_) (fun h=>?_)
    ·cases h;exact kR hS
    ·refine N0 hS trivial [0,1,3,4,6] ?_;obtain⟨y6,e6,h⟩:=B5 h;refine At (And.intro (And.intro (by decide:(2:Nat)<=2) (by decide:(2:Nat)<=2)) (by decide:(2:Nat)<=2)) (Jy hS hL e6) ?_;obtain⟨y7,e7,h⟩:=B5 h;refine At trivial (Jz hS hL e7) ?_;refine P3 trivial ?_;cases h;exact kR hS
def Em (N:Nat)(p_s:A2)(p_from:A2)(p_mask:Int):Option (A2×Int):=
 (I0 N p_s).bind fun y1=>
 lt (fun (z1:Bool)=>
  if z1 then
   some ((⟨0,0⟩:A2),14)
  else
   if (decide (16777215<p_mask)) then
    some ((⟨0,0⟩:A2),2)
   else
    (De N p_s p_from p_mask).bind fun y4=>
    some (y4,0)
  ) fun k1=>
  if (!y1) then
   k1 true
  else
   (I0 N p_from).bind fun y3=>
   k1 (!y3)
theorem Ou {N:Nat}{p_s:A2}{p_from:A2}{p_mask:Int}{y:A2×Int}(h:Em N p_s p_from p_mask=some y) :FunO S HK [.p (.agg (A0 p_s)),.p (.agg (A0 p_from)),pU p_mask] [] (.tup [.p (.agg (A0 y.1)),pN y.2]) ([]) []:=by
 unfold Em at h;refine A4 hS Om ?_;refine kC hS h (N5 hS hL) (fun y1 h=>?_);refine JT hS trivial (A7 hS) h 0 (fun z1=>⟨[(15,pB z1),(6,.reg 7000 0),(4,.reg 5000 0),(3,.reg 4000 0),(2,pU p_mask)],[(7000,.cells [pU 0,pU 0]),(5000,.cells [pU p_from.Plus,pU p_from.Minus]),(4000,.cells [pU p_s.Plus,pU p_s.Minus])]⟩) (fun M1 k1 hb1 h=>?_) (fun z1 h=>?_)
 ·refine kG hS h (fun h=>?_) (fun h=>?_)
  ·exact hb1 _ [(4000,4000),(5000,5000),(7000,7000)] _ true trivial h
  ·refine kC hS h (N5 hS hL) (fun y3 h=>?_);exact hb1 _ [(4000,4000),(5000,5000),(7000,7000)] _ (!y3) trivial h
 ·refine kI hS h (fun h=>?_) (fun h=>?_)
  ·cases h;exact kR hS
  ·refine kI hS h (fun h=>?_) (fun h=>?_)
   ·cases h;exact kR hS
   ·refine kC hS h (Jz hS hL) (fun y4 h=>?_);cases h;exact kR hS
def JA (N:Nat)(p_a:Sl A2)(p_b:Sl A2):Option Bool:=
 if ((p_a.n:Int) != (p_b.n:Int)) then
  some false
 else
  CA N (fun self1 (x1:Int)=>
   if (decide (x1<(p_a.n:Int))) then
    if (((0:Int)<=x1/\x1<(p_a.n:Int))/\((0:Int)<=x1/\x1<(p_b.n:Int)))then
     if ((((p_a.g x1.toNat).Plus==(p_b.g x1.toNat).Plus)&&((p_a.g x1.toNat).Minus==(p_b.g x1.toNat).Minus)) != true) then
      some false
     else
      self1 (wrap .i64 (x1+1))
    else none
   else
    some true
   ) 0
theorem Xa {N:Nat}{p_a:Sl A2}{p_b:Sl A2}{y:Bool}(h:JA N p_a p_b=some y) :FunO S Ji [.p (vSl 2 A0 p_a),.p (vSl 2 A0 p_b)] [] (pB y) ([]) []:=by
 unfold JA at h;refine A4 hS Px ?_;refine kI hS h (fun h=>?_) (fun h=>?_)
 ·cases h;exact kR hS
 ·refine Z6 hS trivial h (fun x1=>⟨[(5,pN x1),(1,.p (vSl 2 A0 p_b)),(0,.p (vSl 2 A0 p_a))],[]⟩) (ids:=[]) (fun _ _ _ _ _ self1 x1 hb1 h=>?_);refine kI hS h (fun h=>?_) (fun h=>?_)
  ·refine N0 hS trivial [2,3,6,7] ?_;obtain⟨c9,h⟩:=G5 h;refine P3 (And.intro (And.intro (And.intro (And.intro c9.1 (by decide:(2:Nat)<=2)) c9.2) (by decide:(2:Nat)<=2)) (by decide +kernel:Xk Tryz.prog C9=true)) ?_;refine kI hS h (fun h=>?_) (fun h=>?_)
   ·cases h;exact kR hS
   ·exact hb1 _ [] _ (wrap .i64 (x1+1)) trivial h
  ·cases h;exact kR hS
def En (N:Nat)(p_s:A2):Option Bool:=
 some (((G0 .and .u32 p_s.Plus p_s.Minus)==0)&&((shI .shr .u32 (G0 .or .u32 p_s.Plus p_s.Minus) 24)==0))
theorem Ov {N:Nat}{p_s:A2}{y:Bool}(h:En N p_s=some y) :FunO S HF [.p (.agg (A0 p_s))] [] (pB y) ([]) []:=by
 unfold En at h;refine A4 hS Oc ?_;obtain⟨t1,ht1⟩:∃x:Bool,x=(((G0 .and .u32 p_s.Plus p_s.Minus)==0)&&((shI .shr .u32 (G0 .or .u32 p_s.Plus p_s.Minus) 24)==0)):=⟨_,rfl⟩;refine Th hS trivial (A7 hS) 0 ⟨[(2,pB t1)],[]⟩ (fun M1 hb1=>?_) ?_
 ·refine LY hS trivial (b:=(G0 .and .u32 p_s.Plus p_s.Minus)==0) (fun c2=>?_) (fun c2=>?_)
  ·exact hb1 _ [] _ (by decide:(0:Int)<=24) (hle:=klR [(0,.eq (.bb ((shI .shr .u32 (G0 .or .u32 p_s.Plus p_s.Minus) 24)==0)) (.bb t1))] (al1 (by simp only[ht1,c2,Leaf.ok,pm,if_true,if_false]) al0))
  ·exact hb1 _ [] _ trivial (hle:=klR [(0,.eq (.bb false) (.bb t1))] (al1 (by simp only[ht1,c2,Leaf.ok,pm,if_true,if_false]) al0))
 ·subst ht1;cases h;exact kR hS
def Aw (N:Nat)(p_w:Sl A2):Option Int:=
 if (decide (32<(p_w.n:Int))) then
  some 11
 else
  CA N (fun self1 (x1:Int)=>
   if (decide (x1<(p_w.n:Int))) then
    if ((0:Int)<=x1/\x1<(p_w.n:Int))then
     (En N (p_w.g x1.toNat)).bind fun y3=>
     if (!y3) then
      some 14
     else
      self1 (wrap .i64 (x1+1))
    else none
   else
    some 0
   ) 0
theorem Eo {N:Nat}{p_w:Sl A2}{y:Int}(h:Aw N p_w=some y) :FunO S HD [.p (vSl 2 A0 p_w)] [] (pN y) ([]) []:=by
 unfold Aw at h;refine A4 hS Oa ?_;refine kI hS h (fun h=>?_) (fun h=>?_)
 ·cases h;exact kR hS
 ·refine Z6 hS trivial h (fun x1=>⟨[(10,pN x1),(9,pN (p_w.n:Int)),(8,.p (vSl 2 A0 p_w))],[]⟩) (ids:=[]) (fun _ _ _ _ _ self1 x1 hb1 h=>?_);refine kI hS h (fun h=>?_) (fun h=>?_)
  ·obtain⟨c9,h⟩:=G5 h;obtain⟨y3,e3,h⟩:=B5 h;refine B6 hS [] (And.intro c9 (by decide:(2:Nat)<=2)) (Ov hS hL e3) ?_;refine kI hS h (fun h=>?_) (fun h=>?_)
   ·cases h;exact kR hS
   ·exact hb1 _ [] _ (wrap .i64 (x1+1)) trivial h
  ·cases h;exact kR hS
def Y1 (N:Nat)(p_s:A2):Option Bool:=
 some (((G0 .and .u32 p_s.Plus p_s.Minus)==0)&&((shI .shr .u32 (G0 .or .u32 p_s.Plus p_s.Minus) 24)==0))
theorem BQ {N:Nat}{p_s:A2}{y:Bool}(h:Y1 N p_s=some y) :FunO S HI [.p (.agg (A0 p_s))] [] (pB y) ([]) []:=by
 unfold Y1 at h;refine A4 hS Og ?_;obtain⟨t1,ht1⟩:∃x:Bool,x=(((G0 .and .u32 p_s.Plus p_s.Minus)==0)&&((shI .shr .u32 (G0 .or .u32 p_s.Plus p_s.Minus) 24)==0)):=⟨_,rfl⟩;refine Th hS trivial (A7 hS) 0 ⟨[(2,pB t1)],[]⟩ (fun M1 hb1=>?_) ?_
 ·refine LY hS trivial (b:=(G0 .and .u32 p_s.Plus p_s.Minus)==0) (fun c2=>?_) (fun c2=>?_)
  ·exact hb1 _ [] _ (by decide:(0:Int)<=24) (hle:=klR [(0,.eq (.bb ((shI .shr .u32 (G0 .or .u32 p_s.Plus p_s.Minus) 24)==0)) (.bb t1))] (al1 (by simp only[ht1,c2,Leaf.ok,pm,if_true,if_false]) al0))
  ·exact hb1 _ [] _ trivial (hle:=klR [(0,.eq (.bb false) (.bb t1))] (al1 (by simp only[ht1,c2,Leaf.ok,pm,if_true,if_false]) al0))
 ·subst ht1;cases h;exact kR hS
def S0 (N:Nat)(p_n:Int):Option (Nat->Int):=
 Dv N (fun self1 (x1:Nat->Int) (x2:Int)=>
  if (decide (x2<(wrap .i64 (p_n+1)))) then
   if (((0:Int)<=x2/\((0:Int)<=x2/\x2<33))/\(0+x2.toNat*1)<33)then
    self1 (Il x1 (0+x2.toNat*1) (shI .shl .u64 1 x2)) (wrap .i64 (x2+1))
   else none
  else
   some x1
  ) (fun _=>0) 0
theorem Bu {N:Nat}{p_n:Int}{y:Nat->Int}(h:S0 N p_n=some y) :FunO S Ej [pN p_n] [] (.p (.agg (cA 33 (pI .u64) y))) ([]) []:=by
 unfold S0 at h;refine A4 hS Jw ?_;refine N1 hS trivial h (fun x1 x2=>⟨[(7,pN x2),(6,pN (wrap .i64 (p_n+1))),(3,.reg 4000 0),(2,.reg 3000 0)],[(4000,.arr 33 (fun i=>pI .u64 (x1 i))),(3000,.arr 33 (fun i=>pI .u64 ((fun _=>0) i)))]⟩) (ids:=[(3000,3000),(4000,4000)]) (fun _ _ _ _ _ self1 x1 x2 hb1 h=>?_) (hle:=klR [(2,.fn 33 33 (fun i=>[(fun i=>(List.replicate 33 (pI .u64 0)).getD i default) i]) (fun i=>[pI .u64 ((fun _=>0) i)])),(3,.fn 33 33 (fun i=>[(fun i=>(List.replicate 33 (pI .u64 0)).getD i default) i]) (fun i=>[pI .u64 ((fun _=>0) i)]))] (al1 ⟨rfl,Z0 (z:=pI .u64 0) rfl⟩ (al1 ⟨rfl,Z0 (z:=pI .u64 0) rfl⟩ al0)));refine kI hS h (fun h=>?_) (fun h=>?_)
 ·obtain⟨c4,h⟩:=G5 h;exact hb1 _ [(3000,3000),(4000,4000)] _ (Il x1 (0+x2.toNat*1) (shI .shl .u64 1 x2)) (wrap .i64 (x2+1)) c4 h (hle:=klR [(2,.fn 33 33 (fun i=>[(fun i=>if i=(0+x2.toNat*1)then (pI .u64 (shI .shl .u64 1 x2))else (fun i=>pI .u64 (x1 i)) i) i]) (fun i=>[pI .u64 (Il x1 (0+x2.toNat*1) (shI .shl .u64 1 x2) i)]))] (al1 ⟨rfl,VG (c:=pI .u64) (v:=x1) (x:=shI .shl .u64 1 x2) (fun _ _=>rfl) rfl⟩ al0))
 ·obtain rfl:=B4 h;exact A6 hS (And.intro rfl (D2 _ _):(0:Nat)=0/\(Y4 33 (fun i=>pI .u64 (x1 i))).length=33) ⟨[(2,.reg 3000 0)],[(3000,.arr 33 (fun i=>pI .u64 (x1 i)))]⟩ [] (ids:=[(3000,3000)]) ⟨rfl,rfl,rfl⟩ (hle:=klR [(0,.fn 33 33 (fun i=>[(fun i=>(cA 33 (pI .u64) x1).getD i default) i]) (fun i=>[pI .u64 (x1 i)]))] (al1 ⟨rfl,C5 33 (fun i=>pI .u64 (x1 i))⟩ al0))
def Q7 (N:Nat)(p_x:Nat->Int)(p_y:Nat->Int):Option (Nat->Int):=
 Dv N (fun self1 (x1:Nat->Int) (x2:Int)=>
  if (decide (x2<33)) then
   if (((0:Int)<=x2/\x2<33)/\(0+x2.toNat*1)<33)then
    if (((((0:Int)<=x2/\x2<33)/\(0+x2.toNat*1)<33)/\((0:Int)<=x2/\x2<33))/\(0+x2.toNat*1)<33)then
     self1 (Il x1 (0+x2.toNat*1) (G0 .or .u64 (x1 (0+x2.toNat*1)) (p_y (0+x2.toNat*1)))) (wrap .i64 (x2+1))
    else none
   else none
  else
   some x1
  ) p_x 0
theorem BR {N:Nat}{p_x:Nat->Int}{p_y:Nat->Int}{y:Nat->Int}(h:Q7 N p_x p_y=some y) :FunO S BO [.reg 0 0,.reg 1 0] [.arr 33 (fun i=>pI .u64 (p_x i)),.arr 33 (fun i=>pI .u64 (p_y i))] (.tup []) ([.arr 33 (fun i=>pI .u64 (y i)),.arr 33 (fun i=>pI .u64 (p_y i))]) [true,true]:=by
 unfold Q7 at h;refine A4 hS Gu ?_;refine N1 hS trivial h (fun x1 x2=>⟨[(7,pN x2),(6,.reg 1 0),(0,.reg 0 0)],[(1,.arr 33 (fun i=>pI .u64 (p_y i))),(0,.arr 33 (fun i=>pI .u64 (x1 i)))]⟩) (ids:=[(0,0),(1,1)]) (fun _ _ _ _ _ self1 x1 x2 hb1 h=>?_);refine kI hS h (fun h=>?_) (fun h=>?_)
 ·refine Fs hS trivial ?_;obtain⟨c8,h⟩:=G5 h;refine P3 c8 ?_;refine Fs hS trivial ?_;obtain⟨c9,h⟩:=G5 h;refine P3 c9 ?_;exact hb1 _ [(0,0),(1,1)] _ (Il x1 (0+x2.toNat*1) (G0 .or .u64 (x1 (0+x2.toNat*1)) (p_y (0+x2.toNat*1)))) (wrap .i64 (x2+1)) trivial h (hle:=klR [(2,.fn 33 33 (fun i=>[(fun i=>if i=(0+x2.toNat*1)then (pI .u64 (G0 .or .u64 (x1 (0+x2.toNat*1)) (p_y (0+x2.toNat*1))))else (fun i=>pI .u64 (x1 i)) i) i]) (fun i=>[pI .u64 (Il x1 (0+x2.toNat*1) (G0 .or .u64 (x1 (0+x2.toNat*1)) (p_y (0+x2.toNat*1))) i)]))] (al1 ⟨rfl,VG (c:=pI .u64) (v:=x1) (x:=G0 .or .u64 (x1 (0+x2.toNat*1)) (p_y (0+x2.toNat*1))) (fun _ _=>rfl) rfl⟩ al0))
 ·obtain rfl:=B4 h;exact A6 hS trivial ⟨[],[(1,.arr 33 (fun i=>pI .u64 (p_y i))),(0,.arr 33 (fun i=>pI .u64 (x1 i)))]⟩ [0,1] (ids:=[(0,0),(1,1)]) ⟨rfl,rfl,rfl⟩
def Ba (N:Nat)(p_w:Sl A2)(p_at:Int):Option Int:=
 if ((decide (p_at<0))||(decide ((p_w.n:Int)<p_at))) then
  some 3
 else
  some 0
theorem Gw {N:Nat}{p_w:Sl A2}{p_at:Int}{y:Int}(h:Ba N p_w p_at=some y) :FunO S Gt [.p (vSl 2 A0 p_w),pN p_at] [] (pN y) ([]) []:=by
 unfold Ba at h;refine A4 hS Mt ?_;refine kB hS (A7 hS) trivial trivial 5 (.o (.a (decide (p_at<0))) (.a (decide ((p_w.n:Int)<p_at)))) ?_;refine kI hS h (fun h=>?_) (fun h=>?_)
 ·cases h;exact kR hS
 ·cases h;exact kR hS
def Cd (N:Nat)(p_p:Pat):Option Int:=
 if (if (p_p.Kind==0) then p_p.Kind==0 else (if (p_p.Kind==2) then p_p.Kind==2 else p_p.Kind==6)) then
  lt (fun (z1:Bool)=>
   if z1 then
    some 2
   else
    (Y1 N p_p.Is).bind fun y1=>
    if (!y1) then
     some 14
    else
     some 0
   ) fun k1=>
   if (((p_p.Is.Plus==0)&&(p_p.Is.Minus==0)) != true) then
    k1 true
   else
    if p_p.Not then
     k1 true
    else
     if (p_p.Min != 0) then
      k1 true
     else
      if (p_p.Max != 0) then
       k1 true
      else
       k1 (decide (0<(p_p.L.n:Int)))
 else
  if (p_p.Kind==1) then
   lt (fun (z2:Bool)=>
    if z2 then
     some 2
    else
     (Y1 N p_p.Is).bind fun y2=>
     if (!y2) then
      some 14
     else
      some 0
    ) fun k2=>
    if (((0==0)&&(0==0)) != true) then
     k2 true
    else
     if (p_p.Min != 0) then
      k2 true
     else
      if (p_p.Max != 0) then
       k2 true
      else
       k2 (decide (0<(p_p.L.n:Int)))
  else
   lt (fun (z3:Int×Int)=>
    if (((((((p_p.Is.Plus==0)&&(p_p.Is.Minus==0)) != true)||p_p.Not)||(z3.1 != 0))||(z3.2 != 0))||(decide (0<0))) then
     some 2
    else
     (Y1 N p_p.Is).bind fun y3=>
     if (!y3) then
      some 14
     else
      some 0
    ) fun k3=>
    if (if (p_p.Kind==3) then p_p.Kind==3 else p_p.Kind==4) then
     k3 (p_p.Min,p_p.Max)
    else
     if (p_p.Kind==5) then
      if (((((p_p.L.n:Int) != 1)||(decide (p_p.Min<0)))||(decide (32<p_p.Min)))||((p_p.Max != (-1))&&((decide (p_p.Max<p_p.Min))||(decide (32<p_p.Max))))) then
       some 2
      else
       k3 (0,0)
     else
      some 2
theorem Kx {N:Nat}{p_p:Pat}{y:Int}(h:Cd N p_p=some y) :FunO S EZ [.p (.agg (C8 p_p))] [] (pN y) ([]) []:=by
 unfold Cd at h;refine A4 hS Kn ?_;obtain⟨t1,ht1⟩:∃x:Bool,x=(if (p_p.Kind==0) then p_p.Kind==0 else (if (p_p.Kind==2) then p_p.Kind==2 else p_p.Kind==6)):=⟨_,rfl⟩;refine Th hS trivial (A7 hS) 0 ⟨[(8,pB t1),(7,pN p_p.Kind),(3,.reg 4000 0),(1,.reg 2000 0)],[(4000,.cells [pN 0,pU p_p.Is.Plus,pU p_p.Is.Minus,pB p_p.Not,pN p_p.Min,pN p_p.Max,.p (.sl false 7 p_p.L.n (DX p_p))]),(2000,.cells ((C8 p_p).map .p))]⟩ (fun M1 hb1=>?_) ?_
 ·refine D5 hS trivial (b:=p_p.Kind==0) (fun c3=>?_) (fun c3=>?_)
  ·exact hb1 _ [(2000,2000),(4000,4000)] _ trivial (hle:=klR [(0,.eq (.bb (p_p.Kind==0)) (.bb t1))] (al1 (by simp only[ht1,c3,Leaf.ok,pm,if_true,if_false]) al0))
  ·refine D5 hS trivial (b:=p_p.Kind==2) (fun c4=>?_) (fun c4=>?_)
   ·exact hb1 _ [(2000,2000),(4000,4000)] _ trivial (hle:=klR [(0,.eq (.bb (p_p.Kind==2)) (.bb t1))] (al1 (by simp only[ht1,c3,c4,Leaf.ok,pm,if_true,if_false]) al0))
   ·exact hb1 _ [(2000,2000),(4000,4000)] _ trivial (hle:=klR [(0,.eq (.bb (p_p.Kind==6)) (.bb t1))] (al1 (by simp only[ht1,c3,c4,Leaf.ok,pm,if_true,if_false]) al0))
 ·subst ht1;refine kI hS h (fun h=>?_) (fun h=>?_)
  ·refine JT hS (by decide +kernel:Xk Tryz.prog C9=true) (A7 hS) h 0 (fun z1=>⟨[(57,pB z1),(1,.reg 2000 0)],[(2000,.cells ((C8 p_p).map .p))]⟩) (fun M3 k1 hb3 h=>?_) (fun z1 h=>?_)
   ·refine kG hS h (fun h=>?_) (fun h=>?_)
    ·exact hb3 _ [(2000,2000)] _ true trivial h
    ·refine kG hS h (fun h=>?_) (fun h=>?_)
     ·exact hb3 _ [(2000,2000)] _ true trivial h
     ·refine kG hS h (fun h=>?_) (fun h=>?_)
      ·exact hb3 _ [(2000,2000)] _ true trivial h
      ·refine kG hS h (fun h=>?_) (fun h=>?_)
       ·exact hb3 _ [(2000,2000)] _ true trivial h
       ·refine U0 hS trivial 79 ⟨[(78,.p (vSl 7 C8 p_p.L)),(76,.p (.v (.bool false))),(1,.reg 2000 0)],[(2000,.cells ((C8 p_p).map .p))]⟩ (ids:=[(2000,2000)]) ?_ (hle:=klR [(0,.fn p_p.L.n p_p.L.n (DX p_p) (fun i=>C8 (p_p.L.g i)))] (al1 ⟨rfl,CX p_p⟩ al0));exact hb3 _ [(2000,2000)] _ (decide (0<(p_p.L.n:Int))) trivial h
   ·refine kI hS h (fun h=>?_) (fun h=>?_)
    ·cases h;exact kR hS
    ·refine kC hS h (BQ hS hL) (fun y1 h=>?_);refine kI hS h (fun h=>?_) (fun h=>?_)
     ·cases h;exact kR hS
     ·cases h;exact kR hS
  ·refine kI hS h (fun h=>?_) (fun h=>?_)
   ·refine JT hS (by decide +kernel:Xk Tryz.prog C9=true) (A7 hS) h 0 (fun z2=>⟨[(57,pB z2),(1,.reg 2000 0)],[(2000,.cells ((C8 p_p).map .p))]⟩) (fun M5 k2 hb5 h=>?_) (fun z2 h=>?_)
    ·refine kG hS h (fun h=>?_) (fun h=>?_)
     ·exact hb5 _ [(2000,2000)] _ true trivial h
     ·refine LY hS trivial (b:=false) (fun c54=>?_) (fun c54=>?_)
      ·exact Bool.noConfusion ((rfl:false=false).symm.trans c54)
      ·refine kG hS h (fun h=>?_) (fun h=>?_)
       ·exact hb5 _ [(2000,2000)] _ true trivial h
       ·refine kG hS h (fun h=>?_) (fun h=>?_)
        ·exact hb5 _ [(2000,2000)] _ true trivial h
        ·refine U0 hS trivial 79 ⟨[(78,.p (vSl 7 C8 p_p.L)),(76,.p (.v (.bool false))),(1,.reg 2000 0)],[(2000,.cells ((C8 p_p).map .p))]⟩ (ids:=[(2000,2000)]) ?_ (hle:=klR [(0,.fn p_p.L.n p_p.L.n (DX p_p) (fun i=>C8 (p_p.L.g i)))] (al1 ⟨rfl,CX p_p⟩ al0));exact hb5 _ [(2000,2000)] _ (decide (0<(p_p.L.n:Int))) trivial h
    ·refine kI hS h (fun h=>?_) (fun h=>?_)
     ·cases h;exact kR hS
     ·refine kC hS h (BQ hS hL) (fun y2 h=>?_);refine kI hS h (fun h=>?_) (fun h=>?_)
      ·cases h;exact kR hS
      ·cases h;exact kR hS
   ·obtain⟨t4,ht4⟩:∃x:Bool,x=(if (p_p.Kind==3) then p_p.Kind==3 else p_p.Kind==4):=⟨_,rfl⟩;refine Th hS trivial (A7 hS) 0 ⟨[(17,pB t4),(7,pN p_p.Kind),(3,.reg 4000 0),(1,.reg 2000 0)],[(4000,.cells [pN 0,pU p_p.Is.Plus,pU p_p.Is.Minus,pB p_p.Not,pN p_p.Min,pN p_p.Max,.p (.sl false 7 p_p.L.n (DX p_p))]),(2000,.cells ((C8 p_p).map .p))]⟩ (fun M6 hb6=>?_) ?_
    ·refine D5 hS trivial (b:=p_p.Kind==3) (fun c60=>?_) (fun c60=>?_)
     ·exact hb6 _ [(2000,2000),(4000,4000)] _ trivial (hle:=klR [(0,.eq (.bb (p_p.Kind==3)) (.bb t4))] (al1 (by simp only[ht4,c60,Leaf.ok,pm,if_true,if_false]) al0))
     ·exact hb6 _ [(2000,2000),(4000,4000)] _ trivial (hle:=klR [(0,.eq (.bb (p_p.Kind==4)) (.bb t4))] (al1 (by simp only[ht4,c60,Leaf.ok,pm,if_true,if_false]) al0))
    ·subst ht4;refine JT hS trivial (A7 hS) h 0 (fun z3=>⟨[(3,.reg 4000 0),(1,.reg 2000 0)],[(4000,.cells [pN 0,pU p_p.Is.Plus,pU p_p.Is.Minus,pB p_p.Not,pN z3.1,pN z3.2,.p J5]),(2000,.cells ((C8 p_p).map .p))]⟩) (fun M7 k3 hb7 h=>?_) (fun z3 h=>?_)
     ·refine kI hS h (fun h=>?_) (fun h=>?_)
      ·exact hb7 _ [(2000,2000),(4000,4000)] _ (p_p.Min,p_p.Max) trivial h
      ·refine kI hS h (fun h=>?_) (fun h=>?_)
       ·refine U0 hS trivial 25 ⟨[(24,.p (vSl 7 C8 p_p.L)),(3,.reg 4000 0),(1,.reg 2000 0)],[(4000,.cells [pN 0,pU p_p.Is.Plus,pU p_p.Is.Minus,pB p_p.Not,pN p_p.Min,pN p_p.Max,.p (.sl false 7 p_p.L.n (DX p_p))]),(2000,.cells ((C8 p_p).map .p))]⟩ (ids:=[(2000,2000),(4000,4000)]) ?_ (hle:=klR [(0,.fn p_p.L.n p_p.L.n (DX p_p) (fun i=>C8 (p_p.L.g i)))] (al1 ⟨rfl,CX p_p⟩ al0));refine kB hS (A7 hS) trivial trivial 26 (.o (.o (.o (.a ((p_p.L.n:Int) != 1)) (.a (decide (p_p.Min<0)))) (.a (decide (32<p_p.Min)))) (.n (.a (p_p.Max != (-1))) (.o (.a (decide (p_p.Max<p_p.Min))) (.a (decide (32<p_p.Max)))))) ?_;refine kI hS h (fun h=>?_) (fun h=>?_)
        ·cases h;exact kR hS
        ·exact hb7 _ [(2000,2000),(4000,4000)] _ (0,0) trivial h
       ·cases h;exact kR hS
     ·refine kB hS (A7 hS) (by decide +kernel:Xk Tryz.prog C9=true) trivial 19 (.o (.o (.o (.o (.a (((p_p.Is.Plus==0)&&(p_p.Is.Minus==0)) != true)) (.a p_p.Not)) (.a (z3.1 != 0))) (.a (z3.2 != 0))) (.a (decide (0<0)))) ?_;refine kI hS h (fun h=>?_) (fun h=>?_)
      ·cases h;exact kR hS
      ·refine kC hS h (BQ hS hL) (fun y3 h=>?_);refine kI hS h (fun h=>?_) (fun h=>?_)
       ·cases h;exact kR hS
       ·cases h;exact kR hS
end Go.AM
namespace Go.AM
open Go.Proofs
set_option maxRecDepth 10000
set_option maxHeartbeats 2000000
variable {S:X8}(hS:F6 S Tryz.prog) (hL:Oq S)
include hS hL
end Go.AM
namespace Go.AM
open IntKind (wrap)
open Go.Proofs
set_option maxRecDepth 10000
set_option maxHeartbeats 2000000
variable {S:X8}(hS:F6 S Tryz.prog) (hL:Oq S)
include hS hL
def Q1 (N:Nat)(q0:Int):Option (List (Int)):=
 CA N (fun self1 (x1:Int)=>
  if (x1 != 0) then
   (L0 N x1).bind fun y3=>
   if (0:Int)<=y3 then
    Gb y3 (
     self1 (G0 .andNot .u64 x1 (shI .shl .u64 1 y3))
     )
   else none
  else
   some []
  ) q0
theorem AJ {N:Nat}{q0:Int}{L:List (Int)}(h:Q1 N q0=some L) :CO S W4 [] [.reg 0 0] [.cells [.p (pI .u64 q0)]] (L.map (fun (x:Int)=>[pI .i64 x])):=by
 unfold Q1 at h;refine CT hS DC ?_;refine DV hS trivial h (fun x1 L1=>⟨[(1,.reg 0 0),(0,.yf 1)],[(1,.yld (L1.map (fun (x:Int)=>[pI .i64 x])) true),(0,.cells [.p (pI .u64 x1)])]⟩) (ids:=[(0,0),(1,1)]) (fun _ _ _ _ _ self1 x1 L1 hb1 h=>?_);refine kI hS h (fun h=>?_) (fun h=>?_)
 ·refine kC hS h (R9 hS hL) (fun y3 h=>?_);refine Fs hS trivial ?_;obtain⟨c10,h⟩:=G5 h;refine P3 c10 ?_;obtain⟨L4,rfl,hcL4⟩:=IV h;replace h:=hcL4;refine Bo hS trivial (ys:=(fun (x:Int)=>[pI .i64 x]) y3) (rest:=L4.map (fun (x:Int)=>[pI .i64 x])) ?_ ?_
  ·refine D5 hS trivial (b:=false) (fun c11=>?_) (fun c11=>?_)
   ·exact Bool.noConfusion ((rfl:false=false).symm.trans c11)
   ·exact hb1 _ [(0,0),(1,1)] _ (G0 .andNot .u64 x1 (shI .shl .u64 1 y3)) L4 trivial h
  ·refine D5 hS trivial (b:=true) (fun c12=>?_) (fun c12=>?_)
   ·exact A6 hS trivial (a:=.tup []) (objs:=[(.cells [.p (pI .u64 (G0 .andNot .u64 x1 (shI .shl .u64 1 y3)))]),.yld [] false]) ⟨[],[(1,.yld [] false),(0,.cells [.p (pI .u64 (G0 .andNot .u64 x1 (shI .shl .u64 1 y3)))])]⟩ [0,1] (ids:=[(0,0),(1,1)]) ⟨false,rfl,rfl,_,rfl⟩
   ·exact Bool.noConfusion ((rfl:true=true).symm.trans c12)
 ·obtain rfl:=B4 h;exact A6 hS trivial (a:=.tup []) (objs:=[(.cells [.p (pI .u64 x1)]),.yld [] true]) ⟨[],[(1,.yld [] true),(0,.cells [.p (pI .u64 x1)])]⟩ [0,1] (ids:=[(0,0),(1,1)]) ⟨true,rfl,rfl,_,rfl⟩
def V9 (N:Nat)(p_s:Int):Option (Int):=
 some p_s
theorem Ce {N:Nat}{p_s:Int}{y:Int}(h:V9 N p_s=some y) :FunO S Fc [.p (pI .u64 p_s)] [] (.clo W4 [] [.reg 0 0]) ([.cells [.p (pI .u64 y)]]) []:=by unfold V9 at h;refine A4 hS Ks ?_;obtain rfl:=B4 h;exact A6 hS trivial ⟨[(2,.clo W4 [] [.reg 2000 0])],[(2000,.cells [.p (pI .u64 p_s)])]⟩ [2000] (ids:=[(2000,2000)]) ⟨rfl,rfl,rfl⟩
def G9 (N:Nat)(p_x:Nat->Int)(p_y:Nat->Int):Option (Nat->Int):=
 Dv N (fun self3 (x3:Nat->Int) (x4:Int)=>
  if (decide (x4<33)) then
   if (((0:Int)<=x4/\x4<33)/\(0+x4.toNat*1)<33)then
    (V9 N (p_x (0+x4.toNat*1))).bind fun y3=>
    (Q1 N y3).bind fun L3=>
    V4 L3 (fun self4 (x7:Int) (z3:Nat->Int)=>
     if (((((((0:Int)<=x4/\x4<33)/\(0+x4.toNat*1)<33)/\((0:Int)<=x7/\x7<33))/\(0+x7.toNat*1)<33)/\((0:Int)<=x4/\x4<33))/\(0+x4.toNat*1)<33)then
      self4 (Il z3 (0+x4.toNat*1) (G0 .or .u64 (z3 (0+x4.toNat*1)) (p_y (0+x7.toNat*1))))
     else none
     ) (fun (z3:Nat->Int)=>
      self3 z3 (wrap .i64 (x4+1))
     ) x3
   else none
  else
   some x3
  ) (fun _=>0) 0
theorem O5 {N:Nat}{p_x:Nat->Int}{p_y:Nat->Int}{y:Nat->Int}(h:G9 N p_x p_y=some y) :FunO S U4 [.reg 0 0,.reg 1 0] [.arr 33 (fun i=>pI .u64 (p_x i)),.arr 33 (fun i=>pI .u64 (p_y i))] (.p (.agg (cA 33 (pI .u64) y))) ([.arr 33 (fun i=>pI .u64 (p_x i)),.arr 33 (fun i=>pI .u64 (p_y i))]) [true,true]:=by
 unfold G9 at h;refine A4 hS AW ?_;refine N1 hS trivial h (fun x3 x4=>⟨[(10,pN x4),(9,.reg 0 0),(5,.reg 6000 0),(4,.reg 5000 0),(3,.reg 4000 0)],[(6000,.arr 33 (fun i=>pI .u64 (x3 i))),(5000,.arr 33 (fun i=>pI .u64 ((fun _=>0) i))),(4000,.cells [.reg 1 0]),(1,.arr 33 (fun i=>pI .u64 (p_y i))),(0,.arr 33 (fun i=>pI .u64 (p_x i)))]⟩) (ids:=[(0,0),(1,1),(4000,4000),(5000,5000),(6000,6000)]) (fun _ _ _ _ _ self3 x3 x4 hb3 h=>?_) (hle:=klR [(1,.fn 33 33 (fun i=>[(fun i=>(List.replicate 33 (pI .u64 0)).getD i default) i]) (fun i=>[pI .u64 ((fun _=>0) i)])),(2,.fn 33 33 (fun i=>[(fun i=>(List.replicate 33 (pI .u64 0)).getD i default) i]) (fun i=>[pI .u64 ((fun _=>0) i)]))] (al1 ⟨rfl,Z0 (z:=pI .u64 0) rfl⟩ (al1 ⟨rfl,Z0 (z:=pI .u64 0) rfl⟩ al0)));refine kI hS h (fun h=>?_) (fun h=>?_)
 ·refine S9 hS trivial [(2,.l [0]),(3,.l [0]),(4,.a [7000]),(5,.a [7000])] ?_;obtain⟨c12,h⟩:=G5 h;refine P3 c12 ?_;refine J6 hS trivial 16 7000 [pI .i64 x4] ?_;refine kC hS h (Ce hS hL) (fun y3 h=>?_);obtain⟨L3,e6,h⟩:=B5 h;refine CU hS trivial [18000] [10,9,6,5,4,3] 905 (fun z3=>⟨[(10,pN x4),(9,.reg 0 0),(6,.p (.ptr [pI .i64 x4])),(5,.reg 6000 0),(4,.reg 5000 0),(3,.reg 4000 0)],[(6000,.arr 33 (fun i=>pI .u64 (z3 i))),(5000,.arr 33 (fun i=>pI .u64 ((fun _=>0) i))),(4000,.cells [.reg 1 0]),(1,.arr 33 (fun i=>pI .u64 (p_y i))),(0,.arr 33 (fun i=>pI .u64 (p_x i)))]⟩) (idl:=[(0,0),(1,1),(4000,4000),(5000,5000),(6000,6000)]) h (AJ hS hL e6) (fun _=>by kernel_rfl) (fun _=>by kernel_rfl) (fun _=>by kernel_rfl) (fun _=>by kernel_rfl) (fun x7 _ self4 z3 hb4 h=>?_) (fun z3 h=>?_)
  ·refine Gc hS trivial ?_;refine S9 hS trivial [(0,.n),(1,.l [6000]),(2,.l [6000]),(3,.l [4000]),(6,.l [1]),(7,.l [1]),(9,.l [6000]),(10,.a [6000])] ?_;obtain⟨c15,h⟩:=G5 h;refine P3 c15 ?_;exact hb4 _ [(0,0),(1,1),(905,905),(4000,4000),(5000,5000),(6000,6000)] _ (Il z3 (0+x4.toNat*1) (G0 .or .u64 (z3 (0+x4.toNat*1)) (p_y (0+x7.toNat*1)))) trivial h (hle:=klR [(0,.fn 33 33 (fun i=>[(fun i=>if i=(0+x4.toNat*1)then (pI .u64 (G0 .or .u64 (z3 (0+x4.toNat*1)) (p_y (0+x7.toNat*1))))else (fun i=>pI .u64 (z3 i)) i) i]) (fun i=>[pI .u64 (Il z3 (0+x4.toNat*1) (G0 .or .u64 (z3 (0+x4.toNat*1)) (p_y (0+x7.toNat*1))) i)]))] (al1 ⟨rfl,VG (c:=pI .u64) (v:=z3) (x:=G0 .or .u64 (z3 (0+x4.toNat*1)) (p_y (0+x7.toNat*1))) (fun _ _=>rfl) rfl⟩ al0))
  ·exact hb3 _ [(0,0),(1,1),(4000,4000),(5000,5000),(6000,6000)] _ z3 (wrap .i64 (x4+1)) trivial h
 ·obtain rfl:=B4 h;exact A6 hS (And.intro rfl (D2 _ _):(0:Nat)=0/\(Y4 33 (fun i=>pI .u64 (x3 i))).length=33) ⟨[(4,.reg 5000 0)],[(5000,.arr 33 (fun i=>pI .u64 (x3 i))),(1,.arr 33 (fun i=>pI .u64 (p_y i))),(0,.arr 33 (fun i=>pI .u64 (p_x i)))]⟩ [0,1] (ids:=[(0,0),(1,1),(5000,5000)]) ⟨rfl,rfl,rfl⟩ (hle:=klR [(0,.fn 33 33 (fun i=>[(fun i=>(cA 33 (pI .u64) x3).getD i default) i]) (fun i=>[pI .u64 (x3 i)]))] (al1 ⟨rfl,C5 33 (fun i=>pI .u64 (x3 i))⟩ al0))
def N6 (N:Nat)(p_x:Nat->Int):Option (Nat->Int):=
 Dv N (fun self3 (x3:Nat->Int) (x4:Int)=>
  if (decide (x4<33)) then
   if (((0:Int)<=x4/\x4<33)/\(0+x4.toNat*1)<33)then
    (V9 N (p_x (0+x4.toNat*1))).bind fun y3=>
    (Q1 N y3).bind fun L3=>
    V4 L3 (fun self4 (x7:Int) (z3:Nat->Int)=>
     if (((((((0:Int)<=x4/\x4<33)/\(0+x4.toNat*1)<33)/\((0:Int)<=x7/\x7<33))/\(0+x7.toNat*1)<33)/\((0:Int)<=x4/\x4<33))/\(0+x4.toNat*1)<33)then
      self4 (Il z3 (0+x4.toNat*1) (G0 .or .u64 (z3 (0+x4.toNat*1)) (p_x (0+x7.toNat*1))))
     else none
     ) (fun (z3:Nat->Int)=>
      self3 z3 (wrap .i64 (x4+1))
     ) x3
   else none
  else
   some x3
  ) (fun _=>0) 0
theorem Ax {N:Nat}{p_x:Nat->Int}{y:Nat->Int}(h:N6 N p_x=some y) :FunO S U4 [.reg 0 0,.reg 0 0] [.arr 33 (fun i=>pI .u64 (p_x i))] (.p (.agg (cA 33 (pI .u64) y))) ([.arr 33 (fun i=>pI .u64 (p_x i))]) [true]:=by
 unfold N6 at h;refine A4 hS AW ?_;refine N1 hS trivial h (fun x3 x4=>⟨[(10,pN x4),(9,.reg 0 0),(5,.reg 6000 0),(4,.reg 5000 0),(3,.reg 4000 0)],[(6000,.arr 33 (fun i=>pI .u64 (x3 i))),(5000,.arr 33 (fun i=>pI .u64 ((fun _=>0) i))),(4000,.cells [.reg 0 0]),(0,.arr 33 (fun i=>pI .u64 (p_x i)))]⟩) (ids:=[(0,0),(4000,4000),(5000,5000),(6000,6000)]) (fun _ _ _ _ _ self3 x3 x4 hb3 h=>?_) (hle:=klR [(1,.fn 33 33 (fun i=>[(fun i=>(List.replicate 33 (pI .u64 0)).getD i default) i]) (fun i=>[pI .u64 ((fun _=>0) i)])),(2,.fn 33 33 (fun i=>[(fun i=>(List.replicate 33 (pI .u64 0)).getD i default) i]) (fun i=>[pI .u64 ((fun _=>0) i)]))] (al1 ⟨rfl,Z0 (z:=pI .u64 0) rfl⟩ (al1 ⟨rfl,Z0 (z:=pI .u64 0) rfl⟩ al0)));refine kI hS h (fun h=>?_) (fun h=>?_)
 ·refine S9 hS trivial [(2,.l [0]),(3,.l [0]),(4,.a [7000]),(5,.a [7000])] ?_;obtain⟨c12,h⟩:=G5 h;refine P3 c12 ?_;refine J6 hS trivial 16 7000 [pI .i64 x4] ?_;refine kC hS h (Ce hS hL) (fun y3 h=>?_);obtain⟨L3,e6,h⟩:=B5 h;refine CU hS trivial [18000] [10,9,6,5,4,3] 905 (fun z3=>⟨[(10,pN x4),(9,.reg 0 0),(6,.p (.ptr [pI .i64 x4])),(5,.reg 6000 0),(4,.reg 5000 0),(3,.reg 4000 0)],[(6000,.arr 33 (fun i=>pI .u64 (z3 i))),(5000,.arr 33 (fun i=>pI .u64 ((fun _=>0) i))),(4000,.cells [.reg 0 0]),(0,.arr 33 (fun i=>pI .u64 (p_x i)))]⟩) (idl:=[(0,0),(4000,4000),(5000,5000),(6000,6000)]) h (AJ hS hL e6) (fun _=>by kernel_rfl) (fun _=>by kernel_rfl) (fun _=>by kernel_rfl) (fun _=>by kernel_rfl) (fun x7 _ self4 z3 hb4 h=>?_) (fun z3 h=>?_)
  ·refine Gc hS trivial ?_;refine S9 hS trivial [(0,.n),(1,.l [6000]),(2,.l [6000]),(3,.l [4000]),(6,.l [0]),(7,.l [0]),(9,.l [6000]),(10,.a [6000])] ?_;obtain⟨c15,h⟩:=G5 h;refine P3 c15 ?_;exact hb4 _ [(0,0),(905,905),(4000,4000),(5000,5000),(6000,6000)] _ (Il z3 (0+x4.toNat*1) (G0 .or .u64 (z3 (0+x4.toNat*1)) (p_x (0+x7.toNat*1)))) trivial h (hle:=klR [(0,.fn 33 33 (fun i=>[(fun i=>if i=(0+x4.toNat*1)then (pI .u64 (G0 .or .u64 (z3 (0+x4.toNat*1)) (p_x (0+x7.toNat*1))))else (fun i=>pI .u64 (z3 i)) i) i]) (fun i=>[pI .u64 (Il z3 (0+x4.toNat*1) (G0 .or .u64 (z3 (0+x4.toNat*1)) (p_x (0+x7.toNat*1))) i)]))] (al1 ⟨rfl,VG (c:=pI .u64) (v:=z3) (x:=G0 .or .u64 (z3 (0+x4.toNat*1)) (p_x (0+x7.toNat*1))) (fun _ _=>rfl) rfl⟩ al0))
  ·exact hb3 _ [(0,0),(4000,4000),(5000,5000),(6000,6000)] _ z3 (wrap .i64 (x4+1)) trivial h
 ·obtain rfl:=B4 h;exact A6 hS (And.intro rfl (D2 _ _):(0:Nat)=0/\(Y4 33 (fun i=>pI .u64 (x3 i))).length=33) ⟨[(4,.reg 5000 0)],[(5000,.arr 33 (fun i=>pI .u64 (x3 i))),(0,.arr 33 (fun i=>pI .u64 (p_x i)))]⟩ [0] (ids:=[(0,0),(5000,5000)]) ⟨rfl,rfl,rfl⟩ (hle:=klR [(0,.fn 33 33 (fun i=>[(fun i=>(cA 33 (pI .u64) x3).getD i default) i]) (fun i=>[pI .u64 (x3 i)]))] (al1 ⟨rfl,C5 33 (fun i=>pI .u64 (x3 i))⟩ al0))
def I2 (N:Nat)(p_x:Nat->Int)(p_k:Int)(p_n:Int):Option (Nat->Int):=
 (S0 N p_n).bind fun y1=>
 XQ N (fun self1 (x1:Int) (x2:Nat->Int) (x3:Nat->Int)=>
  if (decide (0<x1)) then
   if ((G0 .and .i64 x1 1)==1) then
    (G9 N x3 x2).bind fun y8=>
    (N6 N x2).bind fun y9=>
    self1 (shI .shr .i64 x1 1) y9 y8
   else
    (N6 N x2).bind fun y10=>
    self1 (shI .shr .i64 x1 1) y10 x3
  else
   some x3
  ) p_k p_x y1
theorem S1 {N:Nat}{p_x:Nat->Int}{p_k:Int}{p_n:Int}{y:Nat->Int}(h:I2 N p_x p_k p_n=some y) :FunO S Av [.p (.agg (cA 33 (pI .u64) p_x)),pN p_k,pN p_n] [] (.p (.agg (cA 33 (pI .u64) y))) ([]) []:=by
 unfold I2 at h;refine A4 hS Ei ?_;refine kC hS h (Bu hS hL) (fun y1 h=>?_);refine QA hS (And.intro rfl (D2 _ _):(0:Nat)=0/\(Y4 33 (fun i=>pI .u64 (y1 i))).length=33) h (fun x1 x2 x3=>⟨[(7,.reg 8000 0),(6,.reg 7000 0),(3,.reg 4000 0),(1,pN x1)],[(8000,.arr 33 (fun i=>pI .u64 (x3 i))),(7000,.arr 33 (fun i=>pI .u64 ((fun _=>0) i))),(4000,.arr 33 (fun i=>pI .u64 (x2 i)))]⟩) (ids:=[(4000,4000),(7000,7000),(8000,8000)]) (fun _ _ _ _ _ self1 x1 x2 x3 hb1 h=>?_) (hle:=klR [(1,.fn 33 33 (fun i=>[(fun i=>(cA 33 (pI .u64) y1).getD i default) i]) (fun i=>[pI .u64 (y1 i)])),(2,.fn 33 33 (fun i=>[(fun i=>(List.replicate 33 (pI .u64 0)).getD i default) i]) (fun i=>[pI .u64 ((fun _=>0) i)])),(3,.fn 33 33 (fun i=>[(fun i=>(cA 33 (pI .u64) p_x).getD i default) i]) (fun i=>[pI .u64 (p_x i)]))] (al1 ⟨rfl,C5 33 (fun i=>pI .u64 (y1 i))⟩ (al1 ⟨rfl,Z0 (z:=pI .u64 0) rfl⟩ (al1 ⟨rfl,C5 33 (fun i=>pI .u64 (p_x i))⟩ al0))));refine kI hS h (fun h=>?_) (fun h=>?_)
 ·refine kI hS h (fun h=>?_) (fun h=>?_)
  ·obtain⟨y8,e8,h⟩:=B5 h;refine B6 hS [8000,4000] trivial (O5 hS hL e8) ?_;obtain⟨y9,e9,h⟩:=B5 h;refine B6 hS [4000] (And.intro rfl (D2 _ _):(0:Nat)=0/\(Y4 33 (fun i=>pI .u64 (y8 i))).length=33) (Ax hS hL e9) ?_;exact hb1 _ [(4000,4000),(7000,7000),(8000,8000)] _ (shI .shr .i64 x1 1) y9 y8 (And.intro (And.intro rfl (D2 _ _):(0:Nat)=0/\(Y4 33 (fun i=>pI .u64 (y9 i))).length=33) (by decide:(0:Int)<=1)) h (hle:=klR [(1,.fn 33 33 (fun i=>[(fun i=>(cA 33 (pI .u64) y8).getD i default) i]) (fun i=>[pI .u64 (y8 i)])),(3,.fn 33 33 (fun i=>[(fun i=>(cA 33 (pI .u64) y9).getD i default) i]) (fun i=>[pI .u64 (y9 i)]))] (al1 ⟨rfl,C5 33 (fun i=>pI .u64 (y8 i))⟩ (al1 ⟨rfl,C5 33 (fun i=>pI .u64 (y9 i))⟩ al0)))
  ·obtain⟨y10,e10,h⟩:=B5 h;refine B6 hS [4000] trivial (Ax hS hL e10) ?_;exact hb1 _ [(4000,4000),(7000,7000),(8000,8000)] _ (shI .shr .i64 x1 1) y10 x3 (And.intro (And.intro rfl (D2 _ _):(0:Nat)=0/\(Y4 33 (fun i=>pI .u64 (y10 i))).length=33) (by decide:(0:Int)<=1)) h (hle:=klR [(3,.fn 33 33 (fun i=>[(fun i=>(cA 33 (pI .u64) y10).getD i default) i]) (fun i=>[pI .u64 (y10 i)]))] (al1 ⟨rfl,C5 33 (fun i=>pI .u64 (y10 i))⟩ al0))
 ·obtain rfl:=B4 h;exact A6 hS (And.intro rfl (D2 _ _):(0:Nat)=0/\(Y4 33 (fun i=>pI .u64 (x3 i))).length=33) ⟨[(6,.reg 7000 0)],[(7000,.arr 33 (fun i=>pI .u64 (x3 i)))]⟩ [] (ids:=[(7000,7000)]) ⟨rfl,rfl,rfl⟩ (hle:=klR [(0,.fn 33 33 (fun i=>[(fun i=>(cA 33 (pI .u64) x3).getD i default) i]) (fun i=>[pI .u64 (x3 i)]))] (al1 ⟨rfl,C5 33 (fun i=>pI .u64 (x3 i))⟩ al0))
end Go.AM
namespace Go.AM
open IntKind (wrap)
open Go.Proofs
set_option maxRecDepth 10000
set_option maxHeartbeats 2000000
variable {S:X8}(hS:F6 S Tryz.prog) (hL:Oq S)
include hS hL
def Bv (N:Nat)(p_x:To)(p_w:Sl A2):Option (Nat->Int):=
 Dv N (fun self1 (x1:Nat->Int) (x2:Int)=>
  if (decide (x2<(p_w.n:Int))) then
   if ((0:Int)<=x2/\x2<(p_w.n:Int))then
    if ((((G0 .or .u32 (G0 .andNot .u32 p_x.is.Plus (p_w.g x2.toNat).Plus) (G0 .andNot .u32 p_x.is.Minus (p_w.g x2.toNat).Minus))==0)==p_x.not) != true) then
     if (((0:Int)<=(wrap .i64 (x2+1))/\((0:Int)<=x2/\x2<33))/\(0+x2.toNat*1)<33)then
      self1 (Il x1 (0+x2.toNat*1) (shI .shl .u64 1 (wrap .i64 (x2+1)))) (wrap .i64 (x2+1))
     else none
    else
     self1 x1 (wrap .i64 (x2+1))
   else none
  else
   some x1
  ) (fun _=>0) 0
theorem JB {N:Nat}{p_x:To}{p_w:Sl A2}{y:Nat->Int}(h:Bv N p_x p_w=some y) :FunO S Bt [.p (.agg (QH p_x)),.p (vSl 2 A0 p_w)] [] (.p (.agg (cA 33 (pI .u64) y))) ([]) []:=by
 unfold Bv at h;refine A4 hS Jv ?_;refine N1 hS trivial h (fun x1 x2=>⟨[(9,pN x2),(8,pN (p_w.n:Int)),(7,.p (vSl 2 A0 p_w)),(4,.reg 5000 0),(2,.reg 3000 0)],[(5000,.arr 33 (fun i=>pI .u64 (x1 i))),(3000,.cells ((QH p_x).map .p))]⟩) (ids:=[(3000,3000),(5000,5000)]) (fun _ _ _ _ _ self1 x1 x2 hb1 h=>?_) (hle:=klR [(3,.fn 33 33 (fun i=>[(fun i=>(List.replicate 33 (pI .u64 0)).getD i default) i]) (fun i=>[pI .u64 ((fun _=>0) i)]))] (al1 ⟨rfl,Z0 (z:=pI .u64 0) rfl⟩ al0));refine kI hS h (fun h=>?_) (fun h=>?_)
 ·obtain⟨c8,h⟩:=G5 h;refine D5 hS (And.intro c8 (by decide:(2:Nat)<=2)) (b:=(((G0 .or .u32 (G0 .andNot .u32 p_x.is.Plus (p_w.g x2.toNat).Plus) (G0 .andNot .u32 p_x.is.Minus (p_w.g x2.toNat).Minus))==0)==p_x.not) != true) (fun c9=>?_) (fun c9=>?_)
  ·replace h:=itT c9 h;obtain⟨c10,h⟩:=G5 h;exact hb1 _ [(3000,3000),(5000,5000)] _ (Il x1 (0+x2.toNat*1) (shI .shl .u64 1 (wrap .i64 (x2+1)))) (wrap .i64 (x2+1)) c10 h (hle:=klR [(3,.fn 33 33 (fun i=>[(fun i=>if i=(0+x2.toNat*1)then (pI .u64 (shI .shl .u64 1 (wrap .i64 (x2+1))))else (fun i=>pI .u64 (x1 i)) i) i]) (fun i=>[pI .u64 (Il x1 (0+x2.toNat*1) (shI .shl .u64 1 (wrap .i64 (x2+1))) i)]))] (al1 ⟨rfl,VG (c:=pI .u64) (v:=x1) (x:=shI .shl .u64 1 (wrap .i64 (x2+1))) (fun _ _=>rfl) rfl⟩ al0))
  ·replace h:=itF c9 h;exact hb1 _ [(3000,3000),(5000,5000)] _ x1 (wrap .i64 (x2+1)) trivial h
 ·obtain rfl:=B4 h;exact A6 hS (And.intro rfl (D2 _ _):(0:Nat)=0/\(Y4 33 (fun i=>pI .u64 (x1 i))).length=33) ⟨[(4,.reg 5000 0)],[(5000,.arr 33 (fun i=>pI .u64 (x1 i)))]⟩ [] (ids:=[(5000,5000)]) ⟨rfl,rfl,rfl⟩ (hle:=klR [(0,.fn 33 33 (fun i=>[(fun i=>(cA 33 (pI .u64) x1).getD i default) i]) (fun i=>[pI .u64 (x1 i)]))] (al1 ⟨rfl,C5 33 (fun i=>pI .u64 (x1 i))⟩ al0))
def Cf (N:Nat)(p_x:WU)(p_w:Sl A2):Option (Nat->Int):=
 if p_x.end_ then
  if (((0:Int)<=(p_w.n:Int)/\((0:Int)<=(p_w.n:Int)/\(p_w.n:Int)<33))/\(0+(p_w.n:Int).toNat*1)<33)then
   some (Il (fun _=>0) (0+(p_w.n:Int).toNat*1) (shI .shl .u64 1 (p_w.n:Int)))
  else none
 else
  if (((0:Int)<=0/\(0:Int)<33)/\(0+0*1)<33)then
   some (Il (fun _=>0) (0+0*1) (shI .shl .u64 1 0))
  else none
theorem Ky {N:Nat}{p_x:WU}{p_w:Sl A2}{y:Nat->Int}(h:Cf N p_x p_w=some y) :FunO S Cb [.p (.agg (WV p_x)),.p (vSl 2 A0 p_w)] [] (.p (.agg (cA 33 (pI .u64) y))) ([]) []:=by
 unfold Cf at h;refine A4 hS Ku ?_;refine kI hS h (fun h=>?_) (fun h=>?_)
 ·obtain⟨c2,h⟩:=G5 h;obtain rfl:=B4 h;exact A6 hS (And.intro (And.intro (And.intro c2.1.1 c2.1.2) c2.2) (And.intro rfl (D2 _ _):(0:Nat)=0/\(Y4 33 (fun i=>if i=(0+(p_w.n:Int).toNat*1)then (pI .u64 (shI .shl .u64 1 (p_w.n:Int)))else (fun i=>(List.replicate 33 (pI .u64 0)).getD i default) i)).length=33)) ⟨[(4,.reg 5000 0)],[(5000,.arr 33 (fun i=>pI .u64 (Il (fun _=>0) (0+(p_w.n:Int).toNat*1) (shI .shl .u64 1 (p_w.n:Int)) i)))]⟩ [] (ids:=[(5000,5000)]) ⟨rfl,rfl,rfl⟩ (hle:=klR [(0,.fn 33 33 (fun i=>[(fun i=>(Y4 33 (fun i=>if i=(0+(p_w.n:Int).toNat*1)then (pI .u64 (shI .shl .u64 1 (p_w.n:Int)))else (fun i=>(List.replicate 33 (pI .u64 0)).getD i default) i)).getD i default) i]) (fun i=>[pI .u64 (Il (fun _=>0) (0+(p_w.n:Int).toNat*1) (shI .shl .u64 1 (p_w.n:Int)) i)]))] (al1 ⟨rfl,fun i hi=>(C5 33 (fun i=>if i=(0+(p_w.n:Int).toNat*1)then (pI .u64 (shI .shl .u64 1 (p_w.n:Int)))else (fun i=>(List.replicate 33 (pI .u64 0)).getD i default) i) i hi).trans (VG (c:=pI .u64) (v:=fun _=>0) (x:=shI .shl .u64 1 (p_w.n:Int)) (Z0 (z:=pI .u64 0) rfl) rfl i hi)⟩ al0))
 ·obtain⟨c3,h⟩:=G5 h;obtain rfl:=B4 h;exact A6 hS (And.intro (And.intro (And.intro (by decide:(0:Int)<=0) c3.1) c3.2) (And.intro rfl (D2 _ _):(0:Nat)=0/\(Y4 33 (fun i=>if i=(0+0*1)then (pI .u64 (shI .shl .u64 1 0))else (fun i=>(List.replicate 33 (pI .u64 0)).getD i default) i)).length=33)) ⟨[(4,.reg 5000 0)],[(5000,.arr 33 (fun i=>pI .u64 (Il (fun _=>0) (0+0*1) (shI .shl .u64 1 0) i)))]⟩ [] (ids:=[(5000,5000)]) ⟨rfl,rfl,rfl⟩ (hle:=klR [(0,.fn 33 33 (fun i=>[(fun i=>(Y4 33 (fun i=>if i=(0+0*1)then (pI .u64 (shI .shl .u64 1 0))else (fun i=>(List.replicate 33 (pI .u64 0)).getD i default) i)).getD i default) i]) (fun i=>[pI .u64 (Il (fun _=>0) (0+0*1) (shI .shl .u64 1 0) i)]))] (al1 ⟨rfl,fun i hi=>(C5 33 (fun i=>if i=(0+0*1)then (pI .u64 (shI .shl .u64 1 0))else (fun i=>(List.replicate 33 (pI .u64 0)).getD i default) i) i hi).trans (VG (c:=pI .u64) (v:=fun _=>0) (x:=shI .shl .u64 1 0) (Z0 (z:=pI .u64 0) rfl) rfl i hi)⟩ al0))
def Df (rec:Part->(Sl A2)->Option (Nat->Int))(N:Nat)(p_x:Pseq)(p_w:Sl A2):Option (Nat->Int):=
 (S0 N (p_w.n:Int)).bind fun y1=>
 Dv N (fun self1 (x1:Nat->Int) (x2:Int)=>
  if (decide (x2<(p_x.l.n:Int))) then
   if ((0:Int)<=x2/\x2<(p_x.l.n:Int))then
    (rec (p_x.l.g x2.toNat) p_w).bind fun y6=>
    (G9 N x1 y6).bind fun y7=>
    self1 y7 (wrap .i64 (x2+1))
   else none
  else
   some x1
  ) y1 0
theorem MC {N:Nat}{rec:Part->(Sl A2)->Option ((Nat->Int))}(hrec:∀{x:Part}{b0:(Sl A2)}{y:(Nat->Int)},rec x b0=some y->Yl S Tryz.prog (DY x) "ablaut/pats.in" [(.p (vSl 2 A0 b0))] (.p (.agg (cA 33 (pI .u64) y)))){p_x:Pseq}{p_w:(Sl A2)}{y:(Nat->Int)}(h:Df rec N p_x p_w=some y) :FunO S Dc [(.p (.agg (Yw p_x))),(.p (vSl 2 A0 p_w))] [] (.p (.agg (cA 33 (pI .u64) y))) ([]) []:=by
 unfold Df at h;refine A4 hS Mw ?_;refine kC hS h (Bu hS hL) (fun y1 h=>?_);refine N1 hS (And.intro rfl (D2 _ _):(0:Nat)=0/\(Y4 33 (fun i=>pI .u64 (y1 i))).length=33) h (fun x1 x2=>⟨[(15,(pN x2)),(14,(pN (p_x.l.n:Int))),(13,(.p (vSl 1 CC p_x.l))),(5,(.reg 6000 0)),(4,(.reg 5000 0)),(1,(.p (vSl 2 A0 p_w)))],[(6000,(.arr 33 (fun i=>pI .u64 (x1 i)))),(5000,(.arr 33 (fun i=>pI .u64 ((fun _=>0) i))))]⟩) (ids:=[(5000,5000),(6000,6000)]) (fun _ _ _ _ _ self1 x1 x2 hb1 h=>?_) (hle:=(klR [(4,.fn 33 33 (fun i=>[(fun i=>(cA 33 (pI .u64) y1).getD i default) i]) (fun i=>[pI .u64 (y1 i)])),(5,.fn 33 33 (fun i=>[(fun i=>(List.replicate 33 (pI .u64 0)).getD i default) i]) (fun i=>[pI .u64 ((fun _=>0) i)]))] (al1 ⟨rfl,(C5 33 (fun i=>pI .u64 (y1 i)))⟩ (al1 ⟨rfl,(Z0 (z:=pI .u64 0) rfl)⟩ al0))));refine kI hS h (fun h=>?_) (fun h=>?_)
 ·obtain⟨c6,h⟩:=G5 h;obtain⟨y6,e6,h⟩:=B5 h;refine Ik hS c6 (hrec e6) ?_;refine BK hS (And.intro rfl (D2 _ _):(0:Nat)=0/\(Y4 33 (fun i=>pI .u64 (y6 i))).length=33) ⟨[(15,(pN x2)),(14,(pN (p_x.l.n:Int))),(13,(.p (vSl 1 CC p_x.l))),(8,(.reg 9000 0)),(5,(.reg 6000 0)),(4,(.reg 5000 0)),(1,(.p (vSl 2 A0 p_w)))],[(9000,(.arr 33 (fun i=>pI .u64 (y6 i)))),(6000,(.arr 33 (fun i=>pI .u64 (x1 i)))),(5000,(.arr 33 (fun i=>pI .u64 ((fun _=>0) i))))]⟩ (ids:=[(5000,5000),(6000,6000),(9000,9000)]) ?_ (hle:=(klR [(4,.fn 33 33 (fun i=>[(fun i=>(cA 33 (pI .u64) y6).getD i default) i]) (fun i=>[pI .u64 (y6 i)]))] (al1 ⟨rfl,(C5 33 (fun i=>pI .u64 (y6 i)))⟩ al0)));obtain⟨y7,e7,h⟩:=B5 h;refine B6 hS [6000,9000] trivial (O5 hS hL e7) ?_;exact hb1 _ [(5000,5000),(6000,6000)] _ y7 (wrap .i64 (x2+1)) (And.intro rfl (D2 _ _):(0:Nat)=0/\(Y4 33 (fun i=>pI .u64 (y7 i))).length=33) h (hle:=klR [(4,.fn 33 33 (fun i=>[(fun i=>(cA 33 (pI .u64) y7).getD i default) i]) (fun i=>[pI .u64 (y7 i)]))] (al1 ⟨rfl,(C5 33 (fun i=>pI .u64 (y7 i)))⟩ al0))
 ·obtain rfl:=B4 h;exact A6 hS (And.intro rfl (D2 _ _):(0:Nat)=0/\(Y4 33 (fun i=>pI .u64 (x1 i))).length=33) ⟨[(4,(.reg 5000 0))],[(5000,(.arr 33 (fun i=>pI .u64 (x1 i))))]⟩ [] (ids:=[(5000,5000)]) ⟨rfl,rfl,rfl⟩ (hle:=(klR [(0,.fn 33 33 (fun i=>[(fun i=>(cA 33 (pI .u64) x1).getD i default) i]) (fun i=>[pI .u64 (x1 i)]))] (al1 ⟨rfl,(C5 33 (fun i=>pI .u64 (x1 i)))⟩ al0)))
def Dg (rec:Part->(Sl A2)->Option (Nat->Int))(N:Nat)(p_x:Palt)(p_w:Sl A2):Option (Nat->Int):=
 Dv N (fun self1 (x1:Nat->Int) (x2:Int)=>
  if (decide (x2<(p_x.l.n:Int))) then
   if ((0:Int)<=x2/\x2<(p_x.l.n:Int))then
    (rec (p_x.l.g x2.toNat) p_w).bind fun y5=>
    (Q7 N x1 y5).bind fun y6=>
    self1 y6 (wrap .i64 (x2+1))
   else none
  else
   some x1
  ) (fun _=>0) 0
theorem MD {N:Nat}{rec:Part->(Sl A2)->Option ((Nat->Int))}(hrec:∀{x:Part}{b0:(Sl A2)}{y:(Nat->Int)},rec x b0=some y->Yl S Tryz.prog (DY x) "ablaut/pats.in" [(.p (vSl 2 A0 b0))] (.p (.agg (cA 33 (pI .u64) y)))){p_x:Palt}{p_w:(Sl A2)}{y:(Nat->Int)}(h:Dg rec N p_x p_w=some y) :FunO S Da [(.p (.agg (Yu p_x))),(.p (vSl 2 A0 p_w))] [] (.p (.agg (cA 33 (pI .u64) y))) ([]) []:=by
 unfold Dg at h;refine A4 hS Mu ?_;refine N1 hS trivial h (fun x1 x2=>⟨[(11,(pN x2)),(10,(pN (p_x.l.n:Int))),(9,(.p (vSl 1 CC p_x.l))),(4,(.reg 5000 0)),(1,(.p (vSl 2 A0 p_w)))],[(5000,(.arr 33 (fun i=>pI .u64 (x1 i))))]⟩) (ids:=[(5000,5000)]) (fun _ _ _ _ _ self1 x1 x2 hb1 h=>?_) (hle:=(klR [(4,.fn 33 33 (fun i=>[(fun i=>(List.replicate 33 (pI .u64 0)).getD i default) i]) (fun i=>[pI .u64 ((fun _=>0) i)]))] (al1 ⟨rfl,(Z0 (z:=pI .u64 0) rfl)⟩ al0)));refine kI hS h (fun h=>?_) (fun h=>?_)
 ·obtain⟨c6,h⟩:=G5 h;obtain⟨y5,e5,h⟩:=B5 h;refine Ik hS c6 (hrec e5) ?_;refine BK hS (And.intro rfl (D2 _ _):(0:Nat)=0/\(Y4 33 (fun i=>pI .u64 (y5 i))).length=33) ⟨[(11,(pN x2)),(10,(pN (p_x.l.n:Int))),(9,(.p (vSl 1 CC p_x.l))),(7,(.reg 8000 0)),(4,(.reg 5000 0)),(1,(.p (vSl 2 A0 p_w)))],[(8000,(.arr 33 (fun i=>pI .u64 (y5 i)))),(5000,(.arr 33 (fun i=>pI .u64 (x1 i))))]⟩ (ids:=[(5000,5000),(8000,8000)]) ?_ (hle:=(klR [(4,.fn 33 33 (fun i=>[(fun i=>(cA 33 (pI .u64) y5).getD i default) i]) (fun i=>[pI .u64 (y5 i)]))] (al1 ⟨rfl,(C5 33 (fun i=>pI .u64 (y5 i)))⟩ al0)));obtain⟨y6,e6,h⟩:=B5 h;refine B6 hS [5000,8000] trivial (BR hS hL e6) ?_;exact hb1 _ [(5000,5000)] _ y6 (wrap .i64 (x2+1)) trivial h
 ·obtain rfl:=B4 h;exact A6 hS (And.intro rfl (D2 _ _):(0:Nat)=0/\(Y4 33 (fun i=>pI .u64 (x1 i))).length=33) ⟨[(4,(.reg 5000 0))],[(5000,(.arr 33 (fun i=>pI .u64 (x1 i))))]⟩ [] (ids:=[(5000,5000)]) ⟨rfl,rfl,rfl⟩ (hle:=(klR [(0,.fn 33 33 (fun i=>[(fun i=>(cA 33 (pI .u64) x1).getD i default) i]) (fun i=>[pI .u64 (x1 i)]))] (al1 ⟨rfl,(C5 33 (fun i=>pI .u64 (x1 i)))⟩ al0)))
def Dh (rec:Part->(Sl A2)->Option (Nat->Int))(N:Nat)(p_x:Prep)(p_w:Sl A2):Option (Nat->Int):=
 (rec p_x.of p_w).bind fun y1=>
 (I2 N y1 p_x.min (p_w.n:Int)).bind fun y2=>
 (S0 N (p_w.n:Int)).bind fun y3=>
 (Q7 N y1 y3).bind fun y4=>
 if (decide (p_x.max<0)) then
  (I2 N y4 (p_w.n:Int) (p_w.n:Int)).bind fun y5=>
  (G9 N y2 y5).bind fun y6=>
  some y6
 else
  (I2 N y4 (wrap .i64 (p_x.max-p_x.min)) (p_w.n:Int)).bind fun y7=>
  (G9 N y2 y7).bind fun y8=>
  some y8
theorem ME {N:Nat}{rec:Part->(Sl A2)->Option ((Nat->Int))}(hrec:∀{x:Part}{b0:(Sl A2)}{y:(Nat->Int)},rec x b0=some y->Yl S Tryz.prog (DY x) "ablaut/pats.in" [(.p (vSl 2 A0 b0))] (.p (.agg (cA 33 (pI .u64) y)))){p_x:Prep}{p_w:(Sl A2)}{y:(Nat->Int)}(h:Dh rec N p_x p_w=some y) :FunO S Db [(.p (.agg (Yv p_x))),(.p (vSl 2 A0 p_w))] [] (.p (.agg (cA 33 (pI .u64) y))) ([]) []:=by
 unfold Dh at h;refine A4 hS Mv ?_;obtain⟨y1,e1,h⟩:=B5 h;refine Ik hS trivial (hrec e1) ?_;refine BK hS (And.intro rfl (D2 _ _):(0:Nat)=0/\(Y4 33 (fun i=>pI .u64 (y1 i))).length=33) ⟨[(18,(pN (p_w.n:Int))),(16,(pN p_x.min)),(14,(.p (.agg (cA 33 (pI .u64) y1)))),(5,(.reg 6000 0)),(4,(.reg 5000 0)),(2,(.reg 3000 0)),(1,(.p (vSl 2 A0 p_w)))],[(6000,(.arr 33 (fun i=>pI .u64 (y1 i)))),(5000,(.arr 33 (fun i=>pI .u64 ((fun _=>0) i)))),(3000,(.cells [(.p (DY p_x.of)),(pN p_x.min),(pN p_x.max)]))]⟩ (ids:=[(3000,3000),(5000,5000),(6000,6000)]) ?_ (hle:=(klR [(2,.eq (.agg (Y4 33 (fun i=>(cA 33 (pI .u64) y1).getD i default))) (.agg (cA 33 (pI .u64) y1))),(4,.fn 33 33 (fun i=>[(fun i=>(cA 33 (pI .u64) y1).getD i default) i]) (fun i=>[pI .u64 (y1 i)])),(5,.fn 33 33 (fun i=>[(fun i=>(List.replicate 33 (pI .u64 0)).getD i default) i]) (fun i=>[pI .u64 ((fun _=>0) i)]))] (al1 (congrArg PV.agg (RC (C5 33 (fun i=>pI .u64 (y1 i))))) (al1 ⟨rfl,(C5 33 (fun i=>pI .u64 (y1 i)))⟩ (al1 ⟨rfl,(Z0 (z:=pI .u64 0) rfl)⟩ al0)))));refine kC hS h (S1 hS hL) (fun y2 h=>?_);obtain⟨y3,e3,h⟩:=B5 h;refine B6 hS [] (And.intro (And.intro rfl (D2 _ _):(0:Nat)=0/\(Y4 33 (fun i=>pI .u64 (y2 i))).length=33) (And.intro rfl (D2 _ _):(0:Nat)=0/\(Y4 33 (fun i=>pI .u64 (y1 i))).length=33)) (Bu hS hL e3) ?_;refine BK hS (And.intro rfl (D2 _ _):(0:Nat)=0/\(Y4 33 (fun i=>pI .u64 (y3 i))).length=33) ⟨[(8,(.reg 9000 0)),(7,(.reg 8000 0)),(6,(.reg 7000 0)),(4,(.reg 5000 0)),(2,(.reg 3000 0)),(1,(.p (vSl 2 A0 p_w)))],[(9000,(.arr 33 (fun i=>pI .u64 (y3 i)))),(8000,(.arr 33 (fun i=>pI .u64 (y1 i)))),(7000,(.arr 33 (fun i=>pI .u64 (y2 i)))),(5000,(.arr 33 (fun i=>pI .u64 ((fun _=>0) i)))),(3000,(.cells [(.p (DY p_x.of)),(pN p_x.min),(pN p_x.max)]))]⟩ (ids:=[(3000,3000),(5000,5000),(7000,7000),(8000,8000),(9000,9000)]) ?_ (hle:=(klR [(1,.fn 33 33 (fun i=>[(fun i=>(cA 33 (pI .u64) y3).getD i default) i]) (fun i=>[pI .u64 (y3 i)])),(2,.fn 33 33 (fun i=>[(fun i=>(cA 33 (pI .u64) y1).getD i default) i]) (fun i=>[pI .u64 (y1 i)])),(3,.fn 33 33 (fun i=>[(fun i=>(cA 33 (pI .u64) y2).getD i default) i]) (fun i=>[pI .u64 (y2 i)]))] (al1 ⟨rfl,(C5 33 (fun i=>pI .u64 (y3 i)))⟩ (al1 ⟨rfl,(C5 33 (fun i=>pI .u64 (y1 i)))⟩ (al1 ⟨rfl,(C5 33 (fun i=>pI .u64 (y2 i)))⟩ al0)))));obtain⟨y4,e4,h⟩:=B5 h;refine B6 hS [8000,9000] trivial (BR hS hL e4) ?_;refine kI hS h (fun h=>?_) (fun h=>?_)
 ·refine kC hS h (S1 hS hL) (fun y5 h=>?_);refine BK hS (And.intro rfl (D2 _ _):(0:Nat)=0/\(Y4 33 (fun i=>pI .u64 (y5 i))).length=33) ⟨[(7,(.reg 8000 0)),(6,(.reg 7000 0)),(4,(.reg 5000 0))],[(8000,(.arr 33 (fun i=>pI .u64 (y5 i)))),(7000,(.arr 33 (fun i=>pI .u64 (y2 i)))),(5000,(.arr 33 (fun i=>pI .u64 ((fun _=>0) i))))]⟩ (ids:=[(5000,5000),(7000,7000),(8000,8000)]) ?_ (hle:=(klR [(0,.fn 33 33 (fun i=>[(fun i=>(cA 33 (pI .u64) y5).getD i default) i]) (fun i=>[pI .u64 (y5 i)]))] (al1 ⟨rfl,(C5 33 (fun i=>pI .u64 (y5 i)))⟩ al0)));obtain⟨y6,e6,h⟩:=B5 h;refine B6 hS [7000,8000] trivial (O5 hS hL e6) ?_;obtain rfl:=B4 h;exact A6 hS (And.intro rfl (D2 _ _):(0:Nat)=0/\(Y4 33 (fun i=>pI .u64 (y6 i))).length=33) ⟨[(4,(.reg 5000 0))],[(5000,(.arr 33 (fun i=>pI .u64 (y6 i))))]⟩ [] (ids:=[(5000,5000)]) ⟨rfl,rfl,rfl⟩ (hle:=(klR [(0,.fn 33 33 (fun i=>[(fun i=>(cA 33 (pI .u64) y6).getD i default) i]) (fun i=>[pI .u64 (y6 i)]))] (al1 ⟨rfl,(C5 33 (fun i=>pI .u64 (y6 i)))⟩ al0)))
 ·refine kC hS h (S1 hS hL) (fun y7 h=>?_);refine BK hS (And.intro rfl (D2 _ _):(0:Nat)=0/\(Y4 33 (fun i=>pI .u64 (y7 i))).length=33) ⟨[(7,(.reg 8000 0)),(6,(.reg 7000 0)),(4,(.reg 5000 0))],[(8000,(.arr 33 (fun i=>pI .u64 (y7 i)))),(7000,(.arr 33 (fun i=>pI .u64 (y2 i)))),(5000,(.arr 33 (fun i=>pI .u64 ((fun _=>0) i))))]⟩ (ids:=[(5000,5000),(7000,7000),(8000,8000)]) ?_ (hle:=(klR [(0,.fn 33 33 (fun i=>[(fun i=>(cA 33 (pI .u64) y7).getD i default) i]) (fun i=>[pI .u64 (y7 i)]))] (al1 ⟨rfl,(C5 33 (fun i=>pI .u64 (y7 i)))⟩ al0)));obtain⟨y8,e8,h⟩:=B5 h;refine B6 hS [7000,8000] trivial (O5 hS hL e8) ?_;obtain rfl:=B4 h;exact A6 hS (And.intro rfl (D2 _ _):(0:Nat)=0/\(Y4 33 (fun i=>pI .u64 (y8 i))).length=33) ⟨[(4,(.reg 5000 0))],[(5000,(.arr 33 (fun i=>pI .u64 (y8 i))))]⟩ [] (ids:=[(5000,5000)]) ⟨rfl,rfl,rfl⟩ (hle:=(klR [(0,.fn 33 33 (fun i=>[(fun i=>(cA 33 (pI .u64) y8).getD i default) i]) (fun i=>[pI .u64 (y8 i)]))] (al1 ⟨rfl,(C5 33 (fun i=>pI .u64 (y8 i)))⟩ al0)))
def AK (rec:Pat->Option Part)(N:Nat)(p_p:Pat):Option Part:=
 Dv N (fun self1 (x1:Sl Part) (x2:Int)=>
  if (decide (x2<(p_p.L.n:Int))) then
   if ((0:Int)<=x2/\x2<(p_p.L.n:Int))then
    (rec (p_p.L.g x2.toNat)).bind fun y3=>
    if ((x1.n+(Sl.of [y3]:Sl Part).n)*16<=140737488355328/\x1.n+(Sl.of [y3]:Sl Part).n<=140737488355328)then
     self1 (x1.push y3) (wrap .i64 (x2+1))
    else none
   else none
  else
   if (p_p.Kind==1) then
    some (Part.sound p_p.Is p_p.Not)
   else
    if (p_p.Kind==2) then
     some (Part.edge false)
    else
     if (p_p.Kind==6) then
      some (Part.edge true)
     else
      if (p_p.Kind==4) then
       some (Part.alt x1.n x1.g)
      else
       if (p_p.Kind==5) then
        if (((0:Int)<=0/\0<(x1.n:Int))/\0<x1.n)then
         some (Part.rep (x1.g 0) p_p.Min p_p.Max)
        else none
       else
        some (Part.seq x1.n x1.g)
  ) (Sl.nil:Sl Part) 0
def Cg:Nat->Pat->Option Part
 |0=>fun _=>none
 |N+1=>AK (Cg N) N
theorem JC {N:Nat}{rec:Pat->Option Part}(hrec:∀{p_p:Pat}{y:Part},rec p_p=some y->FunO S Am [.p (.agg (C8 p_p))] [] (.p (DY y)) ([]) []){p_p:Pat}{y:Part}(h:AK rec N p_p=some y) :FunO S Am [.p (.agg (C8 p_p))] [] (.p (DY y)) ([]) []:=by
 unfold AK at h;refine A4 hS Kt ?_;refine J6 hS trivial 2 2000 (C8 p_p) ?_;refine U0 hS trivial 8 ⟨[(7,.p (vSl 7 C8 p_p.L)),(3,.p J5),(1,.p (.ptr (C8 p_p)))],[]⟩ (ids:=[]) ?_ (hle:=klR [(0,.fn p_p.L.n p_p.L.n (DX p_p) (fun i=>C8 (p_p.L.g i)))] (al1 ⟨rfl,CX p_p⟩ al0));refine N1 hS trivial h (fun x1 x2=>⟨[(9,pN x2),(8,pN (p_p.L.n:Int)),(7,.p (vSl 7 C8 p_p.L)),(3,.vec 4500),(1,.p (.ptr (C8 p_p)))],[(4500,.vec PH 1 x1.n (fun i=>CC (x1.g i)) false)]⟩) (ids:=[]) (fun _ _ _ _ _ self1 x1 x2 hb1 h=>?_);refine kI hS h (fun h=>?_) (fun h=>?_)
 ·obtain⟨c6,h⟩:=G5 h;refine J6 hS (And.intro c6 (by decide:(7:Nat)<=7)) 13 6000 (C8 (p_p.L.g x2.toNat)) ?_;obtain⟨y3,e3,h⟩:=B5 h;refine B6 hS [] (by decide:(7:Nat)<=7) (hrec e3) ?_;obtain⟨c7,h⟩:=G5 h;exact hb1 _ [(4500,18000)] _ (x1.push y3) (wrap .i64 (x2+1)) (And.intro (rfl:true=true) c7) h (hle:=klR [(4,.fn (x1.n+1) (x1.push y3).n (AD x1.n (fun i=>CC (x1.g i)) (E9 [.v .nilIface] [(0,CC y3)])) (fun i=>CC ((x1.push y3).g i)))] (al1 ⟨rfl,NH (c:=CC) (v:=x1) (x:=y3) (z:=[(.v .nilIface)]) same rfl rfl⟩ al0))
 ·refine kI hS h (fun h=>?_) (fun h=>?_)
  ·obtain rfl:=B4 h;exact RA hS (by decide:(2:Nat)<=6) [] ⟨rfl,rfl,rfl⟩
  ·refine kI hS h (fun h=>?_) (fun h=>?_)
   ·cases h;exact kR hS
   ·refine kI hS h (fun h=>?_) (fun h=>?_)
    ·cases h;exact kR hS
    ·refine kI hS h (fun h=>?_) (fun h=>?_)
     ·refine U0 hS trivial 40 ⟨[(39,.p (vSl 1 CC x1))],[]⟩ (ids:=[]) ?_;cases h;exact kR hS
     ·refine kI hS h (fun h=>?_) (fun h=>?_)
      ·refine N0 hS trivial [4,6] ?_;obtain⟨c13,h⟩:=G5 h;refine P3 c13 ?_;cases h;exact kR hS
      ·refine U0 hS trivial 54 ⟨[(53,.p (vSl 1 CC x1))],[]⟩ (ids:=[]) ?_;cases h;exact kR hS
theorem Kz {N:Nat}{p_p:Pat}{y:Part}(h:Cg N p_p=some y) :FunO S Am [.p (.agg (C8 p_p))] [] (.p (DY y)) ([]) []:=by
 induction N generalizing p_p y with
 |zero=>cases (show (none:Option Part)=some y from h)
 |succ N ih=>exact JC hS hL (fun e=>ih e) h
end Go.AM
namespace Go.AM
open Go.Proofs
variable {S:X8}(hS:F6 S Tryz.prog) (hL:Oq S)
include hS hL
def Ep:Nat->Part->Sl A2->Option (Nat->Int)
 |0=>fun _ _=>none
 |N+1=>fun p w=>match p with
  |.nil=>none
  |.sound x no=>Bv N ⟨x,no⟩ w
  |.edge e=>Cf N ⟨e⟩ w
  |.seq n g=>Df (Ep N) N ⟨⟨n,g⟩⟩ w
  |.alt n g=>Dg (Ep N) N ⟨⟨n,g⟩⟩ w
  |.rep o mn mx=>Dh (Ep N) N ⟨o,mn,mx⟩ w
theorem Ty {N:Nat}{x:Part}{w:Sl A2}{y:Nat->Int}(h:Ep N x w=some y):Yl S Tryz.prog (DY x) "ablaut/pats.in" [(.p (vSl 2 A0 w))] (.p (.agg (cA 33 (pI .u64) y))):=by
 induction N generalizing x w y with
 |zero=>cases h
 |succ N ih=>
  cases x with
  |nil=>cases h
  |sound s no=>exact⟨_,_,Bt,rfl,by kernel_rfl,JB hS hL (p_x:=⟨s,no⟩) h⟩
  |edge e=>exact⟨_,_,Cb,rfl,by kernel_rfl,Ky hS hL (N:=N) (p_x:=⟨e⟩) h⟩
  |seq n g=>exact⟨_,_,Dc,rfl,by kernel_rfl,MC hS hL (fun e=>ih e) (p_x:=⟨⟨n,g⟩⟩) h⟩
  |alt n g=>exact⟨_,_,Da,rfl,by kernel_rfl,MD hS hL (fun e=>ih e) (p_x:=⟨⟨n,g⟩⟩) h⟩
  |rep o mn mx=>exact⟨_,_,Db,rfl,by kernel_rfl,ME hS hL (fun e=>ih e) (p_x:=⟨o,mn,mx⟩) h⟩
end Go.AM
namespace Go.AM
open IntKind (wrap)
open Go.Proofs
set_option maxRecDepth 10000
set_option maxHeartbeats 2000000
variable {S:X8}(hS:F6 S Tryz.prog) (hL:Oq S)
include hS hL
def Bw (N:Nat)(p_s:A2):Option Bool:=
 (Y1 N p_s).bind fun y1=>
 some (!y1)
theorem JD {N:Nat}{p_s:A2}{y:Bool}(h:Bw N p_s=some y) :FunO S Eh [.p (.agg (A0 p_s))] [] (pB y) ([]) []:=by unfold Bw at h;refine A4 hS Ju ?_;refine kC hS h (BQ hS hL) (fun y1 h=>?_);cases h;exact kR hS
def D7 (N:Nat)(p_s:Sl A2)(p_f:A2->Option Bool):Option Int:=
 CA N (fun self1 (x1:Int)=>
  if (decide (x1<(p_s.n:Int))) then
   if ((0:Int)<=x1/\x1<(p_s.n:Int))then
    (p_f (p_s.g x1.toNat)).bind fun y3=>
    if y3 then
     some x1
    else
     self1 (wrap .i64 (x1+1))
   else none
  else
   some (-1)
  ) 0
theorem Q6 {N:Nat}{p_s:Sl A2}{p_f:A2->Option Bool}{kp_f:Nat}(hp_f:∀{a0:A2}{b:Bool},p_f a0=some b->FunO S kp_f [.p (.agg (A0 a0))] [] (pB b) [] []){y:Int}(h:D7 N p_s p_f=some y) :FunO S H2 [.p (vSl 2 A0 p_s),.clo kp_f [] []] [] (pN y) ([]) []:=by
 unfold D7 at h;refine A4 hS Q5 ?_;refine Z6 hS trivial h (fun x1=>⟨[(8,pN x1),(7,pN (p_s.n:Int)),(1,.clo kp_f [] []),(0,.p (vSl 2 A0 p_s))],[]⟩) (ids:=[]) (fun _ _ _ _ _ self1 x1 hb1 h=>?_);refine kI hS h (fun h=>?_) (fun h=>?_)
 ·obtain⟨c8,h⟩:=G5 h;obtain⟨y3,e3,h⟩:=B5 h;refine B6 hS [] (And.intro c8 (by decide:(2:Nat)<=2)) (hp_f e3) ?_;refine kI hS h (fun h=>?_) (fun h=>?_)
  ·cases h;exact kR hS
  ·exact hb1 _ [] _ (wrap .i64 (x1+1)) trivial h
 ·cases h;exact kR hS
def B7 (N:Nat)(p_s:Sl A2)(p_f:A2->Option Bool):Option Bool:=
 (D7 N p_s p_f).bind fun y1=>
 some (decide (0<=y1))
theorem G3 {N:Nat}{p_s:Sl A2}{p_f:A2->Option Bool}{kp_f:Nat}(hp_f:∀{a0:A2}{b:Bool},p_f a0=some b->FunO S kp_f [.p (.agg (A0 a0))] [] (pB b) [] []){y:Bool}(h:B7 N p_s p_f=some y) :FunO S G1 [.p (vSl 2 A0 p_s),.clo kp_f [] []] [] (pB y) ([]) []:=by unfold B7 at h;refine A4 hS P1 ?_;refine kC hS h (Q6 hS hL (fun e=>hp_f e)) (fun y1 h=>?_);cases h;exact kR hS
def E6 (N:Nat)(q0:Sl Pat):Option (List (Int×Pat)):=
 CA N (fun self1 (x1:Int)=>
  if (decide (0<=x1)) then
   if ((0:Int)<=x1/\x1<(q0.n:Int))then
    Gb (x1,q0.g x1.toNat) (
     self1 (wrap .i64 (x1-1))
     )
   else none
  else
   some []
  ) (wrap .i64 ((q0.n:Int)-1))
theorem T6 {N:Nat}{q0:Sl Pat}{L:List (Int×Pat)}(h:E6 N q0=some L) :CO S C6 [] [.reg 0 0] [.cells [.p (vSl 7 C8 q0)]] (L.map (fun (x:Int×Pat)=>[pI .i64 x.1,(fun x=>.agg (C8 x)) x.2])):=by
 unfold E6 at h;refine CT hS T3 ?_;refine DV hS trivial h (fun x1 L1=>⟨[(3,pN x1),(1,.reg 0 0),(0,.yf 1)],[(1,.yld (L1.map (fun (x:Int×Pat)=>[pI .i64 x.1,(fun x=>.agg (C8 x)) x.2])) true),(0,.cells [.p (vSl 7 C8 q0)])]⟩) (ids:=[(0,0),(1,1)]) (fun _ _ _ _ _ self1 x1 L1 hb1 h=>?_);refine kI hS h (fun h=>?_) (fun h=>?_)
 ·obtain⟨c10,h⟩:=G5 h;obtain⟨L4,rfl,hcL4⟩:=IV h;replace h:=hcL4;refine Bo hS (And.intro c10 (by decide:(7:Nat)<=7)) (ys:=(fun (x:Int×Pat)=>[pI .i64 x.1,(fun x=>.agg (C8 x)) x.2]) (x1,q0.g x1.toNat)) (rest:=L4.map (fun (x:Int×Pat)=>[pI .i64 x.1,(fun x=>.agg (C8 x)) x.2])) ?_ ?_
  ·refine D5 hS trivial (b:=false) (fun c11=>?_) (fun c11=>?_)
   ·exact Bool.noConfusion ((rfl:false=false).symm.trans c11)
   ·exact hb1 _ [(0,0),(1,1)] _ (wrap .i64 (x1-1)) L4 trivial h
  ·refine D5 hS trivial (b:=true) (fun c12=>?_) (fun c12=>?_)
   ·exact A6 hS trivial (a:=.tup []) (objs:=[(.cells [.p (vSl 7 C8 q0)]),.yld [] false]) ⟨[],[(1,.yld [] false),(0,.cells [.p (vSl 7 C8 q0)])]⟩ [0,1] (ids:=[(0,0),(1,1)]) ⟨false,rfl,rfl,_,rfl⟩
   ·exact Bool.noConfusion ((rfl:true=true).symm.trans c12)
 ·obtain rfl:=B4 h;exact A6 hS trivial (a:=.tup []) (objs:=[(.cells [.p (vSl 7 C8 q0)]),.yld [] true]) ⟨[],[(1,.yld [] true),(0,.cells [.p (vSl 7 C8 q0)])]⟩ [0,1] (ids:=[(0,0),(1,1)]) ⟨true,rfl,rfl,_,rfl⟩
def F5 (N:Nat)(p_s:Sl Pat):Option (Sl Pat):=
 some p_s
theorem W3 {N:Nat}{p_s:Sl Pat}{y:Sl Pat}(h:F5 N p_s=some y) :FunO S K4 [.p (vSl 7 C8 p_s)] [] (.clo C6 [] [.reg 0 0]) ([.cells [.p (vSl 7 C8 y)]]) []:=by unfold F5 at h;refine A4 hS V6 ?_;obtain rfl:=B4 h;exact A6 hS trivial ⟨[(2,.clo C6 [] [.reg 2000 0])],[(2000,.cells [.p (vSl 7 C8 p_s)])]⟩ [2000] (ids:=[(2000,2000)]) ⟨rfl,rfl,rfl⟩
def Ay (N:Nat)(p_p:Pat):Option Int:=
 Dv N (fun self3 (x3:Sl Pat) (x4:Int)=>
  if (decide (0<(x3.n:Int))) then
   if (x4==40) then
    some 12
   else
    if (((0:Int)<=(wrap .i64 ((x3.n:Int)-1))/\(wrap .i64 ((x3.n:Int)-1))<(x3.n:Int))/\(wrap .i64 ((x3.n:Int)-1)).toNat<x3.n)then
     if ((0:Int)<=(wrap .i64 ((x3.n:Int)-1))/\(wrap .i64 ((x3.n:Int)-1))<=(x3.n:Int))then
      (Cd N (x3.g (wrap .i64 ((x3.n:Int)-1)).toNat)).bind fun y5=>
      if (y5 != 0) then
       some y5
      else
       if ((0:Int)<=(if 41<((x3.g (wrap .i64 ((x3.n:Int)-1)).toNat).L.n:Int)then 41 else ((x3.g (wrap .i64 ((x3.n:Int)-1)).toNat).L.n:Int))/\(if 41<((x3.g (wrap .i64 ((x3.n:Int)-1)).toNat).L.n:Int)then 41 else ((x3.g (wrap .i64 ((x3.n:Int)-1)).toNat).L.n:Int))<=((x3.g (wrap .i64 ((x3.n:Int)-1)).toNat).L.n:Int))then
        (F5 N ((x3.g (wrap .i64 ((x3.n:Int)-1)).toNat).L.take (if 41<((x3.g (wrap .i64 ((x3.n:Int)-1)).toNat).L.n:Int)then 41 else ((x3.g (wrap .i64 ((x3.n:Int)-1)).toNat).L.n:Int)).toNat)).bind fun y6=>
        (E6 N y6).bind fun L3=>
        V4 L3 (fun self4 (x7:Int×Pat) (z3:Sl Pat)=>
         if ((((z3.n+(Sl.of [Pat.nil]:Sl Pat).n)*64<=140737488355328/\z3.n+(Sl.of [Pat.nil]:Sl Pat).n<=140737488355328)/\((0:Int)<=(z3.n:Int)/\(z3.n:Int)<((z3.push Pat.nil).n:Int)))/\(z3.n:Int).toNat<(z3.push Pat.nil).n)then
          self4 ((z3.push Pat.nil).upd (z3.n:Int).toNat x7.2)
         else none
         ) (fun (z3:Sl Pat)=>
          self3 z3 (wrap .i64 (x4+1))
         ) (x3.take (wrap .i64 ((x3.n:Int)-1)).toNat)
       else none
     else none
    else none
  else
   some 0
  ) (Sl.of [p_p]:Sl Pat) 0
theorem Er {N:Nat}{p_p:Pat}{y:Int}(h:Ay N p_p=some y) :FunO S HG [.p (.agg (C8 p_p))] [] (pN y) ([]) []:=by
 unfold Ay at h;refine A4 hS Od ?_;refine J6 hS trivial 2 2000 (C8 p_p) ?_;refine N1 hS (And.intro (by decide:(7:Nat)<=7) (rfl:true=true)) h (fun x3 x4=>⟨[(4,pN x4),(3,.reg 4000 0)],[(4501,.vec Ek 7 x3.n (fun i=>C8 (x3.g i)) false),(4000,.cells [.vec 4501])]⟩) (ids:=[(4000,4000),(4501,12000)]) (fun _ _ _ _ _ self3 x3 x4 hb3 h=>?_) (hle:=klR [(1,.fn 1 (Sl.of [p_p]:Sl Pat).n (E9 [pI .i64 0,pI .u32 0,pI .u32 0,.v (.bool false),pI .i64 0,pI .i64 0,J5] [(0,C8 p_p)]) (fun i=>C8 ((Sl.of [p_p]:Sl Pat).g i)))] (al1 ⟨rfl,(fun i hi=>match i,hi with|0,_=>rfl|_+1,hi=>absurd hi (by omega))⟩ al0));refine kI hS h (fun h=>?_) (fun h=>?_)
 ·refine kI hS h (fun h=>?_) (fun h=>?_)
  ·cases h;exact kR hS
  ·obtain⟨c21,h⟩:=G5 h;refine J6 hS (And.intro (And.intro c21.1 (by decide:(7:Nat)<=7)) c21.2) 25 6000 (C8 (x3.g (wrap .i64 ((x3.n:Int)-1)).toNat)) ?_;obtain⟨c22,h⟩:=G5 h;refine Ym hS c22 30 4501 (wrap .i64 ((x3.n:Int)-1)).toNat 4508 (e:=Ek) (k:=7) (N:=x3.n) (f:=fun i=>C8 (x3.g i)) (by have hq:=c22;omega) ?_;obtain⟨y5,e7,h⟩:=B5 h;refine B6 hS [] (by decide:(7:Nat)<=7) (Kx hS hL e7) ?_;refine kI hS h (fun h=>?_) (fun h=>?_)
   ·cases h;exact kR hS
   ·refine U0 hS trivial 39 ⟨[(38,.p (vSl 7 C8 (x3.g (wrap .i64 ((x3.n:Int)-1)).toNat).L)),(36,.p (vSl 7 C8 (x3.g (wrap .i64 ((x3.n:Int)-1)).toNat).L)),(4,pN x4),(3,.reg 4000 0)],[(4508,.vec Ek 7 (x3.take (wrap .i64 ((x3.n:Int)-1)).toNat).n (fun i=>C8 ((x3.take (wrap .i64 ((x3.n:Int)-1)).toNat).g i)) false),(4000,.cells [.vec 4508])]⟩ (ids:=[(4000,4000),(4508,4508)]) ?_ (hle:=klR [(0,.fn (x3.g (wrap .i64 ((x3.n:Int)-1)).toNat).L.n (x3.g (wrap .i64 ((x3.n:Int)-1)).toNat).L.n (DX (x3.g (wrap .i64 ((x3.n:Int)-1)).toNat)) (fun i=>C8 ((x3.g (wrap .i64 ((x3.n:Int)-1)).toNat).L.g i))),(1,.fn (x3.g (wrap .i64 ((x3.n:Int)-1)).toNat).L.n (x3.g (wrap .i64 ((x3.n:Int)-1)).toNat).L.n (DX (x3.g (wrap .i64 ((x3.n:Int)-1)).toNat)) (fun i=>C8 ((x3.g (wrap .i64 ((x3.n:Int)-1)).toNat).L.g i)))] (al1 ⟨rfl,CX (x3.g (wrap .i64 ((x3.n:Int)-1)).toNat)⟩ (al1 ⟨rfl,CX (x3.g (wrap .i64 ((x3.n:Int)-1)).toNat)⟩ al0)));obtain⟨c24,h⟩:=G5 h;obtain⟨y6,e8,h⟩:=B5 h;refine B6 hS [] c24 (W3 hS hL e8) ?_;obtain⟨L3,e9,h⟩:=B5 h;refine CU hS trivial [44000] [4,3] 905 (fun z3=>⟨[(4,pN x4),(3,.reg 4000 0)],[(4500,.vec Ek 7 z3.n (fun i=>C8 (z3.g i)) false),(4000,.cells [.vec 4500])]⟩) (idl:=[(4000,4000),(4500,4508)]) h (T6 hS hL e9) (fun _=>by kernel_rfl) (fun _=>by kernel_rfl) (fun _=>by kernel_rfl) (fun _=>by kernel_rfl) (fun x7 _ self4 z3 hb4 h=>?_) (fun z3 h=>?_)
    ·refine Gc hS trivial ?_;refine US hS trivial 10000 (C8 x7.2) ?_;refine S9 hS trivial [(0,.l [4000]),(1,.n),(2,.l [4500]),(4,.a [51000,4500]),(5,.l [51000]),(6,.a [51000]),(7,.a [4000])] ?_;refine CS (by decide:(7:Nat)<=7) (x:=.sl true 7 1 (E9 [pI .i64 0,pI .u32 0,pI .u32 0,.v (.bool false),pI .i64 0,pI .i64 0,J5] [(0,[pI .i64 0,pI .u32 0,pI .u32 0,.v (.bool false),pI .i64 0,pI .i64 0,J5])])) ?_;obtain⟨c27,h⟩:=G5 h;refine P3 (And.intro (And.intro c27.1.1 c27.1.2) (And.intro (rfl:(7:Nat)=7) (And.intro c27.2 (by decide:(7:Nat)<=7)))) ?_;exact hb4 _ [(905,905),(4000,4000),(4500,51000)] _ ((z3.push Pat.nil).upd (z3.n:Int).toNat x7.2) trivial h (hle:=klR [(0,.fn (z3.n+1) ((z3.push Pat.nil).upd (z3.n:Int).toNat x7.2).n (fun l=>if l=(z3.n:Int).toNat then splice (AD z3.n (fun i=>C8 (z3.g i)) (E9 [pI .i64 0,pI .u32 0,pI .u32 0,.v (.bool false),pI .i64 0,pI .i64 0,J5] [(0,[pI .i64 0,pI .u32 0,pI .u32 0,.v (.bool false),pI .i64 0,pI .i64 0,J5])]) l) 0 [pI .i64 x7.2.Kind,pI .u32 x7.2.Is.Plus,pI .u32 x7.2.Is.Minus,.bb x7.2.Not,pI .i64 x7.2.Min,pI .i64 x7.2.Max,.sl false 7 x7.2.L.n (DX x7.2)]else (AD z3.n (fun i=>C8 (z3.g i)) (E9 [pI .i64 0,pI .u32 0,pI .u32 0,.v (.bool false),pI .i64 0,pI .i64 0,J5] [(0,[pI .i64 0,pI .u32 0,pI .u32 0,.v (.bool false),pI .i64 0,pI .i64 0,J5])])) l) (fun i=>C8 (((z3.push Pat.nil).upd (z3.n:Int).toNat x7.2).g i)))] (al1 ⟨rfl,setH (c:=C8) (v:=z3.push Pat.nil) (x:=x7.2) (app1H (c:=C8) (v:=z3) (z:=Pat.nil) same rfl) (fun _=>by simp[AD,E9,splice])⟩ al0))
    ·exact hb3 _ [(4000,4000),(4501,4500)] _ z3 (wrap .i64 (x4+1)) trivial h
 ·cases h;exact kR hS
def Bb (N:Nat)(p_p:Pat)(p_w:Sl A2):Option ((Nat->Int)×Int):=
 (Ay N p_p).bind fun y1=>
 if (y1 != 0) then
  some (fun _=>0,y1)
 else
  if (decide (32<(p_w.n:Int))) then
   some (fun _=>0,11)
  else
   (B7 N p_w (fun (u1:A2)=>Bw N u1)).bind fun y2=>
   if y2 then
    some (fun _=>0,14)
   else
    (Cg N p_p).bind fun y3=>
    (Ep N y3 p_w).bind fun y4=>
    some (y4,0)
theorem Gx {N:Nat}{p_p:Pat}{p_w:Sl A2}{y:(Nat->Int)×Int}(h:Bb N p_p p_w=some y) :FunO S Gs [.p (.agg (C8 p_p)),.p (vSl 2 A0 p_w)] [] (.tup [.p (.agg (cA 33 (pI .u64) y.1)),pN y.2]) ([]) []:=by
 unfold Bb at h;refine A4 hS Ms ?_;refine kC hS h (Er hS hL) (fun y1 h=>?_);refine kI hS h (fun h=>?_) (fun h=>?_)
 ·obtain rfl:=B4 h;exact A6 hS (And.intro rfl (D2 _ _):(0:Nat)=0/\(Y4 33 (fun i=>pI .u64 ((fun _=>0) i))).length=33) ⟨[(5,pN y1),(4,.reg 5000 0)],[(5000,.arr 33 (fun i=>pI .u64 ((fun _=>0) i)))]⟩ [] (ids:=[(5000,5000)]) ⟨rfl,rfl,rfl⟩ (hle:=klR [(1,.fn 33 33 (fun i=>[(fun i=>(cA 33 (pI .u64) (fun _=>0)).getD i default) i]) (fun i=>[pI .u64 ((fun _=>0) i)]))] (al1 ⟨rfl,C5 33 (fun i=>pI .u64 ((fun _=>0) i))⟩ al0))
 ·refine kI hS h (fun h=>?_) (fun h=>?_)
  ·obtain rfl:=B4 h;exact A6 hS (And.intro rfl (D2 _ _):(0:Nat)=0/\(Y4 33 (fun i=>pI .u64 ((fun _=>0) i))).length=33) ⟨[(5,pN 11),(4,.reg 5000 0)],[(5000,.arr 33 (fun i=>pI .u64 ((fun _=>0) i)))]⟩ [] (ids:=[(5000,5000)]) ⟨rfl,rfl,rfl⟩ (hle:=klR [(1,.fn 33 33 (fun i=>[(fun i=>(cA 33 (pI .u64) (fun _=>0)).getD i default) i]) (fun i=>[pI .u64 ((fun _=>0) i)]))] (al1 ⟨rfl,C5 33 (fun i=>pI .u64 ((fun _=>0) i))⟩ al0))
  ·refine kC hS h (G3 hS hL (fun e=>JD hS hL e)) (fun y2 h=>?_);refine kI hS h (fun h=>?_) (fun h=>?_)
   ·obtain rfl:=B4 h;exact A6 hS (And.intro rfl (D2 _ _):(0:Nat)=0/\(Y4 33 (fun i=>pI .u64 ((fun _=>0) i))).length=33) ⟨[(5,pN 14),(4,.reg 5000 0)],[(5000,.arr 33 (fun i=>pI .u64 ((fun _=>0) i)))]⟩ [] (ids:=[(5000,5000)]) ⟨rfl,rfl,rfl⟩ (hle:=klR [(1,.fn 33 33 (fun i=>[(fun i=>(cA 33 (pI .u64) (fun _=>0)).getD i default) i]) (fun i=>[pI .u64 ((fun _=>0) i)]))] (al1 ⟨rfl,C5 33 (fun i=>pI .u64 ((fun _=>0) i))⟩ al0))
   ·refine kC hS h (Kz hS hL) (fun y3 h=>?_);obtain⟨y4,e4,h⟩:=B5 h;refine Ik hS trivial (Ty hS hL e4) ?_;obtain rfl:=B4 h;exact A6 hS (And.intro rfl (D2 _ _):(0:Nat)=0/\(Y4 33 (fun i=>pI .u64 (y4 i))).length=33) ⟨[(5,pN 0),(4,.reg 5000 0)],[(5000,.arr 33 (fun i=>pI .u64 (y4 i)))]⟩ [] (ids:=[(5000,5000)]) ⟨rfl,rfl,rfl⟩ (hle:=klR [(1,.fn 33 33 (fun i=>[(fun i=>(cA 33 (pI .u64) y4).getD i default) i]) (fun i=>[pI .u64 (y4 i)]))] (al1 ⟨rfl,C5 33 (fun i=>pI .u64 (y4 i))⟩ al0))
def Di (N:Nat)(p_p:Pat)(p_w:Sl A2)(p_end:Int):Option ((Sl Int)×Int):=
 (Bb N p_p p_w).bind fun y1=>
 lt (fun (z1:Int)=>
  if (z1 != 0) then
   some ((Sl.nil:Sl Int),z1)
  else
   Dv N (fun self1 (x2:Sl Int) (x3:Int)=>
    if (decide (x3<(wrap .i64 ((p_w.n:Int)+1)))) then
     if ((((0:Int)<=x3/\x3<33)/\(0+x3.toNat*1)<33)/\(0:Int)<=p_end)then
      if ((G0 .and .u64 (shI .shr .u64 (y1.1 (0+x3.toNat*1)) p_end) 1)==1) then
       if ((x2.n+(Sl.of [x3]:Sl Int).n)*8<=140737488355328/\x2.n+(Sl.of [x3]:Sl Int).n<=140737488355328)then
        self1 (x2.push x3) (wrap .i64 (x3+1))
       else none
      else
       self1 x2 (wrap .i64 (x3+1))
     else none
    else
     some (x2,0)
    ) (Sl.nil:Sl Int) 0
  ) fun k1=>
  if (y1.2==0) then
   (Ba N p_w p_end).bind fun y3=>
   k1 y3
  else
   k1 y1.2
theorem MF {N:Nat}{p_p:Pat}{p_w:Sl A2}{p_end:Int}{y:(Sl Int)×Int}(h:Di N p_p p_w p_end=some y) :FunO S Gr [.p (.agg (C8 p_p)),.p (vSl 2 A0 p_w),pN p_end] [] (.tup [.vec 0,pN y.2]) ([.vec E3 1 y.1.n (fun i=>cI .i64 (y.1.g i)) true]) []:=by
 unfold Di at h;refine A4 hS Mr ?_;refine kC hS h (Gx hS hL) (fun y1 h=>?_);refine JT hS (And.intro rfl (D2 _ _):(0:Nat)=0/\(Y4 33 (fun i=>pI .u64 (y1.1 i))).length=33) (A7 hS) h 0 (fun z1=>⟨[(9,pN z1),(8,.reg 9000 0),(2,pN p_end),(1,.p (vSl 2 A0 p_w))],[(9000,.arr 33 (fun i=>pI .u64 (y1.1 i)))]⟩) (fun M1 k1 hb1 h=>?_) (fun z1 h=>?_)
 ·refine kI hS h (fun h=>?_) (fun h=>?_)
  ·refine kC hS h (Gw hS hL) (fun y3 h=>?_);exact hb1 _ [(9000,9000)] _ y3 trivial h (hle:=klR [(3,.fn 33 33 (fun i=>[(fun i=>(cA 33 (pI .u64) y1.1).getD i default) i]) (fun i=>[pI .u64 (y1.1 i)]))] (al1 ⟨rfl,C5 33 (fun i=>pI .u64 (y1.1 i))⟩ al0))
  ·exact hb1 _ [(9000,9000)] _ y1.2 trivial h (hle:=klR [(3,.fn 33 33 (fun i=>[(fun i=>(cA 33 (pI .u64) y1.1).getD i default) i]) (fun i=>[pI .u64 (y1.1 i)]))] (al1 ⟨rfl,C5 33 (fun i=>pI .u64 (y1.1 i))⟩ al0))
 ·refine kI hS h (fun h=>?_) (fun h=>?_)
  ·obtain rfl:=B4 h;exact A6 hS trivial ⟨[(7,pN z1),(6,.vec 7700)],[(7700,.vec E3 1 (Sl.nil:Sl Int).n (fun i=>cI .i64 ((Sl.nil:Sl Int).g i)) true)]⟩ [7700] (ids:=[]) ⟨rfl,rfl,rfl⟩
  ·refine N1 hS trivial h (fun x2 x3=>⟨[(29,pN x3),(28,pN (wrap .i64 ((p_w.n:Int)+1))),(10,.vec 11500),(8,.reg 9000 0),(2,pN p_end)],[(11500,.vec E3 1 x2.n (fun i=>cI .i64 (x2.g i)) false),(9000,.arr 33 (fun i=>pI .u64 (y1.1 i)))]⟩) (ids:=[(9000,9000)]) (fun _ _ _ _ _ self1 x2 x3 hb2 h=>?_);refine kI hS h (fun h=>?_) (fun h=>?_)
   ·obtain⟨c12,h⟩:=G5 h;refine D5 hS c12 (b:=(G0 .and .u64 (shI .shr .u64 (y1.1 (0+x3.toNat*1)) p_end) 1)==1) (fun c13=>?_) (fun c13=>?_)
    ·replace h:=itT c13 h;obtain⟨c14,h⟩:=G5 h;exact hb2 _ [(9000,9000),(11500,43000)] _ (x2.push x3) (wrap .i64 (x3+1)) (And.intro (rfl:true=true) c14) h (hle:=klR [(3,.fn (x2.n+1) (x2.push x3).n (AD x2.n (fun i=>cI .i64 (x2.g i)) (E9 [pI .i64 0] [(0,cI .i64 x3)])) (fun i=>cI .i64 ((x2.push x3).g i)))] (al1 ⟨rfl,NH (c:=cI .i64) (v:=x2) (x:=x3) (z:=[(pI .i64 0)]) same rfl rfl⟩ al0))
    ·replace h:=itF c13 h;exact hb2 _ [(9000,9000),(11500,11500)] _ x2 (wrap .i64 (x3+1)) trivial h
   ·obtain rfl:=B4 h;exact A6 hS trivial ⟨[(7,pN 0),(6,.vec 11500)],[(11500,.vec E3 1 x2.n (fun i=>cI .i64 (x2.g i)) true)]⟩ [11500] (ids:=[(11500,11500)]) ⟨rfl,rfl,rfl⟩
def I3 (N:Nat)(p_seq:List (Int)):Option (Sl Int):=
 V4 p_seq (fun self1 (x1:Int) (z1:Sl Int)=>
  if ((z1.n+(Sl.of [x1]:Sl Int).n)*8<=140737488355328/\z1.n+(Sl.of [x1]:Sl Int).n<=140737488355328)then
   self1 (z1.push x1)
  else none
  ) (fun (z1:Sl Int)=>
   some z1
  ) (Sl.nil:Sl Int)
theorem Az {N:Nat}{p_seq:List (Int)}{p_seq_0:Int}{kp_seq:Nat}(fp_seq:∃fn,YN[kp_seq]? = some fn/\fn.body.isSome=true/\(fn.name == "runtime.NumGoroutine")=false)(hp_seq:CO S kp_seq [] [.reg 0 0] [(.cells [(.p (pI .u64 p_seq_0))])] (p_seq.map (fun (x:Int)=>[(pI .i64) x]))){y:(Sl Int)}(h:I3 N p_seq=some y) :FunO S J2 [(.p J5),(.clo kp_seq [] [(.reg 0 0)])] [(.cells [(.p (pI .u64 p_seq_0))])] (.vec 0) ([(.vec E3 1 y.n (fun i=>(cI .i64) (y.g i)) true)]) [false]:=by
 unfold I3 at h;refine A4 hS P9 ?_;refine Ma hS trivial fp_seq [0] [2] 901 (fun z1=>⟨[(2,(.reg 3000 0))],[(3500,(.vec E3 1 z1.n (fun i=>(cI .i64) (z1.g i)) false)),(3000,(.cells [(.vec 3500)]))]⟩) (idl:=[(3000,3000)]) h hp_seq (fun _=>by kernel_rfl) (fun _=>by kernel_rfl) (fun _=>by kernel_rfl) (fun _=>by kernel_rfl) (fun x1 _ self1 z1 hb1 h=>?_) (fun z1 h=>?_)
 ·refine Gc hS trivial ?_;obtain⟨c1,h⟩:=G5 h;exact hb1 _ [(901,901),(3000,3000),(3500,12000)] _ (z1.push x1) (And.intro (rfl:true=true) c1) h (hle:=klR [(0,.fn (z1.n+1) (z1.push x1).n (AD z1.n (fun i=>(cI .i64) (z1.g i)) (E9 [(pI .i64 0)] [(0,(cI .i64) x1)])) (fun i=>(cI .i64) ((z1.push x1).g i)))] (al1 ⟨rfl,(NH (c:=(cI .i64)) (v:=z1) (x:=x1) (z:=[(pI .i64 0)]) same rfl rfl)⟩ al0))
 ·obtain rfl:=B4 h;exact A6 hS trivial ⟨[(4,(.vec 3500))],[(3500,(.vec E3 1 z1.n (fun i=>(cI .i64) (z1.g i)) true))]⟩ [3500] (ids:=[(3500,3500)]) ⟨rfl,rfl,rfl⟩
def S2 (N:Nat)(p_seq:List (Int)):Option (Sl Int):=
 (I3 N p_seq).bind fun y1=>
 some y1
theorem Es {N:Nat}{p_seq:List (Int)}{p_seq_0:Int}{kp_seq:Nat}(fp_seq:∃fn,YN[kp_seq]? = some fn/\fn.body.isSome=true/\(fn.name == "runtime.NumGoroutine")=false)(hp_seq:CO S kp_seq [] [.reg 0 0] [(.cells [(.p (pI .u64 p_seq_0))])] (p_seq.map (fun (x:Int)=>[(pI .i64) x]))){y:(Sl Int)}(h:S2 N p_seq=some y) :FunO S U1 [(.clo kp_seq [] [(.reg 0 0)])] [(.cells [(.p (pI .u64 p_seq_0))])] (.vec 0) ([(.vec E3 1 y.n (fun i=>(cI .i64) (y.g i)) true)]) [false]:=by unfold S2 at h;refine A4 hS AU ?_;obtain⟨y1,e1,h⟩:=B5 h;refine B6 hS [0] trivial (Az hS hL fp_seq hp_seq e1) ?_;obtain rfl:=B4 h;exact A6 hS trivial ⟨[(2,(.vec 5000))],[(5000,(.vec E3 1 y1.n (fun i=>(cI .i64) (y1.g i)) true))]⟩ [5000] (ids:=[(5000,5000)]) ⟨rfl,rfl,rfl⟩
def Fu (N:Nat)(p_p:Pat)(p_w:Sl A2)(p_at:Int):Option ((Sl Int)×Int):=
 (Bb N p_p p_w).bind fun y1=>
 lt (fun (z1:Int)=>
  if (z1 != 0) then
   some ((Sl.nil:Sl Int),z1)
  else
   if (((0:Int)<=p_at/\p_at<33)/\(0+p_at.toNat*1)<33)then
    (V9 N (y1.1 (0+p_at.toNat*1))).bind fun y4=>
    (Q1 N y4).bind fun L1=>
    (S2 N L1).bind fun y5=>
    some (y5,0)
   else none
  ) fun k1=>
  if (y1.2==0) then
   (Ba N p_w p_at).bind fun y3=>
   k1 y3
  else
   k1 y1.2
theorem PL {N:Nat}{p_p:Pat}{p_w:Sl A2}{p_at:Int}{y:(Sl Int)×Int}(h:Fu N p_p p_w p_at=some y) :FunO S Jr [.p (.agg (C8 p_p)),.p (vSl 2 A0 p_w),pN p_at] [] (.tup [.vec 0,pN y.2]) ([.vec E3 1 y.1.n (fun i=>cI .i64 (y.1.g i)) true]) []:=by
 unfold Fu at h;refine A4 hS PE ?_;refine kC hS h (Gx hS hL) (fun y1 h=>?_);refine JT hS (And.intro rfl (D2 _ _):(0:Nat)=0/\(Y4 33 (fun i=>pI .u64 (y1.1 i))).length=33) (A7 hS) h 0 (fun z1=>⟨[(9,pN z1),(8,.reg 9000 0),(2,pN p_at)],[(9000,.arr 33 (fun i=>pI .u64 (y1.1 i)))]⟩) (fun M1 k1 hb1 h=>?_) (fun z1 h=>?_)
 ·refine kI hS h (fun h=>?_) (fun h=>?_)
  ·refine kC hS h (Gw hS hL) (fun y3 h=>?_);exact hb1 _ [(9000,9000)] _ y3 trivial h (hle:=klR [(2,.fn 33 33 (fun i=>[(fun i=>(cA 33 (pI .u64) y1.1).getD i default) i]) (fun i=>[pI .u64 (y1.1 i)]))] (al1 ⟨rfl,C5 33 (fun i=>pI .u64 (y1.1 i))⟩ al0))
  ·exact hb1 _ [(9000,9000)] _ y1.2 trivial h (hle:=klR [(2,.fn 33 33 (fun i=>[(fun i=>(cA 33 (pI .u64) y1.1).getD i default) i]) (fun i=>[pI .u64 (y1.1 i)]))] (al1 ⟨rfl,C5 33 (fun i=>pI .u64 (y1.1 i))⟩ al0))
 ·refine kI hS h (fun h=>?_) (fun h=>?_)
  ·obtain rfl:=B4 h;exact A6 hS trivial ⟨[(7,pN z1),(6,.vec 7700)],[(7700,.vec E3 1 (Sl.nil:Sl Int).n (fun i=>cI .i64 ((Sl.nil:Sl Int).g i)) true)]⟩ [7700] (ids:=[]) ⟨rfl,rfl,rfl⟩
  ·obtain⟨c5,h⟩:=G5 h;obtain⟨y4,e4,h⟩:=B5 h;refine B6 hS [] c5 (Ce hS hL e4) ?_;obtain⟨L1,e5,h⟩:=B5 h;obtain⟨y5,e6,h⟩:=B5 h;refine B6 hS [28000] trivial (Es hS hL ⟨_,DC,by decide +kernel,by decide +kernel⟩ (AJ hS hL e5) e6) ?_;obtain rfl:=B4 h;exact A6 hS trivial ⟨[(7,pN 0),(6,.vec 29000)],[(29000,.vec E3 1 y5.n (fun i=>cI .i64 (y5.g i)) true)]⟩ [29000] (ids:=[(29000,29000)]) ⟨rfl,rfl,rfl⟩
end Go.AM
namespace Go.AM
open IntKind (wrap)
open Go.Proofs
set_option maxRecDepth 10000
set_option maxHeartbeats 2000000
variable {S:X8}(hS:F6 S Tryz.prog) (hL:Oq S)
include hS hL
def Fv (N:Nat)(p_s:Str):Option Bool:=
 lt (fun (z1:Bool)=>
  some z1
  ) fun k1=>
  if ((p_s==[]) != true) then
   if (decide ((p_s.length:Int)<=24)) then
    (Fd N p_s [97,98,99,100,101,102,103,104,105,106,107,108,109,110,111,112,113,114,115,116,117,118,119,120,121,122,65,66,67,68,69,70,71,72,73,74,75,76,77,78,79,80,81,82,83,84,85,86,87,88,89,90,48,49,50,51,52,53,54,55,56,57,45]).bind fun y2=>
    k1 ((y2==[]) != false)
   else
    k1 false
  else
   k1 false
theorem PM {N:Nat}{p_s:Str}{y:Bool}(h:Fv N p_s=some y) :FunO S Jl [.p (.str p_s)] [] (pB y) ([]) []:=by
 unfold Fv at h;refine A4 hS Pz ?_;refine JT hS trivial (A7 hS) h 0 (fun z1=>⟨[(2,pB z1)],[]⟩) (fun M1 k1 hb1 h=>?_) (fun z1 h=>?_)
 ·refine kG hS h (fun h=>?_) (fun h=>?_)
  ·refine kG hS h (fun h=>?_) (fun h=>?_)
   ·refine kC hS h (Kv hS hL) (fun y2 h=>?_);exact hb1 _ [] _ ((y2==[]) != false) trivial h
   ·exact hb1 _ [] _ false trivial h
  ·exact hb1 _ [] _ false trivial h
 ·cases h;exact kR hS
def Ha (N:Nat)(p_x:AF)(p_k:Int):Option Bool:=
 lt (fun (z1:Bool)=>
  if z1 then
   some false
  else
   if ((((G0 .andNot .u32 (G0 .or .u32 p_x.Clear p_x.Take) 16777215) != 0)||((G0 .and .u32 p_x.Clear (G0 .or .u32 p_x.Set.Plus p_x.Set.Minus)) != 0))||((G0 .and .u32 p_x.Take (G0 .or .u32 (G0 .or .u32 p_x.Set.Plus p_x.Set.Minus) p_x.Clear)) != 0)) then
    some false
   else
    if (p_x.Take==0) then
     some (p_x.Of==0)
    else
     some ((decide (0<=p_x.Of))&&(decide (p_x.Of<p_k)))
  ) fun k1=>
  if (decide (p_x.From<(-1))) then
   k1 true
  else
   if (decide (p_k<=p_x.From)) then
    k1 true
   else
    (I0 N p_x.Set).bind fun y2=>
    k1 (!y2)
theorem RN {N:Nat}{p_x:AF}{p_k:Int}{y:Bool}(h:Ha N p_x p_k=some y) :FunO S Lo [.p (.agg (P7 p_x)),pN p_k] [] (pB y) ([]) []:=by
 unfold Ha at h;refine A4 hS RI ?_;refine JT hS trivial (A7 hS) h 0 (fun z1=>⟨[(13,pB z1),(5,pU (G0 .or .u32 p_x.Set.Plus p_x.Set.Minus)),(2,.reg 3000 0),(1,pN p_k)],[(3000,.cells ((P7 p_x).map .p))]⟩) (fun M1 k1 hb1 h=>?_) (fun z1 h=>?_)
 ·refine kG hS h (fun h=>?_) (fun h=>?_)
  ·exact hb1 _ [(3000,3000)] _ true trivial h
  ·refine kG hS h (fun h=>?_) (fun h=>?_)
   ·exact hb1 _ [(3000,3000)] _ true trivial h
   ·refine kC hS h (N5 hS hL) (fun y2 h=>?_);exact hb1 _ [(3000,3000)] _ (!y2) trivial h
 ·refine kI hS h (fun h=>?_) (fun h=>?_)
  ·cases h;exact kR hS
  ·refine kB hS (A7 hS) trivial trivial 16 (.o (.o (.a ((G0 .andNot .u32 (G0 .or .u32 p_x.Clear p_x.Take) 16777215) != 0)) (.a ((G0 .and .u32 p_x.Clear (G0 .or .u32 p_x.Set.Plus p_x.Set.Minus)) != 0))) (.a ((G0 .and .u32 p_x.Take (G0 .or .u32 (G0 .or .u32 p_x.Set.Plus p_x.Set.Minus) p_x.Clear)) != 0))) ?_;refine kI hS h (fun h=>?_) (fun h=>?_)
   ·cases h;exact kR hS
   ·refine kI hS h (fun h=>?_) (fun h=>?_)
    ·cases h;exact kR hS
    ·refine kB hS (A7 hS) trivial trivial 5 (.n (.a (decide (0<=p_x.Of))) (.a (decide (p_x.Of<p_k)))) ?_;cases h;exact kR hS
def Dj (N:Nat)(p_x:AF)(q0:Int):Option Bool:=
 (Ha N p_x q0).bind fun y1=>
 some (!y1)
theorem MG {N:Nat}{p_x:AF}{q0:Int}{y:Bool}(h:Dj N p_x q0=some y) :FunO S Gl [.p (.agg (P7 p_x)),.reg 0 0] [.cells [pN q0]] (pB y) ([.cells [pN q0]]) [true]:=by unfold Dj at h;refine A4 hS Mm ?_;refine kC hS h (RN hS hL) (fun y1 h=>?_);obtain rfl:=B4 h;exact A6 hS trivial ⟨[(3,pB (!y1))],[(0,.cells [pN q0])]⟩ [0] (ids:=[(0,0)]) ⟨rfl,rfl,rfl⟩
def Dk (N:Nat)(p_s:A2):Option Bool:=
 (I0 N p_s).bind fun y1=>
 some (!y1)
theorem MH {N:Nat}{p_s:A2}{y:Bool}(h:Dk N p_s=some y) :FunO S Gm [.p (.agg (A0 p_s))] [] (pB y) ([]) []:=by unfold Dk at h;refine A4 hS Mn ?_;refine kC hS h (N5 hS hL) (fun y1 h=>?_);cases h;exact kR hS
def F1 (N:Nat)(p_s:Sl AF)(p_f:AF->Option Bool):Option Int:=
 CA N (fun self1 (x1:Int)=>
  if (decide (x1<(p_s.n:Int))) then
   if ((0:Int)<=x1/\x1<(p_s.n:Int))then
    (p_f (p_s.g x1.toNat)).bind fun y3=>
    if y3 then
     some x1
    else
     self1 (wrap .i64 (x1+1))
   else none
  else
   some (-1)
  ) 0
theorem U5 {N:Nat}{p_s:Sl AF}{p_f:AF->Option Bool}{p_f_0:Int}{kp_f:Nat}(hp_f:∀{a0:AF}{b:Bool},p_f a0=some b->FunO S kp_f [.p (.agg (P7 a0)),.reg 0 0] [.cells [pN p_f_0]] (pB b) [.cells [pN p_f_0]] [true]){y:Int}(h:F1 N p_s p_f=some y) :FunO S J7 [.p (vSl 6 P7 p_s),.clo kp_f [] [.reg 0 0]] [.cells [pN p_f_0]] (pN y) ([.cells [pN p_f_0]]) [true]:=by
 unfold F1 at h;refine A4 hS U2 ?_;refine Z6 hS trivial h (fun x1=>⟨[(8,pN x1),(7,pN (p_s.n:Int)),(1,.clo kp_f [] [.reg 0 0]),(0,.p (vSl 6 P7 p_s))],[(0,.cells [pN p_f_0])]⟩) (ids:=[(0,0)]) (fun _ _ _ _ _ self1 x1 hb1 h=>?_);refine kI hS h (fun h=>?_) (fun h=>?_)
 ·obtain⟨c8,h⟩:=G5 h;obtain⟨y3,e3,h⟩:=B5 h;refine B6 hS [0] (And.intro c8 (by decide:(6:Nat)<=6)) (hp_f e3) ?_;refine kI hS h (fun h=>?_) (fun h=>?_)
  ·obtain rfl:=B4 h;exact A6 hS trivial ⟨[(4,pN x1)],[(0,.cells [pN p_f_0])]⟩ [0] (ids:=[(0,0)]) ⟨rfl,rfl,rfl⟩
  ·exact hb1 _ [(0,0)] _ (wrap .i64 (x1+1)) trivial h
 ·obtain rfl:=B4 h;exact A6 hS trivial ⟨[(4,pN (-1))],[(0,.cells [pN p_f_0])]⟩ [0] (ids:=[(0,0)]) ⟨rfl,rfl,rfl⟩
def D8 (N:Nat)(p_s:Sl AF)(p_f:AF->Option Bool):Option Bool:=
 (F1 N p_s p_f).bind fun y1=>
 some (decide (0<=y1))
theorem R0 {N:Nat}{p_s:Sl AF}{p_f:AF->Option Bool}{p_f_0:Int}{kp_f:Nat}(hp_f:∀{a0:AF}{b:Bool},p_f a0=some b->FunO S kp_f [.p (.agg (P7 a0)),.reg 0 0] [.cells [pN p_f_0]] (pB b) [.cells [pN p_f_0]] [true]){y:Bool}(h:D8 N p_s p_f=some y) :FunO S H8 [.p (vSl 6 P7 p_s),.clo kp_f [] [.reg 0 0]] [.cells [pN p_f_0]] (pB y) ([.cells [pN p_f_0]]) [true]:=by unfold D8 at h;refine A4 hS Q8 ?_;obtain⟨y1,e1,h⟩:=B5 h;refine B6 hS [0] trivial (U5 hS hL (fun e=>hp_f e) e1) ?_;obtain rfl:=B4 h;exact A6 hS trivial ⟨[(4,pB (decide (0<=y1)))],[(0,.cells [pN p_f_0])]⟩ [0] (ids:=[(0,0)]) ⟨rfl,rfl,rfl⟩
def Bx (N:Nat)(p_l:Law):Option Int:=
 (Fv N p_l.Name).bind fun y1=>
 if (!y1) then
  some 17
 else
  (Ay N p_l.Left).bind fun y2=>
  if (y2 != 0) then
   some 17
  else
   (Ay N p_l.Right).bind fun y3=>
   if (y3 != 0) then
    some 17
   else
    if (decide (4<(p_l.If.n:Int))) then
     some 17
    else
     if (decide (6<(p_l.Out.n:Int))) then
      some 17
     else
      if ((wrap .i64 ((p_l.If.n:Int)+(p_l.Out.n:Int)))==0) then
       some 17
      else
       if ((decide (p_l.Mode<1))||(decide (3<p_l.Mode))) then
        some 17
       else
        (B7 N p_l.If (fun (u1:A2)=>Dk N u1)).bind fun y4=>
        if y4 then
         some 17
        else
         (D8 N p_l.Out (fun (u2:AF)=>Dj N u2 (p_l.If.n:Int))).bind fun y5=>
         if y5 then
          some 17
         else
          some 0
theorem Fw {N:Nat}{p_l:Law}{y:Int}(h:Bx N p_l=some y) :FunO S Jj [.p (.agg (B3 p_l))] [] (pN y) ([]) []:=by
 unfold Bx at h;refine A4 hS Py ?_;refine kC hS h (PM hS hL) (fun y1 h=>?_);refine D5 hS trivial (b:=!y1) (fun c1=>?_) (fun c1=>?_)
 ·replace h:=itT c1 h;refine D5 hS trivial (b:=!y1) (fun c2=>?_) (fun c2=>?_)
  ·cases h;exact kR hS
  ·exact Bool.noConfusion (c1.symm.trans c2)
 ·replace h:=itF c1 h;refine kC hS h (Er hS hL) (fun y2 h=>?_);refine D5 hS trivial (b:=y2 != 0) (fun c3=>?_) (fun c3=>?_)
  ·replace h:=itT c3 h;refine D5 hS trivial (b:=y2 != 0) (fun c4=>?_) (fun c4=>?_)
   ·cases h;exact kR hS
   ·exact Bool.noConfusion (c3.symm.trans c4)
  ·replace h:=itF c3 h;refine kC hS h (Er hS hL) (fun y3 h=>?_);refine D5 hS trivial (b:=y3 != 0) (fun c5=>?_) (fun c5=>?_)
   ·replace h:=itT c5 h;refine D5 hS trivial (b:=y3 != 0) (fun c6=>?_) (fun c6=>?_)
    ·cases h;exact kR hS
    ·exact Bool.noConfusion (c5.symm.trans c6)
   ·replace h:=itF c5 h;refine D5 hS trivial (b:=decide (4<(p_l.If.n:Int))) (fun c7=>?_) (fun c7=>?_)
    ·replace h:=itT c7 h;refine D5 hS trivial (b:=decide (4<(p_l.If.n:Int))) (fun c8=>?_) (fun c8=>?_)
     ·cases h;exact kR hS
     ·exact Bool.noConfusion (c7.symm.trans c8)
    ·replace h:=itF c7 h;refine D5 hS trivial (b:=decide (6<(p_l.Out.n:Int))) (fun c9=>?_) (fun c9=>?_)
     ·replace h:=itT c9 h;refine D5 hS trivial (b:=decide (6<(p_l.Out.n:Int))) (fun c10=>?_) (fun c10=>?_)
      ·cases h;exact kR hS
      ·exact Bool.noConfusion (c9.symm.trans c10)
     ·replace h:=itF c9 h;refine D5 hS trivial (b:=(wrap .i64 ((p_l.If.n:Int)+(p_l.Out.n:Int)))==0) (fun c11=>?_) (fun c11=>?_)
      ·replace h:=itT c11 h;refine D5 hS trivial (b:=(wrap .i64 ((p_l.If.n:Int)+(p_l.Out.n:Int)))==0) (fun c12=>?_) (fun c12=>?_)
       ·cases h;exact kR hS
       ·exact Bool.noConfusion (c11.symm.trans c12)
      ·replace h:=itF c11 h;refine kB hS (A7 hS) trivial trivial 4 (.o (.a (decide (p_l.Mode<1))) (.a (decide (3<p_l.Mode)))) ?_;refine D5 hS trivial (b:=(decide (p_l.Mode<1))||(decide (3<p_l.Mode))) (fun c13=>?_) (fun c13=>?_)
       ·replace h:=itT c13 h;refine D5 hS trivial (b:=(decide (p_l.Mode<1))||(decide (3<p_l.Mode))) (fun c14=>?_) (fun c14=>?_)
        ·cases h;exact kR hS
        ·exact Bool.noConfusion (c13.symm.trans c14)
       ·replace h:=itF c13 h;refine kC hS h (G3 hS hL (fun e=>MH hS hL e)) (fun y4 h=>?_);refine D5 hS trivial (b:=y4) (fun c15=>?_) (fun c15=>?_)
        ·replace h:=itT c15 h;refine D5 hS trivial (b:=y4) (fun c16=>?_) (fun c16=>?_)
         ·cases h;exact kR hS
         ·exact Bool.noConfusion (c15.symm.trans c16)
        ·replace h:=itF c15 h;obtain⟨y5,e5,h⟩:=B5 h;refine B6 hS [4000] trivial (R0 hS hL (fun e=>MG hS hL e) e5) ?_;refine kI hS h (fun h=>?_) (fun h=>?_)
         ·cases h;exact kR hS
         ·cases h;exact kR hS
def Fx (N:Nat)(p_l:Law)(p_w:Sl A2):Option Int:=
 (Bx N p_l).bind fun y1=>
 if (y1 != 0) then
  some y1
 else
  (Aw N p_w).bind fun y2=>
  some y2
theorem PN {N:Nat}{p_l:Law}{p_w:Sl A2}{y:Int}(h:Fx N p_l p_w=some y) :FunO S Jq [.p (.agg (B3 p_l)),.p (vSl 2 A0 p_w)] [] (pN y) ([]) []:=by
 unfold Fx at h;refine A4 hS PC ?_;refine kC hS h (Fw hS hL) (fun y1 h=>?_);refine kI hS h (fun h=>?_) (fun h=>?_)
 ·cases h;exact kR hS
 ·refine kC hS h (Eo hS hL) (fun y2 h=>?_);cases h;exact kR hS
def Ch (N:Nat)(p_at:Int)(q0:Law)(q1:Sl A2):Option Bool:=
 (Di N q0.Left q1 p_at).bind fun y1=>
 if ((y1.1.n:Int)==0) then
  some false
 else
  (Fu N q0.Right q1 (wrap .i64 (p_at+(q0.If.n:Int)))).bind fun y2=>
  some (decide (0<(y2.1.n:Int)))
theorem KA {N:Nat}{p_at:Int}{q0:Law}{q1:Sl A2}{y:Bool}(h:Ch N p_at q0 q1=some y) :FunO S Q3 [pN p_at,.reg 0 0,.reg 1 0] [.cells ((B3 q0).map .p),.cells [.p (vSl 2 A0 q1)]] (pB y) ([.cells ((B3 q0).map .p),.cells [.p (vSl 2 A0 q1)]]) [true,true]:=by
 unfold Ch at h;refine A4 hS Kr ?_;refine kC hS h (MF hS hL) (fun y1 h=>?_);refine kI hS h (fun h=>?_) (fun h=>?_)
 ·obtain rfl:=B4 h;exact A6 hS trivial ⟨[(4,pB false)],[(1,.cells [.p (vSl 2 A0 q1)]),(0,.cells ((B3 q0).map .p))]⟩ [0,1] (ids:=[(0,0),(1,1)]) ⟨rfl,rfl,rfl⟩
 ·refine kC hS h (PL hS hL) (fun y2 h=>?_);obtain rfl:=B4 h;exact A6 hS trivial ⟨[(4,pB (decide (0<(y2.1.n:Int))))],[(1,.cells [.p (vSl 2 A0 q1)]),(0,.cells ((B3 q0).map .p))]⟩ [0,1] (ids:=[(0,0),(1,1)]) ⟨rfl,rfl,rfl⟩
def Et (N:Nat)(p_l:Law)(p_w:Sl A2):Option (Law×(Sl A2)):=
 some (p_l,p_w)
theorem Ow {N:Nat}{p_l:Law}{p_w:Sl A2}{y:Law×(Sl A2)}(h:Et N p_l p_w=some y) :FunO S HJ [.p (.agg (B3 p_l)),.p (vSl 2 A0 p_w)] [] (.clo Q3 [] [.reg 0 0,.reg 1 0]) ([.cells ((B3 y.1).map .p),.cells [.p (vSl 2 A0 y.2)]]) []:=by unfold Et at h;refine A4 hS Ol ?_;obtain rfl:=B4 h;exact A6 hS trivial ⟨[(4,.clo Q3 [] [.reg 3000 0,.reg 4000 0])],[(4000,.cells [.p (vSl 2 A0 p_w)]),(3000,.cells ((B3 p_l).map .p))]⟩ [3000,4000] (ids:=[(3000,3000),(4000,4000)]) ⟨rfl,rfl,rfl⟩
def Gy (N:Nat)(p_l:Law)(p_cut:Sl A2):Option (Sl A2):=
 Dv N (fun self1 (x1:Sl A2) (x2:Int)=>
  if (decide (x2<(p_l.Out.n:Int))) then
   if ((0:Int)<=x2/\x2<(p_l.Out.n:Int))then
    if ((decide (0<=(p_l.Out.g x2.toNat).From))=true->((0:Int)<=(p_l.Out.g x2.toNat).From/\(p_l.Out.g x2.toNat).From<(p_cut.n:Int)))then
     (Cc N (⟨(if (decide (0<=(p_l.Out.g x2.toNat).From)) then (p_cut.g (p_l.Out.g x2.toNat).From.toNat).Plus else 0),(if (decide (0<=(p_l.Out.g x2.toNat).From)) then (p_cut.g (p_l.Out.g x2.toNat).From.toNat).Minus else 0)⟩:A2) (p_l.Out.g x2.toNat).Clear (p_l.Out.g x2.toNat).Set).bind fun y5=>
     if ((p_l.Out.g x2.toNat).Take != 0) then
      if ((0:Int)<=(p_l.Out.g x2.toNat).Of/\(p_l.Out.g x2.toNat).Of<(p_cut.n:Int))then
       (Em N y5.1 (p_cut.g (p_l.Out.g x2.toNat).Of.toNat) (p_l.Out.g x2.toNat).Take).bind fun y6=>
       if ((x1.n+(Sl.of [y6.1]:Sl A2).n)*8<=140737488355328/\x1.n+(Sl.of [y6.1]:Sl A2).n<=140737488355328)then
        self1 (x1.push y6.1) (wrap .i64 (x2+1))
       else none
      else none
     else
      if ((x1.n+(Sl.of [y5.1]:Sl A2).n)*8<=140737488355328/\x1.n+(Sl.of [y5.1]:Sl A2).n<=140737488355328)then
       self1 (x1.push y5.1) (wrap .i64 (x2+1))
      else none
    else none
   else none
  else
   some x1
  ) (Sl.nil:Sl A2) 0
theorem Ox {N:Nat}{p_l:Law}{p_cut:Sl A2}{y:Sl A2}(h:Gy N p_l p_cut=some y) :FunO S Oi [.p (.agg (B3 p_l)),.p (vSl 2 A0 p_cut)] [] (.p (vSl 2 A0 y)) ([]) []:=by
 unfold Gy at h;refine A4 hS Tt ?_;refine J6 hS trivial 4 3000 (B3 p_l) ?_;refine N1 hS trivial h (fun x1 x2=>⟨[(12,pN x2),(11,pN (p_l.Out.n:Int)),(10,.p (vSl 6 P7 p_l.Out)),(5,.vec 6500),(1,.p (vSl 2 A0 p_cut))],[(6500,.vec C9 2 x1.n (fun i=>A0 (x1.g i)) false)]⟩) (ids:=[]) (fun _ _ _ _ _ self1 x1 x2 hb3 h=>?_);refine kI hS h (fun h=>?_) (fun h=>?_)
 ·obtain⟨c16,h⟩:=G5 h;refine J6 hS (And.intro c16 (by decide:(6:Nat)<=6)) 8 8000 (P7 (p_l.Out.g x2.toNat)) ?_;obtain⟨c18,h⟩:=G5 h;obtain⟨t5,ht5⟩:∃x:Int,x=(if (decide (0<=(p_l.Out.g x2.toNat).From)) then (p_cut.g (p_l.Out.g x2.toNat).From.toNat).Plus else 0):=⟨_,rfl⟩;obtain⟨t6,ht6⟩:∃x:Int,x=(if (decide (0<=(p_l.Out.g x2.toNat).From)) then (p_cut.g (p_l.Out.g x2.toNat).From.toNat).Minus else 0):=⟨_,rfl⟩;refine Th hS trivial (A7 hS) 0 ⟨[(12,pN x2),(11,pN (p_l.Out.n:Int)),(10,.p (vSl 6 P7 p_l.Out)),(8,.reg 9000 0),(7,.p (.ptr (P7 (p_l.Out.g x2.toNat)))),(5,.vec 6500),(1,.p (vSl 2 A0 p_cut))],[(9000,.cells [pU t5,pU t6]),(6500,.vec C9 2 x1.n (fun i=>A0 (x1.g i)) false)]⟩ (fun M3 hb4=>?_) ?_
  ·refine D5 hS trivial (b:=decide (0<=(p_l.Out.g x2.toNat).From)) (fun c19=>?_) (fun c19=>?_)
   ·exact hb4 _ [(6500,6500),(9000,9000)] _ (And.intro (c18 c19) (by decide:(2:Nat)<=2)) (hle:=klR [(5,.eq (pI .u32 (p_cut.g (p_l.Out.g x2.toNat).From.toNat).Plus) (pI .u32 t5)),(6,.eq (pI .u32 (p_cut.g (p_l.Out.g x2.toNat).From.toNat).Minus) (pI .u32 t6))] (al1 (by simp only[ht5,ht6,c19,Leaf.ok,pm,if_true,if_false]) (al1 (by simp only[ht5,ht6,c19,Leaf.ok,pm,if_true,if_false]) al0)))
   ·exact hb4 _ [(6500,6500),(9000,9000)] _ trivial (hle:=klR [(5,.eq (pI .u32 0) (pI .u32 t5)),(6,.eq (pI .u32 0) (pI .u32 t6))] (al1 (by simp only[ht5,ht6,c19,Leaf.ok,pm,if_true,if_false]) (al1 (by simp only[ht5,ht6,c19,Leaf.ok,pm,if_true,if_false]) al0)))
  ·subst ht6;subst ht5;obtain⟨y5,e5,h⟩:=B5 h;refine B6 hS [] (by decide:(2:Nat)<=4) (Kw hS hL e5) ?_;refine kI hS h (fun h=>?_) (fun h=>?_)
   ·refine N0 hS trivial [3,4,5,7,8] ?_;obtain⟨c21,h⟩:=G5 h;obtain⟨y6,e6,h⟩:=B5 h;refine At (And.intro c21 (by decide:(2:Nat)<=2)) (Ou hS hL e6) ?_;refine P3 trivial ?_;obtain⟨c22,h⟩:=G5 h;exact hb3 _ [(6500,52000)] _ (x1.push y6.1) (wrap .i64 (x2+1)) (And.intro (rfl:true=true) c22) h (hle:=klR [(4,.fn (x1.n+1) (x1.push y6.1).n (AD x1.n (fun i=>A0 (x1.g i)) (E9 [pI .u32 0,pI .u32 0] [(0,A0 y6.1)])) (fun i=>A0 ((x1.push y6.1).g i)))] (al1 ⟨rfl,NH (c:=A0) (v:=x1) (x:=y6.1) (z:=[(pI .u32 0),pI .u32 0]) same rfl rfl⟩ al0))
   ·obtain⟨c23,h⟩:=G5 h;exact hb3 _ [(6500,52000)] _ (x1.push y5.1) (wrap .i64 (x2+1)) (And.intro (rfl:true=true) c23) h (hle:=klR [(4,.fn (x1.n+1) (x1.push y5.1).n (AD x1.n (fun i=>A0 (x1.g i)) (E9 [pI .u32 0,pI .u32 0] [(0,A0 y5.1)])) (fun i=>A0 ((x1.push y5.1).g i)))] (al1 ⟨rfl,NH (c:=A0) (v:=x1) (x:=y5.1) (z:=[(pI .u32 0),pI .u32 0]) same rfl rfl⟩ al0))
 ·obtain rfl:=B4 h;exact A6 hS trivial ⟨[(4,.p (vSl 2 A0 x1))],[]⟩ [] (ids:=[]) ⟨rfl,rfl,rfl⟩
def C7 (N:Nat)(p_slices:Sl (Sl A2)):Option (Sl A2):=
 Dv N (fun self1 (x1:Int) (x2:Int)=>
  if (decide (x2<(p_slices.n:Int))) then
   if ((0:Int)<=x2/\x2<(p_slices.n:Int))then
    if (decide ((wrap .i64 (x1+((p_slices.g x2.toNat).n:Int)))<0)) then
     none
    else
     self1 (wrap .i64 (x1+((p_slices.g x2.toNat).n:Int))) (wrap .i64 (x2+1))
   else none
  else
   (K5 N x1).bind fun y1=>
   Dv N (fun self2 (x3:Sl A2) (x4:Int)=>
    if (decide (x4<(p_slices.n:Int))) then
     if (((0:Int)<=x4/\x4<(p_slices.n:Int))/\((x3.n+(p_slices.g x4.toNat).n)*8<=140737488355328/\x3.n+(p_slices.g x4.toNat).n<=140737488355328))then
      self2 (x3.app (p_slices.g x4.toNat)) (wrap .i64 (x4+1))
     else none
    else
     some x3
    ) y1 0
  ) 0 0
theorem I9 {N:Nat}{p_slices:Sl (Sl A2)}{y:Sl A2}(h:C7 N p_slices=some y) :FunO S I8 [.p (vSl 1 (cL 2 A0) p_slices)] [] (.vec 0) ([.vec C9 2 y.n (fun i=>A0 (y.g i)) true]) []:=by
 unfold C7 at h;refine A4 hS T4 ?_;refine N1 hS trivial h (fun x1 x2=>⟨[(11,pN x2),(10,pN (p_slices.n:Int)),(9,.p (vSl 1 (cL 2 A0) p_slices)),(3,pN x1),(0,.p (vSl 1 (cL 2 A0) p_slices))],[]⟩) (ids:=[]) (fun _ _ _ _ _ self1 x1 x2 hb1 h=>?_);refine kI hS h (fun h=>?_) (fun h=>?_)
 ·obtain⟨c8,h⟩:=G5 h;refine D5 hS c8 (b:=decide ((wrap .i64 (x1+((p_slices.g x2.toNat).n:Int)))<0)) (fun c9=>?_) (fun c9=>?_)
  ·replace h:=itT c9 h;cases h
  ·replace h:=itF c9 h;exact hb1 _ [] _ (wrap .i64 (x1+((p_slices.g x2.toNat).n:Int))) (wrap .i64 (x2+1)) trivial h
 ·refine kC hS h (V8 hS hL) (fun y1 h=>?_);refine N1 hS trivial h (fun x3 x4=>⟨[(27,pN x4),(26,pN (p_slices.n:Int)),(25,.p (vSl 1 (cL 2 A0) p_slices)),(6,.vec 7500)],[(7500,.vec C9 2 x3.n (fun i=>A0 (x3.g i)) false)]⟩) (ids:=[(7500,25000)]) (fun _ _ _ _ _ self2 x3 x4 hb2 h=>?_);refine kI hS h (fun h=>?_) (fun h=>?_)
  ·obtain⟨c13,h⟩:=G5 h;exact hb2 _ [(7500,34000)] _ (x3.app (p_slices.g x4.toNat)) (wrap .i64 (x4+1)) c13 h (hle:=klR [(3,.fn (x3.n+(p_slices.g x4.toNat).n) (x3.app (p_slices.g x4.toNat)).n (AD x3.n (fun i=>A0 (x3.g i)) (fun i=>A0 ((p_slices.g x4.toNat).g i))) (fun i=>A0 ((x3.app (p_slices.g x4.toNat)).g i)))] (al1 ⟨rfl,appL (c:=A0) (v:=x3) (w:=p_slices.g x4.toNat) same rfl same rfl⟩ al0))
  ·obtain rfl:=B4 h;exact A6 hS trivial ⟨[(2,.vec 7500)],[(7500,.vec C9 2 x3.n (fun i=>A0 (x3.g i)) true)]⟩ [7500] (ids:=[(7500,7500)]) ⟨rfl,rfl,rfl⟩
def Bc (N:Nat)(p_l:Law)(p_w:Sl A2)(p_at:Int):Option (Sl A2):=
 if (((0:Int)<=p_at/\p_at<=(p_w.n:Int))/\((0:Int)<=p_at/\p_at<=(wrap .i64 (p_at+(p_l.If.n:Int)))/\(wrap .i64 (p_at+(p_l.If.n:Int)))<=(p_w.n:Int)))then
  (Gy N p_l (p_w.sub p_at.toNat (wrap .i64 (p_at+(p_l.If.n:Int))).toNat)).bind fun y1=>
  if ((0:Int)<=(wrap .i64 (p_at+(p_l.If.n:Int)))/\(wrap .i64 (p_at+(p_l.If.n:Int)))<=(p_w.n:Int))then
   (C7 N (Sl.of [p_w.take p_at.toNat,y1,p_w.drop (wrap .i64 (p_at+(p_l.If.n:Int))).toNat]:Sl (Sl A2))).bind fun y2=>
   some y2
  else none
 else none
theorem Gz {N:Nat}{p_l:Law}{p_w:Sl A2}{p_at:Int}{y:Sl A2}(h:Bc N p_l p_w p_at=some y) :FunO S Gq [.p (.agg (B3 p_l)),.p (vSl 2 A0 p_w),pN p_at] [] (.vec 0) ([.vec C9 2 y.n (fun i=>A0 (y.g i)) true]) []:=by unfold Bc at h;refine A4 hS Mq ?_;refine J6 hS trivial 6 4000 (B3 p_l) ?_;refine N0 hS trivial [3,8] ?_;obtain⟨c1,h⟩:=G5 h;obtain⟨y1,e1,h⟩:=B5 h;refine At (And.intro (And.intro c1.1 (by decide:(18:Nat)<=18)) c1.2) (Ox hS hL e1) ?_;obtain⟨c2,h⟩:=G5 h;refine CS c2 (x:=.sl true 1 3 (E9 [J5] [(0,cL 2 A0 (p_w.take p_at.toNat)),(1,cL 2 A0 y1),(2,cL 2 A0 (p_w.drop (wrap .i64 (p_at+(p_l.If.n:Int))).toNat))])) ?_;obtain⟨y2,e2,h⟩:=B5 h;refine Ti [] trivial (FunO.le hS (args:=[.p (.sl true 1 3 (E9 [J5] [(0,cL 2 A0 (p_w.take p_at.toNat)),(1,cL 2 A0 y1),(2,cL 2 A0 (p_w.drop (wrap .i64 (p_at+(p_l.If.n:Int))).toNat))]))]) (by exact⟨Vu rfl (fun i hi=>match i,hi with|0,_=>rfl|1,_=>rfl|2,_=>rfl|_+3,hi=>absurd hi (by omega)),trivial⟩) (I9 hS hL e2)) ?_;refine P3 trivial ?_;obtain rfl:=B4 h;exact A6 hS trivial ⟨[(6,.vec 27000)],[(27000,.vec C9 2 y2.n (fun i=>A0 (y2.g i)) true)]⟩ [27000] (ids:=[(27000,27000)]) ⟨rfl,rfl,rfl⟩
def BS (N:Nat)(q0:Law)(q1:Sl A2)(q2:Int):Option (List (Int)):=
 (Et N q0 q1).bind fun y1=>
 CA N (fun self3 (x2:Int)=>
  if (decide ((wrap .i64 (x2+(q0.If.n:Int)))<=(q1.n:Int))) then
   CA N (fun self4 (x4:Int)=>
    if (decide (x4<(q0.If.n:Int))) then
     if ((0:Int)<=x4/\x4<(q0.If.n:Int))then
      if ((0:Int)<=(wrap .i64 (x2+x4))/\(wrap .i64 (x2+x4))<(q1.n:Int))then
       (Ac N (q1.g (wrap .i64 (x2+x4)).toNat) (q0.If.g x4.toNat)).bind fun y12=>
       if (!y12) then
        self3 (wrap .i64 (x2+1))
       else
        self4 (wrap .i64 (x4+1))
      else none
     else none
    else
     (Ch N x2 y1.1 y1.2).bind fun y13=>
     if y13 then
      Gb x2 (
       self3 (wrap .i64 (x2+1))
       )
     else
      self3 (wrap .i64 (x2+1))
    ) 0
  else
   some []
  ) q2
theorem HL {N:Nat}{q0:Law}{q1:Sl A2}{q2:Int}{L:List (Int)}(h:BS N q0 q1 q2=some L) :CO S BN [] [.reg 0 0,.reg 1 0,.reg 2 0] [.cells ((B3 q0).map .p),.cells [.p (vSl 2 A0 q1)],.cells [pN q2]] (L.map (fun (x:Int)=>[pI .i64 x])):=by
 unfold BS at h;refine CT hS Ok ?_;refine kC hS h (Ow hS hL) (fun y1 h=>?_);refine DV hS trivial h (fun x2 L1=>⟨[(6,pN x2),(5,.clo Q3 [] [.reg 12000 0,.reg 12001 0]),(2,.reg 1 0),(1,.reg 0 0),(0,.yf 3)],[(12001,.cells [.p (vSl 2 A0 y1.2)]),(12000,.cells ((B3 y1.1).map .p)),(3,.yld (L1.map (fun (x:Int)=>[pI .i64 x])) true),(2,.cells [pN q2]),(1,.cells [.p (vSl 2 A0 q1)]),(0,.cells ((B3 q0).map .p))]⟩) (ids:=[(0,0),(1,1),(2,2),(3,3),(12000,12000),(12001,12001)]) (fun _ _ _ _ _ self3 x2 L1 hb3 h=>?_);refine kI hS h (fun h=>?_) (fun h=>?_)
 ·refine DV hS trivial h (fun x4 L8=>⟨[(26,pN x4),(25,pN (q0.If.n:Int)),(24,.p (vSl 2 A0 q0.If)),(6,pN x2),(5,.clo Q3 [] [.reg 12000 0,.reg 12001 0]),(2,.reg 1 0),(1,.reg 0 0),(0,.yf 3)],[(12001,.cells [.p (vSl 2 A0 y1.2)]),(12000,.cells ((B3 y1.1).map .p)),(3,.yld (L8.map (fun (x:Int)=>[pI .i64 x])) true),(2,.cells [pN q2]),(1,.cells [.p (vSl 2 A0 q1)]),(0,.cells ((B3 q0).map .p))]⟩) (ids:=[(0,0),(1,1),(2,2),(3,3),(12000,12000),(12001,12001)]) (fun _ _ _ _ _ self4 x4 L8 hb4 h=>?_);refine kI hS h (fun h=>?_) (fun h=>?_)
  ·obtain⟨c47,h⟩:=G5 h;refine US hS (And.intro c47 (by decide:(2:Nat)<=2)) 9000 [pI .u32 (q0.If.g x4.toNat).Plus,pI .u32 (q0.If.g x4.toNat).Minus] ?_;refine N0 hS trivial [4,5,6,7] ?_;obtain⟨c48,h⟩:=G5 h;obtain⟨y12,e12,h⟩:=B5 h;refine At (And.intro (And.intro c48 (by decide:(2:Nat)<=2)) (by decide:(2:Nat)<=2)) (GZ hS hL e12) ?_;refine P3 trivial ?_;refine kI hS h (fun h=>?_) (fun h=>?_)
   ·exact hb3 _ [(0,0),(1,1),(2,2),(3,3),(12000,12000),(12001,12001)] _ (wrap .i64 (x2+1)) L8 trivial h
   ·exact hb4 _ [(0,0),(1,1),(2,2),(3,3),(12000,12000),(12001,12001)] _ (wrap .i64 (x4+1)) L8 trivial h
  ·obtain⟨y13,e13,h⟩:=B5 h;refine B6 hS [12000,12001] trivial (KA hS hL e13) ?_;refine kG hS h (fun h=>?_) (fun h=>?_)
   ·obtain⟨L10,rfl,hcL10⟩:=IV h;replace h:=hcL10;refine Bo hS trivial (ys:=(fun (x:Int)=>[pI .i64 x]) x2) (rest:=L10.map (fun (x:Int)=>[pI .i64 x])) ?_ ?_
    ·refine D5 hS trivial (b:=false) (fun c53=>?_) (fun c53=>?_)
     ·exact Bool.noConfusion ((rfl:false=false).symm.trans c53)
     ·exact hb3 _ [(0,0),(1,1),(2,2),(3,3),(12000,12000),(12001,12001)] _ (wrap .i64 (x2+1)) L10 trivial h
    ·refine D5 hS trivial (b:=true) (fun c54=>?_) (fun c54=>?_)
     ·exact A6 hS trivial (a:=.tup []) (objs:=[(.cells ((B3 q0).map .p)),.cells [.p (vSl 2 A0 q1)],.cells [pN q2],.yld [] false]) ⟨[],[(3,.yld [] false),(2,.cells [pN q2]),(1,.cells [.p (vSl 2 A0 q1)]),(0,.cells ((B3 q0).map .p))]⟩ [0,1,2,3] (ids:=[(0,0),(1,1),(2,2),(3,3)]) ⟨false,rfl,rfl,_,rfl⟩
     ·exact Bool.noConfusion ((rfl:true=true).symm.trans c54)
   ·exact hb3 _ [(0,0),(1,1),(2,2),(3,3),(12000,12000),(12001,12001)] _ (wrap .i64 (x2+1)) L8 trivial h
 ·obtain rfl:=B4 h;exact A6 hS trivial (a:=.tup []) (objs:=[(.cells ((B3 q0).map .p)),.cells [.p (vSl 2 A0 q1)],.cells [pN q2],.yld [] true]) ⟨[],[(3,.yld [] true),(2,.cells [pN q2]),(1,.cells [.p (vSl 2 A0 q1)]),(0,.cells ((B3 q0).map .p))]⟩ [0,1,2,3] (ids:=[(0,0),(1,1),(2,2),(3,3)]) ⟨true,rfl,rfl,_,rfl⟩
def EG (N:Nat)(p_l:Law)(p_w:Sl A2)(p_from:Int):Option (Law×(Sl A2)×Int):=
 some (p_l,p_w,p_from)
theorem Lr {N:Nat}{p_l:Law}{p_w:Sl A2}{p_from:Int}{y:Law×(Sl A2)×Int}(h:EG N p_l p_w p_from=some y) :FunO S Lp [.p (.agg (B3 p_l)),.p (vSl 2 A0 p_w),pN p_from] [] (.clo BN [] [.reg 0 0,.reg 1 0,.reg 2 0]) ([.cells ((B3 y.1).map .p),.cells [.p (vSl 2 A0 y.2.1)],.cells [pN y.2.2]]) []:=by unfold EG at h;refine A4 hS RJ ?_;obtain rfl:=B4 h;exact A6 hS trivial ⟨[(6,.clo BN [] [.reg 4000 0,.reg 5000 0,.reg 6000 0])],[(6000,.cells [pN p_from]),(5000,.cells [.p (vSl 2 A0 p_w)]),(4000,.cells ((B3 p_l).map .p))]⟩ [4000,5000,6000] (ids:=[(4000,4000),(5000,5000),(6000,6000)]) ⟨rfl,rfl,rfl⟩
def GA (N:Nat)(p_l:Law)(p_w:Sl A2)(p_at:Int):Option Bool:=
 (EG N p_l p_w p_at).bind fun y1=>
 (BS N y1.1 y1.2.1 y1.2.2).bind fun L1=>
 V4 L1 (fun self1 (x1:Int) (_:Unit)=>
  some (x1==p_at)
  ) (fun (_:Unit)=>
   some false
  ) ()
theorem Oy {N:Nat}{p_l:Law}{p_w:Sl A2}{p_at:Int}{y:Bool}(h:GA N p_l p_w p_at=some y) :FunO S Oj [.p (.agg (B3 p_l)),.p (vSl 2 A0 p_w),pN p_at] [] (pB y) ([]) []:=by
 unfold GA at h;refine A4 hS Tu ?_;refine kC hS h (Lr hS hL) (fun y1 h=>?_);obtain⟨L1,e2,h⟩:=B5 h;refine CU hS trivial [12000,12001,12002] [6,5] 901 (fun _=>⟨[(6,.reg 7000 0),(5,.reg 6000 0)],[(7000,.cells [.p (.v (.bool false))]),(6000,.cells [pN p_at])]⟩) (idl:=[(6000,6000),(7000,7000)]) h (HL hS hL e2) (fun _=>by kernel_rfl) (fun _=>by kernel_rfl) (fun _=>by kernel_rfl) (fun _=>by kernel_rfl) (fun x1 _ self1 _ hb1 h=>?_) (fun _ h=>?_)
 ·refine Gc hS trivial ?_;refine Md hS trivial ⟨[(6,.reg 7000 0),(5,.reg 6000 0)],[(7000,.cells [pB (x1==p_at)]),(6000,.cells [pN p_at])]⟩ (ids:=[(901,901),(6000,6000),(7000,7000)]) ?_;cases h;exact kR hS
 ·cases h;exact kR hS
def Fy (N:Nat)(q0:Sl A2)(q1:Law)(q2:Int)(q3:Int):Option (List (Int×(Sl A2))):=
 if (q1.Mode==1) then
  (EG N q1 q0 0).bind fun y1=>
  (BS N y1.1 y1.2.1 y1.2.2).bind fun L1=>
  V4 L1 (fun self1 (x1:Int) (z1:(Sl A2)×Int×Int)=>
   if (decide (x1<z1.2.1)) then
    self1 (z1.1,z1.2.1,z1.2.2)
   else
    if (((0:Int)<=(wrap .i64 (x1+z1.2.2))/\(wrap .i64 (x1+z1.2.2))<=(z1.1.n:Int))/\((0:Int)<=x1/\x1<=(wrap .i64 (x1+q2))/\(wrap .i64 (x1+q2))<=(q0.n:Int)))then
     (Gy N q1 (q0.sub x1.toNat (wrap .i64 (x1+q2)).toNat)).bind fun y6=>
     if ((0:Int)<=(wrap .i64 (x1+q2))/\(wrap .i64 (x1+q2))<=(q0.n:Int))then
      (C7 N (Sl.of [z1.1.take (wrap .i64 (x1+z1.2.2)).toNat,y6,q0.drop (wrap .i64 (x1+q2)).toNat]:Sl (Sl A2))).bind fun y7=>
      Gb (x1,y7) (
       self1 (y7,wrap .i64 (x1+(if q2<1 then 1 else q2)),wrap .i64 ((wrap .i64 (z1.2.2+q3))-q2))
       )
     else none
    else none
   ) (fun (z1:(Sl A2)×Int×Int)=>
    some []
   ) (q0,0,0)
 else
  if (q1.Mode==2) then
   Dv N (fun self2 (x5:Sl A2) (x6:Int)=>
    if (decide ((wrap .i64 (x6+q2))<=(x5.n:Int))) then
     (GA N q1 x5 x6).bind fun y12=>
     if (!y12) then
      self2 x5 (wrap .i64 (x6+1))
     else
      (Bc N q1 x5 x6).bind fun y13=>
      Gb (x6,y13) (
       if (q2==0) then
        self2 y13 (wrap .i64 ((wrap .i64 (x6+q3))+1))
       else
        self2 y13 (wrap .i64 (x6+q3))
       )
    else
     some []
    ) q0 0
  else
   if (q1.Mode==3) then
    Dv N (fun self3 (x7:Sl A2) (x8:Int)=>
     if (decide (0<=x8)) then
      (GA N q1 x7 x8).bind fun y18=>
      if (!y18) then
       self3 x7 (wrap .i64 (x8-1))
      else
       (Bc N q1 x7 x8).bind fun y19=>
       Gb (x8,y19) (
        self3 y19 (wrap .i64 (x8-(if q2<1 then 1 else q2)))
        )
     else
      some []
     ) q0 (wrap .i64 ((q0.n:Int)-q2))
   else
    some []
theorem PO {N:Nat}{q0:Sl A2}{q1:Law}{q2:Int}{q3:Int}{L:List (Int×(Sl A2))}(h:Fy N q0 q1 q2 q3=some L) :CO S CZ [] [.reg 0 0,.reg 1 0,.reg 2 0,.reg 3 0] [.cells [.p (vSl 2 A0 q0)],.cells ((B3 q1).map .p),.cells [pN q2],.cells [pN q3]] (L.map (fun (x:Int×(Sl A2))=>[pI .i64 x.1,vSl 2 A0 x.2])):=by
 unfold Fy at h;refine CT hS PD ?_;refine kI hS h (fun h=>?_) (fun h=>?_)
 ·refine kC hS h (Lr hS hL) (fun y1 h=>?_);obtain⟨L1,e2,h⟩:=B5 h;refine UQ hS trivial [20000,20001,20002] [8,7,6,5,4,3,2,1] 900 (fun z1 L2=>⟨[(8,.reg 9000 0),(7,.reg 8000 0),(6,.reg 7000 0),(5,.reg 6000 0),(4,.reg 3 0),(3,.reg 2 0),(2,.reg 1 0),(1,.reg 0 0)],[(9000,.cells [pN z1.2.2]),(8000,.cells [pN z1.2.1]),(7000,.cells [.p (vSl 2 A0 z1.1)]),(6000,.cells [.yf 4]),(4,.yld (L2.map (fun (x:Int×(Sl A2))=>[pI .i64 x.1,vSl 2 A0 x.2])) true),(3,.cells [pN q3]),(2,.cells [pN q2]),(1,.cells ((B3 q1).map .p)),(0,.cells [.p (vSl 2 A0 q0)])]⟩) (idl:=[(0,0),(1,1),(2,2),(3,3),(4,4),(6000,6000),(7000,7000),(8000,8000),(9000,9000)]) h (HL hS hL e2) (fun _=>by kernel_rfl) (fun _ _=>by kernel_rfl) (fun _ _=>by kernel_rfl) (fun _ _=>by kernel_rfl) (fun x1 _ self1 z1 L2 hb1 h=>?_) (fun z1 L2 h=>?_)
  ·refine Gc hS trivial ?_;refine kI hS h (fun h=>?_) (fun h=>?_)
   ·exact hb1 _ [(0,0),(1,1),(2,2),(3,3),(4,4),(900,900),(6000,6000),(7000,7000),(8000,8000),(9000,9000)] _ (z1.1,z1.2.1,z1.2.2) L2 trivial h
   ·refine S9 hS trivial [(0,.l [7000]),(2,.l [9000]),(5,.l [1]),(6,.l [0]),(9,.l [2]),(12,.n),(13,.l [0]),(15,.l [2]),(20,.a [7000])] ?_;obtain⟨c13,h⟩:=G5 h;obtain⟨y6,e7,h⟩:=B5 h;refine At c13 (Ox hS hL e7) ?_;obtain⟨c14,h⟩:=G5 h;refine CS c14 (x:=.sl true 1 3 (E9 [J5] [(0,cL 2 A0 (z1.1.take (wrap .i64 (x1+z1.2.2)).toNat)),(1,cL 2 A0 y6),(2,cL 2 A0 (q0.drop (wrap .i64 (x1+q2)).toNat))])) ?_;obtain⟨y7,e8,h⟩:=B5 h;refine Ti [] trivial (FunO.le hS (args:=[.p (.sl true 1 3 (E9 [J5] [(0,cL 2 A0 (z1.1.take (wrap .i64 (x1+z1.2.2)).toNat)),(1,cL 2 A0 y6),(2,cL 2 A0 (q0.drop (wrap .i64 (x1+q2)).toNat))]))]) (by exact⟨Vu rfl (fun i hi=>match i,hi with|0,_=>rfl|1,_=>rfl|2,_=>rfl|_+3,hi=>absurd hi (by omega)),trivial⟩) (I9 hS hL e8)) ?_;refine P3 trivial ?_;obtain⟨L5,rfl,hcL5⟩:=IV h;replace h:=hcL5;refine Bo hS trivial (ys:=(fun (x:Int×(Sl A2))=>[pI .i64 x.1,vSl 2 A0 x.2]) (x1,y7)) (rest:=L5.map (fun (x:Int×(Sl A2))=>[pI .i64 x.1,vSl 2 A0 x.2])) ?_ ?_
    ·refine D5 hS trivial (b:=false) (fun c15=>?_) (fun c15=>?_)
     ·exact Bool.noConfusion ((rfl:false=false).symm.trans c15)
     ·refine S9 hS trivial [(1,.l [2]),(4,.l [9000]),(5,.l [3]),(7,.l [2]),(9,.a [8000]),(10,.a [9000])] ?_;refine P3 trivial ?_;exact hb1 _ [(0,0),(1,1),(2,2),(3,3),(4,4),(900,900),(6000,6000),(7000,7000),(8000,8000),(9000,9000)] _ (y7,wrap .i64 (x1+(if q2<1 then 1 else q2)),wrap .i64 ((wrap .i64 (z1.2.2+q3))-q2)) L5 trivial h
    ·refine D5 hS trivial (b:=true) (fun c16=>?_) (fun c16=>?_)
     ·refine Md hS trivial ⟨[(8,.reg 9000 0),(7,.reg 8000 0),(6,.reg 7000 0),(5,.reg 6000 0),(4,.reg 3 0),(3,.reg 2 0),(2,.reg 1 0),(1,.reg 0 0)],[(44000,.vec C9 2 y7.n (fun i=>A0 (y7.g i)) true),(9000,.cells [pN z1.2.2]),(8000,.cells [pN z1.2.1]),(7000,.cells [.vec 44000]),(6000,.cells [.yf 4]),(4,.yld [] false),(3,.cells [pN q3]),(2,.cells [pN q2]),(1,.cells ((B3 q1).map .p)),(0,.cells [.p (vSl 2 A0 q0)])]⟩ (ids:=[(0,0),(1,1),(2,2),(3,3),(4,4),(900,900),(6000,6000),(7000,7000),(8000,8000),(9000,9000),(44000,44000)]) ?_;exact A6 hS trivial (a:=.tup []) (objs:=[(.cells [.p (vSl 2 A0 q0)]),.cells ((B3 q1).map .p),.cells [pN q2],.cells [pN q3],.yld [] false]) ⟨[],[(4,.yld [] false),(3,.cells [pN q3]),(2,.cells [pN q2]),(1,.cells ((B3 q1).map .p)),(0,.cells [.p (vSl 2 A0 q0)])]⟩ [0,1,2,3,4] (ids:=[(0,0),(1,1),(2,2),(3,3),(4,4)]) ⟨false,rfl,rfl,_,rfl⟩
     ·exact Bool.noConfusion ((rfl:true=true).symm.trans c16)
  ·obtain rfl:=B4 h;exact A6 hS trivial (a:=.tup []) (objs:=[(.cells [.p (vSl 2 A0 q0)]),.cells ((B3 q1).map .p),.cells [pN q2],.cells [pN q3],.yld [] true]) ⟨[],[(4,.yld [] true),(3,.cells [pN q3]),(2,.cells [pN q2]),(1,.cells ((B3 q1).map .p)),(0,.cells [.p (vSl 2 A0 q0)])]⟩ [0,1,2,3,4] (ids:=[(0,0),(1,1),(2,2),(3,3),(4,4)]) ⟨true,rfl,rfl,_,rfl⟩
 ·refine kI hS h (fun h=>?_) (fun h=>?_)
  ·refine LZ hS trivial h (fun x5 x6 L6=>⟨[(10,pN x6),(6,.reg 7000 0),(5,.reg 6000 0),(4,.reg 3 0),(3,.reg 2 0),(2,.reg 1 0)],[(7000,.cells [.p (vSl 2 A0 x5)]),(6000,.cells [.yf 4]),(4,.yld (L6.map (fun (x:Int×(Sl A2))=>[pI .i64 x.1,vSl 2 A0 x.2])) true),(3,.cells [pN q3]),(2,.cells [pN q2]),(1,.cells ((B3 q1).map .p)),(0,.cells [.p (vSl 2 A0 q0)])]⟩) (ids:=[(0,0),(1,1),(2,2),(3,3),(4,4),(6000,6000),(7000,7000)]) (fun _ _ _ _ _ self2 x5 x6 L6 hb2 h=>?_);refine kI hS h (fun h=>?_) (fun h=>?_)
   ·refine kC hS h (Oy hS hL) (fun y12 h=>?_);refine kI hS h (fun h=>?_) (fun h=>?_)
    ·exact hb2 _ [(0,0),(1,1),(2,2),(3,3),(4,4),(6000,6000),(7000,7000)] _ x5 (wrap .i64 (x6+1)) L6 trivial h
    ·refine kC hS h (Gz hS hL) (fun y13 h=>?_);obtain⟨L9,rfl,hcL9⟩:=IV h;replace h:=hcL9;refine Bo hS trivial (ys:=(fun (x:Int×(Sl A2))=>[pI .i64 x.1,vSl 2 A0 x.2]) (x6,y13)) (rest:=L9.map (fun (x:Int×(Sl A2))=>[pI .i64 x.1,vSl 2 A0 x.2])) ?_ ?_
     ·refine D5 hS trivial (b:=false) (fun c30=>?_) (fun c30=>?_)
      ·exact Bool.noConfusion ((rfl:false=false).symm.trans c30)
      ·refine kI hS h (fun h=>?_) (fun h=>?_)
       ·exact hb2 _ [(0,0),(1,1),(2,2),(3,3),(4,4),(6000,6000),(7000,7000)] _ y13 (wrap .i64 ((wrap .i64 (x6+q3))+1)) L9 trivial h
       ·exact hb2 _ [(0,0),(1,1),(2,2),(3,3),(4,4),(6000,6000),(7000,7000)] _ y13 (wrap .i64 (x6+q3)) L9 trivial h
     ·refine D5 hS trivial (b:=true) (fun c32=>?_) (fun c32=>?_)
      ·exact A6 hS trivial (a:=.tup []) (objs:=[(.cells [.p (vSl 2 A0 q0)]),.cells ((B3 q1).map .p),.cells [pN q2],.cells [pN q3],.yld [] false]) ⟨[],[(4,.yld [] false),(3,.cells [pN q3]),(2,.cells [pN q2]),(1,.cells ((B3 q1).map .p)),(0,.cells [.p (vSl 2 A0 q0)])]⟩ [0,1,2,3,4] (ids:=[(0,0),(1,1),(2,2),(3,3),(4,4)]) ⟨false,rfl,rfl,_,rfl⟩
      ·exact Bool.noConfusion ((rfl:true=true).symm.trans c32)
   ·obtain rfl:=B4 h;exact A6 hS trivial (a:=.tup []) (objs:=[(.cells [.p (vSl 2 A0 q0)]),.cells ((B3 q1).map .p),.cells [pN q2],.cells [pN q3],.yld [] true]) ⟨[],[(4,.yld [] true),(3,.cells [pN q3]),(2,.cells [pN q2]),(1,.cells ((B3 q1).map .p)),(0,.cells [.p (vSl 2 A0 q0)])]⟩ [0,1,2,3,4] (ids:=[(0,0),(1,1),(2,2),(3,3),(4,4)]) ⟨true,rfl,rfl,_,rfl⟩
  ·refine kI hS h (fun h=>?_) (fun h=>?_)
   ·refine LZ hS trivial h (fun x7 x8 L10=>⟨[(11,pN x8),(6,.reg 7000 0),(5,.reg 6000 0),(3,.reg 2 0),(2,.reg 1 0)],[(7000,.cells [.p (vSl 2 A0 x7)]),(6000,.cells [.yf 4]),(4,.yld (L10.map (fun (x:Int×(Sl A2))=>[pI .i64 x.1,vSl 2 A0 x.2])) true),(3,.cells [pN q3]),(2,.cells [pN q2]),(1,.cells ((B3 q1).map .p)),(0,.cells [.p (vSl 2 A0 q0)])]⟩) (ids:=[(0,0),(1,1),(2,2),(3,3),(4,4),(6000,6000),(7000,7000)]) (fun _ _ _ _ _ self3 x7 x8 L10 hb3 h=>?_);refine kI hS h (fun h=>?_) (fun h=>?_)
    ·refine kC hS h (Oy hS hL) (fun y18 h=>?_);refine kI hS h (fun h=>?_) (fun h=>?_)
     ·exact hb3 _ [(0,0),(1,1),(2,2),(3,3),(4,4),(6000,6000),(7000,7000)] _ x7 (wrap .i64 (x8-1)) L10 trivial h
     ·refine kC hS h (Gz hS hL) (fun y19 h=>?_);obtain⟨L13,rfl,hcL13⟩:=IV h;replace h:=hcL13;refine Bo hS trivial (ys:=(fun (x:Int×(Sl A2))=>[pI .i64 x.1,vSl 2 A0 x.2]) (x8,y19)) (rest:=L13.map (fun (x:Int×(Sl A2))=>[pI .i64 x.1,vSl 2 A0 x.2])) ?_ ?_
      ·refine D5 hS trivial (b:=false) (fun c44=>?_) (fun c44=>?_)
       ·exact Bool.noConfusion ((rfl:false=false).symm.trans c44)
       ·exact hb3 _ [(0,0),(1,1),(2,2),(3,3),(4,4),(6000,6000),(7000,7000)] _ y19 (wrap .i64 (x8-(if q2<1 then 1 else q2))) L13 trivial h
      ·refine D5 hS trivial (b:=true) (fun c45=>?_) (fun c45=>?_)
       ·exact A6 hS trivial (a:=.tup []) (objs:=[(.cells [.p (vSl 2 A0 q0)]),.cells ((B3 q1).map .p),.cells [pN q2],.cells [pN q3],.yld [] false]) ⟨[],[(4,.yld [] false),(3,.cells [pN q3]),(2,.cells [pN q2]),(1,.cells ((B3 q1).map .p)),(0,.cells [.p (vSl 2 A0 q0)])]⟩ [0,1,2,3,4] (ids:=[(0,0),(1,1),(2,2),(3,3),(4,4)]) ⟨false,rfl,rfl,_,rfl⟩
       ·exact Bool.noConfusion ((rfl:true=true).symm.trans c45)
    ·obtain rfl:=B4 h;exact A6 hS trivial (a:=.tup []) (objs:=[(.cells [.p (vSl 2 A0 q0)]),.cells ((B3 q1).map .p),.cells [pN q2],.cells [pN q3],.yld [] true]) ⟨[],[(4,.yld [] true),(3,.cells [pN q3]),(2,.cells [pN q2]),(1,.cells ((B3 q1).map .p)),(0,.cells [.p (vSl 2 A0 q0)])]⟩ [0,1,2,3,4] (ids:=[(0,0),(1,1),(2,2),(3,3),(4,4)]) ⟨true,rfl,rfl,_,rfl⟩
   ·obtain rfl:=B4 h;exact A6 hS trivial (a:=.tup []) (objs:=[(.cells [.p (vSl 2 A0 q0)]),.cells ((B3 q1).map .p),.cells [pN q2],.cells [pN q3],.yld [] true]) ⟨[],[(4,.yld [] true),(3,.cells [pN q3]),(2,.cells [pN q2]),(1,.cells ((B3 q1).map .p)),(0,.cells [.p (vSl 2 A0 q0)])]⟩ [0,1,2,3,4] (ids:=[(0,0),(1,1),(2,2),(3,3),(4,4)]) ⟨true,rfl,rfl,_,rfl⟩
def JE (N:Nat)(p_l:Law)(p_w:Sl A2):Option ((Sl A2)×Law×Int×Int):=
 some (p_w,p_l,(p_l.If.n:Int),(p_l.Out.n:Int))
theorem Tz {N:Nat}{p_l:Law}{p_w:Sl A2}{y:(Sl A2)×Law×Int×Int}(h:JE N p_l p_w=some y) :FunO S Oh [.p (.agg (B3 p_l)),.p (vSl 2 A0 p_w)] [] (.clo CZ [] [.reg 0 0,.reg 1 0,.reg 2 0,.reg 3 0]) ([.cells [.p (vSl 2 A0 y.1)],.cells ((B3 y.2.1).map .p),.cells [pN y.2.2.1],.cells [pN y.2.2.2]]) []:=by unfold JE at h;refine A4 hS Ts ?_;refine S9 hS trivial [(1,.l [3000]),(2,.n),(4,.l [3000]),(5,.n),(6,.a [6000]),(7,.a [7000]),(8,.a [6000]),(9,.a [7000])] ?_;refine P3 trivial ?_;obtain rfl:=B4 h;exact A6 hS trivial ⟨[(4,.clo CZ [] [.reg 4000 0,.reg 3000 0,.reg 6000 0,.reg 7000 0])],[(7000,.cells [pN (p_l.Out.n:Int)]),(6000,.cells [pN (p_l.If.n:Int)]),(4000,.cells [.p (vSl 2 A0 p_w)]),(3000,.cells ((B3 p_l).map .p))]⟩ [4000,3000,6000,7000] (ids:=[(3000,3000),(4000,4000),(6000,6000),(7000,7000)]) ⟨rfl,rfl,rfl⟩
def Fz (N:Nat)(p_l:Law)(p_w:Sl A2):Option ((Sl Int)×(Sl (Sl A2))×Int):=
 (Fx N p_l p_w).bind fun y1=>
 if (y1 != 0) then
  some ((Sl.nil:Sl Int),(Sl.nil:Sl (Sl A2)),y1)
 else
  (JE N p_l p_w).bind fun y2=>
  (Fy N y2.1 y2.2.1 y2.2.2.1 y2.2.2.2).bind fun L1=>
  V4 L1 (fun self1 (x1:Int×(Sl A2)) (z1:(Sl Int)×(Sl (Sl A2)))=>
   if (decide (32<(x1.2.n:Int))) then
    some ((Sl.nil:Sl Int),(Sl.nil:Sl (Sl A2)),11)
   else
    if ((z1.1.n+(Sl.of [x1.1]:Sl Int).n)*8<=140737488355328/\z1.1.n+(Sl.of [x1.1]:Sl Int).n<=140737488355328)then
     if ((z1.2.n+(Sl.of [x1.2]:Sl (Sl A2)).n)*24<=140737488355328/\z1.2.n+(Sl.of [x1.2]:Sl (Sl A2)).n<=140737488355328)then
      self1 (z1.1.push x1.1,z1.2.push x1.2)
     else none
    else none
   ) (fun (z1:(Sl Int)×(Sl (Sl A2)))=>
    some (z1.1,z1.2,0)
   ) ((Sl.nil:Sl Int),(Sl.nil:Sl (Sl A2)))
theorem PP {N:Nat}{p_l:Law}{p_w:Sl A2}{y:(Sl Int)×(Sl (Sl A2))×Int}(h:Fz N p_l p_w=some y) :FunO S Jp [.p (.agg (B3 p_l)),.p (vSl 2 A0 p_w)] [] (.tup [.vec 0,.vec 1,pN y.2.2]) ([.vec E3 1 y.1.n (fun i=>cI .i64 (y.1.g i)) true,.vec N8 1 y.2.1.n (fun i=>cL 2 A0 (y.2.1.g i)) true]) []:=by
 unfold Fz at h;refine A4 hS PB ?_;refine J6 hS trivial 4 3000 (B3 p_l) ?_;obtain⟨y1,e1,h⟩:=B5 h;refine B6 hS [] (by decide:(18:Nat)<=18) (PN hS hL e1) ?_;refine kI hS h (fun h=>?_) (fun h=>?_)
 ·obtain rfl:=B4 h;exact A6 hS trivial ⟨[(6,.reg 7000 0),(5,.reg 6000 0),(4,.reg 5000 0)],[(7000,.cells [pN y1]),(6701,.vec N8 1 (Sl.nil:Sl (Sl A2)).n (fun i=>cL 2 A0 ((Sl.nil:Sl (Sl A2)).g i)) true),(6000,.cells [.vec 6701]),(5700,.vec E3 1 (Sl.nil:Sl Int).n (fun i=>cI .i64 ((Sl.nil:Sl Int).g i)) true),(5000,.cells [.vec 5700])]⟩ [5700,6701] (ids:=[(5000,5000),(6000,6000),(7000,7000)]) ⟨rfl,rfl,rfl⟩
 ·obtain⟨y2,e2,h⟩:=B5 h;refine B6 hS [] (by decide:(18:Nat)<=18) (Tz hS hL e2) ?_;obtain⟨L1,e3,h⟩:=B5 h;refine CU hS trivial [21000,21001,21002,21003] [9,8,6,5,4] 901 (fun z1=>⟨[(9,.reg 10000 0),(8,.reg 9000 0),(6,.reg 7000 0),(5,.reg 6000 0),(4,.reg 5000 0)],[(10500,.vec N8 1 z1.2.n (fun i=>cL 2 A0 (z1.2.g i)) false),(10000,.cells [.vec 10500]),(9500,.vec E3 1 z1.1.n (fun i=>cI .i64 (z1.1.g i)) false),(9000,.cells [.vec 9500]),(7000,.cells [pN 0]),(6000,.cells [.p J5]),(5000,.cells [.p J5])]⟩) (idl:=[(5000,5000),(6000,6000),(7000,7000),(9000,9000),(10000,10000)]) h (PO hS hL e3) (fun _=>by kernel_rfl) (fun _=>by kernel_rfl) (fun _=>by kernel_rfl) (fun _=>by kernel_rfl) (fun x1 _ self1 z1 hb1 h=>?_) (fun z1 h=>?_)
  ·refine Gc hS trivial ?_;refine kI hS h (fun h=>?_) (fun h=>?_)
   ·refine Md hS trivial ⟨[(9,.reg 10000 0),(8,.reg 9000 0),(6,.reg 7000 0),(5,.reg 6000 0),(4,.reg 5000 0)],[(10500,.vec N8 1 z1.2.n (fun i=>cL 2 A0 (z1.2.g i)) false),(10000,.cells [.vec 10500]),(9500,.vec E3 1 z1.1.n (fun i=>cI .i64 (z1.1.g i)) false),(9000,.cells [.vec 9500]),(7000,.cells [pN 11]),(6000,.cells [.p J5]),(5000,.cells [.p J5])]⟩ (ids:=[(901,901),(5000,5000),(6000,6000),(7000,7000),(9000,9000),(9500,9500),(10000,10000),(10500,10500)]) ?_;obtain rfl:=B4 h;exact A6 hS trivial ⟨[(6,.reg 7000 0),(5,.reg 6000 0),(4,.reg 5000 0)],[(7000,.cells [pN 11]),(6701,.vec N8 1 (Sl.nil:Sl (Sl A2)).n (fun i=>cL 2 A0 ((Sl.nil:Sl (Sl A2)).g i)) true),(6000,.cells [.vec 6701]),(5700,.vec E3 1 (Sl.nil:Sl Int).n (fun i=>cI .i64 ((Sl.nil:Sl Int).g i)) true),(5000,.cells [.vec 5700])]⟩ [5700,6701] (ids:=[(5000,5000),(6000,6000),(7000,7000)]) ⟨rfl,rfl,rfl⟩
   ·refine S9 hS trivial [(0,.l [9000]),(3,.a [30000,9500]),(4,.l [10000]),(7,.a [34000,10500]),(8,.a [9000]),(9,.a [10000])] ?_;refine CS trivial (x:=.sl true 1 1 (E9 [pI .i64 0] [(0,cI .i64 x1.1)])) ?_;obtain⟨c9,h⟩:=G5 h;refine CS c9 (x:=.sl true 1 1 (E9 [J5] [(0,cL 2 A0 x1.2)])) ?_;obtain⟨c10,h⟩:=G5 h;refine P3 c10 ?_;exact hb1 _ [(901,901),(5000,5000),(6000,6000),(7000,7000),(9000,9000),(9500,30000),(10000,10000),(10500,34000)] _ (z1.1.push x1.1,z1.2.push x1.2) trivial h (hle:=klR [(0,.fn (z1.2.n+1) (z1.2.push x1.2).n (AD z1.2.n (fun i=>cL 2 A0 (z1.2.g i)) (E9 [J5] [(0,cL 2 A0 x1.2)])) (fun i=>cL 2 A0 ((z1.2.push x1.2).g i))),(1,.fn (z1.1.n+1) (z1.1.push x1.1).n (AD z1.1.n (fun i=>cI .i64 (z1.1.g i)) (E9 [pI .i64 0] [(0,cI .i64 x1.1)])) (fun i=>cI .i64 ((z1.1.push x1.1).g i)))] (al1 ⟨rfl,NH (c:=cL 2 A0) (v:=z1.2) (x:=x1.2) (z:=[J5]) same rfl rfl⟩ (al1 ⟨rfl,NH (c:=cI .i64) (v:=z1.1) (x:=x1.1) (z:=[(pI .i64 0)]) same rfl rfl⟩ al0)))
  ·refine S9 hS trivial [(0,.l [9000]),(1,.l [10000]),(2,.a [5000]),(3,.a [6000]),(4,.a [7000])] ?_;refine P3 trivial ?_;obtain rfl:=B4 h;exact A6 hS trivial ⟨[(6,.reg 7000 0),(5,.reg 6000 0),(4,.reg 5000 0)],[(10500,.vec N8 1 z1.2.n (fun i=>cL 2 A0 (z1.2.g i)) true),(9500,.vec E3 1 z1.1.n (fun i=>cI .i64 (z1.1.g i)) true),(7000,.cells [pN 0]),(6000,.cells [.vec 10500]),(5000,.cells [.vec 9500])]⟩ [9500,10500] (ids:=[(5000,5000),(6000,6000),(7000,7000),(9500,9500),(10500,10500)]) ⟨rfl,rfl,rfl⟩
def FA (N:Nat)(p_l:Law)(p_w:Sl A2):Option ((Sl A2)×Int):=
 (Fz N p_l p_w).bind fun y1=>
 if (y1.2.2 != 0) then
  some ((Sl.nil:Sl A2),y1.2.2)
 else
  if (decide (0<(y1.2.1.n:Int))) then
   if (((0:Int)<=(wrap .i64 ((y1.2.1.n:Int)-1))/\(wrap .i64 ((y1.2.1.n:Int)-1))<(y1.2.1.n:Int))/\(wrap .i64 ((y1.2.1.n:Int)-1)).toNat<y1.2.1.n)then
    some (y1.2.1.g (wrap .i64 ((y1.2.1.n:Int)-1)).toNat,0)
   else none
  else
   (A8 N p_w).bind fun y2=>
   some (y2,0)
theorem PQ {N:Nat}{p_l:Law}{p_w:Sl A2}{y:(Sl A2)×Int}(h:FA N p_l p_w=some y) :FunO S Jo [.p (.agg (B3 p_l)),.p (vSl 2 A0 p_w)] [] (.tup [.p (vSl 2 A0 y.1),pN y.2]) ([]) []:=by
 unfold FA at h;refine A4 hS PA ?_;refine kC hS h (PP hS hL) (fun y1 h=>?_);refine kI hS h (fun h=>?_) (fun h=>?_)
 ·obtain rfl:=B4 h;exact A6 hS trivial ⟨[(5,pN y1.2.2),(4,.p (vSl 2 A0 (Sl.nil:Sl A2)))],[]⟩ [] (ids:=[]) ⟨rfl,rfl,rfl⟩
 ·refine kI hS h (fun h=>?_) (fun h=>?_)
  ·obtain⟨c3,h⟩:=G5 h;obtain rfl:=B4 h;exact RA hS c3 [] ⟨rfl,rfl,rfl⟩
  ·refine kC hS h (K0 hS hL) (fun y2 h=>?_);obtain rfl:=B4 h;exact A6 hS trivial ⟨[(5,pN 0),(4,.p (vSl 2 A0 y2))],[]⟩ [] (ids:=[]) ⟨rfl,rfl,rfl⟩
end Go.AM
namespace Go.AM
open IntKind (wrap)
open Go.Proofs
set_option maxRecDepth 10000
set_option maxHeartbeats 2000000
variable {S:X8}(hS:F6 S Tryz.prog) (hL:Oq S)
include hS hL
def AL (N:Nat)(p_l:Law):Option Bool:=
 (Bx N p_l).bind fun y1=>
 some (y1 != 0)
theorem Ia {N:Nat}{p_l:Law}{y:Bool}(h:AL N p_l=some y) :FunO S DB [.p (.agg (B3 p_l))] [] (pB y) ([]) []:=by unfold AL at h;refine A4 hS HX ?_;refine kC hS h (Fw hS hL) (fun y1 h=>?_);cases h;exact kR hS
def F2 (N:Nat)(p_s:Sl Law)(p_f:Law->Option Bool):Option Int:=
 CA N (fun self1 (x1:Int)=>
  if (decide (x1<(p_s.n:Int))) then
   if ((0:Int)<=x1/\x1<(p_s.n:Int))then
    (p_f (p_s.g x1.toNat)).bind fun y3=>
    if y3 then
     some x1
    else
     self1 (wrap .i64 (x1+1))
   else none
  else
   some (-1)
  ) 0
theorem U6 {N:Nat}{p_s:Sl Law}{p_f:Law->Option Bool}{kp_f:Nat}(hp_f:∀{a0:Law}{b:Bool},p_f a0=some b->FunO S kp_f [.p (.agg (B3 a0))] [] (pB b) [] []){y:Int}(h:F2 N p_s p_f=some y) :FunO S J9 [.p (vSl 18 B3 p_s),.clo kp_f [] []] [] (pN y) ([]) []:=by
 unfold F2 at h;refine A4 hS U3 ?_;refine Z6 hS trivial h (fun x1=>⟨[(8,pN x1),(7,pN (p_s.n:Int)),(1,.clo kp_f [] []),(0,.p (vSl 18 B3 p_s))],[]⟩) (ids:=[]) (fun _ _ _ _ _ self1 x1 hb1 h=>?_);refine kI hS h (fun h=>?_) (fun h=>?_)
 ·obtain⟨c8,h⟩:=G5 h;obtain⟨y3,e3,h⟩:=B5 h;refine B6 hS [] (And.intro c8 (by decide:(18:Nat)<=18)) (hp_f e3) ?_;refine kI hS h (fun h=>?_) (fun h=>?_)
  ·cases h;exact kR hS
  ·exact hb1 _ [] _ (wrap .i64 (x1+1)) trivial h
 ·cases h;exact kR hS
def D9 (N:Nat)(p_s:Sl Law)(p_f:Law->Option Bool):Option Bool:=
 (F2 N p_s p_f).bind fun y1=>
 some (decide (0<=y1))
theorem R4 {N:Nat}{p_s:Sl Law}{p_f:Law->Option Bool}{kp_f:Nat}(hp_f:∀{a0:Law}{b:Bool},p_f a0=some b->FunO S kp_f [.p (.agg (B3 a0))] [] (pB b) [] []){y:Bool}(h:D9 N p_s p_f=some y) :FunO S H9 [.p (vSl 18 B3 p_s),.clo kp_f [] []] [] (pB y) ([]) []:=by unfold D9 at h;refine A4 hS Q9 ?_;refine kC hS h (U6 hS hL (fun e=>hp_f e)) (fun y1 h=>?_);cases h;exact kR hS
def Ci (N:Nat)(p_laws:Sl Law):Option Int:=
 if (decide (64<(p_laws.n:Int))) then
  some 12
 else
  (D9 N p_laws (fun (u1:Law)=>AL N u1)).bind fun y1=>
  if y1 then
   some 17
  else
   some 0
theorem KB {N:Nat}{p_laws:Sl Law}{y:Int}(h:Ci N p_laws=some y) :FunO S EY [.p (vSl 18 B3 p_laws)] [] (pN y) ([]) []:=by
 unfold Ci at h;refine A4 hS Kl ?_;refine kI hS h (fun h=>?_) (fun h=>?_)
 ·cases h;exact kR hS
 ·refine kC hS h (R4 hS hL (fun e=>Ia hS hL e)) (fun y1 h=>?_);refine kI hS h (fun h=>?_) (fun h=>?_)
  ·cases h;exact kR hS
  ·cases h;exact kR hS
def Cj (N:Nat)(p_laws:Sl Law)(p_words:Sl (Sl A2)):Option Int:=
 (Ci N p_laws).bind fun y1=>
 if (y1 != 0) then
  some y1
 else
  if (decide (256<(p_words.n:Int))) then
   some 12
  else
   CA N (fun self1 (x1:Int)=>
    if (decide (x1<(p_words.n:Int))) then
     if ((0:Int)<=x1/\x1<(p_words.n:Int))then
      (Aw N (p_words.g x1.toNat)).bind fun y4=>
      if (y4 != 0) then
       some y4
      else
       self1 (wrap .i64 (x1+1))
     else none
    else
     some 0
    ) 0
theorem KC {N:Nat}{p_laws:Sl Law}{p_words:Sl (Sl A2)}{y:Int}(h:Cj N p_laws p_words=some y) :FunO S EX [.p (vSl 18 B3 p_laws),.p (vSl 1 (cL 2 A0) p_words)] [] (pN y) ([]) []:=by
 unfold Cj at h;refine A4 hS Kk ?_;refine kC hS h (KB hS hL) (fun y1 h=>?_);refine kI hS h (fun h=>?_) (fun h=>?_)
 ·cases h;exact kR hS
 ·refine kI hS h (fun h=>?_) (fun h=>?_)
  ·cases h;exact kR hS
  ·refine Z6 hS trivial h (fun x1=>⟨[(19,pN x1),(18,pN (p_words.n:Int)),(17,.p (vSl 1 (cL 2 A0) p_words))],[]⟩) (ids:=[]) (fun _ _ _ _ _ self1 x1 hb1 h=>?_);refine kI hS h (fun h=>?_) (fun h=>?_)
   ·obtain⟨c10,h⟩:=G5 h;obtain⟨y4,e4,h⟩:=B5 h;refine B6 hS [] c10 (Eo hS hL e4) ?_;refine kI hS h (fun h=>?_) (fun h=>?_)
    ·cases h;exact kR hS
    ·exact hb1 _ [] _ (wrap .i64 (x1+1)) trivial h
   ·cases h;exact kR hS
end Go.AM
namespace Go.AM
open IntKind (wrap)
open Go.Proofs
set_option maxRecDepth 10000
set_option maxHeartbeats 2000000
variable {S:X8}(hS:F6 S Tryz.prog) (hL:Oq S)
include hS hL
def Vg (c:Int):Option PV:=if c=0 then none else some (.iface 210 (pI .i64 c))
def AN (N:Nat)(c:Int)(q0:Sl A2)(q1:Sl Law):Option (List (Int×(Sl A2))):=
 (A8 N q0).bind fun y1=>
 Gb (0,y1) (
  Dv N (fun self1 (x1:Sl A2) (x2:Int)=>
   if (decide (x2<(q1.n:Int))) then
    if ((0:Int)<=x2/\x2<(q1.n:Int))then
     (FA N (q1.g x2.toNat) x1).bind fun y4=>
     if (y4.2 != 0) then
      if y4.2=c then some []else none
     else
      Gb (wrap .i64 (x2+1),y4.1) (
       self1 y4.1 (wrap .i64 (x2+1))
       )
    else none
   else
    if c=0 then some []else none
   ) y1 0
  )
theorem DD {N:Nat}{q0:Sl A2}{q1:Sl Law}{c:Int}{L:List (Int×(Sl A2))}(h:AN N c q0 q1=some L) :IX S N2 [] [.reg 0 0,.reg 1 0] [.cells [.p (vSl 2 A0 q0)],.cells [.p (vSl 18 B3 q1)]] (L.map (fun (x:Int×(Sl A2))=>[pI .i64 x.1,vSl 2 A0 x.2])) (Vg c):=by
 unfold AN at h;refine Tm hS HY ?_;refine kC hS h (K0 hS hL) (fun y1 h=>?_);obtain⟨L1,rfl,hcL1⟩:=IV h;replace h:=hcL1;refine Bo hS trivial (ys:=(fun (x:Int×(Sl A2))=>[pI .i64 x.1,vSl 2 A0 x.2]) (0,y1)) (rest:=L1.map (fun (x:Int×(Sl A2))=>[pI .i64 x.1,vSl 2 A0 x.2])) ?_ ?_
 ·refine D5 hS trivial (b:=false) (fun c1=>?_) (fun c1=>?_)
  ·exact Bool.noConfusion ((rfl:false=false).symm.trans c1)
  ·refine LZ hS trivial h (fun x1 x2 L2=>⟨[(17,pN x2),(16,pN (q1.n:Int)),(15,.p (vSl 18 B3 q1)),(4,.p (vSl 2 A0 x1)),(0,.yf 2)],[(2,.yld (L2.map (fun (x:Int×(Sl A2))=>[pI .i64 x.1,vSl 2 A0 x.2])) true),(1,.cells [.p (vSl 18 B3 q1)]),(0,.cells [.p (vSl 2 A0 q0)])]⟩) (ids:=[(0,0),(1,1),(2,2)]) (fun _ _ _ _ _ self1 x1 x2 L2 hb1 h=>?_);refine kI hS h (fun h=>?_) (fun h=>?_)
   ·obtain⟨c13,h⟩:=G5 h;obtain⟨y4,e4,h⟩:=B5 h;refine B6 hS [] (And.intro c13 (by decide:(18:Nat)<=18)) (PQ hS hL e4) ?_;refine D5 hS trivial (b:=y4.2 != 0) (fun c14=>?_) (fun c14=>?_)
    ·replace h:=itT c14 h;obtain⟨c0,h⟩:=G5 h;obtain rfl:=B4 h;have hc0:Vg c=some (.iface 210 (pI .i64 y4.2)):=by
      have:¬y4.2=0:=by simpa using c14
      rw[<- c0];simp[Vg,this]
     refine WR hS trivial (x:=.iface 210 (pI .i64 y4.2)) ?_;exact VH hS trivial (x:=.iface 210 (pI .i64 y4.2)) (objs:=[(.cells [.p (vSl 2 A0 q0)]),.cells [.p (vSl 18 B3 q1)],.yld [] true]) [0,1,2] ⟨true,rfl,rfl,fun _=>by rw[hc0];rfl,fun e=>nomatch e⟩
    ·replace h:=itF c14 h;obtain⟨L5,rfl,hcL5⟩:=IV h;replace h:=hcL5;refine Bo hS trivial (ys:=(fun (x:Int×(Sl A2))=>[pI .i64 x.1,vSl 2 A0 x.2]) (wrap .i64 (x2+1),y4.1)) (rest:=L5.map (fun (x:Int×(Sl A2))=>[pI .i64 x.1,vSl 2 A0 x.2])) ?_ ?_
     ·refine D5 hS trivial (b:=false) (fun c15=>?_) (fun c15=>?_)
      ·exact Bool.noConfusion ((rfl:false=false).symm.trans c15)
      ·exact hb1 _ [(0,0),(1,1),(2,2)] _ y4.1 (wrap .i64 (x2+1)) L5 trivial h
     ·refine D5 hS trivial (b:=true) (fun c16=>?_) (fun c16=>?_)
      ·exact A6 hS trivial (a:=.tup []) (objs:=[(.cells [.p (vSl 2 A0 q0)]),.cells [.p (vSl 18 B3 q1)],.yld [] false]) ⟨[],[(2,.yld [] false),(1,.cells [.p (vSl 18 B3 q1)]),(0,.cells [.p (vSl 2 A0 q0)])]⟩ [0,1,2] (ids:=[(0,0),(1,1),(2,2)]) ⟨false,rfl,rfl,fun e=>(nomatch e),fun _=>⟨_,rfl⟩⟩
      ·exact Bool.noConfusion ((rfl:true=true).symm.trans c16)
   ·obtain⟨c0,h⟩:=G5 h;obtain rfl:=B4 h;exact A6 hS trivial (a:=.tup []) (objs:=[(.cells [.p (vSl 2 A0 q0)]),.cells [.p (vSl 18 B3 q1)],.yld [] true]) ⟨[],[(2,.yld [] true),(1,.cells [.p (vSl 18 B3 q1)]),(0,.cells [.p (vSl 2 A0 q0)])]⟩ [0,1,2] (ids:=[(0,0),(1,1),(2,2)]) ⟨true,rfl,rfl,fun _=>by subst c0;exact⟨_,rfl⟩,fun e=>(nomatch e)⟩
 ·refine D5 hS trivial (b:=true) (fun c17=>?_) (fun c17=>?_)
  ·exact A6 hS trivial (a:=.tup []) (objs:=[(.cells [.p (vSl 2 A0 q0)]),.cells [.p (vSl 18 B3 q1)],.yld [] false]) ⟨[],[(2,.yld [] false),(1,.cells [.p (vSl 18 B3 q1)]),(0,.cells [.p (vSl 2 A0 q0)])]⟩ [0,1,2] (ids:=[(0,0),(1,1),(2,2)]) ⟨false,rfl,rfl,fun e=>(nomatch e),fun _=>⟨_,rfl⟩⟩
  ·exact Bool.noConfusion ((rfl:true=true).symm.trans c17)
def Ck (N:Nat)(p_laws:Sl Law)(p_w:Sl A2):Option ((Sl A2)×(Sl Law)):=
 some (p_w,p_laws)
theorem Fe {N:Nat}{p_laws:Sl Law}{p_w:Sl A2}{y:(Sl A2)×(Sl Law)}(h:Ck N p_laws p_w=some y) :FunO S Fa [.p (vSl 18 B3 p_laws),.p (vSl 2 A0 p_w)] [] (.clo N2 [] [.reg 0 0,.reg 1 0]) ([.cells [.p (vSl 2 A0 y.1)],.cells [.p (vSl 18 B3 y.2)]]) []:=by unfold Ck at h;refine A4 hS Ko ?_;obtain rfl:=B4 h;exact A6 hS trivial ⟨[(4,.clo N2 [] [.reg 4000 0,.reg 3000 0])],[(4000,.cells [.p (vSl 2 A0 p_w)]),(3000,.cells [.p (vSl 18 B3 p_laws)])]⟩ [4000,3000] (ids:=[(3000,3000),(4000,4000)]) ⟨rfl,rfl,rfl⟩
def J3 (N:Nat)(c:Int)(p_laws:Sl Law)(p_w:Sl A2):Option (Sl A2):=
 (Ck N p_laws p_w).bind fun y1=>
 (AN N c y1.1 y1.2).bind fun L1=>
 V4 L1 (fun self1 (x1:Int×(Sl A2)) (z1:Sl A2)=>
  self1 x1.2
  ) (fun (z1:Sl A2)=>
   some z1
  ) (Sl.nil:Sl A2)
theorem Hb {N:Nat}{p_laws:Sl Law}{p_w:Sl A2}{y:Sl A2}(h:J3 N 0 p_laws p_w=some y) :FunO S F7 [.p (vSl 18 B3 p_laws),.p (vSl 2 A0 p_w)] [] (.p (vSl 2 A0 y)) ([]) []:=by
 unfold J3 at h;refine A4 hS DA ?_;refine kC hS h (Fe hS hL) (fun y1 h=>?_);obtain⟨L1,e2,h⟩:=B5 h;have hf:IX S N2 [] [.reg 0 0,.reg 1 0] [.cells [.p (vSl 2 A0 y1.1)],.cells [.p (vSl 18 B3 y1.2)]] (L1.map (fun (x:Int×(Sl A2))=>[pI .i64 x.1,vSl 2 A0 x.2])) none:=DD hS hL e2;refine QG hS trivial [8000,8001] [4] 901 (fun z1=>⟨[(4,.reg 5000 0)],[(5000,.cells [.p (vSl 2 A0 z1)])]⟩) (idl:=[(5000,5000)]) h hf (fun _=>by kernel_rfl) (fun _=>by kernel_rfl) (fun _=>by kernel_rfl) (fun _=>by kernel_rfl) (fun x1 _ self1 z1 hb1 h=>?_) (fun z1 h=>?_)
 ·refine Gc hS trivial ?_;exact hb1 _ [(901,901),(5000,5000)] _ x1.2 trivial h
 ·cases h;exact kR hS
theorem Hc {N:Nat}{c:Int}{p_laws:Sl Law}{p_w:Sl A2}{y:Sl A2}(hc:c≠0)(h:J3 N c p_laws p_w=some y) :S.F F7 [.p (vSl 18 B3 p_laws),.p (vSl 2 A0 p_w)] [] fun res o k=>res=.panic (.iface 210 (pI .i64 c))/\o=[]/\k=[]:=by
 unfold J3 at h;refine Va hS DA ?_;refine kC hS h (Fe hS hL) (fun y1 h=>?_);obtain⟨L1,e2,h⟩:=B5 h;have hf:IX S N2 [] [.reg 0 0,.reg 1 0] [.cells [.p (vSl 2 A0 y1.1)],.cells [.p (vSl 18 B3 y1.2)]] (L1.map (fun (x:Int×(Sl A2))=>[pI .i64 x.1,vSl 2 A0 x.2])) (some (.iface 210 (pI .i64 c))):=by
  have:=DD hS hL e2
  simpa[Vg,hc]using this
 refine QG hS trivial [8000,8001] [4] 901 (fun z1=>⟨[(4,.reg 5000 0)],[(5000,.cells [.p (vSl 2 A0 z1)])]⟩) (idl:=[(5000,5000)]) h hf (fun _=>by kernel_rfl) (fun _=>by kernel_rfl) (fun _=>by kernel_rfl) (fun _=>by kernel_rfl) (fun x1 _ self1 z1 hb1 h=>?_) (fun z1 h=>?_)
 ·refine Gc hS trivial ?_;exact hb1 _ [(901,901),(5000,5000)] _ x1.2 trivial h
 ·exact VH hS trivial (x:=.iface 210 (pI .i64 c)) (objs:=[]) [] ⟨rfl,rfl,rfl⟩
def AO (N:Nat)(p_laws:Sl Law)(p_w:Sl A2):Option ((Sl A2)×Bool):=
 match J3 N 0 p_laws p_w with
 |some y=>some (y,true)
 |none=>(J3 N 11 p_laws p_w).bind fun _=>some ((Sl.nil:Sl A2),false)
theorem Ib {N:Nat}{p_laws:Sl Law}{p_w:Sl A2}{y:(Sl A2)×Bool}(h:AO N p_laws p_w=some y) :FunO S Dy [.p (vSl 18 B3 p_laws),.p (vSl 2 A0 p_w)] [] (.tup [.p (vSl 2 A0 y.1),pB y.2]) ([]) []:=by
 unfold AO at h;refine A4 hS HU ?_;rcases e:J3 N 0 p_laws p_w with _|z
 ·rw[e]at h;obtain⟨z,e1,h⟩:=B5 h;obtain rfl:=B4 h;refine B6 hS [7000,3000,4000,5000] trivial (hL.attP (Hc hS hL (by decide) e1)) ?_;refine S9 hS trivial [(0,.l [5000]),(1,.l [7000]),(3,.a [5000])] ?_;refine P3 trivial ?_;exact A6 hS trivial ⟨[(5,pB false),(4,.reg 5000 0)],[(5000,.cells [.p (vSl 2 A0 Sl.nil)])]⟩ [] (ids:=[(5000,5000)]) ⟨rfl,rfl,rfl⟩
 ·rw[e]at h;obtain rfl:=B4 h;refine B6 hS [7000,3000,4000,5000] trivial (hL.attR (Hb hS hL e)) ?_;refine S9 hS trivial [(0,.l [5000]),(1,.l [7000]),(3,.a [5000])] ?_;refine P3 trivial ?_;exact A6 hS trivial ⟨[(5,pB true),(4,.reg 5000 0)],[(5000,.cells [.p (vSl 2 A0 z)])]⟩ [] (ids:=[(5000,5000)]) ⟨rfl,rfl,rfl⟩
end Go.AM
namespace Go.AM
open Go.Proofs
set_option maxRecDepth 10000
set_option maxHeartbeats 2000000
variable {S:X8}(hS:F6 S Tryz.prog) (hL:Oq S)
include hS hL
def By (N:Nat)(p_laws:Sl Law)(p_w:Sl A2):Option ((Sl A2)×Int):=
 (Cj N p_laws (Sl.of [p_w]:Sl (Sl A2))).bind fun y1=>
 if (y1 != 0) then
  some ((Sl.nil:Sl A2),y1)
 else
  (AO N p_laws p_w).bind fun y2=>
  if (!y2.2) then
   some ((Sl.nil:Sl A2),11)
  else
   some (y2.1,0)
theorem JF {N:Nat}{p_laws:Sl Law}{p_w:Sl A2}{y:(Sl A2)×Int}(h:By N p_laws p_w=some y) :FunO S Ec [.p (vSl 18 B3 p_laws),.p (vSl 2 A0 p_w)] [] (.tup [.p (vSl 2 A0 y.1),pN y.2]) ([]) []:=by
 unfold By at h;refine A4 hS Jh ?_;refine BK hS (rfl:true=true) ⟨[(11,.vec 12000),(9,.p (vSl 18 B3 p_laws)),(1,.p (vSl 2 A0 p_w)),(0,.p (vSl 18 B3 p_laws))],[(12000,.vec N8 1 (Sl.of [p_w]:Sl (Sl A2)).n (fun i=>cL 2 A0 ((Sl.of [p_w]:Sl (Sl A2)).g i)) false)]⟩ (ids:=[(12000,12000)]) ?_ (hle:=klR [(3,.fn 1 (Sl.of [p_w]:Sl (Sl A2)).n (E9 [J5] [(0,cL 2 A0 p_w)]) (fun i=>cL 2 A0 ((Sl.of [p_w]:Sl (Sl A2)).g i)))] (al1 ⟨rfl,(fun i hi=>match i,hi with|0,_=>rfl|_+1,hi=>absurd hi (by omega))⟩ al0));refine kC hS h (KC hS hL) (fun y1 h=>?_);refine kI hS h (fun h=>?_) (fun h=>?_)
 ·obtain rfl:=B4 h;exact A6 hS trivial ⟨[(5,pN y1),(4,.p (vSl 2 A0 (Sl.nil:Sl A2)))],[]⟩ [] (ids:=[]) ⟨rfl,rfl,rfl⟩
 ·refine kC hS h (Ib hS hL) (fun y2 h=>?_);refine kI hS h (fun h=>?_) (fun h=>?_)
  ·obtain rfl:=B4 h;exact A6 hS trivial ⟨[(5,pN 11),(4,.p (vSl 2 A0 (Sl.nil:Sl A2)))],[]⟩ [] (ids:=[]) ⟨rfl,rfl,rfl⟩
  ·cases h;exact kR hS
end Go.AM
