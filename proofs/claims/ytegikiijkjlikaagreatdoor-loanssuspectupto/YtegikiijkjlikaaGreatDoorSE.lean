/- What a law's walk and its plain proof need, part 5: no condition of its own. -/
import Derived.Test.YtegikiijkjlikaaGreatDoorSD
import Derived.Test.YtegikiijkjlikaaGreatDoorSC
import Derived.RecoverIn
import Derived.Test.YtegikiijkjlikaaGreatDoorProg
import Derived.Lib.SlTrimSet
import Derived.TacticsInMore
set_option linter.defProp false
set_option linter.unusedSimpArgs false
set_option linter.unusedVariables false
set_option linter.unusedSectionVars false
namespace Go.AM
noncomputable abbrev AY2:=Go.Proofs.Tryz.prog.funcs
def AZ9:=@BitVec.getLsbD_and
def Bb3:=@Bool.eq_iff_iff
def Bd6:=@BitVec.eq_of_getLsbD_eq
def Bm7:=@BitVec.getLsbD_ushiftRight
def Bm8:=@BitVec.getLsbD_one
def Bn2:=@BitVec.getLsbD_shiftLeft
def Bn6:=@BitVec.getLsbD_setWidth
def Bo7:=@BitVec.getLsbD_ofBool
def Bq5:=@BitVec.toNat_ofNat
def Br0:=@Go.Proofs.Tryz.func13
def Aj1 (D:List Deferred)(a:Act):Act:={ a with defers:=a.defers++D }
theorem EQ (D:List Deferred)(a:Act)(d:Option Tmp)(v:Value):(Aj1 D a).put d v=Aj1 D (a.put d v):=by cases d<;>rfl
theorem Iu {F:Fence}{n:Nat}{P:Program}{ops:Array Oper}{Q:Exit->Act->World->Prop}(D:List Deferred):∀(l:List Nat) (a:Act) (w:World),wpOpsIn F n P ops Q l a w ->
 wpOpsIn F n P ops (fun e a' w'=>∃a0,a' = Aj1 D a0/\Q e a0 w') l (Aj1 D a) w
 |[],a,w,h=>⟨a,rfl,h⟩
 |i::l,a,w,h=>by
  have ih:=Iu (F:=F) (n:=n) (P:=P) (ops:=ops) (Q:=Q) D l;simp only[wpOpsIn]at h⊢;have e1:(Aj1 D a).eval=a.eval:=by funext x;cases x<;>rfl
  have e2:(Aj1 D a).tmps=a.tmps:=rfl;cases ho:ops[i]? with
  |none=>simp only[ho]at h⊢;exact ih a w h
  |some o=>
   simp only[ho]at h⊢;rw[e2,e1];by_cases hw:Region.wanted o (yielded ops a.tmps)=true
   ·rw[if_pos hw]at h⊢;refine⟨by rw[e1];exact h.1,?_⟩;have h2:=h.2;rw[e1];generalize (o.semAt F.round a.eval).run P w=r at h2;unfold Oper.uponIn at h2⊢;split at h2
    ·rw[EQ];exact ih _ _ h2
    ·rw[EQ];exact ih _ _ h2
    ·exact ih _ _ h2 |> fun x=>by
      rename_i d w'
      have:({ (Aj1 D a)with defers:=d::(Aj1 D a).defers }:Act).put o.dst undef=Aj1 D (({ a with defers:=d::a.defers }:Act).put o.dst undef):=by rw[<- EQ];rfl
      rw[this];exact x
    ·refine⟨h2.1,h2.2.mono ?_⟩;intro e w' he;cases e with
     |returned v=>have:=ih _ _ he;rw[<- EQ]at this;exact this
     |panicked ch=>exact⟨a,rfl,he⟩
     |outgrown=>obtain⟨a1,w1,h3⟩:=he;exact⟨Aj1 D a1,w1,a1,rfl,h3⟩
    ·refine⟨h2.1,fun c cs hr=>?_⟩;obtain⟨v,w',g1,g2⟩:=h2.2 c cs hr;exact⟨v,w',by have:=ih _ _ g1;rw[<- EQ]at this;exact this,g2⟩
    ·refine⟨h2.1,h2.2.mono ?_⟩;intro e w' he;cases e with
     |returned v=>have:=ih _ _ he;rw[<- EQ]at this;exact this
     |panicked ch=>exact⟨a,rfl,he⟩
     |outgrown=>obtain⟨a1,w1,h3⟩:=he;exact⟨Aj1 D a1,w1,a1,rfl,h3⟩
    ·exact⟨a,rfl,h2⟩
    ·exact h2.elim
   ·rw[if_neg hw]at h⊢;rw[EQ];exact⟨h.1,ih _ _ h.2⟩
section
variable {P:Program}{C:Ctx}{st:St}{rho:Nat->Value}
theorem ER {fn:Func}{R:Ending->World->Prop}{u:FrameMode}(hu:u ≠ .run){tmps:Array Value}{D:List Deferred}(hfin:∀a w,Sat C st a w rho->a.tmps=tmps->LeavesInM Fence.wide 0 P fn tmps R D u w) :∀(ds:List Deferred) (a:Act) (w:World),a.defers=ds->a.tmps=tmps->Sat C st a w rho->LeavesInM Fence.wide 0 P fn tmps R (ds++D) u w
 |[],a,w,hd,ht,h=>hfin a w h ht
 |d::ds,a,w,hd,ht,h=>by obtain⟨r,w',h1,h2,h3⟩:=h.unmark hd;exact⟨hu,.inl ⟨r,w',h1,h2,ER hu hfin ds { a with defers:=ds } w' rfl ht h3⟩⟩
end
end Go.AM
namespace Go.AM
structure BO where
 First:Int
 Last:Int
 deriving Inhabited,DecidableEq
abbrev Kh (x:BO):List PV:=[(pI .i64 x.First),pI .i64 x.Last]
structure Sound where
 Plus:Int
 Minus:Int
 deriving Inhabited,DecidableEq
abbrev A0 (x:Sound):List PV:=[(pI .u32 x.Plus),pI .u32 x.Minus]
structure Es where
 From:(Sl Sound)
 To:(Sl Sound)
 deriving Inhabited
abbrev M9 (x:Es):List PV:=[(vSl 2 A0 x.From),vSl 2 A0 x.To]
structure Y4 where
 Parent:Int
 Name:Str
 deriving Inhabited,DecidableEq
abbrev O6 (x:Y4):List PV:=[(pI .i64 x.Parent),.str x.Name]
inductive Pat where
 |nil
 |mk (Kind:Int) (Is:Sound) (Not:Bool) (Min:Int) (Max:Int) (n:Nat) (g:Nat->Pat)
instance:Inhabited Pat:=⟨.nil⟩
def Pat.Kind:Pat->Int
 |.nil=>0
 |.mk x _ _ _ _ _ _=>x
def Pat.Is:Pat->Sound
 |.nil=>default
 |.mk _ x _ _ _ _ _=>x
def Pat.Not:Pat->Bool
 |.nil=>false
 |.mk _ _ x _ _ _ _=>x
def Pat.Min:Pat->Int
 |.nil=>0
 |.mk _ _ _ x _ _ _=>x
def Pat.Max:Pat->Int
 |.nil=>0
 |.mk _ _ _ _ x _ _=>x
def Pat.L:Pat->Sl Pat
 |.nil=>⟨0,fun _=>.nil⟩
 |.mk _ _ _ _ _ n g=>⟨n,g⟩
def Bf:Pat->Nat->List PV
 |.nil=>fun _=>[]
 |.mk _ _ _ _ _ n g=>fun i=>[(pI .i64 (g i).Kind),pI .u32 (g i).Is.Plus,pI .u32 (g i).Is.Minus,.bb (g i).Not,pI .i64 (g i).Min,pI .i64 (g i).Max,.sl false 7 (g i).L.n (Bf (g i))]
abbrev B1 (x:Pat):List PV:=[(pI .i64 x.Kind),pI .u32 x.Is.Plus,pI .u32 x.Is.Minus,.bb x.Not,pI .i64 x.Min,pI .i64 x.Max,.sl false 7 x.L.n (Bf x)]
theorem K5 (x:Pat):∀i,i<x.L.n->Bf x i=B1 (x.L.g i):=by
 cases x with
 |nil=>intro i hi;exact absurd (show i<0 from hi) (by omega)
 |mk Kind Is Not Min Max n g=>exact fun _ _=>rfl
structure Bj where
 From:Int
 Clear:Int
 Set:Sound
 Take:Int
 Of:Int
 deriving Inhabited,DecidableEq
abbrev O7 (x:Bj):List PV:=[(pI .i64 x.From),pI .u32 x.Clear,pI .u32 x.Set.Plus,pI .u32 x.Set.Minus,pI .u32 x.Take,pI .i64 x.Of]
structure Law where
 Name:Str
 Left:Pat
 Right:Pat
 If:(Sl Sound)
 Out:(Sl Bj)
 Mode:Int
 deriving Inhabited
abbrev A5 (x:Law):List PV:=[(.str x.Name),pI .i64 x.Left.Kind,pI .u32 x.Left.Is.Plus,pI .u32 x.Left.Is.Minus,.bb x.Left.Not,pI .i64 x.Left.Min,pI .i64 x.Left.Max,.sl false 7 x.Left.L.n (Bf x.Left),pI .i64 x.Right.Kind,pI .u32 x.Right.Is.Plus,pI .u32 x.Right.Is.Minus,.bb x.Right.Not,pI .i64 x.Right.Min,pI .i64 x.Right.Max,.sl false 7 x.Right.L.n (Bf x.Right),vSl 2 A0 x.If,vSl 6 O7 x.Out,pI .i64 x.Mode]
structure B3 where
 Tree:(Sl Y4)
 Laws:(Sl Law)
 On:(Sl (Sl Int))
 deriving Inhabited
abbrev B2 (x:B3):List PV:=[(vSl 2 O6 x.Tree),vSl 18 A5 x.Laws,vSl 1 (cL 1 (cI .i64)) x.On]
structure F9 where
 a0:Int
 a1:Int
 deriving Inhabited,DecidableEq
abbrev I3 (x:F9):List PV:=[(pI .i64 x.a0),pI .i64 x.a1]
structure BP where
 Has:Bool
 W:(Sl Sound)
 deriving Inhabited
abbrev I4 (x:BP):List PV:=[(.bb x.Has),vSl 2 A0 x.W]
structure Aa where
 Gloss:Str
 Forms:(Sl BP)
 deriving Inhabited
abbrev I8 (x:Aa):List PV:=[(.str x.Gloss),vSl 2 I4 x.Forms]
inductive Part where
 |nil
 |sound (x:Sound) (no:Bool)
 |edge (e:Bool)
 |seq (n:Nat) (g:Nat->Part)
 |alt (n:Nat) (g:Nat->Part)
 |rep (o:Part) (mn mx:Int)
instance:Inhabited Part:=⟨.nil⟩
def Part.t:Part->Nat
 |.nil=>0
 |.sound _ _=>248
 |.edge _=>250
 |.seq _ _=>255
 |.alt _ _=>252
 |.rep _ _ _=>254
def Part.v:Part->PV
 |.nil=>.bb false
 |.sound x no=>.agg [pI .u32 x.Plus,pI .u32 x.Minus,.bb no]
 |.edge e=>.agg [.bb e]
 |.seq n g=>.agg [.sl false 1 n fun i=>[.iface (g i).t (g i).v]]
 |.alt n g=>.agg [.sl false 1 n fun i=>[.iface (g i).t (g i).v]]
 |.rep o mn mx=>.agg [.iface o.t o.v,pI .i64 mn,pI .i64 mx]
abbrev FP (x:Part):PV:=.iface x.t x.v
abbrev Et (x:Part):List PV:=[FP x]
structure Aj2 where
 is:Sound
 not:Bool
 deriving Inhabited,DecidableEq
abbrev XY (x:Aj2):List PV:=[(pI .u32 x.is.Plus),pI .u32 x.is.Minus,.bb x.not]
structure AL0 where
 end_:Bool
 deriving Inhabited,DecidableEq
abbrev AL1 (x:AL0):List PV:=[(.bb x.end_)]
structure Palt where
 l:(Sl Part)
 deriving Inhabited
abbrev AV1 (x:Palt):List PV:=[(vSl 1 Et x.l)]
structure AV2 where
 of:Part
 min:Int
 max:Int
 deriving Inhabited
abbrev AV3 (x:AV2):List PV:=[(FP x.of),pI .i64 x.min,pI .i64 x.max]
structure Pseq where
 l:(Sl Part)
 deriving Inhabited
abbrev AV4 (x:Pseq):List PV:=[(vSl 1 Et x.l)]
end Go.AM
namespace Go.AM
open Go.Proofs
abbrev Bk:Nat:=13
theorem DA:AY2[Bk]? = some Tryz.f13:=Br0
abbrev Pw:Nat:=14
theorem Zs:AY2[Pw]? = some Tryz.f14:=Tryz.func14
abbrev Mg:Nat:=15
theorem Vz:AY2[Mg]? = some Tryz.f15:=Tryz.func15
abbrev GZ:Nat:=16
theorem NS:AY2[GZ]? = some Tryz.f16:=Tryz.func16
abbrev Ki:Nat:=18
theorem Th:AY2[Ki]? = some Tryz.f18:=Tryz.func18
abbrev Ha:Nat:=20
theorem NT:AY2[Ha]? = some Tryz.f20:=Tryz.func20
abbrev Px:Nat:=22
theorem Zt:AY2[Px]? = some Tryz.f22:=Tryz.func22
abbrev Hb:Nat:=24
theorem NU:AY2[Hb]? = some Tryz.f24:=Tryz.func24
abbrev Kj:Nat:=27
theorem Ti:AY2[Kj]? = some Tryz.f27:=Tryz.func27
abbrev Hc:Nat:=31
theorem NV:AY2[Hc]? = some Tryz.f31:=Tryz.func31
abbrev Tj:Nat:=34
theorem Aj3:AY2[Tj]? = some Tryz.f34:=Tryz.func34
abbrev FQ:Nat:=37
theorem Mh:AY2[FQ]? = some Tryz.f37:=Tryz.func37
abbrev Iv:Nat:=38
theorem QY:AY2[Iv]? = some Tryz.f38:=Tryz.func38
abbrev Py:Nat:=39
theorem Zu:AY2[Py]? = some Tryz.f39:=Tryz.func39
abbrev CK:Nat:=40
theorem QZ:AY2[CK]? = some Tryz.f40:=Tryz.func40
abbrev Aj4:Nat:=41
theorem AL2:AY2[Aj4]? = some Tryz.f41:=Tryz.func41
abbrev Aj5:Nat:=42
theorem AL3:AY2[Aj5]? = some Tryz.f42:=Tryz.func42
abbrev Tk:Nat:=43
theorem Aj6:AY2[Tk]? = some Tryz.f43:=Tryz.func43
abbrev Aj7:Nat:=44
theorem AL4:AY2[Aj7]? = some Tryz.f44:=Tryz.func44
abbrev Iw:Nat:=45
theorem Ra:AY2[Iw]? = some Tryz.f45:=Tryz.func45
abbrev R7:Nat:=46
theorem Ab:AY2[R7]? = some Tryz.f46:=Tryz.func46
abbrev Hd:Nat:=47
theorem NW:AY2[Hd]? = some Tryz.f47:=Tryz.func47
abbrev Kk:Nat:=50
theorem Tl:AY2[Kk]? = some Tryz.f50:=Tryz.func50
abbrev Ix:Nat:=52
theorem Rb:AY2[Ix]? = some Tryz.f52:=Tryz.func52
abbrev Mi:Nat:=53
theorem VA:AY2[Mi]? = some Tryz.f53:=Tryz.func53
abbrev He:Nat:=54
theorem NX:AY2[He]? = some Tryz.f54:=Tryz.func54
abbrev Kl:Nat:=55
theorem Tm:AY2[Kl]? = some Tryz.f55:=Tryz.func55
abbrev N0:Nat:=56
theorem Ac:AY2[N0]? = some Tryz.f56:=Tryz.func56
abbrev Hf:Nat:=57
theorem NY:AY2[Hf]? = some Tryz.f57:=Tryz.func57
abbrev FR:Nat:=58
theorem Mj:AY2[FR]? = some Tryz.f58:=Tryz.func58
abbrev DF:Nat:=59
theorem Iy:AY2[DF]? = some Tryz.f59:=Tryz.func59
abbrev G3:Nat:=61
theorem N1:AY2[G3]? = some Tryz.f61:=Tryz.func61
abbrev FS:Nat:=63
theorem Mk:AY2[FS]? = some Tryz.f63:=Tryz.func63
abbrev Hg:Nat:=64
theorem NZ:AY2[Hg]? = some Tryz.f64:=Tryz.func64
abbrev Ml:Nat:=66
theorem VB:AY2[Ml]? = some Tryz.f66:=Tryz.func66
abbrev Pz:Nat:=67
theorem Zv:AY2[Pz]? = some Tryz.f67:=Tryz.func67
abbrev Hh:Nat:=70
theorem Oa:AY2[Hh]? = some Tryz.f70:=Tryz.func70
abbrev Iz:Nat:=71
theorem Rc:AY2[Iz]? = some Tryz.f71:=Tryz.func71
abbrev Mm:Nat:=72
theorem VC:AY2[Mm]? = some Tryz.f72:=Tryz.func72
abbrev Km:Nat:=73
theorem Tn:AY2[Km]? = some Tryz.f73:=Tryz.func73
abbrev ES:Nat:=74
theorem VD:AY2[ES]? = some Tryz.f74:=Tryz.func74
abbrev Hi:Nat:=75
theorem Ob:AY2[Hi]? = some Tryz.f75:=Tryz.func75
abbrev Kn:Nat:=76
theorem Tp:AY2[Kn]? = some Tryz.f76:=Tryz.func76
abbrev H1:Nat:=77
theorem K9:AY2[H1]? = some Tryz.f77:=Tryz.func77
abbrev AH:Nat:=78
theorem CA:AY2[AH]? = some Tryz.f78:=Tryz.func78
abbrev Mn:Nat:=79
theorem VE:AY2[Mn]? = some Tryz.f79:=Tryz.func79
abbrev Mo:Nat:=80
theorem VF:AY2[Mo]? = some Tryz.f80:=Tryz.func80
abbrev Ko:Nat:=81
theorem Tq:AY2[Ko]? = some Tryz.f81:=Tryz.func81
abbrev Mp:Nat:=82
theorem VG:AY2[Mp]? = some Tryz.f82:=Tryz.func82
abbrev AI:Nat:=83
theorem Fn:AY2[AI]? = some Tryz.f83:=Tryz.func83
abbrev P5:Nat:=84
theorem Bg:AY2[P5]? = some Tryz.f84:=Tryz.func84
abbrev Fo:Nat:=85
theorem KN:AY2[Fo]? = some Tryz.f85:=Tryz.func85
abbrev S1:Nat:=86
theorem FT:AY2[S1]? = some Tryz.f86:=Tryz.func86
abbrev Hj:Nat:=87
theorem Oc:AY2[Hj]? = some Tryz.f87:=Tryz.func87
abbrev Kq:Nat:=88
theorem Tr:AY2[Kq]? = some Tryz.f88:=Tryz.func88
abbrev Mq:Nat:=89
theorem VH:AY2[Mq]? = some Tryz.f89:=Tryz.func89
abbrev FU:Nat:=90
theorem Mr:AY2[FU]? = some Tryz.f90:=Tryz.func90
abbrev Hk:Nat:=91
theorem Od:AY2[Hk]? = some Tryz.f91:=Tryz.func91
abbrev Hl:Nat:=92
theorem Oe:AY2[Hl]? = some Tryz.f92:=Tryz.func92
abbrev Hm:Nat:=94
theorem Og:AY2[Hm]? = some Tryz.f94:=Tryz.func94
abbrev IA:Nat:=95
theorem Rd:AY2[IA]? = some Tryz.f95:=Tryz.func95
abbrev Ms:Nat:=96
theorem VJ:AY2[Ms]? = some Tryz.f96:=Tryz.func96
abbrev Mt:Nat:=97
theorem VK:AY2[Mt]? = some Tryz.f97:=Tryz.func97
abbrev GD:Nat:=98
theorem Zw:AY2[GD]? = some Tryz.f98:=Tryz.func98
abbrev PA:Nat:=99
theorem Zx:AY2[PA]? = some Tryz.f99:=Tryz.func99
abbrev PB:Nat:=103
theorem Zy:AY2[PB]? = some Tryz.f103:=Tryz.func103
abbrev Hn:Nat:=105
theorem Oh:AY2[Hn]? = some Tryz.f105:=Tryz.func105
abbrev Fp:Nat:=106
theorem KO:AY2[Fp]? = some Tryz.f106:=Tryz.func106
abbrev Ho:Nat:=107
theorem Oi:AY2[Ho]? = some Tryz.f107:=Tryz.func107
abbrev IB:Nat:=108
theorem Re:AY2[IB]? = some Tryz.f108:=Tryz.func108
abbrev Mu:Nat:=109
theorem VL:AY2[Mu]? = some Tryz.f109:=Tryz.func109
abbrev PC:Nat:=110
theorem Zz:AY2[PC]? = some Tryz.f110:=Tryz.func110
abbrev Mv:Nat:=111
theorem VM:AY2[Mv]? = some Tryz.f111:=Tryz.func111
abbrev Hq:Nat:=112
theorem Oj:AY2[Hq]? = some Tryz.f112:=Tryz.func112
abbrev J4:Nat:=113
theorem U9:AY2[J4]? = some Tryz.f113:=Tryz.func113
abbrev Fq:Nat:=114
theorem KP:AY2[Fq]? = some Tryz.f114:=Tryz.func114
abbrev Kr:Nat:=115
theorem Ts:AY2[Kr]? = some Tryz.f115:=Tryz.func115
abbrev Mw:Nat:=116
theorem VN:AY2[Mw]? = some Tryz.f116:=Tryz.func116
abbrev Mx:Nat:=117
theorem VO:AY2[Mx]? = some Tryz.f117:=Tryz.func117
abbrev I1:Nat:=118
theorem BH:AY2[I1]? = some Tryz.f118:=Tryz.func118
abbrev H9:Nat:=119
theorem DH:AY2[H9]? = some Tryz.f119:=Tryz.func119
abbrev H2:Nat:=120
theorem Fr:AY2[H2]? = some Tryz.f120:=Tryz.func120
abbrev P7:Nat:=121
theorem KQ:AY2[P7]? = some Tryz.f121:=Tryz.func121
abbrev My:Nat:=122
theorem VP:AY2[My]? = some Tryz.f122:=Tryz.func122
abbrev Ks:Nat:=123
theorem Tt:AY2[Ks]? = some Tryz.f123:=Tryz.func123
abbrev IC:Nat:=124
theorem Rf:AY2[IC]? = some Tryz.f124:=Tryz.func124
abbrev PD:Nat:=125
theorem ZA:AY2[PD]? = some Tryz.f125:=Tryz.func125
abbrev ID:Nat:=126
theorem Rg:AY2[ID]? = some Tryz.f126:=Tryz.func126
abbrev IE:Nat:=127
theorem Rh:AY2[IE]? = some Tryz.f127:=Tryz.func127
abbrev Mz:Nat:=128
theorem VQ:AY2[Mz]? = some Tryz.f128:=Tryz.func128
abbrev Kt:Nat:=129
theorem Tu:AY2[Kt]? = some Tryz.f129:=Tryz.func129
abbrev H7:Nat:=130
theorem S5:AY2[H7]? = some Tryz.f130:=Tryz.func130
abbrev J5:Nat:=131
theorem V2:AY2[J5]? = some Tryz.f131:=Tryz.func131
abbrev Fs:Nat:=132
theorem KR:AY2[Fs]? = some Tryz.f132:=Tryz.func132
abbrev Bq:Nat:=133
theorem MA:AY2[Bq]? = some Tryz.f133:=Tryz.func133
abbrev PF:Nat:=134
theorem ZB:AY2[PF]? = some Tryz.f134:=Tryz.func134
abbrev MB:Nat:=135
theorem VR:AY2[MB]? = some Tryz.f135:=Tryz.func135
abbrev MC:Nat:=136
theorem VT:AY2[MC]? = some Tryz.f136:=Tryz.func136
abbrev PG:Nat:=137
theorem ZC:AY2[PG]? = some Tryz.f137:=Tryz.func137
abbrev I0:Nat:=138
theorem T5:AY2[I0]? = some Tryz.f138:=Tryz.func138
abbrev Ft:Nat:=139
theorem KS:AY2[Ft]? = some Tryz.f139:=Tryz.func139
abbrev Hr:Nat:=140
theorem Ok:AY2[Hr]? = some Tryz.f140:=Tryz.func140
abbrev FV:Nat:=141
theorem MD:AY2[FV]? = some Tryz.f141:=Tryz.func141
abbrev Ku:Nat:=142
theorem Tv:AY2[Ku]? = some Tryz.f142:=Tryz.func142
abbrev N2:Nat:=143
theorem Ad:AY2[N2]? = some Tryz.f143:=Tryz.func143
abbrev PH:Nat:=144
theorem ZD:AY2[PH]? = some Tryz.f144:=Tryz.func144
abbrev ME:Nat:=145
theorem VU:AY2[ME]? = some Tryz.f145:=Tryz.func145
abbrev MF:Nat:=146
theorem VV:AY2[MF]? = some Tryz.f146:=Tryz.func146
abbrev IF:Nat:=147
theorem Ri:AY2[IF]? = some Tryz.f147:=Tryz.func147
abbrev DT:Nat:=148
theorem Ol:AY2[DT]? = some Tryz.f148:=Tryz.func148
abbrev Hs:Nat:=149
theorem Om:AY2[Hs]? = some Tryz.f149:=Tryz.func149
abbrev N7:Nat:=150
theorem An:AY2[N7]? = some Tryz.f150:=Tryz.func150
abbrev I6:Nat:=151
theorem U4:AY2[I6]? = some Tryz.f151:=Tryz.func151
abbrev N3:Nat:=152
theorem Ae:AY2[N3]? = some Tryz.f152:=Tryz.func152
abbrev Y5:Nat:=153
theorem JD:AY2[Y5]? = some Tryz.f153:=Tryz.func153
abbrev Q1:Nat:=154
theorem Br:AY2[Q1]? = some Tryz.f154:=Tryz.func154
abbrev GE:Nat:=155
theorem ZE:AY2[GE]? = some Tryz.f155:=Tryz.func155
abbrev J8:Nat:=156
theorem V9:AY2[J8]? = some Tryz.f156:=Tryz.func156
abbrev MG:Nat:=157
theorem VW:AY2[MG]? = some Tryz.f157:=Tryz.func157
abbrev MH:Nat:=158
theorem VX:AY2[MH]? = some Tryz.f158:=Tryz.func158
abbrev Tw:Nat:=159
theorem Aj8:AY2[Tw]? = some Tryz.f159:=Tryz.func159
abbrev Kv:Nat:=167
theorem Tx:AY2[Kv]? = some Tryz.f167:=Tryz.func167
abbrev E3:Nat:=168
theorem Y6:AY2[E3]? = some Tryz.f168:=Tryz.func168
abbrev PI:Nat:=169
theorem ZF:AY2[PI]? = some Tryz.f169:=Tryz.func169
abbrev MI:Nat:=170
theorem VY:AY2[MI]? = some Tryz.f170:=Tryz.func170
abbrev Ty:Nat:=171
theorem Aj9:AY2[Ty]? = some Tryz.f171:=Tryz.func171
abbrev MJ:Nat:=172
theorem VZ:AY2[MJ]? = some Tryz.f172:=Tryz.func172
abbrev PJ:Nat:=173
theorem ZG:AY2[PJ]? = some Tryz.f173:=Tryz.func173
abbrev ET:Nat:=174
theorem Wa:AY2[ET]? = some Tryz.f174:=Tryz.func174
abbrev PK:Nat:=175
theorem ZH:AY2[PK]? = some Tryz.f175:=Tryz.func175
abbrev K6:Nat:=176
theorem Y7:AY2[K6]? = some Tryz.f176:=Tryz.func176
abbrev Tz:Nat:=177
theorem Ak0:AY2[Tz]? = some Tryz.f177:=Tryz.func177
abbrev TA:Nat:=178
theorem Ak1:AY2[TA]? = some Tryz.f178:=Tryz.func178
abbrev IG:Nat:=179
theorem Rj:AY2[IG]? = some Tryz.f179:=Tryz.func179
abbrev TB:Nat:=184
theorem Ak2:AY2[TB]? = some Tryz.f184:=Tryz.func184
abbrev TC:Nat:=185
theorem Ak3:AY2[TC]? = some Tryz.f185:=Tryz.func185
abbrev IH:Nat:=186
theorem Rk:AY2[IH]? = some Tryz.f186:=Tryz.func186
abbrev DI:Nat:=187
theorem TD:AY2[DI]? = some Tryz.f187:=Tryz.func187
abbrev Kw:Nat:=188
theorem TE:AY2[Kw]? = some Tryz.f188:=Tryz.func188
abbrev Eu:Nat:=189
theorem JE:AY2[Eu]? = some Tryz.f189:=Tryz.func189
abbrev G8:Nat:=190
theorem Ao:AY2[G8]? = some Tryz.f190:=Tryz.func190
abbrev Ht:Nat:=191
theorem Oo:AY2[Ht]? = some Tryz.f191:=Tryz.func191
abbrev Kx:Nat:=192
theorem TF:AY2[Kx]? = some Tryz.f192:=Tryz.func192
abbrev FX:Nat:=196
theorem MK:AY2[FX]? = some Tryz.f196:=Tryz.func196
abbrev Ky:Nat:=197
theorem TG:AY2[Ky]? = some Tryz.f197:=Tryz.func197
abbrev PL:Nat:=198
theorem ZI:AY2[PL]? = some Tryz.f198:=Tryz.func198
abbrev Kz:Nat:=199
theorem TH:AY2[Kz]? = some Tryz.f199:=Tryz.func199
abbrev PM:Nat:=200
theorem ZJ:AY2[PM]? = some Tryz.f200:=Tryz.func200
abbrev U0:Nat:=201
theorem Oq:AY2[U0]? = some Tryz.f201:=Tryz.func201
abbrev II:Nat:=202
theorem Rl:AY2[II]? = some Tryz.f202:=Tryz.func202
abbrev ML:Nat:=203
theorem Wb:AY2[ML]? = some Tryz.f203:=Tryz.func203
abbrev MM:Nat:=204
theorem Wc:AY2[MM]? = some Tryz.f204:=Tryz.func204
abbrev MN:Nat:=205
theorem Wd:AY2[MN]? = some Tryz.f205:=Tryz.func205
abbrev TI:Nat:=210
theorem Ak4:AY2[TI]? = some Tryz.f210:=Tryz.func210
abbrev PN:Nat:=211
theorem ZK:AY2[PN]? = some Tryz.f211:=Tryz.func211
abbrev EU:Nat:=212
theorem We:AY2[EU]? = some Tryz.f212:=Tryz.func212
abbrev TJ:Nat:=213
theorem Ak5:AY2[TJ]? = some Tryz.f213:=Tryz.func213
abbrev IJ:Nat:=214
theorem Rm:AY2[IJ]? = some Tryz.f214:=Tryz.func214
abbrev IK:Nat:=215
theorem Rn:AY2[IK]? = some Tryz.f215:=Tryz.func215
abbrev Hu:Nat:=216
theorem Or:AY2[Hu]? = some Tryz.f216:=Tryz.func216
abbrev IL:Nat:=218
theorem Ro:AY2[IL]? = some Tryz.f218:=Tryz.func218
abbrev FY:Nat:=219
theorem MO:AY2[FY]? = some Tryz.f219:=Tryz.func219
abbrev PO:Nat:=220
theorem ZL:AY2[PO]? = some Tryz.f220:=Tryz.func220
abbrev KA:Nat:=221
theorem TL:AY2[KA]? = some Tryz.f221:=Tryz.func221
abbrev PP:Nat:=222
theorem ZM:AY2[PP]? = some Tryz.f222:=Tryz.func222
abbrev MP:Nat:=223
theorem Wf:AY2[MP]? = some Tryz.f223:=Tryz.func223
abbrev FZ:Nat:=224
theorem MQ:AY2[FZ]? = some Tryz.f224:=Tryz.func224
abbrev Ce:Nat:=225
theorem Ot:AY2[Ce]? = some Tryz.f225:=Tryz.func225
abbrev AJ:Nat:=226
theorem Fu:AY2[AJ]? = some Tryz.f226:=Tryz.func226
abbrev O8:Nat:=227
theorem Di:AY2[O8]? = some Tryz.f227:=Tryz.func227
abbrev Cl:Nat:=244
theorem Ga:AY2[Cl]? = some Tryz.f244:=Tryz.func244
abbrev Dj:Nat:=245
theorem MR:AY2[Dj]? = some Tryz.f245:=Tryz.func245
abbrev DU:Nat:=246
theorem Ou:AY2[DU]? = some Tryz.f246:=Tryz.func246
abbrev EV:Nat:=247
theorem Rp:AY2[EV]? = some Tryz.f247:=Tryz.func247
abbrev DJ:Nat:=248
theorem IM:AY2[DJ]? = some Tryz.f248:=Tryz.func248
abbrev EW:Nat:=249
theorem Rq:AY2[EW]? = some Tryz.f249:=Tryz.func249
abbrev Gb:Nat:=250
theorem MS:AY2[Gb]? = some Tryz.f250:=Tryz.func250
abbrev Af:Nat:=251
theorem CF:AY2[Af]? = some Tryz.f251:=Tryz.func251
abbrev EX:Nat:=252
theorem Rr:AY2[EX]? = some Tryz.f252:=Tryz.func252
abbrev B9:Nat:=3
abbrev AD8:Nat:=4
abbrev EY:Nat:=9
abbrev A8:Nat:=23
abbrev XZ:Nat:=26
abbrev TM:Nat:=31
abbrev JF:Nat:=50
abbrev Rs:Nat:=62
abbrev AP:Nat:=75
abbrev A9:Nat:=79
abbrev Ev:Nat:=82
abbrev I7:Nat:=85
abbrev PQ:Nat:=112
abbrev Wg:Nat:=120
abbrev ZN:Nat:=122
abbrev Ak6:Nat:=125
abbrev E5:Nat:=229
abbrev Wh:Nat:=242
end Go.AM
namespace Go.AM
open IntKind (wrap)
abbrev U (x:BitVec 64):Int:=(x.toNat:Int)
theorem IN {n:Nat}(h:n<2 ^ 64):IntKind.u64.wrap (n:Int)=n:=by have h1:((n:Int) % (2 ^ 64:Int))=n:=Bj2 (by omega) (by omega);unfold wrap;simp only[IntKind.bits,IntKind.signed,h1,Bi6,AZ2,if_false]
theorem Wi (x:BitVec 64):BitVec.ofInt 64 (U x)=x:=by
 apply Bc1;rw[Bq2]
 have:=x.isLt
 show ((x.toNat:Int) % ((2 ^ 64:Nat):Int)).toNat=x.toNat;omega
theorem and64 (x y:BitVec 64):E4 .and .u64 (U x) (U y)=U (x &&& y):=by simp only[E4,IntKind.bits,Wi];exact IN (x &&& y).isLt
theorem AX8 (x y:BitVec 64):E4 .or .u64 (U x) (U y)=U (x ||| y):=by simp only[E4,IntKind.bits,Wi];exact IN (x ||| y).isLt
theorem Ax3 (x y:BitVec 64):E4 .andNot .u64 (U x) (U y)=U (x &&& ~~~ y):=by simp only[E4,IntKind.bits,Wi];exact IN (x &&& ~~~ y).isLt
theorem shr64 (x:BitVec 64)(n:Nat):shI .shr .u64 (U x) n=U (x >>> n):=by
 simp only[shI,IntKind.bits,AY3];have hx:=x.isLt;show Int.fdiv (x.toNat:Int) (2 ^ min n 64)=((x >>> n).toNat:Int);rw[Bj8,Bj6];have e:((2:Int) ^ (min n 64))=((2 ^ (min n 64):Nat):Int):=by norm_cast
 rw[e,Bm6 _ (Bq3 _),<- Int.natCast_ediv];congr 1;by_cases h:n<=64
 ·rw[Bf4 h]
 ·rw[Bl5 (by omega),Bf8 hx,Bf8];exact Ba6 hx (Bh6 (by omega) (by omega))
theorem AV5:(1:Int)=U 1#64:=rfl
theorem TN (n:Nat)(h:n<64):shI .shl .u64 1 n=U (1#64 <<< n):=by
 simp only[shI,IntKind.bits,AY3];rw[Bf4 (by omega)];show wrap .u64 (1*2 ^ n)=((1#64 <<< n).toNat:Int);rw[Bo0,Nat.shiftLeft_eq];have h1:(2:Nat) ^ n<2 ^ 64:=Nat.pow_lt_pow_right (by omega) h;have e:((1:Int)*2 ^ n)=((2 ^ n:Nat):Int):=by norm_cast;omega
 rw[e,IN h1]
 norm_cast
 rw[Bg7]
 ·simp
 ·simpa using h1
theorem Wj {i:Nat}:(1#64).getLsbD i=decide (i=0):=by rw[Bm8];simp
theorem Gc {n i:Nat}(h:n<64)(hi:i<64):(1#64 <<< n).getLsbD i=decide (i=n):=by rw[Bn2,Wj,Bb3];simp only[AY9,Ba9,decide_eq_true_eq,decide_eq_false_iff_not];omega
theorem bit64 (x:BitVec 64)(i:Nat):(E4 .and .u64 (shI .shr .u64 (U x) (i:Int)) 1==1)=x.getLsbD i:=by
 rw[shr64,AV5,and64];have h:(x >>> i &&& 1#64)=(BitVec.ofBool (x.getLsbD i)).setWidth 64:=by
  apply Bd6;intro j hj;simp only[AZ9,Bm7,Bn6,Bo7];by_cases h0:j=0
  ·subst h0;simp
  ·have:(1#64).getLsbD j=false:=by rw[Wj];simp[h0]
   simp[this,h0]
 rw[h];cases x.getLsbD i<;>rfl
theorem Ax4 {x y:BitVec 64}(h:∀b,b<64->(x.getLsbD b=true↔y.getLsbD b=true)):x=y:=
 Bd6 fun b hb=>Bb3.2 (h b hb)
def Hv (n:Nat)(R:Nat->Nat->Prop):Nat->Nat->Nat->Prop
 |0=>fun a b=>a=b
 |k+1=>fun a b=>∃c,c<=n/\Hv n R k a c/\R c b
def ZO (n:Nat)(Q:Nat->Nat->Nat->Prop):Nat->Nat->Nat->Prop
 |0=>fun a b=>a=b
 |i+1=>fun a b=>∃c,c<=n/\ZO n Q i a c/\Q i c b
def Fwd (n:Nat)(R:Nat->Nat->Prop):Prop:=∀a b,a<=n->R a b->a<=b/\b<=n
theorem IO {n:Nat}{R:Nat->Nat->Prop}(h:Fwd n R):∀k,Fwd n (Hv n R k)
 |0,a,b,ha,hb=>by obtain rfl:a=b:=hb;exact⟨AZ0 _,ha⟩
 |k+1,a,b,ha,⟨c,hc,h1,h2⟩=>by have g1:=IO h k a c ha h1;have g2:=h c b hc h2;exact⟨by omega,g2.2⟩
theorem Ya {n:Nat}{Q:Nat->Nat->Nat->Prop}:∀k,(∀i,i<k->Fwd n (Q i))->Fwd n (ZO n Q k)
 |0,_,a,b,ha,hb=>by obtain rfl:a=b:=hb;exact⟨AZ0 _,ha⟩
 |k+1,h,a,b,ha,⟨c,hc,h1,h2⟩=>by have g1:=Ya k (fun i hi=>h i (by omega)) a c ha h1;have g2:=h k (by omega) c b hc h2;exact⟨by omega,g2.2⟩
theorem DK {n:Nat}{R:Nat->Nat->Prop}(h:Fwd n R)(j:Nat){a:Nat}(ha:a<=n):∀k b,Hv n R (j+k) a b ↔ ∃c,c<=n/\Hv n R j a c/\Hv n R k c b
 |0,b=>⟨fun hp=>⟨b,(IO h j a b ha hp).2,hp,rfl⟩,fun⟨c,_,hp,e⟩=>by obtain rfl:c=b:=e;exact hp⟩
 |k+1,b=>by
  constructor
  ·rintro⟨d,hd,h1,h2⟩;obtain⟨c,hc,g1,g2⟩:=(DK h j ha k d).1 h1;exact⟨c,hc,g1,d,hd,g2,h2⟩
  ·rintro⟨c,hc,g1,d,hd,g2,h2⟩;exact⟨d,hd,(DK h j ha k d).2 ⟨c,hc,g1,g2⟩,h2⟩
theorem PS {n:Nat}{R:Nat->Nat->Prop}(h:Fwd n R){a:Nat}(ha:a<=n):∀k b,Hv n R (k+1) a b->Hv n R k a b \/ a+(k+1)<=b
 |0,b,⟨c,hc,h1,h2⟩=>by
  obtain rfl:a=c:=h1;by_cases e:a=b
  ·exact .inl e
  ·have:=(h a b ha h2).1;exact .inr (by omega)
 |k+1,b,⟨c,hc,h1,h2⟩=>by
  by_cases e:c=b
  ·subst e;exact .inl h1
  ·have:=(h c b hc h2).1
   rcases PS h ha k c h1 with g|g
   ·exact .inl ⟨c,hc,g,h2⟩
   ·exact .inr (by omega)
theorem TO {n:Nat}{R:Nat->Nat->Prop}(h:Fwd n R){a:Nat}(ha:a<=n){k b:Nat}(hk:n<=k)(hp:Hv n R (k+1) a b):Hv n R k a b:=by
 rcases PS h ha k b hp with g|g
 ·exact g
 ·have:=(IO h (k+1) a b ha hp).2;omega
theorem TP {n:Nat}{R:Nat->Nat->Prop}(h:Fwd n R){a:Nat}(ha:a<=n){b:Nat}:∀k,Hv n R k a b->∃j,j<=n/\Hv n R j a b
 |0,hp=>⟨0,Bi2 _,hp⟩
 |k+1,hp=>by
  by_cases hk:n<=k
  ·exact TP h ha k (TO h ha hk hp)
  ·exact⟨k+1,by omega,hp⟩
theorem MT {n:Nat}{R:Nat->Nat->Prop}(h:Fwd n R){a:Nat}(ha:a<=n):∀k b,Hv n (fun x y=>R x y \/ x=y) k a b ↔ ∃j,j<=k/\Hv n R j a b
 |0,b=>⟨fun e=>⟨0,AZ0 _,e⟩,fun⟨j,hj,hp⟩=>by
  obtain rfl:j=0:=by omega
  exact hp⟩
 |k+1,b=>by
  constructor
  ·rintro⟨c,hc,h1,h2⟩;obtain⟨j,hj,hp⟩:=(MT h ha k c).1 h1;rcases h2 with h2|h2
   ·exact⟨j+1,by omega,c,hc,hp,h2⟩
   ·subst h2;exact⟨j,by omega,hp⟩
  ·rintro⟨j,hj,hp⟩;by_cases e:j<=k
   ·have hb:=(IO h j a b ha hp).2;exact⟨b,hb,(MT h ha k b).2 ⟨j,e,hp⟩,.inr rfl⟩
   ·obtain rfl:j=k+1:=by omega
    obtain⟨c,hc,h1,h2⟩:=hp;exact⟨c,hc,(MT h ha k c).2 ⟨k,AZ0 _,h1⟩,.inl h2⟩
def Wk (s c:Sound):Bool:=(E4 .and .u32 s.Plus c.Plus==c.Plus)&&(E4 .and .u32 s.Minus c.Minus==c.Minus)
def PR (w:Sl Sound):Pat->Nat->Nat->Prop
 |.nil=>fun a b=>a=b
 |.mk kind is no mn mx m g=>fun a b=>
  if kind=0 then a=b
  else if kind=1 then a<w.n/\b=a+1/\(Wk (w.g a) is != no)=true
  else if kind=2 then a=0/\b=0
  else if kind=6 then a=w.n/\b=w.n
  else if kind=3 then ZO w.n (fun i=>PR w (g i)) m a b
  else if kind=4 then ∃i,i<m/\PR w (g i) a b
  else if kind=5 then ∃k:Nat,mn<=k/\(mx = -1 \/ (k:Int)<=mx)/\Hv w.n (PR w (g 0)) k a b
  else False
theorem TQ (w:Sl Sound):∀p:Pat,Fwd w.n (PR w p)
 |.nil,a,b,ha,h=>by obtain rfl:a=b:=h;exact⟨AZ0 _,ha⟩
 |.mk kind is no mn mx m g,a,b,ha,h=>by
  simp only[PR]at h;split at h
  ·subst h;exact⟨AZ0 _,ha⟩
  split at h
  ·obtain⟨h1,h2,_⟩:=h;omega
  split at h
  ·omega
  split at h
  ·omega
  split at h
  ·exact Ya m (fun i _=>TQ w (g i)) a b ha h
  split at h
  ·obtain⟨i,_,hi⟩:=h;exact TQ w (g i) a b ha hi
  split at h
  ·obtain⟨k,_,_,hk⟩:=h;exact IO (TQ w (g 0)) k a b ha hk
  ·exact h.elim
def TabR (n:Nat)(R:Nat->Nat->Prop)(f:Nat->Int):Prop:=∀a,a<=n->∃x:BitVec 64,f a=U x/\∀b,b<64->(x.getLsbD b=true↔b<=n/\R a b)
theorem TabR.congr {n:Nat}{R R' : Nat->Nat->Prop}{f:Nat->Int}(h:TabR n R f)(hr:∀a b,a<=n->b<=n->(R a b↔R' a b)):TabR n R' f:=fun a ha=>by obtain⟨x,e,hx⟩:=h a ha;refine⟨x,e,fun b hb=>(hx b hb).trans ⟨fun⟨h1,h2⟩=>⟨h1,(hr a b ha h1).1 h2⟩,fun⟨h1,h2⟩=>⟨h1,(hr a b ha h1).2 h2⟩⟩⟩
theorem TabR.uniq {n:Nat}{R:Nat->Nat->Prop}{f g:Nat->Int}(h:TabR n R f)(h' : TabR n R g){a:Nat}(ha:a<=n):f a=g a:=by obtain⟨x,e,hx⟩:=h a ha;obtain⟨y,e',hy⟩:=h' a ha;rw[e,e',Ax4 fun b hb=>(hx b hb).trans (hy b hb).symm]
theorem TabR.bit {n:Nat}{R:Nat->Nat->Prop}{f:Nat->Int}(h:TabR n R f){a b:Nat}(ha:a<=n)(hb:b<64):(E4 .and .u64 (shI .shr .u64 (f a) (b:Int)) 1==1)=true↔b<=n/\R a b:=by obtain⟨x,e,hx⟩:=h a ha;rw[e,bit64];exact hx b hb
end Go.AM
namespace Go.AM
open Go.Proofs
abbrev Ax5:List AV:=[.reg 0 0,.reg 1 0,.reg 2 0,.reg 3 0]
abbrev Wl (c:Int)(a:Sl Law)(b:Sl Sound)(y:PV):List Obj:=[.cells [pN c],.cells [.p (vSl 18 A5 a)],.cells [.p (vSl 2 A0 b)],.cells [.p y]]
structure RY (S:Bd):Prop where
 attR:∀{a:Sl Law}{b y:Sl Sound},FunO S H2 [.p (vSl 18 A5 a),.p (vSl 2 A0 b)] [] (.p (vSl 2 A0 y)) [] []->FunO S H9 Ax5 (Wl 0 a b J2) (.tup []) (Wl 0 a b (vSl 2 A0 y)) [true,true,true,true]
 attP:∀{a:Sl Law}{b:Sl Sound}{c:Int},(S.F H2 [.p (vSl 18 A5 a),.p (vSl 2 A0 b)] [] fun res o k=>res=.panic (.iface 160 (pI .i64 c))/\o=[]/\k=[])->FunO S H9 Ax5 (Wl 0 a b J2) (.tup []) (Wl c a b J2) [true,true,true,true]
 tz:∀x:BitVec 64,Ar4 S O8 [.p (pI .u64 (U x))] (.p (pI .i64 (Lib.ctz 64 x.toNat:Nat)))
 trim:∀s c:Str,s.length<1000000000000->c.length<1000000->(∀b∈c,b.toNat<128)->Ar4 S DT [.p (.str s),.p (.str c)] (.p (.str (Lib.trimS s c)))
 growS:∀(f:Nat->List PV) (n:Nat),n*8<=140737488355328->FunO S G8 [.p J2,.p (pI .i64 (n:Int))] [] (.vec 0) [.vec A9 2 0 f false] []
 growL:∀(f:Nat->List PV) (n:Nat),n*200<=140737488355328->FunO S I1 [.p J2,.p (pI .i64 (n:Int))] [] (.vec 0) [.vec I7 18 0 f false] []
def F8 (N:Nat)(x:Int):Option Int:=if 0<=x/\x<18446744073709551616 then some ((Lib.ctz 64 x.toNat:Nat):Int)else none
def DV (N:Nat)(s c:Str):Option Str:=if s.length<1000000000000/\c.length<1000000/\(c.all fun b=>decide (b.toNat<128)) then some (Lib.trimS s c)else none
def G9 (N:Nat)(n:Int):Option (Sl Sound):=if 0<=n/\n*8<=140737488355328 then some (Sl.nil:Sl Sound)else none
def I2 (N:Nat)(n:Int):Option (Sl Law):=if 0<=n/\n*200<=140737488355328 then some (Sl.nil:Sl Law)else none
section
variable {S:Bd}(hS:G6 S Tryz.prog) (hL:RY S)
include hS hL
theorem Dk {N:Nat}{x y:Int}(h:F8 N x=some y):FunO S O8 [.p (pI .u64 x)] [] (.p (pI .i64 y)) [] []:=by
 obtain⟨⟨h0,h1⟩,h⟩:=D2 h;obtain rfl:=B7 h
 have:=hL.tz (BitVec.ofNat 64 x.toNat)
 have e:(BitVec.ofNat 64 x.toNat).toNat=x.toNat:=by rw[Bq5];omega
 have e2:U (BitVec.ofNat 64 x.toNat)=x:=by show ((BitVec.ofNat 64 x.toNat).toNat:Int)=x;rw[e];omega
 rw[e,e2]at this;exact this
theorem Ov {N:Nat}{s c:Str}{y:Str}(h:DV N s c=some y):FunO S DT [.p (.str s),.p (.str c)] [] (.p (.str y)) [] []:=by obtain⟨⟨h0,h1,h2⟩,h⟩:=D2 h;obtain rfl:=B7 h;exact hL.trim s c h0 h1 fun b hb=>by simpa using Ba0.1 h2 b hb
theorem Ap {N:Nat}{n:Int}{y:Sl Sound}(h:G9 N n=some y):FunO S G8 [.p J2,.p (pI .i64 n)] [] (.vec 0) [.vec A9 2 y.n (fun i=>A0 (y.g i)) false] []:=by
 obtain⟨⟨h0,h1⟩,h⟩:=D2 h;obtain rfl:=B7 h
 have:=hL.growS (fun i=>A0 default) n.toNat (by omega)
 rw[show ((n.toNat:Nat):Int)=n by omega]at this;exact this
theorem BI {N:Nat}{n:Int}{y:Sl Law}(h:I2 N n=some y):FunO S I1 [.p J2,.p (pI .i64 n)] [] (.vec 0) [.vec I7 18 y.n (fun i=>A5 (y.g i)) false] []:=by
 obtain⟨⟨h0,h1⟩,h⟩:=D2 h;obtain rfl:=B7 h
 have:=hL.growL (fun i=>A5 default) n.toNat (by omega)
 rw[show ((n.toNat:Nat):Int)=n by omega]at this;exact this
def A7 (N:Nat)(s:Sl Sound):Option (Sl Sound):=if (0+s.n)*8<=140737488355328/\0+s.n<=140737488355328 then some s else none
theorem N4 {N:Nat}{s y:Sl Sound}(h:A7 N s=some y):FunO S G3 [.p (vSl 2 A0 s)] [] (.vec 0) [.vec A9 2 y.n (fun i=>A0 (y.g i)) true] []:=by
 unfold A7 at h;obtain⟨c1,h⟩:=D2 h;obtain rfl:=B7 h;refine A1 hS N1 ?_;refine AK0 hS trivial 3 (k:=2) (n:=s.n) (f:=fun i=>A0 (s.g i)) (fun h0=>?_) ?_
 ·obtain⟨n,g⟩:=s;obtain rfl:n=0:=h0;exact A6 hS trivial ⟨[(2,.vec 3700)],[(3700,.vec A9 2 0 (fun i=>A0 (g i)) true)]⟩ [3700] (ids:=[]) ⟨rfl,rfl,rfl⟩
 ·exact A6 hS (And.intro (rfl:true=true) c1) ⟨[(2,.vec 8000)],[(8000,.vec A9 2 s.n (fun i=>A0 (s.g i)) true)]⟩ [8000] (ids:=[(8000,8000)]) ⟨rfl,rfl,rfl⟩
   (hle:=klR [(0,.fn (0+s.n) s.n (R4 0 (D4 [pI .u32 0,pI .u32 0] []) (fun i=>A0 (s.g i))) (fun i=>A0 (s.g i)))] (al1 ⟨Bb7 _,fun i _=>by simp[R4]⟩ al0))
def F6 (N:Nat)(s:Sl Bj):Option (Sl Bj):=if (0+s.n)*32<=140737488355328/\0+s.n<=140737488355328 then some s else none
theorem Y8 {N:Nat}{s y:Sl Sound}(h:A7 N s=some y):FunO S G3 [.p (vSl 2 A0 s)] [] (.p (vSl 2 A0 y)) [] []:=by
 unfold A7 at h;obtain⟨c1,h⟩:=D2 h;obtain rfl:=B7 h;refine A1 hS N1 ?_;refine AK0 hS trivial 3 (k:=2) (n:=s.n) (f:=fun i=>A0 (s.g i)) (fun h0=>?_) ?_
 ·obtain⟨n,g⟩:=s;obtain rfl:n=0:=h0;exact A6 hS trivial ⟨[(2,.p (vSl 2 A0 ⟨0,g⟩))],[]⟩ [] (ids:=[]) ⟨rfl,rfl,rfl⟩
 ·exact A6 hS (And.intro (rfl:true=true) c1) ⟨[(2,.p (vSl 2 A0 s))],[]⟩ [] (ids:=[]) ⟨rfl,rfl,rfl⟩
   (hle:=klR [(0,.fn (0+s.n) s.n (R4 0 (D4 [pI .u32 0,pI .u32 0] []) (fun i=>A0 (s.g i))) (fun i=>A0 (s.g i)))] (al1 ⟨Bb7 _,fun i _=>by simp[R4]⟩ al0))
theorem Bh {N:Nat}{s y:Sl Bj}(h:F6 N s=some y):FunO S Q1 [.p (vSl 6 O7 s)] [] (.p (vSl 6 O7 y)) [] []:=by
 unfold F6 at h;obtain⟨c1,h⟩:=D2 h;obtain rfl:=B7 h;refine A1 hS Br ?_;refine AK0 hS trivial 3 (k:=6) (n:=s.n) (f:=fun i=>O7 (s.g i)) (fun h0=>?_) ?_
 ·obtain⟨n,g⟩:=s;obtain rfl:n=0:=h0;exact A6 hS trivial ⟨[(2,.p (vSl 6 O7 ⟨0,g⟩))],[]⟩ [] (ids:=[]) ⟨rfl,rfl,rfl⟩
 ·exact A6 hS (And.intro (rfl:true=true) c1) ⟨[(2,.p (vSl 6 O7 s))],[]⟩ [] (ids:=[]) ⟨rfl,rfl,rfl⟩
   (hle:=klR [(0,.fn (0+s.n) s.n (R4 0 (D4 [pI .i64 0,pI .u32 0,pI .u32 0,pI .u32 0,pI .u32 0,pI .i64 0] []) (fun i=>O7 (s.g i))) (fun i=>O7 (s.g i)))] (al1 ⟨Bb7 _,fun i _=>by simp[R4]⟩ al0))
end
end Go.AM
set_option maxRecDepth 100000
namespace Go.AM
open Go.Proofs
theorem ZP (v:Value)(w:World):(Instr.typeAssert (.iface 160 v) 20 160 true).run Tryz.prog w=.ok (.tuple #[v,.bool true]) w:=by kernel_rfl
theorem Wm (p:Value)(w:World):CallsDIn Fence.wide 0 Tryz.prog S1 #[p] .returning w fun e u' w'=>e=.returned (.tuple #[])/\u' = .returning/\w' = w:=by
 refine callsDIn_of_wpSIn FT rfl (by simp[Fence.wide]) fun c₀ cs hu=>?_;apply wpSIn_seq;apply wpSIn_region;simp[wpOpsSIn,go_sem,recoverD,hu,Tryz.f86,Exit.thenS];refine wpSIn_of_wpIn rfl (wpIn_block (wpIn_seq (wpIn_region ?_)));simp[wpOpsIn,Oper.wpIn,Oper.semAt,Oper.uponIn,go_sem,Exit.then];refine wpIn_cond (t:=true) (by simp[Act.eval]) ?_;simp only[if_true];refine wpIn_region ?_;simp[wpOpsIn,Oper.wpIn,Oper.semAt,Oper.uponIn,go_sem,Exit.inBlock,bodyPostS,results];cases c₀
 simp_all
theorem KT (p:Value)(c:Int)(older:List PanicEntry)(w w1:World)(hst:(Instr.storeAt 27 p (.int .i64 c)).run Tryz.prog w=.ok () w1)(hn:∃b,p=.pointer (some b)) :CallsDIn Fence.wide 0 Tryz.prog S1 #[p] (.panicking ({ v:=.iface 160 (.int .i64 c),recovered:=false }::older)) w fun e u' w'=>
  e=.returned (.tuple #[])/\u' = .panicking ({ v:=.iface 160 (.int .i64 c),recovered:=true }::older)/\w' = w1:=by
 obtain⟨b,rfl⟩:=hn;refine callsDIn_of_wpSIn FT rfl (by simp[Fence.wide]) fun c₀ cs hu=>?_;apply wpSIn_seq;apply wpSIn_region;simp[wpOpsSIn,go_sem,recoverD,hu,Tryz.f86,Exit.thenS];refine wpSIn_of_wpIn rfl (wpIn_block (wpIn_seq (wpIn_region ?_)));simp[wpOpsIn,Oper.wpIn,Oper.semAt,Oper.uponIn,go_sem,Exit.then];refine wpIn_cond (t:=false) (by simp[Act.eval]) ?_;simp only[AZ2,if_false];refine wpIn_seq (wpIn_region ?_);simp[wpOpsIn,Oper.wpIn,Oper.semAt,Oper.uponIn,go_sem,Exit.then,ZP];refine wpIn_cond (t:=true) (by simp[Act.eval]) ?_;simp only[if_true];refine wpIn_seq (wpIn_region ?_);simp[wpOpsIn,Oper.wpIn,Oper.semAt,Oper.uponIn,go_sem,Exit.then];refine wpIn_region ?_;simp[wpOpsIn,Oper.wpIn,Oper.semAt,Oper.uponIn,go_sem,hst,Exit.inBlock,bodyPostS,results];simp[go_sem]at hst;rw[hst];simp[Result.andThen]
noncomputable def AP6:Code:=match Tryz.f119.body with
 |some (.seq _ c)=>c
 |_=>.skip
theorem AL5 {S:Bd}(hS:G6 S Tryz.prog){a:Sl Law}{b y:Sl Sound}(hF:FunO S H2 [.p (vSl 18 A5 a),.p (vSl 2 A0 b)] [] (.p (vSl 2 A0 y)) [] []) :KG S Tryz.prog (Pt S (fun st=>J7 [0,1,2,3] st.regs [0,1,2,3]=some (Wl 0 a b (vSl 2 A0 y))) fun _ _=>False) (.code AP6 [] ⟨argEnv Ax5,objRegs (Wl 0 a b J2)⟩):=by refine B8 hS [] trivial hF ?_;exact K_upN hS trivial ⟨[],[(3,.cells [.p (vSl 2 A0 y)]),(2,.cells [.p (vSl 2 A0 b)]),(1,.cells [.p (vSl 18 A5 a)]),(0,.cells [pN 0])]⟩ (ids:=[(0,0),(1,1),(2,2),(3,3)]) rfl
theorem Ak7 {S:Bd}(hS:G6 S Tryz.prog){a:Sl Law}{b:Sl Sound}{c:Int}(hF:S.F H2 [.p (vSl 18 A5 a),.p (vSl 2 A0 b)] [] fun res o k=>res=.panic (.iface 160 (pI .i64 c))/\o=[]/\k=[]) :KG S Tryz.prog (Pt S (fun _=>False) fun x st=>x=.iface 160 (pI .i64 c)/\store Tryz.prog st.regs 27 (.reg 0 0) (.p (pI .i64 c))=some ([],ins 0 (.cells [pN c]) st.regs)/\J7 [0,1,2,3] (ins 0 (.cells [pN c]) st.regs) [0,1,2,3]=some (Wl c a b J2)) (.code AP6 [] ⟨argEnv Ax5,objRegs (Wl 0 a b J2)⟩):=by refine AK7 hS [] trivial hF ?_;exact K_upP hS trivial ⟨rfl,by kernel_rfl,by kernel_rfl⟩
noncomputable def att1:Code:=match Tryz.f119.body with
 |some (.seq c _)=>c
 |_=>.skip
noncomputable def attOps:Array Oper:=match AP6 with
 |.region _ ops _=>ops
 |_=>#[]
theorem Yb:AP6=.region 1 attOps false:=by kernel_rfl
theorem AV6:attOps.toList.all (GU 7 attOps.toList)=true:=by kernel_rfl
theorem Ax6:¬Tryz.f119.name = "runtime.NumGoroutine" := by decide +kernel
theorem Yc:Tryz.f119.body=some (.seq att1 AP6):=by kernel_rfl
theorem AL6 {C:Ctx}{vs:Array Value}{w:World}{rho:Nat->Value}{args:List AV}{objs:List Obj}{n:Nat}(hS:Sat C ⟨argEnv args,objRegs objs⟩ ⟨vs,[]⟩ w rho)(hvs:vs.size=args.length) :Sat C ⟨argEnv args,objRegs objs⟩ { tmps:=vs++Array.replicate n undef,defers:=[] } w rho:=by
 refine⟨hS.toSatE,fun t=>?_,hS.pin,hS.marks⟩
 have:=hS.env t
 by_cases ht:t<vs.size
 ·simpa[AY5,Bf5,ht]using this
 ·show RepA w _ _ _ _ (get (argEnv args) t);rw[AZ,AY4,Bd0 (by omega)];exact .top _
theorem MU {R:St->Prop}{X:PV->St->Prop}{a:Sl Law}{b:Sl Sound}{objs' : List Obj}
 (hreg:KG (GQ Tryz.prog) Tryz.prog (Pt (GQ Tryz.prog) R X) (.code AP6 [] ⟨argEnv Ax5,objRegs (Wl 0 a b J2)⟩))
 (hR:∀st,R st->J7 [0,1,2,3] st.regs [0,1,2,3]=some objs')
 (hX:∀x st,X x st->∃c regs',x=.iface 160 (pI .i64 c)/\store Tryz.prog st.regs 27 (.reg 0 0) (.p (pI .i64 c))=some ([],regs')/\J7 [0,1,2,3] regs' [0,1,2,3]=some objs') :
 FunO (GQ Tryz.prog) H9 Ax5 (Wl 0 a b J2) (.tup []) objs' [true,true,true,true]:=by
 intro 𝒢 C w vs rho hG hS hvs;obtain⟨l⟩:=vs
 match l,hvs with
 |[v0,v1,v2,v3],hvs=>?_
 refine⟨.enter H9 #[v0,v1,v2,v3],w,by simp[callFunc,DH,Yc,Ax6],?_⟩;refine callsIn_of_wp_marks DH Yc trivial ?_;have hS':=AL6 (n:=Tryz.f119.ntmps-4) hS hvs;have hn7:Tryz.f119.ntmps-4=3:=rfl;rw[hn7]at hS';have hsz:((#[v0,v1,v2,v3]:Array Value)++Array.replicate 3 undef).size=7:=rfl;have hw:GM (GQ Tryz.prog) Tryz.prog attOps.toList attOps.toList (Pt (GQ Tryz.prog) R X) ⟨argEnv Ax5,objRegs (Wl 0 a b J2)⟩:=by
  have:=hreg.out
  rw[Yb]at this;simpa only[G,awp,kp,AZ2,if_false]using this
 have hops:=LL (𝒢:=𝒢.fix C.rho0) (n:=7) (ro:=none) (ops:=attOps) AV6 attOps.toList 0 rfl (by simp) ⟨hG,rfl⟩ hS' hsz hw;have hfr:=Iu [{ target:=.fn (.func S1) #[],args:=#[v0] }] _ _ _ hops;rw[Bm9]at hfr;obtain⟨b0,hv0,hrho0⟩:∃b0,v0=.pointer (some ⟨b0,0,none⟩)/\rho 0=.pointer (some ⟨b0,0,none⟩):=by
  have h0:RepA w _ _ rho v0 (.reg 0 0):=hS.env 0;cases h0 with
  |reg _ _ b0 _ h=>exact⟨b0,rfl,h⟩
 have hend:∀{C' : Ctx}{st' : St}{a' : Act}{w' : World}{rho' : Nat->Value},(𝒢.fix C.rho0).G C' -> Sat C' st' a' w' rho' -> J7 [0,1,2,3] st'.regs [0,1,2,3]=some objs' ->
  LeavesInM Fence.wide 0 Tryz.prog Tryz.f119 a'.tmps (fun e w'=>∃C' r objs0 ks rho', 𝒢.G C' /\ (r=.ret (.tup [])/\objs0=objs' /\ ks=[true,true,true,true])/\SatE C' (objRegs objs0) w' rho' /\
   AH5 w' (Prv C'.X (A2 (objRegs objs0)) rho') (Lv (A2 (objRegs objs0))) rho' e r/\∀i:Nat,ks[i]? = some true->i<objs0.length/\rho' i=rho i) [] .returning w':=by
  intro C' st' a' w' rho' hG' hs' hob;obtain⟨g1,g2,g3⟩:=LM hs' (by decide) hob;obtain⟨hl,hg⟩:=Y3 hob;refine⟨.tuple #[],by simp[results,Tryz.f119],C', .ret (.tup []),objs',_,_,hG'.1,⟨rfl,rfl,rfl⟩,g1,⟨_,rfl,.tup _ _ rfl fun i hi=>absurd hi (by simp)⟩,?_⟩;intro i hi;have hi4:i<4:=by
   have:=(AZ5.1 hi).1
   simpa using this
  refine⟨by rw[hl];exact hi4,?_⟩;have e1:[0,1,2,3][i]? = some i:=by
   match i,hi4 with
   |0,_=>rfl
   |1,_=>rfl
   |2,_=>rfl
   |3,_=>rfl
  obtain⟨o,_,ho,_⟩:=hg i i e1;show rho' ([0,1,2,3].getD i 0)=rho i;rw[Cz e1,hs'.pin i (by omega) (by simp[Lv,ho]),hG'.2];refine (hS.pin i (by omega) ?_).symm;rw[Lv,D6]
  match i,hi4 with
  |0,_=>rfl
  |1,_=>rfl
  |2,_=>rfl
  |3,_=>rfl
 generalize hQ:bodyPostM _ _ _ _ _=QQ;refine wpIn_seq ?_;simp only[att1,Tryz.f119];refine wpIn_region ?_;simp[wpOpsIn,Oper.wpIn,Oper.semAt,Oper.uponIn,go_sem,Exit.then];subst hQ;rw[Yb];refine wpIn_mono (wpIn_region (F:=FW none) hfr) ?_;rintro e a' w' ⟨a0,rfl,hq⟩;cases e with
 |exit id=>obtain⟨_,_,_,_,_,_,h⟩:=hq;exact h.elim
 |goto l=>obtain⟨_,_,_,_,_,_,h⟩:=hq;exact h.elim
 |ret=>obtain⟨_,_,_,_,_,_,h⟩:=hq;exact h.elim
 |outgrown=>exact hq.elim
 |normal=>
  obtain⟨C',st',rho',hG',hs',hsz',hu⟩:=hq;obtain⟨st2,rho2,hR2,_,hs2⟩:=hu C' a0 w' rho' hs';refine ER (C:=C') (st:=st2) (rho:=rho2) (by simp) ?_ a0.defers a0 w' rfl rfl hs2;intro a3 w3 hs3 ht;refine⟨by simp,.inr ⟨by simp[Fence.wide],_,_,S1,#[v0],rfl,by simp[go_sem],fun _ _=>trivial,?_⟩⟩;refine (Wm v0 w3).mono ?_;rintro e u' w4 ⟨rfl,rfl,rfl⟩
  have:=hend hG' hs3 (hR st2 hR2)
  rw[ht]at this;exact this
 |panic chain=>
  obtain⟨C',st',rho',v,x,rfl,hG',hs',hsz',hv,hXx⟩:=hq;obtain⟨c,regs',rfl,hst,hob⟩:=hX x st' hXx;obtain rfl:v=.iface 160 (.int .i64 c):=by
   cases hv with
   |iface _ _ _ h=>cases h;rfl
  refine ER (C:=C') (st:=st') (rho:=rho') (by simp) ?_ a0.defers a0 w' rfl rfl hs';intro a3 w3 hs3 ht;have hlive:Lv (A2 st'.regs) 0:=by
   cases hj:A2 st'.regs 0 with
   |some o=>simp[Lv,hj]
   |none=>
    unfold store at hst;split at hst
    ·simp[hj]at hst
    ·cases hst
  have hr0:rho' 0=.pointer (some ⟨b0,0,none⟩):=by rw[hs3.pin 0 (by omega) hlive,hG'.2,<- hrho0];exact (hS.pin 0 (by omega) rfl).symm
  have hva:RS C' st' w3 rho' v0 (.reg 0 0):=by rw[hv0];exact .reg 0 0 b0 hlive hr0
  obtain⟨w4,hrun,hs4,_⟩:=LA hs3 (vx:=.int .i64 c) hva (.p _ _ (.v _)) hst trivial;refine⟨by simp,.inr ⟨by simp[Fence.wide],_,_,S1,#[v0],rfl,by simp[go_sem],fun _ _=>trivial,?_⟩⟩;refine (KT v0 c [] w3 w4 hrun ⟨_,hv0⟩).mono ?_;rintro e u' w5 ⟨rfl,rfl,rfl⟩
  have:=hend hG' hs4 hob
  rw[ht]at this;exact this
theorem Wn {a:Sl Law}{b y:Sl Sound}(hF:FunO (GQ Tryz.prog) H2 [.p (vSl 18 A5 a),.p (vSl 2 A0 b)] [] (.p (vSl 2 A0 y)) [] []) :FunO (GQ Tryz.prog) H9 Ax5 (Wl 0 a b J2) (.tup []) (Wl 0 a b (vSl 2 A0 y)) [true,true,true,true]:=
 MU (AL5 (AP2 Tryz.prog) hF) (fun st h=>h) (fun x st h=>h.elim)
theorem Rt {a:Sl Law}{b:Sl Sound}{c:Int}(hF:(GQ Tryz.prog).F H2 [.p (vSl 18 A5 a),.p (vSl 2 A0 b)] [] fun res o k=>res=.panic (.iface 160 (pI .i64 c))/\o=[]/\k=[]) :FunO (GQ Tryz.prog) H9 Ax5 (Wl 0 a b J2) (.tup []) (Wl c a b J2) [true,true,true,true]:=
 MU (Ak7 (AP2 Tryz.prog) hF) (fun st h=>h.elim) (fun x st h=>⟨c,_,h.1,h.2.1,h.2.2⟩)
end Go.AM
namespace Go.AM
open IntKind (wrap)
open Go.Proofs
set_option maxRecDepth 10000
set_option maxHeartbeats 2000000
variable {S:Bd}(hS:G6 S Tryz.prog) (hL:RY S)
include hS hL
def G1 (N:Nat)(p_s:Sound):Option Bool:=
 some (((E4 .and .u32 p_s.Plus p_s.Minus)==0)&&(decide ((E4 .or .u32 p_s.Plus p_s.Minus)<=16777215)))
theorem Q2 {N:Nat}{p_s:Sound}{y:Bool}(h:G1 N p_s=some y) :FunO S IE [.p (.agg (A0 p_s))] [] (pB y) ([]) []:=by unfold G1 at h;refine A1 hS Rh ?_;refine kB hS (A3 hS) trivial trivial 7 (.n (.a ((E4 .and .u32 p_s.Plus p_s.Minus)==0)) (.a (decide ((E4 .or .u32 p_s.Plus p_s.Minus)<=16777215)))) ?_;cases h;exact kR hS
def J1 (N:Nat)(p_s:Sound)(p_cond:Sound):Option Bool:=
 (G1 N p_s).bind fun y1=>
 lt (fun (z1:Bool)=>
  some z1
  ) fun k1=>
  if y1 then
   (G1 N p_cond).bind fun y3=>
   if y3 then
    if ((E4 .andNot .u32 p_cond.Plus p_s.Plus)==0) then
     k1 ((E4 .andNot .u32 p_cond.Minus p_s.Minus)==0)
    else
     k1 false
   else
    k1 false
  else
   k1 false
theorem JG {N:Nat}{p_s:Sound}{p_cond:Sound}{y:Bool}(h:J1 N p_s p_cond=some y) :FunO S Eu [.p (.agg (A0 p_s)),.p (.agg (A0 p_cond))] [] (pB y) ([]) []:=by
 unfold J1 at h;refine A1 hS JE ?_;refine kC hS h (Q2 hS hL) (fun y1 h=>?_);refine FM hS trivial (A3 hS) h 0 (fun z1=>⟨[(4,pB z1)],[]⟩) (fun M1 k1 hb1 h=>?_) (fun z1 h=>?_)
 ·refine kG hS h (fun h=>?_) (fun h=>?_)
  ·refine kC hS h (Q2 hS hL) (fun y3 h=>?_);refine kG hS h (fun h=>?_) (fun h=>?_)
   ·refine kG hS h (fun h=>?_) (fun h=>?_)
    ·exact hb1 _ [] _ ((E4 .andNot .u32 p_cond.Minus p_s.Minus)==0) trivial h
    ·exact hb1 _ [] _ false trivial h
   ·exact hb1 _ [] _ false trivial h
  ·exact hb1 _ [] _ false trivial h
 ·cases h;exact kR hS
def Dl (N:Nat)(p_s:Sound):Option Int:=
 some (E4 .or .u32 p_s.Plus p_s.Minus)
theorem MV {N:Nat}{p_s:Sound}{y:Int}(h:Dl N p_s=some y) :FunO S MM [.p (.agg (A0 p_s))] [] (pU y) ([]) []:=by unfold Dl at h;refine A1 hS Wc ?_;cases h;exact kR hS
def BQ (N:Nat)(p_s:Sound)(p_from:Sound)(p_set:Int):Option Sound:=
 some (⟨E4 .or .u32 (E4 .andNot .u32 p_s.Plus p_set) (E4 .and .u32 p_from.Plus p_set),E4 .or .u32 (E4 .andNot .u32 p_s.Minus p_set) (E4 .and .u32 p_from.Minus p_set)⟩:Sound)
theorem MW {N:Nat}{p_s:Sound}{p_from:Sound}{p_set:Int}{y:Sound}(h:BQ N p_s p_from p_set=some y) :FunO S MN [.p (.agg (A0 p_s)),.p (.agg (A0 p_from)),pU p_set] [] (.p (.agg (A0 y))) ([]) []:=by unfold BQ at h;refine A1 hS Wd ?_;cases h;exact kR hS
def N8 (N:Nat)(p_s:Sound)(p_clear:Int)(p_set:Sound):Option (Sound×Int):=
 (G1 N p_s).bind fun y1=>
 lt (fun (z1:Bool)=>
  if z1 then
   some ((⟨0,0⟩:Sound),14)
  else
   lt (fun (z2:Bool)=>
    if z2 then
     some ((⟨0,0⟩:Sound),2)
    else
     (Dl N p_set).bind fun y6=>
     (BQ N p_s p_set (E4 .or .u32 p_clear y6)).bind fun y7=>
     some (y7,0)
    ) fun k2=>
    if (decide (16777215<p_clear)) then
     k2 true
    else
     (Dl N p_set).bind fun y5=>
     k2 ((E4 .and .u32 p_clear y5) != 0)
  ) fun k1=>
  if (!y1) then
   k1 true
  else
   (G1 N p_set).bind fun y3=>
   k1 (!y3)
theorem Ow {N:Nat}{p_s:Sound}{p_clear:Int}{p_set:Sound}{y:Sound×Int}(h:N8 N p_s p_clear p_set=some y) :FunO S Ht [.p (.agg (A0 p_s)),pU p_clear,.p (.agg (A0 p_set))] [] (.tup [.p (.agg (A0 y.1)),pN y.2]) ([]) []:=by
 unfold N8 at h;refine A1 hS Oo ?_;refine J3 hS trivial 5 4000 [pI .u32 p_s.Plus,pI .u32 p_s.Minus] ?_;refine J3 hS trivial 6 6000 [pI .u32 p_set.Plus,pI .u32 p_set.Minus] ?_;obtain⟨y1,e1,h⟩:=B6 h;refine B8 hS [] (by decide:(2:Nat)<=2) (Q2 hS hL e1) ?_;refine FM hS trivial (A3 hS) h 0 (fun z1=>⟨[(15,pB z1),(6,.reg 7000 0),(5,.p (.ptr [pI .u32 p_set.Plus,pI .u32 p_set.Minus])),(3,.p (.ptr [pI .u32 p_s.Plus,pI .u32 p_s.Minus])),(1,pU p_clear)],[(7000,.cells [pU 0,pU 0])]⟩) (fun M1 k1 hb1 h=>?_) (fun z1 h=>?_)
 ·refine kG hS h (fun h=>?_) (fun h=>?_)
  ·exact hb1 _ [(7000,7000)] _ true trivial h
  ·obtain⟨y3,e3,h⟩:=B6 h;refine B8 hS [] (by decide:(2:Nat)<=2) (Q2 hS hL e3) ?_;exact hb1 _ [(7000,7000)] _ (!y3) trivial h
 ·refine kI hS h (fun h=>?_) (fun h=>?_)
  ·cases h;exact kR hS
  ·refine FM hS trivial (A3 hS) h 0 (fun z2=>⟨[(25,pB z2),(6,.reg 7000 0),(5,.p (.ptr [pI .u32 p_set.Plus,pI .u32 p_set.Minus])),(3,.p (.ptr [pI .u32 p_s.Plus,pI .u32 p_s.Minus])),(1,pU p_clear)],[(7000,.cells [pU 0,pU 0])]⟩) (fun M2 k2 hb2 h=>?_) (fun z2 h=>?_)
   ·refine kG hS h (fun h=>?_) (fun h=>?_)
    ·exact hb2 _ [(7000,7000)] _ true trivial h
    ·obtain⟨y5,e5,h⟩:=B6 h;refine B8 hS [] (by decide:(2:Nat)<=2) (MV hS hL e5) ?_;exact hb2 _ [(7000,7000)] _ ((E4 .and .u32 p_clear y5) != 0) trivial h
   ·refine kI hS h (fun h=>?_) (fun h=>?_)
    ·cases h;exact kR hS
    ·refine D7 hS trivial [0,1,3,4,6] ?_;obtain⟨y6,e6,h⟩:=B6 h;refine U6 (And.intro (And.intro (by decide:(2:Nat)<=2) (by decide:(2:Nat)<=2)) (by decide:(2:Nat)<=2)) (MV hS hL e6) ?_;obtain⟨y7,e7,h⟩:=B6 h;refine U6 trivial (MW hS hL e7) ?_;refine H5 trivial ?_;cases h;exact kR hS
def S7 (N:Nat)(p_s:Sound)(p_from:Sound)(p_mask:Int):Option (Sound×Int):=
 (G1 N p_s).bind fun y1=>
 lt (fun (z1:Bool)=>
  if z1 then
   some ((⟨0,0⟩:Sound),14)
  else
   if (decide (16777215<p_mask)) then
    some ((⟨0,0⟩:Sound),2)
   else
    (BQ N p_s p_from p_mask).bind fun y4=>
    some (y4,0)
  ) fun k1=>
  if (!y1) then
   k1 true
  else
   (G1 N p_from).bind fun y3=>
   k1 (!y3)
theorem TR {N:Nat}{p_s:Sound}{p_from:Sound}{p_mask:Int}{y:Sound×Int}(h:S7 N p_s p_from p_mask=some y) :FunO S Kx [.p (.agg (A0 p_s)),.p (.agg (A0 p_from)),pU p_mask] [] (.tup [.p (.agg (A0 y.1)),pN y.2]) ([]) []:=by
 unfold S7 at h;refine A1 hS TF ?_;refine kC hS h (Q2 hS hL) (fun y1 h=>?_);refine FM hS trivial (A3 hS) h 0 (fun z1=>⟨[(15,pB z1),(6,.reg 7000 0),(4,.reg 5000 0),(3,.reg 4000 0),(2,pU p_mask)],[(7000,.cells [pU 0,pU 0]),(5000,.cells [pU p_from.Plus,pU p_from.Minus]),(4000,.cells [pU p_s.Plus,pU p_s.Minus])]⟩) (fun M1 k1 hb1 h=>?_) (fun z1 h=>?_)
 ·refine kG hS h (fun h=>?_) (fun h=>?_)
  ·exact hb1 _ [(4000,4000),(5000,5000),(7000,7000)] _ true trivial h
  ·refine kC hS h (Q2 hS hL) (fun y3 h=>?_);exact hb1 _ [(4000,4000),(5000,5000),(7000,7000)] _ (!y3) trivial h
 ·refine kI hS h (fun h=>?_) (fun h=>?_)
  ·cases h;exact kR hS
  ·refine kI hS h (fun h=>?_) (fun h=>?_)
   ·cases h;exact kR hS
   ·refine kC hS h (MW hS hL) (fun y4 h=>?_);cases h;exact kR hS
def H4 (N:Nat)(p_s:Sound):Option Bool:=
 R5 N (fun self1 (x1:Int)=>
  if (decide (x1<32)) then
   if ((0:Int)<=x1/\(0:Int)<=x1)then
    if ((((E4 .and .u32 (shI .shr .u32 p_s.Plus x1) 1)==1)&&((E4 .and .u32 (shI .shr .u32 p_s.Minus x1) 1)==1))||((((E4 .and .u32 (shI .shr .u32 p_s.Plus x1) 1)==1)||((E4 .and .u32 (shI .shr .u32 p_s.Minus x1) 1)==1))&&(decide (24<=x1)))) then
     some false
    else
     self1 (wrap .i64 (x1+1))
   else none
  else
   some true
  ) 0
theorem T0 {N:Nat}{p_s:Sound}{y:Bool}(h:H4 N p_s=some y) :FunO S MC [.p (.agg (A0 p_s))] [] (pB y) ([]) []:=by
 unfold H4 at h;refine A1 hS VT ?_;refine G7 hS trivial h (fun x1=>⟨[(3,pN x1),(1,.reg 2000 0)],[(2000,.cells [pU p_s.Plus,pU p_s.Minus])]⟩) (ids:=[(2000,2000)]) (fun _ _ _ _ _ self1 x1 hb1 h=>?_);refine kI hS h (fun h=>?_) (fun h=>?_)
 ·obtain⟨c7,h⟩:=D2 h;refine kB hS (A3 hS) c7 trivial 12 (.o (.n (.a ((E4 .and .u32 (shI .shr .u32 p_s.Plus x1) 1)==1)) (.a ((E4 .and .u32 (shI .shr .u32 p_s.Minus x1) 1)==1))) (.n (.o (.a ((E4 .and .u32 (shI .shr .u32 p_s.Plus x1) 1)==1)) (.a ((E4 .and .u32 (shI .shr .u32 p_s.Minus x1) 1)==1))) (.a (decide (24<=x1))))) ?_;refine kI hS h (fun h=>?_) (fun h=>?_)
  ·cases h;exact kR hS
  ·exact hb1 _ [(2000,2000)] _ (wrap .i64 (x1+1)) trivial h
 ·cases h;exact kR hS
def CL (N:Nat)(p_f:Int):Option Bool:=
 some ((decide (0<=p_f))&&(decide (p_f<24)))
theorem Ru {N:Nat}{p_f:Int}{y:Bool}(h:CL N p_f=some y) :FunO S IL [pN p_f] [] (pB y) ([]) []:=by unfold CL at h;refine A1 hS Ro ?_;refine kB hS (A3 hS) trivial trivial 3 (.n (.a (decide (0<=p_f))) (.a (decide (p_f<24)))) ?_;cases h;exact kR hS
def W0 (N:Nat)(p_s:Sound)(p_f:Int):Option Int:=
 (H4 N p_s).bind fun y1=>
 lt (fun (z1:Bool)=>
  if z1 then
   some 0
  else
   if (0:Int)<=p_f then
    if ((E4 .and .u32 (shI .shr .u32 p_s.Plus p_f) 1)==1) then
     some 1
    else
     if (0:Int)<=p_f then
      if ((E4 .and .u32 (shI .shr .u32 p_s.Minus p_f) 1)==1) then
       some (-1)
      else
       some 0
     else none
   else none
  ) fun k1=>
  if (!y1) then
   k1 true
  else
   (CL N p_f).bind fun y3=>
   k1 (!y3)
theorem Dm {N:Nat}{p_s:Sound}{p_f:Int}{y:Int}(h:W0 N p_s p_f=some y) :FunO S TI [.p (.agg (A0 p_s)),pN p_f] [] (pN y) ([]) []:=by
 unfold W0 at h;refine A1 hS Ak4 ?_;refine kC hS h (T0 hS hL) (fun y1 h=>?_);refine FM hS trivial (A3 hS) h 0 (fun z1=>⟨[(12,pB z1),(2,.reg 3000 0),(1,pN p_f)],[(3000,.cells [pU p_s.Plus,pU p_s.Minus])]⟩) (fun M1 k1 hb1 h=>?_) (fun z1 h=>?_)
 ·refine kG hS h (fun h=>?_) (fun h=>?_)
  ·exact hb1 _ [(3000,3000)] _ true trivial h
  ·refine kC hS h (Ru hS hL) (fun y3 h=>?_);exact hb1 _ [(3000,3000)] _ (!y3) trivial h
 ·refine kI hS h (fun h=>?_) (fun h=>?_)
  ·cases h;exact kR hS
  ·obtain⟨c5,h⟩:=D2 h;refine D3 hS c5 (b:=(E4 .and .u32 (shI .shr .u32 p_s.Plus p_f) 1)==1) (fun c6=>?_) (fun c6=>?_)
   ·replace h:=itT c6 h;cases h;exact kR hS
   ·replace h:=itF c6 h;obtain⟨c7,h⟩:=D2 h;refine D3 hS c7 (b:=(E4 .and .u32 (shI .shr .u32 p_s.Minus p_f) 1)==1) (fun c8=>?_) (fun c8=>?_)
    ·replace h:=itT c8 h;cases h;exact kR hS
    ·replace h:=itF c8 h;cases h;exact kR hS
def Cm (N:Nat)(p_s:Sound)(p_f:Int)(p_v:Int):Option Sound:=
 if (0:Int)<=p_f then
  if (p_v==1) then
   if (p_v==(-1)) then
    some (⟨E4 .or .u32 (E4 .andNot .u32 p_s.Plus (shI .shl .u32 1 p_f)) (shI .shl .u32 1 p_f),E4 .or .u32 (E4 .andNot .u32 p_s.Minus (shI .shl .u32 1 p_f)) (shI .shl .u32 1 p_f)⟩:Sound)
   else
    some (⟨E4 .or .u32 (E4 .andNot .u32 p_s.Plus (shI .shl .u32 1 p_f)) (shI .shl .u32 1 p_f),E4 .andNot .u32 p_s.Minus (shI .shl .u32 1 p_f)⟩:Sound)
  else
   if (p_v==(-1)) then
    some (⟨E4 .andNot .u32 p_s.Plus (shI .shl .u32 1 p_f),E4 .or .u32 (E4 .andNot .u32 p_s.Minus (shI .shl .u32 1 p_f)) (shI .shl .u32 1 p_f)⟩:Sound)
   else
    some (⟨E4 .andNot .u32 p_s.Plus (shI .shl .u32 1 p_f),E4 .andNot .u32 p_s.Minus (shI .shl .u32 1 p_f)⟩:Sound)
 else none
theorem IP {N:Nat}{p_s:Sound}{p_f:Int}{p_v:Int}{y:Sound}(h:Cm N p_s p_f p_v=some y) :FunO S TJ [.p (.agg (A0 p_s)),pN p_f,pN p_v] [] (.p (.agg (A0 y))) ([]) []:=by
 unfold Cm at h;refine A1 hS Ak5 ?_;obtain⟨c1,h⟩:=D2 h;refine D3 hS c1 (b:=p_v==1) (fun c2=>?_) (fun c2=>?_)
 ·replace h:=itT c2 h;refine kI hS h (fun h=>?_) (fun h=>?_)
  ·cases h;exact kR hS
  ·cases h;exact kR hS
 ·replace h:=itF c2 h;refine kI hS h (fun h=>?_) (fun h=>?_)
  ·cases h;exact kR hS
  ·cases h;exact kR hS
def O9 (N:Nat)(p_s:Sound)(p_cond:Sound):Option Bool:=
 (H4 N p_s).bind fun y1=>
 lt (fun (z1:Bool)=>
  if z1 then
   some false
  else
   R5 N (fun self1 (x3:Int)=>
    if (decide (x3<24)) then
     (W0 N p_cond x3).bind fun y10=>
     lt (fun (z4:Bool)=>
      if z4 then
       some false
      else
       self1 (wrap .i64 (x3+1))
      ) fun k4=>
      if (y10 != 0) then
       (W0 N p_s x3).bind fun y12=>
       k4 (y12 != y10)
      else
       k4 false
    else
     some true
    ) 0
  ) fun k1=>
  if (!y1) then
   k1 true
  else
   (H4 N p_cond).bind fun y3=>
   k1 (!y3)
theorem MX {N:Nat}{p_s:Sound}{p_cond:Sound}{y:Bool}(h:O9 N p_s p_cond=some y) :FunO S FX [.p (.agg (A0 p_s)),.p (.agg (A0 p_cond))] [] (pB y) ([]) []:=by
 unfold O9 at h;refine A1 hS MK ?_;refine kC hS h (T0 hS hL) (fun y1 h=>?_);refine FM hS trivial (A3 hS) h 0 (fun z1=>⟨[(14,pB z1),(3,.reg 4000 0),(2,.reg 3000 0)],[(4000,.cells [pU p_cond.Plus,pU p_cond.Minus]),(3000,.cells [pU p_s.Plus,pU p_s.Minus])]⟩) (fun M1 k1 hb1 h=>?_) (fun z1 h=>?_)
 ·refine kG hS h (fun h=>?_) (fun h=>?_)
  ·exact hb1 _ [(3000,3000),(4000,4000)] _ true trivial h
  ·refine kC hS h (T0 hS hL) (fun y3 h=>?_);exact hb1 _ [(3000,3000),(4000,4000)] _ (!y3) trivial h
 ·refine kI hS h (fun h=>?_) (fun h=>?_)
  ·cases h;exact kR hS
  ·refine G7 hS trivial h (fun x3=>⟨[(5,pN x3),(3,.reg 4000 0),(2,.reg 3000 0)],[(4000,.cells [pU p_cond.Plus,pU p_cond.Minus]),(3000,.cells [pU p_s.Plus,pU p_s.Minus])]⟩) (ids:=[(3000,3000),(4000,4000)]) (fun _ _ _ _ _ self1 x3 hb4 h=>?_);refine kI hS h (fun h=>?_) (fun h=>?_)
   ·refine kC hS h (Dm hS hL) (fun y10 h=>?_);refine FM hS trivial (A3 hS) h 0 (fun z4=>⟨[(30,pB z4),(5,pN x3),(3,.reg 4000 0),(2,.reg 3000 0)],[(4000,.cells [pU p_cond.Plus,pU p_cond.Minus]),(3000,.cells [pU p_s.Plus,pU p_s.Minus])]⟩) (fun M4 k4 hb5 h=>?_) (fun z4 h=>?_)
    ·refine kG hS h (fun h=>?_) (fun h=>?_)
     ·refine kC hS h (Dm hS hL) (fun y12 h=>?_);exact hb5 _ [(3000,3000),(4000,4000)] _ (y12 != y10) trivial h
     ·exact hb5 _ [(3000,3000),(4000,4000)] _ false trivial h
    ·refine kI hS h (fun h=>?_) (fun h=>?_)
     ·cases h;exact kR hS
     ·exact hb4 _ [(3000,3000),(4000,4000)] _ (wrap .i64 (x3+1)) trivial h
   ·cases h;exact kR hS
def Q3 (N:Nat)(p_s:Sound)(p_clear:Int)(p_set:Sound):Option (Sound×Int):=
 (H4 N p_s).bind fun y1=>
 lt (fun (z1:Bool)=>
  if z1 then
   some ((⟨0,0⟩:Sound),14)
  else
   if ((decide (16777215<p_clear))||((E4 .and .u32 p_clear (E4 .or .u32 p_set.Plus p_set.Minus)) != 0)) then
    some ((⟨0,0⟩:Sound),2)
   else
    AI6 N (fun self1 (x2:Int) (x3:Int) (x4:Int)=>
     if (decide (x4<24)) then
      if (0:Int)<=x4 then
       if ((E4 .and .u32 (shI .shr .u32 p_clear x4) 1)==1) then
        (Cm N (⟨x2,x3⟩:Sound) x4 0).bind fun y18=>
        (W0 N p_set x4).bind fun y19=>
        if (y19 != 0) then
         (W0 N p_set x4).bind fun y20=>
         (Cm N y18 x4 y20).bind fun y21=>
         self1 y21.Plus y21.Minus (wrap .i64 (x4+1))
        else
         self1 y18.Plus y18.Minus (wrap .i64 (x4+1))
       else
        (W0 N p_set x4).bind fun y22=>
        if (y22 != 0) then
         (W0 N p_set x4).bind fun y23=>
         (Cm N (⟨x2,x3⟩:Sound) x4 y23).bind fun y24=>
         self1 y24.Plus y24.Minus (wrap .i64 (x4+1))
        else
         self1 x2 x3 (wrap .i64 (x4+1))
      else none
     else
      some ((⟨x2,x3⟩:Sound),0)
     ) p_s.Plus p_s.Minus 0
  ) fun k1=>
  if (!y1) then
   k1 true
  else
   (H4 N p_set).bind fun y3=>
   k1 (!y3)
theorem TT {N:Nat}{p_s:Sound}{p_clear:Int}{p_set:Sound}{y:Sound×Int}(h:Q3 N p_s p_clear p_set=some y) :FunO S Kz [.p (.agg (A0 p_s)),pU p_clear,.p (.agg (A0 p_set))] [] (.tup [.p (.agg (A0 y.1)),pN y.2]) ([]) []:=by
 unfold Q3 at h;refine A1 hS TH ?_;refine J3 hS trivial 5 4000 [pI .u32 p_s.Plus,pI .u32 p_s.Minus] ?_;refine J3 hS trivial 6 6000 [pI .u32 p_set.Plus,pI .u32 p_set.Minus] ?_;obtain⟨y1,e1,h⟩:=B6 h;refine B8 hS [] (by decide:(2:Nat)<=2) (T0 hS hL e1) ?_;refine FM hS trivial (A3 hS) h 0 (fun z1=>⟨[(17,pB z1),(6,.reg 7000 0),(5,.p (.ptr [pI .u32 p_set.Plus,pI .u32 p_set.Minus])),(3,.p (.ptr [pI .u32 p_s.Plus,pI .u32 p_s.Minus])),(1,pU p_clear)],[(7000,.cells [pU 0,pU 0])]⟩) (fun M1 k1 hb1 h=>?_) (fun z1 h=>?_)
 ·refine kG hS h (fun h=>?_) (fun h=>?_)
  ·exact hb1 _ [(7000,7000)] _ true trivial h
  ·obtain⟨y3,e3,h⟩:=B6 h;refine B8 hS [] (by decide:(2:Nat)<=2) (T0 hS hL e3) ?_;exact hb1 _ [(7000,7000)] _ (!y3) trivial h
 ·refine kI hS h (fun h=>?_) (fun h=>?_)
  ·cases h;exact kR hS
  ·refine kB hS (A3 hS) trivial trivial 9 (.o (.a (decide (16777215<p_clear))) (.a ((E4 .and .u32 p_clear (E4 .or .u32 p_set.Plus p_set.Minus)) != 0))) ?_;refine kI hS h (fun h=>?_) (fun h=>?_)
   ·cases h;exact kR hS
   ·refine SW hS (by decide:(2:Nat)<=2) h (fun x2 x3 x4=>⟨[(9,pN x4),(8,.reg 9000 0),(6,.reg 7000 0),(5,.p (.ptr [pI .u32 p_set.Plus,pI .u32 p_set.Minus])),(1,pU p_clear)],[(9000,.cells [pU x2,pU x3]),(7000,.cells [pU 0,pU 0])]⟩) (ids:=[(7000,7000),(9000,9000)]) (fun _ _ _ _ _ self1 x2 x3 x4 hb2 h=>?_);refine kI hS h (fun h=>?_) (fun h=>?_)
    ·obtain⟨c16,h⟩:=D2 h;refine D3 hS c16 (b:=(E4 .and .u32 (shI .shr .u32 p_clear x4) 1)==1) (fun c17=>?_) (fun c17=>?_)
     ·replace h:=itT c17 h;refine kC hS h (IP hS hL) (fun y18 h=>?_);obtain⟨y19,e19,h⟩:=B6 h;refine B8 hS [] (by decide:(2:Nat)<=2) (Dm hS hL e19) ?_;refine kI hS h (fun h=>?_) (fun h=>?_)
      ·refine D7 hS trivial [2,4,5] ?_;obtain⟨y20,e20,h⟩:=B6 h;refine U6 (by decide:(2:Nat)<=2) (Dm hS hL e20) ?_;obtain⟨y21,e21,h⟩:=B6 h;refine U6 trivial (IP hS hL e21) ?_;refine H5 trivial ?_;exact hb2 _ [(7000,7000),(9000,9000)] _ y21.Plus y21.Minus (wrap .i64 (x4+1)) trivial h
      ·exact hb2 _ [(7000,7000),(9000,9000)] _ y18.Plus y18.Minus (wrap .i64 (x4+1)) trivial h
     ·replace h:=itF c17 h;obtain⟨y22,e22,h⟩:=B6 h;refine B8 hS [] (by decide:(2:Nat)<=2) (Dm hS hL e22) ?_;refine kI hS h (fun h=>?_) (fun h=>?_)
      ·refine D7 hS trivial [2,4,5] ?_;obtain⟨y23,e23,h⟩:=B6 h;refine U6 (by decide:(2:Nat)<=2) (Dm hS hL e23) ?_;obtain⟨y24,e24,h⟩:=B6 h;refine U6 trivial (IP hS hL e24) ?_;refine H5 trivial ?_;exact hb2 _ [(7000,7000),(9000,9000)] _ y24.Plus y24.Minus (wrap .i64 (x4+1)) trivial h
      ·exact hb2 _ [(7000,7000),(9000,9000)] _ x2 x3 (wrap .i64 (x4+1)) trivial h
    ·cases h;exact kR hS
def Y9 (N:Nat)(p_s:Sound)(p_from:Sound)(p_mask:Int):Option (Sound×Int):=
 (H4 N p_s).bind fun y1=>
 lt (fun (z1:Bool)=>
  if z1 then
   some ((⟨0,0⟩:Sound),14)
  else
   if (decide (16777215<p_mask)) then
    some ((⟨0,0⟩:Sound),2)
   else
    AI6 N (fun self1 (x2:Int) (x3:Int) (x4:Int)=>
     if (decide (x4<24)) then
      if (0:Int)<=x4 then
       if ((E4 .and .u32 (shI .shr .u32 p_mask x4) 1)==1) then
        (W0 N p_from x4).bind fun y8=>
        (Cm N (⟨x2,x3⟩:Sound) x4 y8).bind fun y9=>
        self1 y9.Plus y9.Minus (wrap .i64 (x4+1))
       else
        self1 x2 x3 (wrap .i64 (x4+1))
      else none
     else
      some ((⟨x2,x3⟩:Sound),0)
     ) p_s.Plus p_s.Minus 0
  ) fun k1=>
  if (!y1) then
   k1 true
  else
   (H4 N p_from).bind fun y3=>
   k1 (!y3)
theorem ZQ {N:Nat}{p_s:Sound}{p_from:Sound}{p_mask:Int}{y:Sound×Int}(h:Y9 N p_s p_from p_mask=some y) :FunO S PM [.p (.agg (A0 p_s)),.p (.agg (A0 p_from)),pU p_mask] [] (.tup [.p (.agg (A0 y.1)),pN y.2]) ([]) []:=by
 unfold Y9 at h;refine A1 hS ZJ ?_;refine J3 hS trivial 4 4000 [pI .u32 p_s.Plus,pI .u32 p_s.Minus] ?_;refine J3 hS trivial 6 5000 [pI .u32 p_from.Plus,pI .u32 p_from.Minus] ?_;obtain⟨y1,e1,h⟩:=B6 h;refine B8 hS [] (by decide:(2:Nat)<=2) (T0 hS hL e1) ?_;refine FM hS trivial (A3 hS) h 0 (fun z1=>⟨[(17,pB z1),(6,.reg 7000 0),(4,.p (.ptr [pI .u32 p_from.Plus,pI .u32 p_from.Minus])),(3,.p (.ptr [pI .u32 p_s.Plus,pI .u32 p_s.Minus])),(2,pU p_mask)],[(7000,.cells [pU 0,pU 0])]⟩) (fun M1 k1 hb1 h=>?_) (fun z1 h=>?_)
 ·refine kG hS h (fun h=>?_) (fun h=>?_)
  ·exact hb1 _ [(7000,7000)] _ true trivial h
  ·obtain⟨y3,e3,h⟩:=B6 h;refine B8 hS [] (by decide:(2:Nat)<=2) (T0 hS hL e3) ?_;exact hb1 _ [(7000,7000)] _ (!y3) trivial h
 ·refine kI hS h (fun h=>?_) (fun h=>?_)
  ·cases h;exact kR hS
  ·refine kI hS h (fun h=>?_) (fun h=>?_)
   ·cases h;exact kR hS
   ·refine SW hS (by decide:(2:Nat)<=2) h (fun x2 x3 x4=>⟨[(9,pN x4),(8,.reg 9000 0),(6,.reg 7000 0),(4,.p (.ptr [pI .u32 p_from.Plus,pI .u32 p_from.Minus])),(2,pU p_mask)],[(9000,.cells [pU x2,pU x3]),(7000,.cells [pU 0,pU 0])]⟩) (ids:=[(7000,7000),(9000,9000)]) (fun _ _ _ _ _ self1 x2 x3 x4 hb2 h=>?_);refine kI hS h (fun h=>?_) (fun h=>?_)
    ·obtain⟨c12,h⟩:=D2 h;refine D3 hS c12 (b:=(E4 .and .u32 (shI .shr .u32 p_mask x4) 1)==1) (fun c13=>?_) (fun c13=>?_)
     ·replace h:=itT c13 h;refine D7 hS trivial [2,4,5] ?_;obtain⟨y8,e8,h⟩:=B6 h;refine U6 (by decide:(2:Nat)<=2) (Dm hS hL e8) ?_;obtain⟨y9,e9,h⟩:=B6 h;refine U6 trivial (IP hS hL e9) ?_;refine H5 trivial ?_;exact hb2 _ [(7000,7000),(9000,9000)] _ y9.Plus y9.Minus (wrap .i64 (x4+1)) trivial h
     ·replace h:=itF c13 h;exact hb2 _ [(7000,7000),(9000,9000)] _ x2 x3 (wrap .i64 (x4+1)) trivial h
    ·cases h;exact kR hS
def Q7 (N:Nat)(p_s:Sound):Option Bool:=
 some ((((E4 .and .u32 p_s.Plus p_s.Minus)==0)&&(decide (p_s.Plus<16777216)))&&(decide (p_s.Minus<16777216)))
theorem MY {N:Nat}{p_s:Sound}{y:Bool}(h:Q7 N p_s=some y) :FunO S Mw [.p (.agg (A0 p_s))] [] (pB y) ([]) []:=by unfold Q7 at h;refine A1 hS VN ?_;refine kB hS (A3 hS) trivial trivial 9 (.n (.n (.a ((E4 .and .u32 p_s.Plus p_s.Minus)==0)) (.a (decide (p_s.Plus<16777216)))) (.a (decide (p_s.Minus<16777216)))) ?_;cases h;exact kR hS
def W1 (N:Nat)(p_w:Sl Sound):Option Int:=
 if (decide (32<(p_w.n:Int))) then
  some 11
 else
  R5 N (fun self1 (x1:Int)=>
   if (decide (x1<(p_w.n:Int))) then
    if ((0:Int)<=x1/\x1<(p_w.n:Int))then
     (Q7 N (p_w.g x1.toNat)).bind fun y3=>
     if (!y3) then
      some 14
     else
      self1 (wrap .i64 (x1+1))
    else none
   else
    some 0
   ) 0
theorem EZ {N:Nat}{p_w:Sl Sound}{y:Int}(h:W1 N p_w=some y) :FunO S Mo [.p (vSl 2 A0 p_w)] [] (pN y) ([]) []:=by
 unfold W1 at h;refine A1 hS VF ?_;refine kI hS h (fun h=>?_) (fun h=>?_)
 ·cases h;exact kR hS
 ·refine G7 hS trivial h (fun x1=>⟨[(3,pN x1),(0,.p (vSl 2 A0 p_w))],[]⟩) (ids:=[]) (fun _ _ _ _ _ self1 x1 hb1 h=>?_);refine kI hS h (fun h=>?_) (fun h=>?_)
  ·obtain⟨c9,h⟩:=D2 h;obtain⟨y3,e3,h⟩:=B6 h;refine B8 hS [] (And.intro c9 (by decide:(2:Nat)<=2)) (MY hS hL e3) ?_;refine kI hS h (fun h=>?_) (fun h=>?_)
   ·cases h;exact kR hS
   ·exact hb1 _ [] _ (wrap .i64 (x1+1)) trivial h
  ·cases h;exact kR hS
def Fa (N:Nat)(p_a:Sl Sound)(p_b:Sl Sound):Option Bool:=
 if ((p_a.n:Int) != (p_b.n:Int)) then
  some false
 else
  R5 N (fun self1 (x1:Int)=>
   if (decide (x1<(p_a.n:Int))) then
    if (((0:Int)<=x1/\x1<(p_a.n:Int))/\((0:Int)<=x1/\x1<(p_b.n:Int)))then
     if ((((p_a.g x1.toNat).Plus==(p_b.g x1.toNat).Plus)&&((p_a.g x1.toNat).Minus==(p_b.g x1.toNat).Minus)) != true) then
      some false
     else
      self1 (wrap .i64 (x1+1))
    else none
   else
    some true
   ) 0
theorem Wo {N:Nat}{p_a:Sl Sound}{p_b:Sl Sound}{y:Bool}(h:Fa N p_a p_b=some y) :FunO S Mp [.p (vSl 2 A0 p_a),.p (vSl 2 A0 p_b)] [] (pB y) ([]) []:=by
 unfold Fa at h;refine A1 hS VG ?_;refine kI hS h (fun h=>?_) (fun h=>?_)
 ·cases h;exact kR hS
 ·refine G7 hS trivial h (fun x1=>⟨[(5,pN x1),(1,.p (vSl 2 A0 p_b)),(0,.p (vSl 2 A0 p_a))],[]⟩) (ids:=[]) (fun _ _ _ _ _ self1 x1 hb1 h=>?_);refine kI hS h (fun h=>?_) (fun h=>?_)
  ·refine D7 hS trivial [2,3,6,7] ?_;obtain⟨c9,h⟩:=D2 h;refine H5 (And.intro (And.intro (And.intro (And.intro c9.1 (by decide:(2:Nat)<=2)) c9.2) (by decide:(2:Nat)<=2)) (by decide +kernel:Aq8 Tryz.prog A9=true)) ?_;refine kI hS h (fun h=>?_) (fun h=>?_)
   ·cases h;exact kR hS
   ·exact hb1 _ [] _ (wrap .i64 (x1+1)) trivial h
  ·cases h;exact kR hS
def CQ (N:Nat)(p_w:Sl Sound):Option (Sl Sound):=
 S4 N (fun self1 (x1:Sl Sound) (x2:Int)=>
  if (decide (x2<(p_w.n:Int))) then
   if (((0:Int)<=x2/\x2<(p_w.n:Int))/\((x1.n+(Sl.of [p_w.g x2.toNat]:Sl Sound).n)*8<=140737488355328/\x1.n+(Sl.of [p_w.g x2.toNat]:Sl Sound).n<=140737488355328))then
    self1 (x1.push (p_w.g x2.toNat)) (wrap .i64 (x2+1))
   else none
  else
   some x1
  ) (Sl.nil:Sl Sound) 0
theorem ZR {N:Nat}{p_w:Sl Sound}{y:Sl Sound}(h:CQ N p_w=some y) :FunO S PH [.p (vSl 2 A0 p_w)] [] (.vec 0) ([.vec A9 2 y.n (fun i=>A0 (y.g i)) true]) []:=by
 unfold CQ at h;refine A1 hS ZD ?_;refine F5 hS trivial h (fun x1 x2=>⟨[(4,pN x2),(3,.vec 4500),(0,.p (vSl 2 A0 p_w))],[(4500,.vec A9 2 x1.n (fun i=>A0 (x1.g i)) false)]⟩) (ids:=[]) (fun _ _ _ _ _ self1 x1 x2 hb1 h=>?_);refine kI hS h (fun h=>?_) (fun h=>?_)
 ·obtain⟨c4,h⟩:=D2 h;exact hb1 _ [(4500,18000)] _ (x1.push (p_w.g x2.toNat)) (wrap .i64 (x2+1)) (And.intro (And.intro (And.intro c4.1 (by decide:(2:Nat)<=2)) (rfl:true=true)) c4.2) h (hle:=klR [(2,.fn (x1.n+1) (x1.push (p_w.g x2.toNat)).n (R4 x1.n (fun i=>A0 (x1.g i)) (D4 [pI .u32 0,pI .u32 0] [(0,A0 (p_w.g x2.toNat))])) (fun i=>A0 ((x1.push (p_w.g x2.toNat)).g i)))] (al1 ⟨rfl,Er (c:=A0) (v:=x1) (x:=p_w.g x2.toNat) (z:=[(pI .u32 0),pI .u32 0]) same rfl rfl⟩ al0))
 ·obtain rfl:=B7 h;exact A6 hS trivial ⟨[(2,.vec 4500)],[(4500,.vec A9 2 x1.n (fun i=>A0 (x1.g i)) true)]⟩ [4500] (ids:=[(4500,4500)]) ⟨rfl,rfl,rfl⟩
def Bb (N:Nat)(p_s:Sound):Option Bool:=
 some (((E4 .and .u32 p_s.Plus p_s.Minus)==0)&&((shI .shr .u32 (E4 .or .u32 p_s.Plus p_s.Minus) 24)==0))
theorem TU {N:Nat}{p_s:Sound}{y:Bool}(h:Bb N p_s=some y) :FunO S Kr [.p (.agg (A0 p_s))] [] (pB y) ([]) []:=by
 unfold Bb at h;refine A1 hS Ts ?_;obtain⟨t1,ht1⟩:∃x:Bool,x=(((E4 .and .u32 p_s.Plus p_s.Minus)==0)&&((shI .shr .u32 (E4 .or .u32 p_s.Plus p_s.Minus) 24)==0)):=⟨_,rfl⟩;refine SV hS trivial (A3 hS) 0 ⟨[(2,pB t1)],[]⟩ (fun M1 hb1=>?_) ?_
 ·refine Dg hS trivial (b:=(E4 .and .u32 p_s.Plus p_s.Minus)==0) (fun c2=>?_) (fun c2=>?_)
  ·exact hb1 _ [] _ (by decide:(0:Int)<=24) (hle:=klR [(0,.eq (.bb ((shI .shr .u32 (E4 .or .u32 p_s.Plus p_s.Minus) 24)==0)) (.bb t1))] (al1 (by simp only[ht1,c2,Leaf.ok,pm,if_true,if_false]) al0))
  ·exact hb1 _ [] _ trivial (hle:=klR [(0,.eq (.bb false) (.bb t1))] (al1 (by simp only[ht1,c2,Leaf.ok,pm,if_true,if_false]) al0))
 ·subst ht1;cases h;exact kR hS
def N9 (N:Nat)(p_w:Sl Sound):Option Int:=
 if (decide (32<(p_w.n:Int))) then
  some 11
 else
  R5 N (fun self1 (x1:Int)=>
   if (decide (x1<(p_w.n:Int))) then
    if ((0:Int)<=x1/\x1<(p_w.n:Int))then
     (Bb N (p_w.g x1.toNat)).bind fun y3=>
     if (!y3) then
      some 14
     else
      self1 (wrap .i64 (x1+1))
    else none
   else
    some 0
   ) 0
theorem DL {N:Nat}{p_w:Sl Sound}{y:Int}(h:N9 N p_w=some y) :FunO S Kn [.p (vSl 2 A0 p_w)] [] (pN y) ([]) []:=by
 unfold N9 at h;refine A1 hS Tp ?_;refine kI hS h (fun h=>?_) (fun h=>?_)
 ·cases h;exact kR hS
 ·refine G7 hS trivial h (fun x1=>⟨[(10,pN x1),(9,pN (p_w.n:Int)),(8,.p (vSl 2 A0 p_w))],[]⟩) (ids:=[]) (fun _ _ _ _ _ self1 x1 hb1 h=>?_);refine kI hS h (fun h=>?_) (fun h=>?_)
  ·obtain⟨c9,h⟩:=D2 h;obtain⟨y3,e3,h⟩:=B6 h;refine B8 hS [] (And.intro c9 (by decide:(2:Nat)<=2)) (TU hS hL e3) ?_;refine kI hS h (fun h=>?_) (fun h=>?_)
   ·cases h;exact kR hS
   ·exact hb1 _ [] _ (wrap .i64 (x1+1)) trivial h
  ·cases h;exact kR hS
def E6 (N:Nat)(p_s1:Sl Sound)(p_s2:Sl Sound):Option Bool:=
 if ((p_s1.n:Int) != (p_s2.n:Int)) then
  some false
 else
  R5 N (fun self1 (x1:Int)=>
   if (decide (x1<(p_s1.n:Int))) then
    if (((0:Int)<=x1/\x1<(p_s1.n:Int))/\((0:Int)<=x1/\x1<(p_s2.n:Int)))then
     if ((((p_s1.g x1.toNat).Plus==(p_s2.g x1.toNat).Plus)&&((p_s1.g x1.toNat).Minus==(p_s2.g x1.toNat).Minus)) != true) then
      some false
     else
      self1 (wrap .i64 (x1+1))
    else none
   else
    some true
   ) 0
theorem Ag {N:Nat}{p_s1:Sl Sound}{p_s2:Sl Sound}{y:Bool}(h:E6 N p_s1 p_s2=some y) :FunO S N0 [.p (vSl 2 A0 p_s1),.p (vSl 2 A0 p_s2)] [] (pB y) ([]) []:=by
 unfold E6 at h;refine A1 hS Ac ?_;refine kI hS h (fun h=>?_) (fun h=>?_)
 ·cases h;exact kR hS
 ·refine G7 hS trivial h (fun x1=>⟨[(13,pN x1),(12,pN (p_s1.n:Int)),(1,.p (vSl 2 A0 p_s2)),(0,.p (vSl 2 A0 p_s1))],[]⟩) (ids:=[]) (fun _ _ _ _ _ self1 x1 hb1 h=>?_);refine kI hS h (fun h=>?_) (fun h=>?_)
  ·refine D7 hS trivial [2,3,6,7] ?_;obtain⟨c9,h⟩:=D2 h;refine H5 (And.intro (And.intro (And.intro (And.intro c9.1 (by decide:(2:Nat)<=2)) c9.2) (by decide:(2:Nat)<=2)) (by decide +kernel:Aq8 Tryz.prog A9=true)) ?_;refine kI hS h (fun h=>?_) (fun h=>?_)
   ·cases h;exact kR hS
   ·exact hb1 _ [] _ (wrap .i64 (x1+1)) trivial h
  ·cases h;exact kR hS
def Cn (N:Nat)(p_a:Sl Sound)(p_b:Sl Sound):Option Bool:=
 (E6 N p_a p_b).bind fun y1=>
 some y1
theorem TV {N:Nat}{p_a:Sl Sound}{p_b:Sl Sound}{y:Bool}(h:Cn N p_a p_b=some y) :FunO S Kj [.p (vSl 2 A0 p_a),.p (vSl 2 A0 p_b)] [] (pB y) ([]) []:=by unfold Cn at h;refine A1 hS Ti ?_;refine kC hS h (Ag hS hL) (fun y1 h=>?_);cases h;exact kR hS
def O0 (N:Nat)(p_s:Sound):Option Bool:=
 some (((E4 .and .u32 p_s.Plus p_s.Minus)==0)&&((shI .shr .u32 (E4 .or .u32 p_s.Plus p_s.Minus) 24)==0))
theorem DM {N:Nat}{p_s:Sound}{y:Bool}(h:O0 N p_s=some y) :FunO S Kv [.p (.agg (A0 p_s))] [] (pB y) ([]) []:=by
 unfold O0 at h;refine A1 hS Tx ?_;obtain⟨t1,ht1⟩:∃x:Bool,x=(((E4 .and .u32 p_s.Plus p_s.Minus)==0)&&((shI .shr .u32 (E4 .or .u32 p_s.Plus p_s.Minus) 24)==0)):=⟨_,rfl⟩;refine SV hS trivial (A3 hS) 0 ⟨[(2,pB t1)],[]⟩ (fun M1 hb1=>?_) ?_
 ·refine Dg hS trivial (b:=(E4 .and .u32 p_s.Plus p_s.Minus)==0) (fun c2=>?_) (fun c2=>?_)
  ·exact hb1 _ [] _ (by decide:(0:Int)<=24) (hle:=klR [(0,.eq (.bb ((shI .shr .u32 (E4 .or .u32 p_s.Plus p_s.Minus) 24)==0)) (.bb t1))] (al1 (by simp only[ht1,c2,Leaf.ok,pm,if_true,if_false]) al0))
  ·exact hb1 _ [] _ trivial (hle:=klR [(0,.eq (.bb false) (.bb t1))] (al1 (by simp only[ht1,c2,Leaf.ok,pm,if_true,if_false]) al0))
 ·subst ht1;cases h;exact kR hS
def P0 (N:Nat)(p_n:Int):Option (Nat->Int):=
 S4 N (fun self1 (x1:Nat->Int) (x2:Int)=>
  if (decide (x2<(wrap .i64 (p_n+1)))) then
   if (((0:Int)<=x2/\((0:Int)<=x2/\x2<33))/\(0+x2.toNat*1)<33)then
    self1 (Mc x1 (0+x2.toNat*1) (shI .shl .u64 1 x2)) (wrap .i64 (x2+1))
   else none
  else
   some x1
  ) (fun _=>0) 0
theorem Dn {N:Nat}{p_n:Int}{y:Nat->Int}(h:P0 N p_n=some y) :FunO S Gb [pN p_n] [] (.p (.agg (cA 33 (pI .u64) y))) ([]) []:=by
 unfold P0 at h;refine A1 hS MS ?_;refine F5 hS trivial h (fun x1 x2=>⟨[(7,pN x2),(6,pN (wrap .i64 (p_n+1))),(3,.reg 4000 0),(2,.reg 3000 0)],[(4000,.arr 33 (fun i=>pI .u64 (x1 i))),(3000,.arr 33 (fun i=>pI .u64 ((fun _=>0) i)))]⟩) (ids:=[(3000,3000),(4000,4000)]) (fun _ _ _ _ _ self1 x1 x2 hb1 h=>?_) (hle:=klR [(2,.fn 33 33 (fun i=>[(fun i=>(List.replicate 33 (pI .u64 0)).getD i default) i]) (fun i=>[pI .u64 ((fun _=>0) i)])),(3,.fn 33 33 (fun i=>[(fun i=>(List.replicate 33 (pI .u64 0)).getD i default) i]) (fun i=>[pI .u64 ((fun _=>0) i)]))] (al1 ⟨rfl,BN (z:=pI .u64 0) rfl⟩ (al1 ⟨rfl,BN (z:=pI .u64 0) rfl⟩ al0)));refine kI hS h (fun h=>?_) (fun h=>?_)
 ·obtain⟨c4,h⟩:=D2 h;exact hb1 _ [(3000,3000),(4000,4000)] _ (Mc x1 (0+x2.toNat*1) (shI .shl .u64 1 x2)) (wrap .i64 (x2+1)) c4 h (hle:=klR [(2,.fn 33 33 (fun i=>[(fun i=>if i=(0+x2.toNat*1)then (pI .u64 (shI .shl .u64 1 x2))else (fun i=>pI .u64 (x1 i)) i) i]) (fun i=>[pI .u64 (Mc x1 (0+x2.toNat*1) (shI .shl .u64 1 x2) i)]))] (al1 ⟨rfl,AK1 (c:=pI .u64) (v:=x1) (x:=shI .shl .u64 1 x2) (fun _ _=>rfl) rfl⟩ al0))
 ·obtain rfl:=B7 h;exact A6 hS (And.intro rfl (F2 _ _):(0:Nat)=0/\(Cy 33 (fun i=>pI .u64 (x1 i))).length=33) ⟨[(2,.reg 3000 0)],[(3000,.arr 33 (fun i=>pI .u64 (x1 i)))]⟩ [] (ids:=[(3000,3000)]) ⟨rfl,rfl,rfl⟩ (hle:=klR [(0,.fn 33 33 (fun i=>[(fun i=>(cA 33 (pI .u64) x1).getD i default) i]) (fun i=>[pI .u64 (x1 i)]))] (al1 ⟨rfl,E2 33 (fun i=>pI .u64 (x1 i))⟩ al0))
def K7 (N:Nat)(p_x:Nat->Int)(p_y:Nat->Int):Option (Nat->Int):=
 S4 N (fun self1 (x1:Nat->Int) (x2:Int)=>
  if (decide (x2<33)) then
   if (((0:Int)<=x2/\x2<33)/\(0+x2.toNat*1)<33)then
    if (((((0:Int)<=x2/\x2<33)/\(0+x2.toNat*1)<33)/\((0:Int)<=x2/\x2<33))/\(0+x2.toNat*1)<33)then
     self1 (Mc x1 (0+x2.toNat*1) (E4 .or .u64 (x1 (0+x2.toNat*1)) (p_y (0+x2.toNat*1)))) (wrap .i64 (x2+1))
    else none
   else none
  else
   some x1
  ) p_x 0
theorem DN {N:Nat}{p_x:Nat->Int}{p_y:Nat->Int}{y:Nat->Int}(h:K7 N p_x p_y=some y) :FunO S DJ [.reg 0 0,.reg 1 0] [.arr 33 (fun i=>pI .u64 (p_x i)),.arr 33 (fun i=>pI .u64 (p_y i))] (.tup []) ([.arr 33 (fun i=>pI .u64 (y i)),.arr 33 (fun i=>pI .u64 (p_y i))]) [true,true]:=by
 unfold K7 at h;refine A1 hS IM ?_;refine F5 hS trivial h (fun x1 x2=>⟨[(7,pN x2),(6,.reg 1 0),(0,.reg 0 0)],[(1,.arr 33 (fun i=>pI .u64 (p_y i))),(0,.arr 33 (fun i=>pI .u64 (x1 i)))]⟩) (ids:=[(0,0),(1,1)]) (fun _ _ _ _ _ self1 x1 x2 hb1 h=>?_);refine kI hS h (fun h=>?_) (fun h=>?_)
 ·refine LY hS trivial ?_;obtain⟨c8,h⟩:=D2 h;refine H5 c8 ?_;refine LY hS trivial ?_;obtain⟨c9,h⟩:=D2 h;refine H5 c9 ?_;exact hb1 _ [(0,0),(1,1)] _ (Mc x1 (0+x2.toNat*1) (E4 .or .u64 (x1 (0+x2.toNat*1)) (p_y (0+x2.toNat*1)))) (wrap .i64 (x2+1)) trivial h (hle:=klR [(2,.fn 33 33 (fun i=>[(fun i=>if i=(0+x2.toNat*1)then (pI .u64 (E4 .or .u64 (x1 (0+x2.toNat*1)) (p_y (0+x2.toNat*1))))else (fun i=>pI .u64 (x1 i)) i) i]) (fun i=>[pI .u64 (Mc x1 (0+x2.toNat*1) (E4 .or .u64 (x1 (0+x2.toNat*1)) (p_y (0+x2.toNat*1))) i)]))] (al1 ⟨rfl,AK1 (c:=pI .u64) (v:=x1) (x:=E4 .or .u64 (x1 (0+x2.toNat*1)) (p_y (0+x2.toNat*1))) (fun _ _=>rfl) rfl⟩ al0))
 ·obtain rfl:=B7 h;exact A6 hS trivial ⟨[],[(1,.arr 33 (fun i=>pI .u64 (p_y i))),(0,.arr 33 (fun i=>pI .u64 (x1 i)))]⟩ [0,1] (ids:=[(0,0),(1,1)]) ⟨rfl,rfl,rfl⟩
def Z0 (N:Nat)(p_w:Sl Sound)(p_at:Int):Option Int:=
 if ((decide (p_at<0))||(decide ((p_w.n:Int)<p_at))) then
  some 3
 else
  some 0
theorem IQ {N:Nat}{p_w:Sl Sound}{p_at:Int}{y:Int}(h:Z0 N p_w p_at=some y) :FunO S IK [.p (vSl 2 A0 p_w),pN p_at] [] (pN y) ([]) []:=by
 unfold Z0 at h;refine A1 hS Rn ?_;refine kB hS (A3 hS) trivial trivial 5 (.o (.a (decide (p_at<0))) (.a (decide ((p_w.n:Int)<p_at)))) ?_;refine kI hS h (fun h=>?_) (fun h=>?_)
 ·cases h;exact kR hS
 ·cases h;exact kR hS
def Aq (N:Nat)(p_p:Pat):Option Int:=
 if (if (p_p.Kind==0) then p_p.Kind==0 else (if (p_p.Kind==2) then p_p.Kind==2 else p_p.Kind==6)) then
  lt (fun (z1:Bool)=>
   if z1 then
    some 2
   else
    (O0 N p_p.Is).bind fun y1=>
    if (!y1) then
     some 14
    else
     some 0
   ) fun k1=>
   if (((p_p.Is.Plus==0)&&(p_p.Is.Minus==0)) != true) then
    k1 true
   else
    if p_p.Not then
     k1 true
    else
     if (p_p.Min != 0) then
      k1 true
     else
      if (p_p.Max != 0) then
       k1 true
      else
       k1 (decide (0<(p_p.L.n:Int)))
 else
  if (p_p.Kind==1) then
   lt (fun (z2:Bool)=>
    if z2 then
     some 2
    else
     (O0 N p_p.Is).bind fun y2=>
     if (!y2) then
      some 14
     else
      some 0
    ) fun k2=>
    if (((0==0)&&(0==0)) != true) then
     k2 true
    else
     if (p_p.Min != 0) then
      k2 true
     else
      if (p_p.Max != 0) then
       k2 true
      else
       k2 (decide (0<(p_p.L.n:Int)))
  else
   lt (fun (z3:Int×Int)=>
    if (((((((p_p.Is.Plus==0)&&(p_p.Is.Minus==0)) != true)||p_p.Not)||(z3.1 != 0))||(z3.2 != 0))||(decide (0<0))) then
     some 2
    else
     (O0 N p_p.Is).bind fun y3=>
     if (!y3) then
      some 14
     else
      some 0
    ) fun k3=>
    if (if (p_p.Kind==3) then p_p.Kind==3 else p_p.Kind==4) then
     k3 (p_p.Min,p_p.Max)
    else
     if (p_p.Kind==5) then
      if (((((p_p.L.n:Int) != 1)||(decide (p_p.Min<0)))||(decide (32<p_p.Min)))||((p_p.Max != (-1))&&((decide (p_p.Max<p_p.Min))||(decide (32<p_p.Max))))) then
       some 2
      else
       k3 (0,0)
     else
      some 2
theorem Ox {N:Nat}{p_p:Pat}{y:Int}(h:Aq N p_p=some y) :FunO S Hs [.p (.agg (B1 p_p))] [] (pN y) ([]) []:=by
 unfold Aq at h;refine A1 hS Om ?_;obtain⟨t1,ht1⟩:∃x:Bool,x=(if (p_p.Kind==0) then p_p.Kind==0 else (if (p_p.Kind==2) then p_p.Kind==2 else p_p.Kind==6)):=⟨_,rfl⟩;refine SV hS trivial (A3 hS) 0 ⟨[(8,pB t1),(7,pN p_p.Kind),(3,.reg 4000 0),(1,.reg 2000 0)],[(4000,.cells [pN 0,pU p_p.Is.Plus,pU p_p.Is.Minus,pB p_p.Not,pN p_p.Min,pN p_p.Max,.p (.sl false 7 p_p.L.n (Bf p_p))]),(2000,.cells ((B1 p_p).map .p))]⟩ (fun M1 hb1=>?_) ?_
 ·refine D3 hS trivial (b:=p_p.Kind==0) (fun c3=>?_) (fun c3=>?_)
  ·exact hb1 _ [(2000,2000),(4000,4000)] _ trivial (hle:=klR [(0,.eq (.bb (p_p.Kind==0)) (.bb t1))] (al1 (by simp only[ht1,c3,Leaf.ok,pm,if_true,if_false]) al0))
  ·refine D3 hS trivial (b:=p_p.Kind==2) (fun c4=>?_) (fun c4=>?_)
   ·exact hb1 _ [(2000,2000),(4000,4000)] _ trivial (hle:=klR [(0,.eq (.bb (p_p.Kind==2)) (.bb t1))] (al1 (by simp only[ht1,c3,c4,Leaf.ok,pm,if_true,if_false]) al0))
   ·exact hb1 _ [(2000,2000),(4000,4000)] _ trivial (hle:=klR [(0,.eq (.bb (p_p.Kind==6)) (.bb t1))] (al1 (by simp only[ht1,c3,c4,Leaf.ok,pm,if_true,if_false]) al0))
 ·subst ht1;refine kI hS h (fun h=>?_) (fun h=>?_)
  ·refine FM hS (by decide +kernel:Aq8 Tryz.prog A9=true) (A3 hS) h 0 (fun z1=>⟨[(57,pB z1),(1,.reg 2000 0)],[(2000,.cells ((B1 p_p).map .p))]⟩) (fun M3 k1 hb3 h=>?_) (fun z1 h=>?_)
   ·refine kG hS h (fun h=>?_) (fun h=>?_)
    ·exact hb3 _ [(2000,2000)] _ true trivial h
    ·refine kG hS h (fun h=>?_) (fun h=>?_)
     ·exact hb3 _ [(2000,2000)] _ true trivial h
     ·refine kG hS h (fun h=>?_) (fun h=>?_)
      ·exact hb3 _ [(2000,2000)] _ true trivial h
      ·refine kG hS h (fun h=>?_) (fun h=>?_)
       ·exact hb3 _ [(2000,2000)] _ true trivial h
       ·refine J0 hS trivial 79 ⟨[(78,.p (vSl 7 B1 p_p.L)),(76,.p (.v (.bool false))),(1,.reg 2000 0)],[(2000,.cells ((B1 p_p).map .p))]⟩ (ids:=[(2000,2000)]) ?_ (hle:=klR [(0,.fn p_p.L.n p_p.L.n (Bf p_p) (fun i=>B1 (p_p.L.g i)))] (al1 ⟨rfl,K5 p_p⟩ al0));exact hb3 _ [(2000,2000)] _ (decide (0<(p_p.L.n:Int))) trivial h
   ·refine kI hS h (fun h=>?_) (fun h=>?_)
    ·cases h;exact kR hS
    ·refine kC hS h (DM hS hL) (fun y1 h=>?_);refine kI hS h (fun h=>?_) (fun h=>?_)
     ·cases h;exact kR hS
     ·cases h;exact kR hS
  ·refine kI hS h (fun h=>?_) (fun h=>?_)
   ·refine FM hS (by decide +kernel:Aq8 Tryz.prog A9=true) (A3 hS) h 0 (fun z2=>⟨[(57,pB z2),(1,.reg 2000 0)],[(2000,.cells ((B1 p_p).map .p))]⟩) (fun M5 k2 hb5 h=>?_) (fun z2 h=>?_)
    ·refine kG hS h (fun h=>?_) (fun h=>?_)
     ·exact hb5 _ [(2000,2000)] _ true trivial h
     ·refine Dg hS trivial (b:=false) (fun c54=>?_) (fun c54=>?_)
      ·exact Bool.noConfusion ((rfl:false=false).symm.trans c54)
      ·refine kG hS h (fun h=>?_) (fun h=>?_)
       ·exact hb5 _ [(2000,2000)] _ true trivial h
       ·refine kG hS h (fun h=>?_) (fun h=>?_)
        ·exact hb5 _ [(2000,2000)] _ true trivial h
        ·refine J0 hS trivial 79 ⟨[(78,.p (vSl 7 B1 p_p.L)),(76,.p (.v (.bool false))),(1,.reg 2000 0)],[(2000,.cells ((B1 p_p).map .p))]⟩ (ids:=[(2000,2000)]) ?_ (hle:=klR [(0,.fn p_p.L.n p_p.L.n (Bf p_p) (fun i=>B1 (p_p.L.g i)))] (al1 ⟨rfl,K5 p_p⟩ al0));exact hb5 _ [(2000,2000)] _ (decide (0<(p_p.L.n:Int))) trivial h
    ·refine kI hS h (fun h=>?_) (fun h=>?_)
     ·cases h;exact kR hS
     ·refine kC hS h (DM hS hL) (fun y2 h=>?_);refine kI hS h (fun h=>?_) (fun h=>?_)
      ·cases h;exact kR hS
      ·cases h;exact kR hS
   ·obtain⟨t4,ht4⟩:∃x:Bool,x=(if (p_p.Kind==3) then p_p.Kind==3 else p_p.Kind==4):=⟨_,rfl⟩;refine SV hS trivial (A3 hS) 0 ⟨[(17,pB t4),(7,pN p_p.Kind),(3,.reg 4000 0),(1,.reg 2000 0)],[(4000,.cells [pN 0,pU p_p.Is.Plus,pU p_p.Is.Minus,pB p_p.Not,pN p_p.Min,pN p_p.Max,.p (.sl false 7 p_p.L.n (Bf p_p))]),(2000,.cells ((B1 p_p).map .p))]⟩ (fun M6 hb6=>?_) ?_
    ·refine D3 hS trivial (b:=p_p.Kind==3) (fun c60=>?_) (fun c60=>?_)
     ·exact hb6 _ [(2000,2000),(4000,4000)] _ trivial (hle:=klR [(0,.eq (.bb (p_p.Kind==3)) (.bb t4))] (al1 (by simp only[ht4,c60,Leaf.ok,pm,if_true,if_false]) al0))
     ·exact hb6 _ [(2000,2000),(4000,4000)] _ trivial (hle:=klR [(0,.eq (.bb (p_p.Kind==4)) (.bb t4))] (al1 (by simp only[ht4,c60,Leaf.ok,pm,if_true,if_false]) al0))
    ·subst ht4;refine FM hS trivial (A3 hS) h 0 (fun z3=>⟨[(3,.reg 4000 0),(1,.reg 2000 0)],[(4000,.cells [pN 0,pU p_p.Is.Plus,pU p_p.Is.Minus,pB p_p.Not,pN z3.1,pN z3.2,.p J2]),(2000,.cells ((B1 p_p).map .p))]⟩) (fun M7 k3 hb7 h=>?_) (fun z3 h=>?_)
     ·refine kI hS h (fun h=>?_) (fun h=>?_)
      ·exact hb7 _ [(2000,2000),(4000,4000)] _ (p_p.Min,p_p.Max) trivial h
      ·refine kI hS h (fun h=>?_) (fun h=>?_)
       ·refine J0 hS trivial 25 ⟨[(24,.p (vSl 7 B1 p_p.L)),(3,.reg 4000 0),(1,.reg 2000 0)],[(4000,.cells [pN 0,pU p_p.Is.Plus,pU p_p.Is.Minus,pB p_p.Not,pN p_p.Min,pN p_p.Max,.p (.sl false 7 p_p.L.n (Bf p_p))]),(2000,.cells ((B1 p_p).map .p))]⟩ (ids:=[(2000,2000),(4000,4000)]) ?_ (hle:=klR [(0,.fn p_p.L.n p_p.L.n (Bf p_p) (fun i=>B1 (p_p.L.g i)))] (al1 ⟨rfl,K5 p_p⟩ al0));refine kB hS (A3 hS) trivial trivial 26 (.o (.o (.o (.a ((p_p.L.n:Int) != 1)) (.a (decide (p_p.Min<0)))) (.a (decide (32<p_p.Min)))) (.n (.a (p_p.Max != (-1))) (.o (.a (decide (p_p.Max<p_p.Min))) (.a (decide (32<p_p.Max)))))) ?_;refine kI hS h (fun h=>?_) (fun h=>?_)
        ·cases h;exact kR hS
        ·exact hb7 _ [(2000,2000),(4000,4000)] _ (0,0) trivial h
       ·cases h;exact kR hS
     ·refine kB hS (A3 hS) (by decide +kernel:Aq8 Tryz.prog A9=true) trivial 19 (.o (.o (.o (.o (.a (((p_p.Is.Plus==0)&&(p_p.Is.Minus==0)) != true)) (.a p_p.Not)) (.a (z3.1 != 0))) (.a (z3.2 != 0))) (.a (decide (0<0)))) ?_;refine kI hS h (fun h=>?_) (fun h=>?_)
      ·cases h;exact kR hS
      ·refine kC hS h (DM hS hL) (fun y3 h=>?_);refine kI hS h (fun h=>?_) (fun h=>?_)
       ·cases h;exact kR hS
       ·cases h;exact kR hS
def Ew (N:Nat)(p_p:Pat):Option Int:=
 if ((decide (p_p.Kind<0))||(decide (6<p_p.Kind))) then
  some 2
 else
  if ((p_p.Kind != 1)&&((((p_p.Is.Plus==0)&&(p_p.Is.Minus==0)) != true)||p_p.Not)) then
   some 2
  else
   lt (fun (z1:Bool)=>
    if z1 then
     some 2
    else
     if ((p_p.Kind != 5)&&((p_p.Min != 0)||(p_p.Max != 0))) then
      some 2
     else
      lt (fun (z2:Bool)=>
       if z2 then
        some 2
       else
        (Q7 N p_p.Is).bind fun y1=>
        if (!y1) then
         some 14
        else
         some 0
       ) fun k2=>
       if (p_p.Kind==5) then
        if ((p_p.L.n:Int) != 1) then
         k2 true
        else
         if (decide (p_p.Min<0)) then
          k2 true
         else
          if (decide (32<p_p.Min)) then
           k2 true
          else
           if (p_p.Max != (-1)) then
            if (decide (p_p.Max<p_p.Min)) then
             k2 true
            else
             k2 (decide (32<p_p.Max))
           else
            k2 false
       else
        k2 false
    ) fun k1=>
    if (p_p.Kind != 3) then
     if (p_p.Kind != 4) then
      if (p_p.Kind != 5) then
       k1 (decide (0<(p_p.L.n:Int)))
      else
       k1 false
     else
      k1 false
    else
     k1 false
theorem ZS {N:Nat}{p_p:Pat}{y:Int}(h:Ew N p_p=some y) :FunO S PI [.p (.agg (B1 p_p))] [] (pN y) ([]) []:=by
 unfold Ew at h;refine A1 hS ZF ?_;refine kB hS (A3 hS) trivial trivial 4 (.o (.a (decide (p_p.Kind<0))) (.a (decide (6<p_p.Kind)))) ?_;refine kI hS h (fun h=>?_) (fun h=>?_)
 ·cases h;exact kR hS
 ·obtain⟨t1,ht1⟩:∃x:Bool,x=((p_p.Kind != 1)&&((((p_p.Is.Plus==0)&&(p_p.Is.Minus==0)) != true)||p_p.Not)):=⟨_,rfl⟩;refine SV hS trivial (A3 hS) 0 ⟨[(23,pB t1),(1,.reg 2000 0)],[(2000,.cells ((B1 p_p).map .p))]⟩ (fun M1 hb1=>?_) ?_
  ·refine Dg hS trivial (b:=p_p.Kind != 1) (fun c4=>?_) (fun c4=>?_)
   ·refine Dg hS (by decide +kernel:Aq8 Tryz.prog A9=true) (b:=((p_p.Is.Plus==0)&&(p_p.Is.Minus==0)) != true) (fun c5=>?_) (fun c5=>?_)
    ·exact hb1 _ [(2000,2000)] _ trivial (hle:=klR [(0,.eq (.bb true) (.bb t1))] (al1 (by simp only[ht1,c4,c5,Leaf.ok,pm,if_true,if_false]) al0))
    ·exact hb1 _ [(2000,2000)] _ trivial (hle:=klR [(0,.eq (.bb p_p.Not) (.bb t1))] (al1 (by simp only[ht1,c4,c5,Leaf.ok,pm,if_true,if_false]) al0))
   ·exact hb1 _ [(2000,2000)] _ trivial (hle:=klR [(0,.eq (.bb false) (.bb t1))] (al1 (by simp only[ht1,c4,Leaf.ok,pm,if_true,if_false]) al0))
  ·subst ht1;refine kI hS h (fun h=>?_) (fun h=>?_)
   ·cases h;exact kR hS
   ·refine FM hS trivial (A3 hS) h 0 (fun z1=>⟨[(42,pB z1),(1,.reg 2000 0)],[(2000,.cells ((B1 p_p).map .p))]⟩) (fun M2 k1 hb2 h=>?_) (fun z1 h=>?_)
    ·refine kG hS h (fun h=>?_) (fun h=>?_)
     ·refine kG hS h (fun h=>?_) (fun h=>?_)
      ·refine kG hS h (fun h=>?_) (fun h=>?_)
       ·refine J0 hS trivial 40 ⟨[(39,.p (vSl 7 B1 p_p.L)),(37,.p (.v (.bool true))),(1,.reg 2000 0)],[(2000,.cells ((B1 p_p).map .p))]⟩ (ids:=[(2000,2000)]) ?_ (hle:=klR [(0,.fn p_p.L.n p_p.L.n (Bf p_p) (fun i=>B1 (p_p.L.g i)))] (al1 ⟨rfl,K5 p_p⟩ al0));exact hb2 _ [(2000,2000)] _ (decide (0<(p_p.L.n:Int))) trivial h
       ·exact hb2 _ [(2000,2000)] _ false trivial h
      ·exact hb2 _ [(2000,2000)] _ false trivial h
     ·exact hb2 _ [(2000,2000)] _ false trivial h
    ·refine kI hS h (fun h=>?_) (fun h=>?_)
     ·cases h;exact kR hS
     ·refine kB hS (A3 hS) trivial trivial 9 (.n (.a (p_p.Kind != 5)) (.o (.a (p_p.Min != 0)) (.a (p_p.Max != 0)))) ?_;refine kI hS h (fun h=>?_) (fun h=>?_)
      ·cases h;exact kR hS
      ·refine FM hS trivial (A3 hS) h 0 (fun z2=>⟨[(91,pB z2),(1,.reg 2000 0)],[(2000,.cells ((B1 p_p).map .p))]⟩) (fun M3 k2 hb3 h=>?_) (fun z2 h=>?_)
       ·refine kG hS h (fun h=>?_) (fun h=>?_)
        ·refine J0 hS trivial 62 ⟨[(61,.p (vSl 7 B1 p_p.L)),(59,.p (.v (.bool true))),(1,.reg 2000 0)],[(2000,.cells ((B1 p_p).map .p))]⟩ (ids:=[(2000,2000)]) ?_ (hle:=klR [(0,.fn p_p.L.n p_p.L.n (Bf p_p) (fun i=>B1 (p_p.L.g i)))] (al1 ⟨rfl,K5 p_p⟩ al0));refine kG hS h (fun h=>?_) (fun h=>?_)
         ·exact hb3 _ [(2000,2000)] _ true trivial h
         ·refine kG hS h (fun h=>?_) (fun h=>?_)
          ·exact hb3 _ [(2000,2000)] _ true trivial h
          ·refine kG hS h (fun h=>?_) (fun h=>?_)
           ·exact hb3 _ [(2000,2000)] _ true trivial h
           ·refine kG hS h (fun h=>?_) (fun h=>?_)
            ·refine kG hS h (fun h=>?_) (fun h=>?_)
             ·exact hb3 _ [(2000,2000)] _ true trivial h
             ·exact hb3 _ [(2000,2000)] _ (decide (32<p_p.Max)) trivial h
            ·exact hb3 _ [(2000,2000)] _ false trivial h
        ·exact hb3 _ [(2000,2000)] _ false trivial h
       ·refine kI hS h (fun h=>?_) (fun h=>?_)
        ·cases h;exact kR hS
        ·refine kC hS h (MY hS hL) (fun y1 h=>?_);refine kI hS h (fun h=>?_) (fun h=>?_)
         ·cases h;exact kR hS
         ·cases h;exact kR hS
def Dp (N:Nat)(p_s:Sound)(p_cond:Sound):Option Bool:=
 some (((E4 .and .u32 p_s.Plus p_cond.Plus)==p_cond.Plus)&&((E4 .and .u32 p_s.Minus p_cond.Minus)==p_cond.Minus))
theorem MZ {N:Nat}{p_s:Sound}{p_cond:Sound}{y:Bool}(h:Dp N p_s p_cond=some y) :FunO S FY [.p (.agg (A0 p_s)),.p (.agg (A0 p_cond))] [] (pB y) ([]) []:=by unfold Dp at h;refine A1 hS MO ?_;refine kB hS (A3 hS) trivial trivial 9 (.n (.a ((E4 .and .u32 p_s.Plus p_cond.Plus)==p_cond.Plus)) (.a ((E4 .and .u32 p_s.Minus p_cond.Minus)==p_cond.Minus))) ?_;cases h;exact kR hS
def CR (N:Nat)(p_n:Int):Option (Sl Int):=
 if ((0:Int)<=(wrap .i64 (p_n+1))/\(wrap .i64 (p_n+1))<=(wrap .i64 (p_n+1))/\(wrap .i64 (p_n+1))*8<=140737488355328/\(wrap .i64 (p_n+1))<=140737488355328)then
  S4 N (fun self1 (x1:Sl Int) (x2:Int)=>
   if (decide (x2<=p_n)) then
    if (((0:Int)<=x2/\((0:Int)<=x2/\x2<(x1.n:Int)))/\x2.toNat<x1.n)then
     self1 (x1.upd x2.toNat (shI .shl .u64 1 x2)) (wrap .i64 (x2+1))
    else none
   else
    some x1
   ) (Sl.rep (wrap .i64 (p_n+1)).toNat 0:Sl Int) 0
 else none
theorem PT {N:Nat}{p_n:Int}{y:Sl Int}(h:CR N p_n=some y) :FunO S PO [pN p_n] [] (.vec 0) ([.vec E5 1 y.n (fun i=>cI .u64 (y.g i)) true]) []:=by
 unfold CR at h;refine A1 hS ZL ?_;obtain⟨c1,h⟩:=D2 h;refine F5 hS c1 h (fun x1 x2=>⟨[(4,pN x2),(3,.vec 8000),(0,pN p_n)],[(8000,.vec E5 1 x1.n (fun i=>cI .u64 (x1.g i)) false)]⟩) (ids:=[(8000,8000)]) (fun _ _ _ _ _ self1 x1 x2 hb1 h=>?_);refine kI hS h (fun h=>?_) (fun h=>?_)
 ·obtain⟨c5,h⟩:=D2 h;exact hb1 _ [(8000,8000)] _ (x1.upd x2.toNat (shI .shl .u64 1 x2)) (wrap .i64 (x2+1)) (And.intro (And.intro c5.1.1 c5.1.2) (And.intro (rfl:(1:Nat)=1) (And.intro c5.2 (by decide:(1:Nat)<=1)))) h (hle:=klR [(2,.fn x1.n (x1.upd x2.toNat (shI .shl .u64 1 x2)).n (fun l=>if l=x2.toNat then splice ((fun i=>cI .u64 (x1.g i)) l) 0 [pI .u64 (shI .shl .u64 1 x2)]else (fun i=>cI .u64 (x1.g i)) l) (fun i=>cI .u64 ((x1.upd x2.toNat (shI .shl .u64 1 x2)).g i)))] (al1 ⟨rfl,Av0 (c:=cI .u64) (v:=x1) (x:=shI .shl .u64 1 x2) same (fun _=>by first|rfl|(dsimp only;split<;>rfl))⟩ al0))
 ·obtain rfl:=B7 h;exact A6 hS trivial ⟨[(2,.vec 8000)],[(8000,.vec E5 1 x1.n (fun i=>cI .u64 (x1.g i)) true)]⟩ [8000] (ids:=[(8000,8000)]) ⟨rfl,rfl,rfl⟩
def W2 (N:Nat)(p_x:Sl Int)(p_y:Sl Int):Option (Sl Int):=
 if ((0:Int)<=(p_x.n:Int)/\(p_x.n:Int)<=(p_x.n:Int)/\(p_x.n:Int)*8<=140737488355328/\(p_x.n:Int)<=140737488355328)then
  S4 N (fun self3 (x3:Sl Int) (x4:Int)=>
   if (decide (x4<(p_x.n:Int))) then
    S4 N (fun self4 (x7:Sl Int) (x8:Int)=>
     if (decide (x8<(p_y.n:Int))) then
      if (((0:Int)<=x4/\x4<(p_x.n:Int))/\(0:Int)<=x8)then
       if ((E4 .and .u64 (shI .shr .u64 (p_x.g x4.toNat) x8) 1)==1) then
        if ((((((0:Int)<=x4/\x4<(x7.n:Int))/\x4.toNat<x7.n)/\((0:Int)<=x8/\x8<(p_y.n:Int)))/\((0:Int)<=x4/\x4<(x7.n:Int)))/\x4.toNat<x7.n)then
         self4 (x7.upd x4.toNat (E4 .or .u64 (x7.g x4.toNat) (p_y.g x8.toNat))) (wrap .i64 (x8+1))
        else none
       else
        self4 x7 (wrap .i64 (x8+1))
      else none
     else
      self3 x7 (wrap .i64 (x4+1))
     ) x3 0
   else
    some x3
   ) (Sl.rep (p_x.n:Int).toNat 0:Sl Int) 0
 else none
theorem Gd {N:Nat}{p_x:Sl Int}{p_y:Sl Int}{y:Sl Int}(h:W2 N p_x p_y=some y) :FunO S KA [.p (vSl 1 (cI .u64) p_x),.p (vSl 1 (cI .u64) p_y)] [] (.vec 0) ([.vec E5 1 y.n (fun i=>cI .u64 (y.g i)) true]) []:=by
 unfold W2 at h;refine A1 hS TL ?_;obtain⟨c1,h⟩:=D2 h;refine F5 hS c1 h (fun x3 x4=>⟨[(6,pN x4),(5,.vec 11000),(1,.p (vSl 1 (cI .u64) p_y)),(0,.p (vSl 1 (cI .u64) p_x))],[(11000,.vec E5 1 x3.n (fun i=>cI .u64 (x3.g i)) false)]⟩) (ids:=[(11000,11000)]) (fun _ _ _ _ _ self3 x3 x4 hb3 h=>?_);refine kI hS h (fun h=>?_) (fun h=>?_)
 ·refine F5 hS trivial h (fun x7 x8=>⟨[(7,pN x8),(6,pN x4),(5,.vec 11000),(1,.p (vSl 1 (cI .u64) p_y)),(0,.p (vSl 1 (cI .u64) p_x))],[(11000,.vec E5 1 x7.n (fun i=>cI .u64 (x7.g i)) false)]⟩) (ids:=[(11000,11000)]) (fun _ _ _ _ _ self4 x7 x8 hb4 h=>?_);refine kI hS h (fun h=>?_) (fun h=>?_)
  ·obtain⟨c38,h⟩:=D2 h;refine D3 hS c38 (b:=(E4 .and .u64 (shI .shr .u64 (p_x.g x4.toNat) x8) 1)==1) (fun c39=>?_) (fun c39=>?_)
   ·replace h:=itT c39 h;refine D7 hS trivial [8,9] ?_;obtain⟨c40,h⟩:=D2 h;refine H5 (And.intro (And.intro (And.intro (And.intro c40.1.1.1.1 c40.1.1.1.2) c40.1.1.2) c40.1.2) (And.intro (rfl:(1:Nat)=1) (And.intro c40.2 (by decide:(1:Nat)<=1)))) ?_;exact hb4 _ [(11000,11000)] _ (x7.upd x4.toNat (E4 .or .u64 (x7.g x4.toNat) (p_y.g x8.toNat))) (wrap .i64 (x8+1)) trivial h (hle:=klR [(4,.fn x7.n (x7.upd x4.toNat (E4 .or .u64 (x7.g x4.toNat) (p_y.g x8.toNat))).n (fun l=>if l=x4.toNat then splice ((fun i=>cI .u64 (x7.g i)) l) 0 [pI .u64 (E4 .or .u64 (x7.g x4.toNat) (p_y.g x8.toNat))]else (fun i=>cI .u64 (x7.g i)) l) (fun i=>cI .u64 ((x7.upd x4.toNat (E4 .or .u64 (x7.g x4.toNat) (p_y.g x8.toNat))).g i)))] (al1 ⟨rfl,Av0 (c:=cI .u64) (v:=x7) (x:=E4 .or .u64 (x7.g x4.toNat) (p_y.g x8.toNat)) same (fun _=>by first|rfl|(dsimp only;split<;>rfl))⟩ al0))
   ·replace h:=itF c39 h;exact hb4 _ [(11000,11000)] _ x7 (wrap .i64 (x8+1)) trivial h
  ·exact hb3 _ [(11000,11000)] _ x7 (wrap .i64 (x4+1)) trivial h
 ·obtain rfl:=B7 h;exact A6 hS trivial ⟨[(4,.vec 11000)],[(11000,.vec E5 1 x3.n (fun i=>cI .u64 (x3.g i)) true)]⟩ [11000] (ids:=[(11000,11000)]) ⟨rfl,rfl,rfl⟩
def CS (N:Nat)(p_x:Sl Int)(p_y:Sl Int):Option (Sl Int):=
 if ((0:Int)<=(p_x.n:Int)/\(p_x.n:Int)<=(p_x.n:Int)/\(p_x.n:Int)*8<=140737488355328/\(p_x.n:Int)<=140737488355328)then
  S4 N (fun self1 (x1:Sl Int) (x2:Int)=>
   if (decide (x2<(p_x.n:Int))) then
    if (((((0:Int)<=x2/\x2<(p_x.n:Int))/\((0:Int)<=x2/\x2<(p_y.n:Int)))/\((0:Int)<=x2/\x2<(x1.n:Int)))/\x2.toNat<x1.n)then
     self1 (x1.upd x2.toNat (E4 .or .u64 (p_x.g x2.toNat) (p_y.g x2.toNat))) (wrap .i64 (x2+1))
    else none
   else
    some x1
   ) (Sl.rep (p_x.n:Int).toNat 0:Sl Int) 0
 else none
theorem PU {N:Nat}{p_x:Sl Int}{p_y:Sl Int}{y:Sl Int}(h:CS N p_x p_y=some y) :FunO S PP [.p (vSl 1 (cI .u64) p_x),.p (vSl 1 (cI .u64) p_y)] [] (.vec 0) ([.vec E5 1 y.n (fun i=>cI .u64 (y.g i)) true]) []:=by
 unfold CS at h;refine A1 hS ZM ?_;obtain⟨c1,h⟩:=D2 h;refine F5 hS c1 h (fun x1 x2=>⟨[(6,pN x2),(5,.vec 10000),(1,.p (vSl 1 (cI .u64) p_y)),(0,.p (vSl 1 (cI .u64) p_x))],[(10000,.vec E5 1 x1.n (fun i=>cI .u64 (x1.g i)) false)]⟩) (ids:=[(10000,10000)]) (fun _ _ _ _ _ self1 x1 x2 hb1 h=>?_);refine kI hS h (fun h=>?_) (fun h=>?_)
 ·refine D7 hS trivial [4,5,8,9] ?_;obtain⟨c7,h⟩:=D2 h;refine H5 (And.intro (And.intro (And.intro c7.1.1.1 c7.1.1.2) c7.1.2) (And.intro (rfl:(1:Nat)=1) (And.intro c7.2 (by decide:(1:Nat)<=1)))) ?_;exact hb1 _ [(10000,10000)] _ (x1.upd x2.toNat (E4 .or .u64 (p_x.g x2.toNat) (p_y.g x2.toNat))) (wrap .i64 (x2+1)) trivial h (hle:=klR [(3,.fn x1.n (x1.upd x2.toNat (E4 .or .u64 (p_x.g x2.toNat) (p_y.g x2.toNat))).n (fun l=>if l=x2.toNat then splice ((fun i=>cI .u64 (x1.g i)) l) 0 [pI .u64 (E4 .or .u64 (p_x.g x2.toNat) (p_y.g x2.toNat))]else (fun i=>cI .u64 (x1.g i)) l) (fun i=>cI .u64 ((x1.upd x2.toNat (E4 .or .u64 (p_x.g x2.toNat) (p_y.g x2.toNat))).g i)))] (al1 ⟨rfl,Av0 (c:=cI .u64) (v:=x1) (x:=E4 .or .u64 (p_x.g x2.toNat) (p_y.g x2.toNat)) same (fun _=>by first|rfl|(dsimp only;split<;>rfl))⟩ al0))
 ·obtain rfl:=B7 h;exact A6 hS trivial ⟨[(4,.vec 10000)],[(10000,.vec E5 1 x1.n (fun i=>cI .u64 (x1.g i)) true)]⟩ [10000] (ids:=[(10000,10000)]) ⟨rfl,rfl,rfl⟩
def Dq (N:Nat)(p_x:Sl Int)(p_y:Sl Int):Option Bool:=
 R5 N (fun self1 (x1:Int)=>
  if (decide (x1<(p_x.n:Int))) then
   if (((0:Int)<=x1/\x1<(p_x.n:Int))/\((0:Int)<=x1/\x1<(p_y.n:Int)))then
    if ((p_x.g x1.toNat) != (p_y.g x1.toNat)) then
     some false
    else
     self1 (wrap .i64 (x1+1))
   else none
  else
   some true
  ) 0
theorem Wp {N:Nat}{p_x:Sl Int}{p_y:Sl Int}{y:Bool}(h:Dq N p_x p_y=some y) :FunO S MP [.p (vSl 1 (cI .u64) p_x),.p (vSl 1 (cI .u64) p_y)] [] (pB y) ([]) []:=by
 unfold Dq at h;refine A1 hS Wf ?_;refine G7 hS trivial h (fun x1=>⟨[(5,pN x1),(1,.p (vSl 1 (cI .u64) p_y)),(0,.p (vSl 1 (cI .u64) p_x))],[]⟩) (ids:=[]) (fun _ _ _ _ _ self1 x1 hb1 h=>?_);refine kI hS h (fun h=>?_) (fun h=>?_)
 ·refine D7 hS trivial [2,3,6,7] ?_;obtain⟨c8,h⟩:=D2 h;refine H5 c8 ?_;refine kI hS h (fun h=>?_) (fun h=>?_)
  ·cases h;exact kR hS
  ·exact hb1 _ [] _ (wrap .i64 (x1+1)) trivial h
 ·cases h;exact kR hS
end Go.AM
namespace Go.AM
open IntKind (wrap)
open Go.Proofs
set_option maxRecDepth 10000
set_option maxHeartbeats 2000000
variable {S:Bd}(hS:G6 S Tryz.prog) (hL:RY S)
include hS hL
def Bs (rec:Pat->Int->Option Int)(N:Nat)(p_p:Pat)(p_before:Int):Option Int:=
 S4 N (fun self1 (x1:Int) (x2:Int)=>
  if ((decide (x2<(p_p.L.n:Int)))&&(decide (x1<=40))) then
   if ((0:Int)<=x2/\x2<(p_p.L.n:Int))then
    (rec (p_p.L.g x2.toNat) x1).bind fun y3=>
    self1 y3 (wrap .i64 (x2+1))
   else none
  else
   some x1
  ) (wrap .i64 (p_before+1)) 0
def AQ:Nat->Pat->Int->Option Int
 |0=>fun _ _=>none
 |N+1=>Bs (AQ N) N
theorem TW {N:Nat}{rec:Pat->Int->Option Int}(hrec:∀{p_p:Pat}{p_before:Int}{y:Int},rec p_p p_before=some y->FunO S ES [.p (.agg (B1 p_p)),pN p_before] [] (pN y) ([]) []){p_p:Pat}{p_before:Int}{y:Int}(h:Bs rec N p_p p_before=some y) :FunO S ES [.p (.agg (B1 p_p)),pN p_before] [] (pN y) ([]) []:=by
 unfold Bs at h;refine A1 hS VD ?_;refine F5 hS trivial h (fun x1 x2=>⟨[(6,pN x2),(5,pN x1),(2,.reg 3000 0)],[(3000,.cells ((B1 p_p).map .p))]⟩) (ids:=[(3000,3000)]) (fun _ _ _ _ _ self1 x1 x2 hb1 h=>?_);refine J0 hS trivial 12 ⟨[(11,.p (vSl 7 B1 p_p.L)),(9,pN x2),(6,pN x2),(5,pN x1),(2,.reg 3000 0)],[(3000,.cells ((B1 p_p).map .p))]⟩ (ids:=[(3000,3000)]) ?_ (hle:=klR [(0,.fn p_p.L.n p_p.L.n (Bf p_p) (fun i=>B1 (p_p.L.g i)))] (al1 ⟨rfl,K5 p_p⟩ al0));refine kB hS (A3 hS) trivial trivial 3 (.n (.a (decide (x2<(p_p.L.n:Int)))) (.a (decide (x1<=40)))) ?_;refine kI hS h (fun h=>?_) (fun h=>?_)
 ·refine J0 hS trivial 23 ⟨[(22,pN x2),(21,.p (vSl 7 B1 p_p.L)),(6,pN x2),(5,pN x1),(2,.reg 3000 0)],[(3000,.cells ((B1 p_p).map .p))]⟩ (ids:=[(3000,3000)]) ?_ (hle:=klR [(1,.fn p_p.L.n p_p.L.n (Bf p_p) (fun i=>B1 (p_p.L.g i)))] (al1 ⟨rfl,K5 p_p⟩ al0));obtain⟨c6,h⟩:=D2 h;obtain⟨y3,e3,h⟩:=B6 h;refine B8 hS [] (And.intro c6 (by decide:(7:Nat)<=7)) (hrec e3) ?_;exact hb1 _ [(3000,3000)] _ y3 (wrap .i64 (x2+1)) trivial h
 ·cases h;exact kR hS
theorem Wq {N:Nat}{p_p:Pat}{p_before:Int}{y:Int}(h:AQ N p_p p_before=some y) :FunO S ES [.p (.agg (B1 p_p)),pN p_before] [] (pN y) ([]) []:=by
 induction N generalizing p_p p_before y with
 |zero=>cases (show (none:Option Int)=some y from h)
 |succ N ih=>exact TW hS hL (fun e=>ih e) h
def Ex (N:Nat)(p_p:Pat):Option Int:=
 (AQ N p_p 0).bind fun y1=>
 some y1
theorem ZT {N:Nat}{p_p:Pat}{y:Int}(h:Ex N p_p=some y) :FunO S Py [.p (.agg (B1 p_p))] [] (pN y) ([]) []:=by unfold Ex at h;refine A1 hS Zu ?_;refine kC hS h (Wq hS hL) (fun y1 h=>?_);cases h;exact kR hS
def W3 (rec:Pat->Option Int)(N:Nat)(p_p:Pat):Option Int:=
 S4 N (fun self1 (x1:Int) (x2:Int)=>
  if (decide (x2<(p_p.L.n:Int))) then
   if ((0:Int)<=x2/\x2<(p_p.L.n:Int))then
    (rec (p_p.L.g x2.toNat)).bind fun y3=>
    self1 (wrap .i64 (x1+y3)) (wrap .i64 (x2+1))
   else none
  else
   some x1
  ) (if (p_p.Kind==5) then 1 else 0) 0
def Z1:Nat->Pat->Option Int
 |0=>fun _=>none
 |N+1=>W3 (Z1 N) N
theorem Oy {N:Nat}{rec:Pat->Option Int}(hrec:∀{p_p:Pat}{y:Int},rec p_p=some y->FunO S CK [.p (.agg (B1 p_p))] [] (pN y) ([]) []){p_p:Pat}{y:Int}(h:W3 rec N p_p=some y) :FunO S CK [.p (.agg (B1 p_p))] [] (pN y) ([]) []:=by
 unfold W3 at h;refine A1 hS QZ ?_;obtain⟨t1,ht1⟩:∃x:Int,x=(if (p_p.Kind==5) then 1 else 0):=⟨_,rfl⟩;refine SV hS trivial (A3 hS) 0 ⟨[(3,pN t1),(1,.reg 2000 0)],[(2000,.cells ((B1 p_p).map .p))]⟩ (fun M1 hb1=>?_) ?_
 ·refine D3 hS trivial (b:=p_p.Kind==5) (fun c2=>?_) (fun c2=>?_)
  ·exact hb1 _ [(2000,2000)] _ trivial (hle:=klR [(0,.eq (pI .i64 1) (pI .i64 t1))] (al1 (by simp only[ht1,c2,Leaf.ok,pm,if_true,if_false]) al0))
  ·exact hb1 _ [(2000,2000)] _ trivial (hle:=klR [(0,.eq (pI .i64 0) (pI .i64 t1))] (al1 (by simp only[ht1,c2,Leaf.ok,pm,if_true,if_false]) al0))
 ·subst ht1;refine F5 hS trivial h (fun x1 x2=>⟨[(4,pN x2),(3,pN x1),(1,.reg 2000 0)],[(2000,.cells ((B1 p_p).map .p))]⟩) (ids:=[(2000,2000)]) (fun _ _ _ _ _ self1 x1 x2 hb2 h=>?_);refine J0 hS trivial 11 ⟨[(10,.p (vSl 7 B1 p_p.L)),(8,pN x2),(4,pN x2),(3,pN x1),(1,.reg 2000 0)],[(2000,.cells ((B1 p_p).map .p))]⟩ (ids:=[(2000,2000)]) ?_ (hle:=klR [(0,.fn p_p.L.n p_p.L.n (Bf p_p) (fun i=>B1 (p_p.L.g i)))] (al1 ⟨rfl,K5 p_p⟩ al0));refine kI hS h (fun h=>?_) (fun h=>?_)
  ·refine J0 hS trivial 19 ⟨[(18,pN x2),(17,.p (vSl 7 B1 p_p.L)),(15,pN x1),(4,pN x2),(1,.reg 2000 0)],[(2000,.cells ((B1 p_p).map .p))]⟩ (ids:=[(2000,2000)]) ?_ (hle:=klR [(1,.fn p_p.L.n p_p.L.n (Bf p_p) (fun i=>B1 (p_p.L.g i)))] (al1 ⟨rfl,K5 p_p⟩ al0));obtain⟨c8,h⟩:=D2 h;obtain⟨y3,e3,h⟩:=B6 h;refine B8 hS [] (And.intro c8 (by decide:(7:Nat)<=7)) (hrec e3) ?_;exact hb2 _ [(2000,2000)] _ (wrap .i64 (x1+y3)) (wrap .i64 (x2+1)) trivial h
  ·cases h;exact kR hS
theorem Rv {N:Nat}{p_p:Pat}{y:Int}(h:Z1 N p_p=some y) :FunO S CK [.p (.agg (B1 p_p))] [] (pN y) ([]) []:=by
 induction N generalizing p_p y with
 |zero=>cases (show (none:Option Int)=some y from h)
 |succ N ih=>exact Oy hS hL (fun e=>ih e) h
def CT (N:Nat)(p_laws:Sl Law):Option Int:=
 S4 N (fun self3 (x3:Int) (x4:Int)=>
  if ((decide (x4<(p_laws.n:Int)))&&(decide (x4<=300))) then
   if (((0:Int)<=x4/\x4<(p_laws.n:Int))/\((0:Int)<=x4/\x4<(p_laws.n:Int)))then
    S4 N (fun self4 (x7:Int) (x8:Int)=>
     if (decide (x8<((Sl.of [(p_laws.g x4.toNat).Left,(p_laws.g x4.toNat).Right]:Sl Pat).n:Int))) then
      if ((0:Int)<=x8/\x8<((Sl.of [(p_laws.g x4.toNat).Left,(p_laws.g x4.toNat).Right]:Sl Pat).n:Int))then
       (Ex N ((Sl.of [(p_laws.g x4.toNat).Left,(p_laws.g x4.toNat).Right]:Sl Pat).g x8.toNat)).bind fun y17=>
       if (decide (y17<=40)) then
        (Z1 N ((Sl.of [(p_laws.g x4.toNat).Left,(p_laws.g x4.toNat).Right]:Sl Pat).g x8.toNat)).bind fun y18=>
        self4 (wrap .i64 (x7+y18)) (wrap .i64 (x8+1))
       else
        self4 x7 (wrap .i64 (x8+1))
      else none
     else
      self3 (if x3<x7 then x7 else x3) (wrap .i64 (x4+1))
     ) 0 0
   else none
  else
   some x3
  ) 0 0
theorem ZU {N:Nat}{p_laws:Sl Law}{y:Int}(h:CT N p_laws=some y) :FunO S Pw [.p (vSl 18 A5 p_laws)] [] (pN y) ([]) []:=by
 unfold CT at h;refine A1 hS Zs ?_;refine F5 hS trivial h (fun x3 x4=>⟨[(4,pN x4),(3,pN x3),(0,.p (vSl 18 A5 p_laws))],[]⟩) (ids:=[]) (fun _ _ _ _ _ self3 x3 x4 hb3 h=>?_);refine kB hS (A3 hS) trivial trivial 3 (.n (.a (decide (x4<(p_laws.n:Int)))) (.a (decide (x4<=300)))) ?_;refine kI hS h (fun h=>?_) (fun h=>?_)
 ·refine D7 hS trivial [2,4,7,9] ?_;obtain⟨c24,h⟩:=D2 h;refine EN (And.intro (And.intro (And.intro c24.1 (by decide:(7:Nat)<=17)) c24.2) (by decide:(7:Nat)<=10)) (x:=.sl true 7 2 (D4 [pI .i64 0,pI .u32 0,pI .u32 0,.v (.bool false),pI .i64 0,pI .i64 0,J2] [(0,B1 (p_laws.g x4.toNat).Left),(1,B1 (p_laws.g x4.toNat).Right)])) ?_;refine H5 trivial ?_;refine F5 hS trivial h (fun x7 x8=>⟨[(30,pN x8),(29,pN ((Sl.of [(p_laws.g x4.toNat).Left,(p_laws.g x4.toNat).Right]:Sl Pat).n:Int)),(28,.p (vSl 7 B1 (Sl.of [(p_laws.g x4.toNat).Left,(p_laws.g x4.toNat).Right]:Sl Pat))),(5,pN x7),(4,pN x4),(3,pN x3),(0,.p (vSl 18 A5 p_laws))],[]⟩) (ids:=[]) (fun _ _ _ _ _ self4 x7 x8 hb4 h=>?_) (hle:=klR [(2,.fn 2 (Sl.of [(p_laws.g x4.toNat).Left,(p_laws.g x4.toNat).Right]:Sl Pat).n (D4 [pI .i64 0,pI .u32 0,pI .u32 0,.v (.bool false),pI .i64 0,pI .i64 0,J2] [(0,B1 (p_laws.g x4.toNat).Left),(1,B1 (p_laws.g x4.toNat).Right)]) (fun i=>B1 ((Sl.of [(p_laws.g x4.toNat).Left,(p_laws.g x4.toNat).Right]:Sl Pat).g i)))] (al1 ⟨rfl,(fun i hi=>match i,hi with|0,_=>rfl|1,_=>rfl|_+2,hi=>absurd hi (by omega))⟩ al0));refine kI hS h (fun h=>?_) (fun h=>?_)
  ·obtain⟨c32,h⟩:=D2 h;refine J3 hS (And.intro c32 (by decide:(7:Nat)<=7)) 34 8000 (B1 ((Sl.of [(p_laws.g x4.toNat).Left,(p_laws.g x4.toNat).Right]:Sl Pat).g x8.toNat)) ?_;obtain⟨y17,e17,h⟩:=B6 h;refine B8 hS [] (by decide:(7:Nat)<=7) (ZT hS hL e17) ?_;refine kI hS h (fun h=>?_) (fun h=>?_)
   ·obtain⟨y18,e18,h⟩:=B6 h;refine B8 hS [] (by decide:(7:Nat)<=7) (Rv hS hL e18) ?_;exact hb4 _ [] _ (wrap .i64 (x7+y18)) (wrap .i64 (x8+1)) trivial h
   ·exact hb4 _ [] _ x7 (wrap .i64 (x8+1)) trivial h
  ·exact hb3 _ [] _ (if x3<x7 then x7 else x3) (wrap .i64 (x4+1)) trivial h
 ·cases h;exact kR hS
def W4 (rec:Pat->Int->Option (Int×Int))(N:Nat)(p_p:Pat)(p_before:Int):Option (Int×Int):=
 if (p_before==40) then
  some (p_before,12)
 else
  (Ew N p_p).bind fun y1=>
  if (y1 != 0) then
   some (p_before,y1)
  else
   S4 N (fun self1 (x1:Int) (x2:Int)=>
    if (decide (x2<(p_p.L.n:Int))) then
     if ((0:Int)<=x2/\x2<(p_p.L.n:Int))then
      (rec (p_p.L.g x2.toNat) x1).bind fun y4=>
      if (y4.2 != 0) then
       some (y4.1,y4.2)
      else
       self1 y4.1 (wrap .i64 (x2+1))
     else none
    else
     some (x1,0)
    ) (wrap .i64 (p_before+1)) 0
def CU:Nat->Pat->Int->Option (Int×Int)
 |0=>fun _ _=>none
 |N+1=>W4 (CU N) N
theorem Wr {N:Nat}{rec:Pat->Int->Option (Int×Int)}(hrec:∀{p_p:Pat}{p_before:Int}{y:Int×Int},rec p_p p_before=some y->FunO S GE [.p (.agg (B1 p_p)),pN p_before] [] (.tup [pN y.1,pN y.2]) ([]) []){p_p:Pat}{p_before:Int}{y:Int×Int}(h:W4 rec N p_p p_before=some y) :FunO S GE [.p (.agg (B1 p_p)),pN p_before] [] (.tup [pN y.1,pN y.2]) ([]) []:=by
 unfold W4 at h;refine A1 hS ZE ?_;refine kI hS h (fun h=>?_) (fun h=>?_)
 ·cases h;exact kR hS
 ·refine kC hS h (ZS hS hL) (fun y1 h=>?_);refine kI hS h (fun h=>?_) (fun h=>?_)
  ·cases h;exact kR hS
  ·refine F5 hS trivial h (fun x1 x2=>⟨[(8,pN x2),(7,pN x1),(2,.reg 3000 0)],[(3000,.cells ((B1 p_p).map .p))]⟩) (ids:=[(3000,3000)]) (fun _ _ _ _ _ self1 x1 x2 hb1 h=>?_);refine J0 hS trivial 23 ⟨[(22,.p (vSl 7 B1 p_p.L)),(20,pN x2),(8,pN x2),(7,pN x1),(2,.reg 3000 0)],[(3000,.cells ((B1 p_p).map .p))]⟩ (ids:=[(3000,3000)]) ?_ (hle:=klR [(0,.fn p_p.L.n p_p.L.n (Bf p_p) (fun i=>B1 (p_p.L.g i)))] (al1 ⟨rfl,K5 p_p⟩ al0));refine kI hS h (fun h=>?_) (fun h=>?_)
   ·refine J0 hS trivial 31 ⟨[(30,pN x2),(29,.p (vSl 7 B1 p_p.L)),(8,pN x2),(7,pN x1),(2,.reg 3000 0)],[(3000,.cells ((B1 p_p).map .p))]⟩ (ids:=[(3000,3000)]) ?_ (hle:=klR [(1,.fn p_p.L.n p_p.L.n (Bf p_p) (fun i=>B1 (p_p.L.g i)))] (al1 ⟨rfl,K5 p_p⟩ al0));obtain⟨c10,h⟩:=D2 h;obtain⟨y4,e4,h⟩:=B6 h;refine B8 hS [] (And.intro c10 (by decide:(7:Nat)<=7)) (hrec e4) ?_;refine kI hS h (fun h=>?_) (fun h=>?_)
    ·cases h;exact kR hS
    ·exact hb1 _ [(3000,3000)] _ y4.1 (wrap .i64 (x2+1)) trivial h
   ·cases h;exact kR hS
theorem ZV {N:Nat}{p_p:Pat}{p_before:Int}{y:Int×Int}(h:CU N p_p p_before=some y) :FunO S GE [.p (.agg (B1 p_p)),pN p_before] [] (.tup [pN y.1,pN y.2]) ([]) []:=by
 induction N generalizing p_p p_before y with
 |zero=>cases (show (none:Option (Int×Int))=some y from h)
 |succ N ih=>exact Wr hS hL (fun e=>ih e) h
def AR (N:Nat)(p_p:Pat):Option Int:=
 (CU N p_p 0).bind fun y1=>
 some y1.2
theorem HM {N:Nat}{p_p:Pat}{y:Int}(h:AR N p_p=some y) :FunO S MB [.p (.agg (B1 p_p))] [] (pN y) ([]) []:=by unfold AR at h;refine A1 hS VR ?_;refine kC hS h (ZV hS hL) (fun y1 h=>?_);cases h;exact kR hS
def BR (N:Nat)(p_s:Str):Option Bool:=
 R5 N (fun self1 (x1:Int)=>
  if (decide (x1<(p_s.length:Int))) then
   if ((0:Int)<=x1/\x1<(p_s.length:Int))then
    if (!(((((decide (97<=(Z8 p_s x1)))&&(decide ((Z8 p_s x1)<=122)))||((decide (65<=(Z8 p_s x1)))&&(decide ((Z8 p_s x1)<=90))))||((decide (48<=(Z8 p_s x1)))&&(decide ((Z8 p_s x1)<=57))))||((Z8 p_s x1)==45))) then
     some false
    else
     self1 (wrap .i64 (x1+1))
   else none
  else
   some ((decide (1<=(p_s.length:Int)))&&(decide ((p_s.length:Int)<=24)))
  ) 0
theorem ZW {N:Nat}{p_s:Str}{y:Bool}(h:BR N p_s=some y) :FunO S PF [.p (.str p_s)] [] (pB y) ([]) []:=by
 unfold BR at h;refine A1 hS ZB ?_;refine G7 hS trivial h (fun x1=>⟨[(3,pN x1),(0,.p (.str p_s))],[]⟩) (ids:=[]) (fun _ _ _ _ _ self1 x1 hb1 h=>?_);refine kI hS h (fun h=>?_) (fun h=>?_)
 ·obtain⟨c8,h⟩:=D2 h;refine kB hS (A3 hS) c8 trivial 23 (.o (.o (.o (.n (.a (decide (97<=(Z8 p_s x1)))) (.a (decide ((Z8 p_s x1)<=122)))) (.n (.a (decide (65<=(Z8 p_s x1)))) (.a (decide ((Z8 p_s x1)<=90))))) (.n (.a (decide (48<=(Z8 p_s x1)))) (.a (decide ((Z8 p_s x1)<=57))))) (.a ((Z8 p_s x1)==45))) ?_;refine kI hS h (fun h=>?_) (fun h=>?_)
  ·cases h;exact kR hS
  ·exact hb1 _ [] _ (wrap .i64 (x1+1)) trivial h
 ·refine kB hS (A3 hS) trivial trivial 4 (.n (.a (decide (1<=(p_s.length:Int)))) (.a (decide ((p_s.length:Int)<=24)))) ?_;cases h;exact kR hS
def Ey (N:Nat)(p_x:Bj)(p_k:Int):Option Bool:=
 lt (fun (z1:Bool)=>
  if z1 then
   some false
  else
   if ((((E4 .and .u32 p_x.Clear (E4 .or .u32 p_x.Set.Plus p_x.Set.Minus)) != 0)||((E4 .and .u32 p_x.Take (E4 .or .u32 p_x.Set.Plus p_x.Set.Minus)) != 0))||((E4 .and .u32 p_x.Take p_x.Clear) != 0)) then
    some false
   else
    if (p_x.Take==0) then
     some (p_x.Of==0)
    else
     some ((decide (0<=p_x.Of))&&(decide (p_x.Of<p_k)))
  ) fun k1=>
  if (decide (p_x.From<(-1))) then
   k1 true
  else
   if (decide (p_k<=p_x.From)) then
    k1 true
   else
    (H4 N p_x.Set).bind fun y2=>
    if (!y2) then
     k1 true
    else
     if ((E4 .andNot .u32 p_x.Clear 16777215) != 0) then
      k1 true
     else
      k1 ((E4 .andNot .u32 p_x.Take 16777215) != 0)
theorem ZX {N:Nat}{p_x:Bj}{p_k:Int}{y:Bool}(h:Ey N p_x p_k=some y) :FunO S PG [.p (.agg (O7 p_x)),pN p_k] [] (pB y) ([]) []:=by
 unfold Ey at h;refine A1 hS ZC ?_;refine FM hS trivial (A3 hS) h 0 (fun z1=>⟨[(32,pB z1),(2,.reg 3000 0),(1,pN p_k)],[(3000,.cells ((O7 p_x).map .p))]⟩) (fun M1 k1 hb1 h=>?_) (fun z1 h=>?_)
 ·refine kG hS h (fun h=>?_) (fun h=>?_)
  ·exact hb1 _ [(3000,3000)] _ true trivial h
  ·refine kG hS h (fun h=>?_) (fun h=>?_)
   ·exact hb1 _ [(3000,3000)] _ true trivial h
   ·refine kC hS h (T0 hS hL) (fun y2 h=>?_);refine kG hS h (fun h=>?_) (fun h=>?_)
    ·exact hb1 _ [(3000,3000)] _ true trivial h
    ·refine kG hS h (fun h=>?_) (fun h=>?_)
     ·exact hb1 _ [(3000,3000)] _ true trivial h
     ·exact hb1 _ [(3000,3000)] _ ((E4 .andNot .u32 p_x.Take 16777215) != 0) trivial h
 ·refine kI hS h (fun h=>?_) (fun h=>?_)
  ·cases h;exact kR hS
  ·refine kB hS (A3 hS) trivial trivial 14 (.o (.o (.a ((E4 .and .u32 p_x.Clear (E4 .or .u32 p_x.Set.Plus p_x.Set.Minus)) != 0)) (.a ((E4 .and .u32 p_x.Take (E4 .or .u32 p_x.Set.Plus p_x.Set.Minus)) != 0))) (.a ((E4 .and .u32 p_x.Take p_x.Clear) != 0))) ?_;refine kI hS h (fun h=>?_) (fun h=>?_)
   ·cases h;exact kR hS
   ·refine kI hS h (fun h=>?_) (fun h=>?_)
    ·cases h;exact kR hS
    ·refine kB hS (A3 hS) trivial trivial 5 (.n (.a (decide (0<=p_x.Of))) (.a (decide (p_x.Of<p_k)))) ?_;cases h;exact kR hS
def W5 (N:Nat)(p_l:Law):Option Int:=
 (BR N p_l.Name).bind fun y1=>
 lt (fun (z1:Bool)=>
  if z1 then
   some 17
  else
   if (((((decide (4<(p_l.If.n:Int)))||(decide (6<(p_l.Out.n:Int))))||((wrap .i64 ((p_l.If.n:Int)+(p_l.Out.n:Int)))==0))||(decide (p_l.Mode<1)))||(decide (3<p_l.Mode))) then
    some 17
   else
    R5 N (fun self1 (x2:Int)=>
     if (decide (x2<(p_l.If.n:Int))) then
      if ((0:Int)<=x2/\x2<(p_l.If.n:Int))then
       (H4 N (p_l.If.g x2.toNat)).bind fun y8=>
       if (!y8) then
        some 17
       else
        self1 (wrap .i64 (x2+1))
      else none
     else
      R5 N (fun self2 (x3:Int)=>
       if (decide (x3<(p_l.Out.n:Int))) then
        if ((0:Int)<=x3/\x3<(p_l.Out.n:Int))then
         (Ey N (p_l.Out.g x3.toNat) (p_l.If.n:Int)).bind fun y11=>
         if (!y11) then
          some 17
         else
          self2 (wrap .i64 (x3+1))
        else none
       else
        some 0
       ) 0
     ) 0
  ) fun k1=>
  if (!y1) then
   k1 true
  else
   (AR N p_l.Left).bind fun y4=>
   if (y4 != 0) then
    k1 true
   else
    (AR N p_l.Right).bind fun y5=>
    k1 (y5 != 0)
theorem HN {N:Nat}{p_l:Law}{y:Int}(h:W5 N p_l=some y) :FunO S Mt [.p (.agg (A5 p_l))] [] (pN y) ([]) []:=by
 unfold W5 at h;refine A1 hS VK ?_;refine J3 hS trivial 2 2000 (A5 p_l) ?_;refine kC hS h (ZW hS hL) (fun y1 h=>?_);refine FM hS trivial (A3 hS) h 0 (fun z1=>⟨[(20,pB z1),(1,.p (.ptr (A5 p_l)))],[]⟩) (fun M1 k1 hb1 h=>?_) (fun z1 h=>?_)
 ·refine kG hS h (fun h=>?_) (fun h=>?_)
  ·exact hb1 _ [] _ true trivial h
  ·obtain⟨y4,e4,h⟩:=B6 h;refine B8 hS [] (by decide:(7:Nat)<=17) (HM hS hL e4) ?_;refine kG hS h (fun h=>?_) (fun h=>?_)
   ·exact hb1 _ [] _ true trivial h
   ·obtain⟨y5,e5,h⟩:=B6 h;refine B8 hS [] (by decide:(7:Nat)<=10) (HM hS hL e5) ?_;exact hb1 _ [] _ (y5 != 0) trivial h
 ·refine kI hS h (fun h=>?_) (fun h=>?_)
  ·cases h;exact kR hS
  ·refine kB hS (A3 hS) trivial trivial 25 (.o (.o (.o (.o (.a (decide (4<(p_l.If.n:Int)))) (.a (decide (6<(p_l.Out.n:Int))))) (.a ((wrap .i64 ((p_l.If.n:Int)+(p_l.Out.n:Int)))==0))) (.a (decide (p_l.Mode<1)))) (.a (decide (3<p_l.Mode)))) ?_;refine kI hS h (fun h=>?_) (fun h=>?_)
   ·cases h;exact kR hS
   ·refine G7 hS trivial h (fun x2=>⟨[(3,pN x2),(1,.p (.ptr (A5 p_l)))],[]⟩) (ids:=[]) (fun _ _ _ _ _ self1 x2 hb2 h=>?_);refine kI hS h (fun h=>?_) (fun h=>?_)
    ·obtain⟨c15,h⟩:=D2 h;obtain⟨y8,e8,h⟩:=B6 h;refine B8 hS [] (And.intro c15 (by decide:(2:Nat)<=2)) (T0 hS hL e8) ?_;refine kI hS h (fun h=>?_) (fun h=>?_)
     ·cases h;exact kR hS
     ·exact hb2 _ [] _ (wrap .i64 (x2+1)) trivial h
    ·refine G7 hS trivial h (fun x3=>⟨[(4,pN x3),(1,.p (.ptr (A5 p_l)))],[]⟩) (ids:=[]) (fun _ _ _ _ _ self2 x3 hb3 h=>?_);refine kI hS h (fun h=>?_) (fun h=>?_)
     ·refine D7 hS trivial [1,3,4,6,8] ?_;obtain⟨c24,h⟩:=D2 h;obtain⟨y11,e11,h⟩:=B6 h;refine U6 (And.intro c24 (by decide:(6:Nat)<=6)) (ZX hS hL e11) ?_;refine H5 trivial ?_;refine kI hS h (fun h=>?_) (fun h=>?_)
      ·cases h;exact kR hS
      ·exact hb3 _ [] _ (wrap .i64 (x3+1)) trivial h
     ·cases h;exact kR hS
def BS (N:Nat)(p_laws:Sl Law):Option Int:=
 if (decide (64<(p_laws.n:Int))) then
  some 12
 else
  R5 N (fun self1 (x1:Int)=>
   if (decide (x1<(p_laws.n:Int))) then
    if ((0:Int)<=x1/\x1<(p_laws.n:Int))then
     (W5 N (p_laws.g x1.toNat)).bind fun y3=>
     if (y3 != 0) then
      some 17
     else
      self1 (wrap .i64 (x1+1))
    else none
   else
    some 0
   ) 0
theorem Ws {N:Nat}{p_laws:Sl Law}{y:Int}(h:BS N p_laws=some y) :FunO S Mn [.p (vSl 18 A5 p_laws)] [] (pN y) ([]) []:=by
 unfold BS at h;refine A1 hS VE ?_;refine kI hS h (fun h=>?_) (fun h=>?_)
 ·cases h;exact kR hS
 ·refine G7 hS trivial h (fun x1=>⟨[(3,pN x1),(0,.p (vSl 18 A5 p_laws))],[]⟩) (ids:=[]) (fun _ _ _ _ _ self1 x1 hb1 h=>?_);refine kI hS h (fun h=>?_) (fun h=>?_)
  ·obtain⟨c9,h⟩:=D2 h;obtain⟨y3,e3,h⟩:=B6 h;refine B8 hS [] (And.intro c9 (by decide:(18:Nat)<=18)) (HN hS hL e3) ?_;refine kI hS h (fun h=>?_) (fun h=>?_)
   ·cases h;exact kR hS
   ·exact hb1 _ [] _ (wrap .i64 (x1+1)) trivial h
  ·cases h;exact kR hS
def Fb (N:Nat)(p_l:Law)(p_w:Sl Sound):Option Int:=
 (W5 N p_l).bind fun y1=>
 if (y1 != 0) then
  some y1
 else
  (W1 N p_w).bind fun y2=>
  some y2
theorem Wt {N:Nat}{p_l:Law}{p_w:Sl Sound}{y:Int}(h:Fb N p_l p_w=some y) :FunO S MI [.p (.agg (A5 p_l)),.p (vSl 2 A0 p_w)] [] (pN y) ([]) []:=by
 unfold Fb at h;refine A1 hS VY ?_;refine kC hS h (HN hS hL) (fun y1 h=>?_);refine kI hS h (fun h=>?_) (fun h=>?_)
 ·cases h;exact kR hS
 ·refine kC hS h (EZ hS hL) (fun y2 h=>?_);cases h;exact kR hS
def CV (N:Nat)(p_p:Pat)(p_w:Sl Sound):Option Int:=
 (AR N p_p).bind fun y1=>
 if (y1==0) then
  (W1 N p_w).bind fun y2=>
  some y2
 else
  some y1
theorem PW {N:Nat}{p_p:Pat}{p_w:Sl Sound}{y:Int}(h:CV N p_p p_w=some y) :FunO S PN [.p (.agg (B1 p_p)),.p (vSl 2 A0 p_w)] [] (pN y) ([]) []:=by
 unfold CV at h;refine A1 hS ZK ?_;refine kC hS h (HM hS hL) (fun y1 h=>?_);refine kI hS h (fun h=>?_) (fun h=>?_)
 ·refine kC hS h (EZ hS hL) (fun y2 h=>?_);cases h;exact kR hS
 ·cases h;exact kR hS
def Bt (rec:Pat->(Sl Sound)->Option (Sl Int))(N:Nat)(p_p:Pat)(p_w:Sl Sound):Option (Sl Int):=
 if ((0:Int)<=(wrap .i64 ((p_w.n:Int)+1))/\(wrap .i64 ((p_w.n:Int)+1))<=(wrap .i64 ((p_w.n:Int)+1))/\(wrap .i64 ((p_w.n:Int)+1))*8<=140737488355328/\(wrap .i64 ((p_w.n:Int)+1))<=140737488355328)then
  S4 N (fun self1 (x1:Sl Int) (x2:Int)=>
   if (decide (x2<=(p_w.n:Int))) then
    if (p_p.Kind==0) then
     if (((0:Int)<=x2/\((0:Int)<=x2/\x2<(x1.n:Int)))/\x2.toNat<x1.n)then
      self1 (x1.upd x2.toNat (shI .shl .u64 1 x2)) (wrap .i64 (x2+1))
     else none
    else
     if (p_p.Kind==1) then
      if (decide (x2<(p_w.n:Int))) then
       if ((0:Int)<=x2/\x2<(p_w.n:Int))then
        (Dp N (p_w.g x2.toNat) p_p.Is).bind fun y3=>
        if ((y3==p_p.Not) != true) then
         if (((0:Int)<=(wrap .i64 (x2+1))/\((0:Int)<=x2/\x2<(x1.n:Int)))/\x2.toNat<x1.n)then
          self1 (x1.upd x2.toNat (shI .shl .u64 1 (wrap .i64 (x2+1)))) (wrap .i64 (x2+1))
         else none
        else
         self1 x1 (wrap .i64 (x2+1))
       else none
      else
       self1 x1 (wrap .i64 (x2+1))
     else
      if (p_p.Kind==2) then
       if (x2==0) then
        if (((0:Int)<=x2/\x2<(x1.n:Int))/\x2.toNat<x1.n)then
         self1 (x1.upd x2.toNat 1) (wrap .i64 (x2+1))
        else none
       else
        self1 x1 (wrap .i64 (x2+1))
      else
       if (p_p.Kind==6) then
        if (x2==(p_w.n:Int)) then
         if (((0:Int)<=x2/\((0:Int)<=x2/\x2<(x1.n:Int)))/\x2.toNat<x1.n)then
          self1 (x1.upd x2.toNat (shI .shl .u64 1 x2)) (wrap .i64 (x2+1))
         else none
        else
         self1 x1 (wrap .i64 (x2+1))
       else
        self1 x1 (wrap .i64 (x2+1))
   else
    if (p_p.Kind==3) then
     (CR N (p_w.n:Int)).bind fun y4=>
     S4 N (fun self2 (x3:Sl Int) (x4:Int)=>
      if (decide (x4<(p_p.L.n:Int))) then
       if ((0:Int)<=x4/\x4<(p_p.L.n:Int))then
        (rec (p_p.L.g x4.toNat) p_w).bind fun y9=>
        (W2 N x3 y9).bind fun y10=>
        self2 y10 (wrap .i64 (x4+1))
       else none
      else
       some x3
      ) y4 0
    else
     if (p_p.Kind==4) then
      S4 N (fun self3 (x5:Sl Int) (x6:Int)=>
       if (decide (x6<(p_p.L.n:Int))) then
        if ((0:Int)<=x6/\x6<(p_p.L.n:Int))then
         (rec (p_p.L.g x6.toNat) p_w).bind fun y15=>
         (CS N x5 y15).bind fun y16=>
         self3 y16 (wrap .i64 (x6+1))
        else none
       else
        some x5
       ) x1 0
     else
      if (p_p.Kind==5) then
       if ((0:Int)<=0/\0<(p_p.L.n:Int))then
        (rec (p_p.L.g 0) p_w).bind fun y17=>
        (CR N (p_w.n:Int)).bind fun y18=>
        AI6 N (fun self4 (x8:Sl Int) (x9:Sl Int) (x10:Int)=>
         if (decide (p_p.Min<=x10)) then
          (CS N x8 x9).bind fun y29=>
          lt (fun (z3:Bool)=>
           if z3 then
            some y29
           else
            (W2 N x9 y17).bind fun y32=>
            self4 y29 y32 (wrap .i64 (x10+1))
           ) fun k3=>
           if (x10==p_p.Max) then
            k3 true
           else
            if (decide (p_p.Min<x10)) then
             (Dq N x8 y29).bind fun y31=>
             k3 y31
            else
             k3 false
         else
          (W2 N x9 y17).bind fun y33=>
          self4 x8 y33 (wrap .i64 (x10+1))
         ) x1 y18 0
       else none
      else
       some x1
   ) (Sl.rep (wrap .i64 ((p_w.n:Int)+1)).toNat 0:Sl Int) 0
 else none
def BU:Nat->Pat->(Sl Sound)->Option (Sl Int)
 |0=>fun _ _=>none
 |N+1=>Bt (BU N) N
theorem TX {N:Nat}{rec:Pat->(Sl Sound)->Option (Sl Int)}(hrec:∀{p_p:Pat}{p_w:Sl Sound}{y:Sl Int},rec p_p p_w=some y->FunO S EU [.p (.agg (B1 p_p)),.p (vSl 2 A0 p_w)] [] (.vec 0) ([.vec E5 1 y.n (fun i=>cI .u64 (y.g i)) true]) []){p_p:Pat}{p_w:Sl Sound}{y:Sl Int}(h:Bt rec N p_p p_w=some y) :FunO S EU [.p (.agg (B1 p_p)),.p (vSl 2 A0 p_w)] [] (.vec 0) ([.vec E5 1 y.n (fun i=>cI .u64 (y.g i)) true]) []:=by
 unfold Bt at h;refine A1 hS We ?_;refine J3 hS trivial 4 3000 (B1 p_p) ?_;obtain⟨c1,h⟩:=D2 h;refine F5 hS c1 h (fun x1 x2=>⟨[(7,pN x2),(6,.vec 19000),(5,pN (p_w.n:Int)),(2,.p (.ptr (B1 p_p))),(1,.p (vSl 2 A0 p_w))],[(19000,.vec E5 1 x1.n (fun i=>cI .u64 (x1.g i)) false)]⟩) (ids:=[(19000,19000)]) (fun _ _ _ _ _ self1 x1 x2 hb1 h=>?_);refine kI hS h (fun h=>?_) (fun h=>?_)
 ·refine kI hS h (fun h=>?_) (fun h=>?_)
  ·obtain⟨c24,h⟩:=D2 h;exact hb1 _ [(19000,19000)] _ (x1.upd x2.toNat (shI .shl .u64 1 x2)) (wrap .i64 (x2+1)) (And.intro (And.intro c24.1.1 c24.1.2) (And.intro (rfl:(1:Nat)=1) (And.intro c24.2 (by decide:(1:Nat)<=1)))) h (hle:=klR [(4,.fn x1.n (x1.upd x2.toNat (shI .shl .u64 1 x2)).n (fun l=>if l=x2.toNat then splice ((fun i=>cI .u64 (x1.g i)) l) 0 [pI .u64 (shI .shl .u64 1 x2)]else (fun i=>cI .u64 (x1.g i)) l) (fun i=>cI .u64 ((x1.upd x2.toNat (shI .shl .u64 1 x2)).g i)))] (al1 ⟨rfl,Av0 (c:=cI .u64) (v:=x1) (x:=shI .shl .u64 1 x2) same (fun _=>by first|rfl|(dsimp only;split<;>rfl))⟩ al0))
  ·refine kI hS h (fun h=>?_) (fun h=>?_)
   ·refine D7 hS trivial [6,7,9,10,12] ?_;refine LZ trivial (b:=decide (x2<(p_w.n:Int))) (fun c26=>?_) (fun c26=>?_)
    ·replace h:=itT c26 h;obtain⟨c27,h⟩:=D2 h;obtain⟨y3,e3,h⟩:=B6 h;refine U6 (And.intro (And.intro c27 (by decide:(2:Nat)<=2)) (by decide:(2:Nat)<=6)) (MZ hS hL e3) ?_;refine H5 trivial ?_;refine kI hS h (fun h=>?_) (fun h=>?_)
     ·obtain⟨c29,h⟩:=D2 h;exact hb1 _ [(19000,19000)] _ (x1.upd x2.toNat (shI .shl .u64 1 (wrap .i64 (x2+1)))) (wrap .i64 (x2+1)) (And.intro (And.intro c29.1.1 c29.1.2) (And.intro (rfl:(1:Nat)=1) (And.intro c29.2 (by decide:(1:Nat)<=1)))) h (hle:=klR [(4,.fn x1.n (x1.upd x2.toNat (shI .shl .u64 1 (wrap .i64 (x2+1)))).n (fun l=>if l=x2.toNat then splice ((fun i=>cI .u64 (x1.g i)) l) 0 [pI .u64 (shI .shl .u64 1 (wrap .i64 (x2+1)))]else (fun i=>cI .u64 (x1.g i)) l) (fun i=>cI .u64 ((x1.upd x2.toNat (shI .shl .u64 1 (wrap .i64 (x2+1)))).g i)))] (al1 ⟨rfl,Av0 (c:=cI .u64) (v:=x1) (x:=shI .shl .u64 1 (wrap .i64 (x2+1))) same (fun _=>by first|rfl|(dsimp only;split<;>rfl))⟩ al0))
     ·exact hb1 _ [(19000,19000)] _ x1 (wrap .i64 (x2+1)) trivial h
    ·replace h:=itF c26 h;refine H5 trivial ?_;exact hb1 _ [(19000,19000)] _ x1 (wrap .i64 (x2+1)) trivial h
   ·refine kI hS h (fun h=>?_) (fun h=>?_)
    ·refine kI hS h (fun h=>?_) (fun h=>?_)
     ·obtain⟨c32,h⟩:=D2 h;exact hb1 _ [(19000,19000)] _ (x1.upd x2.toNat 1) (wrap .i64 (x2+1)) (And.intro c32.1 (And.intro (rfl:(1:Nat)=1) (And.intro c32.2 (by decide:(1:Nat)<=1)))) h (hle:=klR [(4,.fn x1.n (x1.upd x2.toNat 1).n (fun l=>if l=x2.toNat then splice ((fun i=>cI .u64 (x1.g i)) l) 0 [pI .u64 1]else (fun i=>cI .u64 (x1.g i)) l) (fun i=>cI .u64 ((x1.upd x2.toNat 1).g i)))] (al1 ⟨rfl,Av0 (c:=cI .u64) (v:=x1) (x:=1) same (fun _=>by first|rfl|(dsimp only;split<;>rfl))⟩ al0))
     ·exact hb1 _ [(19000,19000)] _ x1 (wrap .i64 (x2+1)) trivial h
    ·refine kI hS h (fun h=>?_) (fun h=>?_)
     ·refine kI hS h (fun h=>?_) (fun h=>?_)
      ·obtain⟨c35,h⟩:=D2 h;exact hb1 _ [(19000,19000)] _ (x1.upd x2.toNat (shI .shl .u64 1 x2)) (wrap .i64 (x2+1)) (And.intro (And.intro c35.1.1 c35.1.2) (And.intro (rfl:(1:Nat)=1) (And.intro c35.2 (by decide:(1:Nat)<=1)))) h (hle:=klR [(4,.fn x1.n (x1.upd x2.toNat (shI .shl .u64 1 x2)).n (fun l=>if l=x2.toNat then splice ((fun i=>cI .u64 (x1.g i)) l) 0 [pI .u64 (shI .shl .u64 1 x2)]else (fun i=>cI .u64 (x1.g i)) l) (fun i=>cI .u64 ((x1.upd x2.toNat (shI .shl .u64 1 x2)).g i)))] (al1 ⟨rfl,Av0 (c:=cI .u64) (v:=x1) (x:=shI .shl .u64 1 x2) same (fun _=>by first|rfl|(dsimp only;split<;>rfl))⟩ al0))
      ·exact hb1 _ [(19000,19000)] _ x1 (wrap .i64 (x2+1)) trivial h
     ·exact hb1 _ [(19000,19000)] _ x1 (wrap .i64 (x2+1)) trivial h
 ·refine kI hS h (fun h=>?_) (fun h=>?_)
  ·refine kC hS h (PT hS hL) (fun y4 h=>?_);refine F5 hS trivial h (fun x3 x4=>⟨[(8,pN x4),(6,.vec 7500),(2,.p (.ptr (B1 p_p))),(1,.p (vSl 2 A0 p_w))],[(7500,.vec E5 1 x3.n (fun i=>cI .u64 (x3.g i)) true)]⟩) (ids:=[(7500,79000)]) (fun _ _ _ _ _ self2 x3 x4 hb2 h=>?_);refine J0 hS trivial 82 ⟨[(81,.p (vSl 7 B1 p_p.L)),(79,pN x4),(8,pN x4),(6,.vec 7500),(2,.p (.ptr (B1 p_p))),(1,.p (vSl 2 A0 p_w))],[(7500,.vec E5 1 x3.n (fun i=>cI .u64 (x3.g i)) true)]⟩ (ids:=[(7500,7500)]) ?_ (hle:=klR [(0,.fn p_p.L.n p_p.L.n (Bf p_p) (fun i=>B1 (p_p.L.g i)))] (al1 ⟨rfl,K5 p_p⟩ al0));refine kI hS h (fun h=>?_) (fun h=>?_)
   ·refine J0 hS trivial 90 ⟨[(89,pN x4),(88,.p (vSl 7 B1 p_p.L)),(86,.vec 7500),(8,pN x4),(2,.p (.ptr (B1 p_p))),(1,.p (vSl 2 A0 p_w))],[(7500,.vec E5 1 x3.n (fun i=>cI .u64 (x3.g i)) true)]⟩ (ids:=[(7500,7500)]) ?_ (hle:=klR [(1,.fn p_p.L.n p_p.L.n (Bf p_p) (fun i=>B1 (p_p.L.g i)))] (al1 ⟨rfl,K5 p_p⟩ al0));obtain⟨c42,h⟩:=D2 h;obtain⟨y9,e9,h⟩:=B6 h;refine B8 hS [] (And.intro c42 (by decide:(7:Nat)<=7)) (hrec e9) ?_;refine kC hS h (Gd hS hL) (fun y10 h=>?_);exact hb2 _ [(7500,95000)] _ y10 (wrap .i64 (x4+1)) trivial h
   ·obtain rfl:=B7 h;exact A6 hS trivial ⟨[(4,.vec 7500)],[(7500,.vec E5 1 x3.n (fun i=>cI .u64 (x3.g i)) true)]⟩ [7500] (ids:=[(7500,7500)]) ⟨rfl,rfl,rfl⟩
  ·refine kI hS h (fun h=>?_) (fun h=>?_)
   ·refine F5 hS trivial h (fun x5 x6=>⟨[(9,pN x6),(6,.vec 7500),(2,.p (.ptr (B1 p_p))),(1,.p (vSl 2 A0 p_w))],[(7500,.vec E5 1 x5.n (fun i=>cI .u64 (x5.g i)) true)]⟩) (ids:=[(7500,19000)]) (fun _ _ _ _ _ self3 x5 x6 hb3 h=>?_);refine J0 hS trivial 100 ⟨[(99,.p (vSl 7 B1 p_p.L)),(97,pN x6),(9,pN x6),(6,.vec 7500),(2,.p (.ptr (B1 p_p))),(1,.p (vSl 2 A0 p_w))],[(7500,.vec E5 1 x5.n (fun i=>cI .u64 (x5.g i)) true)]⟩ (ids:=[(7500,7500)]) ?_ (hle:=klR [(0,.fn p_p.L.n p_p.L.n (Bf p_p) (fun i=>B1 (p_p.L.g i)))] (al1 ⟨rfl,K5 p_p⟩ al0));refine kI hS h (fun h=>?_) (fun h=>?_)
    ·refine J0 hS trivial 108 ⟨[(107,pN x6),(106,.p (vSl 7 B1 p_p.L)),(104,.vec 7500),(9,pN x6),(2,.p (.ptr (B1 p_p))),(1,.p (vSl 2 A0 p_w))],[(7500,.vec E5 1 x5.n (fun i=>cI .u64 (x5.g i)) true)]⟩ (ids:=[(7500,7500)]) ?_ (hle:=klR [(1,.fn p_p.L.n p_p.L.n (Bf p_p) (fun i=>B1 (p_p.L.g i)))] (al1 ⟨rfl,K5 p_p⟩ al0));obtain⟨c49,h⟩:=D2 h;obtain⟨y15,e15,h⟩:=B6 h;refine B8 hS [] (And.intro c49 (by decide:(7:Nat)<=7)) (hrec e15) ?_;refine kC hS h (PU hS hL) (fun y16 h=>?_);exact hb3 _ [(7500,113000)] _ y16 (wrap .i64 (x6+1)) trivial h
    ·obtain rfl:=B7 h;exact A6 hS trivial ⟨[(4,.vec 7500)],[(7500,.vec E5 1 x5.n (fun i=>cI .u64 (x5.g i)) true)]⟩ [7500] (ids:=[(7500,7500)]) ⟨rfl,rfl,rfl⟩
   ·refine kI hS h (fun h=>?_) (fun h=>?_)
    ·refine J0 hS trivial 117 ⟨[(116,.p (vSl 7 B1 p_p.L)),(6,.vec 19000),(5,pN (p_w.n:Int)),(2,.p (.ptr (B1 p_p))),(1,.p (vSl 2 A0 p_w))],[(19000,.vec E5 1 x1.n (fun i=>cI .u64 (x1.g i)) false)]⟩ (ids:=[(19000,19000)]) ?_ (hle:=klR [(0,.fn p_p.L.n p_p.L.n (Bf p_p) (fun i=>B1 (p_p.L.g i)))] (al1 ⟨rfl,K5 p_p⟩ al0));obtain⟨c51,h⟩:=D2 h;obtain⟨y17,e17,h⟩:=B6 h;refine B8 hS [] (And.intro c51 (by decide:(7:Nat)<=7)) (hrec e17) ?_;refine kC hS h (PT hS hL) (fun y18 h=>?_);refine SW hS trivial h (fun x8 x9 x10=>⟨[(12,pN x10),(11,.vec 12500),(10,.vec 121000),(6,.vec 7500),(2,.p (.ptr (B1 p_p)))],[(121000,.vec E5 1 y17.n (fun i=>cI .u64 (y17.g i)) true),(12500,.vec E5 1 x9.n (fun i=>cI .u64 (x9.g i)) true),(7500,.vec E5 1 x8.n (fun i=>cI .u64 (x8.g i)) true)]⟩) (ids:=[(7500,19000),(12500,123000),(121000,121000)]) (fun _ _ _ _ _ self4 x8 x9 x10 hb6 h=>?_);refine kI hS h (fun h=>?_) (fun h=>?_)
     ·refine kC hS h (PU hS hL) (fun y29 h=>?_);refine FM hS trivial (A3 hS) h 0 (fun z3=>⟨[(147,pB z3),(12,pN x10),(11,.vec 12500),(10,.vec 121000),(6,.vec 133000),(2,.p (.ptr (B1 p_p)))],[(133000,.vec E5 1 y29.n (fun i=>cI .u64 (y29.g i)) true),(121000,.vec E5 1 y17.n (fun i=>cI .u64 (y17.g i)) true),(12500,.vec E5 1 x9.n (fun i=>cI .u64 (x9.g i)) true)]⟩) (fun M3 k3 hb7 h=>?_) (fun z3 h=>?_)
      ·refine kG hS h (fun h=>?_) (fun h=>?_)
       ·exact hb7 _ [(12500,12500),(121000,121000),(133000,133000)] _ true trivial h
       ·refine kG hS h (fun h=>?_) (fun h=>?_)
        ·refine kC hS h (Wp hS hL) (fun y31 h=>?_);exact hb7 _ [(12500,12500),(121000,121000),(133000,133000)] _ y31 trivial h
        ·exact hb7 _ [(12500,12500),(121000,121000),(133000,133000)] _ false trivial h
      ·refine kI hS h (fun h=>?_) (fun h=>?_)
       ·obtain rfl:=B7 h;exact A6 hS trivial ⟨[(4,.vec 133000)],[(133000,.vec E5 1 y29.n (fun i=>cI .u64 (y29.g i)) true)]⟩ [133000] (ids:=[(133000,133000)]) ⟨rfl,rfl,rfl⟩
       ·refine kC hS h (Gd hS hL) (fun y32 h=>?_);exact hb6 _ [(7500,133000),(12500,152000),(121000,121000)] _ y29 y32 (wrap .i64 (x10+1)) trivial h
     ·refine kC hS h (Gd hS hL) (fun y33 h=>?_);exact hb6 _ [(7500,7500),(12500,152000),(121000,121000)] _ x8 y33 (wrap .i64 (x10+1)) trivial h
    ·obtain rfl:=B7 h;exact A6 hS trivial ⟨[(4,.vec 19000)],[(19000,.vec E5 1 x1.n (fun i=>cI .u64 (x1.g i)) true)]⟩ [19000] (ids:=[(19000,19000)]) ⟨rfl,rfl,rfl⟩
theorem Na {N:Nat}{p_p:Pat}{p_w:Sl Sound}{y:Sl Int}(h:BU N p_p p_w=some y) :FunO S EU [.p (.agg (B1 p_p)),.p (vSl 2 A0 p_w)] [] (.vec 0) ([.vec E5 1 y.n (fun i=>cI .u64 (y.g i)) true]) []:=by
 induction N generalizing p_p p_w y with
 |zero=>cases (show (none:Option (Sl Int))=some y from h)
 |succ N ih=>exact TX hS hL (fun e=>ih e) h
def Co (N:Nat)(p_p:Pat)(p_w:Sl Sound)(p_end:Int):Option ((Sl Int)×Int):=
 (CV N p_p p_w).bind fun y1=>
 if (y1 != 0) then
  some ((Sl.nil:Sl Int),y1)
 else
  if ((decide (p_end<0))||(decide ((p_w.n:Int)<p_end))) then
   some ((Sl.nil:Sl Int),3)
  else
   (BU N p_p p_w).bind fun y2=>
   S4 N (fun self1 (x1:Sl Int) (x2:Int)=>
    if (decide (x2<=(p_w.n:Int))) then
     if ((((0:Int)<=x2/\x2<(y2.n:Int))/\x2.toNat<y2.n)/\(0:Int)<=p_end)then
      if ((E4 .and .u64 (shI .shr .u64 (y2.g x2.toNat) p_end) 1)==1) then
       if ((x1.n+(Sl.of [x2]:Sl Int).n)*8<=140737488355328/\x1.n+(Sl.of [x2]:Sl Int).n<=140737488355328)then
        self1 (x1.push x2) (wrap .i64 (x2+1))
       else none
      else
       self1 x1 (wrap .i64 (x2+1))
     else none
    else
     some (x1,0)
    ) (Sl.nil:Sl Int) 0
theorem TY {N:Nat}{p_p:Pat}{p_w:Sl Sound}{p_end:Int}{y:(Sl Int)×Int}(h:Co N p_p p_w p_end=some y) :FunO S Ky [.p (.agg (B1 p_p)),.p (vSl 2 A0 p_w),pN p_end] [] (.tup [.vec 0,pN y.2]) ([.vec B9 1 y.1.n (fun i=>cI .i64 (y.1.g i)) true]) []:=by
 unfold Co at h;refine A1 hS TG ?_;refine kC hS h (PW hS hL) (fun y1 h=>?_);refine kI hS h (fun h=>?_) (fun h=>?_)
 ·obtain rfl:=B7 h;exact A6 hS trivial ⟨[(7,pN y1),(6,.vec 7700)],[(7700,.vec B9 1 (Sl.nil:Sl Int).n (fun i=>cI .i64 ((Sl.nil:Sl Int).g i)) true)]⟩ [7700] (ids:=[]) ⟨rfl,rfl,rfl⟩
 ·refine kB hS (A3 hS) trivial trivial 5 (.o (.a (decide (p_end<0))) (.a (decide ((p_w.n:Int)<p_end)))) ?_;refine kI hS h (fun h=>?_) (fun h=>?_)
  ·obtain rfl:=B7 h;exact A6 hS trivial ⟨[(7,pN 3),(6,.vec 7700)],[(7700,.vec B9 1 (Sl.nil:Sl Int).n (fun i=>cI .i64 ((Sl.nil:Sl Int).g i)) true)]⟩ [7700] (ids:=[]) ⟨rfl,rfl,rfl⟩
  ·refine kC hS h (Na hS hL) (fun y2 h=>?_);refine F5 hS trivial h (fun x1 x2=>⟨[(11,pN x2),(10,.vec 11500),(9,.vec 29000),(2,pN p_end),(1,.p (vSl 2 A0 p_w))],[(29000,.vec E5 1 y2.n (fun i=>cI .u64 (y2.g i)) true),(11500,.vec B9 1 x1.n (fun i=>cI .i64 (x1.g i)) false)]⟩) (ids:=[(29000,29000)]) (fun _ _ _ _ _ self1 x1 x2 hb1 h=>?_);refine kI hS h (fun h=>?_) (fun h=>?_)
   ·obtain⟨c10,h⟩:=D2 h;refine D3 hS c10 (b:=(E4 .and .u64 (shI .shr .u64 (y2.g x2.toNat) p_end) 1)==1) (fun c11=>?_) (fun c11=>?_)
    ·replace h:=itT c11 h;obtain⟨c12,h⟩:=D2 h;exact hb1 _ [(11500,47000),(29000,29000)] _ (x1.push x2) (wrap .i64 (x2+1)) (And.intro (rfl:true=true) c12) h (hle:=klR [(4,.fn (x1.n+1) (x1.push x2).n (R4 x1.n (fun i=>cI .i64 (x1.g i)) (D4 [pI .i64 0] [(0,cI .i64 x2)])) (fun i=>cI .i64 ((x1.push x2).g i)))] (al1 ⟨rfl,Er (c:=cI .i64) (v:=x1) (x:=x2) (z:=[(pI .i64 0)]) same rfl rfl⟩ al0))
    ·replace h:=itF c11 h;exact hb1 _ [(11500,11500),(29000,29000)] _ x1 (wrap .i64 (x2+1)) trivial h
   ·obtain rfl:=B7 h;exact A6 hS trivial ⟨[(7,pN 0),(6,.vec 11500)],[(11500,.vec B9 1 x1.n (fun i=>cI .i64 (x1.g i)) true)]⟩ [11500] (ids:=[(11500,11500)]) ⟨rfl,rfl,rfl⟩
def Ez (N:Nat)(p_p:Pat)(p_w:Sl Sound)(p_at:Int):Option ((Sl Int)×Int):=
 (CV N p_p p_w).bind fun y1=>
 if (y1 != 0) then
  some ((Sl.nil:Sl Int),y1)
 else
  if ((decide (p_at<0))||(decide ((p_w.n:Int)<p_at))) then
   some ((Sl.nil:Sl Int),3)
  else
   (BU N p_p p_w).bind fun y2=>
   S4 N (fun self1 (x1:Sl Int) (x2:Int)=>
    if (decide (x2<=(p_w.n:Int))) then
     if ((((0:Int)<=p_at/\p_at<(y2.n:Int))/\p_at.toNat<y2.n)/\(0:Int)<=x2)then
      if ((E4 .and .u64 (shI .shr .u64 (y2.g p_at.toNat) x2) 1)==1) then
       if ((x1.n+(Sl.of [x2]:Sl Int).n)*8<=140737488355328/\x1.n+(Sl.of [x2]:Sl Int).n<=140737488355328)then
        self1 (x1.push x2) (wrap .i64 (x2+1))
       else none
      else
       self1 x1 (wrap .i64 (x2+1))
     else none
    else
     some (x1,0)
    ) (Sl.nil:Sl Int) 0
theorem ZY {N:Nat}{p_p:Pat}{p_w:Sl Sound}{p_at:Int}{y:(Sl Int)×Int}(h:Ez N p_p p_w p_at=some y) :FunO S PL [.p (.agg (B1 p_p)),.p (vSl 2 A0 p_w),pN p_at] [] (.tup [.vec 0,pN y.2]) ([.vec B9 1 y.1.n (fun i=>cI .i64 (y.1.g i)) true]) []:=by
 unfold Ez at h;refine A1 hS ZI ?_;refine kC hS h (PW hS hL) (fun y1 h=>?_);refine kI hS h (fun h=>?_) (fun h=>?_)
 ·obtain rfl:=B7 h;exact A6 hS trivial ⟨[(7,pN y1),(6,.vec 7700)],[(7700,.vec B9 1 (Sl.nil:Sl Int).n (fun i=>cI .i64 ((Sl.nil:Sl Int).g i)) true)]⟩ [7700] (ids:=[]) ⟨rfl,rfl,rfl⟩
 ·refine kB hS (A3 hS) trivial trivial 5 (.o (.a (decide (p_at<0))) (.a (decide ((p_w.n:Int)<p_at)))) ?_;refine kI hS h (fun h=>?_) (fun h=>?_)
  ·obtain rfl:=B7 h;exact A6 hS trivial ⟨[(7,pN 3),(6,.vec 7700)],[(7700,.vec B9 1 (Sl.nil:Sl Int).n (fun i=>cI .i64 ((Sl.nil:Sl Int).g i)) true)]⟩ [7700] (ids:=[]) ⟨rfl,rfl,rfl⟩
  ·refine kC hS h (Na hS hL) (fun y2 h=>?_);refine F5 hS trivial h (fun x1 x2=>⟨[(11,pN x2),(10,.vec 11500),(9,.vec 29000),(2,pN p_at),(1,.p (vSl 2 A0 p_w))],[(29000,.vec E5 1 y2.n (fun i=>cI .u64 (y2.g i)) true),(11500,.vec B9 1 x1.n (fun i=>cI .i64 (x1.g i)) false)]⟩) (ids:=[(29000,29000)]) (fun _ _ _ _ _ self1 x1 x2 hb1 h=>?_);refine kI hS h (fun h=>?_) (fun h=>?_)
   ·obtain⟨c10,h⟩:=D2 h;refine D3 hS c10 (b:=(E4 .and .u64 (shI .shr .u64 (y2.g p_at.toNat) x2) 1)==1) (fun c11=>?_) (fun c11=>?_)
    ·replace h:=itT c11 h;obtain⟨c12,h⟩:=D2 h;exact hb1 _ [(11500,47000),(29000,29000)] _ (x1.push x2) (wrap .i64 (x2+1)) (And.intro (rfl:true=true) c12) h (hle:=klR [(4,.fn (x1.n+1) (x1.push x2).n (R4 x1.n (fun i=>cI .i64 (x1.g i)) (D4 [pI .i64 0] [(0,cI .i64 x2)])) (fun i=>cI .i64 ((x1.push x2).g i)))] (al1 ⟨rfl,Er (c:=cI .i64) (v:=x1) (x:=x2) (z:=[(pI .i64 0)]) same rfl rfl⟩ al0))
    ·replace h:=itF c11 h;exact hb1 _ [(11500,11500),(29000,29000)] _ x1 (wrap .i64 (x2+1)) trivial h
   ·obtain rfl:=B7 h;exact A6 hS trivial ⟨[(7,pN 0),(6,.vec 11500)],[(11500,.vec B9 1 x1.n (fun i=>cI .i64 (x1.g i)) true)]⟩ [11500] (ids:=[(11500,11500)]) ⟨rfl,rfl,rfl⟩
def Ar (N:Nat)(p_l:Law)(p_w:Sl Sound)(p_i:Int):Option Bool:=
 if ((decide (p_i<0))||(decide ((p_w.n:Int)<(wrap .i64 (p_i+(p_l.If.n:Int)))))) then
  some false
 else
  R5 N (fun self1 (x1:Int)=>
   if (decide (x1<(p_l.If.n:Int))) then
    if (((0:Int)<=(wrap .i64 (p_i+x1))/\(wrap .i64 (p_i+x1))<(p_w.n:Int))/\((0:Int)<=x1/\x1<(p_l.If.n:Int)))then
     (O9 N (p_w.g (wrap .i64 (p_i+x1)).toNat) (p_l.If.g x1.toNat)).bind fun y3=>
     if (!y3) then
      some false
     else
      self1 (wrap .i64 (x1+1))
    else none
   else
    (Co N p_l.Left p_w p_i).bind fun y4=>
    (Ez N p_l.Right p_w (wrap .i64 (p_i+(p_l.If.n:Int)))).bind fun y5=>
    some ((decide (0<(y4.1.n:Int)))&&(decide (0<(y5.1.n:Int))))
   ) 0
theorem Nb {N:Nat}{p_l:Law}{p_w:Sl Sound}{p_i:Int}{y:Bool}(h:Ar N p_l p_w p_i=some y) :FunO S TB [.p (.agg (A5 p_l)),.p (vSl 2 A0 p_w),pN p_i] [] (pB y) ([]) []:=by
 unfold Ar at h;refine A1 hS Ak2 ?_;refine J3 hS trivial 6 4000 (A5 p_l) ?_;refine kB hS (A3 hS) trivial trivial 7 (.o (.a (decide (p_i<0))) (.a (decide ((p_w.n:Int)<(wrap .i64 (p_i+(p_l.If.n:Int))))))) ?_;refine kI hS h (fun h=>?_) (fun h=>?_)
 ·cases h;exact kR hS
 ·refine G7 hS trivial h (fun x1=>⟨[(8,pN x1),(7,pN (p_l.If.n:Int)),(3,.p (.ptr (A5 p_l))),(2,pN p_i),(1,.p (vSl 2 A0 p_w))],[]⟩) (ids:=[]) (fun _ _ _ _ _ self1 x1 hb1 h=>?_);refine kI hS h (fun h=>?_) (fun h=>?_)
  ·refine D7 hS trivial [4,5,7,9,10,11] ?_;obtain⟨c9,h⟩:=D2 h;obtain⟨y3,e3,h⟩:=B6 h;refine U6 (And.intro (And.intro (And.intro c9.1 (by decide:(2:Nat)<=2)) c9.2) (by decide:(2:Nat)<=2)) (MX hS hL e3) ?_;refine H5 trivial ?_;refine kI hS h (fun h=>?_) (fun h=>?_)
   ·cases h;exact kR hS
   ·exact hb1 _ [] _ (wrap .i64 (x1+1)) trivial h
  ·obtain⟨y4,e4,h⟩:=B6 h;refine B8 hS [] (by decide:(7:Nat)<=17) (TY hS hL e4) ?_;obtain⟨y5,e5,h⟩:=B6 h;refine B8 hS [] (by decide:(7:Nat)<=10) (ZY hS hL e5) ?_;refine kB hS (A3 hS) trivial trivial 4 (.n (.a (decide (0<(y4.1.n:Int)))) (.a (decide (0<(y5.1.n:Int))))) ?_;cases h;exact kR hS
def Bu (N:Nat)(p_l:Law)(p_cut:Sl Sound):Option (Sl Sound):=
 S4 N (fun self1 (x1:Sl Sound) (x2:Int)=>
  if (decide (x2<(p_l.Out.n:Int))) then
   if ((0:Int)<=x2/\x2<(p_l.Out.n:Int))then
    if ((decide (0<=(p_l.Out.g x2.toNat).From))=true->((0:Int)<=(p_l.Out.g x2.toNat).From/\(p_l.Out.g x2.toNat).From<(p_cut.n:Int)))then
     (Q3 N (⟨(if (decide (0<=(p_l.Out.g x2.toNat).From)) then (p_cut.g (p_l.Out.g x2.toNat).From.toNat).Plus else 0),(if (decide (0<=(p_l.Out.g x2.toNat).From)) then (p_cut.g (p_l.Out.g x2.toNat).From.toNat).Minus else 0)⟩:Sound) (p_l.Out.g x2.toNat).Clear (p_l.Out.g x2.toNat).Set).bind fun y5=>
     if ((p_l.Out.g x2.toNat).Take != 0) then
      if ((0:Int)<=(p_l.Out.g x2.toNat).Of/\(p_l.Out.g x2.toNat).Of<(p_cut.n:Int))then
       (Y9 N y5.1 (p_cut.g (p_l.Out.g x2.toNat).Of.toNat) (p_l.Out.g x2.toNat).Take).bind fun y6=>
       if ((x1.n+(Sl.of [y6.1]:Sl Sound).n)*8<=140737488355328/\x1.n+(Sl.of [y6.1]:Sl Sound).n<=140737488355328)then
        self1 (x1.push y6.1) (wrap .i64 (x2+1))
       else none
      else none
     else
      if ((x1.n+(Sl.of [y5.1]:Sl Sound).n)*8<=140737488355328/\x1.n+(Sl.of [y5.1]:Sl Sound).n<=140737488355328)then
       self1 (x1.push y5.1) (wrap .i64 (x2+1))
      else none
    else none
   else none
  else
   some x1
  ) (Sl.nil:Sl Sound) 0
theorem TZ {N:Nat}{p_l:Law}{p_cut:Sl Sound}{y:Sl Sound}(h:Bu N p_l p_cut=some y) :FunO S TC [.p (.agg (A5 p_l)),.p (vSl 2 A0 p_cut)] [] (.vec 0) ([.vec A9 2 y.n (fun i=>A0 (y.g i)) true]) []:=by
 unfold Bu at h;refine A1 hS Ak3 ?_;refine J3 hS trivial 4 3000 (A5 p_l) ?_;refine F5 hS trivial h (fun x1 x2=>⟨[(6,pN x2),(5,.vec 6500),(2,.p (.ptr (A5 p_l))),(1,.p (vSl 2 A0 p_cut))],[(6500,.vec A9 2 x1.n (fun i=>A0 (x1.g i)) false)]⟩) (ids:=[]) (fun _ _ _ _ _ self1 x1 x2 hb3 h=>?_);refine kI hS h (fun h=>?_) (fun h=>?_)
 ·obtain⟨c16,h⟩:=D2 h;refine J3 hS (And.intro c16 (by decide:(6:Nat)<=6)) 21 8000 (O7 (p_l.Out.g x2.toNat)) ?_;obtain⟨c18,h⟩:=D2 h;obtain⟨t5,ht5⟩:∃x:Int,x=(if (decide (0<=(p_l.Out.g x2.toNat).From)) then (p_cut.g (p_l.Out.g x2.toNat).From.toNat).Plus else 0):=⟨_,rfl⟩;obtain⟨t6,ht6⟩:∃x:Int,x=(if (decide (0<=(p_l.Out.g x2.toNat).From)) then (p_cut.g (p_l.Out.g x2.toNat).From.toNat).Minus else 0):=⟨_,rfl⟩;refine SV hS trivial (A3 hS) 0 ⟨[(8,.reg 9000 0),(7,.p (.ptr (O7 (p_l.Out.g x2.toNat)))),(6,pN x2),(5,.vec 6500),(2,.p (.ptr (A5 p_l))),(1,.p (vSl 2 A0 p_cut))],[(9000,.cells [pU t5,pU t6]),(6500,.vec A9 2 x1.n (fun i=>A0 (x1.g i)) false)]⟩ (fun M3 hb4=>?_) ?_
  ·refine D3 hS trivial (b:=decide (0<=(p_l.Out.g x2.toNat).From)) (fun c19=>?_) (fun c19=>?_)
   ·exact hb4 _ [(6500,6500),(9000,9000)] _ (And.intro (c18 c19) (by decide:(2:Nat)<=2)) (hle:=klR [(4,.eq (pI .u32 (p_cut.g (p_l.Out.g x2.toNat).From.toNat).Plus) (pI .u32 t5)),(5,.eq (pI .u32 (p_cut.g (p_l.Out.g x2.toNat).From.toNat).Minus) (pI .u32 t6))] (al1 (by simp only[ht5,ht6,c19,Leaf.ok,pm,if_true,if_false]) (al1 (by simp only[ht5,ht6,c19,Leaf.ok,pm,if_true,if_false]) al0)))
   ·exact hb4 _ [(6500,6500),(9000,9000)] _ trivial (hle:=klR [(4,.eq (pI .u32 0) (pI .u32 t5)),(5,.eq (pI .u32 0) (pI .u32 t6))] (al1 (by simp only[ht5,ht6,c19,Leaf.ok,pm,if_true,if_false]) (al1 (by simp only[ht5,ht6,c19,Leaf.ok,pm,if_true,if_false]) al0)))
  ·subst ht6;subst ht5;obtain⟨y5,e5,h⟩:=B6 h;refine B8 hS [] (by decide:(2:Nat)<=4) (TT hS hL e5) ?_;refine kI hS h (fun h=>?_) (fun h=>?_)
   ·refine D7 hS trivial [3,4,5,7,8] ?_;obtain⟨c21,h⟩:=D2 h;obtain⟨y6,e6,h⟩:=B6 h;refine U6 (And.intro c21 (by decide:(2:Nat)<=2)) (ZQ hS hL e6) ?_;refine H5 trivial ?_;obtain⟨c22,h⟩:=D2 h;exact hb3 _ [(6500,58000)] _ (x1.push y6.1) (wrap .i64 (x2+1)) (And.intro (rfl:true=true) c22) h (hle:=klR [(3,.fn (x1.n+1) (x1.push y6.1).n (R4 x1.n (fun i=>A0 (x1.g i)) (D4 [pI .u32 0,pI .u32 0] [(0,A0 y6.1)])) (fun i=>A0 ((x1.push y6.1).g i)))] (al1 ⟨rfl,Er (c:=A0) (v:=x1) (x:=y6.1) (z:=[(pI .u32 0),pI .u32 0]) same rfl rfl⟩ al0))
   ·obtain⟨c23,h⟩:=D2 h;exact hb3 _ [(6500,58000)] _ (x1.push y5.1) (wrap .i64 (x2+1)) (And.intro (rfl:true=true) c23) h (hle:=klR [(3,.fn (x1.n+1) (x1.push y5.1).n (R4 x1.n (fun i=>A0 (x1.g i)) (D4 [pI .u32 0,pI .u32 0] [(0,A0 y5.1)])) (fun i=>A0 ((x1.push y5.1).g i)))] (al1 ⟨rfl,Er (c:=A0) (v:=x1) (x:=y5.1) (z:=[(pI .u32 0),pI .u32 0]) same rfl rfl⟩ al0))
 ·obtain rfl:=B7 h;exact A6 hS trivial ⟨[(4,.vec 6500)],[(6500,.vec A9 2 x1.n (fun i=>A0 (x1.g i)) true)]⟩ [6500] (ids:=[(6500,6500)]) ⟨rfl,rfl,rfl⟩
def Q4 (N:Nat)(p_l:Law)(p_w:Sl Sound)(p_i:Int):Option (Sl Sound):=
 if (((0:Int)<=p_i/\p_i<=(p_w.n:Int))/\(((Sl.of []:Sl Sound).n+(p_w.take p_i.toNat).n)*8<=140737488355328/\(Sl.of []:Sl Sound).n+(p_w.take p_i.toNat).n<=140737488355328))then
  if ((0:Int)<=p_i/\p_i<=(wrap .i64 (p_i+(p_l.If.n:Int)))/\(wrap .i64 (p_i+(p_l.If.n:Int)))<=(p_w.n:Int))then
   (Bu N p_l (p_w.sub p_i.toNat (wrap .i64 (p_i+(p_l.If.n:Int))).toNat)).bind fun y1=>
   if ((((Sl.of []:Sl Sound).app (p_w.take p_i.toNat)).n+y1.n)*8<=140737488355328/\((Sl.of []:Sl Sound).app (p_w.take p_i.toNat)).n+y1.n<=140737488355328)then
    if (((0:Int)<=(wrap .i64 (p_i+(p_l.If.n:Int)))/\(wrap .i64 (p_i+(p_l.If.n:Int)))<=(p_w.n:Int))/\(((((Sl.of []:Sl Sound).app (p_w.take p_i.toNat)).app y1).n+(p_w.drop (wrap .i64 (p_i+(p_l.If.n:Int))).toNat).n)*8<=140737488355328/\(((Sl.of []:Sl Sound).app (p_w.take p_i.toNat)).app y1).n+(p_w.drop (wrap .i64 (p_i+(p_l.If.n:Int))).toNat).n<=140737488355328))then
     some ((((Sl.of []:Sl Sound).app (p_w.take p_i.toNat)).app y1).app (p_w.drop (wrap .i64 (p_i+(p_l.If.n:Int))).toNat))
    else none
   else none
  else none
 else none
theorem IR {N:Nat}{p_l:Law}{p_w:Sl Sound}{p_i:Int}{y:Sl Sound}(h:Q4 N p_l p_w p_i=some y) :FunO S IH [.p (.agg (A5 p_l)),.p (vSl 2 A0 p_w),pN p_i] [] (.vec 0) ([.vec A9 2 y.n (fun i=>A0 (y.g i)) true]) []:=by unfold Q4 at h;refine A1 hS Rk ?_;refine J3 hS trivial 6 4000 (A5 p_l) ?_;obtain⟨c1,h⟩:=D2 h;refine D7 hS (And.intro (And.intro (rfl:true=true) c1.1) c1.2) [1] ?_;obtain⟨c2,h⟩:=D2 h;obtain⟨y1,e1,h⟩:=B6 h;refine GX [] (And.intro (by decide:(18:Nat)<=18) c2) (TZ hS hL e1) ?_;obtain⟨c3,h⟩:=D2 h;refine H5 c3 ?_;obtain⟨c4,h⟩:=D2 h;obtain rfl:=B7 h;exact A6 hS c4 ⟨[(6,.vec 34000)],[(34000,.vec A9 2 ((((Sl.of []:Sl Sound).app (p_w.take p_i.toNat)).app y1).app (p_w.drop (wrap .i64 (p_i+(p_l.If.n:Int))).toNat)).n (fun i=>A0 (((((Sl.of []:Sl Sound).app (p_w.take p_i.toNat)).app y1).app (p_w.drop (wrap .i64 (p_i+(p_l.If.n:Int))).toNat)).g i)) true)]⟩ [34000] (ids:=[(34000,34000)]) ⟨rfl,rfl,rfl⟩ (hle:=klR [(0,.fn (((0+(p_w.take p_i.toNat).n)+y1.n)+(p_w.drop (wrap .i64 (p_i+(p_l.If.n:Int))).toNat).n) ((((Sl.of []:Sl Sound).app (p_w.take p_i.toNat)).app y1).app (p_w.drop (wrap .i64 (p_i+(p_l.If.n:Int))).toNat)).n (R4 ((0+(p_w.take p_i.toNat).n)+y1.n) (R4 (0+(p_w.take p_i.toNat).n) (R4 0 (D4 [pI .u32 0,pI .u32 0] []) (fun i=>A0 ((p_w.take p_i.toNat).g i))) (fun i=>A0 (y1.g i))) (fun i=>A0 ((p_w.drop (wrap .i64 (p_i+(p_l.If.n:Int))).toNat).g i))) (fun i=>A0 (((((Sl.of []:Sl Sound).app (p_w.take p_i.toNat)).app y1).app (p_w.drop (wrap .i64 (p_i+(p_l.If.n:Int))).toNat)).g i)))] (al1 ⟨rfl,Vr (c:=A0) (v:=((Sl.of []:Sl Sound).app (p_w.take p_i.toNat)).app y1) (w:=p_w.drop (wrap .i64 (p_i+(p_l.If.n:Int))).toNat) (Vr (c:=A0) (v:=(Sl.of []:Sl Sound).app (p_w.take p_i.toNat)) (w:=y1) (Vr (c:=A0) (v:=(Sl.of []:Sl Sound)) (w:=p_w.take p_i.toNat) (fun i hi=>absurd hi (by omega)) rfl same rfl) rfl same rfl) rfl same rfl⟩ al0))
def Ge (N:Nat)(p_l:Law)(p_w:Sl Sound):Option ((Sl Int)×(Sl (Sl Sound))×Int):=
 Aq4 N (fun self1 (x2:Sl Int) (x3:Sl (Sl Sound)) (x4:Sl Sound) (x5:Int)=>
  if (decide (x5<=(p_w.n:Int))) then
   (Ar N p_l p_w x5).bind fun y5=>
   if (!y5) then
    lt (fun (z3:Sl Sound)=>
     self1 x2 x3 z3 (wrap .i64 (x5+1))
     ) fun k3=>
     if (decide (x5<(p_w.n:Int))) then
      if (((0:Int)<=x5/\x5<(p_w.n:Int))/\((x4.n+(Sl.of [p_w.g x5.toNat]:Sl Sound).n)*8<=140737488355328/\x4.n+(Sl.of [p_w.g x5.toNat]:Sl Sound).n<=140737488355328))then
       k3 (x4.push (p_w.g x5.toNat))
      else none
     else
      k3 x4
   else
    if ((0:Int)<=x5/\x5<=(wrap .i64 (x5+(p_l.If.n:Int)))/\(wrap .i64 (x5+(p_l.If.n:Int)))<=(p_w.n:Int))then
     (Bu N p_l (p_w.sub x5.toNat (wrap .i64 (x5+(p_l.If.n:Int))).toNat)).bind fun y6=>
     if ((x4.n+y6.n)*8<=140737488355328/\x4.n+y6.n<=140737488355328)then
      if ((x2.n+(Sl.of [x5]:Sl Int).n)*8<=140737488355328/\x2.n+(Sl.of [x5]:Sl Int).n<=140737488355328)then
       if (((((Sl.of []:Sl Sound).n+(x4.app y6).n)*8<=140737488355328/\(Sl.of []:Sl Sound).n+(x4.app y6).n<=140737488355328)/\((0:Int)<=(wrap .i64 (x5+(p_l.If.n:Int)))/\(wrap .i64 (x5+(p_l.If.n:Int)))<=(p_w.n:Int)))/\((((Sl.of []:Sl Sound).app (x4.app y6)).n+(p_w.drop (wrap .i64 (x5+(p_l.If.n:Int))).toNat).n)*8<=140737488355328/\((Sl.of []:Sl Sound).app (x4.app y6)).n+(p_w.drop (wrap .i64 (x5+(p_l.If.n:Int))).toNat).n<=140737488355328))then
        if (decide (32<((((Sl.of []:Sl Sound).app (x4.app y6)).app (p_w.drop (wrap .i64 (x5+(p_l.If.n:Int))).toNat)).n:Int))) then
         some ((Sl.nil:Sl Int),(Sl.nil:Sl (Sl Sound)),11)
        else
         if ((x3.n+(Sl.of [((Sl.of []:Sl Sound).app (x4.app y6)).app (p_w.drop (wrap .i64 (x5+(p_l.If.n:Int))).toNat)]:Sl (Sl Sound)).n)*24<=140737488355328/\x3.n+(Sl.of [((Sl.of []:Sl Sound).app (x4.app y6)).app (p_w.drop (wrap .i64 (x5+(p_l.If.n:Int))).toNat)]:Sl (Sl Sound)).n<=140737488355328)then
          if ((p_l.If.n:Int)==0) then
           if (decide ((wrap .i64 (x5+(p_l.If.n:Int)))<(p_w.n:Int))) then
            if (((0:Int)<=(wrap .i64 (x5+(p_l.If.n:Int)))/\(wrap .i64 (x5+(p_l.If.n:Int)))<(p_w.n:Int))/\(((x4.app y6).n+(Sl.of [p_w.g (wrap .i64 (x5+(p_l.If.n:Int))).toNat]:Sl Sound).n)*8<=140737488355328/\(x4.app y6).n+(Sl.of [p_w.g (wrap .i64 (x5+(p_l.If.n:Int))).toNat]:Sl Sound).n<=140737488355328))then
             self1 (x2.push x5) (x3.push (((Sl.of []:Sl Sound).app (x4.app y6)).app (p_w.drop (wrap .i64 (x5+(p_l.If.n:Int))).toNat))) ((x4.app y6).push (p_w.g (wrap .i64 (x5+(p_l.If.n:Int))).toNat)) (wrap .i64 ((wrap .i64 (x5+(p_l.If.n:Int)))+1))
            else none
           else
            self1 (x2.push x5) (x3.push (((Sl.of []:Sl Sound).app (x4.app y6)).app (p_w.drop (wrap .i64 (x5+(p_l.If.n:Int))).toNat))) (x4.app y6) (wrap .i64 ((wrap .i64 (x5+(p_l.If.n:Int)))+1))
          else
           self1 (x2.push x5) (x3.push (((Sl.of []:Sl Sound).app (x4.app y6)).app (p_w.drop (wrap .i64 (x5+(p_l.If.n:Int))).toNat))) (x4.app y6) (wrap .i64 (x5+(p_l.If.n:Int)))
         else none
       else none
      else none
     else none
    else none
  else
   some (x2,x3,0)
  ) (Sl.nil:Sl Int) (Sl.nil:Sl (Sl Sound)) (Sl.nil:Sl Sound) 0
theorem Ak8 {N:Nat}{p_l:Law}{p_w:Sl Sound}{y:(Sl Int)×(Sl (Sl Sound))×Int}(h:Ge N p_l p_w=some y) :FunO S Ty [.p (.agg (A5 p_l)),.p (vSl 2 A0 p_w)] [] (.tup [.vec 0,.vec 1,pN y.2.2]) ([.vec B9 1 y.1.n (fun i=>cI .i64 (y.1.g i)) true,.vec A8 1 y.2.1.n (fun i=>cL 2 A0 (y.2.1.g i)) true]) []:=by
 unfold Ge at h;refine A1 hS Aj9 ?_;refine J3 hS trivial 4 3000 (A5 p_l) ?_;refine Ai4 hS trivial h (fun x2 x3 x4 x5=>⟨[(10,pN x5),(9,.vec 10501),(8,.vec 9500),(7,.vec 8500),(2,.p (.ptr (A5 p_l))),(1,.p (vSl 2 A0 p_w))],[(10501,.vec A9 2 x4.n (fun i=>A0 (x4.g i)) false),(9500,.vec A8 1 x3.n (fun i=>cL 2 A0 (x3.g i)) false),(8500,.vec B9 1 x2.n (fun i=>cI .i64 (x2.g i)) false)]⟩) (ids:=[]) (fun _ _ _ _ _ self1 x2 x3 x4 x5 hb5 h=>?_);refine kI hS h (fun h=>?_) (fun h=>?_)
 ·obtain⟨y5,e5,h⟩:=B6 h;refine B8 hS [] (by decide:(18:Nat)<=18) (Nb hS hL e5) ?_;refine kI hS h (fun h=>?_) (fun h=>?_)
  ·refine FM hS trivial (A3 hS) h 0 (fun z3=>⟨[(10,pN x5),(9,.vec 10500),(8,.vec 9500),(7,.vec 8500),(2,.p (.ptr (A5 p_l))),(1,.p (vSl 2 A0 p_w))],[(10500,.vec A9 2 z3.n (fun i=>A0 (z3.g i)) false),(9500,.vec A8 1 x3.n (fun i=>cL 2 A0 (x3.g i)) false),(8500,.vec B9 1 x2.n (fun i=>cI .i64 (x2.g i)) false)]⟩) (fun M6 k3 hb7 h=>?_) (fun z3 h=>?_)
   ·refine kI hS h (fun h=>?_) (fun h=>?_)
    ·obtain⟨c40,h⟩:=D2 h;exact hb7 _ [(8500,8500),(9500,9500),(10500,33000)] _ (x4.push (p_w.g x5.toNat)) (And.intro (And.intro (And.intro c40.1 (by decide:(2:Nat)<=2)) (rfl:true=true)) c40.2) h (hle:=klR [(3,.fn (x4.n+1) (x4.push (p_w.g x5.toNat)).n (R4 x4.n (fun i=>A0 (x4.g i)) (D4 [pI .u32 0,pI .u32 0] [(0,A0 (p_w.g x5.toNat))])) (fun i=>A0 ((x4.push (p_w.g x5.toNat)).g i)))] (al1 ⟨rfl,Er (c:=A0) (v:=x4) (x:=p_w.g x5.toNat) (z:=[(pI .u32 0),pI .u32 0]) same rfl rfl⟩ al0))
    ·exact hb7 _ [(8500,8500),(9500,9500),(10500,10501)] _ x4 trivial h
   ·exact hb5 _ [(8500,8500),(9500,9500),(10501,10500)] _ x2 x3 z3 (wrap .i64 (x5+1)) trivial h
  ·refine D7 hS trivial [1] ?_;obtain⟨c41,h⟩:=D2 h;obtain⟨y6,e6,h⟩:=B6 h;refine GX [] (And.intro (by decide:(18:Nat)<=18) c41) (TZ hS hL e6) ?_;obtain⟨c42,h⟩:=D2 h;refine H5 c42 ?_;obtain⟨c43,h⟩:=D2 h;refine D7 hS (And.intro (rfl:true=true) c43) [1000] ?_;obtain⟨c44,h⟩:=D2 h;refine H5 (And.intro (And.intro (And.intro (rfl:true=true) c44.1.1) c44.1.2) c44.2) ?_;refine kI hS h (fun h=>?_) (fun h=>?_)
   ·obtain rfl:=B7 h;exact A6 hS trivial ⟨[(6,pN 11),(5,.vec 6701),(4,.vec 5700)],[(6701,.vec A8 1 (Sl.nil:Sl (Sl Sound)).n (fun i=>cL 2 A0 ((Sl.nil:Sl (Sl Sound)).g i)) true),(5700,.vec B9 1 (Sl.nil:Sl Int).n (fun i=>cI .i64 ((Sl.nil:Sl Int).g i)) true)]⟩ [5700,6701] (ids:=[]) ⟨rfl,rfl,rfl⟩
   ·refine J0 hS trivial 66 ⟨[(65,.vec 61000),(64,.vec 9500),(11,pN (p_l.If.n:Int)),(10,pN x5),(9,.vec 48000),(7,.vec 52000),(2,.p (.ptr (A5 p_l))),(1,.p (vSl 2 A0 p_w))],[(61000,.vec A9 2 (((Sl.of []:Sl Sound).app (x4.app y6)).app (p_w.drop (wrap .i64 (x5+(p_l.If.n:Int))).toNat)).n (fun i=>A0 ((((Sl.of []:Sl Sound).app (x4.app y6)).app (p_w.drop (wrap .i64 (x5+(p_l.If.n:Int))).toNat)).g i)) true),(52000,.vec B9 1 (x2.push x5).n (fun i=>cI .i64 ((x2.push x5).g i)) false),(48000,.vec A9 2 (x4.app y6).n (fun i=>A0 ((x4.app y6).g i)) false),(9500,.vec A8 1 x3.n (fun i=>cL 2 A0 (x3.g i)) false)]⟩ (ids:=[(9500,9500),(48000,48000),(52000,52000),(61000,61000)]) ?_ (hle:=klR [(4,.fn ((0+(x4.n+y6.n))+(p_w.drop (wrap .i64 (x5+(p_l.If.n:Int))).toNat).n) (((Sl.of []:Sl Sound).app (x4.app y6)).app (p_w.drop (wrap .i64 (x5+(p_l.If.n:Int))).toNat)).n (R4 (0+(x4.n+y6.n)) (R4 0 (D4 [pI .u32 0,pI .u32 0] []) (R4 x4.n (fun i=>A0 (x4.g i)) (fun i=>A0 (y6.g i)))) (fun i=>A0 ((p_w.drop (wrap .i64 (x5+(p_l.If.n:Int))).toNat).g i))) (fun i=>A0 ((((Sl.of []:Sl Sound).app (x4.app y6)).app (p_w.drop (wrap .i64 (x5+(p_l.If.n:Int))).toNat)).g i))),(5,.fn (x2.n+1) (x2.push x5).n (R4 x2.n (fun i=>cI .i64 (x2.g i)) (D4 [pI .i64 0] [(0,cI .i64 x5)])) (fun i=>cI .i64 ((x2.push x5).g i))),(6,.fn (x4.n+y6.n) (x4.app y6).n (R4 x4.n (fun i=>A0 (x4.g i)) (fun i=>A0 (y6.g i))) (fun i=>A0 ((x4.app y6).g i)))] (al1 ⟨rfl,Vr (c:=A0) (v:=(Sl.of []:Sl Sound).app (x4.app y6)) (w:=p_w.drop (wrap .i64 (x5+(p_l.If.n:Int))).toNat) (Vr (c:=A0) (v:=(Sl.of []:Sl Sound)) (w:=x4.app y6) (fun i hi=>absurd hi (by omega)) rfl (Vr (c:=A0) (v:=x4) (w:=y6) same rfl same rfl) rfl) rfl same rfl⟩ (al1 ⟨rfl,Er (c:=cI .i64) (v:=x2) (x:=x5) (z:=[(pI .i64 0)]) same rfl rfl⟩ (al1 ⟨rfl,Vr (c:=A0) (v:=x4) (w:=y6) same rfl same rfl⟩ al0))));obtain⟨c46,h⟩:=D2 h;refine D3 hS (And.intro (rfl:true=true) c46) (b:=(p_l.If.n:Int)==0) (fun c47=>?_) (fun c47=>?_)
    ·replace h:=itT c47 h;refine kI hS h (fun h=>?_) (fun h=>?_)
     ·obtain⟨c49,h⟩:=D2 h;exact hb5 _ [(8500,52000),(9500,68000),(10501,84000)] _ (x2.push x5) (x3.push (((Sl.of []:Sl Sound).app (x4.app y6)).app (p_w.drop (wrap .i64 (x5+(p_l.If.n:Int))).toNat))) ((x4.app y6).push (p_w.g (wrap .i64 (x5+(p_l.If.n:Int))).toNat)) (wrap .i64 ((wrap .i64 (x5+(p_l.If.n:Int)))+1)) (And.intro (And.intro (And.intro c49.1 (by decide:(2:Nat)<=2)) (rfl:true=true)) c49.2) h (hle:=klR [(3,.fn ((x4.app y6).n+1) ((x4.app y6).push (p_w.g (wrap .i64 (x5+(p_l.If.n:Int))).toNat)).n (R4 (x4.app y6).n (fun i=>A0 ((x4.app y6).g i)) (D4 [pI .u32 0,pI .u32 0] [(0,A0 (p_w.g (wrap .i64 (x5+(p_l.If.n:Int))).toNat))])) (fun i=>A0 (((x4.app y6).push (p_w.g (wrap .i64 (x5+(p_l.If.n:Int))).toNat)).g i))),(4,.fn (x3.n+1) (x3.push (((Sl.of []:Sl Sound).app (x4.app y6)).app (p_w.drop (wrap .i64 (x5+(p_l.If.n:Int))).toNat))).n (R4 x3.n (fun i=>cL 2 A0 (x3.g i)) (D4 [J2] [(0,cL 2 A0 (((Sl.of []:Sl Sound).app (x4.app y6)).app (p_w.drop (wrap .i64 (x5+(p_l.If.n:Int))).toNat)))])) (fun i=>cL 2 A0 ((x3.push (((Sl.of []:Sl Sound).app (x4.app y6)).app (p_w.drop (wrap .i64 (x5+(p_l.If.n:Int))).toNat))).g i)))] (al1 ⟨rfl,Er (c:=A0) (v:=x4.app y6) (x:=p_w.g (wrap .i64 (x5+(p_l.If.n:Int))).toNat) (z:=[(pI .u32 0),pI .u32 0]) same rfl rfl⟩ (al1 ⟨rfl,Er (c:=cL 2 A0) (v:=x3) (x:=((Sl.of []:Sl Sound).app (x4.app y6)).app (p_w.drop (wrap .i64 (x5+(p_l.If.n:Int))).toNat)) (z:=[J2]) same rfl rfl⟩ al0)))
     ·exact hb5 _ [(8500,52000),(9500,68000),(10501,48000)] _ (x2.push x5) (x3.push (((Sl.of []:Sl Sound).app (x4.app y6)).app (p_w.drop (wrap .i64 (x5+(p_l.If.n:Int))).toNat))) (x4.app y6) (wrap .i64 ((wrap .i64 (x5+(p_l.If.n:Int)))+1)) trivial h (hle:=klR [(4,.fn (x3.n+1) (x3.push (((Sl.of []:Sl Sound).app (x4.app y6)).app (p_w.drop (wrap .i64 (x5+(p_l.If.n:Int))).toNat))).n (R4 x3.n (fun i=>cL 2 A0 (x3.g i)) (D4 [J2] [(0,cL 2 A0 (((Sl.of []:Sl Sound).app (x4.app y6)).app (p_w.drop (wrap .i64 (x5+(p_l.If.n:Int))).toNat)))])) (fun i=>cL 2 A0 ((x3.push (((Sl.of []:Sl Sound).app (x4.app y6)).app (p_w.drop (wrap .i64 (x5+(p_l.If.n:Int))).toNat))).g i)))] (al1 ⟨rfl,Er (c:=cL 2 A0) (v:=x3) (x:=((Sl.of []:Sl Sound).app (x4.app y6)).app (p_w.drop (wrap .i64 (x5+(p_l.If.n:Int))).toNat)) (z:=[J2]) same rfl rfl⟩ al0))
    ·replace h:=itF c47 h;exact hb5 _ [(8500,52000),(9500,68000),(10501,48000)] _ (x2.push x5) (x3.push (((Sl.of []:Sl Sound).app (x4.app y6)).app (p_w.drop (wrap .i64 (x5+(p_l.If.n:Int))).toNat))) (x4.app y6) (wrap .i64 (x5+(p_l.If.n:Int))) trivial h (hle:=klR [(4,.fn (x3.n+1) (x3.push (((Sl.of []:Sl Sound).app (x4.app y6)).app (p_w.drop (wrap .i64 (x5+(p_l.If.n:Int))).toNat))).n (R4 x3.n (fun i=>cL 2 A0 (x3.g i)) (D4 [J2] [(0,cL 2 A0 (((Sl.of []:Sl Sound).app (x4.app y6)).app (p_w.drop (wrap .i64 (x5+(p_l.If.n:Int))).toNat)))])) (fun i=>cL 2 A0 ((x3.push (((Sl.of []:Sl Sound).app (x4.app y6)).app (p_w.drop (wrap .i64 (x5+(p_l.If.n:Int))).toNat))).g i)))] (al1 ⟨rfl,Er (c:=cL 2 A0) (v:=x3) (x:=((Sl.of []:Sl Sound).app (x4.app y6)).app (p_w.drop (wrap .i64 (x5+(p_l.If.n:Int))).toNat)) (z:=[J2]) same rfl rfl⟩ al0))
 ·obtain rfl:=B7 h;exact A6 hS trivial ⟨[(6,pN 0),(5,.vec 9500),(4,.vec 8500)],[(9500,.vec A8 1 x3.n (fun i=>cL 2 A0 (x3.g i)) true),(8500,.vec B9 1 x2.n (fun i=>cI .i64 (x2.g i)) true)]⟩ [8500,9500] (ids:=[(8500,8500),(9500,9500)]) ⟨rfl,rfl,rfl⟩
def Dr (N:Nat)(p_l:Law)(p_w:Sl Sound):Option ((Sl Int)×(Sl (Sl Sound))×Int):=
 Aq4 N (fun self1 (x1:Sl Sound) (x2:Sl Int) (x3:Sl (Sl Sound)) (x4:Int)=>
  if (decide ((wrap .i64 (x4+(p_l.If.n:Int)))<=(x1.n:Int))) then
   (Ar N p_l x1 x4).bind fun y5=>
   if (!y5) then
    self1 x1 x2 x3 (wrap .i64 (x4+1))
   else
    (Q4 N p_l x1 x4).bind fun y6=>
    if (decide (32<(y6.n:Int))) then
     some ((Sl.nil:Sl Int),(Sl.nil:Sl (Sl Sound)),11)
    else
     if (((x2.n+(Sl.of [x4]:Sl Int).n)*8<=140737488355328/\x2.n+(Sl.of [x4]:Sl Int).n<=140737488355328)/\((x3.n+(Sl.of [y6]:Sl (Sl Sound)).n)*24<=140737488355328/\x3.n+(Sl.of [y6]:Sl (Sl Sound)).n<=140737488355328))then
      if ((p_l.If.n:Int)==0) then
       self1 y6 (x2.push x4) (x3.push y6) (wrap .i64 ((wrap .i64 (x4+(p_l.Out.n:Int)))+1))
      else
       self1 y6 (x2.push x4) (x3.push y6) (wrap .i64 (x4+(p_l.Out.n:Int)))
     else none
  else
   some (x2,x3,0)
  ) p_w (Sl.nil:Sl Int) (Sl.nil:Sl (Sl Sound)) 0
theorem Wu {N:Nat}{p_l:Law}{p_w:Sl Sound}{y:(Sl Int)×(Sl (Sl Sound))×Int}(h:Dr N p_l p_w=some y) :FunO S MJ [.p (.agg (A5 p_l)),.p (vSl 2 A0 p_w)] [] (.tup [.vec 0,.vec 1,pN y.2.2]) ([.vec B9 1 y.1.n (fun i=>cI .i64 (y.1.g i)) true,.vec A8 1 y.2.1.n (fun i=>cL 2 A0 (y.2.1.g i)) true]) []:=by
 unfold Dr at h;refine A1 hS VZ ?_;refine Ai4 hS trivial h (fun x1 x2 x3 x4=>⟨[(10,pN x4),(9,pN (p_l.If.n:Int)),(8,.vec 9500),(7,.vec 8500),(2,.reg 3000 0),(1,.p (vSl 2 A0 x1))],[(9500,.vec A8 1 x3.n (fun i=>cL 2 A0 (x3.g i)) false),(8500,.vec B9 1 x2.n (fun i=>cI .i64 (x2.g i)) false),(3000,.cells ((A5 p_l).map .p))]⟩) (ids:=[(3000,3000)]) (fun _ _ _ _ _ self1 x1 x2 x3 x4 hb1 h=>?_);refine kI hS h (fun h=>?_) (fun h=>?_)
 ·refine kC hS h (Nb hS hL) (fun y5 h=>?_);refine kI hS h (fun h=>?_) (fun h=>?_)
  ·exact hb1 _ [(3000,3000),(8500,8500),(9500,9500)] _ x1 x2 x3 (wrap .i64 (x4+1)) trivial h
  ·refine kC hS h (IR hS hL) (fun y6 h=>?_);refine kI hS h (fun h=>?_) (fun h=>?_)
   ·obtain rfl:=B7 h;exact A6 hS trivial ⟨[(6,pN 11),(5,.vec 6701),(4,.vec 5700)],[(6701,.vec A8 1 (Sl.nil:Sl (Sl Sound)).n (fun i=>cL 2 A0 ((Sl.nil:Sl (Sl Sound)).g i)) true),(5700,.vec B9 1 (Sl.nil:Sl Int).n (fun i=>cI .i64 ((Sl.nil:Sl Int).g i)) true)]⟩ [5700,6701] (ids:=[]) ⟨rfl,rfl,rfl⟩
   ·obtain⟨c14,h⟩:=D2 h;refine D3 hS (And.intro (And.intro (And.intro (rfl:true=true) c14.1) (rfl:true=true)) c14.2) (b:=(p_l.If.n:Int)==0) (fun c15=>?_) (fun c15=>?_)
    ·replace h:=itT c15 h;exact hb1 _ [(3000,3000),(8500,38000),(9500,42000)] _ y6 (x2.push x4) (x3.push y6) (wrap .i64 ((wrap .i64 (x4+(p_l.Out.n:Int)))+1)) trivial h (hle:=klR [(3,.fn (x3.n+1) (x3.push y6).n (R4 x3.n (fun i=>cL 2 A0 (x3.g i)) (D4 [J2] [(0,cL 2 A0 y6)])) (fun i=>cL 2 A0 ((x3.push y6).g i))),(4,.fn (x2.n+1) (x2.push x4).n (R4 x2.n (fun i=>cI .i64 (x2.g i)) (D4 [pI .i64 0] [(0,cI .i64 x4)])) (fun i=>cI .i64 ((x2.push x4).g i)))] (al1 ⟨rfl,Er (c:=cL 2 A0) (v:=x3) (x:=y6) (z:=[J2]) same rfl rfl⟩ (al1 ⟨rfl,Er (c:=cI .i64) (v:=x2) (x:=x4) (z:=[(pI .i64 0)]) same rfl rfl⟩ al0)))
    ·replace h:=itF c15 h;exact hb1 _ [(3000,3000),(8500,38000),(9500,42000)] _ y6 (x2.push x4) (x3.push y6) (wrap .i64 (x4+(p_l.Out.n:Int))) trivial h (hle:=klR [(3,.fn (x3.n+1) (x3.push y6).n (R4 x3.n (fun i=>cL 2 A0 (x3.g i)) (D4 [J2] [(0,cL 2 A0 y6)])) (fun i=>cL 2 A0 ((x3.push y6).g i))),(4,.fn (x2.n+1) (x2.push x4).n (R4 x2.n (fun i=>cI .i64 (x2.g i)) (D4 [pI .i64 0] [(0,cI .i64 x4)])) (fun i=>cI .i64 ((x2.push x4).g i)))] (al1 ⟨rfl,Er (c:=cL 2 A0) (v:=x3) (x:=y6) (z:=[J2]) same rfl rfl⟩ (al1 ⟨rfl,Er (c:=cI .i64) (v:=x2) (x:=x4) (z:=[(pI .i64 0)]) same rfl rfl⟩ al0)))
 ·obtain rfl:=B7 h;exact A6 hS trivial ⟨[(6,pN 0),(5,.vec 9500),(4,.vec 8500)],[(9500,.vec A8 1 x3.n (fun i=>cL 2 A0 (x3.g i)) true),(8500,.vec B9 1 x2.n (fun i=>cI .i64 (x2.g i)) true)]⟩ [8500,9500] (ids:=[(8500,8500),(9500,9500)]) ⟨rfl,rfl,rfl⟩
def CW (N:Nat)(p_l:Law)(p_w:Sl Sound):Option ((Sl Int)×(Sl (Sl Sound))×Int):=
 Aq4 N (fun self1 (x1:Sl Sound) (x2:Sl Int) (x3:Sl (Sl Sound)) (x4:Int)=>
  if (decide (0<=x4)) then
   (Ar N p_l x1 x4).bind fun y5=>
   if (!y5) then
    self1 x1 x2 x3 (wrap .i64 (x4-1))
   else
    (Q4 N p_l x1 x4).bind fun y6=>
    if (decide (32<(y6.n:Int))) then
     some ((Sl.nil:Sl Int),(Sl.nil:Sl (Sl Sound)),11)
    else
     if (((x2.n+(Sl.of [x4]:Sl Int).n)*8<=140737488355328/\x2.n+(Sl.of [x4]:Sl Int).n<=140737488355328)/\((x3.n+(Sl.of [y6]:Sl (Sl Sound)).n)*24<=140737488355328/\x3.n+(Sl.of [y6]:Sl (Sl Sound)).n<=140737488355328))then
      if ((p_l.If.n:Int)==0) then
       self1 y6 (x2.push x4) (x3.push y6) (wrap .i64 ((wrap .i64 (x4-(p_l.If.n:Int)))-1))
      else
       self1 y6 (x2.push x4) (x3.push y6) (wrap .i64 (x4-(p_l.If.n:Int)))
     else none
  else
   some (x2,x3,0)
  ) p_w (Sl.nil:Sl Int) (Sl.nil:Sl (Sl Sound)) (wrap .i64 ((p_w.n:Int)-(p_l.If.n:Int)))
theorem ZZ {N:Nat}{p_l:Law}{p_w:Sl Sound}{y:(Sl Int)×(Sl (Sl Sound))×Int}(h:CW N p_l p_w=some y) :FunO S PJ [.p (.agg (A5 p_l)),.p (vSl 2 A0 p_w)] [] (.tup [.vec 0,.vec 1,pN y.2.2]) ([.vec B9 1 y.1.n (fun i=>cI .i64 (y.1.g i)) true,.vec A8 1 y.2.1.n (fun i=>cL 2 A0 (y.2.1.g i)) true]) []:=by
 unfold CW at h;refine A1 hS ZG ?_;refine Ai4 hS trivial h (fun x1 x2 x3 x4=>⟨[(10,pN x4),(9,pN (p_l.If.n:Int)),(8,.vec 9500),(7,.vec 8500),(2,.reg 3000 0),(1,.p (vSl 2 A0 x1))],[(9500,.vec A8 1 x3.n (fun i=>cL 2 A0 (x3.g i)) false),(8500,.vec B9 1 x2.n (fun i=>cI .i64 (x2.g i)) false),(3000,.cells ((A5 p_l).map .p))]⟩) (ids:=[(3000,3000)]) (fun _ _ _ _ _ self1 x1 x2 x3 x4 hb1 h=>?_);refine kI hS h (fun h=>?_) (fun h=>?_)
 ·refine kC hS h (Nb hS hL) (fun y5 h=>?_);refine kI hS h (fun h=>?_) (fun h=>?_)
  ·exact hb1 _ [(3000,3000),(8500,8500),(9500,9500)] _ x1 x2 x3 (wrap .i64 (x4-1)) trivial h
  ·refine kC hS h (IR hS hL) (fun y6 h=>?_);refine kI hS h (fun h=>?_) (fun h=>?_)
   ·obtain rfl:=B7 h;exact A6 hS trivial ⟨[(6,pN 11),(5,.vec 6701),(4,.vec 5700)],[(6701,.vec A8 1 (Sl.nil:Sl (Sl Sound)).n (fun i=>cL 2 A0 ((Sl.nil:Sl (Sl Sound)).g i)) true),(5700,.vec B9 1 (Sl.nil:Sl Int).n (fun i=>cI .i64 ((Sl.nil:Sl Int).g i)) true)]⟩ [5700,6701] (ids:=[]) ⟨rfl,rfl,rfl⟩
   ·obtain⟨c14,h⟩:=D2 h;refine D3 hS (And.intro (And.intro (And.intro (rfl:true=true) c14.1) (rfl:true=true)) c14.2) (b:=(p_l.If.n:Int)==0) (fun c15=>?_) (fun c15=>?_)
    ·replace h:=itT c15 h;exact hb1 _ [(3000,3000),(8500,38000),(9500,42000)] _ y6 (x2.push x4) (x3.push y6) (wrap .i64 ((wrap .i64 (x4-(p_l.If.n:Int)))-1)) trivial h (hle:=klR [(3,.fn (x3.n+1) (x3.push y6).n (R4 x3.n (fun i=>cL 2 A0 (x3.g i)) (D4 [J2] [(0,cL 2 A0 y6)])) (fun i=>cL 2 A0 ((x3.push y6).g i))),(4,.fn (x2.n+1) (x2.push x4).n (R4 x2.n (fun i=>cI .i64 (x2.g i)) (D4 [pI .i64 0] [(0,cI .i64 x4)])) (fun i=>cI .i64 ((x2.push x4).g i)))] (al1 ⟨rfl,Er (c:=cL 2 A0) (v:=x3) (x:=y6) (z:=[J2]) same rfl rfl⟩ (al1 ⟨rfl,Er (c:=cI .i64) (v:=x2) (x:=x4) (z:=[(pI .i64 0)]) same rfl rfl⟩ al0)))
    ·replace h:=itF c15 h;exact hb1 _ [(3000,3000),(8500,38000),(9500,42000)] _ y6 (x2.push x4) (x3.push y6) (wrap .i64 (x4-(p_l.If.n:Int))) trivial h (hle:=klR [(3,.fn (x3.n+1) (x3.push y6).n (R4 x3.n (fun i=>cL 2 A0 (x3.g i)) (D4 [J2] [(0,cL 2 A0 y6)])) (fun i=>cL 2 A0 ((x3.push y6).g i))),(4,.fn (x2.n+1) (x2.push x4).n (R4 x2.n (fun i=>cI .i64 (x2.g i)) (D4 [pI .i64 0] [(0,cI .i64 x4)])) (fun i=>cI .i64 ((x2.push x4).g i)))] (al1 ⟨rfl,Er (c:=cL 2 A0) (v:=x3) (x:=y6) (z:=[J2]) same rfl rfl⟩ (al1 ⟨rfl,Er (c:=cI .i64) (v:=x2) (x:=x4) (z:=[(pI .i64 0)]) same rfl rfl⟩ al0)))
 ·obtain rfl:=B7 h;exact A6 hS trivial ⟨[(6,pN 0),(5,.vec 9500),(4,.vec 8500)],[(9500,.vec A8 1 x3.n (fun i=>cL 2 A0 (x3.g i)) true),(8500,.vec B9 1 x2.n (fun i=>cI .i64 (x2.g i)) true)]⟩ [8500,9500] (ids:=[(8500,8500),(9500,9500)]) ⟨rfl,rfl,rfl⟩
def Ds (N:Nat)(p_l:Law)(p_w:Sl Sound):Option ((Sl Int)×(Sl (Sl Sound))×Int):=
 (Fb N p_l p_w).bind fun y1=>
 if (y1 != 0) then
  some ((Sl.nil:Sl Int),(Sl.nil:Sl (Sl Sound)),y1)
 else
  if (p_l.Mode==1) then
   (Ge N p_l p_w).bind fun y2=>
   some (y2.1,y2.2.1,y2.2.2)
  else
   if (p_l.Mode==2) then
    (Dr N p_l p_w).bind fun y3=>
    some (y3.1,y3.2.1,y3.2.2)
   else
    (CW N p_l p_w).bind fun y4=>
    some (y4.1,y4.2.1,y4.2.2)
theorem Wv {N:Nat}{p_l:Law}{p_w:Sl Sound}{y:(Sl Int)×(Sl (Sl Sound))×Int}(h:Ds N p_l p_w=some y) :FunO S MG [.p (.agg (A5 p_l)),.p (vSl 2 A0 p_w)] [] (.tup [.vec 0,.vec 1,pN y.2.2]) ([.vec B9 1 y.1.n (fun i=>cI .i64 (y.1.g i)) true,.vec A8 1 y.2.1.n (fun i=>cL 2 A0 (y.2.1.g i)) true]) []:=by
 unfold Ds at h;refine A1 hS VW ?_;refine kC hS h (Wt hS hL) (fun y1 h=>?_);refine kI hS h (fun h=>?_) (fun h=>?_)
 ·obtain rfl:=B7 h;exact A6 hS trivial ⟨[(6,pN y1),(5,.vec 6701),(4,.vec 5700)],[(6701,.vec A8 1 (Sl.nil:Sl (Sl Sound)).n (fun i=>cL 2 A0 ((Sl.nil:Sl (Sl Sound)).g i)) true),(5700,.vec B9 1 (Sl.nil:Sl Int).n (fun i=>cI .i64 ((Sl.nil:Sl Int).g i)) true)]⟩ [5700,6701] (ids:=[]) ⟨rfl,rfl,rfl⟩
 ·refine kI hS h (fun h=>?_) (fun h=>?_)
  ·refine kC hS h (Ak8 hS hL) (fun y2 h=>?_);obtain rfl:=B7 h;exact A6 hS trivial ⟨[(6,pN y2.2.2),(5,.vec 21001),(4,.vec 21000)],[(21001,.vec A8 1 y2.2.1.n (fun i=>cL 2 A0 (y2.2.1.g i)) true),(21000,.vec B9 1 y2.1.n (fun i=>cI .i64 (y2.1.g i)) true)]⟩ [21000,21001] (ids:=[(21000,21000),(21001,21001)]) ⟨rfl,rfl,rfl⟩
  ·refine kI hS h (fun h=>?_) (fun h=>?_)
   ·refine kC hS h (Wu hS hL) (fun y3 h=>?_);obtain rfl:=B7 h;exact A6 hS trivial ⟨[(6,pN y3.2.2),(5,.vec 29001),(4,.vec 29000)],[(29001,.vec A8 1 y3.2.1.n (fun i=>cL 2 A0 (y3.2.1.g i)) true),(29000,.vec B9 1 y3.1.n (fun i=>cI .i64 (y3.1.g i)) true)]⟩ [29000,29001] (ids:=[(29000,29000),(29001,29001)]) ⟨rfl,rfl,rfl⟩
   ·refine kC hS h (ZZ hS hL) (fun y4 h=>?_);obtain rfl:=B7 h;exact A6 hS trivial ⟨[(6,pN y4.2.2),(5,.vec 35001),(4,.vec 35000)],[(35001,.vec A8 1 y4.2.1.n (fun i=>cL 2 A0 (y4.2.1.g i)) true),(35000,.vec B9 1 y4.1.n (fun i=>cI .i64 (y4.1.g i)) true)]⟩ [35000,35001] (ids:=[(35000,35000),(35001,35001)]) ⟨rfl,rfl,rfl⟩
def BV (N:Nat)(p_l:Law)(p_w:Sl Sound):Option ((Sl Sound)×Int):=
 (Ds N p_l p_w).bind fun y1=>
 if (y1.2.2 != 0) then
  some ((Sl.nil:Sl Sound),y1.2.2)
 else
  if ((y1.2.1.n:Int)==0) then
   if (((Sl.of []:Sl Sound).n+p_w.n)*8<=140737488355328/\(Sl.of []:Sl Sound).n+p_w.n<=140737488355328)then
    some ((Sl.of []:Sl Sound).app p_w,0)
   else none
  else
   if ((((0:Int)<=(wrap .i64 ((y1.2.1.n:Int)-1))/\(wrap .i64 ((y1.2.1.n:Int)-1))<(y1.2.1.n:Int))/\(wrap .i64 ((y1.2.1.n:Int)-1)).toNat<y1.2.1.n)/\(((Sl.of []:Sl Sound).n+(y1.2.1.g (wrap .i64 ((y1.2.1.n:Int)-1)).toNat).n)*8<=140737488355328/\(Sl.of []:Sl Sound).n+(y1.2.1.g (wrap .i64 ((y1.2.1.n:Int)-1)).toNat).n<=140737488355328))then
    some ((Sl.of []:Sl Sound).app (y1.2.1.g (wrap .i64 ((y1.2.1.n:Int)-1)).toNat),0)
   else none
theorem Ww {N:Nat}{p_l:Law}{p_w:Sl Sound}{y:(Sl Sound)×Int}(h:BV N p_l p_w=some y) :FunO S ME [.p (.agg (A5 p_l)),.p (vSl 2 A0 p_w)] [] (.tup [.vec 0,pN y.2]) ([.vec A9 2 y.1.n (fun i=>A0 (y.1.g i)) true]) []:=by
 unfold BV at h;refine A1 hS VU ?_;refine kC hS h (Wv hS hL) (fun y1 h=>?_);refine kI hS h (fun h=>?_) (fun h=>?_)
 ·obtain rfl:=B7 h;exact A6 hS trivial ⟨[(5,pN y1.2.2),(4,.vec 5700)],[(5700,.vec A9 2 (Sl.nil:Sl Sound).n (fun i=>A0 ((Sl.nil:Sl Sound).g i)) true)]⟩ [5700] (ids:=[]) ⟨rfl,rfl,rfl⟩
 ·refine kI hS h (fun h=>?_) (fun h=>?_)
  ·obtain⟨c3,h⟩:=D2 h;obtain rfl:=B7 h;exact A6 hS (And.intro (rfl:true=true) c3) ⟨[(5,pN 0),(4,.vec 25000)],[(25000,.vec A9 2 ((Sl.of []:Sl Sound).app p_w).n (fun i=>A0 (((Sl.of []:Sl Sound).app p_w).g i)) true)]⟩ [25000] (ids:=[(25000,25000)]) ⟨rfl,rfl,rfl⟩ (hle:=klR [(1,.fn (0+p_w.n) ((Sl.of []:Sl Sound).app p_w).n (R4 0 (D4 [pI .u32 0,pI .u32 0] []) (fun i=>A0 (p_w.g i))) (fun i=>A0 (((Sl.of []:Sl Sound).app p_w).g i)))] (al1 ⟨rfl,Vr (c:=A0) (v:=(Sl.of []:Sl Sound)) (w:=p_w) (fun i hi=>absurd hi (by omega)) rfl same rfl⟩ al0))
  ·obtain⟨c4,h⟩:=D2 h;obtain rfl:=B7 h;exact A6 hS (And.intro (And.intro (And.intro (rfl:true=true) c4.1.1) c4.1.2) c4.2) ⟨[(5,pN 0),(4,.vec 33000)],[(33000,.vec A9 2 ((Sl.of []:Sl Sound).app (y1.2.1.g (wrap .i64 ((y1.2.1.n:Int)-1)).toNat)).n (fun i=>A0 (((Sl.of []:Sl Sound).app (y1.2.1.g (wrap .i64 ((y1.2.1.n:Int)-1)).toNat)).g i)) true)]⟩ [33000] (ids:=[(33000,33000)]) ⟨rfl,rfl,rfl⟩ (hle:=klR [(1,.fn (0+(y1.2.1.g (wrap .i64 ((y1.2.1.n:Int)-1)).toNat).n) ((Sl.of []:Sl Sound).app (y1.2.1.g (wrap .i64 ((y1.2.1.n:Int)-1)).toNat)).n (R4 0 (D4 [pI .u32 0,pI .u32 0] []) (fun i=>A0 ((y1.2.1.g (wrap .i64 ((y1.2.1.n:Int)-1)).toNat).g i))) (fun i=>A0 (((Sl.of []:Sl Sound).app (y1.2.1.g (wrap .i64 ((y1.2.1.n:Int)-1)).toNat)).g i)))] (al1 ⟨rfl,Vr (c:=A0) (v:=(Sl.of []:Sl Sound)) (w:=y1.2.1.g (wrap .i64 ((y1.2.1.n:Int)-1)).toNat) (fun i hi=>absurd hi (by omega)) rfl same rfl⟩ al0))
def Fc (N:Nat)(p_laws:Sl Law)(p_w:Sl Sound):Option ((Sl (Sl Sound))×Int):=
 (BS N p_laws).bind fun y1=>
 lt (fun (z1:Int)=>
  if (z1 != 0) then
   some ((Sl.nil:Sl (Sl Sound)),z1)
  else
   (CQ N p_w).bind fun y4=>
   S4 N (fun self1 (x2:Sl (Sl Sound)) (x3:Int)=>
    if (decide (x3<(p_laws.n:Int))) then
     if ((((0:Int)<=x3/\x3<(p_laws.n:Int))/\((0:Int)<=x3/\x3<(x2.n:Int)))/\x3.toNat<x2.n)then
      (BV N (p_laws.g x3.toNat) (x2.g x3.toNat)).bind fun y7=>
      if (y7.2 != 0) then
       some ((Sl.nil:Sl (Sl Sound)),y7.2)
      else
       if ((x2.n+(Sl.of [y7.1]:Sl (Sl Sound)).n)*24<=140737488355328/\x2.n+(Sl.of [y7.1]:Sl (Sl Sound)).n<=140737488355328)then
        self1 (x2.push y7.1) (wrap .i64 (x3+1))
       else none
     else none
    else
     some (x2,0)
    ) (Sl.of [y4]:Sl (Sl Sound)) 0
  ) fun k1=>
  if (y1==0) then
   (W1 N p_w).bind fun y3=>
   k1 y3
  else
   k1 y1
theorem Wx {N:Nat}{p_laws:Sl Law}{p_w:Sl Sound}{y:(Sl (Sl Sound))×Int}(h:Fc N p_laws p_w=some y) :FunO S Mx [.p (vSl 18 A5 p_laws),.p (vSl 2 A0 p_w)] [] (.tup [.vec 0,pN y.2]) ([.vec A8 1 y.1.n (fun i=>cL 2 A0 (y.1.g i)) true]) []:=by
 unfold Fc at h;refine A1 hS VO ?_;refine kC hS h (Ws hS hL) (fun y1 h=>?_);refine FM hS trivial (A3 hS) h 0 (fun z1=>⟨[(6,pN z1),(1,.p (vSl 2 A0 p_w)),(0,.p (vSl 18 A5 p_laws))],[]⟩) (fun M1 k1 hb1 h=>?_) (fun z1 h=>?_)
 ·refine kI hS h (fun h=>?_) (fun h=>?_)
  ·refine kC hS h (EZ hS hL) (fun y3 h=>?_);exact hb1 _ [] _ y3 trivial h
  ·exact hb1 _ [] _ y1 trivial h
 ·refine kI hS h (fun h=>?_) (fun h=>?_)
  ·obtain rfl:=B7 h;exact A6 hS trivial ⟨[(5,pN z1),(4,.vec 5700)],[(5700,.vec A8 1 (Sl.nil:Sl (Sl Sound)).n (fun i=>cL 2 A0 ((Sl.nil:Sl (Sl Sound)).g i)) true)]⟩ [5700] (ids:=[]) ⟨rfl,rfl,rfl⟩
  ·refine kC hS h (ZR hS hL) (fun y4 h=>?_);refine F5 hS (rfl:true=true) h (fun x2 x3=>⟨[(8,pN x3),(7,.vec 8500),(0,.p (vSl 18 A5 p_laws))],[(8500,.vec A8 1 x2.n (fun i=>cL 2 A0 (x2.g i)) false)]⟩) (ids:=[(8500,23000)]) (fun _ _ _ _ _ self1 x2 x3 hb2 h=>?_) (hle:=klR [(2,.fn 1 (Sl.of [y4]:Sl (Sl Sound)).n (D4 [J2] [(0,cL 2 A0 y4)]) (fun i=>cL 2 A0 ((Sl.of [y4]:Sl (Sl Sound)).g i)))] (al1 ⟨rfl,(fun i hi=>match i,hi with|0,_=>rfl|_+1,hi=>absurd hi (by omega))⟩ al0));refine kI hS h (fun h=>?_) (fun h=>?_)
   ·refine D7 hS trivial [2,3] ?_;obtain⟨c12,h⟩:=D2 h;obtain⟨y7,e7,h⟩:=B6 h;refine GX [] (And.intro (And.intro (And.intro c12.1.1 (by decide:(18:Nat)<=18)) c12.1.2) c12.2) (Ww hS hL e7) ?_;refine H5 trivial ?_;refine kI hS h (fun h=>?_) (fun h=>?_)
    ·obtain rfl:=B7 h;exact A6 hS trivial ⟨[(5,pN y7.2),(4,.vec 5700)],[(5700,.vec A8 1 (Sl.nil:Sl (Sl Sound)).n (fun i=>cL 2 A0 ((Sl.nil:Sl (Sl Sound)).g i)) true)]⟩ [5700] (ids:=[]) ⟨rfl,rfl,rfl⟩
    ·obtain⟨c14,h⟩:=D2 h;exact hb2 _ [(8500,48000)] _ (x2.push y7.1) (wrap .i64 (x3+1)) (And.intro (rfl:true=true) c14) h (hle:=klR [(2,.fn (x2.n+1) (x2.push y7.1).n (R4 x2.n (fun i=>cL 2 A0 (x2.g i)) (D4 [J2] [(0,cL 2 A0 y7.1)])) (fun i=>cL 2 A0 ((x2.push y7.1).g i)))] (al1 ⟨rfl,Er (c:=cL 2 A0) (v:=x2) (x:=y7.1) (z:=[J2]) same rfl rfl⟩ al0))
   ·obtain rfl:=B7 h;exact A6 hS trivial ⟨[(5,pN 0),(4,.vec 8500)],[(8500,.vec A8 1 x2.n (fun i=>cL 2 A0 (x2.g i)) true)]⟩ [8500] (ids:=[(8500,8500)]) ⟨rfl,rfl,rfl⟩
def Cp (N:Nat)(p_laws:Sl Law)(p_w:Sl Sound):Option ((Sl Sound)×Int):=
 (Fc N p_laws p_w).bind fun y1=>
 if (y1.2 != 0) then
  some ((Sl.nil:Sl Sound),y1.2)
 else
  if (((0:Int)<=(wrap .i64 ((y1.1.n:Int)-1))/\(wrap .i64 ((y1.1.n:Int)-1))<(y1.1.n:Int))/\(wrap .i64 ((y1.1.n:Int)-1)).toNat<y1.1.n)then
   some (y1.1.g (wrap .i64 ((y1.1.n:Int)-1)).toNat,0)
  else none
theorem Ua {N:Nat}{p_laws:Sl Law}{p_w:Sl Sound}{y:(Sl Sound)×Int}(h:Cp N p_laws p_w=some y) :FunO S Ko [.p (vSl 18 A5 p_laws),.p (vSl 2 A0 p_w)] [] (.tup [.p (vSl 2 A0 y.1),pN y.2]) ([]) []:=by
 unfold Cp at h;refine A1 hS Tq ?_;refine kC hS h (Wx hS hL) (fun y1 h=>?_);refine kI hS h (fun h=>?_) (fun h=>?_)
 ·obtain rfl:=B7 h;exact A6 hS trivial ⟨[(5,pN y1.2),(4,.p (vSl 2 A0 (Sl.nil:Sl Sound)))],[]⟩ [] (ids:=[]) ⟨rfl,rfl,rfl⟩
 ·obtain⟨c2,h⟩:=D2 h;obtain rfl:=B7 h;exact Aw0 hS c2 [] ⟨rfl,rfl,rfl⟩
end Go.AM
namespace Go.AM
open IntKind (wrap)
open Go.Proofs
set_option maxRecDepth 10000
set_option maxHeartbeats 2000000
variable {S:Bd}(hS:G6 S Tryz.prog) (hL:RY S)
include hS hL
def P8 (N:Nat)(q0:Int):Option (List (Int)):=
 R5 N (fun self1 (x1:Int)=>
  if (x1 != 0) then
   (F8 N x1).bind fun y3=>
   if (0:Int)<=y3 then
    Be y3 (
     self1 (E4 .andNot .u64 x1 (shI .shl .u64 1 y3))
     )
   else none
  else
   some []
  ) q0
theorem CB {N:Nat}{q0:Int}{L:List (Int)}(h:P8 N q0=some L) :Dx S AJ [] [.reg 0 0] [.cells [.p (pI .u64 q0)]] (L.map (fun (x:Int)=>[pI .i64 x])):=by
 unfold P8 at h;refine EP hS Fu ?_;refine EO hS trivial h (fun x1 L1=>⟨[(1,.reg 0 0),(0,.yf 1)],[(1,.yld (L1.map (fun (x:Int)=>[pI .i64 x])) true),(0,.cells [.p (pI .u64 x1)])]⟩) (ids:=[(0,0),(1,1)]) (fun _ _ _ _ _ self1 x1 L1 hb1 h=>?_);refine kI hS h (fun h=>?_) (fun h=>?_)
 ·refine kC hS h (Dk hS hL) (fun y3 h=>?_);refine LY hS trivial ?_;obtain⟨c10,h⟩:=D2 h;refine H5 c10 ?_;obtain⟨L4,rfl,hcL4⟩:=Ma h;replace h:=hcL4;refine Dh hS trivial (ys:=(fun (x:Int)=>[pI .i64 x]) y3) (rest:=L4.map (fun (x:Int)=>[pI .i64 x])) ?_ ?_
  ·refine D3 hS trivial (b:=false) (fun c11=>?_) (fun c11=>?_)
   ·exact Bool.noConfusion ((rfl:false=false).symm.trans c11)
   ·exact hb1 _ [(0,0),(1,1)] _ (E4 .andNot .u64 x1 (shI .shl .u64 1 y3)) L4 trivial h
  ·refine D3 hS trivial (b:=true) (fun c12=>?_) (fun c12=>?_)
   ·exact A6 hS trivial (a:=.tup []) (objs:=[(.cells [.p (pI .u64 (E4 .andNot .u64 x1 (shI .shl .u64 1 y3)))]),.yld [] false]) ⟨[],[(1,.yld [] false),(0,.cells [.p (pI .u64 (E4 .andNot .u64 x1 (shI .shl .u64 1 y3)))])]⟩ [0,1] (ids:=[(0,0),(1,1)]) ⟨false,rfl,rfl,_,rfl⟩
   ·exact Bool.noConfusion ((rfl:true=true).symm.trans c12)
 ·obtain rfl:=B7 h;exact A6 hS trivial (a:=.tup []) (objs:=[(.cells [.p (pI .u64 x1)]),.yld [] true]) ⟨[],[(1,.yld [] true),(0,.cells [.p (pI .u64 x1)])]⟩ [0,1] (ids:=[(0,0),(1,1)]) ⟨true,rfl,rfl,_,rfl⟩
def At (N:Nat)(p_s:Int):Option (Int):=
 some p_s
theorem DW {N:Nat}{p_s:Int}{y:Int}(h:At N p_s=some y) :FunO S Hu [.p (pI .u64 p_s)] [] (.clo AJ [] [.reg 0 0]) ([.cells [.p (pI .u64 y)]]) []:=by unfold At at h;refine A1 hS Or ?_;obtain rfl:=B7 h;exact A6 hS trivial ⟨[(2,.clo AJ [] [.reg 2000 0])],[(2000,.cells [.p (pI .u64 p_s)])]⟩ [2000] (ids:=[(2000,2000)]) ⟨rfl,rfl,rfl⟩
def D9 (N:Nat)(p_x:Nat->Int)(p_y:Nat->Int):Option (Nat->Int):=
 S4 N (fun self3 (x3:Nat->Int) (x4:Int)=>
  if (decide (x4<33)) then
   if (((0:Int)<=x4/\x4<33)/\(0+x4.toNat*1)<33)then
    (At N (p_x (0+x4.toNat*1))).bind fun y3=>
    (P8 N y3).bind fun L3=>
    P4 L3 (fun self4 (x7:Int) (z3:Nat->Int)=>
     if (((((((0:Int)<=x4/\x4<33)/\(0+x4.toNat*1)<33)/\((0:Int)<=x7/\x7<33))/\(0+x7.toNat*1)<33)/\((0:Int)<=x4/\x4<33))/\(0+x4.toNat*1)<33)then
      self4 (Mc z3 (0+x4.toNat*1) (E4 .or .u64 (z3 (0+x4.toNat*1)) (p_y (0+x7.toNat*1))))
     else none
     ) (fun (z3:Nat->Int)=>
      self3 z3 (wrap .i64 (x4+1))
     ) x3
   else none
  else
   some x3
  ) (fun _=>0) 0
theorem R8 {N:Nat}{p_x:Nat->Int}{p_y:Nat->Int}{y:Nat->Int}(h:D9 N p_x p_y=some y) :FunO S Af [.reg 0 0,.reg 1 0] [.arr 33 (fun i=>pI .u64 (p_x i)),.arr 33 (fun i=>pI .u64 (p_y i))] (.p (.agg (cA 33 (pI .u64) y))) ([.arr 33 (fun i=>pI .u64 (p_x i)),.arr 33 (fun i=>pI .u64 (p_y i))]) [true,true]:=by
 unfold D9 at h;refine A1 hS CF ?_;refine F5 hS trivial h (fun x3 x4=>⟨[(10,pN x4),(9,.reg 0 0),(5,.reg 6000 0),(4,.reg 5000 0),(3,.reg 4000 0)],[(6000,.arr 33 (fun i=>pI .u64 (x3 i))),(5000,.arr 33 (fun i=>pI .u64 ((fun _=>0) i))),(4000,.cells [.reg 1 0]),(1,.arr 33 (fun i=>pI .u64 (p_y i))),(0,.arr 33 (fun i=>pI .u64 (p_x i)))]⟩) (ids:=[(0,0),(1,1),(4000,4000),(5000,5000),(6000,6000)]) (fun _ _ _ _ _ self3 x3 x4 hb3 h=>?_) (hle:=klR [(1,.fn 33 33 (fun i=>[(fun i=>(List.replicate 33 (pI .u64 0)).getD i default) i]) (fun i=>[pI .u64 ((fun _=>0) i)])),(2,.fn 33 33 (fun i=>[(fun i=>(List.replicate 33 (pI .u64 0)).getD i default) i]) (fun i=>[pI .u64 ((fun _=>0) i)]))] (al1 ⟨rfl,BN (z:=pI .u64 0) rfl⟩ (al1 ⟨rfl,BN (z:=pI .u64 0) rfl⟩ al0)));refine kI hS h (fun h=>?_) (fun h=>?_)
 ·refine U7 hS trivial [(2,.l [0]),(3,.l [0]),(4,.a [7000]),(5,.a [7000])] ?_;obtain⟨c12,h⟩:=D2 h;refine H5 c12 ?_;refine J3 hS trivial 16 7000 [pI .i64 x4] ?_;refine kC hS h (DW hS hL) (fun y3 h=>?_);obtain⟨L3,e6,h⟩:=B6 h;refine FO hS trivial [18000] [10,9,6,5,4,3] 905 (fun z3=>⟨[(10,pN x4),(9,.reg 0 0),(6,.p (.ptr [pI .i64 x4])),(5,.reg 6000 0),(4,.reg 5000 0),(3,.reg 4000 0)],[(6000,.arr 33 (fun i=>pI .u64 (z3 i))),(5000,.arr 33 (fun i=>pI .u64 ((fun _=>0) i))),(4000,.cells [.reg 1 0]),(1,.arr 33 (fun i=>pI .u64 (p_y i))),(0,.arr 33 (fun i=>pI .u64 (p_x i)))]⟩) (idl:=[(0,0),(1,1),(4000,4000),(5000,5000),(6000,6000)]) h (CB hS hL e6) (fun _=>by kernel_rfl) (fun _=>by kernel_rfl) (fun _=>by kernel_rfl) (fun _=>by kernel_rfl) (fun x7 _ self4 z3 hb4 h=>?_) (fun z3 h=>?_)
  ·refine HL hS trivial ?_;refine U7 hS trivial [(0,.n),(1,.l [6000]),(2,.l [6000]),(3,.l [4000]),(6,.l [1]),(7,.l [1]),(9,.l [6000]),(10,.a [6000])] ?_;obtain⟨c15,h⟩:=D2 h;refine H5 c15 ?_;exact hb4 _ [(0,0),(1,1),(905,905),(4000,4000),(5000,5000),(6000,6000)] _ (Mc z3 (0+x4.toNat*1) (E4 .or .u64 (z3 (0+x4.toNat*1)) (p_y (0+x7.toNat*1)))) trivial h (hle:=klR [(0,.fn 33 33 (fun i=>[(fun i=>if i=(0+x4.toNat*1)then (pI .u64 (E4 .or .u64 (z3 (0+x4.toNat*1)) (p_y (0+x7.toNat*1))))else (fun i=>pI .u64 (z3 i)) i) i]) (fun i=>[pI .u64 (Mc z3 (0+x4.toNat*1) (E4 .or .u64 (z3 (0+x4.toNat*1)) (p_y (0+x7.toNat*1))) i)]))] (al1 ⟨rfl,AK1 (c:=pI .u64) (v:=z3) (x:=E4 .or .u64 (z3 (0+x4.toNat*1)) (p_y (0+x7.toNat*1))) (fun _ _=>rfl) rfl⟩ al0))
  ·exact hb3 _ [(0,0),(1,1),(4000,4000),(5000,5000),(6000,6000)] _ z3 (wrap .i64 (x4+1)) trivial h
 ·obtain rfl:=B7 h;exact A6 hS (And.intro rfl (F2 _ _):(0:Nat)=0/\(Cy 33 (fun i=>pI .u64 (x3 i))).length=33) ⟨[(4,.reg 5000 0)],[(5000,.arr 33 (fun i=>pI .u64 (x3 i))),(1,.arr 33 (fun i=>pI .u64 (p_y i))),(0,.arr 33 (fun i=>pI .u64 (p_x i)))]⟩ [0,1] (ids:=[(0,0),(1,1),(5000,5000)]) ⟨rfl,rfl,rfl⟩ (hle:=klR [(0,.fn 33 33 (fun i=>[(fun i=>(cA 33 (pI .u64) x3).getD i default) i]) (fun i=>[pI .u64 (x3 i)]))] (al1 ⟨rfl,E2 33 (fun i=>pI .u64 (x3 i))⟩ al0))
def H6 (N:Nat)(p_x:Nat->Int):Option (Nat->Int):=
 S4 N (fun self3 (x3:Nat->Int) (x4:Int)=>
  if (decide (x4<33)) then
   if (((0:Int)<=x4/\x4<33)/\(0+x4.toNat*1)<33)then
    (At N (p_x (0+x4.toNat*1))).bind fun y3=>
    (P8 N y3).bind fun L3=>
    P4 L3 (fun self4 (x7:Int) (z3:Nat->Int)=>
     if (((((((0:Int)<=x4/\x4<33)/\(0+x4.toNat*1)<33)/\((0:Int)<=x7/\x7<33))/\(0+x7.toNat*1)<33)/\((0:Int)<=x4/\x4<33))/\(0+x4.toNat*1)<33)then
      self4 (Mc z3 (0+x4.toNat*1) (E4 .or .u64 (z3 (0+x4.toNat*1)) (p_x (0+x7.toNat*1))))
     else none
     ) (fun (z3:Nat->Int)=>
      self3 z3 (wrap .i64 (x4+1))
     ) x3
   else none
  else
   some x3
  ) (fun _=>0) 0
theorem Cq {N:Nat}{p_x:Nat->Int}{y:Nat->Int}(h:H6 N p_x=some y) :FunO S Af [.reg 0 0,.reg 0 0] [.arr 33 (fun i=>pI .u64 (p_x i))] (.p (.agg (cA 33 (pI .u64) y))) ([.arr 33 (fun i=>pI .u64 (p_x i))]) [true]:=by
 unfold H6 at h;refine A1 hS CF ?_;refine F5 hS trivial h (fun x3 x4=>⟨[(10,pN x4),(9,.reg 0 0),(5,.reg 6000 0),(4,.reg 5000 0),(3,.reg 4000 0)],[(6000,.arr 33 (fun i=>pI .u64 (x3 i))),(5000,.arr 33 (fun i=>pI .u64 ((fun _=>0) i))),(4000,.cells [.reg 0 0]),(0,.arr 33 (fun i=>pI .u64 (p_x i)))]⟩) (ids:=[(0,0),(4000,4000),(5000,5000),(6000,6000)]) (fun _ _ _ _ _ self3 x3 x4 hb3 h=>?_) (hle:=klR [(1,.fn 33 33 (fun i=>[(fun i=>(List.replicate 33 (pI .u64 0)).getD i default) i]) (fun i=>[pI .u64 ((fun _=>0) i)])),(2,.fn 33 33 (fun i=>[(fun i=>(List.replicate 33 (pI .u64 0)).getD i default) i]) (fun i=>[pI .u64 ((fun _=>0) i)]))] (al1 ⟨rfl,BN (z:=pI .u64 0) rfl⟩ (al1 ⟨rfl,BN (z:=pI .u64 0) rfl⟩ al0)));refine kI hS h (fun h=>?_) (fun h=>?_)
 ·refine U7 hS trivial [(2,.l [0]),(3,.l [0]),(4,.a [7000]),(5,.a [7000])] ?_;obtain⟨c12,h⟩:=D2 h;refine H5 c12 ?_;refine J3 hS trivial 16 7000 [pI .i64 x4] ?_;refine kC hS h (DW hS hL) (fun y3 h=>?_);obtain⟨L3,e6,h⟩:=B6 h;refine FO hS trivial [18000] [10,9,6,5,4,3] 905 (fun z3=>⟨[(10,pN x4),(9,.reg 0 0),(6,.p (.ptr [pI .i64 x4])),(5,.reg 6000 0),(4,.reg 5000 0),(3,.reg 4000 0)],[(6000,.arr 33 (fun i=>pI .u64 (z3 i))),(5000,.arr 33 (fun i=>pI .u64 ((fun _=>0) i))),(4000,.cells [.reg 0 0]),(0,.arr 33 (fun i=>pI .u64 (p_x i)))]⟩) (idl:=[(0,0),(4000,4000),(5000,5000),(6000,6000)]) h (CB hS hL e6) (fun _=>by kernel_rfl) (fun _=>by kernel_rfl) (fun _=>by kernel_rfl) (fun _=>by kernel_rfl) (fun x7 _ self4 z3 hb4 h=>?_) (fun z3 h=>?_)
  ·refine HL hS trivial ?_;refine U7 hS trivial [(0,.n),(1,.l [6000]),(2,.l [6000]),(3,.l [4000]),(6,.l [0]),(7,.l [0]),(9,.l [6000]),(10,.a [6000])] ?_;obtain⟨c15,h⟩:=D2 h;refine H5 c15 ?_;exact hb4 _ [(0,0),(905,905),(4000,4000),(5000,5000),(6000,6000)] _ (Mc z3 (0+x4.toNat*1) (E4 .or .u64 (z3 (0+x4.toNat*1)) (p_x (0+x7.toNat*1)))) trivial h (hle:=klR [(0,.fn 33 33 (fun i=>[(fun i=>if i=(0+x4.toNat*1)then (pI .u64 (E4 .or .u64 (z3 (0+x4.toNat*1)) (p_x (0+x7.toNat*1))))else (fun i=>pI .u64 (z3 i)) i) i]) (fun i=>[pI .u64 (Mc z3 (0+x4.toNat*1) (E4 .or .u64 (z3 (0+x4.toNat*1)) (p_x (0+x7.toNat*1))) i)]))] (al1 ⟨rfl,AK1 (c:=pI .u64) (v:=z3) (x:=E4 .or .u64 (z3 (0+x4.toNat*1)) (p_x (0+x7.toNat*1))) (fun _ _=>rfl) rfl⟩ al0))
  ·exact hb3 _ [(0,0),(4000,4000),(5000,5000),(6000,6000)] _ z3 (wrap .i64 (x4+1)) trivial h
 ·obtain rfl:=B7 h;exact A6 hS (And.intro rfl (F2 _ _):(0:Nat)=0/\(Cy 33 (fun i=>pI .u64 (x3 i))).length=33) ⟨[(4,.reg 5000 0)],[(5000,.arr 33 (fun i=>pI .u64 (x3 i))),(0,.arr 33 (fun i=>pI .u64 (p_x i)))]⟩ [0] (ids:=[(0,0),(5000,5000)]) ⟨rfl,rfl,rfl⟩ (hle:=klR [(0,.fn 33 33 (fun i=>[(fun i=>(cA 33 (pI .u64) x3).getD i default) i]) (fun i=>[pI .u64 (x3 i)]))] (al1 ⟨rfl,E2 33 (fun i=>pI .u64 (x3 i))⟩ al0))
def F1 (N:Nat)(p_x:Nat->Int)(p_k:Int)(p_n:Int):Option (Nat->Int):=
 (P0 N p_n).bind fun y1=>
 AI6 N (fun self1 (x1:Int) (x2:Nat->Int) (x3:Nat->Int)=>
  if (decide (0<x1)) then
   if ((E4 .and .i64 x1 1)==1) then
    (D9 N x3 x2).bind fun y8=>
    (H6 N x2).bind fun y9=>
    self1 (shI .shr .i64 x1 1) y9 y8
   else
    (H6 N x2).bind fun y10=>
    self1 (shI .shr .i64 x1 1) y10 x3
  else
   some x3
  ) p_k p_x y1
theorem W6 {N:Nat}{p_x:Nat->Int}{p_k:Int}{p_n:Int}{y:Nat->Int}(h:F1 N p_x p_k p_n=some y) :FunO S Cl [.p (.agg (cA 33 (pI .u64) p_x)),pN p_k,pN p_n] [] (.p (.agg (cA 33 (pI .u64) y))) ([]) []:=by
 unfold F1 at h;refine A1 hS Ga ?_;refine kC hS h (Dn hS hL) (fun y1 h=>?_);refine SW hS (And.intro rfl (F2 _ _):(0:Nat)=0/\(Cy 33 (fun i=>pI .u64 (y1 i))).length=33) h (fun x1 x2 x3=>⟨[(7,.reg 8000 0),(6,.reg 7000 0),(3,.reg 4000 0),(1,pN x1)],[(8000,.arr 33 (fun i=>pI .u64 (x3 i))),(7000,.arr 33 (fun i=>pI .u64 ((fun _=>0) i))),(4000,.arr 33 (fun i=>pI .u64 (x2 i)))]⟩) (ids:=[(4000,4000),(7000,7000),(8000,8000)]) (fun _ _ _ _ _ self1 x1 x2 x3 hb1 h=>?_) (hle:=klR [(1,.fn 33 33 (fun i=>[(fun i=>(cA 33 (pI .u64) y1).getD i default) i]) (fun i=>[pI .u64 (y1 i)])),(2,.fn 33 33 (fun i=>[(fun i=>(List.replicate 33 (pI .u64 0)).getD i default) i]) (fun i=>[pI .u64 ((fun _=>0) i)])),(3,.fn 33 33 (fun i=>[(fun i=>(cA 33 (pI .u64) p_x).getD i default) i]) (fun i=>[pI .u64 (p_x i)]))] (al1 ⟨rfl,E2 33 (fun i=>pI .u64 (y1 i))⟩ (al1 ⟨rfl,BN (z:=pI .u64 0) rfl⟩ (al1 ⟨rfl,E2 33 (fun i=>pI .u64 (p_x i))⟩ al0))));refine kI hS h (fun h=>?_) (fun h=>?_)
 ·refine kI hS h (fun h=>?_) (fun h=>?_)
  ·obtain⟨y8,e8,h⟩:=B6 h;refine B8 hS [8000,4000] trivial (R8 hS hL e8) ?_;obtain⟨y9,e9,h⟩:=B6 h;refine B8 hS [4000] (And.intro rfl (F2 _ _):(0:Nat)=0/\(Cy 33 (fun i=>pI .u64 (y8 i))).length=33) (Cq hS hL e9) ?_;exact hb1 _ [(4000,4000),(7000,7000),(8000,8000)] _ (shI .shr .i64 x1 1) y9 y8 (And.intro (And.intro rfl (F2 _ _):(0:Nat)=0/\(Cy 33 (fun i=>pI .u64 (y9 i))).length=33) (by decide:(0:Int)<=1)) h (hle:=klR [(1,.fn 33 33 (fun i=>[(fun i=>(cA 33 (pI .u64) y8).getD i default) i]) (fun i=>[pI .u64 (y8 i)])),(3,.fn 33 33 (fun i=>[(fun i=>(cA 33 (pI .u64) y9).getD i default) i]) (fun i=>[pI .u64 (y9 i)]))] (al1 ⟨rfl,E2 33 (fun i=>pI .u64 (y8 i))⟩ (al1 ⟨rfl,E2 33 (fun i=>pI .u64 (y9 i))⟩ al0)))
  ·obtain⟨y10,e10,h⟩:=B6 h;refine B8 hS [4000] trivial (Cq hS hL e10) ?_;exact hb1 _ [(4000,4000),(7000,7000),(8000,8000)] _ (shI .shr .i64 x1 1) y10 x3 (And.intro (And.intro rfl (F2 _ _):(0:Nat)=0/\(Cy 33 (fun i=>pI .u64 (y10 i))).length=33) (by decide:(0:Int)<=1)) h (hle:=klR [(3,.fn 33 33 (fun i=>[(fun i=>(cA 33 (pI .u64) y10).getD i default) i]) (fun i=>[pI .u64 (y10 i)]))] (al1 ⟨rfl,E2 33 (fun i=>pI .u64 (y10 i))⟩ al0))
 ·obtain rfl:=B7 h;exact A6 hS (And.intro rfl (F2 _ _):(0:Nat)=0/\(Cy 33 (fun i=>pI .u64 (x3 i))).length=33) ⟨[(6,.reg 7000 0)],[(7000,.arr 33 (fun i=>pI .u64 (x3 i)))]⟩ [] (ids:=[(7000,7000)]) ⟨rfl,rfl,rfl⟩ (hle:=klR [(0,.fn 33 33 (fun i=>[(fun i=>(cA 33 (pI .u64) x3).getD i default) i]) (fun i=>[pI .u64 (x3 i)]))] (al1 ⟨rfl,E2 33 (fun i=>pI .u64 (x3 i))⟩ al0))
end Go.AM
