/- Part 6. -/
import Derived.Test.YtndjjecpdipknaaGreatDoorWE
import Derived.Test.YtndjjecpdipknaaGreatDoorWD
import Derived.RecoverIn
import Derived.Test.YtndjjecpdipknaaGreatDoorProg
import Derived.Lib.SlTrimSet
import Derived.Lib.Join
import Derived.Lib.ItoaNum
import Derived.Lib.Bytealg
import Derived.TacticsInMore
set_option linter.defProp false
set_option linter.unusedSimpArgs false
set_option linter.unusedVariables false
set_option linter.unusedSectionVars false
namespace Go.AM
def Qu:=@And.intro
abbrev Qt(k n:Nat):Prop:=n*k<=140737488355328/\n<=140737488355328
def Qp(l:List Nat):List (Nat×Nat):=l.map fun a=>(a,a)
abbrev Q5:Sl Int:=Sl.nil
def Nm:true=true:=rfl
def Nl:(18:Nat)<=18:=by decide
def Nk:(7:Nat)<=7:=by decide
def Nh:(2:Nat)<=2:=by decide
noncomputable abbrev By1:=Go.Proofs.Tryz.prog.funcs
def BN3:=@BitVec.toNat_ofNat
def Hg (D:List Deferred)(a:Act)(d:Option Tmp)(v:Value):(RH D a).put d v=RH D (a.put d v):=by cases d<;>rfl
def Md {F:Fence}{n:Nat}{P:Program}{ops:Array Oper}{Q:Exit->Act->World->Prop}(D:List Deferred):∀(l:List Nat) (a:Act) (w:World),wpOpsIn F n P ops Q l a w ->
 wpOpsIn F n P ops (λe a' w'=>∃a0,a' = RH D a0/\Q e a0 w') l (RH D a) w
 |[],a,w,h=>⟨a,rfl,h⟩
 |i::l,a,w,h=>by
  have ih:=Md (F:=F) (n:=n) (P:=P) (ops:=ops) (Q:=Q) D l;simp only[wpOpsIn]at h⊢;have e1:(RH D a).eval=a.eval:=by funext x;cases x<;>rfl
  have e2:(RH D a).tmps=a.tmps:=rfl;cases j:ops[i]? with
  |none=>simp only[j]at h⊢;exact ih a w h
  |some o=>
   simp only[j]at h⊢;rw[e2,e1];by_cases hw:Region.wanted o (yielded ops a.tmps)=true
   .rw[Gy hw]at h⊢;refine⟨by rw[e1];exact h.1,?_⟩;have b:=h.2;rw[e1];generalize (o.semAt F.round a.eval).run P w=r at b;unfold Oper.uponIn at b⊢;split at b
    .rw[Hg];exact ih _ _ b
    .rw[Hg];exact ih _ _ b
    .exact ih _ _ b |> λx=>by
      rename_i d w'
      have:({ (RH D a)with defers:=d::(RH D a).defers }:Act).put o.dst undef=RH D (({ a with defers:=d::a.defers }:Act).put o.dst undef):=by rw[<- Hg];rfl
      rw[this];exact x
    .refine⟨b.1,b.2.mono ?_⟩;intro e w' f;cases e with
     |returned v=>have:=ih _ _ f;rw[<- Hg]at this;exact this
     |panicked ch=>exact⟨a,rfl,f⟩
     |outgrown=>obtain⟨a1,w1,g⟩:=f;exact⟨RH D a1,w1,a1,rfl,g⟩
    .refine⟨b.1,λc cs m=>?_⟩;obtain⟨v,w',g1,g2⟩:=b.2 c cs m;exact⟨v,w',by have:=ih _ _ g1;rw[<- Hg]at this;exact this,g2⟩
    .refine⟨b.1,b.2.mono ?_⟩;intro e w' f;cases e with
     |returned v=>have:=ih _ _ f;rw[<- Hg]at this;exact this
     |panicked ch=>exact⟨a,rfl,f⟩
     |outgrown=>obtain⟨a1,w1,g⟩:=f;exact⟨RH D a1,w1,a1,rfl,g⟩
    .exact⟨a,rfl,b⟩
    exact b.elim
   rw[Hj hw]at h⊢;rw[Hg];exact⟨h.1,ih _ _ h.2⟩
section
variable {P:Program}{C:Ctx}{st:St}{rho:Nat->Value}
def Hh {fn:Func}{R:Ending->World->Prop}{u:FrameMode}(c:u ≠ .run){tmps:Array Value}{D:List Deferred}(b:∀a w,Sat C st a w rho->a.tmps=tmps->LeavesInM Fence.wide 0 P fn tmps R D u w) :∀(ds:List Deferred) (a:Act) (w:World),a.defers=ds->a.tmps=tmps->Sat C st a w rho->LeavesInM Fence.wide 0 P fn tmps R (ds++D) u w
 |[],a,w,hd,ht,h=>b a w h ht
 |d::ds,a,w,hd,ht,h=>by obtain⟨r,w',h1,f,g⟩:=h.unmark hd;exact⟨c,.inl ⟨r,w',h1,f,Hh c b ds { a with defers:=ds } w' rfl ht g⟩⟩
end
structure Node where
 Sk:Int
 Name:Str
 deriving Inhabited,DecidableEq
abbrev D8 (x:Node):List PV:=[(pI .i64 x.Sk),.str x.Name]
structure Qj where
 Plus:Int
 Minus:Int
 deriving Inhabited,DecidableEq
abbrev A0 (x:Qj):List PV:=[(pI .u32 x.Plus),pI .u32 x.Minus]
inductive Pat where
 |nil
 |mk (Kind:Int) (Is:Qj) (Not:Bool) (Min:Int) (Max:Int) (n:Nat) (g:Nat->Pat)
instance:Inhabited Pat:=⟨.nil⟩
def Pat.Kind:Pat->Int
 |.nil=>0
 |.mk x _ _ _ _ _ _=>x
def Pat.Is:Pat->Qj
 |.nil=>default
 |.mk _ x _ _ _ _ _=>x
def Pat.Not:Pat->Bool
 |.nil=>false
 |.mk _ _ x _ _ _ _=>x
def Pat.Min:Pat->Int
 |.nil=>0
 |.mk _ _ _ x _ _ _=>x
def Pat.Max:Pat->Int
 |.nil=>0
 |.mk _ _ _ _ x _ _=>x
def Pat.L:Pat->Sl Pat
 |.nil=>⟨0,λ_=>.nil⟩
 |.mk _ _ _ _ _ n g=>⟨n,g⟩
def Du:Pat->Nat->List PV
 |.nil=>λ_=>[]
 |.mk _ _ _ _ _ n g=>λi=>[(pI .i64 (g i).Kind),pI .u32 (g i).Is.Plus,pI .u32 (g i).Is.Minus,.bb (g i).Not,pI .i64 (g i).Min,pI .i64 (g i).Max,.sl false 7 (g i).L.n (Du (g i))]
abbrev C0 (x:Pat):List PV:=[(pI .i64 x.Kind),pI .u32 x.Is.Plus,pI .u32 x.Is.Minus,.bb x.Not,pI .i64 x.Min,pI .i64 x.Max,.sl false 7 x.L.n (Du x)]
def V8 (x:Pat):∀i,i<x.L.n->Du x i=C0 (x.L.g i):=by
 cases x with
 |nil=>intro i a;exact Ij (show i<0 from a) (by omega)
 |mk Kind Is Not Min Max n g=>exact λ_ _=>rfl
structure Dv where
 From:Int
 Clear:Int
 Set:Qj
 Take:Int
 Of:Int
 deriving Inhabited,DecidableEq
abbrev Z9 (x:Dv):List PV:=[(pI .i64 x.From),pI .u32 x.Clear,pI .u32 x.Set.Plus,pI .u32 x.Set.Minus,pI .u32 x.Take,pI .i64 x.Of]
structure Law where
 Name:Str
 Left:Pat
 Right:Pat
 If:(Sl Qj)
 Out:(Sl Dv)
 Mode:Int
 deriving Inhabited
abbrev B6 (x:Law):List PV:=[(.str x.Name),pI .i64 x.Left.Kind,pI .u32 x.Left.Is.Plus,pI .u32 x.Left.Is.Minus,.bb x.Left.Not,pI .i64 x.Left.Min,pI .i64 x.Left.Max,.sl false 7 x.Left.L.n (Du x.Left),pI .i64 x.Right.Kind,pI .u32 x.Right.Is.Plus,pI .u32 x.Right.Is.Minus,.bb x.Right.Not,pI .i64 x.Right.Min,pI .i64 x.Right.Max,.sl false 7 x.Right.L.n (Du x.Right),vSl 2 A0 x.If,vSl 6 Z9 x.Out,pI .i64 x.Mode]
structure Si where
 Tree:(Sl Node)
 Laws:(Sl Law)
 On:(Sl (Sl Int))
 deriving Inhabited
abbrev A8 (x:Si):List PV:=[(vSl 2 D8 x.Tree),vSl 18 B6 x.Laws,vSl 1 (cL 1 (cI .i64)) x.On]
structure F2 where
 Sp:Str
 S:Qj
 deriving Inhabited,DecidableEq
abbrev D5 (x:F2):List PV:=[(.str x.Sp),pI .u32 x.S.Plus,pI .u32 x.S.Minus]
structure Fw where
 Text:Str
 Clear:Int
 Set:Qj
 deriving Inhabited,DecidableEq
abbrev S5 (x:Fw):List PV:=[(.str x.Text),pI .u32 x.Clear,pI .u32 x.Set.Plus,pI .u32 x.Set.Minus]
structure U9 where
 Has:Bool
 W:(Sl Qj)
 deriving Inhabited
abbrev G4 (x:U9):List PV:=[(.bb x.Has),vSl 2 A0 x.W]
structure So where
 Gloss:Str
 Sn:(Sl U9)
 deriving Inhabited
abbrev G5 (x:So):List PV:=[(.str x.Gloss),vSl 2 G4 x.Sn]
structure A6 where
 Feats:(Sl Str)
 Sounds:(Sl F2)
 Marks:(Sl Fw)
 Si:Si
 Sh:(Sl U9)
 Sm:(Sl So)
 deriving Inhabited
abbrev A7 (x:A6):List PV:=[(vSl 1 cS x.Feats),vSl 3 D5 x.Sounds,vSl 4 S5 x.Marks,vSl 2 D8 x.Si.Tree,vSl 18 B6 x.Si.Laws,vSl 1 (cL 1 (cI .i64)) x.Si.On,vSl 2 G4 x.Sh,vSl 2 G5 x.Sm]
structure B3 where
 So:Int
 Sf:Int
 Kind:Int
 Cost:Int
 deriving Inhabited,DecidableEq
abbrev B4 (x:B3):List PV:=[(pI .i64 x.So),pI .i64 x.Sf,pI .i64 x.Kind,pI .i64 x.Cost]
structure FR where
 Node:Int
 Place:Int
 So:Int
 Sf:Int
 deriving Inhabited,DecidableEq
abbrev P0 (x:FR):List PV:=[(pI .i64 x.Node),pI .i64 x.Place,pI .i64 x.So,pI .i64 x.Sf]
structure V7 where
 Bad:(Sl B3)
 Sj:(Sl FR)
 deriving Inhabited
abbrev FM (x:V7):List PV:=[(vSl 4 B4 x.Bad),vSl 4 P0 x.Sj]
structure F4 where
 a0:Int
 a1:Int
 deriving Inhabited,DecidableEq
abbrev D6 (x:F4):List PV:=[(pI .i64 x.a0),pI .i64 x.a1]
structure place where
 entry:Int
 leaf:Int
 deriving Inhabited,DecidableEq
abbrev Qd (x:place):List PV:=[(pI .i64 x.entry),pI .i64 x.leaf]
inductive Part where
 |nil
 |sound (x:Qj) (no:Bool)
 |edge (e:Bool)
 |seq (n:Nat) (g:Nat->Part)
 |alt (n:Nat) (g:Nat->Part)
 |rep (o:Part) (mn mx:Int)
instance:Inhabited Part:=⟨.nil⟩
def Part.t:Part->Nat
 |.nil=>0
 |.sound _ _=>335
 |.edge _=>337
 |.seq _ _=>342
 |.alt _ _=>339
 |.rep _ _ _=>341
def Part.v:Part->PV
 |.nil=>.bb false
 |.sound x no=>.agg [pI .u32 x.Plus,pI .u32 x.Minus,.bb no]
 |.edge e=>.agg [.bb e]
 |.seq n g=>.agg [.sl false 1 n λi=>[.iface (g i).t (g i).v]]
 |.alt n g=>.agg [.sl false 1 n λi=>[.iface (g i).t (g i).v]]
 |.rep o mn mx=>.agg [.iface o.t o.v,pI .i64 mn,pI .i64 mx]
abbrev ID (x:Part):PV:=.iface x.t x.v
abbrev Kf (x:Part):List PV:=[ID x]
structure AF3 where
 is:Qj
 not:Bool
 deriving Inhabited,DecidableEq
abbrev Am3 (x:AF3):List PV:=[(pI .u32 x.is.Plus),pI .u32 x.is.Minus,.bb x.not]
structure Bi5 where
 end_:Bool
 deriving Inhabited,DecidableEq
abbrev Bi6 (x:Bi5):List PV:=[(.bb x.end_)]
structure Palt where
 l:(Sl Part)
 deriving Inhabited
abbrev Bt2 (x:Palt):List PV:=[(vSl 1 Kf x.l)]
structure Prep where
 of:Part
 min:Int
 max:Int
 deriving Inhabited
abbrev Bt3 (x:Prep):List PV:=[(ID x.of),pI .i64 x.min,pI .i64 x.max]
structure Pseq where
 l:(Sl Part)
 deriving Inhabited
abbrev Bt4 (x:Pseq):List PV:=[(vSl 1 Kf x.l)]
structure D9 where
 Made:Bool
 F:(Sl Str)
 S:(Sl F2)
 deriving Inhabited
structure A5 where
 feats:(Sl Str)
 number:List (Str×Int)
 sounds:(Sl F2)
 symbols:List (Str×Int)
 values:List (Qj×Int)
 deriving Inhabited
abbrev F3 (a b:Qj):Bool:=((a.Plus==b.Plus)&&(a.Minus==b.Minus))
open Go.Proofs
abbrev DN:Nat:=3
abbrev Qe:Nat:=4
abbrev Qf:Nat:=5
abbrev NQ:Nat:=6
abbrev TF:Nat:=7
abbrev Qg:Nat:=8
abbrev XN:Nat:=9
abbrev NR:Nat:=10
abbrev Qh:Nat:=11
abbrev Me:Nat:=12
abbrev NS:Nat:=13
abbrev Kg:Nat:=14
abbrev TG:Nat:=15
abbrev NT:Nat:=16
abbrev Mf:Nat:=17
abbrev Mg:Nat:=18
abbrev TH:Nat:=19
abbrev NU:Nat:=20
abbrev Mh:Nat:=21
abbrev Bs:Nat:=22
abbrev X8:Nat:=23
abbrev Dh:Nat:=24
abbrev Qi:Nat:=25
abbrev X3:Nat:=26
abbrev IE:Nat:=27
abbrev Dw:Nat:=28
abbrev W2:Nat:=29
abbrev Qk:Nat:=30
abbrev TI:Nat:=31
abbrev Ql:Nat:=32
abbrev El:Nat:=33
abbrev TJ:Nat:=34
abbrev TL:Nat:=35
abbrev TM:Nat:=36
abbrev Qm:Nat:=37
abbrev Qn:Nat:=38
abbrev JF:Nat:=39
abbrev Mi:Nat:=40
abbrev TN:Nat:=41
abbrev Qo:Nat:=42
abbrev Mj:Nat:=43
abbrev NV:Nat:=44
abbrev Mk:Nat:=45
abbrev K9:Nat:=46
abbrev S6:Nat:=47
abbrev IG:Nat:=48
abbrev Ml:Nat:=49
abbrev NW:Nat:=50
abbrev NX:Nat:=51
abbrev Kh:Nat:=52
abbrev NY:Nat:=53
abbrev Mm:Nat:=54
abbrev S7:Nat:=55
abbrev Ki:Nat:=58
abbrev Kj:Nat:=59
abbrev Qq:Nat:=60
abbrev NZ:Nat:=61
abbrev TO:Nat:=62
abbrev TP:Nat:=63
abbrev Em:Nat:=64
abbrev Hi:Nat:=65
abbrev TQ:Nat:=66
abbrev TR:Nat:=67
abbrev Qr:Nat:=68
abbrev Qs:Nat:=69
abbrev TT:Nat:=70
abbrev HO:Nat:=71
abbrev Gz:Nat:=72
abbrev Oa:Nat:=73
abbrev CD:Nat:=74
abbrev Mn:Nat:=75
abbrev GA:Nat:=76
abbrev IH:Nat:=77
abbrev Kk:Nat:=78
abbrev Ob:Nat:=79
abbrev HP:Nat:=80
abbrev Kl:Nat:=81
abbrev II:Nat:=82
abbrev Km:Nat:=83
abbrev HQ:Nat:=84
abbrev Kn:Nat:=85
abbrev Oc:Nat:=86
abbrev IJ:Nat:=87
abbrev Ko:Nat:=94
abbrev S8:Nat:=95
abbrev HR:Nat:=96
abbrev Bt:Nat:=97
abbrev IK:Nat:=98
abbrev Ya:Nat:=99
abbrev Qx:Nat:=100
abbrev Qy:Nat:=101
abbrev Kq:Nat:=102
abbrev Od:Nat:=103
abbrev JG:Nat:=104
abbrev Qz:Nat:=105
abbrev T9:Nat:=106
abbrev Oe:Nat:=107
abbrev BN:Nat:=108
abbrev Q4:Nat:=109
abbrev U0:Nat:=110
abbrev EU:Nat:=111
abbrev BO:Nat:=112
abbrev Kr:Nat:=113
abbrev HS:Nat:=114
abbrev Ks:Nat:=115
abbrev Kt:Nat:=116
abbrev IM:Nat:=117
abbrev EV:Nat:=118
abbrev Ea:Nat:=119
abbrev Dx:Nat:=120
abbrev FT:Nat:=121
abbrev Mp:Nat:=122
abbrev N7:Nat:=123
abbrev HT:Nat:=124
abbrev S9:Nat:=125
abbrev QB:Nat:=126
abbrev IO:Nat:=127
abbrev N8:Nat:=128
abbrev HU:Nat:=129
abbrev Ku:Nat:=130
abbrev Mq:Nat:=131
abbrev AN:Nat:=138
abbrev I7:Nat:=139
abbrev U1:Nat:=140
abbrev Yd:Nat:=141
abbrev Mr:Nat:=142
abbrev IP:Nat:=143
abbrev Kv:Nat:=144
abbrev Kw:Nat:=145
abbrev QE:Nat:=146
abbrev TU:Nat:=147
abbrev Og:Nat:=148
abbrev Ba:Nat:=149
abbrev Yf:Nat:=150
abbrev Aj:Nat:=151
abbrev Kx:Nat:=152
abbrev N3:Nat:=153
abbrev W4:Nat:=154
abbrev J8:Nat:=155
abbrev Ms:Nat:=156
abbrev Ec:Nat:=157
abbrev GB:Nat:=158
abbrev W5:Nat:=159
abbrev Ed:Nat:=160
abbrev Dy:Nat:=161
abbrev X4:Nat:=162
abbrev Cs:Nat:=163
abbrev Q6:Nat:=164
abbrev P1:Nat:=172
abbrev Mt:Nat:=173
abbrev TV:Nat:=174
abbrev Mu:Nat:=175
abbrev QF:Nat:=176
abbrev Oh:Nat:=177
abbrev M9:Nat:=178
abbrev O6:Nat:=179
abbrev P2:Nat:=180
abbrev T0:Nat:=182
abbrev Oi:Nat:=183
abbrev Ky:Nat:=184
abbrev Kz:Nat:=185
abbrev GC:Nat:=186
abbrev TW:Nat:=187
abbrev HW:Nat:=188
abbrev QG:Nat:=189
abbrev Q1:Nat:=190
abbrev Li:Nat:=191
abbrev O7:Nat:=192
abbrev HX:Nat:=193
abbrev KA:Nat:=194
abbrev EY:Nat:=195
abbrev KB:Nat:=201
abbrev R7:Nat:=202
abbrev O2:Nat:=203
abbrev Q7:Nat:=204
abbrev Oj:Nat:=205
abbrev Yj:Nat:=206
abbrev Yk:Nat:=207
abbrev Q8:Nat:=208
abbrev Y2:Nat:=209
abbrev QJ:Nat:=210
abbrev Ok:Nat:=215
abbrev I2:Nat:=216
abbrev Mv:Nat:=217
abbrev QK:Nat:=218
abbrev QL:Nat:=222
abbrev Ym:Nat:=223
abbrev Lj:Nat:=224
abbrev TX:Nat:=225
abbrev P9:Nat:=226
abbrev Yn:Nat:=227
abbrev Yo:Nat:=228
abbrev Mw:Nat:=229
abbrev IS:Nat:=230
abbrev Ol:Nat:=231
abbrev GD:Nat:=232
abbrev J6:Nat:=233
abbrev KC:Nat:=234
abbrev Om:Nat:=235
abbrev Bw:Nat:=236
abbrev Mx:Nat:=237
abbrev QM:Nat:=238
abbrev QN:Nat:=239
abbrev QO:Nat:=240
abbrev My:Nat:=241
abbrev Mz:Nat:=242
abbrev KD:Nat:=243
abbrev IT:Nat:=244
abbrev Di:Nat:=245
abbrev DS:Nat:=246
abbrev Dz:Nat:=267
abbrev EZ:Nat:=268
abbrev FU:Nat:=269
abbrev Hk:Nat:=270
abbrev FB:Nat:=271
abbrev Hl:Nat:=272
abbrev IV:Nat:=273
abbrev Be:Nat:=274
abbrev Hm:Nat:=275
abbrev D1:Nat:=3
abbrev Ba4:Nat:=4
abbrev H1:Nat:=5
abbrev H4:Nat:=9
abbrev DA:Nat:=26
abbrev VJ:Nat:=29
abbrev VK:Nat:=33
abbrev Ac8:Nat:=37
abbrev Ac9:Nat:=49
abbrev EA:Nat:=58
abbrev V2:Nat:=62
abbrev T1:Nat:=66
abbrev Ct:Nat:=70
abbrev S2:Nat:=86
abbrev B5:Nat:=92
abbrev GE:Nat:=95
abbrev I5:Nat:=98
abbrev JH:Nat:=107
abbrev D2:Nat:=112
abbrev Bf:Nat:=127
abbrev AG3:Nat:=148
abbrev E1:Nat:=199
abbrev TY:Nat:=216
abbrev Ad0:Nat:=330
abbrev U (x:BitVec 64):Int:=(x.toNat:Int)
open Go.Proofs.Tryz
variable {N:Nat}
abbrev AU9:List AV:=[.reg 0 0,.reg 1 0,.reg 2 0,.reg 3 0]
abbrev Ad1 (c:Int)(a:Sl Law)(b:Sl Qj)(y:PV):List Obj:=[.cells [pN c],.cells [.p (vSl 18 B6 a)],.cells [.p (vSl 2 A0 b)],.cells [.p y]]
structure JU (S:U8):Prop where
 attR:∀{a:Sl Law}{b y:Sl Qj},Sb S J8 [.p (vSl 18 B6 a),.p (vSl 2 A0 b)] [] (.p (vSl 2 A0 y)) [] []->Sb S N3 AU9 (Ad1 0 a b I4) (.tup []) (Ad1 0 a b (vSl 2 A0 y)) [true,true,true,true]
 attP:∀{a:Sl Law}{b:Sl Qj}{c:Int},(S.F J8 [.p (vSl 18 B6 a),.p (vSl 2 A0 b)] [] λres o k=>res=.panic (.iface 278 (pI .i64 c))/\o=[]/\k=[])->Sb S N3 AU9 (Ad1 0 a b I4) (.tup []) (Ad1 c a b I4) [true,true,true,true]
 tz:∀x:BitVec 64,WM S T0 [.p (pI .u64 (U x))] (.p (pI .i64 (Lib.ctz 64 x.toNat:Nat)))
 trim:∀s c:Str,s.length<1000000000000->c.length<1000000->(∀b∈c,b.toNat<128)->WM S FT [.p (.str s),.p (.str c)] (.p (.str (Lib.trimS s c)))
 growS:∀(f:Nat->List PV) (n:Nat),n*8<=140737488355328->Sb S J6 [.p I4,.p (pI .i64 (n:Int))] [] (.vec 0) [.vec B5 2 0 f false] []
 join:∀(nn:Bool) (n:Nat) (g:Nat->List UInt8) (sep:List UInt8),n<=140737488355328->(Lib.join ((List.range n).map g) sep).length<=140737488355328 ->
  WM S Dh [.p (.sl nn 1 n λi=>[.str (g i)]),.p (.str sep)] (.p (.str (Lib.join ((List.range n).map g) sep)))
 indexByte:∀(s:List UInt8) (c:UInt8),WM S X4 [.p (.str s),.p (.v (.int .u8 c.toNat))] (.p (.v (.int .i64 (Lib.indexByte s c))))
 fmtInt:∀n:Int,-9223372036854775808<=n->n<=9223372036854775807->WM S X3 [.p (pI .i64 n),.p (pI .i64 10)] (.p (.str (Lib.itoa n)))
 copyCheck:∀(T:Nat) (u n:Nat) (f:Nat->List PV),T=76->Sb S S7 [.reg 0 0] [.blk [0,T,u] 1,.vec H1 1 n f false] (.tup []) [.blk [0,T,1] 1,.vec H1 1 n f false] [true,true]
 bstr:∀(T u n:Nat) (f:Nat->List PV) (s:List UInt8),T=76->s.length=n->(∀i,i<n->f i=[.v (.int .u8 (s.getD i 0).toNat)])->Sb S W2 [.reg 0 0] [.blk [0,T,u] 1,.vec H1 1 n f false] (.p (.str s)) [] []
def Am (N:Nat)(x:Int):Option Int:=if 0<=x/\x<18446744073709551616 then some ((Lib.ctz 64 x.toNat:Nat):Int)else none
def Z0 (N:Nat)(s c:Str):Option Str:=if s.length<1000000000000/\c.length<1000000/\(c.all λb=>decide (b.toNat<128)) then some (Lib.trimS s c)else none
def R8 (N:Nat)(n:Int):Option (Sl Qj):=if 0<=n/\n*8<=140737488355328 then some (Sl.nil:Sl Qj)else none
section
variable {S:U8}(Z:G0 S Tryz.prog) (Y:JU S)
include Z Y
theorem Fa {x y:Int}(h:Am N x=some y):Sb S T0 [.p (pI .u64 x)] [] (.p (pI .i64 y)) [] []:=by
 obtain⟨⟨a,h1⟩,h⟩:=B9 h;obtain rfl:=B1 h
 have:=Y.tz (BitVec.ofNat 64 x.toNat)
 have e:(BitVec.ofNat 64 x.toNat).toNat=x.toNat:=by rw[BN3];omega
 have e2:U (BitVec.ofNat 64 x.toNat)=x:=by show ((BitVec.ofNat 64 x.toNat).toNat:Int)=x;rw[e];omega
 rw[e,e2]at this;exact this
theorem KE {s c:Str}{y:Str}(h:Z0 N s c=some y):Sb S FT [.p (.str s),.p (.str c)] [] (.p (.str y)) [] []:=by obtain⟨⟨a,h1,d⟩,h⟩:=B9 h;obtain rfl:=B1 h;exact Y.trim s c a h1 λb hb=>by simpa using Bz2.1 d b hb
theorem Bx {n:Int}{y:Sl Qj}(h:R8 N n=some y):Sb S J6 [.p I4,.p (pI .i64 n)] [] (.vec 0) [.vec B5 2 y.n (λi=>A0 (y.g i)) false] []:=by
 obtain⟨⟨a,h1⟩,h⟩:=B9 h;obtain rfl:=B1 h
 have:=Y.growS (λi=>A0 default) n.toNat (by omega)
 rw[show ((n.toNat:Nat):Int)=n by omega]at this;exact this
def B7 (N:Nat)(s:Sl Qj):Option (Sl Qj):=if (0+s.n)*8<=140737488355328/\0+s.n<=140737488355328 then some s else none
theorem Q9 {s y:Sl Qj}(h:B7 N s=some y):Sb S I7 [.p (vSl 2 A0 s)] [] (.vec 0) [.vec B5 2 y.n (λi=>A0 (y.g i)) true] []:=by
 unfold B7 at h;obtain⟨c1,h⟩:=B9 h;obtain rfl:=B1 h;refine A2 Z func139 ?_;refine XD Z Lg 3 (k:=2) (n:=s.n) (f:=λi=>A0 (s.g i)) (λa=>?_) ?_
 .obtain⟨n,g⟩:=s;obtain rfl:n=0:=a;exact kO Z Lg [3700]
 exact kO Z (Qu Nm c1) [8000]
  (hle:=kl1 0 (AM7 A0 s [pI .u32 0,pI .u32 0]))
def G9 (N:Nat)(s:Sl Dv):Option (Sl Dv):=if (0+s.n)*32<=140737488355328/\0+s.n<=140737488355328 then some s else none
theorem AQ {s y:Sl Qj}(h:B7 N s=some y):Sb S I7 [.p (vSl 2 A0 s)] [] (.p (vSl 2 A0 y)) [] []:=by
 unfold B7 at h;obtain⟨c1,h⟩:=B9 h;obtain rfl:=B1 h;refine A2 Z func139 ?_;refine XD Z Lg 3 (k:=2) (n:=s.n) (f:=λi=>A0 (s.g i)) (λa=>?_) ?_
 .obtain⟨n,g⟩:=s;obtain rfl:n=0:=a;exact kO Z Lg []
 exact kO Z (Qu Nm c1) []
  (hle:=kl1 0 (AM7 A0 s [pI .u32 0,pI .u32 0]))
theorem Cj {s y:Sl Dv}(h:G9 N s=some y):Sb S U1 [.p (vSl 6 Z9 s)] [] (.p (vSl 6 Z9 y)) [] []:=by
 unfold G9 at h;obtain⟨c1,h⟩:=B9 h;obtain rfl:=B1 h;refine A2 Z func140 ?_;refine XD Z Lg 3 (k:=6) (n:=s.n) (f:=λi=>Z9 (s.g i)) (λa=>?_) ?_
 .obtain⟨n,g⟩:=s;obtain rfl:n=0:=a;exact kO Z Lg []
 exact kO Z (Qu Nm c1) []
  (hle:=kl1 0 (AM7 Z9 s [pI .i64 0,pI .u32 0,pI .u32 0,pI .u32 0,pI .u32 0,pI .i64 0]))
end
end Go.AM
set_option maxRecDepth 100000
namespace Go.AM
open Go.Proofs.Tryz
open Go.Proofs
def Au1 (v:Value)(w:World):(Instr.typeAssert (.iface 278 v) 20 278 true).run Tryz.prog w=.ok (.tuple #[v,.bool true]) w:=by kernel_rfl
def Ad2 (p:Value)(w:World):CallsDIn Fence.wide 0 Tryz.prog W4 #[p] .returning w λe u' w'=>e=.returned (.tuple #[])/\u' = .returning/\w' = w:=by
 refine callsDIn_of_wpSIn func154 rfl (by simp[Fence.wide]) λc₀ cs a=>?_;apply wpSIn_seq;apply wpSIn_region;simp[wpOpsSIn,go_sem,recoverD,a,f154,Exit.thenS];refine wpSIn_of_wpIn rfl (wpIn_block (wpIn_seq (wpIn_region ?_)));simp[wpOpsIn,Oper.wpIn,Oper.semAt,Oper.uponIn,go_sem,Exit.then];refine wpIn_cond (t:=true) (by simp[Act.eval]) ?_;simp only[Lc];refine wpIn_region ?_;simp[wpOpsIn,Oper.wpIn,Oper.semAt,Oper.uponIn,go_sem,Exit.inBlock,bodyPostS,results];cases c₀
 simp_all
def OM (p:Value)(c:Int)(older:List PanicEntry)(w w1:World)(a:(Instr.storeAt 40 p (.int .i64 c)).run Tryz.prog w=.ok () w1)(hn:∃b,p=.pointer (some b)) :CallsDIn Fence.wide 0 Tryz.prog W4 #[p] (.panicking ({ v:=.iface 278 (.int .i64 c),recovered:=false }::older)) w λe u' w'=>
  e=.returned (.tuple #[])/\u' = .panicking ({ v:=.iface 278 (.int .i64 c),recovered:=true }::older)/\w' = w1:=by
 obtain⟨b,rfl⟩:=hn;refine callsDIn_of_wpSIn func154 rfl (by simp[Fence.wide]) λc₀ cs d=>?_;apply wpSIn_seq;apply wpSIn_region;simp[wpOpsSIn,go_sem,recoverD,d,f154,Exit.thenS];refine wpSIn_of_wpIn rfl (wpIn_block (wpIn_seq (wpIn_region ?_)));simp[wpOpsIn,Oper.wpIn,Oper.semAt,Oper.uponIn,go_sem,Exit.then];refine wpIn_cond (t:=false) (by simp[Act.eval]) ?_;simp only[By9,Ld];refine wpIn_seq (wpIn_region ?_);simp[wpOpsIn,Oper.wpIn,Oper.semAt,Oper.uponIn,go_sem,Exit.then,Au1];refine wpIn_cond (t:=true) (by simp[Act.eval]) ?_;simp only[Lc];refine wpIn_seq (wpIn_region ?_);simp[wpOpsIn,Oper.wpIn,Oper.semAt,Oper.uponIn,go_sem,Exit.then];refine wpIn_region ?_;simp[wpOpsIn,Oper.wpIn,Oper.semAt,Oper.uponIn,go_sem,a,Exit.inBlock,bodyPostS,results];simp[go_sem]at a;rw[a];simp[Result.andThen]
noncomputable def Bm4:Code:=match Tryz.f153.body with
 |some (.seq _ c)=>c
 |_=>.skip
def Bi7 {S:U8}(Z:G0 S Tryz.prog){a:Sl Law}{b y:Sl Qj}(c:Sb S J8 [.p (vSl 18 B6 a),.p (vSl 2 A0 b)] [] (.p (vSl 2 A0 y)) [] []) :KG S Tryz.prog (TC S (λst=>M0 [0,1,2,3] st.Qw [0,1,2,3]=some (Ad1 0 a b (vSl 2 A0 y))) λ_ _=>False) (.code Bm4 [] ⟨Ss AU9,Sa (Ad1 0 a b I4)⟩):=by refine B0 Z [] Lg c ?_;exact K_upN Z Lg ⟨[],[(3,.cells [.p (vSl 2 A0 y)]),(2,.cells [.p (vSl 2 A0 b)]),(1,.cells [.p (vSl 18 B6 a)]),(0,.cells [pN 0])]⟩ (ids:=(Qp [0,1,2,3])) rfl
def AG4 {S:U8}(Z:G0 S Tryz.prog){a:Sl Law}{b:Sl Qj}{c:Int}(d:S.F J8 [.p (vSl 18 B6 a),.p (vSl 2 A0 b)] [] λres o k=>res=.panic (.iface 278 (pI .i64 c))/\o=[]/\k=[]) :KG S Tryz.prog (TC S (λ_=>False) λx st=>x=.iface 278 (pI .i64 c)/\store Tryz.prog st.Qw 40 (.reg 0 0) (.p (pI .i64 c))=some ([],ins 0 (.cells [pN c]) st.Qw)/\M0 [0,1,2,3] (ins 0 (.cells [pN c]) st.Qw) [0,1,2,3]=some (Ad1 c a b I4)) (.code Bm4 [] ⟨Ss AU9,Sa (Ad1 0 a b I4)⟩):=by refine Bi0 Z [] Lg d ?_;exact K_upP Z Lg ⟨rfl,by kernel_rfl,by kernel_rfl⟩
noncomputable def att1:Code:=match Tryz.f153.body with
 |some (.seq c _)=>c
 |_=>.skip
noncomputable def attOps:Array Oper:=match Bm4 with
 |.region _ ops _=>ops
 |_=>#[]
def Am4:Bm4=.region 1 attOps false:=by kernel_rfl
def Bt5:attOps.toList.all (JX 7 attOps.toList)=true:=by kernel_rfl
def AV0:¬Tryz.f153.name = "runtime.NumGoroutine" := by decide +kernel
def Am5:Tryz.f153.body=some (.seq att1 Bm4):=by kernel_rfl
def Bi8 {C:Ctx}{vs:Array Value}{w:World}{rho:Nat->Value}{args:List AV}{objs:List Obj}{n:Nat}(Z:Sat C ⟨Ss args,Sa objs⟩ ⟨vs,[]⟩ w rho)(a:vs.size=args.length) :Sat C ⟨Ss args,Sa objs⟩ { tmps:=vs++Array.replicate n undef,defers:=[] } w rho:=by
 refine⟨Z.toSatE,λt=>?_,Z.pin,Z.marks⟩
 have:=Z.env t
 by_cases ht:t<vs.size
 .simpa[By2,BH0,ht]using this
 show Sq w _ _ _ _ (get (Ss args) t);rw[AJ,By3,BD0 (by omega)];exact .top _
def QT {R:St->Prop}{X:PV->St->Prop}{a:Sl Law}{b:Sl Qj}{objs' : List Obj}
 (a1:KG (Gj Tryz.prog) Tryz.prog (TC (Gj Tryz.prog) R X) (.code Bm4 [] ⟨Ss AU9,Sa (Ad1 0 a b I4)⟩))
 (hR:∀st,R st->M0 [0,1,2,3] st.Qw [0,1,2,3]=some objs')
 (hX:∀x st,X x st->∃c regs',x=.iface 278 (pI .i64 c)/\store Tryz.prog st.Qw 40 (.reg 0 0) (.p (pI .i64 c))=some ([],regs')/\M0 [0,1,2,3] regs' [0,1,2,3]=some objs') :
 Sb (Gj Tryz.prog) N3 AU9 (Ad1 0 a b I4) (.tup []) objs' [true,true,true,true]:=by
 intro 𝒢 C w vs rho hG Z t;obtain⟨l⟩:=vs
 match l,t with
 |[v0,v1,v2,v3],t=>?_
 refine⟨.enter N3 #[v0,v1,v2,v3],w,by simp[callFunc,func153,Am5,AV0],?_⟩;refine callsIn_of_wp_marks func153 Am5 Lg ?_;have a2:=Bi8 (n:=Tryz.f153.ntmps-4) Z t;have a9:Tryz.f153.ntmps-4=3:=rfl;rw[a9]at a2;have b1:((#[v0,v1,v2,v3]:Array Value)++Array.replicate 3 undef).size=7:=rfl;have hw:JO (Gj Tryz.prog) Tryz.prog attOps.toList attOps.toList (TC (Gj Tryz.prog) R X) ⟨Ss AU9,Sa (Ad1 0 a b I4)⟩:=by
  have:=a1.out
  rw[Am4]at this;simpa only[G,awp,kp,By9,Ld]using this
 have a4:=PH (𝒢:=𝒢.fix C.rho0) (n:=7) (ro:=none) (ops:=attOps) Bt5 attOps.toList 0 rfl (by simp) ⟨hG,rfl⟩ a2 b1 hw;have a5:=Md [{ target:=.fn (.func W4) #[],args:=#[v0] }] _ _ _ a4;rw[BN5]at a5;obtain⟨b0,a6,u⟩:∃b0,v0=.pointer (some ⟨b0,0,none⟩)/\rho 0=.pointer (some ⟨b0,0,none⟩):=by
  have h0:Sq w _ _ rho v0 (.reg 0 0):=Z.env 0;cases h0 with
  |reg _ _ b0 _ h=>exact⟨b0,rfl,h⟩
 have s:∀{C' : Ctx}{st' : St}{a' : Act}{w' : World}{rho' : Nat->Value},(𝒢.fix C.rho0).G C' -> Sat C' st' a' w' rho' -> M0 [0,1,2,3] st'.Qw [0,1,2,3]=some objs' ->
  LeavesInM Fence.wide 0 Tryz.prog f153 a'.tmps (λe w'=>∃C' r objs0 ks rho', 𝒢.G C' /\ (r=.ret (.tup [])/\objs0=objs' /\ ks=[true,true,true,true])/\SatE C' (Sa objs0) w' rho' /\
   AM6 w' (Prv C'.X (A1 (Sa objs0)) rho') (Lv (A1 (Sa objs0))) rho' e r/\∀i:Nat,ks[i]? = some true->i<objs0.length/\rho' i=rho i) [] .returning w':=by
  intro C' st' a' w' rho' d f m;obtain⟨g1,g2,g3⟩:=PI f (by decide) m;obtain⟨hl,hg⟩:=AK m;refine⟨.tuple #[],by simp[results,f153],C', .ret (.tup []),objs',_,_,d.1,⟨rfl,rfl,rfl⟩,g1,⟨_,rfl,.tup _ _ rfl λi hi=>Ij hi (by simp)⟩,?_⟩;intro i hi;have y:i<4:=by
   have:=(Bz8.1 hi).1
   simpa using this
  refine⟨by rw[hl];exact y,?_⟩;have e1:[0,1,2,3][i]? = some i:=by
   match i,y with
   |0,_=>rfl
   |1,_=>rfl
   |2,_=>rfl
   |3,_=>rfl
  obtain⟨o,_,ho,_⟩:=hg i i e1;show rho' ([0,1,2,3].getD i 0)=rho i;rw[DQ e1,f.pin i (by omega) (by simp[Lv,ho]),d.2];refine (Z.pin i (by omega) ?_).symm;rw[Lv,E7]
  match i,y with
  |0,_=>rfl
  |1,_=>rfl
  |2,_=>rfl
  |3,_=>rfl
 generalize hQ:bodyPostM _ _ _ _ _=QQ;refine wpIn_seq ?_;simp only[att1,f153];refine wpIn_region ?_;simp[wpOpsIn,Oper.wpIn,Oper.semAt,Oper.uponIn,go_sem,Exit.then];subst hQ;rw[Am4];refine wpIn_mono (wpIn_region (F:=FW none) a5) ?_;rintro e a' w' ⟨a0,rfl,z⟩;cases e with
 |exit id=>obtain⟨_,_,_,_,_,_,h⟩:=z;exact h.elim
 |goto l=>obtain⟨_,_,_,_,_,_,h⟩:=z;exact h.elim
 |ret=>obtain⟨_,_,_,_,_,_,h⟩:=z;exact h.elim
 |outgrown=>exact z.elim
 |normal=>
  obtain⟨C',st',rho',d,f,a7,hu⟩:=z;obtain⟨st2,rho2,hR2,_,hs2⟩:=hu C' a0 w' rho' f;refine Hh (C:=C') (st:=st2) (rho:=rho2) (by simp) ?_ a0.defers a0 w' rfl rfl hs2;intro a3 w3 q ht;refine⟨by simp,.inr ⟨by simp[Fence.wide],_,_,W4,#[v0],rfl,by simp[go_sem],λ_ _=>trivial,?_⟩⟩;refine (Ad2 v0 w3).mono ?_;rintro e u' w4 ⟨rfl,rfl,rfl⟩
  have:=s d q (hR st2 hR2)
  rw[ht]at this;exact this
 |panic chain=>
  obtain⟨C',st',rho',v,x,rfl,d,f,a7,hv,hXx⟩:=z;obtain⟨c,regs',rfl,g,m⟩:=hX x st' hXx;obtain rfl:v=.iface 278 (.int .i64 c):=by
   cases hv with
   |iface _ _ _ h=>cases h;rfl
  refine Hh (C:=C') (st:=st') (rho:=rho') (by simp) ?_ a0.defers a0 w' rfl rfl f;intro a3 w3 q ht;have j:Lv (A1 st'.Qw) 0:=by
   cases hj:A1 st'.Qw 0 with
   |some o=>simp[Lv,hj]
   |none=>
    unfold store at g;split at g
    .simp[hj]at g
    cases g
  have hr0:rho' 0=.pointer (some ⟨b0,0,none⟩):=by rw[q.pin 0 (by omega) j,d.2,<- u];exact (Z.pin 0 (by omega) rfl).symm
  have hva:RS C' st' w3 rho' v0 (.reg 0 0):=by rw[a6];exact .reg 0 0 b0 j hr0
  obtain⟨w4,a8,hs4,_⟩:=Ps q (vx:=.int .i64 c) hva (.p _ _ (.v _)) g Lg;refine⟨by simp,.inr ⟨by simp[Fence.wide],_,_,W4,#[v0],rfl,by simp[go_sem],λ_ _=>trivial,?_⟩⟩;refine (OM v0 c [] w3 w4 a8 ⟨_,a6⟩).mono ?_;rintro e u' w5 ⟨rfl,rfl,rfl⟩
  have:=s d hs4 m
  rw[ht]at this;exact this
def Ad3 {a:Sl Law}{b y:Sl Qj}(c:Sb (Gj Tryz.prog) J8 [.p (vSl 18 B6 a),.p (vSl 2 A0 b)] [] (.p (vSl 2 A0 y)) [] []) :Sb (Gj Tryz.prog) N3 AU9 (Ad1 0 a b I4) (.tup []) (Ad1 0 a b (vSl 2 A0 y)) [true,true,true,true]:=
 QT (Bi7 (Ah5 Tryz.prog) c) (λst h=>h) (λx st h=>h.elim)
def VL {a:Sl Law}{b:Sl Qj}{c:Int}(d:(Gj Tryz.prog).F J8 [.p (vSl 18 B6 a),.p (vSl 2 A0 b)] [] λres o k=>res=.panic (.iface 278 (pI .i64 c))/\o=[]/\k=[]) :Sb (Gj Tryz.prog) N3 AU9 (Ad1 0 a b I4) (.tup []) (Ad1 c a b I4) [true,true,true,true]:=
 QT (AG4 (Ah5 Tryz.prog) d) (λst h=>h.elim) (λx st h=>⟨c,_,h.1,h.2.1,h.2.2⟩)
variable {N:Nat}
open IntKind (wrap)
set_option maxRecDepth 10000
set_option maxHeartbeats 2000000
variable {S:U8}(Z:G0 S Tryz.prog) (Y:JU S)
include Z Y
def G2 (N:Nat)(a:Qj):Option Bool:= some (((G6 .and .u32 a.Plus a.Minus)==0)&&(decide ((G6 .or .u32 a.Plus a.Minus)<=16777215)))
theorem R5 {b:Qj}{y:Bool}(h:G2 N b=some y) :Sb S Mp [.p (.agg (A0 b))] [] (pB y) ([]) []:=by unfold G2 at h;refine A2 Z func122 ?_;refine kB Z (A4 Z) Lg Lg 7 (.n (.a ((G6 .and .u32 b.Plus b.Minus)==0)) (.a (decide ((G6 .or .u32 b.Plus b.Minus)<=16777215)))) ?_;cases h;exact kR Z
def CO (N:Nat)(b:Qj)(a:Qj):Option Bool:= (G2 N b).bind λy1=>lt (λ(z1:Bool)=>some z1) λk1=>if y1 then (G2 N a).bind λy3=>if y3 then if ((G6 .andNot .u32 a.Plus b.Plus)==0) then k1 ((G6 .andNot .u32 a.Minus b.Minus)==0) else k1 false else k1 false else k1 false
theorem Nn {c:Qj}{a:Qj}{y:Bool}(h:CO N c a=some y) :Sb S GD [.p (.agg (A0 c)),.p (.agg (A0 a))] [] (pB y) ([]) []:=by
 unfold CO at h;refine A2 Z func232 ?_;refine kC Z h (R5 Z Y) (λy1 h=>?_);refine Ii Z Lg (A4 Z) h 0 (λz1=>⟨[(4,pB z1)],[]⟩) (λM1 k1 b h=>?_) (λz1 h=>?_)
 .refine kG Z h (λh=>?_) (λh=>?_)
  .refine kC Z h (R5 Z Y) (λy3 h=>?_);refine kG Z h (λh=>?_) (λh=>?_)
   .refine kG Z h (λh=>?_) (λh=>?_)
    .exact b _ [] _ _ Lg h
    exact b _ [] _ _ Lg h
   exact b _ [] _ _ Lg h
  exact b _ [] _ _ Lg h
 cases h;exact kR Z
def Hn (N:Nat)(a:Qj):Option Int:= some (G6 .or .u32 a.Plus a.Minus)
theorem QU {a:Qj}{y:Int}(h:Hn N a=some y) :Sb S QN [.p (.agg (A0 a))] [] (pU y) ([]) []:=by unfold Hn at h;refine A2 Z func239 ?_;cases h;exact kR Z
def Ho (N:Nat)(c:Qj)(b:Qj)(a:Int):Option Qj:= some (⟨G6 .or .u32 (G6 .andNot .u32 c.Plus a) (G6 .and .u32 b.Plus a),G6 .or .u32 (G6 .andNot .u32 c.Minus a) (G6 .and .u32 b.Minus a)⟩:Qj)
theorem QV {c:Qj}{a:Qj}{b:Int}{y:Qj}(h:Ho N c a b=some y) :Sb S QO [.p (.agg (A0 c)),.p (.agg (A0 a)),pU b] [] (.p (.agg (A0 y))) ([]) []:=by unfold Ho at h;refine A2 Z func240 ?_;cases h;exact kR Z
def FV (N:Nat)(c:Qj)(a:Int)(b:Qj):Option (Qj×Int):= (G2 N c).bind λy1=>lt (λ(z1:Bool)=>if z1 then some ((⟨0,0⟩:Qj),14) else lt (λ(z2:Bool)=>if z2 then some ((⟨0,0⟩:Qj),2) else (Hn N b).bind λy6=>(Ho N c b (G6 .or .u32 a y6)).bind λy7=>some (y7,0)) λk2=>if (decide (16777215<a)) then k2 true else (Hn N b).bind λy5=>k2 ((G6 .and .u32 a y5) != 0)) λk1=>if (!y1) then k1 true else (G2 N b).bind λy3=>k1 (!y3)
theorem Sy {c:Qj}{b:Int}{a:Qj}{y:Qj×Int}(h:FV N c b a=some y) :Sb S KC [.p (.agg (A0 c)),pU b,.p (.agg (A0 a))] [] (.tup [.p (.agg (A0 y.1)),pN y.2]) ([]) []:=by
 unfold FV at h;refine A2 Z func234 ?_;refine F0 Z Lg 5 4000 [pI .u32 c.Plus,pI .u32 c.Minus] ?_;refine F0 Z Lg 6 6000 [pI .u32 a.Plus,pI .u32 a.Minus] ?_;obtain⟨y1,e1,h⟩:=A9 h;refine B0 Z [] Nh (R5 Z Y e1) ?_;refine Ii Z Lg (A4 Z) h 0 (λz1=>⟨[(15,pB z1),(6,.reg 7000 0),(5,.p (.ptr [pI .u32 a.Plus,pI .u32 a.Minus])),(3,.p (.ptr [pI .u32 c.Plus,pI .u32 c.Minus])),(1,pU b)],[(7000,.cells [pU 0,pU 0])]⟩) (λM1 k1 d h=>?_) (λz1 h=>?_)
 .refine kG Z h (λh=>?_) (λh=>?_)
  .exact d _ [(7000,7000)] _ _ Lg h
  obtain⟨y3,e3,h⟩:=A9 h;refine B0 Z [] Nh (R5 Z Y e3) ?_;exact d _ [(7000,7000)] _ _ Lg h
 refine Su Z h fun h=>?_;refine Ii Z Lg (A4 Z) h 0 (λz2=>⟨[(25,pB z2),(6,.reg 7000 0),(5,.p (.ptr [pI .u32 a.Plus,pI .u32 a.Minus])),(3,.p (.ptr [pI .u32 c.Plus,pI .u32 c.Minus])),(1,pU b)],[(7000,.cells [pU 0,pU 0])]⟩) (λM2 k2 f h=>?_) (λz2 h=>?_)
 .refine kG Z h (λh=>?_) (λh=>?_)
  .exact f _ [(7000,7000)] _ _ Lg h
  obtain⟨y5,e5,h⟩:=A9 h;refine B0 Z [] Nh (QU Z Y e5) ?_;exact f _ [(7000,7000)] _ _ Lg h
 refine Su Z h fun h=>?_;refine C4 Z Lg [0,1,3,4,6] ?_;obtain⟨y6,e6,h⟩:=A9 h;refine F9 (Qu (Qu Nh Nh) Nh) (QU Z Y e6) ?_;obtain⟨y7,e7,h⟩:=A9 h;refine F9 Lg (QV Z Y e7) ?_;refine C8 Lg ?_;cases h;exact kR Z
def IW (N:Nat)(c:Qj)(a:Qj)(b:Int):Option (Qj×Int):= (G2 N c).bind λy1=>lt (λ(z1:Bool)=>if z1 then some ((⟨0,0⟩:Qj),14) else if (decide (16777215<b)) then some ((⟨0,0⟩:Qj),2) else (Ho N c a b).bind λy4=>some (y4,0)) λk1=>if (!y1) then k1 true else (G2 N a).bind λy3=>k1 (!y3)
theorem Ys {c:Qj}{a:Qj}{b:Int}{y:Qj×Int}(h:IW N c a b=some y) :Sb S Om [.p (.agg (A0 c)),.p (.agg (A0 a)),pU b] [] (.tup [.p (.agg (A0 y.1)),pN y.2]) ([]) []:=by
 unfold IW at h;refine A2 Z func235 ?_;refine kC Z h (R5 Z Y) (λy1 h=>?_);refine Ii Z Lg (A4 Z) h 0 (λz1=>⟨[(15,pB z1),(6,.reg 7000 0),(4,.reg 5000 0),(3,.reg 4000 0),(2,pU b)],[(7000,.cells [pU 0,pU 0]),(5000,.cells [pU a.Plus,pU a.Minus]),(4000,.cells [pU c.Plus,pU c.Minus])]⟩) (λM1 k1 d h=>?_) (λz1 h=>?_)
 .refine kG Z h (λh=>?_) (λh=>?_)
  .exact d _ (Qp [4000,5000,7000]) _ _ Lg h
  refine kC Z h (R5 Z Y) (λy3 h=>?_);exact d _ (Qp [4000,5000,7000]) _ _ Lg h
 refine Su Z h fun h=>?_;refine Su Z h fun h=>?_;refine kC Z h (QV Z Y) (λy4 h=>?_);cases h;exact kR Z
def Ce (N:Nat)(a:Qj):Option Bool:= some (((G6 .and .u32 a.Plus a.Minus)==0)&&((shI .shr .u32 (G6 .or .u32 a.Plus a.Minus) 24)==0))
theorem Yt {a:Qj}{y:Bool}(h:Ce N a=some y) :Sb S Ob [.p (.agg (A0 a))] [] (pB y) ([]) []:=by
 unfold Ce at h;refine A2 Z func79 ?_;obtain⟨t1,c⟩:∃x:Bool,x=(((G6 .and .u32 a.Plus a.Minus)==0)&&((shI .shr .u32 (G6 .or .u32 a.Plus a.Minus) 24)==0)):=⟨_,rfl⟩;refine ZU Z Lg (A4 Z) 0 ⟨[(2,pB t1)],[]⟩ (λM1 d=>?_) ?_
 .refine ER Z Lg (b:=(G6 .and .u32 a.Plus a.Minus)==0) (λc2=>?_) (λc2=>?_)
  .exact d _ [] _ (by decide:(0:Int)<=24) (hle:=klR [(0,.eq (.bb ((shI .shr .u32 (G6 .or .u32 a.Plus a.Minus) 24)==0)) (.bb t1))] (al1 (by simp only[c,c2,Sf.ok,pm,Lc,Ld]) al0))
  exact d _ [] _ Lg (hle:=klR [(0,.eq (.bb false) (.bb t1))] (al1 (by simp only[c,c2,Sf.ok,pm,Lc,Ld]) al0))
 subst c;cases h;exact kR Z
def U2 (N:Nat)(a:Sl Qj):Option Int:= if (decide (32<(a.n:Int))) then some 11 else R6 N (λb (x1:Int)=>if (decide (x1<(a.n:Int))) then if ((0:Int)<=x1/\x1<(a.n:Int))then (Ce N (a.g x1.toNat)).bind λy3=>if (!y3) then some 14 else b (wrap .i64 (x1+1)) else none else some 0) 0
theorem FC {a:Sl Qj}{y:Int}(h:U2 N a=some y) :Sb S NW [.p (vSl 2 A0 a)] [] (pN y) ([]) []:=by
 unfold U2 at h;refine A2 Z func50 ?_;refine Su Z h fun h=>?_;refine F1 Z Lg h (λx1=>⟨[(10,pN x1),(9,pN (a.n:Int)),(8,.p (vSl 2 A0 a))],[]⟩) (ids:=[]) (λ_ _ _ _ _ b x1 c h=>?_);apply kI Z h<;>intro h
 .obtain⟨c9,h⟩:=B9 h;obtain⟨y3,e3,h⟩:=A9 h;refine B0 Z [] (Qu c9 Nh) (Yt Z Y e3) ?_;refine Su Z h fun h=>?_;exact c _ [] _ _ Lg h
 cases h;exact kR Z
def I8 (N:Nat)(a:Sl Qj)(b:Sl Qj):Option Bool:= if ((a.n:Int) != (b.n:Int)) then some false else R6 N (λc (x1:Int)=>if (decide (x1<(a.n:Int))) then if (((0:Int)<=x1/\x1<(a.n:Int))/\((0:Int)<=x1/\x1<(b.n:Int)))then if ((((a.g x1.toNat).Plus==(b.g x1.toNat).Plus)&&((a.g x1.toNat).Minus==(b.g x1.toNat).Minus)) != true) then some false else c (wrap .i64 (x1+1)) else none else some true) 0
theorem Bg {a:Sl Qj}{b:Sl Qj}{y:Bool}(h:I8 N a b=some y) :Sb S Q4 [.p (vSl 2 A0 a),.p (vSl 2 A0 b)] [] (pB y) ([]) []:=by
 unfold I8 at h;refine A2 Z func109 ?_;refine Su Z h fun h=>?_;refine F1 Z Lg h (λx1=>⟨[(13,pN x1),(12,pN (a.n:Int)),(1,.p (vSl 2 A0 b)),(0,.p (vSl 2 A0 a))],[]⟩) (ids:=[]) (λ_ _ _ _ _ c x1 d h=>?_);apply kI Z h<;>intro h
 .refine C4 Z Lg [2,3,6,7] ?_;obtain⟨c9,h⟩:=B9 h;refine C8 (Qu (Qu (Qu (Qu c9.1 Nh) c9.2) Nh) (by decide +kernel:RF Tryz.prog B5=true)) ?_;refine Su Z h fun h=>?_;exact d _ [] _ _ Lg h
 cases h;exact kR Z
def FD (N:Nat)(a:Sl Qj)(b:Sl Qj):Option Bool:= (I8 N a b).bind λy1=>some y1
theorem Oo {a:Sl Qj}{b:Sl Qj}{y:Bool}(h:FD N a b=some y) :Sb S Oa [.p (vSl 2 A0 a),.p (vSl 2 A0 b)] [] (pB y) ([]) []:=by unfold FD at h;refine A2 Z func73 ?_;refine kC Z h (Bg Z Y) (λy1 h=>?_);cases h;exact kR Z
def R9 (N:Nat)(a:Qj):Option Bool:= some (((G6 .and .u32 a.Plus a.Minus)==0)&&((shI .shr .u32 (G6 .or .u32 a.Plus a.Minus) 24)==0))
theorem FE {a:Qj}{y:Bool}(h:R9 N a=some y) :Sb S Ok [.p (.agg (A0 a))] [] (pB y) ([]) []:=by
 unfold R9 at h;refine A2 Z func215 ?_;obtain⟨t1,c⟩:∃x:Bool,x=(((G6 .and .u32 a.Plus a.Minus)==0)&&((shI .shr .u32 (G6 .or .u32 a.Plus a.Minus) 24)==0)):=⟨_,rfl⟩;refine ZU Z Lg (A4 Z) 0 ⟨[(2,pB t1)],[]⟩ (λM1 d=>?_) ?_
 .refine ER Z Lg (b:=(G6 .and .u32 a.Plus a.Minus)==0) (λc2=>?_) (λc2=>?_)
  .exact d _ [] _ (by decide:(0:Int)<=24) (hle:=klR [(0,.eq (.bb ((shI .shr .u32 (G6 .or .u32 a.Plus a.Minus) 24)==0)) (.bb t1))] (al1 (by simp only[c,c2,Sf.ok,pm,Lc,Ld]) al0))
  exact d _ [] _ Lg (hle:=klR [(0,.eq (.bb false) (.bb t1))] (al1 (by simp only[c,c2,Sf.ok,pm,Lc,Ld]) al0))
 subst c;cases h;exact kR Z
def An (N:Nat)(b:Int):Option (Nat->Int):= Co N (λa (x1:Nat->Int) (x2:Int)=>if (decide (x2<(wrap .i64 (b+1)))) then if (((0:Int)<=x2/\((0:Int)<=x2/\x2<33))/\(0+x2.toNat*1)<33)then a (WA x1 (0+x2.toNat*1) (shI .shl .u64 1 x2)) (wrap .i64 (x2+1)) else none else some x1) (λ_=>0) 0
theorem Fb {a:Int}{y:Nat->Int}(h:An N a=some y) :Sb S IV [pN a] [] (.p (.agg (cA 33 (pI .u64) y))) ([]) []:=by
 unfold An at h;refine A2 Z func273 ?_;refine H7 Z Lg h (λx1 x2=>⟨[(7,pN x2),(6,pN (wrap .i64 (a+1))),(3,.reg 4000 0),(2,.reg 3000 0)],[(4000,.arr 33 (λi=>pI .u64 (x1 i))),(3000,.arr 33 (λi=>pI .u64 ((λ_=>0) i)))]⟩) (ids:=(Qp [3000,4000])) (λ_ _ _ _ _ b x1 x2 d h=>?_) (hle:=kl2 2 3 (AU7 33 (pI .u64 0)) (AU7 33 (pI .u64 0)));apply kI Z h<;>intro h
 .obtain⟨c4,h⟩:=B9 h;exact d _ (Qp [3000,4000]) _ (WA x1 (0+x2.toNat*1) (shI .shl .u64 1 x2)) (wrap .i64 (x2+1)) c4 h (hle:=klR [(2,.fn 33 33 (λi=>[(λi=>if i=(0+x2.toNat*1)then (pI .u64 (shI .shl .u64 1 x2))else (λi=>pI .u64 (x1 i)) i) i]) (λi=>[pI .u64 (WA x1 (0+x2.toNat*1) (shI .shl .u64 1 x2) i)]))] (al1 ⟨rfl,Bh4 (c:=pI .u64) (v:=x1) (x:=shI .shl .u64 1 x2) (λ_ _=>rfl) rfl⟩ al0))
 obtain rfl:=B1 h;exact M8 Z (Qu rfl (G1 _ _):(0:Nat)=0/\(DL 33 (λi=>pI .u64 (x1 i))).length=33) ⟨[(2,.reg 3000 0)],[(3000,.arr 33 (λi=>pI .u64 (x1 i)))]⟩ [] (ids:=[(3000,3000)]) ⟨rfl,rfl,rfl⟩ (hle:=kl1 0 (NP 33 (λi=>pI .u64 (x1 i))))
def Aa (N:Nat)(p_x:Nat->Int)(b:Nat->Int):Option (Nat->Int):= Co N (λa (x1:Nat->Int) (x2:Int)=>if (decide (x2<33)) then if (((0:Int)<=x2/\x2<33)/\(0+x2.toNat*1)<33)then if (((((0:Int)<=x2/\x2<33)/\(0+x2.toNat*1)<33)/\((0:Int)<=x2/\x2<33))/\(0+x2.toNat*1)<33)then a (WA x1 (0+x2.toNat*1) (G6 .or .u64 (x1 (0+x2.toNat*1)) (b (0+x2.toNat*1)))) (wrap .i64 (x2+1)) else none else none else some x1) p_x 0
theorem FF {p_x:Nat->Int}{a:Nat->Int}{y:Nat->Int}(h:Aa N p_x a=some y) :Sb S FB [.reg 0 0,.reg 1 0] [.arr 33 (λi=>pI .u64 (p_x i)),.arr 33 (λi=>pI .u64 (a i))] (.tup []) ([.arr 33 (λi=>pI .u64 (y i)),.arr 33 (λi=>pI .u64 (a i))]) [true,true]:=by
 unfold Aa at h;refine A2 Z func271 ?_;refine H7 Z Lg h (λx1 x2=>⟨[(7,pN x2),(6,.reg 1 0),(0,.reg 0 0)],[(1,.arr 33 (λi=>pI .u64 (a i))),(0,.arr 33 (λi=>pI .u64 (x1 i)))]⟩) (ids:=(Qp [0,1])) (λ_ _ _ _ _ b x1 x2 d h=>?_);apply kI Z h<;>intro h
 .refine ES Z Lg ?_;obtain⟨c8,h⟩:=B9 h;refine C8 c8 ?_;refine ES Z Lg ?_;obtain⟨c9,h⟩:=B9 h;refine C8 c9 ?_;exact d _ (Qp [0,1]) _ _ _ Lg h (hle:=klR [(2,.fn 33 33 (λi=>[(λi=>if i=(0+x2.toNat*1)then (pI .u64 (G6 .or .u64 (x1 (0+x2.toNat*1)) (a (0+x2.toNat*1))))else (λi=>pI .u64 (x1 i)) i) i]) (λi=>[pI .u64 (WA x1 (0+x2.toNat*1) (G6 .or .u64 (x1 (0+x2.toNat*1)) (a (0+x2.toNat*1))) i)]))] (al1 ⟨rfl,Bh4 (c:=pI .u64) (v:=x1) (x:=G6 .or .u64 (x1 (0+x2.toNat*1)) (a (0+x2.toNat*1))) (λ_ _=>rfl) rfl⟩ al0))
 obtain rfl:=B1 h;exact kO Z Lg [0,1]
def Eo (N:Nat)(b:Sl Qj)(a:Int):Option Int:= if ((decide (a<0))||(decide ((b.n:Int)<a))) then some 3 else some 0
theorem MB {c:Sl Qj}{b:Int}{y:Int}(h:Eo N c b=some y) :Sb S Mz [.p (vSl 2 A0 c),pN b] [] (pN y) ([]) []:=by
 unfold Eo at h;refine A2 Z func242 ?_;refine kB Z (A4 Z) Lg Lg 5 (.o (.a (decide (b<0))) (.a (decide ((c.n:Int)<b)))) ?_;refine Su Z h fun h=>?_;cases h;exact kR Z
def By (N:Nat)(a:Pat):Option Int:= if (if (a.Kind==0) then a.Kind==0 else (if (a.Kind==2) then a.Kind==2 else a.Kind==6)) then lt (λ(z1:Bool)=>if z1 then some 2 else (R9 N a.Is).bind λy1=>if (!y1) then some 14 else some 0) λk1=>if (((a.Is.Plus==0)&&(a.Is.Minus==0)) != true) then k1 true else if a.Not then k1 true else if (a.Min != 0) then k1 true else if (a.Max != 0) then k1 true else k1 (decide (0<(a.L.n:Int))) else if (a.Kind==1) then lt (λ(z2:Bool)=>if z2 then some 2 else (R9 N a.Is).bind λy2=>if (!y2) then some 14 else some 0) λk2=>if (((0==0)&&(0==0)) != true) then k2 true else if (a.Min != 0) then k2 true else if (a.Max != 0) then k2 true else k2 (decide (0<(a.L.n:Int))) else lt (λ(z3:Int×Int)=>if (((((((a.Is.Plus==0)&&(a.Is.Minus==0)) != true)||a.Not)||(z3.1 != 0))||(z3.2 != 0))||(decide (0<0))) then some 2 else (R9 N a.Is).bind λy3=>if (!y3) then some 14 else some 0) λk3=>if (if (a.Kind==3) then a.Kind==3 else a.Kind==4) then k3 (a.Min,a.Max) else if (a.Kind==5) then if (((((a.L.n:Int) != 1)||(decide (a.Min<0)))||(decide (32<a.Min)))||((a.Max != (-1))&&((decide (a.Max<a.Min))||(decide (32<a.Max))))) then some 2 else k3 (0,0) else some 2
theorem Sz {c:Pat}{y:Int}(h:By N c=some y) :Sb S KB [.p (.agg (C0 c))] [] (pN y) ([]) []:=by
 unfold By at h;refine A2 Z func201 ?_;obtain⟨t1,f⟩:∃x:Bool,x=(if (c.Kind==0) then c.Kind==0 else (if (c.Kind==2) then c.Kind==2 else c.Kind==6)):=⟨_,rfl⟩;refine ZU Z Lg (A4 Z) 0 ⟨[(8,pB t1),(7,pN c.Kind),(3,.reg 4000 0),(1,.reg 2000 0)],[(4000,.cells [pN 0,pU c.Is.Plus,pU c.Is.Minus,pB c.Not,pN c.Min,pN c.Max,.p (.sl false 7 c.L.n (Du c))]),(2000,.cells ((C0 c).map .p))]⟩ (λM1 l=>?_) ?_
 .refine C7 Z Lg (b:=c.Kind==0) (λc3=>?_) (λc3=>?_)
  .exact l _ (Qp [2000,4000]) _ Lg (hle:=klR [(0,.eq (.bb (c.Kind==0)) (.bb t1))] (al1 (by simp only[f,c3,Sf.ok,pm,Lc,Ld]) al0))
  refine C7 Z Lg (b:=c.Kind==2) (λc4=>?_) (λc4=>?_)
  .exact l _ (Qp [2000,4000]) _ Lg (hle:=klR [(0,.eq (.bb (c.Kind==2)) (.bb t1))] (al1 (by simp only[f,c3,c4,Sf.ok,pm,Lc,Ld]) al0))
  exact l _ (Qp [2000,4000]) _ Lg (hle:=klR [(0,.eq (.bb (c.Kind==6)) (.bb t1))] (al1 (by simp only[f,c3,c4,Sf.ok,pm,Lc,Ld]) al0))
 subst f;apply kI Z h<;>intro h
 .refine Ii Z (by decide +kernel:RF Tryz.prog B5=true) (A4 Z) h 0 (λz1=>⟨[(57,pB z1),(1,.reg 2000 0)],[(2000,.cells ((C0 c).map .p))]⟩) (λM3 k1 d h=>?_) (λz1 h=>?_)
  .refine kG Z h (λh=>?_) (λh=>?_)
   .exact d _ [(2000,2000)] _ _ Lg h
   refine kG Z h (λh=>?_) (λh=>?_)
   .exact d _ [(2000,2000)] _ _ Lg h
   refine kG Z h (λh=>?_) (λh=>?_)
   .exact d _ [(2000,2000)] _ _ Lg h
   refine kG Z h (λh=>?_) (λh=>?_)
   .exact d _ [(2000,2000)] _ _ Lg h
   refine N9 Z Lg 79 ⟨[(78,.p (vSl 7 C0 c.L)),(76,.p (.v (.bool false))),(1,.reg 2000 0)],[(2000,.cells ((C0 c).map .p))]⟩ (ids:=[(2000,2000)]) ?_ (hle:=klR [(0,.fn c.L.n c.L.n (Du c) (λi=>C0 (c.L.g i)))] (al1 ⟨rfl,V8 c⟩ al0));exact d _ [(2000,2000)] _ _ Lg h
  refine Su Z h fun h=>?_;refine kC Z h (FE Z Y) (λy1 h=>?_);refine Su Z h fun h=>?_;cases h;exact kR Z
 apply kI Z h<;>intro h
 .refine Ii Z (by decide +kernel:RF Tryz.prog B5=true) (A4 Z) h 0 (λz2=>⟨[(57,pB z2),(1,.reg 2000 0)],[(2000,.cells ((C0 c).map .p))]⟩) (λM5 k2 j h=>?_) (λz2 h=>?_)
  .refine kG Z h (λh=>?_) (λh=>?_)
   .exact j _ [(2000,2000)] _ _ Lg h
   refine ER Z Lg (b:=false) (λc54=>?_) (λc54=>?_)
   .exact Bool.noConfusion ((rfl:false=false).symm.trans c54)
   refine kG Z h (λh=>?_) (λh=>?_)
   .exact j _ [(2000,2000)] _ _ Lg h
   refine kG Z h (λh=>?_) (λh=>?_)
   .exact j _ [(2000,2000)] _ _ Lg h
   refine N9 Z Lg 79 ⟨[(78,.p (vSl 7 C0 c.L)),(76,.p (.v (.bool false))),(1,.reg 2000 0)],[(2000,.cells ((C0 c).map .p))]⟩ (ids:=[(2000,2000)]) ?_ (hle:=klR [(0,.fn c.L.n c.L.n (Du c) (λi=>C0 (c.L.g i)))] (al1 ⟨rfl,V8 c⟩ al0));exact j _ [(2000,2000)] _ _ Lg h
  refine Su Z h fun h=>?_;refine kC Z h (FE Z Y) (λy2 h=>?_);refine Su Z h fun h=>?_;cases h;exact kR Z
 obtain⟨t4,m⟩:∃x:Bool,x=(if (c.Kind==3) then c.Kind==3 else c.Kind==4):=⟨_,rfl⟩;refine ZU Z Lg (A4 Z) 0 ⟨[(17,pB t4),(7,pN c.Kind),(3,.reg 4000 0),(1,.reg 2000 0)],[(4000,.cells [pN 0,pU c.Is.Plus,pU c.Is.Minus,pB c.Not,pN c.Min,pN c.Max,.p (.sl false 7 c.L.n (Du c))]),(2000,.cells ((C0 c).map .p))]⟩ (λM6 q=>?_) ?_
 .refine C7 Z Lg (b:=c.Kind==3) (λc60=>?_) (λc60=>?_)
  .exact q _ (Qp [2000,4000]) _ Lg (hle:=klR [(0,.eq (.bb (c.Kind==3)) (.bb t4))] (al1 (by simp only[m,c60,Sf.ok,pm,Lc,Ld]) al0))
  exact q _ (Qp [2000,4000]) _ Lg (hle:=klR [(0,.eq (.bb (c.Kind==4)) (.bb t4))] (al1 (by simp only[m,c60,Sf.ok,pm,Lc,Ld]) al0))
 subst m;refine Ii Z Lg (A4 Z) h 0 (λz3=>⟨[(3,.reg 4000 0),(1,.reg 2000 0)],[(4000,.cells [pN 0,pU c.Is.Plus,pU c.Is.Minus,pB c.Not,pN z3.1,pN z3.2,.p I4]),(2000,.cells ((C0 c).map .p))]⟩) (λM7 k3 r h=>?_) (λz3 h=>?_)
 .apply kI Z h<;>intro h
  .exact r _ (Qp [2000,4000]) _ _ Lg h
  apply kI Z h<;>intro h
  .refine N9 Z Lg 25 ⟨[(24,.p (vSl 7 C0 c.L)),(3,.reg 4000 0),(1,.reg 2000 0)],[(4000,.cells [pN 0,pU c.Is.Plus,pU c.Is.Minus,pB c.Not,pN c.Min,pN c.Max,.p (.sl false 7 c.L.n (Du c))]),(2000,.cells ((C0 c).map .p))]⟩ (ids:=(Qp [2000,4000])) ?_ (hle:=klR [(0,.fn c.L.n c.L.n (Du c) (λi=>C0 (c.L.g i)))] (al1 ⟨rfl,V8 c⟩ al0));refine kB Z (A4 Z) Lg Lg 26 (.o (.o (.o (.a ((c.L.n:Int) != 1)) (.a (decide (c.Min<0)))) (.a (decide (32<c.Min)))) (.n (.a (c.Max != (-1))) (.o (.a (decide (c.Max<c.Min))) (.a (decide (32<c.Max)))))) ?_;refine Su Z h fun h=>?_;exact r _ (Qp [2000,4000]) _ _ Lg h
  cases h;exact kR Z
 refine kB Z (A4 Z) (by decide +kernel:RF Tryz.prog B5=true) Lg 19 (.o (.o (.o (.o (.a (((c.Is.Plus==0)&&(c.Is.Minus==0)) != true)) (.a c.Not)) (.a (z3.1 != 0))) (.a (z3.2 != 0))) (.a (decide (0<0)))) ?_;refine Su Z h fun h=>?_;refine kC Z h (FE Z Y) (λy3 h=>?_);refine Su Z h fun h=>?_;cases h;exact kR Z
def Cu (rec:Pat->Int->Option Int)(N:Nat)(b:Pat)(a:Int):Option Int:= Co N (λc (x1:Int) (x2:Int)=>if ((decide (x2<(b.L.n:Int)))&&(decide (x1<=40))) then if ((0:Int)<=x2/\x2<(b.L.n:Int))then (rec (b.L.g x2.toNat) x1).bind λy3=>c y3 (wrap .i64 (x2+1)) else none else some x1) (wrap .i64 (a+1)) 0
def BQ:Nat->Pat->Int->Option Int
 |0=>λ_ _=>none
 |N+1=>Cu (BQ N) N
theorem Yu {rec:Pat->Int->Option Int}(d:∀{b:Pat}{c:Int}{y:Int},rec b c=some y->Sb S Hi [.p (.agg (C0 b)),pN c] [] (pN y) ([]) []){b:Pat}{c:Int}{y:Int}(h:Cu rec N b c=some y) :Sb S Hi [.p (.agg (C0 b)),pN c] [] (pN y) ([]) []:=by
 unfold Cu at h;refine A2 Z func65 ?_;refine H7 Z Lg h (λx1 x2=>⟨[(6,pN x2),(5,pN x1),(2,.reg 3000 0)],[(3000,.cells ((C0 b).map .p))]⟩) (ids:=[(3000,3000)]) (λ_ _ _ _ _ f x1 x2 j h=>?_);refine N9 Z Lg 12 ⟨[(11,.p (vSl 7 C0 b.L)),(9,pN x2),(6,pN x2),(5,pN x1),(2,.reg 3000 0)],[(3000,.cells ((C0 b).map .p))]⟩ (ids:=[(3000,3000)]) ?_ (hle:=klR [(0,.fn b.L.n b.L.n (Du b) (λi=>C0 (b.L.g i)))] (al1 ⟨rfl,V8 b⟩ al0));refine kB Z (A4 Z) Lg Lg 3 (.n (.a (decide (x2<(b.L.n:Int)))) (.a (decide (x1<=40)))) ?_;apply kI Z h<;>intro h
 .refine N9 Z Lg 23 ⟨[(22,pN x2),(21,.p (vSl 7 C0 b.L)),(6,pN x2),(5,pN x1),(2,.reg 3000 0)],[(3000,.cells ((C0 b).map .p))]⟩ (ids:=[(3000,3000)]) ?_ (hle:=klR [(1,.fn b.L.n b.L.n (Du b) (λi=>C0 (b.L.g i)))] (al1 ⟨rfl,V8 b⟩ al0));obtain⟨c6,h⟩:=B9 h;obtain⟨y3,e3,h⟩:=A9 h;refine B0 Z [] (Qu c6 Nk) (d e3) ?_;exact j _ [(3000,3000)] _ y3 _ Lg h
 cases h;exact kR Z
theorem Ad4 {b:Pat}{a:Int}{y:Int}(h:BQ N b a=some y) :Sb S Hi [.p (.agg (C0 b)),pN a] [] (pN y) ([]) []:=by
 induction N generalizing b a y with
 |zero=>cases (show (none:Option Int)=some y from h)
 |succ N ih=>exact Yu Z Y (λe=>ih e) h
def CP (N:Nat)(a:Pat):Option Int:= (BQ N a 0).bind λy1=>some y1
theorem No {a:Pat}{y:Int}(h:CP N a=some y) :Sb S TM [.p (.agg (C0 a))] [] (pN y) ([]) []:=by unfold CP at h;refine A2 Z func36 ?_;refine kC Z h (Ad4 Z Y) (λy1 h=>?_);cases h;exact kR Z
def Ao (rec:Pat->Option Int)(N:Nat)(a:Pat):Option Int:= Co N (λb (x1:Int) (x2:Int)=>if (decide (x2<(a.L.n:Int))) then if ((0:Int)<=x2/\x2<(a.L.n:Int))then (rec (a.L.g x2.toNat)).bind λy3=>b (wrap .i64 (x1+y3)) (wrap .i64 (x2+1)) else none else some x1) ((if (a.Kind==5) then 1 else 0):Int) 0
def AR:Nat->Pat->Option Int
 |0=>λ_=>none
 |N+1=>Ao (AR N) N
theorem SA {rec:Pat->Option Int}(d:∀{a:Pat}{y:Int},rec a=some y->Sb S Em [.p (.agg (C0 a))] [] (pN y) ([]) []){a:Pat}{y:Int}(h:Ao rec N a=some y) :Sb S Em [.p (.agg (C0 a))] [] (pN y) ([]) []:=by
 unfold Ao at h;refine A2 Z func64 ?_;obtain⟨t1,c⟩:∃x:Int,x=((if (a.Kind==5) then 1 else 0):Int):=⟨_,rfl⟩;refine ZU Z Lg (A4 Z) 0 ⟨[(3,pN t1),(1,.reg 2000 0)],[(2000,.cells ((C0 a).map .p))]⟩ (λM1 f=>?_) ?_
 .refine C7 Z Lg (b:=a.Kind==5) (λc2=>?_) (λc2=>?_)
  .exact f _ [(2000,2000)] _ Lg (hle:=klR [(0,.eq (pI .i64 1) (pI .i64 t1))] (al1 (by simp only[c,c2,Sf.ok,pm,Lc,Ld]) al0))
  exact f _ [(2000,2000)] _ Lg (hle:=klR [(0,.eq (pI .i64 0) (pI .i64 t1))] (al1 (by simp only[c,c2,Sf.ok,pm,Lc,Ld]) al0))
 subst c;refine H7 Z Lg h (λx1 x2=>⟨[(4,pN x2),(3,pN x1),(1,.reg 2000 0)],[(2000,.cells ((C0 a).map .p))]⟩) (ids:=[(2000,2000)]) (λ_ _ _ _ _ j x1 x2 l h=>?_);refine N9 Z Lg 11 ⟨[(10,.p (vSl 7 C0 a.L)),(8,pN x2),(4,pN x2),(3,pN x1),(1,.reg 2000 0)],[(2000,.cells ((C0 a).map .p))]⟩ (ids:=[(2000,2000)]) ?_ (hle:=klR [(0,.fn a.L.n a.L.n (Du a) (λi=>C0 (a.L.g i)))] (al1 ⟨rfl,V8 a⟩ al0));apply kI Z h<;>intro h
 .refine N9 Z Lg 19 ⟨[(18,pN x2),(17,.p (vSl 7 C0 a.L)),(15,pN x1),(4,pN x2),(1,.reg 2000 0)],[(2000,.cells ((C0 a).map .p))]⟩ (ids:=[(2000,2000)]) ?_ (hle:=klR [(1,.fn a.L.n a.L.n (Du a) (λi=>C0 (a.L.g i)))] (al1 ⟨rfl,V8 a⟩ al0));obtain⟨c8,h⟩:=B9 h;obtain⟨y3,e3,h⟩:=A9 h;refine B0 Z [] (Qu c8 Nk) (d e3) ?_;exact l _ [(2000,2000)] _ _ _ Lg h
 cases h;exact kR Z
theorem VM {a:Pat}{y:Int}(h:AR N a=some y) :Sb S Em [.p (.agg (C0 a))] [] (pN y) ([]) []:=by
 induction N generalizing a y with
 |zero=>cases (show (none:Option Int)=some y from h)
 |succ N ih=>exact SA Z Y (λe=>ih e) h
def EB (N:Nat)(a:Sl Law):Option Int:= Co N (λc (x3:Int) (x4:Int)=>if ((decide (x4<(a.n:Int)))&&(decide (x4<=300))) then if (((0:Int)<=x4/\x4<(a.n:Int))/\((0:Int)<=x4/\x4<(a.n:Int)))then Co N (λb (x7:Int) (x8:Int)=>if (decide (x8<((Sl.of [(a.g x4.toNat).Left,(a.g x4.toNat).Right]:Sl Pat).n:Int))) then if ((0:Int)<=x8/\x8<((Sl.of [(a.g x4.toNat).Left,(a.g x4.toNat).Right]:Sl Pat).n:Int))then (CP N ((Sl.of [(a.g x4.toNat).Left,(a.g x4.toNat).Right]:Sl Pat).g x8.toNat)).bind λd=>if (decide (d<=40)) then (AR N ((Sl.of [(a.g x4.toNat).Left,(a.g x4.toNat).Right]:Sl Pat).g x8.toNat)).bind λf=>b (wrap .i64 (x7+f)) (wrap .i64 (x8+1)) else b x7 (wrap .i64 (x8+1)) else none else c (if x3<x7 then x7 else x3) (wrap .i64 (x4+1))) 0 0 else none else some x3) 0 0
theorem Au2 {b:Sl Law}{y:Int}(h:EB N b=some y) :Sb S TL [.p (vSl 18 B6 b)] [] (pN y) ([]) []:=by
 unfold EB at h;refine A2 Z func35 ?_;refine H7 Z Lg h (λx3 x4=>⟨[(4,pN x4),(3,pN x3),(0,.p (vSl 18 B6 b))],[]⟩) (ids:=[]) (λ_ _ _ _ _ d x3 x4 f h=>?_);refine kB Z (A4 Z) Lg Lg 3 (.n (.a (decide (x4<(b.n:Int)))) (.a (decide (x4<=300)))) ?_;apply kI Z h<;>intro h
 .refine C4 Z Lg [2,4,7,9] ?_;obtain⟨c24,h⟩:=B9 h;refine O9 (Qu (Qu (Qu c24.1 (by decide:(7:Nat)<=17)) c24.2) (by decide:(7:Nat)<=10)) (x:=.sl true 7 2 (H0 [pI .i64 0,pI .u32 0,pI .u32 0,.v (.bool false),pI .i64 0,pI .i64 0,I4] [(0,C0 (b.g x4.toNat).Left),(1,C0 (b.g x4.toNat).Right)])) ?_;refine C8 Lg ?_;refine H7 Z Lg h (λx7 x8=>⟨[(30,pN x8),(29,pN ((Sl.of [(b.g x4.toNat).Left,(b.g x4.toNat).Right]:Sl Pat).n:Int)),(28,.p (vSl 7 C0 (Sl.of [(b.g x4.toNat).Left,(b.g x4.toNat).Right]:Sl Pat))),(5,pN x7),(4,pN x4),(3,pN x3),(0,.p (vSl 18 B6 b))],[]⟩) (ids:=[]) (λ_ _ _ _ _ i x7 x8 c h=>?_) (hle:=kl1 2 (Ay3 C0 ([(b.g x4.toNat).Left,(b.g x4.toNat).Right]:List Pat) [pI .i64 0,pI .u32 0,pI .u32 0,.v (.bool false),pI .i64 0,pI .i64 0,I4]));apply kI Z h<;>intro h
  .obtain⟨c32,h⟩:=B9 h;refine F0 Z (Qu c32 Nk) 34 8000 (C0 ((Sl.of [(b.g x4.toNat).Left,(b.g x4.toNat).Right]:Sl Pat).g x8.toNat)) ?_;obtain⟨j,e17,h⟩:=A9 h;refine B0 Z [] Nk (No Z Y e17) ?_;apply kI Z h<;>intro h
   .obtain⟨l,e18,h⟩:=A9 h;refine B0 Z [] Nk (VM Z Y e18) ?_;exact c _ [] _ _ _ Lg h
   exact c _ [] _ x7 _ Lg h
  exact f _ [] _ _ _ Lg h
 cases h;exact kR Z
def Y3 (N:Nat)(q0:Int):Option (List (Int)):= R6 N (λa (x1:Int)=>if (x1 != 0) then (Am N x1).bind λy3=>if (0:Int)<=y3 then JQ y3 (a (G6 .andNot .u64 x1 (shI .shl .u64 1 y3))) else none else some []) q0
theorem DT {q0:Int}{L:List (Int)}(h:Y3 N q0=some L) :EP S DS [] [.reg 0 0] [.cells [.p (pI .u64 q0)]] (L.map (λ(x:Int)=>[pI .i64 x])):=by
 unfold Y3 at h;refine Ek Z func246 ?_;refine CM Z Lg h (λx1 L1=>⟨[(1,.reg 0 0),(0,.yf 1)],[(1,.yld (L1.map (λ(x:Int)=>[pI .i64 x])) true),(0,.cells [.p (pI .u64 x1)])]⟩) (ids:=(Qp [0,1])) (λ_ _ _ _ _ d x1 L1 f h=>?_);apply kI Z h<;>intro h
 .refine kC Z h (Fa Z Y) (λy3 h=>?_);refine ES Z Lg ?_;obtain⟨c10,h⟩:=B9 h;refine C8 c10 ?_;obtain⟨L4,rfl,c⟩:=Ng h;replace h:=c;refine CL Z Lg (ys:=(λ(x:Int)=>[pI .i64 x]) y3) (rest:=L4.map (λ(x:Int)=>[pI .i64 x])) ?_ ?_
  .refine C7 Z Lg (b:=false) (λc11=>?_) (λc11=>?_)
   .exact Bool.noConfusion ((rfl:false=false).symm.trans c11)
   exact f _ (Qp [0,1]) _ _ L4 Lg h
  refine C7 Z Lg (b:=true) (λc12=>?_) (λc12=>?_)
  .exact kO Z Lg (a:=.tup []) (objs:=[(.cells [.p (pI .u64 (G6 .andNot .u64 x1 (shI .shl .u64 1 y3)))]),.yld [] false]) [0,1] ⟨false,rfl,rfl,_,rfl⟩
  exact Bool.noConfusion (Nm.symm.trans c12)
 obtain rfl:=B1 h;exact kO Z Lg (a:=.tup []) (objs:=[(.cells [.p (pI .u64 x1)]),.yld [] true]) [0,1] ⟨true,rfl,rfl,_,rfl⟩
def Bz (N:Nat)(a:Int):Option (Int):= some a
theorem FX {a:Int}{y:Int}(h:Bz N a=some y) :Sb S KD [.p (pI .u64 a)] [] (.clo DS [] [.reg 0 0]) ([.cells [.p (pI .u64 y)]]) []:=by unfold Bz at h;refine A2 Z func243 ?_;obtain rfl:=B1 h;exact kO Z Lg [2000]
def N6 (N:Nat)(p_x:Nat->Int)(c:Nat->Int):Option (Nat->Int):= Co N (λa (x3:Nat->Int) (x4:Int)=>if (decide (x4<33)) then if (((0:Int)<=x4/\x4<33)/\(0+x4.toNat*1)<33)then (Bz N (p_x (0+x4.toNat*1))).bind λy3=>(Y3 N y3).bind λL3=>Cp L3 (λb (x7:Int) (z3:Nat->Int)=>if (((((((0:Int)<=x4/\x4<33)/\(0+x4.toNat*1)<33)/\((0:Int)<=x7/\x7<33))/\(0+x7.toNat*1)<33)/\((0:Int)<=x4/\x4<33))/\(0+x4.toNat*1)<33)then b (WA z3 (0+x4.toNat*1) (G6 .or .u64 (z3 (0+x4.toNat*1)) (c (0+x7.toNat*1)))) else none) (λ(z3:Nat->Int)=>a z3 (wrap .i64 (x4+1))) x3 else none else some x3) (λ_=>0) 0
theorem V9 {p_x:Nat->Int}{b:Nat->Int}{y:Nat->Int}(h:N6 N p_x b=some y) :Sb S Be [.reg 0 0,.reg 1 0] [.arr 33 (λi=>pI .u64 (p_x i)),.arr 33 (λi=>pI .u64 (b i))] (.p (.agg (cA 33 (pI .u64) y))) ([.arr 33 (λi=>pI .u64 (p_x i)),.arr 33 (λi=>pI .u64 (b i))]) [true,true]:=by
 unfold N6 at h;refine A2 Z func274 ?_;refine H7 Z Lg h (λx3 x4=>⟨[(10,pN x4),(9,.reg 0 0),(5,.reg 6000 0),(4,.reg 5000 0),(3,.reg 4000 0)],[(6000,.arr 33 (λi=>pI .u64 (x3 i))),(5000,.arr 33 (λi=>pI .u64 ((λ_=>0) i))),(4000,.cells [.reg 1 0]),(1,.arr 33 (λi=>pI .u64 (b i))),(0,.arr 33 (λi=>pI .u64 (p_x i)))]⟩) (ids:=(Qp [0,1,4000,5000,6000])) (λ_ _ _ _ _ d x3 x4 f h=>?_) (hle:=kl2 1 2 (AU7 33 (pI .u64 0)) (AU7 33 (pI .u64 0)));apply kI Z h<;>intro h
 .refine G8 Z Lg [(2,.l [0]),(3,.l [0]),(4,.a [7000]),(5,.a [7000])] ?_;obtain⟨c12,h⟩:=B9 h;refine C8 c12 ?_;refine F0 Z Lg 16 7000 [pI .i64 x4] ?_;refine kC Z h (FX Z Y) (λy3 h=>?_);obtain⟨L3,e6,h⟩:=A9 h;refine IB Z Lg [18000] [10,9,6,5,4,3] 905 (λz3=>⟨[(10,pN x4),(9,.reg 0 0),(6,.p (.ptr [pI .i64 x4])),(5,.reg 6000 0),(4,.reg 5000 0),(3,.reg 4000 0)],[(6000,.arr 33 (λi=>pI .u64 (z3 i))),(5000,.arr 33 (λi=>pI .u64 ((λ_=>0) i))),(4000,.cells [.reg 1 0]),(1,.arr 33 (λi=>pI .u64 (b i))),(0,.arr 33 (λi=>pI .u64 (p_x i)))]⟩) (idl:=(Qp [0,1,4000,5000,6000])) h (DT Z Y e6) (λ_=>by kernel_rfl) (λ_=>by kernel_rfl) (λ_=>by kernel_rfl) (λ_=>by kernel_rfl) (λx7 _ g z3 j h=>?_) (λz3 h=>?_)
  .refine Ma Z Lg ?_;refine G8 Z Lg [(0,.n),(1,.l [6000]),(2,.l [6000]),(3,.l [4000]),(6,.l [1]),(7,.l [1]),(9,.l [6000]),(10,.a [6000])] ?_;obtain⟨c15,h⟩:=B9 h;refine C8 c15 ?_;exact j _ (Qp [0,1,905,4000,5000,6000]) _ _ Lg h (hle:=klR [(0,.fn 33 33 (λi=>[(λi=>if i=(0+x4.toNat*1)then (pI .u64 (G6 .or .u64 (z3 (0+x4.toNat*1)) (b (0+x7.toNat*1))))else (λi=>pI .u64 (z3 i)) i) i]) (λi=>[pI .u64 (WA z3 (0+x4.toNat*1) (G6 .or .u64 (z3 (0+x4.toNat*1)) (b (0+x7.toNat*1))) i)]))] (al1 ⟨rfl,Bh4 (c:=pI .u64) (v:=z3) (x:=G6 .or .u64 (z3 (0+x4.toNat*1)) (b (0+x7.toNat*1))) (λ_ _=>rfl) rfl⟩ al0))
  exact f _ (Qp [0,1,4000,5000,6000]) _ z3 _ Lg h
 obtain rfl:=B1 h;exact M8 Z (Qu rfl (G1 _ _):(0:Nat)=0/\(DL 33 (λi=>pI .u64 (x3 i))).length=33) ⟨[(4,.reg 5000 0)],[(5000,.arr 33 (λi=>pI .u64 (x3 i))),(1,.arr 33 (λi=>pI .u64 (b i))),(0,.arr 33 (λi=>pI .u64 (p_x i)))]⟩ [0,1] (ids:=(Qp [0,1,5000])) ⟨rfl,rfl,rfl⟩ (hle:=kl1 0 (NP 33 (λi=>pI .u64 (x3 i))))
def U3 (N:Nat)(p_x:Nat->Int):Option (Nat->Int):= Co N (λa (x3:Nat->Int) (x4:Int)=>if (decide (x4<33)) then if (((0:Int)<=x4/\x4<33)/\(0+x4.toNat*1)<33)then (Bz N (p_x (0+x4.toNat*1))).bind λy3=>(Y3 N y3).bind λL3=>Cp L3 (λb (x7:Int) (z3:Nat->Int)=>if (((((((0:Int)<=x4/\x4<33)/\(0+x4.toNat*1)<33)/\((0:Int)<=x7/\x7<33))/\(0+x7.toNat*1)<33)/\((0:Int)<=x4/\x4<33))/\(0+x4.toNat*1)<33)then b (WA z3 (0+x4.toNat*1) (G6 .or .u64 (z3 (0+x4.toNat*1)) (p_x (0+x7.toNat*1)))) else none) (λ(z3:Nat->Int)=>a z3 (wrap .i64 (x4+1))) x3 else none else some x3) (λ_=>0) 0
theorem DB {p_x:Nat->Int}{y:Nat->Int}(h:U3 N p_x=some y) :Sb S Be [.reg 0 0,.reg 0 0] [.arr 33 (λi=>pI .u64 (p_x i))] (.p (.agg (cA 33 (pI .u64) y))) ([.arr 33 (λi=>pI .u64 (p_x i))]) [true]:=by
 unfold U3 at h;refine A2 Z func274 ?_;refine H7 Z Lg h (λx3 x4=>⟨[(10,pN x4),(9,.reg 0 0),(5,.reg 6000 0),(4,.reg 5000 0),(3,.reg 4000 0)],[(6000,.arr 33 (λi=>pI .u64 (x3 i))),(5000,.arr 33 (λi=>pI .u64 ((λ_=>0) i))),(4000,.cells [.reg 0 0]),(0,.arr 33 (λi=>pI .u64 (p_x i)))]⟩) (ids:=(Qp [0,4000,5000,6000])) (λ_ _ _ _ _ b x3 x4 d h=>?_) (hle:=kl2 1 2 (AU7 33 (pI .u64 0)) (AU7 33 (pI .u64 0)));apply kI Z h<;>intro h
 .refine G8 Z Lg [(2,.l [0]),(3,.l [0]),(4,.a [7000]),(5,.a [7000])] ?_;obtain⟨c12,h⟩:=B9 h;refine C8 c12 ?_;refine F0 Z Lg 16 7000 [pI .i64 x4] ?_;refine kC Z h (FX Z Y) (λy3 h=>?_);obtain⟨L3,e6,h⟩:=A9 h;refine IB Z Lg [18000] [10,9,6,5,4,3] 905 (λz3=>⟨[(10,pN x4),(9,.reg 0 0),(6,.p (.ptr [pI .i64 x4])),(5,.reg 6000 0),(4,.reg 5000 0),(3,.reg 4000 0)],[(6000,.arr 33 (λi=>pI .u64 (z3 i))),(5000,.arr 33 (λi=>pI .u64 ((λ_=>0) i))),(4000,.cells [.reg 0 0]),(0,.arr 33 (λi=>pI .u64 (p_x i)))]⟩) (idl:=(Qp [0,4000,5000,6000])) h (DT Z Y e6) (λ_=>by kernel_rfl) (λ_=>by kernel_rfl) (λ_=>by kernel_rfl) (λ_=>by kernel_rfl) (λx7 _ f z3 g h=>?_) (λz3 h=>?_)
  .refine Ma Z Lg ?_;refine G8 Z Lg [(0,.n),(1,.l [6000]),(2,.l [6000]),(3,.l [4000]),(6,.l [0]),(7,.l [0]),(9,.l [6000]),(10,.a [6000])] ?_;obtain⟨c15,h⟩:=B9 h;refine C8 c15 ?_;exact g _ (Qp [0,905,4000,5000,6000]) _ _ Lg h (hle:=klR [(0,.fn 33 33 (λi=>[(λi=>if i=(0+x4.toNat*1)then (pI .u64 (G6 .or .u64 (z3 (0+x4.toNat*1)) (p_x (0+x7.toNat*1))))else (λi=>pI .u64 (z3 i)) i) i]) (λi=>[pI .u64 (WA z3 (0+x4.toNat*1) (G6 .or .u64 (z3 (0+x4.toNat*1)) (p_x (0+x7.toNat*1))) i)]))] (al1 ⟨rfl,Bh4 (c:=pI .u64) (v:=z3) (x:=G6 .or .u64 (z3 (0+x4.toNat*1)) (p_x (0+x7.toNat*1))) (λ_ _=>rfl) rfl⟩ al0))
  exact d _ (Qp [0,4000,5000,6000]) _ z3 _ Lg h
 obtain rfl:=B1 h;exact M8 Z (Qu rfl (G1 _ _):(0:Nat)=0/\(DL 33 (λi=>pI .u64 (x3 i))).length=33) ⟨[(4,.reg 5000 0)],[(5000,.arr 33 (λi=>pI .u64 (x3 i))),(0,.arr 33 (λi=>pI .u64 (p_x i)))]⟩ [0] (ids:=(Qp [0,5000])) ⟨rfl,rfl,rfl⟩ (hle:=kl1 0 (NP 33 (λi=>pI .u64 (x3 i))))
def P3 (N:Nat)(p_x:Nat->Int)(b:Int)(c:Int):Option (Nat->Int):= (An N c).bind λy1=>AZ3 N (λa (x1:Int) (x2:Nat->Int) (x3:Nat->Int)=>if (decide (0<x1)) then if ((G6 .and .i64 x1 1)==1) then (N6 N x3 x2).bind λy8=>(U3 N x2).bind λy9=>a (shI .shr .i64 x1 1) y9 y8 else (U3 N x2).bind λd=>a (shI .shr .i64 x1 1) d x3 else some x3) b p_x y1
theorem Ap {p_x:Nat->Int}{b:Int}{c:Int}{y:Nat->Int}(h:P3 N p_x b c=some y) :Sb S Dz [.p (.agg (cA 33 (pI .u64) p_x)),pN b,pN c] [] (.p (.agg (cA 33 (pI .u64) y))) ([]) []:=by
 unfold P3 at h;refine A2 Z func267 ?_;refine kC Z h (Fb Z Y) (λy1 h=>?_);refine Tz Z (Qu rfl (G1 _ _):(0:Nat)=0/\(DL 33 (λi=>pI .u64 (y1 i))).length=33) h (λx1 x2 x3=>⟨[(7,.reg 8000 0),(6,.reg 7000 0),(3,.reg 4000 0),(1,pN x1)],[(8000,.arr 33 (λi=>pI .u64 (x3 i))),(7000,.arr 33 (λi=>pI .u64 ((λ_=>0) i))),(4000,.arr 33 (λi=>pI .u64 (x2 i)))]⟩) (ids:=(Qp [4000,7000,8000])) (λ_ _ _ _ _ f x1 x2 x3 d h=>?_) (hle:=klR [(1,.fn 33 33 (λi=>[(λi=>(cA 33 (pI .u64) y1).getD i default) i]) (λi=>[pI .u64 (y1 i)])),(2,.fn 33 33 (λi=>[(λi=>(List.replicate 33 (pI .u64 0)).getD i default) i]) (λi=>[pI .u64 ((λ_=>0) i)])),(3,.fn 33 33 (λi=>[(λi=>(cA 33 (pI .u64) p_x).getD i default) i]) (λi=>[pI .u64 (p_x i)]))] (al1 ⟨rfl,Dg 33 (λi=>pI .u64 (y1 i))⟩ (al1 ⟨rfl,Qa (z:=pI .u64 0) rfl⟩ (al1 ⟨rfl,Dg 33 (λi=>pI .u64 (p_x i))⟩ al0))));apply kI Z h<;>intro h
 .apply kI Z h<;>intro h
  .obtain⟨y8,e8,h⟩:=A9 h;refine B0 Z [8000,4000] Lg (V9 Z Y e8) ?_;obtain⟨y9,e9,h⟩:=A9 h;refine B0 Z [4000] (Qu rfl (G1 _ _):(0:Nat)=0/\(DL 33 (λi=>pI .u64 (y8 i))).length=33) (DB Z Y e9) ?_;exact d _ (Qp [4000,7000,8000]) _ (shI .shr .i64 x1 1) y9 y8 (Qu (Qu rfl (G1 _ _):(0:Nat)=0/\(DL 33 (λi=>pI .u64 (y9 i))).length=33) (by decide:(0:Int)<=1)) h (hle:=kl2 1 3 (NP 33 (λi=>pI .u64 (y8 i))) (NP 33 (λi=>pI .u64 (y9 i))))
  obtain⟨a,e10,h⟩:=A9 h;refine B0 Z [4000] Lg (DB Z Y e10) ?_;exact d _ (Qp [4000,7000,8000]) _ (shI .shr .i64 x1 1) a x3 (Qu (Qu rfl (G1 _ _):(0:Nat)=0/\(DL 33 (λi=>pI .u64 (a i))).length=33) (by decide:(0:Int)<=1)) h (hle:=kl1 3 (NP 33 (λi=>pI .u64 (a i))))
 obtain rfl:=B1 h;exact M8 Z (Qu rfl (G1 _ _):(0:Nat)=0/\(DL 33 (λi=>pI .u64 (x3 i))).length=33) ⟨[(6,.reg 7000 0)],[(7000,.arr 33 (λi=>pI .u64 (x3 i)))]⟩ [] (ids:=[(7000,7000)]) ⟨rfl,rfl,rfl⟩ (hle:=kl1 0 (NP 33 (λi=>pI .u64 (x3 i))))
def Fc (N:Nat)(p_x:AF3)(b:Sl Qj):Option (Nat->Int):= Co N (λa (x1:Nat->Int) (x2:Int)=>if (decide (x2<(b.n:Int))) then if ((0:Int)<=x2/\x2<(b.n:Int))then if ((((G6 .or .u32 (G6 .andNot .u32 p_x.is.Plus (b.g x2.toNat).Plus) (G6 .andNot .u32 p_x.is.Minus (b.g x2.toNat).Minus))==0)==p_x.not) != true) then if (((0:Int)<=(wrap .i64 (x2+1))/\((0:Int)<=x2/\x2<33))/\(0+x2.toNat*1)<33)then a (WA x1 (0+x2.toNat*1) (shI .shl .u64 1 (wrap .i64 (x2+1)))) (wrap .i64 (x2+1)) else none else a x1 (wrap .i64 (x2+1)) else none else some x1) (λ_=>0) 0
theorem QW {p_x:AF3}{a:Sl Qj}{y:Nat->Int}(h:Fc N p_x a=some y) :Sb S EZ [.p (.agg (Am3 p_x)),.p (vSl 2 A0 a)] [] (.p (.agg (cA 33 (pI .u64) y))) ([]) []:=by
 unfold Fc at h;refine A2 Z func268 ?_;refine H7 Z Lg h (λx1 x2=>⟨[(9,pN x2),(8,pN (a.n:Int)),(7,.p (vSl 2 A0 a)),(4,.reg 5000 0),(2,.reg 3000 0)],[(5000,.arr 33 (λi=>pI .u64 (x1 i))),(3000,.cells ((Am3 p_x).map .p))]⟩) (ids:=(Qp [3000,5000])) (λ_ _ _ _ _ f x1 x2 d h=>?_) (hle:=kl1 3 (AU7 33 (pI .u64 0)));apply kI Z h<;>intro h
 .obtain⟨c8,h⟩:=B9 h;refine C7 Z (Qu c8 Nh) (b:=(((G6 .or .u32 (G6 .andNot .u32 p_x.is.Plus (a.g x2.toNat).Plus) (G6 .andNot .u32 p_x.is.Minus (a.g x2.toNat).Minus))==0)==p_x.not) != true) (λc9=>?_) (λc9=>?_)
  .replace h:=itT c9 h;obtain⟨c10,h⟩:=B9 h;exact d _ (Qp [3000,5000]) _ (WA x1 (0+x2.toNat*1) (shI .shl .u64 1 (wrap .i64 (x2+1)))) (wrap .i64 (x2+1)) c10 h (hle:=klR [(3,.fn 33 33 (λi=>[(λi=>if i=(0+x2.toNat*1)then (pI .u64 (shI .shl .u64 1 (wrap .i64 (x2+1))))else (λi=>pI .u64 (x1 i)) i) i]) (λi=>[pI .u64 (WA x1 (0+x2.toNat*1) (shI .shl .u64 1 (wrap .i64 (x2+1))) i)]))] (al1 ⟨rfl,Bh4 (c:=pI .u64) (v:=x1) (x:=shI .shl .u64 1 (wrap .i64 (x2+1))) (λ_ _=>rfl) rfl⟩ al0))
  replace h:=itF c9 h;exact d _ (Qp [3000,5000]) _ x1 _ Lg h
 obtain rfl:=B1 h;exact M8 Z (Qu rfl (G1 _ _):(0:Nat)=0/\(DL 33 (λi=>pI .u64 (x1 i))).length=33) ⟨[(4,.reg 5000 0)],[(5000,.arr 33 (λi=>pI .u64 (x1 i)))]⟩ [] (ids:=[(5000,5000)]) ⟨rfl,rfl,rfl⟩ (hle:=kl1 0 (NP 33 (λi=>pI .u64 (x1 i))))
def FY (N:Nat)(p_x:Bi5)(a:Sl Qj):Option (Nat->Int):= if p_x.end_ then if (((0:Int)<=(a.n:Int)/\((0:Int)<=(a.n:Int)/\(a.n:Int)<33))/\(0+(a.n:Int).toNat*1)<33)then some (WA (λ_=>0) (0+(a.n:Int).toNat*1) (shI .shl .u64 1 (a.n:Int))) else none else if (((0:Int)<=0/\(0:Int)<33)/\(0+0*1)<33)then some (WA (λ_=>0) (0+0*1) (shI .shl .u64 1 0)) else none
theorem SB {p_x:Bi5}{a:Sl Qj}{y:Nat->Int}(h:FY N p_x a=some y) :Sb S FU [.p (.agg (Bi6 p_x)),.p (vSl 2 A0 a)] [] (.p (.agg (cA 33 (pI .u64) y))) ([]) []:=by
 unfold FY at h;refine A2 Z func269 ?_;apply kI Z h<;>intro h
 .obtain⟨c2,h⟩:=B9 h;obtain rfl:=B1 h;exact M8 Z (Qu (Qu (Qu c2.1.1 c2.1.2) c2.2) (Qu rfl (G1 _ _):(0:Nat)=0/\(DL 33 (λi=>if i=(0+(a.n:Int).toNat*1)then (pI .u64 (shI .shl .u64 1 (a.n:Int)))else (λi=>(List.replicate 33 (pI .u64 0)).getD i default) i)).length=33)) ⟨[(4,.reg 5000 0)],[(5000,.arr 33 (λi=>pI .u64 (WA (λ_=>0) (0+(a.n:Int).toNat*1) (shI .shl .u64 1 (a.n:Int)) i)))]⟩ [] (ids:=[(5000,5000)]) ⟨rfl,rfl,rfl⟩ (hle:=klR [(0,.fn 33 33 (λi=>[(λi=>(DL 33 (λi=>if i=(0+(a.n:Int).toNat*1)then (pI .u64 (shI .shl .u64 1 (a.n:Int)))else (λi=>(List.replicate 33 (pI .u64 0)).getD i default) i)).getD i default) i]) (λi=>[pI .u64 (WA (λ_=>0) (0+(a.n:Int).toNat*1) (shI .shl .u64 1 (a.n:Int)) i)]))] (al1 ⟨rfl,λi b=>(Dg 33 (λi=>if i=(0+(a.n:Int).toNat*1)then (pI .u64 (shI .shl .u64 1 (a.n:Int)))else (λi=>(List.replicate 33 (pI .u64 0)).getD i default) i) i b).trans (Bh4 (c:=pI .u64) (v:=λ_=>0) (x:=shI .shl .u64 1 (a.n:Int)) (Qa (z:=pI .u64 0) rfl) rfl i b)⟩ al0))
 obtain⟨c3,h⟩:=B9 h;obtain rfl:=B1 h;exact M8 Z (Qu (Qu (Qu (by decide:(0:Int)<=0) c3.1) c3.2) (Qu rfl (G1 _ _):(0:Nat)=0/\(DL 33 (λi=>if i=(0+0*1)then (pI .u64 (shI .shl .u64 1 0))else (λi=>(List.replicate 33 (pI .u64 0)).getD i default) i)).length=33)) ⟨[(4,.reg 5000 0)],[(5000,.arr 33 (λi=>pI .u64 (WA (λ_=>0) (0+0*1) (shI .shl .u64 1 0) i)))]⟩ [] (ids:=[(5000,5000)]) ⟨rfl,rfl,rfl⟩ (hle:=klR [(0,.fn 33 33 (λi=>[(λi=>(DL 33 (λi=>if i=(0+0*1)then (pI .u64 (shI .shl .u64 1 0))else (λi=>(List.replicate 33 (pI .u64 0)).getD i default) i)).getD i default) i]) (λi=>[pI .u64 (WA (λ_=>0) (0+0*1) (shI .shl .u64 1 0) i)]))] (al1 ⟨rfl,λi b=>(Dg 33 (λi=>if i=(0+0*1)then (pI .u64 (shI .shl .u64 1 0))else (λi=>(List.replicate 33 (pI .u64 0)).getD i default) i) i b).trans (Bh4 (c:=pI .u64) (v:=λ_=>0) (x:=shI .shl .u64 1 0) (Qa (z:=pI .u64 0) rfl) rfl i b)⟩ al0))
def Hq (rec:Part->(Sl Qj)->Option (Nat->Int))(N:Nat)(p_x:Pseq)(b:Sl Qj):Option (Nat->Int):= (An N (b.n:Int)).bind λy1=>Co N (λa (x1:Nat->Int) (x2:Int)=>if (decide (x2<(p_x.l.n:Int))) then if ((0:Int)<=x2/\x2<(p_x.l.n:Int))then (rec (p_x.l.g x2.toNat) b).bind λy6=>(N6 N x1 y6).bind λy7=>a y7 (wrap .i64 (x2+1)) else none else some x1) y1 0
theorem VN {rec:Part->(Sl Qj)->Option ((Nat->Int))}(b:∀{x:Part}{b0:(Sl Qj)}{y:(Nat->Int)},rec x b0=some y->Br3 S Tryz.prog (ID x) "ablaut/pats.in" [(.p (vSl 2 A0 b0))] (.p (.agg (cA 33 (pI .u64) y)))){p_x:Pseq}{a:(Sl Qj)}{y:(Nat->Int)}(h:Hq rec N p_x a=some y) :Sb S Hm [(.p (.agg (Bt4 p_x))),(.p (vSl 2 A0 a))] [] (.p (.agg (cA 33 (pI .u64) y))) ([]) []:=by
 unfold Hq at h;refine A2 Z func275 ?_;refine kC Z h (Fb Z Y) (λy1 h=>?_);refine H7 Z (Qu rfl (G1 _ _):(0:Nat)=0/\(DL 33 (λi=>pI .u64 (y1 i))).length=33) h (λx1 x2=>⟨[(15,(pN x2)),(14,(pN (p_x.l.n:Int))),(13,(.p (vSl 1 Kf p_x.l))),(5,(.reg 6000 0)),(4,(.reg 5000 0)),(1,(.p (vSl 2 A0 a)))],[(6000,(.arr 33 (λi=>pI .u64 (x1 i)))),(5000,(.arr 33 (λi=>pI .u64 ((λ_=>0) i))))]⟩) (ids:=(Qp [5000,6000])) (λ_ _ _ _ _ c x1 x2 d h=>?_) (hle:=(kl2 4 5 (NP 33 (λi=>pI .u64 (y1 i))) (AU7 33 (pI .u64 0))));apply kI Z h<;>intro h
 .obtain⟨c6,h⟩:=B9 h;obtain⟨y6,e6,h⟩:=A9 h;refine Pd Z c6 (b e6) ?_;refine LY Z (Qu rfl (G1 _ _):(0:Nat)=0/\(DL 33 (λi=>pI .u64 (y6 i))).length=33) ⟨[(15,(pN x2)),(14,(pN (p_x.l.n:Int))),(13,(.p (vSl 1 Kf p_x.l))),(8,(.reg 9000 0)),(5,(.reg 6000 0)),(4,(.reg 5000 0)),(1,(.p (vSl 2 A0 a)))],[(9000,(.arr 33 (λi=>pI .u64 (y6 i)))),(6000,(.arr 33 (λi=>pI .u64 (x1 i)))),(5000,(.arr 33 (λi=>pI .u64 ((λ_=>0) i))))]⟩ (ids:=(Qp [5000,6000,9000])) ?_ (hle:=(kl1 4 (NP 33 (λi=>pI .u64 (y6 i)))));obtain⟨y7,e7,h⟩:=A9 h;refine B0 Z [6000,9000] Lg (V9 Z Y e7) ?_;exact d _ (Qp [5000,6000]) _ y7 (wrap .i64 (x2+1)) (Qu rfl (G1 _ _):(0:Nat)=0/\(DL 33 (λi=>pI .u64 (y7 i))).length=33) h (hle:=kl1 4 (NP 33 (λi=>pI .u64 (y7 i))))
 obtain rfl:=B1 h;exact M8 Z (Qu rfl (G1 _ _):(0:Nat)=0/\(DL 33 (λi=>pI .u64 (x1 i))).length=33) ⟨[(4,(.reg 5000 0))],[(5000,(.arr 33 (λi=>pI .u64 (x1 i))))]⟩ [] (ids:=[(5000,5000)]) ⟨rfl,rfl,rfl⟩ (hle:=(kl1 0 (NP 33 (λi=>pI .u64 (x1 i)))))
def Hr (rec:Part->(Sl Qj)->Option (Nat->Int))(N:Nat)(p_x:Palt)(b:Sl Qj):Option (Nat->Int):= Co N (λa (x1:Nat->Int) (x2:Int)=>if (decide (x2<(p_x.l.n:Int))) then if ((0:Int)<=x2/\x2<(p_x.l.n:Int))then (rec (p_x.l.g x2.toNat) b).bind λy5=>(Aa N x1 y5).bind λy6=>a y6 (wrap .i64 (x2+1)) else none else some x1) (λ_=>0) 0
theorem VO {rec:Part->(Sl Qj)->Option ((Nat->Int))}(b:∀{x:Part}{b0:(Sl Qj)}{y:(Nat->Int)},rec x b0=some y->Br3 S Tryz.prog (ID x) "ablaut/pats.in" [(.p (vSl 2 A0 b0))] (.p (.agg (cA 33 (pI .u64) y)))){p_x:Palt}{a:(Sl Qj)}{y:(Nat->Int)}(h:Hr rec N p_x a=some y) :Sb S Hk [(.p (.agg (Bt2 p_x))),(.p (vSl 2 A0 a))] [] (.p (.agg (cA 33 (pI .u64) y))) ([]) []:=by
 unfold Hr at h;refine A2 Z func270 ?_;refine H7 Z Lg h (λx1 x2=>⟨[(11,(pN x2)),(10,(pN (p_x.l.n:Int))),(9,(.p (vSl 1 Kf p_x.l))),(4,(.reg 5000 0)),(1,(.p (vSl 2 A0 a)))],[(5000,(.arr 33 (λi=>pI .u64 (x1 i))))]⟩) (ids:=[(5000,5000)]) (λ_ _ _ _ _ c x1 x2 d h=>?_) (hle:=(kl1 4 (AU7 33 (pI .u64 0))));apply kI Z h<;>intro h
 .obtain⟨c6,h⟩:=B9 h;obtain⟨y5,e5,h⟩:=A9 h;refine Pd Z c6 (b e5) ?_;refine LY Z (Qu rfl (G1 _ _):(0:Nat)=0/\(DL 33 (λi=>pI .u64 (y5 i))).length=33) ⟨[(11,(pN x2)),(10,(pN (p_x.l.n:Int))),(9,(.p (vSl 1 Kf p_x.l))),(7,(.reg 8000 0)),(4,(.reg 5000 0)),(1,(.p (vSl 2 A0 a)))],[(8000,(.arr 33 (λi=>pI .u64 (y5 i)))),(5000,(.arr 33 (λi=>pI .u64 (x1 i))))]⟩ (ids:=(Qp [5000,8000])) ?_ (hle:=(kl1 4 (NP 33 (λi=>pI .u64 (y5 i)))));obtain⟨y6,e6,h⟩:=A9 h;refine B0 Z [5000,8000] Lg (FF Z Y e6) ?_;exact d _ [(5000,5000)] _ y6 _ Lg h
 obtain rfl:=B1 h;exact M8 Z (Qu rfl (G1 _ _):(0:Nat)=0/\(DL 33 (λi=>pI .u64 (x1 i))).length=33) ⟨[(4,(.reg 5000 0))],[(5000,(.arr 33 (λi=>pI .u64 (x1 i))))]⟩ [] (ids:=[(5000,5000)]) ⟨rfl,rfl,rfl⟩ (hle:=(kl1 0 (NP 33 (λi=>pI .u64 (x1 i)))))
def Hs (rec:Part->(Sl Qj)->Option (Nat->Int))(N:Nat)(p_x:Prep)(a:Sl Qj):Option (Nat->Int):= (rec p_x.of a).bind λy1=>(P3 N y1 p_x.min (a.n:Int)).bind λy2=>(An N (a.n:Int)).bind λy3=>(Aa N y1 y3).bind λy4=>if (decide (p_x.max<0)) then (P3 N y4 (a.n:Int) (a.n:Int)).bind λy5=>(N6 N y2 y5).bind λy6=>some y6 else (P3 N y4 (wrap .i64 (p_x.max-p_x.min)) (a.n:Int)).bind λy7=>(N6 N y2 y7).bind λy8=>some y8
theorem VP {rec:Part->(Sl Qj)->Option ((Nat->Int))}(b:∀{x:Part}{b0:(Sl Qj)}{y:(Nat->Int)},rec x b0=some y->Br3 S Tryz.prog (ID x) "ablaut/pats.in" [(.p (vSl 2 A0 b0))] (.p (.agg (cA 33 (pI .u64) y)))){p_x:Prep}{a:(Sl Qj)}{y:(Nat->Int)}(h:Hs rec N p_x a=some y) :Sb S Hl [(.p (.agg (Bt3 p_x))),(.p (vSl 2 A0 a))] [] (.p (.agg (cA 33 (pI .u64) y))) ([]) []:=by
 unfold Hs at h;refine A2 Z func272 ?_;obtain⟨y1,e1,h⟩:=A9 h;refine Pd Z Lg (b e1) ?_;refine LY Z (Qu rfl (G1 _ _):(0:Nat)=0/\(DL 33 (λi=>pI .u64 (y1 i))).length=33) ⟨[(18,(pN (a.n:Int))),(16,(pN p_x.min)),(14,(.p (.agg (cA 33 (pI .u64) y1)))),(5,(.reg 6000 0)),(4,(.reg 5000 0)),(2,(.reg 3000 0)),(1,(.p (vSl 2 A0 a)))],[(6000,(.arr 33 (λi=>pI .u64 (y1 i)))),(5000,(.arr 33 (λi=>pI .u64 ((λ_=>0) i)))),(3000,(.cells [(.p (ID p_x.of)),(pN p_x.min),(pN p_x.max)]))]⟩ (ids:=(Qp [3000,5000,6000])) ?_ (hle:=(klR [(2,.eq (.agg (DL 33 (λi=>(cA 33 (pI .u64) y1).getD i default))) (.agg (cA 33 (pI .u64) y1))),(4,.fn 33 33 (λi=>[(λi=>(cA 33 (pI .u64) y1).getD i default) i]) (λi=>[pI .u64 (y1 i)])),(5,.fn 33 33 (λi=>[(λi=>(List.replicate 33 (pI .u64 0)).getD i default) i]) (λi=>[pI .u64 ((λ_=>0) i)]))] (al1 (congrArg PV.agg (Ar8 (Dg 33 (λi=>pI .u64 (y1 i))))) (al1 ⟨rfl,(Dg 33 (λi=>pI .u64 (y1 i)))⟩ (al1 ⟨rfl,(Qa (z:=pI .u64 0) rfl)⟩ al0)))));refine kC Z h (Ap Z Y) (λy2 h=>?_);obtain⟨y3,e3,h⟩:=A9 h;refine B0 Z [] (Qu (Qu rfl (G1 _ _):(0:Nat)=0/\(DL 33 (λi=>pI .u64 (y2 i))).length=33) (Qu rfl (G1 _ _):(0:Nat)=0/\(DL 33 (λi=>pI .u64 (y1 i))).length=33)) (Fb Z Y e3) ?_;refine LY Z (Qu rfl (G1 _ _):(0:Nat)=0/\(DL 33 (λi=>pI .u64 (y3 i))).length=33) ⟨[(8,(.reg 9000 0)),(7,(.reg 8000 0)),(6,(.reg 7000 0)),(4,(.reg 5000 0)),(2,(.reg 3000 0)),(1,(.p (vSl 2 A0 a)))],[(9000,(.arr 33 (λi=>pI .u64 (y3 i)))),(8000,(.arr 33 (λi=>pI .u64 (y1 i)))),(7000,(.arr 33 (λi=>pI .u64 (y2 i)))),(5000,(.arr 33 (λi=>pI .u64 ((λ_=>0) i)))),(3000,(.cells [(.p (ID p_x.of)),(pN p_x.min),(pN p_x.max)]))]⟩ (ids:=(Qp [3000,5000,7000,8000,9000])) ?_ (hle:=(klR [(1,.fn 33 33 (λi=>[(λi=>(cA 33 (pI .u64) y3).getD i default) i]) (λi=>[pI .u64 (y3 i)])),(2,.fn 33 33 (λi=>[(λi=>(cA 33 (pI .u64) y1).getD i default) i]) (λi=>[pI .u64 (y1 i)])),(3,.fn 33 33 (λi=>[(λi=>(cA 33 (pI .u64) y2).getD i default) i]) (λi=>[pI .u64 (y2 i)]))] (al1 ⟨rfl,(Dg 33 (λi=>pI .u64 (y3 i)))⟩ (al1 ⟨rfl,(Dg 33 (λi=>pI .u64 (y1 i)))⟩ (al1 ⟨rfl,(Dg 33 (λi=>pI .u64 (y2 i)))⟩ al0)))));obtain⟨y4,e4,h⟩:=A9 h;refine B0 Z [8000,9000] Lg (FF Z Y e4) ?_;apply kI Z h<;>intro h
 .refine kC Z h (Ap Z Y) (λy5 h=>?_);refine LY Z (Qu rfl (G1 _ _):(0:Nat)=0/\(DL 33 (λi=>pI .u64 (y5 i))).length=33) ⟨[(7,(.reg 8000 0)),(6,(.reg 7000 0)),(4,(.reg 5000 0))],[(8000,(.arr 33 (λi=>pI .u64 (y5 i)))),(7000,(.arr 33 (λi=>pI .u64 (y2 i)))),(5000,(.arr 33 (λi=>pI .u64 ((λ_=>0) i))))]⟩ (ids:=(Qp [5000,7000,8000])) ?_ (hle:=(kl1 0 (NP 33 (λi=>pI .u64 (y5 i)))));obtain⟨y6,e6,h⟩:=A9 h;refine B0 Z [7000,8000] Lg (V9 Z Y e6) ?_;obtain rfl:=B1 h;exact M8 Z (Qu rfl (G1 _ _):(0:Nat)=0/\(DL 33 (λi=>pI .u64 (y6 i))).length=33) ⟨[(4,(.reg 5000 0))],[(5000,(.arr 33 (λi=>pI .u64 (y6 i))))]⟩ [] (ids:=[(5000,5000)]) ⟨rfl,rfl,rfl⟩ (hle:=(kl1 0 (NP 33 (λi=>pI .u64 (y6 i)))))
 refine kC Z h (Ap Z Y) (λy7 h=>?_);refine LY Z (Qu rfl (G1 _ _):(0:Nat)=0/\(DL 33 (λi=>pI .u64 (y7 i))).length=33) ⟨[(7,(.reg 8000 0)),(6,(.reg 7000 0)),(4,(.reg 5000 0))],[(8000,(.arr 33 (λi=>pI .u64 (y7 i)))),(7000,(.arr 33 (λi=>pI .u64 (y2 i)))),(5000,(.arr 33 (λi=>pI .u64 ((λ_=>0) i))))]⟩ (ids:=(Qp [5000,7000,8000])) ?_ (hle:=(kl1 0 (NP 33 (λi=>pI .u64 (y7 i)))));obtain⟨y8,e8,h⟩:=A9 h;refine B0 Z [7000,8000] Lg (V9 Z Y e8) ?_;obtain rfl:=B1 h;exact M8 Z (Qu rfl (G1 _ _):(0:Nat)=0/\(DL 33 (λi=>pI .u64 (y8 i))).length=33) ⟨[(4,(.reg 5000 0))],[(5000,(.arr 33 (λi=>pI .u64 (y8 i))))]⟩ [] (ids:=[(5000,5000)]) ⟨rfl,rfl,rfl⟩ (hle:=(kl1 0 (NP 33 (λi=>pI .u64 (y8 i)))))
def DU (rec:Pat->Option Part)(N:Nat)(a:Pat):Option Part:= Co N (λb (x1:Sl Part) (x2:Int)=>if (decide (x2<(a.L.n:Int))) then if ((0:Int)<=x2/\x2<(a.L.n:Int))then (rec (a.L.g x2.toNat)).bind λy3=>if (Qt 16 (x1.n+(Sl.of [y3]:Sl Part).n))then b (x1.push y3) (wrap .i64 (x2+1)) else none else none else if (a.Kind==1) then some (Part.sound a.Is a.Not) else if (a.Kind==2) then some (Part.edge false) else if (a.Kind==6) then some (Part.edge true) else if (a.Kind==4) then some (Part.alt x1.n x1.g) else if (a.Kind==5) then if (((0:Int)<=0/\0<(x1.n:Int))/\0<x1.n)then some (Part.rep (x1.g 0) a.Min a.Max) else none else some (Part.seq x1.n x1.g)) (Sl.nil:Sl Part) 0
def FZ:Nat->Pat->Option Part
 |0=>λ_=>none
 |N+1=>DU (FZ N) N
theorem QX {rec:Pat->Option Part}(b:∀{a:Pat}{y:Part},rec a=some y->Sb S Di [.p (.agg (C0 a))] [] (.p (ID y)) ([]) []){a:Pat}{y:Part}(h:DU rec N a=some y) :Sb S Di [.p (.agg (C0 a))] [] (.p (ID y)) ([]) []:=by
 unfold DU at h;refine A2 Z func245 ?_;refine F0 Z Lg 2 2000 (C0 a) ?_;refine N9 Z Lg 8 ⟨[(7,.p (vSl 7 C0 a.L)),(3,.p I4),(1,.p (.ptr (C0 a)))],[]⟩ (ids:=[]) ?_ (hle:=klR [(0,.fn a.L.n a.L.n (Du a) (λi=>C0 (a.L.g i)))] (al1 ⟨rfl,V8 a⟩ al0));refine H7 Z Lg h (λx1 x2=>⟨[(9,pN x2),(8,pN (a.L.n:Int)),(7,.p (vSl 7 C0 a.L)),(3,.vec 4500),(1,.p (.ptr (C0 a)))],[(4500,oV Ad0 1 Kf x1 false)]⟩) (ids:=[]) (λ_ _ _ _ _ c x1 x2 d h=>?_);apply kI Z h<;>intro h
 .obtain⟨c6,h⟩:=B9 h;refine F0 Z (Qu c6 Nk) 13 6000 (C0 (a.L.g x2.toNat)) ?_;obtain⟨y3,e3,h⟩:=A9 h;refine B0 Z [] Nk (b e3) ?_;obtain⟨c7,h⟩:=B9 h;exact d _ [(4500,18000)] _ (x1.push y3) (wrap .i64 (x2+1)) (Qu Nm c7) h (hle:=kl1 4 (Ci Kf x1 y3 [.v .nilIface]))
 apply kI Z h<;>intro h
 .obtain rfl:=B1 h;exact Xw Z (by decide:(2:Nat)<=6) [] ⟨rfl,rfl,rfl⟩
 refine Su Z h fun h=>?_;refine Su Z h fun h=>?_;apply kI Z h<;>intro h
 .refine N9 Z Lg 40 ⟨[(39,.p (vSl 1 Kf x1))],[]⟩ (ids:=[]) ?_;cases h;exact kR Z
 apply kI Z h<;>intro h
 .refine C4 Z Lg [4,6] ?_;obtain⟨c13,h⟩:=B9 h;refine C8 c13 ?_;cases h;exact kR Z
 refine N9 Z Lg 54 ⟨[(53,.p (vSl 1 Kf x1))],[]⟩ (ids:=[]) ?_;cases h;exact kR Z
theorem SD {a:Pat}{y:Part}(h:FZ N a=some y) :Sb S Di [.p (.agg (C0 a))] [] (.p (ID y)) ([]) []:=by
 induction N generalizing a y with
 |zero=>cases (show (none:Option Part)=some y from h)
 |succ N ih=>exact QX Z Y (λe=>ih e) h
def IX:Nat->Part->Sl Qj->Option (Nat->Int)
 |0=>λ_ _=>none
 |N+1=>λp w=>match p with
  |.nil=>none
  |.sound x no=>Fc N ⟨x,no⟩ w
  |.edge e=>FY N ⟨e⟩ w
  |.seq n g=>Hq (IX N) N ⟨⟨n,g⟩⟩ w
  |.alt n g=>Hr (IX N) N ⟨⟨n,g⟩⟩ w
  |.rep o mn mx=>Hs (IX N) N ⟨o,mn,mx⟩ w
theorem AG5 {N:Nat}{x:Part}{w:Sl Qj}{y:Nat->Int}(h:IX N x w=some y):Br3 S Tryz.prog (ID x) "ablaut/pats.in" [(.p (vSl 2 A0 w))] (.p (.agg (cA 33 (pI .u64) y))):=by
 induction N generalizing x w y with
 |zero=>cases h
 |succ N ih=>
  cases x with
  |nil=>cases h
  |sound s no=>exact⟨_,_,EZ,rfl,by kernel_rfl,QW Z Y (p_x:=⟨s,no⟩) h⟩
  |edge e=>exact⟨_,_,FU,rfl,by kernel_rfl,SB Z Y (N:=N) (p_x:=⟨e⟩) h⟩
  |seq n g=>exact⟨_,_,Hm,rfl,by kernel_rfl,VN Z Y (λe=>ih e) (p_x:=⟨⟨n,g⟩⟩) h⟩
  |alt n g=>exact⟨_,_,Hk,rfl,by kernel_rfl,VO Z Y (λe=>ih e) (p_x:=⟨⟨n,g⟩⟩) h⟩
  |rep o mn mx=>exact⟨_,_,Hl,rfl,by kernel_rfl,VP Z Y (λe=>ih e) (p_x:=⟨o,mn,mx⟩) h⟩
def Fd (N:Nat)(a:Qj):Option Bool:= (R9 N a).bind λy1=>some (!y1)
theorem QY {a:Qj}{y:Bool}(h:Fd N a=some y) :Sb S IT [.p (.agg (A0 a))] [] (pB y) ([]) []:=by unfold Fd at h;refine A2 Z func244 ?_;refine kC Z h (FE Z Y) (λy1 h=>?_);cases h;exact kR Z
def E9 (N:Nat)(a:Sl Qj)(c:Qj->Option Bool):Option Int:= R6 N (λb (x1:Int)=>if (decide (x1<(a.n:Int))) then if ((0:Int)<=x1/\x1<(a.n:Int))then (c (a.g x1.toNat)).bind λy3=>if y3 then some x1 else b (wrap .i64 (x1+1)) else none else some (-1)) 0
theorem Z7 {a:Sl Qj}{c:Qj->Option Bool}{kp_f:Nat}(d:∀{a0:Qj}{b:Bool},c a0=some b->Sb S kp_f [.p (.agg (A0 a0))] [] (pB b) [] []){y:Int}(h:E9 N a c=some y) :Sb S O2 [.p (vSl 2 A0 a),.clo kp_f [] []] [] (pN y) ([]) []:=by
 unfold E9 at h;refine A2 Z func203 ?_;refine F1 Z Lg h (λx1=>⟨[(8,pN x1),(7,pN (a.n:Int)),(1,.clo kp_f [] []),(0,.p (vSl 2 A0 a))],[]⟩) (ids:=[]) (λ_ _ _ _ _ f x1 g h=>?_);apply kI Z h<;>intro h
 .obtain⟨c8,h⟩:=B9 h;obtain⟨y3,e3,h⟩:=A9 h;refine B0 Z [] (Qu c8 Nh) (d e3) ?_;refine Su Z h fun h=>?_;exact g _ [] _ _ Lg h
 cases h;exact kR Z
def B8 (N:Nat)(a:Sl Qj)(b:Qj->Option Bool):Option Bool:= (E9 N a b).bind λy1=>some (decide (0<=y1))
theorem N0 {a:Sl Qj}{c:Qj->Option Bool}{kp_f:Nat}(d:∀{a0:Qj}{b:Bool},c a0=some b->Sb S kp_f [.p (.agg (A0 a0))] [] (pB b) [] []){y:Bool}(h:B8 N a c=some y) :Sb S M9 [.p (vSl 2 A0 a),.clo kp_f [] []] [] (pB y) ([]) []:=by unfold B8 at h;refine A2 Z func178 ?_;refine kC Z h (Z7 Z Y (λe=>d e)) (λy1 h=>?_);cases h;exact kR Z
def E4 (N:Nat)(q0:Sl Pat):Option (List (Int×Pat)):= R6 N (λa (x1:Int)=>if (decide (0<=x1)) then if ((0:Int)<=x1/\x1<(q0.n:Int))then JQ (x1,q0.g x1.toNat) (a (wrap .i64 (x1-1))) else none else some []) (wrap .i64 ((q0.n:Int)-1))
theorem AS {q0:Sl Pat}{L:List (Int×Pat)}(h:E4 N q0=some L) :EP S I2 [] [.reg 0 0] [.cells [.p (vSl 7 C0 q0)]] (L.map (λ(x:Int×Pat)=>[pI .i64 x.1,(λx=>.agg (C0 x)) x.2])):=by
 unfold E4 at h;refine Ek Z func216 ?_;refine CM Z Lg h (λx1 L1=>⟨[(3,pN x1),(1,.reg 0 0),(0,.yf 1)],[(1,.yld (L1.map (λ(x:Int×Pat)=>[pI .i64 x.1,(λx=>.agg (C0 x)) x.2])) true),(0,.cells [.p (vSl 7 C0 q0)])]⟩) (ids:=(Qp [0,1])) (λ_ _ _ _ _ d x1 L1 f h=>?_);apply kI Z h<;>intro h
 .obtain⟨c10,h⟩:=B9 h;obtain⟨L4,rfl,c⟩:=Ng h;replace h:=c;refine CL Z (Qu c10 Nk) (ys:=(λ(x:Int×Pat)=>[pI .i64 x.1,(λx=>.agg (C0 x)) x.2]) (x1,q0.g x1.toNat)) (rest:=L4.map (λ(x:Int×Pat)=>[pI .i64 x.1,(λx=>.agg (C0 x)) x.2])) ?_ ?_
  .refine C7 Z Lg (b:=false) (λc11=>?_) (λc11=>?_)
   .exact Bool.noConfusion ((rfl:false=false).symm.trans c11)
   exact f _ (Qp [0,1]) _ _ L4 Lg h
  refine C7 Z Lg (b:=true) (λc12=>?_) (λc12=>?_)
  .exact kO Z Lg (a:=.tup []) (objs:=[(.cells [.p (vSl 7 C0 q0)]),.yld [] false]) [0,1] ⟨false,rfl,rfl,_,rfl⟩
  exact Bool.noConfusion (Nm.symm.trans c12)
 obtain rfl:=B1 h;exact kO Z Lg (a:=.tup []) (objs:=[(.cells [.p (vSl 7 C0 q0)]),.yld [] true]) [0,1] ⟨true,rfl,rfl,_,rfl⟩
def J7 (N:Nat)(a:Sl Pat):Option (Sl Pat):= some a
theorem BA {a:Sl Pat}{y:Sl Pat}(h:J7 N a=some y) :Sb S R7 [.p (vSl 7 C0 a)] [] (.clo I2 [] [.reg 0 0]) ([.cells [.p (vSl 7 C0 y)]]) []:=by unfold J7 at h;refine A2 Z func202 ?_;obtain rfl:=B1 h;exact kO Z Lg [2000]
def Aq (N:Nat)(c:Pat):Option Int:= Co N (λa (x3:Sl Pat) (x4:Int)=>if (decide (0<(x3.n:Int))) then if (x4==40) then some 12 else if (((0:Int)<=(wrap .i64 ((x3.n:Int)-1))/\(wrap .i64 ((x3.n:Int)-1))<(x3.n:Int))/\(wrap .i64 ((x3.n:Int)-1)).toNat<x3.n)then if ((0:Int)<=(wrap .i64 ((x3.n:Int)-1))/\(wrap .i64 ((x3.n:Int)-1))<=(x3.n:Int))then (By N (x3.g (wrap .i64 ((x3.n:Int)-1)).toNat)).bind λy5=>if (y5 != 0) then some y5 else if ((0:Int)<=(if 41<((x3.g (wrap .i64 ((x3.n:Int)-1)).toNat).L.n:Int)then 41 else ((x3.g (wrap .i64 ((x3.n:Int)-1)).toNat).L.n:Int))/\(if 41<((x3.g (wrap .i64 ((x3.n:Int)-1)).toNat).L.n:Int)then 41 else ((x3.g (wrap .i64 ((x3.n:Int)-1)).toNat).L.n:Int))<=((x3.g (wrap .i64 ((x3.n:Int)-1)).toNat).L.n:Int))then (J7 N ((x3.g (wrap .i64 ((x3.n:Int)-1)).toNat).L.take (if 41<((x3.g (wrap .i64 ((x3.n:Int)-1)).toNat).L.n:Int)then 41 else ((x3.g (wrap .i64 ((x3.n:Int)-1)).toNat).L.n:Int)).toNat)).bind λy6=>(E4 N y6).bind λL3=>Cp L3 (λb (x7:Int×Pat) (z3:Sl Pat)=>if (((Qt 64 (z3.n+(Sl.of [Pat.nil]:Sl Pat).n))/\((0:Int)<=(z3.n:Int)/\(z3.n:Int)<((z3.push Pat.nil).n:Int)))/\(z3.n:Int).toNat<(z3.push Pat.nil).n)then b ((z3.push Pat.nil).upd (z3.n:Int).toNat x7.2) else none) (λ(z3:Sl Pat)=>a z3 (wrap .i64 (x4+1))) (x3.take (wrap .i64 ((x3.n:Int)-1)).toNat) else none else none else none else some 0) (Sl.of [c]:Sl Pat) 0
theorem IY {b:Pat}{y:Int}(h:Aq N b=some y) :Sb S Oh [.p (.agg (C0 b))] [] (pN y) ([]) []:=by
 unfold Aq at h;refine A2 Z func177 ?_;refine F0 Z Lg 2 2000 (C0 b) ?_;refine H7 Z (Qu Nk Nm) h (λx3 x4=>⟨[(4,pN x4),(3,.reg 4000 0)],[(4501,oV GE 7 C0 x3 false),(4000,.cells [.vec 4501])]⟩) (ids:=[(4000,4000),(4501,12000)]) (λ_ _ _ _ _ d x3 x4 j h=>?_) (hle:=kl1 1 (Ay3 C0 ([b]:List Pat) [pI .i64 0,pI .u32 0,pI .u32 0,.v (.bool false),pI .i64 0,pI .i64 0,I4]));apply kI Z h<;>intro h
 .refine Su Z h fun h=>?_;obtain⟨c21,h⟩:=B9 h;refine F0 Z (Qu (Qu c21.1 Nk) c21.2) 25 6000 (C0 (x3.g (wrap .i64 ((x3.n:Int)-1)).toNat)) ?_;obtain⟨c22,h⟩:=B9 h;refine Br4 Z c22 30 4501 (wrap .i64 ((x3.n:Int)-1)).toNat 4508 (e:=GE) (k:=7) (N:=x3.n) (f:=λi=>C0 (x3.g i)) (by have q:=c22;omega) ?_;obtain⟨y5,e7,h⟩:=A9 h;refine B0 Z [] Nk (Sz Z Y e7) ?_;refine Su Z h fun h=>?_;refine N9 Z Lg 39 ⟨[(38,.p (vSl 7 C0 (x3.g (wrap .i64 ((x3.n:Int)-1)).toNat).L)),(36,.p (vSl 7 C0 (x3.g (wrap .i64 ((x3.n:Int)-1)).toNat).L)),(4,pN x4),(3,.reg 4000 0)],[(4508,.vec GE 7 (x3.take (wrap .i64 ((x3.n:Int)-1)).toNat).n (λi=>C0 ((x3.take (wrap .i64 ((x3.n:Int)-1)).toNat).g i)) false),(4000,.cells [.vec 4508])]⟩ (ids:=(Qp [4000,4508])) ?_ (hle:=klR [(0,.fn (x3.g (wrap .i64 ((x3.n:Int)-1)).toNat).L.n (x3.g (wrap .i64 ((x3.n:Int)-1)).toNat).L.n (Du (x3.g (wrap .i64 ((x3.n:Int)-1)).toNat)) (λi=>C0 ((x3.g (wrap .i64 ((x3.n:Int)-1)).toNat).L.g i))),(1,.fn (x3.g (wrap .i64 ((x3.n:Int)-1)).toNat).L.n (x3.g (wrap .i64 ((x3.n:Int)-1)).toNat).L.n (Du (x3.g (wrap .i64 ((x3.n:Int)-1)).toNat)) (λi=>C0 ((x3.g (wrap .i64 ((x3.n:Int)-1)).toNat).L.g i)))] (al1 ⟨rfl,V8 (x3.g (wrap .i64 ((x3.n:Int)-1)).toNat)⟩ (al1 ⟨rfl,V8 (x3.g (wrap .i64 ((x3.n:Int)-1)).toNat)⟩ al0)));obtain⟨c24,h⟩:=B9 h;obtain⟨y6,e8,h⟩:=A9 h;refine B0 Z [] c24 (BA Z Y e8) ?_;obtain⟨L3,e9,h⟩:=A9 h;refine IB Z Lg [44000] [4,3] 905 (λz3=>⟨[(4,pN x4),(3,.reg 4000 0)],[(4500,oV GE 7 C0 z3 false),(4000,.cells [.vec 4500])]⟩) (idl:=[(4000,4000),(4500,4508)]) h (AS Z Y e9) (λ_=>by kernel_rfl) (λ_=>by kernel_rfl) (λ_=>by kernel_rfl) (λ_=>by kernel_rfl) (λx7 _ m z3 o h=>?_) (λz3 h=>?_)
  .refine Ma Z Lg ?_;refine XE Z Lg 10000 (C0 x7.2) ?_;refine G8 Z Lg [(0,.l [4000]),(1,.n),(2,.l [4500]),(4,.a [51000,4500]),(5,.l [51000]),(6,.a [51000]),(7,.a [4000])] ?_;refine O9 Nk (x:=.sl true 7 1 (H0 [pI .i64 0,pI .u32 0,pI .u32 0,.v (.bool false),pI .i64 0,pI .i64 0,I4] [(0,[pI .i64 0,pI .u32 0,pI .u32 0,.v (.bool false),pI .i64 0,pI .i64 0,I4])])) ?_;obtain⟨c27,h⟩:=B9 h;refine C8 (Qu (Qu c27.1.1 c27.1.2) (Qu (rfl:(7:Nat)=7) (Qu c27.2 Nk))) ?_;exact o _ [(905,905),(4000,4000),(4500,51000)] _ _ Lg h (hle:=klR [(0,.fn (z3.n+1) ((z3.push Pat.nil).upd (z3.n:Int).toNat x7.2).n (λl=>if l=(z3.n:Int).toNat then splice (Ey z3.n (λi=>C0 (z3.g i)) (H0 [pI .i64 0,pI .u32 0,pI .u32 0,.v (.bool false),pI .i64 0,pI .i64 0,I4] [(0,[pI .i64 0,pI .u32 0,pI .u32 0,.v (.bool false),pI .i64 0,pI .i64 0,I4])]) l) 0 [pI .i64 x7.2.Kind,pI .u32 x7.2.Is.Plus,pI .u32 x7.2.Is.Minus,.bb x7.2.Not,pI .i64 x7.2.Min,pI .i64 x7.2.Max,.sl false 7 x7.2.L.n (Du x7.2)]else (Ey z3.n (λi=>C0 (z3.g i)) (H0 [pI .i64 0,pI .u32 0,pI .u32 0,.v (.bool false),pI .i64 0,pI .i64 0,I4] [(0,[pI .i64 0,pI .u32 0,pI .u32 0,.v (.bool false),pI .i64 0,pI .i64 0,I4])])) l) (λi=>C0 (((z3.push Pat.nil).upd (z3.n:Int).toNat x7.2).g i)))] (al1 ⟨rfl,setH (c:=C0) (v:=z3.push Pat.nil) (x:=x7.2) (app1H (c:=C0) (v:=z3) (z:=Pat.nil) same rfl) (λ_=>by simp[Ey,H0,splice])⟩ al0))
  exact j _ [(4000,4000),(4501,4500)] _ z3 _ Lg h
 cases h;exact kR Z
def Ep (N:Nat)(b:Pat)(a:Sl Qj):Option ((Nat->Int)×Int):= (Aq N b).bind λy1=>if (y1 != 0) then some (λ_=>0,y1) else if (decide (32<(a.n:Int))) then some (λ_=>0,11) else (B8 N a (λ(u1:Qj)=>Fd N u1)).bind λy2=>if y2 then some (λ_=>0,14) else (FZ N b).bind λy3=>(IX N y3 a).bind λy4=>some (y4,0)
theorem MC {a:Pat}{b:Sl Qj}{y:(Nat->Int)×Int}(h:Ep N a b=some y) :Sb S My [.p (.agg (C0 a)),.p (vSl 2 A0 b)] [] (.tup [.p (.agg (cA 33 (pI .u64) y.1)),pN y.2]) ([]) []:=by
 unfold Ep at h;refine A2 Z func241 ?_;refine kC Z h (IY Z Y) (λy1 h=>?_);apply kI Z h<;>intro h
 .obtain rfl:=B1 h;exact M8 Z (Qu rfl (G1 _ _):(0:Nat)=0/\(DL 33 (λi=>pI .u64 ((λ_=>0) i))).length=33) ⟨[(5,pN y1),(4,.reg 5000 0)],[(5000,.arr 33 (λi=>pI .u64 ((λ_=>0) i)))]⟩ [] (ids:=[(5000,5000)]) ⟨rfl,rfl,rfl⟩ (hle:=kl1 1 (NP 33 (λi=>pI .u64 ((λ_=>0) i))))
 apply kI Z h<;>intro h
 .obtain rfl:=B1 h;exact M8 Z (Qu rfl (G1 _ _):(0:Nat)=0/\(DL 33 (λi=>pI .u64 ((λ_=>0) i))).length=33) ⟨[(5,pN 11),(4,.reg 5000 0)],[(5000,.arr 33 (λi=>pI .u64 ((λ_=>0) i)))]⟩ [] (ids:=[(5000,5000)]) ⟨rfl,rfl,rfl⟩ (hle:=kl1 1 (NP 33 (λi=>pI .u64 ((λ_=>0) i))))
 refine kC Z h (N0 Z Y (λe=>QY Z Y e)) (λy2 h=>?_);apply kI Z h<;>intro h
 .obtain rfl:=B1 h;exact M8 Z (Qu rfl (G1 _ _):(0:Nat)=0/\(DL 33 (λi=>pI .u64 ((λ_=>0) i))).length=33) ⟨[(5,pN 14),(4,.reg 5000 0)],[(5000,.arr 33 (λi=>pI .u64 ((λ_=>0) i)))]⟩ [] (ids:=[(5000,5000)]) ⟨rfl,rfl,rfl⟩ (hle:=kl1 1 (NP 33 (λi=>pI .u64 ((λ_=>0) i))))
 refine kC Z h (SD Z Y) (λy3 h=>?_);obtain⟨y4,e4,h⟩:=A9 h;refine Pd Z Lg (AG5 Z Y e4) ?_;obtain rfl:=B1 h;exact M8 Z (Qu rfl (G1 _ _):(0:Nat)=0/\(DL 33 (λi=>pI .u64 (y4 i))).length=33) ⟨[(5,pN 0),(4,.reg 5000 0)],[(5000,.arr 33 (λi=>pI .u64 (y4 i)))]⟩ [] (ids:=[(5000,5000)]) ⟨rfl,rfl,rfl⟩ (hle:=kl1 1 (NP 33 (λi=>pI .u64 (y4 i))))
def Ht (N:Nat)(d:Pat)(c:Sl Qj)(a:Int):Option ((Sl Int)×Int):= (Ep N d c).bind λy1=>lt (λ(z1:Int)=>if (z1 != 0) then some (Q5,z1) else Co N (λb (x2:Sl Int) (x3:Int)=>if (decide (x3<(wrap .i64 ((c.n:Int)+1)))) then if ((((0:Int)<=x3/\x3<33)/\(0+x3.toNat*1)<33)/\(0:Int)<=a)then if ((G6 .and .u64 (shI .shr .u64 (y1.1 (0+x3.toNat*1)) a) 1)==1) then if (Qt 8 (x2.n+(Sl.of [x3]:Sl Int).n))then b (x2.push x3) (wrap .i64 (x3+1)) else none else b x2 (wrap .i64 (x3+1)) else none else some (x2,0)) Q5 0) λk1=>if (y1.2==0) then (Eo N c a).bind λy3=>k1 y3 else k1 y1.2
theorem VQ {d:Pat}{c:Sl Qj}{a:Int}{y:(Sl Int)×Int}(h:Ht N d c a=some y) :Sb S Mx [.p (.agg (C0 d)),.p (vSl 2 A0 c),pN a] [] (.tup [.vec 0,pN y.2]) ([oV D1 1 (cI .i64) y.1 true]) []:=by
 unfold Ht at h;refine A2 Z func237 ?_;refine kC Z h (MC Z Y) (λy1 h=>?_);refine Ii Z (Qu rfl (G1 _ _):(0:Nat)=0/\(DL 33 (λi=>pI .u64 (y1.1 i))).length=33) (A4 Z) h 0 (λz1=>⟨[(9,pN z1),(8,.reg 9000 0),(2,pN a),(1,.p (vSl 2 A0 c))],[(9000,.arr 33 (λi=>pI .u64 (y1.1 i)))]⟩) (λM1 k1 f h=>?_) (λz1 h=>?_)
 .apply kI Z h<;>intro h
  .refine kC Z h (MB Z Y) (λy3 h=>?_);exact f _ [(9000,9000)] _ y3 Lg h (hle:=kl1 3 (NP 33 (λi=>pI .u64 (y1.1 i))))
  exact f _ [(9000,9000)] _ _ Lg h (hle:=kl1 3 (NP 33 (λi=>pI .u64 (y1.1 i))))
 apply kI Z h<;>intro h
 .obtain rfl:=B1 h;exact kO Z Lg [7700]
 refine H7 Z Lg h (λx2 x3=>⟨[(29,pN x3),(28,pN (wrap .i64 ((c.n:Int)+1))),(10,.vec 11500),(8,.reg 9000 0),(2,pN a)],[(11500,oV D1 1 (cI .i64) x2 false),(9000,.arr 33 (λi=>pI .u64 (y1.1 i)))]⟩) (ids:=[(9000,9000)]) (λ_ _ _ _ _ j x2 x3 g h=>?_);apply kI Z h<;>intro h
 .obtain⟨c12,h⟩:=B9 h;refine C7 Z c12 (b:=(G6 .and .u64 (shI .shr .u64 (y1.1 (0+x3.toNat*1)) a) 1)==1) (λc13=>?_) (λc13=>?_)
  .replace h:=itT c13 h;obtain⟨c14,h⟩:=B9 h;exact g _ [(9000,9000),(11500,43000)] _ (x2.push x3) (wrap .i64 (x3+1)) (Qu Nm c14) h (hle:=kl1 3 (Ci (cI .i64) x2 x3 [pI .i64 0]))
  replace h:=itF c13 h;exact g _ (Qp [9000,11500]) _ x2 _ Lg h
 obtain rfl:=B1 h;exact kO Z Lg [11500]
def P4 (N:Nat)(a:List (Int)):Option (Sl Int):= Cp a (λb (x1:Int) (z1:Sl Int)=>if (Qt 8 (z1.n+(Sl.of [x1]:Sl Int).n))then b (z1.push x1) else none) (λ(z1:Sl Int)=>some z1) Q5
theorem DC {b:List (Int)}{a:Int}{kp_seq:Nat}(fp_seq:∃fn,By1[kp_seq]? = some fn/\fn.body.isSome=true/\(fn.name == "runtime.NumGoroutine")=false)(c:EP S kp_seq [] [.reg 0 0] [(.cells [(.p (pI .u64 a))])] (b.map (λ(x:Int)=>[(pI .i64) x]))){y:(Sl Int)}(h:P4 N b=some y) :Sb S Q1 [(.p I4),(.clo kp_seq [] [(.reg 0 0)])] [(.cells [(.p (pI .u64 a))])] (.vec 0) ([(oV D1 1 (cI .i64) y true)]) [false]:=by
 unfold P4 at h;refine A2 Z func190 ?_;refine Pc Z Lg fp_seq [0] [2] 901 (λz1=>⟨[(2,(.reg 3000 0))],[(3500,(oV D1 1 (cI .i64) z1 false)),(3000,(.cells [(.vec 3500)]))]⟩) (idl:=[(3000,3000)]) h c (λ_=>by kernel_rfl) (λ_=>by kernel_rfl) (λ_=>by kernel_rfl) (λ_=>by kernel_rfl) (λx1 _ d z1 f h=>?_) (λz1 h=>?_)
 .refine Ma Z Lg ?_;obtain⟨c1,h⟩:=B9 h;exact f _ [(901,901),(3000,3000),(3500,12000)] _ (z1.push x1) (Qu Nm c1) h (hle:=kl1 0 (Ci (cI .i64) z1 x1 [(pI .i64 0)]))
 obtain rfl:=B1 h;exact kO Z Lg [3500]
def Ar (N:Nat)(a:List (Int)):Option (Sl Int):= (P4 N a).bind λy1=>some y1
theorem IZ {b:List (Int)}{a:Int}{kp_seq:Nat}(fp_seq:∃fn,By1[kp_seq]? = some fn/\fn.body.isSome=true/\(fn.name == "runtime.NumGoroutine")=false)(c:EP S kp_seq [] [.reg 0 0] [(.cells [(.p (pI .u64 a))])] (b.map (λ(x:Int)=>[(pI .i64) x]))){y:(Sl Int)}(h:Ar N b=some y) :Sb S Ba [(.clo kp_seq [] [(.reg 0 0)])] [(.cells [(.p (pI .u64 a))])] (.vec 0) ([(oV D1 1 (cI .i64) y true)]) [false]:=by unfold Ar at h;refine A2 Z func149 ?_;obtain⟨y1,e1,h⟩:=A9 h;refine B0 Z [0] Lg (DC Z Y fp_seq c e1) ?_;obtain rfl:=B1 h;exact kO Z Lg [5000]
def Lk (N:Nat)(c:Pat)(b:Sl Qj)(a:Int):Option ((Sl Int)×Int):= (Ep N c b).bind λy1=>lt (λ(z1:Int)=>if (z1 != 0) then some (Q5,z1) else if (((0:Int)<=a/\a<33)/\(0+a.toNat*1)<33)then (Bz N (y1.1 (0+a.toNat*1))).bind λy4=>(Y3 N y4).bind λL1=>(Ar N L1).bind λy5=>some (y5,0) else none) λk1=>if (y1.2==0) then (Eo N b a).bind λy3=>k1 y3 else k1 y1.2
theorem Ad5 {b:Pat}{c:Sl Qj}{a:Int}{y:(Sl Int)×Int}(h:Lk N b c a=some y) :Sb S QM [.p (.agg (C0 b)),.p (vSl 2 A0 c),pN a] [] (.tup [.vec 0,pN y.2]) ([oV D1 1 (cI .i64) y.1 true]) []:=by
 unfold Lk at h;refine A2 Z func238 ?_;refine kC Z h (MC Z Y) (λy1 h=>?_);refine Ii Z (Qu rfl (G1 _ _):(0:Nat)=0/\(DL 33 (λi=>pI .u64 (y1.1 i))).length=33) (A4 Z) h 0 (λz1=>⟨[(9,pN z1),(8,.reg 9000 0),(2,pN a)],[(9000,.arr 33 (λi=>pI .u64 (y1.1 i)))]⟩) (λM1 k1 d h=>?_) (λz1 h=>?_)
 .apply kI Z h<;>intro h
  .refine kC Z h (MB Z Y) (λy3 h=>?_);exact d _ [(9000,9000)] _ y3 Lg h (hle:=kl1 2 (NP 33 (λi=>pI .u64 (y1.1 i))))
  exact d _ [(9000,9000)] _ _ Lg h (hle:=kl1 2 (NP 33 (λi=>pI .u64 (y1.1 i))))
 apply kI Z h<;>intro h
 .obtain rfl:=B1 h;exact kO Z Lg [7700]
 obtain⟨c5,h⟩:=B9 h;obtain⟨y4,e4,h⟩:=A9 h;refine B0 Z [] c5 (FX Z Y e4) ?_;obtain⟨L1,e5,h⟩:=A9 h;obtain⟨y5,e6,h⟩:=A9 h;refine B0 Z [28000] Lg (IZ Z Y ⟨_,func246,by decide +kernel,by decide +kernel⟩ (DT Z Y e5) e6) ?_;obtain rfl:=B1 h;exact kO Z Lg [29000]
def CQ (N:Nat)(a:Str):Option Bool:= lt (λ(z1:Bool)=>some z1) λk1=>if ((a==[]) != true) then if (decide ((a.length:Int)<=24)) then (Z0 N a [97,98,99,100,101,102,103,104,105,106,107,108,109,110,111,112,113,114,115,116,117,118,119,120,121,122,65,66,67,68,69,70,71,72,73,74,75,76,77,78,79,80,81,82,83,84,85,86,87,88,89,90,48,49,50,51,52,53,54,55,56,57,45]).bind λy2=>k1 ((y2==[]) != false) else k1 false else k1 false
theorem Ad6 {b:Str}{y:Bool}(h:CQ N b=some y) :Sb S QF [.p (.str b)] [] (pB y) ([]) []:=by
 unfold CQ at h;refine A2 Z func176 ?_;refine Ii Z Lg (A4 Z) h 0 (λz1=>⟨[(2,pB z1)],[]⟩) (λM1 k1 a h=>?_) (λz1 h=>?_)
 .refine kG Z h (λh=>?_) (λh=>?_)
  .refine kG Z h (λh=>?_) (λh=>?_)
   .refine kC Z h (KE Z Y) (λy2 h=>?_);exact a _ [] _ _ Lg h
   exact a _ [] _ _ Lg h
  exact a _ [] _ _ Lg h
 cases h;exact kR Z
def Z1 (N:Nat)(p_x:Dv)(a:Int):Option Bool:= lt (λ(z1:Bool)=>if z1 then some false else if ((((G6 .andNot .u32 (G6 .or .u32 p_x.Clear p_x.Take) 16777215) != 0)||((G6 .and .u32 p_x.Clear (G6 .or .u32 p_x.Set.Plus p_x.Set.Minus)) != 0))||((G6 .and .u32 p_x.Take (G6 .or .u32 (G6 .or .u32 p_x.Set.Plus p_x.Set.Minus) p_x.Clear)) != 0)) then some false else if (p_x.Take==0) then some (p_x.Of==0) else some ((decide (0<=p_x.Of))&&(decide (p_x.Of<a)))) λk1=>if (decide (p_x.From<(-1))) then k1 true else if (decide (a<=p_x.From)) then k1 true else (G2 N p_x.Set).bind λy2=>k1 (!y2)
theorem Au3 {p_x:Dv}{b:Int}{y:Bool}(h:Z1 N p_x b=some y) :Sb S TV [.p (.agg (Z9 p_x)),pN b] [] (pB y) ([]) []:=by
 unfold Z1 at h;refine A2 Z func174 ?_;refine Ii Z Lg (A4 Z) h 0 (λz1=>⟨[(13,pB z1),(5,pU (G6 .or .u32 p_x.Set.Plus p_x.Set.Minus)),(2,.reg 3000 0),(1,pN b)],[(3000,.cells ((Z9 p_x).map .p))]⟩) (λM1 k1 c h=>?_) (λz1 h=>?_)
 .refine kG Z h (λh=>?_) (λh=>?_)
  .exact c _ [(3000,3000)] _ _ Lg h
  refine kG Z h (λh=>?_) (λh=>?_)
  .exact c _ [(3000,3000)] _ _ Lg h
  refine kC Z h (R5 Z Y) (λy2 h=>?_);exact c _ [(3000,3000)] _ _ Lg h
 refine Su Z h fun h=>?_;refine kB Z (A4 Z) Lg Lg 16 (.o (.o (.a ((G6 .andNot .u32 (G6 .or .u32 p_x.Clear p_x.Take) 16777215) != 0)) (.a ((G6 .and .u32 p_x.Clear (G6 .or .u32 p_x.Set.Plus p_x.Set.Minus)) != 0))) (.a ((G6 .and .u32 p_x.Take (G6 .or .u32 (G6 .or .u32 p_x.Set.Plus p_x.Set.Minus) p_x.Clear)) != 0))) ?_;refine Su Z h fun h=>?_;refine Su Z h fun h=>?_;refine kB Z (A4 Z) Lg Lg 5 (.n (.a (decide (0<=p_x.Of))) (.a (decide (p_x.Of<b)))) ?_;cases h;exact kR Z
def AT (N:Nat)(p_x:Dv)(q0:Int):Option Bool:= (Z1 N p_x q0).bind λy1=>some (!y1)
theorem VR {p_x:Dv}{q0:Int}{y:Bool}(h:AT N p_x q0=some y) :Sb S Mt [.p (.agg (Z9 p_x)),.reg 0 0] [.cells [pN q0]] (pB y) ([.cells [pN q0]]) [true]:=by unfold AT at h;refine A2 Z func173 ?_;refine kC Z h (Au3 Z Y) (λy1 h=>?_);obtain rfl:=B1 h;exact kO Z Lg [0]
def AU (N:Nat)(a:Qj):Option Bool:= (G2 N a).bind λy1=>some (!y1)
theorem VT {a:Qj}{y:Bool}(h:AU N a=some y) :Sb S Mu [.p (.agg (A0 a))] [] (pB y) ([]) []:=by unfold AU at h;refine A2 Z func175 ?_;refine kC Z h (R5 Z Y) (λy1 h=>?_);cases h;exact kR Z
def F6 (N:Nat)(a:Sl Dv)(c:Dv->Option Bool):Option Int:= R6 N (λb (x1:Int)=>if (decide (x1<(a.n:Int))) then if ((0:Int)<=x1/\x1<(a.n:Int))then (c (a.g x1.toNat)).bind λy3=>if y3 then some x1 else b (wrap .i64 (x1+1)) else none else some (-1)) 0
theorem Bh {c:Sl Dv}{d:Dv->Option Bool}{a:Int}{kp_f:Nat}(f:∀{a0:Dv}{b:Bool},d a0=some b->Sb S kp_f [.p (.agg (Z9 a0)),.reg 0 0] [.cells [pN a]] (pB b) [.cells [pN a]] [true]){y:Int}(h:F6 N c d=some y) :Sb S Q7 [.p (vSl 6 Z9 c),.clo kp_f [] [.reg 0 0]] [.cells [pN a]] (pN y) ([.cells [pN a]]) [true]:=by
 unfold F6 at h;refine A2 Z func204 ?_;refine F1 Z Lg h (λx1=>⟨[(8,pN x1),(7,pN (c.n:Int)),(1,.clo kp_f [] [.reg 0 0]),(0,.p (vSl 6 Z9 c))],[(0,.cells [pN a])]⟩) (ids:=[(0,0)]) (λ_ _ _ _ _ g x1 i h=>?_);apply kI Z h<;>intro h
 .obtain⟨c8,h⟩:=B9 h;obtain⟨y3,e3,h⟩:=A9 h;refine B0 Z [0] (Qu c8 (by decide:(6:Nat)<=6)) (f e3) ?_;apply kI Z h<;>intro h
  .obtain rfl:=B1 h;exact kO Z Lg [0]
  exact i _ [(0,0)] _ _ Lg h
 obtain rfl:=B1 h;exact kO Z Lg [0]
def D4 (N:Nat)(a:Sl Dv)(b:Dv->Option Bool):Option Bool:= (F6 N a b).bind λy1=>some (decide (0<=y1))
theorem Ae {c:Sl Dv}{d:Dv->Option Bool}{a:Int}{kp_f:Nat}(f:∀{a0:Dv}{b:Bool},d a0=some b->Sb S kp_f [.p (.agg (Z9 a0)),.reg 0 0] [.cells [pN a]] (pB b) [.cells [pN a]] [true]){y:Bool}(h:D4 N c d=some y) :Sb S O6 [.p (vSl 6 Z9 c),.clo kp_f [] [.reg 0 0]] [.cells [pN a]] (pB y) ([.cells [pN a]]) [true]:=by unfold D4 at h;refine A2 Z func179 ?_;obtain⟨y1,e1,h⟩:=A9 h;refine B0 Z [0] Lg (Bh Z Y (λe=>f e) e1) ?_;obtain rfl:=B1 h;exact kO Z Lg [0]
def At (N:Nat)(a:Law):Option Int:= (CQ N a.Name).bind λy1=>if (!y1) then some 17 else (Aq N a.Left).bind λy2=>if (y2 != 0) then some 17 else (Aq N a.Right).bind λy3=>if (y3 != 0) then some 17 else if (decide (4<(a.If.n:Int))) then some 17 else if (decide (6<(a.Out.n:Int))) then some 17 else if ((wrap .i64 ((a.If.n:Int)+(a.Out.n:Int)))==0) then some 17 else if ((decide (a.Mode<1))||(decide (3<a.Mode))) then some 17 else (B8 N a.If (λ(u1:Qj)=>AU N u1)).bind λy4=>if y4 then some 17 else (D4 N a.Out (λ(u2:Dv)=>AT N u2 (a.If.n:Int))).bind λy5=>if y5 then some 17 else some 0
theorem Ll {c:Law}{y:Int}(h:At N c=some y) :Sb S QB [.p (.agg (B6 c))] [] (pN y) ([]) []:=by
 unfold At at h;refine A2 Z func126 ?_;refine kC Z h (Ad6 Z Y) (λy1 h=>?_);refine C7 Z Lg (b:=!y1) (λc1=>?_) (λc1=>?_)
 .replace h:=itT c1 h;refine C7 Z Lg (b:=!y1) (λc2=>?_) (λc2=>?_)
  .cases h;exact kR Z
  exact Bool.noConfusion (c1.symm.trans c2)
 replace h:=itF c1 h;refine kC Z h (IY Z Y) (λy2 h=>?_);refine C7 Z Lg (b:=y2 != 0) (λc3=>?_) (λc3=>?_)
 .replace h:=itT c3 h;refine C7 Z Lg (b:=y2 != 0) (λc4=>?_) (λc4=>?_)
  .cases h;exact kR Z
  exact Bool.noConfusion (c3.symm.trans c4)
 replace h:=itF c3 h;refine kC Z h (IY Z Y) (λy3 h=>?_);refine C7 Z Lg (b:=y3 != 0) (λc5=>?_) (λc5=>?_)
 .replace h:=itT c5 h;refine C7 Z Lg (b:=y3 != 0) (λc6=>?_) (λc6=>?_)
  .cases h;exact kR Z
  exact Bool.noConfusion (c5.symm.trans c6)
 replace h:=itF c5 h;refine C7 Z Lg (b:=decide (4<(c.If.n:Int))) (λc7=>?_) (λc7=>?_)
 .replace h:=itT c7 h;refine C7 Z Lg (b:=decide (4<(c.If.n:Int))) (λc8=>?_) (λc8=>?_)
  .cases h;exact kR Z
  exact Bool.noConfusion (c7.symm.trans c8)
 replace h:=itF c7 h;refine C7 Z Lg (b:=decide (6<(c.Out.n:Int))) (λc9=>?_) (λc9=>?_)
 .replace h:=itT c9 h;refine C7 Z Lg (b:=decide (6<(c.Out.n:Int))) (λc10=>?_) (λc10=>?_)
  .cases h;exact kR Z
  exact Bool.noConfusion (c9.symm.trans c10)
 replace h:=itF c9 h;refine C7 Z Lg (b:=(wrap .i64 ((c.If.n:Int)+(c.Out.n:Int)))==0) (λc11=>?_) (λc11=>?_)
 .replace h:=itT c11 h;refine C7 Z Lg (b:=(wrap .i64 ((c.If.n:Int)+(c.Out.n:Int)))==0) (λc12=>?_) (λc12=>?_)
  .cases h;exact kR Z
  exact Bool.noConfusion (c11.symm.trans c12)
 replace h:=itF c11 h;refine kB Z (A4 Z) Lg Lg 4 (.o (.a (decide (c.Mode<1))) (.a (decide (3<c.Mode)))) ?_;refine C7 Z Lg (b:=(decide (c.Mode<1))||(decide (3<c.Mode))) (λc13=>?_) (λc13=>?_)
 .replace h:=itT c13 h;refine C7 Z Lg (b:=(decide (c.Mode<1))||(decide (3<c.Mode))) (λc14=>?_) (λc14=>?_)
  .cases h;exact kR Z
  exact Bool.noConfusion (c13.symm.trans c14)
 replace h:=itF c13 h;refine kC Z h (N0 Z Y (λe=>VT Z Y e)) (λy4 h=>?_);refine C7 Z Lg (b:=y4) (λc15=>?_) (λc15=>?_)
 .replace h:=itT c15 h;refine C7 Z Lg (b:=y4) (λc16=>?_) (λc16=>?_)
  .cases h;exact kR Z
  exact Bool.noConfusion (c15.symm.trans c16)
 replace h:=itF c15 h;obtain⟨y5,e5,h⟩:=A9 h;refine B0 Z [4000] Lg (Ae Z Y (λe=>VR Z Y e) e5) ?_;refine Su Z h fun h=>?_;cases h;exact kR Z
def Lm (N:Nat)(a:Law)(b:Sl Qj):Option Int:= (At N a).bind λy1=>if (y1 != 0) then some y1 else (U2 N b).bind λy2=>some y2
theorem Ad7 {a:Law}{b:Sl Qj}{y:Int}(h:Lm N a b=some y) :Sb S QL [.p (.agg (B6 a)),.p (vSl 2 A0 b)] [] (pN y) ([]) []:=by
 unfold Lm at h;refine A2 Z func222 ?_;refine kC Z h (Ll Z Y) (λy1 h=>?_);refine Su Z h fun h=>?_;refine kC Z h (FC Z Y) (λy2 h=>?_);cases h;exact kR Z
def Ga (N:Nat)(a:Int)(q0:Law)(q1:Sl Qj):Option Bool:= (Ht N q0.Left q1 a).bind λy1=>if ((y1.1.n:Int)==0) then some false else (Lk N q0.Right q1 (wrap .i64 (a+(q0.If.n:Int)))).bind λy2=>some (decide (0<(y2.1.n:Int)))
theorem SE {a:Int}{q0:Law}{q1:Sl Qj}{y:Bool}(h:Ga N a q0 q1=some y) :Sb S Bw [pN a,.reg 0 0,.reg 1 0] [.cells ((B6 q0).map .p),.cells [.p (vSl 2 A0 q1)]] (pB y) ([.cells ((B6 q0).map .p),.cells [.p (vSl 2 A0 q1)]]) [true,true]:=by
 unfold Ga at h;refine A2 Z func236 ?_;refine kC Z h (VQ Z Y) (λy1 h=>?_);apply kI Z h<;>intro h
 .obtain rfl:=B1 h;exact kO Z Lg [0,1]
 refine kC Z h (Ad5 Z Y) (λy2 h=>?_);obtain rfl:=B1 h;exact kO Z Lg [0,1]
def Ja (N:Nat)(a:Law)(b:Sl Qj):Option (Law×(Sl Qj)):= some (a,b)
theorem Yv {a:Law}{b:Sl Qj}{y:Law×(Sl Qj)}(h:Ja N a b=some y) :Sb S Ol [.p (.agg (B6 a)),.p (vSl 2 A0 b)] [] (.clo Bw [] [.reg 0 0,.reg 1 0]) ([.cells ((B6 y.1).map .p),.cells [.p (vSl 2 A0 y.2)]]) []:=by unfold Ja at h;refine A2 Z func231 ?_;obtain rfl:=B1 h;exact kO Z Lg [3000,4000]
def MD (N:Nat)(a:Law)(b:Sl Qj):Option (Sl Qj):= Co N (λc (x1:Sl Qj) (x2:Int)=>if (decide (x2<(a.Out.n:Int))) then if ((0:Int)<=x2/\x2<(a.Out.n:Int))then if ((decide (0<=(a.Out.g x2.toNat).From))=true->((0:Int)<=(a.Out.g x2.toNat).From/\(a.Out.g x2.toNat).From<(b.n:Int)))then (FV N (⟨(if (decide (0<=(a.Out.g x2.toNat).From)) then (b.g (a.Out.g x2.toNat).From.toNat).Plus else 0),(if (decide (0<=(a.Out.g x2.toNat).From)) then (b.g (a.Out.g x2.toNat).From.toNat).Minus else 0)⟩:Qj) (a.Out.g x2.toNat).Clear (a.Out.g x2.toNat).Set).bind λy5=>if ((a.Out.g x2.toNat).Take != 0) then if ((0:Int)<=(a.Out.g x2.toNat).Of/\(a.Out.g x2.toNat).Of<(b.n:Int))then (IW N y5.1 (b.g (a.Out.g x2.toNat).Of.toNat) (a.Out.g x2.toNat).Take).bind λy6=>if (Qt 8 (x1.n+(Sl.of [y6.1]:Sl Qj).n))then c (x1.push y6.1) (wrap .i64 (x2+1)) else none else none else if (Qt 8 (x1.n+(Sl.of [y5.1]:Sl Qj).n))then c (x1.push y5.1) (wrap .i64 (x2+1)) else none else none else none else some x1) (Sl.nil:Sl Qj) 0
theorem Yw {c:Law}{a:Sl Qj}{y:Sl Qj}(h:MD N c a=some y) :Sb S Yn [.p (.agg (B6 c)),.p (vSl 2 A0 a)] [] (.p (vSl 2 A0 y)) ([]) []:=by
 unfold MD at h;refine A2 Z func227 ?_;refine F0 Z Lg 4 3000 (B6 c) ?_;refine H7 Z Lg h (λx1 x2=>⟨[(12,pN x2),(11,pN (c.Out.n:Int)),(10,.p (vSl 6 Z9 c.Out)),(5,.vec 6500),(1,.p (vSl 2 A0 a))],[(6500,oV B5 2 A0 x1 false)]⟩) (ids:=[]) (λ_ _ _ _ _ l x1 x2 i h=>?_);apply kI Z h<;>intro h
 .obtain⟨c16,h⟩:=B9 h;refine F0 Z (Qu c16 (by decide:(6:Nat)<=6)) 8 8000 (Z9 (c.Out.g x2.toNat)) ?_;obtain⟨c18,h⟩:=B9 h;obtain⟨t5,d⟩:∃x:Int,x=(if (decide (0<=(c.Out.g x2.toNat).From)) then (a.g (c.Out.g x2.toNat).From.toNat).Plus else 0):=⟨_,rfl⟩;obtain⟨t6,f⟩:∃x:Int,x=(if (decide (0<=(c.Out.g x2.toNat).From)) then (a.g (c.Out.g x2.toNat).From.toNat).Minus else 0):=⟨_,rfl⟩;refine ZU Z Lg (A4 Z) 0 ⟨[(12,pN x2),(11,pN (c.Out.n:Int)),(10,.p (vSl 6 Z9 c.Out)),(8,.reg 9000 0),(7,.p (.ptr (Z9 (c.Out.g x2.toNat)))),(5,.vec 6500),(1,.p (vSl 2 A0 a))],[(9000,.cells [pU t5,pU t6]),(6500,oV B5 2 A0 x1 false)]⟩ (λM3 j=>?_) ?_
  .refine C7 Z Lg (b:=decide (0<=(c.Out.g x2.toNat).From)) (λc19=>?_) (λc19=>?_)
   .exact j _ (Qp [6500,9000]) _ (Qu (c18 c19) Nh) (hle:=klR [(5,.eq (pI .u32 (a.g (c.Out.g x2.toNat).From.toNat).Plus) (pI .u32 t5)),(6,.eq (pI .u32 (a.g (c.Out.g x2.toNat).From.toNat).Minus) (pI .u32 t6))] (al1 (by simp only[d,f,c19,Sf.ok,pm,Lc,Ld]) (al1 (by simp only[d,f,c19,Sf.ok,pm,Lc,Ld]) al0)))
   exact j _ (Qp [6500,9000]) _ Lg (hle:=klR [(5,.eq (pI .u32 0) (pI .u32 t5)),(6,.eq (pI .u32 0) (pI .u32 t6))] (al1 (by simp only[d,f,c19,Sf.ok,pm,Lc,Ld]) (al1 (by simp only[d,f,c19,Sf.ok,pm,Lc,Ld]) al0)))
  subst f;subst d;obtain⟨y5,e5,h⟩:=A9 h;refine B0 Z [] (by decide:(2:Nat)<=4) (Sy Z Y e5) ?_;apply kI Z h<;>intro h
  .refine C4 Z Lg [3,4,5,7,8] ?_;obtain⟨c21,h⟩:=B9 h;obtain⟨y6,e6,h⟩:=A9 h;refine F9 (Qu c21 Nh) (Ys Z Y e6) ?_;refine C8 Lg ?_;obtain⟨c22,h⟩:=B9 h;exact i _ [(6500,52000)] _ (x1.push y6.1) (wrap .i64 (x2+1)) (Qu Nm c22) h (hle:=kl1 4 (Ci A0 x1 y6.1 [pI .u32 0,pI .u32 0]))
  obtain⟨c23,h⟩:=B9 h;exact i _ [(6500,52000)] _ (x1.push y5.1) (wrap .i64 (x2+1)) (Qu Nm c23) h (hle:=kl1 4 (Ci A0 x1 y5.1 [pI .u32 0,pI .u32 0]))
 obtain rfl:=B1 h;exact kO Z Lg []
def F5 (N:Nat)(a:Sl (Sl Qj)):Option (Sl Qj):= Co N (λb (x1:Int) (x2:Int)=>if (decide (x2<(a.n:Int))) then if ((0:Int)<=x2/\x2<(a.n:Int))then if (decide ((wrap .i64 (x1+((a.g x2.toNat).n:Int)))<0)) then none else b (wrap .i64 (x1+((a.g x2.toNat).n:Int))) (wrap .i64 (x2+1)) else none else (R8 N x1).bind λy1=>Co N (λc (x3:Sl Qj) (x4:Int)=>if (decide (x4<(a.n:Int))) then if (((0:Int)<=x4/\x4<(a.n:Int))/\(Qt 8 (x3.n+(a.g x4.toNat).n)))then c (x3.app (a.g x4.toNat)) (wrap .i64 (x4+1)) else none else some x3) y1 0) 0 0
theorem Q0 {a:Sl (Sl Qj)}{y:Sl Qj}(h:F5 N a=some y) :Sb S P9 [.p (vSl 1 (cL 2 A0) a)] [] (.vec 0) ([oV B5 2 A0 y true]) []:=by
 unfold F5 at h;refine A2 Z func226 ?_;refine H7 Z Lg h (λx1 x2=>⟨[(11,pN x2),(10,pN (a.n:Int)),(9,.p (vSl 1 (cL 2 A0) a)),(3,pN x1),(0,.p (vSl 1 (cL 2 A0) a))],[]⟩) (ids:=[]) (λ_ _ _ _ _ c x1 x2 d h=>?_);apply kI Z h<;>intro h
 .obtain⟨c8,h⟩:=B9 h;refine C7 Z c8 (b:=decide ((wrap .i64 (x1+((a.g x2.toNat).n:Int)))<0)) (λc9=>?_) (λc9=>?_)
  .replace h:=itT c9 h;cases h
  replace h:=itF c9 h;exact d _ [] _ _ _ Lg h
 refine kC Z h (Bx Z Y) (λy1 h=>?_);refine H7 Z Lg h (λx3 x4=>⟨[(27,pN x4),(26,pN (a.n:Int)),(25,.p (vSl 1 (cL 2 A0) a)),(6,.vec 7500)],[(7500,oV B5 2 A0 x3 false)]⟩) (ids:=[(7500,25000)]) (λ_ _ _ _ _ f x3 x4 i h=>?_);apply kI Z h<;>intro h
 .obtain⟨c13,h⟩:=B9 h;exact i _ [(7500,34000)] _ (x3.app (a.g x4.toNat)) (wrap .i64 (x4+1)) c13 h (hle:=kl1 3 (Bx8 A0 x3 (a.g x4.toNat)))
 obtain rfl:=B1 h;exact kO Z Lg [7500]
def Er (N:Nat)(b:Law)(c:Sl Qj)(a:Int):Option (Sl Qj):= if (((0:Int)<=a/\a<=(c.n:Int))/\((0:Int)<=a/\a<=(wrap .i64 (a+(b.If.n:Int)))/\(wrap .i64 (a+(b.If.n:Int)))<=(c.n:Int)))then (MD N b (c.sub a.toNat (wrap .i64 (a+(b.If.n:Int))).toNat)).bind λy1=>if ((0:Int)<=(wrap .i64 (a+(b.If.n:Int)))/\(wrap .i64 (a+(b.If.n:Int)))<=(c.n:Int))then (F5 N (Sl.of [c.take a.toNat,y1,c.drop (wrap .i64 (a+(b.If.n:Int))).toNat]:Sl (Sl Qj))).bind λy2=>some y2 else none else none
theorem ME {c:Law}{b:Sl Qj}{a:Int}{y:Sl Qj}(h:Er N c b a=some y) :Sb S Mw [.p (.agg (B6 c)),.p (vSl 2 A0 b),pN a] [] (.vec 0) ([oV B5 2 A0 y true]) []:=by unfold Er at h;refine A2 Z func229 ?_;refine F0 Z Lg 6 4000 (B6 c) ?_;refine C4 Z Lg [3,8] ?_;obtain⟨c1,h⟩:=B9 h;obtain⟨y1,e1,h⟩:=A9 h;refine F9 (Qu (Qu c1.1 Nl) c1.2) (Yw Z Y e1) ?_;obtain⟨c2,h⟩:=B9 h;refine O9 c2 (x:=.sl true 1 3 (H0 [I4] [(0,cL 2 A0 (b.take a.toNat)),(1,cL 2 A0 y1),(2,cL 2 A0 (b.drop (wrap .i64 (a+(c.If.n:Int))).toNat))])) ?_;obtain⟨y2,e2,h⟩:=A9 h;refine LZ [] Lg (Sb.le Z (args:=[.p (.sl true 1 3 (H0 [I4] [(0,cL 2 A0 (b.take a.toNat)),(1,cL 2 A0 y1),(2,cL 2 A0 (b.drop (wrap .i64 (a+(c.If.n:Int))).toNat))]))]) (by exact⟨LH rfl (λi d=>match i,d with|0,_=>rfl|1,_=>rfl|2,_=>rfl|_+3,d=>Ij d (by omega)),trivial⟩) (Q0 Z Y e2)) ?_;refine C8 Lg ?_;obtain rfl:=B1 h;exact kO Z Lg [27000]
def FG (N:Nat)(q0:Law)(q1:Sl Qj)(q2:Int):Option (List (Int)):= (Ja N q0 q1).bind λy1=>R6 N (λa (x2:Int)=>if (decide ((wrap .i64 (x2+(q0.If.n:Int)))<=(q1.n:Int))) then R6 N (λb (x4:Int)=>if (decide (x4<(q0.If.n:Int))) then if ((0:Int)<=x4/\x4<(q0.If.n:Int))then if ((0:Int)<=(wrap .i64 (x2+x4))/\(wrap .i64 (x2+x4))<(q1.n:Int))then (CO N (q1.g (wrap .i64 (x2+x4)).toNat) (q0.If.g x4.toNat)).bind λc=>if (!c) then a (wrap .i64 (x2+1)) else b (wrap .i64 (x4+1)) else none else none else (Ga N x2 y1.1 y1.2).bind λd=>if d then JQ x2 (a (wrap .i64 (x2+1))) else a (wrap .i64 (x2+1))) 0 else some []) q2
theorem Oq {q0:Law}{q1:Sl Qj}{q2:Int}{L:List (Int)}(h:FG N q0 q1 q2=some L) :EP S IS [] [.reg 0 0,.reg 1 0,.reg 2 0] [.cells ((B6 q0).map .p),.cells [.p (vSl 2 A0 q1)],.cells [pN q2]] (L.map (λ(x:Int)=>[pI .i64 x])):=by
 unfold FG at h;refine Ek Z func230 ?_;refine kC Z h (Yv Z Y) (λy1 h=>?_);refine CM Z Lg h (λx2 L1=>⟨[(6,pN x2),(5,.clo Bw [] [.reg 12000 0,.reg 12001 0]),(2,.reg 1 0),(1,.reg 0 0),(0,.yf 3)],[(12001,.cells [.p (vSl 2 A0 y1.2)]),(12000,.cells ((B6 y1.1).map .p)),(3,.yld (L1.map (λ(x:Int)=>[pI .i64 x])) true),(2,.cells [pN q2]),(1,.cells [.p (vSl 2 A0 q1)]),(0,.cells ((B6 q0).map .p))]⟩) (ids:=(Qp [0,1,2,3,12000,12001])) (λ_ _ _ _ _ f x2 L1 c h=>?_);apply kI Z h<;>intro h
 .refine CM Z Lg h (λx4 L8=>⟨[(26,pN x4),(25,pN (q0.If.n:Int)),(24,.p (vSl 2 A0 q0.If)),(6,pN x2),(5,.clo Bw [] [.reg 12000 0,.reg 12001 0]),(2,.reg 1 0),(1,.reg 0 0),(0,.yf 3)],[(12001,.cells [.p (vSl 2 A0 y1.2)]),(12000,.cells ((B6 y1.1).map .p)),(3,.yld (L8.map (λ(x:Int)=>[pI .i64 x])) true),(2,.cells [pN q2]),(1,.cells [.p (vSl 2 A0 q1)]),(0,.cells ((B6 q0).map .p))]⟩) (ids:=(Qp [0,1,2,3,12000,12001])) (λ_ _ _ _ _ i x4 L8 j h=>?_);apply kI Z h<;>intro h
  .obtain⟨c47,h⟩:=B9 h;refine XE Z (Qu c47 Nh) 9000 [pI .u32 (q0.If.g x4.toNat).Plus,pI .u32 (q0.If.g x4.toNat).Minus] ?_;refine C4 Z Lg [4,5,6,7] ?_;obtain⟨c48,h⟩:=B9 h;obtain⟨l,e12,h⟩:=A9 h;refine F9 (Qu (Qu c48 Nh) Nh) (Nn Z Y e12) ?_;refine C8 Lg ?_;apply kI Z h<;>intro h
   .exact c _ (Qp [0,1,2,3,12000,12001]) _ _ L8 Lg h
   exact j _ (Qp [0,1,2,3,12000,12001]) _ _ L8 Lg h
  obtain⟨m,e13,h⟩:=A9 h;refine B0 Z [12000,12001] Lg (SE Z Y e13) ?_;refine kG Z h (λh=>?_) (λh=>?_)
  .obtain⟨L10,rfl,d⟩:=Ng h;replace h:=d;refine CL Z Lg (ys:=(λ(x:Int)=>[pI .i64 x]) x2) (rest:=L10.map (λ(x:Int)=>[pI .i64 x])) ?_ ?_
   .refine C7 Z Lg (b:=false) (λc53=>?_) (λc53=>?_)
    .exact Bool.noConfusion ((rfl:false=false).symm.trans c53)
    exact c _ (Qp [0,1,2,3,12000,12001]) _ _ L10 Lg h
   refine C7 Z Lg (b:=true) (λc54=>?_) (λc54=>?_)
   .exact kO Z Lg (a:=.tup []) (objs:=[(.cells ((B6 q0).map .p)),.cells [.p (vSl 2 A0 q1)],.cells [pN q2],.yld [] false]) [0,1,2,3] ⟨false,rfl,rfl,_,rfl⟩
   exact Bool.noConfusion (Nm.symm.trans c54)
  exact c _ (Qp [0,1,2,3,12000,12001]) _ _ L8 Lg h
 obtain rfl:=B1 h;exact kO Z Lg (a:=.tup []) (objs:=[(.cells ((B6 q0).map .p)),.cells [.p (vSl 2 A0 q1)],.cells [pN q2],.yld [] true]) [0,1,2,3] ⟨true,rfl,rfl,_,rfl⟩
def JI (N:Nat)(b:Law)(c:Sl Qj)(a:Int):Option (Law×(Sl Qj)×Int):= some (b,c,a)
theorem TZ {b:Law}{c:Sl Qj}{a:Int}{y:Law×(Sl Qj)×Int}(h:JI N b c a=some y) :Sb S TX [.p (.agg (B6 b)),.p (vSl 2 A0 c),pN a] [] (.clo IS [] [.reg 0 0,.reg 1 0,.reg 2 0]) ([.cells ((B6 y.1).map .p),.cells [.p (vSl 2 A0 y.2.1)],.cells [pN y.2.2]]) []:=by unfold JI at h;refine A2 Z func225 ?_;obtain rfl:=B1 h;exact kO Z Lg [4000,5000,6000]
def MF (N:Nat)(b:Law)(c:Sl Qj)(a:Int):Option Bool:= (JI N b c a).bind λy1=>(FG N y1.1 y1.2.1 y1.2.2).bind λL1=>Cp L1 (λd (x1:Int) (_:Unit)=>some (x1==a)) (λ(_:Unit)=>some false) ()
theorem Yx {b:Law}{c:Sl Qj}{a:Int}{y:Bool}(h:MF N b c a=some y) :Sb S Yo [.p (.agg (B6 b)),.p (vSl 2 A0 c),pN a] [] (pB y) ([]) []:=by
 unfold MF at h;refine A2 Z func228 ?_;refine kC Z h (TZ Z Y) (λy1 h=>?_);obtain⟨L1,e2,h⟩:=A9 h;refine IB Z Lg [12000,12001,12002] [6,5] 901 (λ_=>⟨[(6,.reg 7000 0),(5,.reg 6000 0)],[(7000,.cells [.p (.v (.bool false))]),(6000,.cells [pN a])]⟩) (idl:=(Qp [6000,7000])) h (Oq Z Y e2) (λ_=>by kernel_rfl) (λ_=>by kernel_rfl) (λ_=>by kernel_rfl) (λ_=>by kernel_rfl) (λx1 _ d _ f h=>?_) (λ_ h=>?_)
 .refine Ma Z Lg ?_;refine Vc Z Lg ⟨[(6,.reg 7000 0),(5,.reg 6000 0)],[(7000,.cells [pB (x1==a)]),(6000,.cells [pN a])]⟩ (ids:=(Qp [901,6000,7000])) ?_;cases h;exact kR Z
 cases h;exact kR Z
def Ln (N:Nat)(q0:Sl Qj)(q1:Law)(q2:Int)(q3:Int):Option (List (Int×(Sl Qj))):= if (q1.Mode==1) then (JI N q1 q0 0).bind λy1=>(FG N y1.1 y1.2.1 y1.2.2).bind λL1=>Cp L1 (λb (x1:Int) (z1:(Sl Qj)×Int×Int)=>if (decide (x1<z1.2.1)) then b (z1.1,z1.2.1,z1.2.2) else if (((0:Int)<=(wrap .i64 (x1+z1.2.2))/\(wrap .i64 (x1+z1.2.2))<=(z1.1.n:Int))/\((0:Int)<=x1/\x1<=(wrap .i64 (x1+q2))/\(wrap .i64 (x1+q2))<=(q0.n:Int)))then (MD N q1 (q0.sub x1.toNat (wrap .i64 (x1+q2)).toNat)).bind λy6=>if ((0:Int)<=(wrap .i64 (x1+q2))/\(wrap .i64 (x1+q2))<=(q0.n:Int))then (F5 N (Sl.of [z1.1.take (wrap .i64 (x1+z1.2.2)).toNat,y6,q0.drop (wrap .i64 (x1+q2)).toNat]:Sl (Sl Qj))).bind λy7=>JQ (x1,y7) (b (y7,wrap .i64 (x1+(if q2<1 then 1 else q2)),wrap .i64 ((wrap .i64 (z1.2.2+q3))-q2))) else none else none) (λ(z1:(Sl Qj)×Int×Int)=>some []) (q0,0,0) else if (q1.Mode==2) then Co N (λa (x5:Sl Qj) (x6:Int)=>if (decide ((wrap .i64 (x6+q2))<=(x5.n:Int))) then (MF N q1 x5 x6).bind λg=>if (!g) then a x5 (wrap .i64 (x6+1)) else (Er N q1 x5 x6).bind λd=>JQ (x6,d) (if (q2==0) then a d (wrap .i64 ((wrap .i64 (x6+q3))+1)) else a d (wrap .i64 (x6+q3))) else some []) q0 0 else if (q1.Mode==3) then Co N (λc (x7:Sl Qj) (x8:Int)=>if (decide (0<=x8)) then (MF N q1 x7 x8).bind λi=>if (!i) then c x7 (wrap .i64 (x8-1)) else (Er N q1 x7 x8).bind λf=>JQ (x8,f) (c f (wrap .i64 (x8-(if q2<1 then 1 else q2)))) else some []) q0 (wrap .i64 ((q0.n:Int)-q2)) else some []
theorem Ad8 {q0:Sl Qj}{q1:Law}{q2:Int}{q3:Int}{L:List (Int×(Sl Qj))}(h:Ln N q0 q1 q2 q3=some L) :EP S Lj [] [.reg 0 0,.reg 1 0,.reg 2 0,.reg 3 0] [.cells [.p (vSl 2 A0 q0)],.cells ((B6 q1).map .p),.cells [pN q2],.cells [pN q3]] (L.map (λ(x:Int×(Sl Qj))=>[pI .i64 x.1,vSl 2 A0 x.2])):=by
 unfold Ln at h;refine Ek Z func224 ?_;apply kI Z h<;>intro h
 .refine kC Z h (TZ Z Y) (λy1 h=>?_);obtain⟨L1,e2,h⟩:=A9 h;refine AT1 Z Lg [20000,20001,20002] [8,7,6,5,4,3,2,1] 900 (λz1 L2=>⟨[(8,.reg 9000 0),(7,.reg 8000 0),(6,.reg 7000 0),(5,.reg 6000 0),(4,.reg 3 0),(3,.reg 2 0),(2,.reg 1 0),(1,.reg 0 0)],[(9000,.cells [pN z1.2.2]),(8000,.cells [pN z1.2.1]),(7000,.cells [.p (vSl 2 A0 z1.1)]),(6000,.cells [.yf 4]),(4,.yld (L2.map (λ(x:Int×(Sl Qj))=>[pI .i64 x.1,vSl 2 A0 x.2])) true),(3,.cells [pN q3]),(2,.cells [pN q2]),(1,.cells ((B6 q1).map .p)),(0,.cells [.p (vSl 2 A0 q0)])]⟩) (idl:=(Qp [0,1,2,3,4,6000,7000,8000,9000])) h (Oq Z Y e2) (λ_=>by kernel_rfl) (λ_ _=>by kernel_rfl) (λ_ _=>by kernel_rfl) (λ_ _=>by kernel_rfl) (λx1 _ r z1 L2 g h=>?_) (λz1 L2 h=>?_)
  .refine Ma Z Lg ?_;apply kI Z h<;>intro h
   .exact g _ (Qp [0,1,2,3,4,900,6000,7000,8000,9000]) _ _ L2 Lg h
   refine G8 Z Lg [(0,.l [7000]),(2,.l [9000]),(5,.l [1]),(6,.l [0]),(9,.l [2]),(12,.n),(13,.l [0]),(15,.l [2]),(20,.a [7000])] ?_;obtain⟨c13,h⟩:=B9 h;obtain⟨y6,e7,h⟩:=A9 h;refine F9 c13 (Yw Z Y e7) ?_;obtain⟨c14,h⟩:=B9 h;refine O9 c14 (x:=.sl true 1 3 (H0 [I4] [(0,cL 2 A0 (z1.1.take (wrap .i64 (x1+z1.2.2)).toNat)),(1,cL 2 A0 y6),(2,cL 2 A0 (q0.drop (wrap .i64 (x1+q2)).toNat))])) ?_;obtain⟨y7,e8,h⟩:=A9 h;refine LZ [] Lg (Sb.le Z (args:=[.p (.sl true 1 3 (H0 [I4] [(0,cL 2 A0 (z1.1.take (wrap .i64 (x1+z1.2.2)).toNat)),(1,cL 2 A0 y6),(2,cL 2 A0 (q0.drop (wrap .i64 (x1+q2)).toNat))]))]) (by exact⟨LH rfl (λi s=>match i,s with|0,_=>rfl|1,_=>rfl|2,_=>rfl|_+3,s=>Ij s (by omega)),trivial⟩) (Q0 Z Y e8)) ?_;refine C8 Lg ?_;obtain⟨L5,rfl,j⟩:=Ng h;replace h:=j;refine CL Z Lg (ys:=(λ(x:Int×(Sl Qj))=>[pI .i64 x.1,vSl 2 A0 x.2]) (x1,y7)) (rest:=L5.map (λ(x:Int×(Sl Qj))=>[pI .i64 x.1,vSl 2 A0 x.2])) ?_ ?_
   .refine C7 Z Lg (b:=false) (λc15=>?_) (λc15=>?_)
    .exact Bool.noConfusion ((rfl:false=false).symm.trans c15)
    refine G8 Z Lg [(1,.l [2]),(4,.l [9000]),(5,.l [3]),(7,.l [2]),(9,.a [8000]),(10,.a [9000])] ?_;refine C8 Lg ?_;exact g _ (Qp [0,1,2,3,4,900,6000,7000,8000,9000]) _ _ L5 Lg h
   refine C7 Z Lg (b:=true) (λc16=>?_) (λc16=>?_)
   .refine Vc Z Lg ⟨[(8,.reg 9000 0),(7,.reg 8000 0),(6,.reg 7000 0),(5,.reg 6000 0),(4,.reg 3 0),(3,.reg 2 0),(2,.reg 1 0),(1,.reg 0 0)],[(44000,oV B5 2 A0 y7 true),(9000,.cells [pN z1.2.2]),(8000,.cells [pN z1.2.1]),(7000,.cells [.vec 44000]),(6000,.cells [.yf 4]),(4,.yld [] false),(3,.cells [pN q3]),(2,.cells [pN q2]),(1,.cells ((B6 q1).map .p)),(0,.cells [.p (vSl 2 A0 q0)])]⟩ (ids:=(Qp [0,1,2,3,4,900,6000,7000,8000,9000,44000])) ?_;exact kO Z Lg (a:=.tup []) (objs:=[(.cells [.p (vSl 2 A0 q0)]),.cells ((B6 q1).map .p),.cells [pN q2],.cells [pN q3],.yld [] false]) [0,1,2,3,4] ⟨false,rfl,rfl,_,rfl⟩
   exact Bool.noConfusion (Nm.symm.trans c16)
  obtain rfl:=B1 h;exact kO Z Lg (a:=.tup []) (objs:=[(.cells [.p (vSl 2 A0 q0)]),.cells ((B6 q1).map .p),.cells [pN q2],.cells [pN q3],.yld [] true]) [0,1,2,3,4] ⟨true,rfl,rfl,_,rfl⟩
 apply kI Z h<;>intro h
 .refine UZ Z Lg h (λx5 x6 L6=>⟨[(10,pN x6),(6,.reg 7000 0),(5,.reg 6000 0),(4,.reg 3 0),(3,.reg 2 0),(2,.reg 1 0)],[(7000,.cells [.p (vSl 2 A0 x5)]),(6000,.cells [.yf 4]),(4,.yld (L6.map (λ(x:Int×(Sl Qj))=>[pI .i64 x.1,vSl 2 A0 x.2])) true),(3,.cells [pN q3]),(2,.cells [pN q2]),(1,.cells ((B6 q1).map .p)),(0,.cells [.p (vSl 2 A0 q0)])]⟩) (ids:=(Qp [0,1,2,3,4,6000,7000])) (λ_ _ _ _ _ t x5 x6 L6 c h=>?_);apply kI Z h<;>intro h
  .refine kC Z h (Yx Z Y) (λv h=>?_);apply kI Z h<;>intro h
   .exact c _ (Qp [0,1,2,3,4,6000,7000]) _ x5 _ L6 Lg h
   refine kC Z h (ME Z Y) (λd h=>?_);obtain⟨L9,rfl,m⟩:=Ng h;replace h:=m;refine CL Z Lg (ys:=(λ(x:Int×(Sl Qj))=>[pI .i64 x.1,vSl 2 A0 x.2]) (x6,d)) (rest:=L9.map (λ(x:Int×(Sl Qj))=>[pI .i64 x.1,vSl 2 A0 x.2])) ?_ ?_
   .refine C7 Z Lg (b:=false) (λc30=>?_) (λc30=>?_)
    .exact Bool.noConfusion ((rfl:false=false).symm.trans c30)
    apply kI Z h<;>intro h
    .exact c _ (Qp [0,1,2,3,4,6000,7000]) _ d _ L9 Lg h
    exact c _ (Qp [0,1,2,3,4,6000,7000]) _ d _ L9 Lg h
   refine C7 Z Lg (b:=true) (λc32=>?_) (λc32=>?_)
   .exact kO Z Lg (a:=.tup []) (objs:=[(.cells [.p (vSl 2 A0 q0)]),.cells ((B6 q1).map .p),.cells [pN q2],.cells [pN q3],.yld [] false]) [0,1,2,3,4] ⟨false,rfl,rfl,_,rfl⟩
   exact Bool.noConfusion (Nm.symm.trans c32)
  obtain rfl:=B1 h;exact kO Z Lg (a:=.tup []) (objs:=[(.cells [.p (vSl 2 A0 q0)]),.cells ((B6 q1).map .p),.cells [pN q2],.cells [pN q3],.yld [] true]) [0,1,2,3,4] ⟨true,rfl,rfl,_,rfl⟩
 apply kI Z h<;>intro h
 .refine UZ Z Lg h (λx7 x8 L10=>⟨[(11,pN x8),(6,.reg 7000 0),(5,.reg 6000 0),(3,.reg 2 0),(2,.reg 1 0)],[(7000,.cells [.p (vSl 2 A0 x7)]),(6000,.cells [.yf 4]),(4,.yld (L10.map (λ(x:Int×(Sl Qj))=>[pI .i64 x.1,vSl 2 A0 x.2])) true),(3,.cells [pN q3]),(2,.cells [pN q2]),(1,.cells ((B6 q1).map .p)),(0,.cells [.p (vSl 2 A0 q0)])]⟩) (ids:=(Qp [0,1,2,3,4,6000,7000])) (λ_ _ _ _ _ u x7 x8 L10 o h=>?_);apply kI Z h<;>intro h
  .refine kC Z h (Yx Z Y) (λw h=>?_);apply kI Z h<;>intro h
   .exact o _ (Qp [0,1,2,3,4,6000,7000]) _ x7 _ L10 Lg h
   refine kC Z h (ME Z Y) (λq h=>?_);obtain⟨L13,rfl,f⟩:=Ng h;replace h:=f;refine CL Z Lg (ys:=(λ(x:Int×(Sl Qj))=>[pI .i64 x.1,vSl 2 A0 x.2]) (x8,q)) (rest:=L13.map (λ(x:Int×(Sl Qj))=>[pI .i64 x.1,vSl 2 A0 x.2])) ?_ ?_
   .refine C7 Z Lg (b:=false) (λc44=>?_) (λc44=>?_)
    .exact Bool.noConfusion ((rfl:false=false).symm.trans c44)
    exact o _ (Qp [0,1,2,3,4,6000,7000]) _ q _ L13 Lg h
   refine C7 Z Lg (b:=true) (λc45=>?_) (λc45=>?_)
   .exact kO Z Lg (a:=.tup []) (objs:=[(.cells [.p (vSl 2 A0 q0)]),.cells ((B6 q1).map .p),.cells [pN q2],.cells [pN q3],.yld [] false]) [0,1,2,3,4] ⟨false,rfl,rfl,_,rfl⟩
   exact Bool.noConfusion (Nm.symm.trans c45)
  obtain rfl:=B1 h;exact kO Z Lg (a:=.tup []) (objs:=[(.cells [.p (vSl 2 A0 q0)]),.cells ((B6 q1).map .p),.cells [pN q2],.cells [pN q3],.yld [] true]) [0,1,2,3,4] ⟨true,rfl,rfl,_,rfl⟩
 obtain rfl:=B1 h;exact kO Z Lg (a:=.tup []) (objs:=[(.cells [.p (vSl 2 A0 q0)]),.cells ((B6 q1).map .p),.cells [pN q2],.cells [pN q3],.yld [] true]) [0,1,2,3,4] ⟨true,rfl,rfl,_,rfl⟩
def QZ (N:Nat)(a:Law)(b:Sl Qj):Option ((Sl Qj)×Law×Int×Int):= some (b,a,(a.If.n:Int),(a.Out.n:Int))
theorem AG6 {b:Law}{c:Sl Qj}{y:(Sl Qj)×Law×Int×Int}(h:QZ N b c=some y) :Sb S Ym [.p (.agg (B6 b)),.p (vSl 2 A0 c)] [] (.clo Lj [] [.reg 0 0,.reg 1 0,.reg 2 0,.reg 3 0]) ([.cells [.p (vSl 2 A0 y.1)],.cells ((B6 y.2.1).map .p),.cells [pN y.2.2.1],.cells [pN y.2.2.2]]) []:=by unfold QZ at h;refine A2 Z func223 ?_;refine G8 Z Lg [(1,.l [3000]),(2,.n),(4,.l [3000]),(5,.n),(6,.a [6000]),(7,.a [7000]),(8,.a [6000]),(9,.a [7000])] ?_;refine C8 Lg ?_;obtain rfl:=B1 h;exact kO Z Lg [4000,3000,6000,7000]
def Lo (N:Nat)(b:Law)(c:Sl Qj):Option ((Sl Int)×(Sl (Sl Qj))×Int):= (Lm N b c).bind λy1=>if (y1 != 0) then some (Q5,(Sl.nil:Sl (Sl Qj)),y1) else (QZ N b c).bind λy2=>(Ln N y2.1 y2.2.1 y2.2.2.1 y2.2.2.2).bind λL1=>Cp L1 (λa (x1:Int×(Sl Qj)) (z1:(Sl Int)×(Sl (Sl Qj)))=>if (decide (32<(x1.2.n:Int))) then some (Q5,(Sl.nil:Sl (Sl Qj)),11) else if (Qt 8 (z1.1.n+(Sl.of [x1.1]:Sl Int).n))then if (Qt 24 (z1.2.n+(Sl.of [x1.2]:Sl (Sl Qj)).n))then a (z1.1.push x1.1,z1.2.push x1.2) else none else none) (λ(z1:(Sl Int)×(Sl (Sl Qj)))=>some (z1.1,z1.2,0)) (Q5,(Sl.nil:Sl (Sl Qj)))
theorem Ad9 {b:Law}{c:Sl Qj}{y:(Sl Int)×(Sl (Sl Qj))×Int}(h:Lo N b c=some y) :Sb S QK [.p (.agg (B6 b)),.p (vSl 2 A0 c)] [] (.tup [.vec 0,.vec 1,pN y.2.2]) ([oV D1 1 (cI .i64) y.1 true,oV V2 1 (cL 2 A0) y.2.1 true]) []:=by
 unfold Lo at h;refine A2 Z func218 ?_;refine F0 Z Lg 4 3000 (B6 b) ?_;obtain⟨y1,e1,h⟩:=A9 h;refine B0 Z [] Nl (Ad7 Z Y e1) ?_;apply kI Z h<;>intro h
 .obtain rfl:=B1 h;exact M8 Z Lg ⟨[(6,.reg 7000 0),(5,.reg 6000 0),(4,.reg 5000 0)],[(7000,.cells [pN y1]),(6701,.vec V2 1 (Sl.nil:Sl (Sl Qj)).n (λi=>cL 2 A0 ((Sl.nil:Sl (Sl Qj)).g i)) true),(6000,.cells [.vec 6701]),(5700,oV D1 1 (cI .i64) Q5 true),(5000,.cells [.vec 5700])]⟩ [5700,6701] (ids:=(Qp [5000,6000,7000])) ⟨rfl,rfl,rfl⟩
 obtain⟨y2,e2,h⟩:=A9 h;refine B0 Z [] Nl (AG6 Z Y e2) ?_;obtain⟨L1,e3,h⟩:=A9 h;refine IB Z Lg [21000,21001,21002,21003] [9,8,6,5,4] 901 (λz1=>⟨[(9,.reg 10000 0),(8,.reg 9000 0),(6,.reg 7000 0),(5,.reg 6000 0),(4,.reg 5000 0)],[(10500,oV V2 1 (cL 2 A0) z1.2 false),(10000,.cells [.vec 10500]),(9500,oV D1 1 (cI .i64) z1.1 false),(9000,.cells [.vec 9500]),(7000,.cells [pN 0]),(6000,.cells [.p I4]),(5000,.cells [.p I4])]⟩) (idl:=(Qp [5000,6000,7000,9000,10000])) h (Ad8 Z Y e3) (λ_=>by kernel_rfl) (λ_=>by kernel_rfl) (λ_=>by kernel_rfl) (λ_=>by kernel_rfl) (λx1 _ d z1 f h=>?_) (λz1 h=>?_)
 .refine Ma Z Lg ?_;apply kI Z h<;>intro h
  .refine Vc Z Lg ⟨[(9,.reg 10000 0),(8,.reg 9000 0),(6,.reg 7000 0),(5,.reg 6000 0),(4,.reg 5000 0)],[(10500,oV V2 1 (cL 2 A0) z1.2 false),(10000,.cells [.vec 10500]),(9500,oV D1 1 (cI .i64) z1.1 false),(9000,.cells [.vec 9500]),(7000,.cells [pN 11]),(6000,.cells [.p I4]),(5000,.cells [.p I4])]⟩ (ids:=(Qp [901,5000,6000,7000,9000,9500,10000,10500])) ?_;obtain rfl:=B1 h;exact M8 Z Lg ⟨[(6,.reg 7000 0),(5,.reg 6000 0),(4,.reg 5000 0)],[(7000,.cells [pN 11]),(6701,.vec V2 1 (Sl.nil:Sl (Sl Qj)).n (λi=>cL 2 A0 ((Sl.nil:Sl (Sl Qj)).g i)) true),(6000,.cells [.vec 6701]),(5700,oV D1 1 (cI .i64) Q5 true),(5000,.cells [.vec 5700])]⟩ [5700,6701] (ids:=(Qp [5000,6000,7000])) ⟨rfl,rfl,rfl⟩
  refine G8 Z Lg [(0,.l [9000]),(3,.a [30000,9500]),(4,.l [10000]),(7,.a [34000,10500]),(8,.a [9000]),(9,.a [10000])] ?_;refine O9 Lg (x:=.sl true 1 1 (H0 [pI .i64 0] [(0,cI .i64 x1.1)])) ?_;obtain⟨c9,h⟩:=B9 h;refine O9 c9 (x:=.sl true 1 1 (H0 [I4] [(0,cL 2 A0 x1.2)])) ?_;obtain⟨c10,h⟩:=B9 h;refine C8 c10 ?_;exact f _ [(901,901),(5000,5000),(6000,6000),(7000,7000),(9000,9000),(9500,30000),(10000,10000),(10500,34000)] _ _ Lg h (hle:=kl2 0 1 (Ci (cL 2 A0) z1.2 x1.2 [I4]) (Ci (cI .i64) z1.1 x1.1 [pI .i64 0]))
 refine G8 Z Lg [(0,.l [9000]),(1,.l [10000]),(2,.a [5000]),(3,.a [6000]),(4,.a [7000])] ?_;refine C8 Lg ?_;obtain rfl:=B1 h;exact M8 Z Lg ⟨[(6,.reg 7000 0),(5,.reg 6000 0),(4,.reg 5000 0)],[(10500,oV V2 1 (cL 2 A0) z1.2 true),(9500,oV D1 1 (cI .i64) z1.1 true),(7000,.cells [pN 0]),(6000,.cells [.vec 10500]),(5000,.cells [.vec 9500])]⟩ [9500,10500] (ids:=(Qp [5000,6000,7000,9500,10500])) ⟨rfl,rfl,rfl⟩
def Lp (N:Nat)(b:Law)(a:Sl Qj):Option ((Sl Qj)×Int):= (Lo N b a).bind λy1=>if (y1.2.2 != 0) then some ((Sl.nil:Sl Qj),y1.2.2) else if (decide (0<(y1.2.1.n:Int))) then if (((0:Int)<=(wrap .i64 ((y1.2.1.n:Int)-1))/\(wrap .i64 ((y1.2.1.n:Int)-1))<(y1.2.1.n:Int))/\(wrap .i64 ((y1.2.1.n:Int)-1)).toNat<y1.2.1.n)then some (y1.2.1.g (wrap .i64 ((y1.2.1.n:Int)-1)).toNat,0) else none else (B7 N a).bind λy2=>some (y2,0)
theorem Ae0 {a:Law}{b:Sl Qj}{y:(Sl Qj)×Int}(h:Lp N a b=some y) :Sb S QJ [.p (.agg (B6 a)),.p (vSl 2 A0 b)] [] (.tup [.p (vSl 2 A0 y.1),pN y.2]) ([]) []:=by
 unfold Lp at h;refine A2 Z func210 ?_;refine kC Z h (Ad9 Z Y) (λy1 h=>?_);apply kI Z h<;>intro h
 .obtain rfl:=B1 h;exact kO Z Lg []
 apply kI Z h<;>intro h
 .obtain⟨c3,h⟩:=B9 h;obtain rfl:=B1 h;exact Xw Z c3 [] ⟨rfl,rfl,rfl⟩
 refine kC Z h (Q9 Z Y) (λy2 h=>?_);obtain rfl:=B1 h;exact kO Z Lg []
def DV (N:Nat)(a:Law):Option Bool:= (At N a).bind λy1=>some (y1 != 0)
theorem ON {a:Law}{y:Bool}(h:DV N a=some y) :Sb S HX [.p (.agg (B6 a))] [] (pB y) ([]) []:=by unfold DV at h;refine A2 Z func193 ?_;refine kC Z h (Ll Z Y) (λy1 h=>?_);cases h;exact kR Z
def I9 (N:Nat)(a:Sl Law)(c:Law->Option Bool):Option Int:= R6 N (λb (x1:Int)=>if (decide (x1<(a.n:Int))) then if ((0:Int)<=x1/\x1<(a.n:Int))then (c (a.g x1.toNat)).bind λy3=>if y3 then some x1 else b (wrap .i64 (x1+1)) else none else some (-1)) 0
theorem Bi {a:Sl Law}{c:Law->Option Bool}{kp_f:Nat}(d:∀{a0:Law}{b:Bool},c a0=some b->Sb S kp_f [.p (.agg (B6 a0))] [] (pB b) [] []){y:Int}(h:I9 N a c=some y) :Sb S Q8 [.p (vSl 18 B6 a),.clo kp_f [] []] [] (pN y) ([]) []:=by
 unfold I9 at h;refine A2 Z func208 ?_;refine F1 Z Lg h (λx1=>⟨[(8,pN x1),(7,pN (a.n:Int)),(1,.clo kp_f [] []),(0,.p (vSl 18 B6 a))],[]⟩) (ids:=[]) (λ_ _ _ _ _ f x1 g h=>?_);apply kI Z h<;>intro h
 .obtain⟨c8,h⟩:=B9 h;obtain⟨y3,e3,h⟩:=A9 h;refine B0 Z [] (Qu c8 Nl) (d e3) ?_;refine Su Z h fun h=>?_;exact g _ [] _ _ Lg h
 cases h;exact kR Z
def H2 (N:Nat)(a:Sl Law)(b:Law->Option Bool):Option Bool:= (I9 N a b).bind λy1=>some (decide (0<=y1))
theorem Af {a:Sl Law}{c:Law->Option Bool}{kp_f:Nat}(d:∀{a0:Law}{b:Bool},c a0=some b->Sb S kp_f [.p (.agg (B6 a0))] [] (pB b) [] []){y:Bool}(h:H2 N a c=some y) :Sb S O7 [.p (vSl 18 B6 a),.clo kp_f [] []] [] (pB y) ([]) []:=by unfold H2 at h;refine A2 Z func192 ?_;refine kC Z h (Bi Z Y (λe=>d e)) (λy1 h=>?_);cases h;exact kR Z
def Gb (N:Nat)(a:Sl Law):Option Int:= if (decide (64<(a.n:Int))) then some 12 else (H2 N a (λ(u1:Law)=>DV N u1)).bind λy1=>if y1 then some 17 else some 0
theorem SF {a:Sl Law}{y:Int}(h:Gb N a=some y) :Sb S Kx [.p (vSl 18 B6 a)] [] (pN y) ([]) []:=by
 unfold Gb at h;refine A2 Z func152 ?_;refine Su Z h fun h=>?_;refine kC Z h (Af Z Y (λe=>ON Z Y e)) (λy1 h=>?_);refine Su Z h fun h=>?_;cases h;exact kR Z
def Gc (N:Nat)(b:Sl Law)(a:Sl (Sl Qj)):Option Int:= (Gb N b).bind λy1=>if (y1 != 0) then some y1 else if (decide (256<(a.n:Int))) then some 12 else R6 N (λc (x1:Int)=>if (decide (x1<(a.n:Int))) then if ((0:Int)<=x1/\x1<(a.n:Int))then (U2 N (a.g x1.toNat)).bind λy4=>if (y4 != 0) then some y4 else c (wrap .i64 (x1+1)) else none else some 0) 0
theorem SH {b:Sl Law}{a:Sl (Sl Qj)}{y:Int}(h:Gc N b a=some y) :Sb S Kr [.p (vSl 18 B6 b),.p (vSl 1 (cL 2 A0) a)] [] (pN y) ([]) []:=by
 unfold Gc at h;refine A2 Z func113 ?_;refine kC Z h (SF Z Y) (λy1 h=>?_);refine Su Z h fun h=>?_;refine Su Z h fun h=>?_;refine F1 Z Lg h (λx1=>⟨[(19,pN x1),(18,pN (a.n:Int)),(17,.p (vSl 1 (cL 2 A0) a))],[]⟩) (ids:=[]) (λ_ _ _ _ _ c x1 d h=>?_);apply kI Z h<;>intro h
 .obtain⟨c10,h⟩:=B9 h;obtain⟨y4,e4,h⟩:=A9 h;refine B0 Z [] c10 (FC Z Y e4) ?_;refine Su Z h fun h=>?_;exact d _ [] _ _ Lg h
 cases h;exact kR Z
def AV1 (c:Int):Option PV:=if c=0 then none else some (.iface 278 (pI .i64 c))
def DW (N:Nat)(c:Int)(q0:Sl Qj)(q1:Sl Law):Option (List (Int×(Sl Qj))):= (B7 N q0).bind λy1=>JQ (0,y1) (Co N (λa (x1:Sl Qj) (x2:Int)=>if (decide (x2<(q1.n:Int))) then if ((0:Int)<=x2/\x2<(q1.n:Int))then (Lp N (q1.g x2.toNat) x1).bind λy4=>if (y4.2 != 0) then if y4.2=c then some []else none else JQ (wrap .i64 (x2+1),y4.1) (a y4.1 (wrap .i64 (x2+1))) else none else if c=0 then some []else none) y1 0)
theorem HZ {q0:Sl Qj}{q1:Sl Law}{c:Int}{L:List (Int×(Sl Qj))}(h:DW N c q0 q1=some L) :Qb S Y2 [] [.reg 0 0,.reg 1 0] [.cells [.p (vSl 2 A0 q0)],.cells [.p (vSl 18 B6 q1)]] (L.map (λ(x:Int×(Sl Qj))=>[pI .i64 x.1,vSl 2 A0 x.2])) (AV1 c):=by
 unfold DW at h;refine AE5 Z func209 ?_;refine kC Z h (Q9 Z Y) (λy1 h=>?_);obtain⟨L1,rfl,d⟩:=Ng h;replace h:=d;refine CL Z Lg (ys:=(λ(x:Int×(Sl Qj))=>[pI .i64 x.1,vSl 2 A0 x.2]) (0,y1)) (rest:=L1.map (λ(x:Int×(Sl Qj))=>[pI .i64 x.1,vSl 2 A0 x.2])) ?_ ?_
 .refine C7 Z Lg (b:=false) (λc1=>?_) (λc1=>?_)
  .exact Bool.noConfusion ((rfl:false=false).symm.trans c1)
  refine UZ Z Lg h (λx1 x2 L2=>⟨[(17,pN x2),(16,pN (q1.n:Int)),(15,.p (vSl 18 B6 q1)),(4,.p (vSl 2 A0 x1)),(0,.yf 2)],[(2,.yld (L2.map (λ(x:Int×(Sl Qj))=>[pI .i64 x.1,vSl 2 A0 x.2])) true),(1,.cells [.p (vSl 18 B6 q1)]),(0,.cells [.p (vSl 2 A0 q0)])]⟩) (ids:=(Qp [0,1,2])) (λ_ _ _ _ _ g x1 x2 L2 i h=>?_);apply kI Z h<;>intro h
  .obtain⟨c13,h⟩:=B9 h;obtain⟨y4,e4,h⟩:=A9 h;refine B0 Z [] (Qu c13 Nl) (Ae0 Z Y e4) ?_;refine C7 Z Lg (b:=y4.2 != 0) (λc14=>?_) (λc14=>?_)
   .replace h:=itT c14 h;obtain⟨c0,h⟩:=B9 h;obtain rfl:=B1 h;have j:AV1 c=some (.iface 278 (pI .i64 y4.2)):=by
     have:¬y4.2=0:=by simpa using c14
     rw[<- c0];simp[AV1,this]
    refine Bh8 Z Lg (x:=.iface 278 (pI .i64 y4.2)) ?_;exact Ba2 Z Lg (x:=.iface 278 (pI .i64 y4.2)) (objs:=[(.cells [.p (vSl 2 A0 q0)]),.cells [.p (vSl 18 B6 q1)],.yld [] true]) [0,1,2] ⟨true,rfl,rfl,λ_=>by rw[j];rfl,λe=>nomatch e⟩
   replace h:=itF c14 h;obtain⟨L5,rfl,f⟩:=Ng h;replace h:=f;refine CL Z Lg (ys:=(λ(x:Int×(Sl Qj))=>[pI .i64 x.1,vSl 2 A0 x.2]) (wrap .i64 (x2+1),y4.1)) (rest:=L5.map (λ(x:Int×(Sl Qj))=>[pI .i64 x.1,vSl 2 A0 x.2])) ?_ ?_
   .refine C7 Z Lg (b:=false) (λc15=>?_) (λc15=>?_)
    .exact Bool.noConfusion ((rfl:false=false).symm.trans c15)
    exact i _ (Qp [0,1,2]) _ _ _ L5 Lg h
   refine C7 Z Lg (b:=true) (λc16=>?_) (λc16=>?_)
   .exact kO Z Lg (a:=.tup []) (objs:=[(.cells [.p (vSl 2 A0 q0)]),.cells [.p (vSl 18 B6 q1)],.yld [] false]) [0,1,2] ⟨false,rfl,rfl,λe=>(nomatch e),λ_=>⟨_,rfl⟩⟩
   exact Bool.noConfusion (Nm.symm.trans c16)
  obtain⟨c0,h⟩:=B9 h;obtain rfl:=B1 h;exact kO Z Lg (a:=.tup []) (objs:=[(.cells [.p (vSl 2 A0 q0)]),.cells [.p (vSl 18 B6 q1)],.yld [] true]) [0,1,2] ⟨true,rfl,rfl,λ_=>by subst c0;exact⟨_,rfl⟩,λe=>(nomatch e)⟩
 refine C7 Z Lg (b:=true) (λc17=>?_) (λc17=>?_)
 .exact kO Z Lg (a:=.tup []) (objs:=[(.cells [.p (vSl 2 A0 q0)]),.cells [.p (vSl 18 B6 q1)],.yld [] false]) [0,1,2] ⟨false,rfl,rfl,λe=>(nomatch e),λ_=>⟨_,rfl⟩⟩
 exact Bool.noConfusion (Nm.symm.trans c17)
def Gd (N:Nat)(a:Sl Law)(b:Sl Qj):Option ((Sl Qj)×(Sl Law)):= some (b,a)
theorem KF {a:Sl Law}{b:Sl Qj}{y:(Sl Qj)×(Sl Law)}(h:Gd N a b=some y) :Sb S KA [.p (vSl 18 B6 a),.p (vSl 2 A0 b)] [] (.clo Y2 [] [.reg 0 0,.reg 1 0]) ([.cells [.p (vSl 2 A0 y.1)],.cells [.p (vSl 18 B6 y.2)]]) []:=by unfold Gd at h;refine A2 Z func194 ?_;obtain rfl:=B1 h;exact kO Z Lg [4000,3000]
def Q2 (N:Nat)(c:Int)(a:Sl Law)(d:Sl Qj):Option (Sl Qj):= (Gd N a d).bind λy1=>(DW N c y1.1 y1.2).bind λL1=>Cp L1 (λb (x1:Int×(Sl Qj)) (z1:Sl Qj)=>b x1.2) (λ(z1:Sl Qj)=>some z1) (Sl.nil:Sl Qj)
theorem Np {a:Sl Law}{b:Sl Qj}{y:Sl Qj}(h:Q2 N 0 a b=some y) :Sb S J8 [.p (vSl 18 B6 a),.p (vSl 2 A0 b)] [] (.p (vSl 2 A0 y)) ([]) []:=by
 unfold Q2 at h;refine A2 Z func155 ?_;refine kC Z h (KF Z Y) (λy1 h=>?_);obtain⟨L1,e2,h⟩:=A9 h;have f:Qb S Y2 [] [.reg 0 0,.reg 1 0] [.cells [.p (vSl 2 A0 y1.1)],.cells [.p (vSl 18 B6 y1.2)]] (L1.map (λ(x:Int×(Sl Qj))=>[pI .i64 x.1,vSl 2 A0 x.2])) none:=HZ Z Y e2;refine Am2 Z Lg [8000,8001] [4] 901 (λz1=>⟨[(4,.reg 5000 0)],[(5000,.cells [.p (vSl 2 A0 z1)])]⟩) (idl:=[(5000,5000)]) h f (λ_=>by kernel_rfl) (λ_=>by kernel_rfl) (λ_=>by kernel_rfl) (λ_=>by kernel_rfl) (λx1 _ c z1 d h=>?_) (λz1 h=>?_)
 .refine Ma Z Lg ?_;exact d _ (Qp [901,5000]) _ _ Lg h
 cases h;exact kR Z
theorem Nq {c:Int}{a:Sl Law}{b:Sl Qj}{y:Sl Qj}(hc:c≠0)(h:Q2 N c a b=some y) :S.F J8 [.p (vSl 18 B6 a),.p (vSl 2 A0 b)] [] λres o k=>res=.panic (.iface 278 (pI .i64 c))/\o=[]/\k=[]:=by
 unfold Q2 at h;refine AU0 Z func155 ?_;refine kC Z h (KF Z Y) (λy1 h=>?_);obtain⟨L1,e2,h⟩:=A9 h;have g:Qb S Y2 [] [.reg 0 0,.reg 1 0] [.cells [.p (vSl 2 A0 y1.1)],.cells [.p (vSl 18 B6 y1.2)]] (L1.map (λ(x:Int×(Sl Qj))=>[pI .i64 x.1,vSl 2 A0 x.2])) (some (.iface 278 (pI .i64 c))):=by
  have:=HZ Z Y e2
  simpa[AV1,hc]using this
 refine Am2 Z Lg [8000,8001] [4] 901 (λz1=>⟨[(4,.reg 5000 0)],[(5000,.cells [.p (vSl 2 A0 z1)])]⟩) (idl:=[(5000,5000)]) h g (λ_=>by kernel_rfl) (λ_=>by kernel_rfl) (λ_=>by kernel_rfl) (λ_=>by kernel_rfl) (λx1 _ d z1 f h=>?_) (λz1 h=>?_)
 .refine Ma Z Lg ?_;exact f _ (Qp [901,5000]) _ _ Lg h
 exact Ba2 Z Lg (x:=.iface 278 (pI .i64 c)) (objs:=[]) [] ⟨rfl,rfl,rfl⟩
def DX (N:Nat)(a:Sl Law)(b:Sl Qj):Option ((Sl Qj)×Bool):=
 match Q2 N 0 a b with
 |some y=>some (y,true)
 |none=>(Q2 N 11 a b).bind λ_=>some ((Sl.nil:Sl Qj),false)
theorem OO {b:Sl Law}{c:Sl Qj}{y:(Sl Qj)×Bool}(h:DX N b c=some y) :Sb S HS [.p (vSl 18 B6 b),.p (vSl 2 A0 c)] [] (.tup [.p (vSl 2 A0 y.1),pB y.2]) ([]) []:=by
 unfold DX at h;refine A2 Z func114 ?_;rcases e:Q2 N 0 b c with _|z
 .rw[e]at h;obtain⟨z,e1,h⟩:=A9 h;obtain rfl:=B1 h;refine B0 Z [7000,3000,4000,5000] Lg (Y.attP (Nq Z Y (by decide) e1)) ?_;refine G8 Z Lg [(0,.l [5000]),(1,.l [7000]),(3,.a [5000])] ?_;refine C8 Lg ?_;exact M8 Z Lg ⟨[(5,pB false),(4,.reg 5000 0)],[(5000,.cells [.p (vSl 2 A0 Sl.nil)])]⟩ [] (ids:=[(5000,5000)]) ⟨rfl,rfl,rfl⟩
 rw[e]at h;obtain rfl:=B1 h;refine B0 Z [7000,3000,4000,5000] Lg (Y.attR (Np Z Y e)) ?_;refine G8 Z Lg [(0,.l [5000]),(1,.l [7000]),(3,.a [5000])] ?_;refine C8 Lg ?_;exact M8 Z Lg ⟨[(5,pB true),(4,.reg 5000 0)],[(5000,.cells [.p (vSl 2 A0 z)])]⟩ [] (ids:=[(5000,5000)]) ⟨rfl,rfl,rfl⟩
def Cv (N:Nat)(a:Sl Law)(b:Sl Qj):Option ((Sl Qj)×Int):= (Gc N a (Sl.of [b]:Sl (Sl Qj))).bind λy1=>if (y1 != 0) then some ((Sl.nil:Sl Qj),y1) else (DX N a b).bind λy2=>if (!y2.2) then some ((Sl.nil:Sl Qj),11) else some (y2.1,0)
theorem Jb {N:Nat}{a:Sl Law}{b:Sl Qj}{y:(Sl Qj)×Int}(h:Cv N a b=some y) :Sb S IH [.p (vSl 18 B6 a),.p (vSl 2 A0 b)] [] (.tup [.p (vSl 2 A0 y.1),pN y.2]) ([]) []:=by
 unfold Cv at h;refine A2 Z Tryz.func77 ?_;refine LY Z Nm ⟨[(11,.vec 12000),(9,.p (vSl 18 B6 a)),(1,.p (vSl 2 A0 b)),(0,.p (vSl 18 B6 a))],[(12000,.vec V2 1 (Sl.of [b]:Sl (Sl Qj)).n (λi=>cL 2 A0 ((Sl.of [b]:Sl (Sl Qj)).g i)) false)]⟩ (ids:=[(12000,12000)]) ?_ (hle:=kl1 3 (Ay3 (cL 2 A0) ([b]:List (Sl Qj)) [I4]));refine kC Z h (SH Z Y) (λy1 h=>?_);apply kI Z h<;>intro h
 .obtain rfl:=B1 h;exact kO Z Lg []
 refine kC Z h (OO Z Y) (λy2 h=>?_);apply kI Z h<;>intro h
 .obtain rfl:=B1 h;exact kO Z Lg []
 cases h;exact kR Z
end Go.AM
