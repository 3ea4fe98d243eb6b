/- Part 4. -/
import Derived.Test.YthnfmkeomcncgaaGreatDoorMC
import Derived.Test.YthnfmkeomcncgaaGreatDoorMB
import Derived.RecoverIn
import Derived.Test.YthnfmkeomcncgaaGreatDoorProg
import Derived.Lib.SlTrimSet
import Derived.Lib.Join
import Derived.Lib.ItoaNum
import Derived.Lib.Bytealg
import Derived.TacticsInMore
set_option linter.defProp false
set_option linter.unusedSimpArgs false
set_option linter.unusedVariables false
set_option linter.unusedSectionVars false
namespace Go.AM
def Ur:=@And.intro
abbrev Uq(k n:Nat):Prop:=n*k<=140737488355328/\n<=140737488355328
abbrev Te:Sl Int:=Sl.nil
def Td:true=true:=rfl
def Tc:(18:Nat)<=18:=by decide
def Sz:(7:Nat)<=7:=by decide
def Sx:(4:Nat)<=4:=by decide
def Sw:(3:Nat)<=3:=by decide
def Sp:(2:Nat)<=2:=by decide
def Sn:(1:Nat)<=1:=by decide
abbrev Sh(z:Int):Sl Int:=(Sl.of [IntKind.wrap .u8 z,IntKind.wrap .u8 (shI .shr .u32 z 8),IntKind.wrap .u8 (shI .shr .u32 z 16)]:Sl Int)
noncomputable abbrev Cd7:=Go.Proofs.Tryz.prog.funcs
def Cf7:=@Bool.eq_iff_iff
def Cj0:=@List.nil_append
def Cr1:=@Option.ite_none_right_eq_some
def Cr8:=@BitVec.toNat_ofNat
def Cs3:=@BitVec.getLsbD_shiftLeft
def Cv6:=@BitVec.getLsbD_one
theorem Ir (D:List Deferred)(a:Act)(d:Option Tmp)(v:Value):(Ub D a).put d v=Ub D (a.put d v):=by cases d<;>rfl
def Nu {F:Fence}{n:Nat}{P:Program}{ops:Array Oper}{Q:Exit->Act->World->Prop}(D:List Deferred):∀(l:List Nat) (a:Act) (w:World),wpOpsIn F n P ops Q l a w ->
 wpOpsIn F n P ops (λe a' w'=>∃a0,a' = Ub D a0/\Q e a0 w') l (Ub D a) w
 |[],a,w,h=>⟨a,rfl,h⟩
 |i::l,a,w,h=>by
  have ih:=Nu (F:=F) (n:=n) (P:=P) (ops:=ops) (Q:=Q) D l;simp only[wpOpsIn]at h⊢;have e1:(Ub D a).eval=a.eval:=by funext x;cases x<;>rfl
  have e2:(Ub D a).tmps=a.tmps:=rfl;cases j:ops[i]? with
  |none=>grind
  |some o=>
   simp only[j]at h⊢;rw[e2,e1];by_cases hw:Region.wanted o (yielded ops a.tmps)=true
   .rw[Jk hw]at h⊢;refine⟨by rw[e1];exact h.1,?_⟩;have b:=h.2;rw[e1];generalize (o.semAt F.round a.eval).run P w=r at b;unfold Oper.uponIn at b⊢;split at b
    .rw[Ir];grind
    .rw[Ir];grind
    .exact ih _ _ b |> λx=>by
      rename_i d w'
      have:({ (Ub D a)with defers:=d::(Ub D a).defers }:Act).put o.dst undef=Ub D (({ a with defers:=d::a.defers }:Act).put o.dst undef):=by rw[<- Ir];rfl
      rw[this];exact x
    .refine⟨b.1,b.2.mono ?_⟩;intro e w' f;cases e with
     |returned v=>have:=ih _ _ f;rw[<- Ir]at this;omega
     |panicked ch=>grind
     |outgrown=>obtain⟨a1,w1,g⟩:=f;exact⟨Ub D a1,w1,a1,rfl,g⟩
    .refine⟨b.1,λc cs m=>?_⟩;obtain⟨v,w',g1,g2⟩:=b.2 c cs m
     grind[Ir]
    .refine⟨b.1,b.2.mono ?_⟩;intro e w' f;cases e with
     |returned v=>have:=ih _ _ f;rw[<- Ir]at this;omega
     |panicked ch=>grind
     |outgrown=>obtain⟨a1,w1,g⟩:=f;exact⟨Ub D a1,w1,a1,rfl,g⟩
    all_goals grind
   simp_all[Js,Ir]
section
variable {P:Program}{C:Ctx}{st:St}{rho:Nat->Value}
def Iu {fn:Func}{R:Ending->World->Prop}{u:FrameMode}(c:u ≠ .run){tmps:Array Value}{D:List Deferred}(b:∀a w,Sat C st a w rho->a.tmps=tmps->LeavesInM Fence.wide 0 P fn tmps R D u w) :∀(ds:List Deferred) (a:Act) (w:World),a.defers=ds->a.tmps=tmps->Sat C st a w rho->LeavesInM Fence.wide 0 P fn tmps R (ds++D) u w
 |[],a,w,hd,ht,h=>b a w h ht
 |d::ds,a,w,hd,ht,h=>by obtain⟨r,w',h1,f,g⟩:=h.unmark hd;exact⟨c,.inl ⟨r,w',h1,f,Iu c b ds { a with defers:=ds } w' rfl ht g⟩⟩
end
structure Node where
 Ye:Int
 Name:Str
 deriving Inhabited,DecidableEq
abbrev F1 (x:Node):List PV:=[(pI .i64 x.Ye),.str x.Name]
structure Up where
 Plus:Int
 Minus:Int
 deriving Inhabited,DecidableEq
abbrev A0 (x:Up):List PV:=[(pI .u32 x.Plus),pI .u32 x.Minus]
inductive Pat where
 |nil
 |mk (Kind:Int) (Is:Up) (Not:Bool) (Min:Int) (Max:Int) (n:Nat) (g:Nat->Pat)
instance:Inhabited Pat:=⟨.nil⟩
def Pat.Kind:Pat->Int
 |.nil=>0
 |.mk x _ _ _ _ _ _=>x
def Pat.Is:Pat->Up
 |.nil=>default
 |.mk _ x _ _ _ _ _=>x
def Pat.Not:Pat->Bool
 |.nil=>false
 |.mk _ _ x _ _ _ _=>x
def Pat.Min:Pat->Int
 |.nil=>0
 |.mk _ _ _ x _ _ _=>x
def Pat.Max:Pat->Int
 |.nil=>0
 |.mk _ _ _ _ x _ _=>x
def Pat.L:Pat->Sl Pat
 |.nil=>⟨0,λ_=>.nil⟩
 |.mk _ _ _ _ _ n g=>⟨n,g⟩
def CE:Pat->Nat->List PV
 |.nil=>λ_=>[]
 |.mk _ _ _ _ _ n g=>λi=>[(pI .i64 (g i).Kind),pI .u32 (g i).Is.Plus,pI .u32 (g i).Is.Minus,.bb (g i).Not,pI .i64 (g i).Min,pI .i64 (g i).Max,.sl false 7 (g i).L.n (CE (g i))]
abbrev C5 (x:Pat):List PV:=[(pI .i64 x.Kind),pI .u32 x.Is.Plus,pI .u32 x.Is.Minus,.bb x.Not,pI .i64 x.Min,pI .i64 x.Max,.sl false 7 x.L.n (CE x)]
def P8 (x:Pat):∀i,i<x.L.n->CE x i=C5 (x.L.g i):=by
 cases x with
 |nil=>intro i a;exact Ke (show i<0 from a) (by omega)
 |mk Kind Is Not Min Max n g=>exact λ_ _=>rfl
structure EE where
 From:Int
 Clear:Int
 Set:Up
 Take:Int
 Of:Int
 deriving Inhabited,DecidableEq
abbrev Dd (x:EE):List PV:=[(pI .i64 x.From),pI .u32 x.Clear,pI .u32 x.Set.Plus,pI .u32 x.Set.Minus,pI .u32 x.Take,pI .i64 x.Of]
structure Law where
 Name:Str
 Left:Pat
 Right:Pat
 If:(Sl Up)
 Out:(Sl EE)
 Mode:Int
 deriving Inhabited
abbrev B6 (x:Law):List PV:=[(.str x.Name),pI .i64 x.Left.Kind,pI .u32 x.Left.Is.Plus,pI .u32 x.Left.Is.Minus,.bb x.Left.Not,pI .i64 x.Left.Min,pI .i64 x.Left.Max,.sl false 7 x.Left.L.n (CE x.Left),pI .i64 x.Right.Kind,pI .u32 x.Right.Is.Plus,pI .u32 x.Right.Is.Minus,.bb x.Right.Not,pI .i64 x.Right.Min,pI .i64 x.Right.Max,.sl false 7 x.Right.L.n (CE x.Right),vSl 2 A0 x.If,vSl 6 Dd x.Out,pI .i64 x.Mode]
structure Yc where
 Tree:(Sl Node)
 Laws:(Sl Law)
 On:(Sl (Sl Int))
 deriving Inhabited
abbrev A9 (x:Yc):List PV:=[(vSl 2 F1 x.Tree),vSl 18 B6 x.Laws,vSl 1 (cL 1 (cI .i64)) x.On]
structure F9 where
 Yi:Str
 S:Up
 deriving Inhabited,DecidableEq
abbrev H5 (x:F9):List PV:=[(.str x.Yi),pI .u32 x.S.Plus,pI .u32 x.S.Minus]
structure GO where
 Text:Str
 Clear:Int
 Set:Up
 deriving Inhabited,DecidableEq
abbrev EF (x:GO):List PV:=[(.str x.Text),pI .u32 x.Clear,pI .u32 x.Set.Plus,pI .u32 x.Set.Minus]
structure M8 where
 Has:Bool
 W:(Sl Up)
 deriving Inhabited
abbrev I4 (x:M8):List PV:=[(.bb x.Has),vSl 2 A0 x.W]
structure Yh where
 Gloss:Str
 Yg:(Sl M8)
 deriving Inhabited
abbrev N5 (x:Yh):List PV:=[(.str x.Gloss),vSl 2 I4 x.Yg]
structure B0 where
 Feats:(Sl Str)
 Sounds:(Sl F9)
 Marks:(Sl GO)
 Yc:Yc
 Yb:(Sl M8)
 Yf:(Sl Yh)
 deriving Inhabited
abbrev B3 (x:B0):List PV:=[(vSl 1 cS x.Feats),vSl 3 H5 x.Sounds,vSl 4 EF x.Marks,vSl 2 F1 x.Yc.Tree,vSl 18 B6 x.Yc.Laws,vSl 1 (cL 1 (cI .i64)) x.Yc.On,vSl 2 I4 x.Yb,vSl 2 N5 x.Yf]
structure A7 where
 Yh:Int
 X9:Int
 Kind:Int
 Cost:Int
 deriving Inhabited,DecidableEq
abbrev B8 (x:A7):List PV:=[(pI .i64 x.Yh),pI .i64 x.X9,pI .i64 x.Kind,pI .i64 x.Cost]
structure Dj where
 Node:Int
 Place:Int
 Yh:Int
 X9:Int
 deriving Inhabited,DecidableEq
abbrev K3 (x:Dj):List PV:=[(pI .i64 x.Node),pI .i64 x.Place,pI .i64 x.Yh,pI .i64 x.X9]
structure EG where
 Bad:(Sl A7)
 Yd:(Sl Dj)
 deriving Inhabited
abbrev Mz (x:EG):List PV:=[(vSl 4 B8 x.Bad),vSl 4 K3 x.Yd]
structure D0 where
 a0:Int
 a1:Int
 deriving Inhabited,DecidableEq
abbrev E1 (x:D0):List PV:=[(pI .i64 x.a0),pI .i64 x.a1]
structure FP where
 entry:Int
 leaf:Int
 deriving Inhabited,DecidableEq
abbrev RY (x:FP):List PV:=[(pI .i64 x.entry),pI .i64 x.leaf]
inductive Part where
 |nil
 |sound (x:Up) (no:Bool)
 |edge (e:Bool)
 |seq (n:Nat) (g:Nat->Part)
 |alt (n:Nat) (g:Nat->Part)
 |rep (o:Part) (mn mx:Int)
instance:Inhabited Part:=⟨.nil⟩
def Part.t:Part->Nat
 |.nil=>0
 |.sound _ _=>352
 |.edge _=>354
 |.seq _ _=>359
 |.alt _ _=>356
 |.rep _ _ _=>358
def Part.v:Part->PV
 |.nil=>.bb false
 |.sound x no=>.agg [pI .u32 x.Plus,pI .u32 x.Minus,.bb no]
 |.edge e=>.agg [.bb e]
 |.seq n g=>.agg [.sl false 1 n λi=>[.iface (g i).t (g i).v]]
 |.alt n g=>.agg [.sl false 1 n λi=>[.iface (g i).t (g i).v]]
 |.rep o mn mx=>.agg [.iface o.t o.v,pI .i64 mn,pI .i64 mx]
abbrev JK (x:Part):PV:=.iface x.t x.v
abbrev VV (x:Part):List PV:=[JK x]
structure Bd8 where
 is:Up
 not:Bool
 deriving Inhabited,DecidableEq
abbrev Bv5 (x:Bd8):List PV:=[(pI .u32 x.is.Plus),pI .u32 x.is.Minus,.bb x.not]
structure BL7 where
 end_:Bool
 deriving Inhabited,DecidableEq
abbrev BL8 (x:BL7):List PV:=[(.bb x.end_)]
structure Palt where
 l:(Sl Part)
 deriving Inhabited
abbrev BY2 (x:Palt):List PV:=[(vSl 1 VV x.l)]
structure BY3 where
 of:Part
 min:Int
 max:Int
 deriving Inhabited
abbrev BY4 (x:BY3):List PV:=[(JK x.of),pI .i64 x.min,pI .i64 x.max]
structure Pseq where
 l:(Sl Part)
 deriving Inhabited
abbrev BY5 (x:Pseq):List PV:=[(vSl 1 VV x.l)]
structure D7 where
 Made:Bool
 F:(Sl Str)
 S:(Sl F9)
 deriving Inhabited
structure A6 where
 feats:(Sl Str)
 number:List (Str×Int)
 sounds:(Sl F9)
 symbols:List (Str×Int)
 values:List (Up×Int)
 deriving Inhabited
abbrev G2 (a b:Up):Bool:=((a.Plus==b.Plus)&&(a.Minus==b.Minus))
open Go.Proofs
abbrev Fb:Nat:=3
abbrev RZ:Nat:=4
abbrev Sa:Nat:=5
abbrev VW:Nat:=6
abbrev Sb:Nat:=7
abbrev JL:Nat:=8
abbrev Nv:Nat:=9
abbrev VX:Nat:=10
abbrev Sc:Nat:=11
abbrev Ad2:Nat:=12
abbrev PK:Nat:=13
abbrev Sd:Nat:=14
abbrev Nw:Nat:=15
abbrev LE:Nat:=16
abbrev VY:Nat:=17
abbrev PL:Nat:=18
abbrev PM:Nat:=19
abbrev Nx:Nat:=20
abbrev Ny:Nat:=21
abbrev VZ:Nat:=22
abbrev Se:Nat:=23
abbrev Ad6:Nat:=24
abbrev Sf:Nat:=25
abbrev Wa:Nat:=26
abbrev Sg:Nat:=27
abbrev Nz:Nat:=28
abbrev PN:Nat:=29
abbrev PO:Nat:=30
abbrev DR:Nat:=31
abbrev NA:Nat:=32
abbrev NB:Nat:=33
abbrev Hz:Nat:=34
abbrev JM:Nat:=35
abbrev Wb:Nat:=36
abbrev Wc:Nat:=37
abbrev Si:Nat:=38
abbrev Sj:Nat:=39
abbrev KU:Nat:=40
abbrev NC:Nat:=41
abbrev Wd:Nat:=42
abbrev Sk:Nat:=43
abbrev M3:Nat:=44
abbrev U3:Nat:=45
abbrev ND:Nat:=46
abbrev Hf:Nat:=47
abbrev Ae:Nat:=48
abbrev Hg:Nat:=49
abbrev Sm:Nat:=50
abbrev Z8:Nat:=51
abbrev JN:Nat:=52
abbrev EH:Nat:=53
abbrev Y0:Nat:=54
abbrev PP:Nat:=55
abbrev So:Nat:=56
abbrev NE:Nat:=57
abbrev NF:Nat:=58
abbrev LF:Nat:=59
abbrev We:Nat:=60
abbrev Wf:Nat:=61
abbrev NG:Nat:=62
abbrev LG:Nat:=63
abbrev Ja:Nat:=64
abbrev HB:Nat:=65
abbrev PQ:Nat:=66
abbrev PS:Nat:=67
abbrev W0:Nat:=68
abbrev Gc:Nat:=69
abbrev LH:Nat:=70
abbrev CG:Nat:=71
abbrev LI:Nat:=72
abbrev JQ:Nat:=73
abbrev Fw:Nat:=74
abbrev Iv:Nat:=75
abbrev Wg:Nat:=76
abbrev Wh:Nat:=77
abbrev Sq:Nat:=78
abbrev Sr:Nat:=79
abbrev Wi:Nat:=80
abbrev PT:Nat:=81
abbrev NH:Nat:=82
abbrev U4:Nat:=83
abbrev PU:Nat:=86
abbrev PW:Nat:=87
abbrev Ss:Nat:=88
abbrev Su:Nat:=89
abbrev Sv:Nat:=90
abbrev PX:Nat:=91
abbrev Wj:Nat:=92
abbrev JR:Nat:=93
abbrev Ae6:Nat:=94
abbrev NI:Nat:=95
abbrev JS:Nat:=96
abbrev LJ:Nat:=97
abbrev Jb:Nat:=98
abbrev LK:Nat:=99
abbrev Sy:Nat:=100
abbrev W1:Nat:=101
abbrev PY:Nat:=102
abbrev CH:Nat:=103
abbrev S2:Nat:=104
abbrev Jc:Nat:=105
abbrev LL:Nat:=106
abbrev LM:Nat:=107
abbrev LN:Nat:=108
abbrev LO:Nat:=109
abbrev U5:Nat:=110
abbrev Jd:Nat:=111
abbrev Ca:Nat:=112
abbrev LP:Nat:=113
abbrev Je:Nat:=114
abbrev PZ:Nat:=115
abbrev KV:Nat:=116
abbrev Qa:Nat:=117
abbrev JT:Nat:=118
abbrev LQ:Nat:=125
abbrev SA:Nat:=126
abbrev SB:Nat:=127
abbrev Wk:Nat:=128
abbrev Af0:Nat:=129
abbrev NK:Nat:=130
abbrev JU:Nat:=131
abbrev LR:Nat:=132
abbrev LS:Nat:=133
abbrev AG7:Nat:=134
abbrev SF:Nat:=135
abbrev JV:Nat:=136
abbrev O1:Nat:=137
abbrev Jf:Nat:=138
abbrev LT:Nat:=139
abbrev Qb:Nat:=140
abbrev BK:Nat:=141
abbrev Af2:Nat:=142
abbrev AP:Nat:=143
abbrev JW:Nat:=144
abbrev Gf:Nat:=145
abbrev Fm:Nat:=146
abbrev EI:Nat:=147
abbrev Hi:Nat:=148
abbrev NL:Nat:=149
abbrev O2:Nat:=150
abbrev Jg:Nat:=151
abbrev U6:Nat:=152
abbrev NM:Nat:=153
abbrev Bp:Nat:=154
abbrev J3:Nat:=155
abbrev W2:Nat:=156
abbrev LU:Nat:=157
abbrev N6:Nat:=158
abbrev Y1:Nat:=159
abbrev K7:Nat:=160
abbrev Wl:Nat:=161
abbrev NO:Nat:=162
abbrev SJ:Nat:=169
abbrev SK:Nat:=170
abbrev Wm:Nat:=171
abbrev SL:Nat:=172
abbrev Wn:Nat:=173
abbrev KW:Nat:=174
abbrev Qc:Nat:=175
abbrev LW:Nat:=176
abbrev LX:Nat:=177
abbrev HC:Nat:=178
abbrev Wo:Nat:=179
abbrev Ji:Nat:=180
abbrev Wp:Nat:=181
abbrev AG8:Nat:=182
abbrev NP:Nat:=183
abbrev Wq:Nat:=184
abbrev NQ:Nat:=185
abbrev SM:Nat:=186
abbrev Qd:Nat:=187
abbrev N0:Nat:=188
abbrev P5:Nat:=189
abbrev Q1:Nat:=190
abbrev R9:Nat:=191
abbrev ME:Nat:=192
abbrev Fn:Nat:=193
abbrev HD:Nat:=194
abbrev Y2:Nat:=195
abbrev Fo:Nat:=196
abbrev EJ:Nat:=197
abbrev CL:Nat:=198
abbrev Dv:Nat:=199
abbrev S4:Nat:=200
abbrev Q2:Nat:=208
abbrev Gg:Nat:=209
abbrev P6:Nat:=210
abbrev Jj:Nat:=211
abbrev LY:Nat:=212
abbrev U7:Nat:=214
abbrev SP:Nat:=215
abbrev Qe:Nat:=216
abbrev Af6:Nat:=217
abbrev Af7:Nat:=218
abbrev Wr:Nat:=219
abbrev LZ:Nat:=220
abbrev T4:Nat:=221
abbrev O5:Nat:=222
abbrev S5:Nat:=223
abbrev S6:Nat:=229
abbrev Ai:Nat:=230
abbrev SQ:Nat:=231
abbrev SR:Nat:=232
abbrev Af8:Nat:=233
abbrev SS:Nat:=234
abbrev Ws:Nat:=235
abbrev NR:Nat:=236
abbrev Wt:Nat:=237
abbrev Qf:Nat:=238
abbrev J1:Nat:=239
abbrev ST:Nat:=244
abbrev Ag0:Nat:=245
abbrev Ag1:Nat:=246
abbrev NS:Nat:=247
abbrev SU:Nat:=251
abbrev Ag2:Nat:=252
abbrev Ka:Nat:=253
abbrev Qg:Nat:=254
abbrev Wu:Nat:=255
abbrev Qh:Nat:=256
abbrev Wv:Nat:=257
abbrev MF:Nat:=258
abbrev Ww:Nat:=259
abbrev Q8:Nat:=260
abbrev Ag5:Nat:=261
abbrev Ag6:Nat:=262
abbrev NT:Nat:=263
abbrev Wx:Nat:=264
abbrev Ix:Nat:=265
abbrev Ag7:Nat:=266
abbrev Kb:Nat:=267
abbrev Qi:Nat:=268
abbrev HE:Nat:=269
abbrev K4:Nat:=270
abbrev Ma:Nat:=271
abbrev Qj:Nat:=272
abbrev Kc:Nat:=273
abbrev Wy:Nat:=274
abbrev Qk:Nat:=275
abbrev Wz:Nat:=276
abbrev SX:Nat:=277
abbrev Cd:Nat:=278
abbrev NU:Nat:=279
abbrev SY:Nat:=280
abbrev SZ:Nat:=281
abbrev Tb:Nat:=282
abbrev NV:Nat:=283
abbrev NW:Nat:=284
abbrev Mb:Nat:=285
abbrev Kd:Nat:=286
abbrev Es:Nat:=287
abbrev Ff:Nat:=288
abbrev EK:Nat:=309
abbrev Gi:Nat:=310
abbrev Hj:Nat:=311
abbrev Iy:Nat:=312
abbrev GT:Nat:=313
abbrev Iz:Nat:=314
abbrev Kf:Nat:=315
abbrev BO:Nat:=316
abbrev IA:Nat:=317
abbrev C8:Nat:=3
abbrev BD8:Nat:=4
abbrev I2:Nat:=5
abbrev M6:Nat:=9
abbrev EL:Nat:=26
abbrev Yx:Nat:=29
abbrev Yy:Nat:=33
abbrev E6:Nat:=47
abbrev O9:Nat:=49
abbrev Av6:Nat:=56
abbrev F0:Nat:=67
abbrev Et:Nat:=74
abbrev CM:Nat:=81
abbrev KX:Nat:=92
abbrev A8:Nat:=95
abbrev HF:Nat:=98
abbrev H6:Nat:=101
abbrev S0:Nat:=108
abbrev Y3:Nat:=131
abbrev Bf3:Nat:=173
abbrev G7:Nat:=186
abbrev Q9:Nat:=209
abbrev WA:Nat:=224
abbrev Av7:Nat:=347
open IntKind (wrap)
abbrev U (x:BitVec 64):Int:=(x.toNat:Int)
theorem NY {n:Nat}(h:n<2 ^ 64):IntKind.u64.wrap (n:Int)=n:=by
 have h1:((n:Int) % (2 ^ 64:Int))=n:=by omega
 simp_all[wrap,IntKind.bits,IntKind.signed,Cm6,Ce4,Lp]
theorem Av8 (x:BitVec 64):BitVec.ofInt 64 (U x)=x:=by
 grind
def and64 (x y:BitVec 64):F3 .and .u64 (U x) (U y)=U (x &&& y):=by
 grind[F3,IntKind.bits,Av8,NY]
def Cc9 (x y:BitVec 64):F3 .or .u64 (U x) (U y)=U (x ||| y):=by
 grind[F3,IntKind.bits,Av8,NY]
def Bv8 (x y:BitVec 64):F3 .andNot .u64 (U x) (U y)=U (x &&& ~~~ y):=by
 grind[F3,IntKind.bits,Av8,NY]
def shr64 (x:BitVec 64)(n:Nat):shI .shr .u64 (U x) n=U (x >>> n):=by
 simp only[shI,IntKind.bits,Int.toNat_natCast];have hx:=x.isLt;show Int.fdiv (x.toNat:Int) (2 ^ min n 64)=((x >>> n).toNat:Int);rw[Cn0,Cm7];have e:((2:Int) ^ (min n 64))=((2 ^ (min n 64):Nat):Int):=by norm_cast
 rw[e,Cr7 _ (Cv4 _),<- Int.natCast_ediv];congr 1;by_cases h:n<=64
 .rw[Ck8 h]
 rw[Cr0 (by omega),Cl8 hx,Cl8];exact Cf5 hx (Cm9 (by omega) (by omega))
def BY6:(1:Int)=U 1#64:=rfl
def Ah2 (n:Nat)(h:n<64):shI .shl .u64 1 n=U (1#64 <<< n):=by
 simp only[shI,IntKind.bits,Int.toNat_natCast];rw[Ck8 (by omega)];show wrap .u64 (1*2 ^ n)=((1#64 <<< n).toNat:Int);rw[Cq5,Ct3];have h1:(2:Nat) ^ n<2 ^ 64:=Nat.pow_lt_pow_right (by omega) h;have e:((1:Int)*2 ^ n)=((2 ^ n:Nat):Int):=by norm_cast;omega
 rw[e,NY h1]
 norm_cast
 rw[Ck4]
 all_goals grind
def BL9 {i:Nat}:(1#64).getLsbD i=decide (i=0):=by rw[Cv6];simp
def Yz {n i:Nat}(h:n<64)(a:i<64):(1#64 <<< n).getLsbD i=decide (i=n):=by
 rw[Cs3,BL9,Cf7]
 grind
def bit64 (x:BitVec 64)(i:Nat):(F3 .and .u64 (shI .shr .u64 (U x) (i:Int)) 1==1)=x.getLsbD i:=by
 rw[shr64,BY6,and64];have h:(x >>> i &&& 1#64)=(BitVec.ofBool (x.getLsbD i)).setWidth 64:=by
  grind
 rw[h];cases x.getLsbD i<;>rfl
def Bv9 {x y:BitVec 64}(h:∀b,b<64->(x.getLsbD b=true↔y.getLsbD b=true)):x=y:=
 (by grind)
def Mc (n:Nat)(R:Nat->Nat->Prop):Nat->Nat->Nat->Prop
 |0=>λa b=>a=b
 |k+1=>λa b=>∃c,c<=n/\Mc n R k a c/\R c b
def BD9 (n:Nat)(Q:Nat->Nat->Nat->Prop):Nat->Nat->Nat->Prop
 |0=>λa b=>a=b
 |i+1=>λa b=>∃c,c<=n/\BD9 n Q i a c/\Q i c b
def Fwd (n:Nat)(R:Nat->Nat->Prop):Prop:=∀a b,a<=n->R a b->a<=b/\b<=n
def NZ {n:Nat}{R:Nat->Nat->Prop}(h:Fwd n R):∀k,Fwd n (Mc n R k)
 |0,a,b,ha,hb=>by obtain rfl:a=b:=hb;omega
 |k+1,a,b,ha,⟨c,hc,h1,h2⟩=>by have g1:=NZ h k a c ha h1;have g2:=h c b hc h2;omega
def AG9 {n:Nat}{Q:Nat->Nat->Nat->Prop}:∀k,(∀i,i<k->Fwd n (Q i))->Fwd n (BD9 n Q k)
 |0,_,a,b,ha,hb=>by obtain rfl:a=b:=hb;omega
 |k+1,h,a,b,ha,⟨c,hc,h1,h2⟩=>by have g1:=AG9 k (by grind) a c ha h1;have g2:=h k (by omega) c b hc h2;omega
theorem GU {n:Nat}{R:Nat->Nat->Prop}(h:Fwd n R)(j:Nat){a:Nat}(ha:a<=n):∀k b,Mc n R (j+k) a b ↔ ∃c,c<=n/\Mc n R j a c/\Mc n R k c b
 |0,b=>⟨λhp=>⟨b,(NZ h j a b ha hp).2,hp,rfl⟩,fun⟨c,_,hp,e⟩=>by obtain rfl:c=b:=e;omega⟩
 |k+1,b=>by
  constructor
  .rintro⟨d,f,h1,g⟩;obtain⟨c,hc,g1,g2⟩:=(GU h j ha k d).1 h1;exact⟨c,hc,g1,d,f,g2,g⟩
  rintro⟨c,hc,g1,d,f,g2,g⟩;exact⟨d,f,(GU h j ha k d).2 ⟨c,hc,g1,g2⟩,g⟩
def WB {n:Nat}{R:Nat->Nat->Prop}(h:Fwd n R){a:Nat}(ha:a<=n):∀k b,Mc n R (k+1) a b->Mc n R k a b \/ a+(k+1)<=b
 |0,b,⟨c,hc,h1,h2⟩=>by
  obtain rfl:a=c:=h1;by_cases e:a=b
  .exact .inl e
  have:=(h a b ha h2).1;omega
 |k+1,b,⟨c,hc,h1,h2⟩=>by
  by_cases e:c=b
  .grind
  have:=(h c b hc h2).1
  rcases WB h ha k c h1 with g|g
  .exact .inl ⟨c,hc,g,h2⟩
  omega
def Ah3 {n:Nat}{R:Nat->Nat->Prop}(h:Fwd n R){a:Nat}(ha:a<=n){k b:Nat}(hk:n<=k)(hp:Mc n R (k+1) a b):Mc n R k a b:=by
 rcases WB h ha k b hp with g|g
 .exact g
 have:=(NZ h (k+1) a b ha hp).2;omega
def Ah4 {n:Nat}{R:Nat->Nat->Prop}(h:Fwd n R){a:Nat}(ha:a<=n){b:Nat}:∀k,Mc n R k a b->∃j,j<=n/\Mc n R j a b
 |0,hp=>by grind
 |k+1,hp=>by
  by_cases hk:n<=k
  .exact Ah4 h ha k (Ah3 h ha hk hp)
  grind
theorem Tf {n:Nat}{R:Nat->Nat->Prop}(h:Fwd n R){a:Nat}(ha:a<=n):∀k b,Mc n (λx y=>R x y \/ x=y) k a b ↔ ∃j,j<=k/\Mc n R j a b
 |0,b=>⟨λe=>⟨0,Ce5 _,e⟩,fun⟨j,f,hp⟩=>by
  obtain rfl:j=0:=by omega
  exact hp⟩
 |k+1,b=>by
  constructor
  .rintro⟨c,hc,h1,d⟩;obtain⟨j,f,hp⟩:=(Tf h ha k c).1 h1;rcases d with d|d
   .exact⟨j+1,by omega,c,hc,hp,d⟩
   grind
  rintro⟨j,f,hp⟩;by_cases e:j<=k
  .have hb:=(NZ h j a b ha hp).2;exact⟨b,hb,(Tf h ha k b).2 ⟨j,e,hp⟩,.inr rfl⟩
  obtain rfl:j=k+1:=by omega
  obtain⟨c,hc,h1,d⟩:=hp;exact⟨c,hc,(Tf h ha k c).2 (by grind),.inl d⟩
def AX1 (s c:Up):Bool:=(F3 .and .u32 s.Plus c.Plus==c.Plus)&&(F3 .and .u32 s.Minus c.Minus==c.Minus)
def PR (w:Sl Up):Pat->Nat->Nat->Prop
 |.nil=>λa b=>a=b
 |.mk kind is no mn mx m g=>λa b=>
  if kind=0 then a=b
  else if kind=1 then a<w.n/\b=a+1/\(AX1 (w.g a) is != no)=true
  else if kind=2 then a=0/\b=0
  else if kind=6 then a=w.n/\b=w.n
  else if kind=3 then BD9 w.n (λi=>PR w (g i)) m a b
  else if kind=4 then ∃i,i<m/\PR w (g i) a b
  else if kind=5 then ∃k:Nat,mn<=k/\(mx = -1 \/ (k:Int)<=mx)/\Mc w.n (PR w (g 0)) k a b
  else False
def Ah5 (w:Sl Up):∀p:Pat,Fwd w.n (PR w p)
 |.nil,a,b,ha,h=>by obtain rfl:a=b:=h;omega
 |.mk kind is no mn mx m g,a,b,ha,h=>by
  simp only[PR]at h;split at h
  .omega
  split at h
  .omega
  split at h
  .omega
  split at h
  .omega
  split at h
  .exact AG9 m (λi _=>Ah5 w (g i)) a b ha h
  split at h
  .obtain⟨i,_,c⟩:=h;exact Ah5 w (g i) a b ha c
  split at h
  .obtain⟨k,_,_,hk⟩:=h;exact NZ (Ah5 w (g 0)) k a b ha hk
  grind
def TabR (n:Nat)(R:Nat->Nat->Prop)(f:Nat->Int):Prop:=∀a,a<=n->∃x:BitVec 64,f a=U x/\∀b,b<64->(x.getLsbD b=true↔b<=n/\R a b)
def TabR.congr {n:Nat}{R R' : Nat->Nat->Prop}{f:Nat->Int}(h:TabR n R f)(c:∀a b,a<=n->b<=n->(R a b↔R' a b)):TabR n R' f:=λa ha=>by
 obtain⟨x,e,hx⟩:=h a ha
 grind
def TabR.uniq {n:Nat}{R:Nat->Nat->Prop}{f g:Nat->Int}(h:TabR n R f)(h' : TabR n R g){a:Nat}(ha:a<=n):f a=g a:=by obtain⟨x,e,hx⟩:=h a ha;obtain⟨y,e',hy⟩:=h' a ha;rw[e,e',Bv9 λb hb=>(hx b hb).trans (hy b hb).symm]
def TabR.bit {n:Nat}{R:Nat->Nat->Prop}{f:Nat->Int}(h:TabR n R f){a b:Nat}(ha:a<=n)(hb:b<64):(F3 .and .u64 (shI .shr .u64 (f a) (b:Int)) 1==1)=true↔b<=n/\R a b:=by obtain⟨x,e,hx⟩:=h a ha;rw[e,bit64];grind
open Go.Proofs.Tryz
variable {N:Nat}
abbrev Bw0:List AV:=[.reg 0 0,.reg 1 0,.reg 2 0,.reg 3 0]
abbrev Av9 (c:Int)(a:Sl Law)(b:Sl Up)(y:PV):List Obj:=[.cells [pN c],.cells [.p (vSl 18 B6 a)],.cells [.p (vSl 2 A0 b)],.cells [.p y]]
structure KY (S:X4):Prop where
 attR:∀{a:Sl Law}{b y:Sl Up},Uw S K7 [.p (vSl 18 B6 a),.p (vSl 2 A0 b)] [] (.p (vSl 2 A0 y)) [] []->Uw S N6 Bw0 (Av9 0 a b I1) (.tup []) (Av9 0 a b (vSl 2 A0 y)) [true,true,true,true]
 attP:∀{a:Sl Law}{b:Sl Up}{c:Int},(S.F K7 [.p (vSl 18 B6 a),.p (vSl 2 A0 b)] [] λres o k=>res=.panic (.iface 288 (pI .i64 c))/\o=[]/\k=[])->Uw S N6 Bw0 (Av9 0 a b I1) (.tup []) (Av9 c a b I1) [true,true,true,true]
 tz:∀x:BitVec 64,ZH S U7 [.p (pI .u64 (U x))] (.p (pI .i64 (Lib.ctz 64 x.toNat:Nat)))
 trim:∀s c:Str,s.length<1000000000000->c.length<1000000->(∀b∈c,b.toNat<128)->ZH S Hi [.p (.str s),.p (.str c)] (.p (.str (Lib.trimS s c)))
 growS:∀(f:Nat->List PV) (n:Nat),n*8<=140737488355328->Uw S K4 [.p I1,.p (pI .i64 (n:Int))] [] (.vec 0) [.vec A8 2 0 f false] []
 join:∀(nn:Bool) (n:Nat) (g:Nat->List UInt8) (sep:List UInt8),n<=140737488355328->(Lib.join ((List.range n).map g) sep).length<=140737488355328 ->
  ZH S Hg [.p (.sl nn 1 n λi=>[.str (g i)]),.p (.str sep)] (.p (.str (Lib.join ((List.range n).map g) sep)))
 indexByte:∀(s:List UInt8) (c:UInt8),ZH S CL [.p (.str s),.p (.v (.int .u8 c.toNat))] (.p (.v (.int .i64 (Lib.indexByte s c))))
 fmtInt:∀n:Int,-9223372036854775808<=n->n<=9223372036854775807->ZH S Z8 [.p (pI .i64 n),.p (pI .i64 10)] (.p (.str (Lib.itoa n)))
 copyCheck:∀(T:Nat) (u n:Nat) (f:Nat->List PV),T=121->Uw S U4 [.reg 0 0] [.blk [0,T,u] 1,.vec I2 1 n f false] (.tup []) [.blk [0,T,1] 1,.vec I2 1 n f false] [true,true]
 bstr:∀(T u n:Nat) (f:Nat->List PV) (s:List UInt8),T=121->s.length=n->(∀i,i<n->f i=[.v (.int .u8 (s.getD i 0).toNat)])->Uw S Y0 [.reg 0 0] [.blk [0,T,u] 1,.vec I2 1 n f false] (.p (.str s)) [] []
def I7 (N:Nat)(x:Int):Option Int:=ite (0<=x/\x<18446744073709551616) (some ((Lib.ctz 64 x.toNat:Nat):Int)) none
def At (N:Nat)(s c:Str):Option Str:=ite (s.length<1000000000000/\c.length<1000000/\(c.all λb=>decide (b.toNat<128))) (some (Lib.trimS s c)) none
def K5 (N:Nat)(n:Int):Option (Sl Up):=ite (0<=n/\n*8<=140737488355328) (some (Sl.nil:Sl Up)) none
section
variable {S:X4}(Z:H3 S Tryz.prog) (Y:KY S)
include Z Y
theorem Gj {x y:Int}(h:I7 N x=some y):Uw S U7 [.p (pI .u64 x)] [] (.p (pI .i64 y)) [] []:=by
 obtain⟨⟨a,h1⟩,h⟩:=C4 h;obtain rfl:=A5 h
 have:=Y.tz (BitVec.ofNat 64 x.toNat)
 have e:(BitVec.ofNat 64 x.toNat).toNat=x.toNat:=by rw[Cr8];omega
 have e2:U (BitVec.ofNat 64 x.toNat)=x:=by show ((BitVec.ofNat 64 x.toNat).toNat:Int)=x;rw[e];omega
 rw[e,e2]at this;exact this
theorem Md {s c:Str}{y:Str}(h:At N s c=some y):Uw S Hi [.p (.str s),.p (.str c)] [] (.p (.str y)) [] []:=by obtain⟨⟨a,h1,d⟩,h⟩:=C4 h;obtain rfl:=A5 h;exact Y.trim s c a h1 λb hb=>by simpa using Ce8.1 d b hb
theorem Ce {n:Int}{y:Sl Up}(h:K5 N n=some y):Uw S K4 [.p I1,.p (pI .i64 n)] [] (.vec 0) [.vec A8 2 y.n (λi=>A0 (y.g i)) false] []:=by
 obtain⟨⟨a,h1⟩,h⟩:=C4 h;obtain rfl:=A5 h
 have:=Y.growS (λi=>A0 default) n.toNat (by omega)
 rw[show ((n.toNat:Nat):Int)=n by omega]at this;exact this
def B1 (N:Nat)(s:Sl Up):Option (Sl Up):=ite ((0+s.n)*8<=140737488355328/\0+s.n<=140737488355328) (some s) none
abbrev Yu:List PV:=[pI .u32 0,pI .u32 0]
theorem S7 {s y:Sl Up}(h:B1 N s=some y):Uw S J3 [.p (vSl 2 A0 s)] [] (.vec 0) [.vec A8 2 y.n (λi=>A0 (y.g i)) true] []:=by
 unfold B1 at h;obtain⟨c1,h⟩:=C4 h;obtain rfl:=A5 h;refine A1 Z func155 ?_;refine Ac5 Z S3 3 (k:=2) (n:=s.n) (f:=λi=>A0 (s.g i)) (λa=>?_) ?_
 .obtain⟨n,g⟩:=s;obtain rfl:n=0:=a;exact kO Z S3 [3700]
 exact kO Z (Ur Td c1) [8000]
  (hle:=kl1 0 (Bn7 A0 s Yu))
def H9 (N:Nat)(s:Sl EE):Option (Sl EE):=ite ((0+s.n)*32<=140737488355328/\0+s.n<=140737488355328) (some s) none
theorem Bs {s y:Sl Up}(h:B1 N s=some y):Uw S J3 [.p (vSl 2 A0 s)] [] (.p (vSl 2 A0 y)) [] []:=by
 unfold B1 at h;obtain⟨c1,h⟩:=C4 h;obtain rfl:=A5 h;refine A1 Z func155 ?_;refine Ac5 Z S3 3 (k:=2) (n:=s.n) (f:=λi=>A0 (s.g i)) (λa=>?_) ?_
 .obtain⟨n,g⟩:=s;obtain rfl:n=0:=a;exact kO Z S3 []
 exact kO Z (Ur Td c1) []
  (hle:=kl1 0 (Bn7 A0 s Yu))
theorem Dk {s y:Sl EE}(h:H9 N s=some y):Uw S W2 [.p (vSl 6 Dd s)] [] (.p (vSl 6 Dd y)) [] []:=by
 unfold H9 at h;obtain⟨c1,h⟩:=C4 h;obtain rfl:=A5 h;refine A1 Z func156 ?_;refine Ac5 Z S3 3 (k:=6) (n:=s.n) (f:=λi=>Dd (s.g i)) (λa=>?_) ?_
 .obtain⟨n,g⟩:=s;obtain rfl:n=0:=a;exact kO Z S3 []
 exact kO Z (Ur Td c1) []
  (hle:=kl1 0 (Bn7 Dd s [pI .i64 0,pI .u32 0,pI .u32 0,pI .u32 0,pI .u32 0,pI .i64 0]))
end
end Go.AM
set_option maxRecDepth 100000
namespace Go.AM
open Go.Proofs.Tryz
open Go.Proofs
def AS0 (v:Value)(w:World):(Instr.typeAssert (.iface 288 v) 20 288 true).run Tryz.prog w=.ok (.tuple #[v,.bool true]) w:=by kernel_rfl
def Aw0 (p:Value)(w:World):CallsDIn Fence.wide 0 Tryz.prog Y1 #[p] .returning w λe u' w'=>e=.returned (.tuple #[])/\u' = .returning/\w' = w:=by
 refine callsDIn_of_wpSIn func159 rfl (by simp[Fence.wide]) λc₀ cs a=>?_;apply wpSIn_seq;apply wpSIn_region;simp[wpOpsSIn,go_sem,recoverD,a,f159,Exit.thenS];refine wpSIn_of_wpIn rfl (wpIn_block (wpIn_seq (wpIn_region ?_)));simp[wpOpsIn,go_sem];refine wpIn_cond (t:=true) (by simp[Act.eval]) ?_;simp;refine wpIn_region ?_;simp[wpOpsIn,go_sem,bodyPostS,results];cases c₀
 grind
def QK (p:Value)(c:Int)(older:List PanicEntry)(w w1:World)(a:(Instr.storeAt 40 p (.int .i64 c)).run Tryz.prog w=.ok () w1)(hn:∃b,p=.pointer (some b)) :CallsDIn Fence.wide 0 Tryz.prog Y1 #[p] (.panicking ({ v:=.iface 288 (.int .i64 c),recovered:=false }::older)) w λe u' w'=>
  e=.returned (.tuple #[])/\u' = .panicking ({ v:=.iface 288 (.int .i64 c),recovered:=true }::older)/\w' = w1:=by
 obtain⟨b,rfl⟩:=hn;refine callsDIn_of_wpSIn func159 rfl (by simp[Fence.wide]) λc₀ cs d=>?_;apply wpSIn_seq;apply wpSIn_region;simp[wpOpsSIn,go_sem,recoverD,d,f159,Exit.thenS];refine wpSIn_of_wpIn rfl (wpIn_block (wpIn_seq (wpIn_region ?_)));simp[wpOpsIn,go_sem];refine wpIn_cond (t:=false) (by simp[Act.eval]) ?_;simp;refine wpIn_seq (wpIn_region ?_);simp[wpOpsIn,go_sem,AS0];refine wpIn_cond (t:=true) (by simp[Act.eval]) ?_;simp;refine wpIn_seq (wpIn_region ?_);simp[wpOpsIn,go_sem];refine wpIn_region ?_;simp[wpOpsIn,Oper.uponIn,go_sem,bodyPostS,results];simp[go_sem]at a;rw[a]
 simp_all
noncomputable def BR9:Code:=match Tryz.f158.body with
 |some (.seq _ c)=>c
 |_=>.skip
def BM0 {S:X4}(Z:H3 S Tryz.prog){a:Sl Law}{b y:Sl Up}(c:Uw S K7 [.p (vSl 18 B6 a),.p (vSl 2 A0 b)] [] (.p (vSl 2 A0 y)) [] []) :KG S Tryz.prog (VR S (λst=>M9 [0,1,2,3] st.Uu [0,1,2,3]=some (Av9 0 a b (vSl 2 A0 y))) λ_ _=>False) (.code BR9 [] ⟨Yl Bw0,Uv (Av9 0 a b I1)⟩):=by refine D6 Z [] S3 c ?_;exact K_upN Z S3 ⟨[],[(3,.cells [.p (vSl 2 A0 y)]),(2,.cells [.p (vSl 2 A0 b)]),(1,.cells [.p (vSl 18 B6 a)]),(0,.cells [pN 0])]⟩ rfl
def Bf4 {S:X4}(Z:H3 S Tryz.prog){a:Sl Law}{b:Sl Up}{c:Int}(d:S.F K7 [.p (vSl 18 B6 a),.p (vSl 2 A0 b)] [] λres o k=>res=.panic (.iface 288 (pI .i64 c))/\o=[]/\k=[]) :KG S Tryz.prog (VR S (λ_=>False) λx st=>x=.iface 288 (pI .i64 c)/\store Tryz.prog st.Uu 40 (.reg 0 0) (.p (pI .i64 c))=some ([],ins 0 (.cells [pN c]) st.Uu)/\M9 [0,1,2,3] (ins 0 (.cells [pN c]) st.Uu) [0,1,2,3]=some (Av9 c a b I1)) (.code BR9 [] ⟨Yl Bw0,Uv (Av9 0 a b I1)⟩):=by refine BL1 Z [] S3 d ?_;exact K_upP Z S3 ⟨rfl,by kernel_rfl,by kernel_rfl⟩
noncomputable def att1:Code:=match Tryz.f158.body with
 |some (.seq c _)=>c
 |_=>.skip
noncomputable def attOps:Array Oper:=match BR9 with
 |.region _ ops _=>ops
 |_=>#[]
def AH0:BR9=.region 1 attOps false:=by kernel_rfl
def BY7:attOps.toList.all (Lw 7 attOps.toList)=true:=by kernel_rfl
def Bw1:Tryz.f158.body=some (.seq att1 BR9):=by kernel_rfl
def BM1 {C:Ctx}{vs:Array Value}{w:World}{rho:Nat->Value}{args:List AV}{objs:List Obj}{n:Nat}(Z:Sat C ⟨Yl args,Uv objs⟩ ⟨vs,[]⟩ w rho)(a:vs.size=args.length) :Sat C ⟨Yl args,Uv objs⟩ { tmps:=vs++Array.replicate n undef,defers:=[] } w rho:=by
 refine⟨Z.toSatE,λt=>?_,Z.pin,Z.marks⟩
 have:=Z.env t
 by_cases ht:t<vs.size
 .simp_all[Ce1,Cp0]
 show Yj w _ _ _ _ (get (Yl args) t);rw[Da,Ce0,Ci0 (by omega)];exact .top _
def Tg {R:St->Prop}{X:PV->St->Prop}{a:Sl Law}{b:Sl Up}{objs' : List Obj}
 (y:KG (Ia Tryz.prog) Tryz.prog (VR (Ia Tryz.prog) R X) (.code BR9 [] ⟨Yl Bw0,Uv (Av9 0 a b I1)⟩))
 (hR:∀st,R st->M9 [0,1,2,3] st.Uu [0,1,2,3]=some objs')
 (hX:∀x st,X x st->∃c regs',x=.iface 288 (pI .i64 c)/\store Tryz.prog st.Uu 40 (.reg 0 0) (.p (pI .i64 c))=some ([],regs')/\M9 [0,1,2,3] regs' [0,1,2,3]=some objs') :
 Uw (Ia Tryz.prog) N6 Bw0 (Av9 0 a b I1) (.tup []) objs' [true,true,true,true]:=by
 intro 𝒢 C w vs rho hG Z s;obtain⟨l⟩:=vs
 match l,s with
 |[v0,v1,v2,v3],s=>?_
 refine⟨.enter N6 #[v0,v1,v2,v3],w,by simp_all,?_⟩;refine callsIn_of_wp_marks func158 Bw1 S3 ?_;have z:=BM1 (n:=Tryz.f158.ntmps-4) Z s;have a8:Tryz.f158.ntmps-4=3:=rfl;rw[a8]at z;have a9:((#[v0,v1,v2,v3]:Array Value)++Array.replicate 3 undef).size=7:=rfl;have hw:Lj (Ia Tryz.prog) Tryz.prog attOps.toList attOps.toList (VR (Ia Tryz.prog) R X) ⟨Yl Bw0,Uv (Av9 0 a b I1)⟩:=by
  have:=y.out
  rw[AH0]at this
  simp_all[G,awp,kp,Ce4,Lp]
 have a1:=RF (𝒢:=𝒢.fix C.rho0) (n:=7) (ro:=none) (ops:=attOps) BY7 attOps.toList 0 rfl (by simp) ⟨hG,rfl⟩ z a9 hw;have a2:=Nu [{ target:=.fn (.func Y1) #[],args:=#[v0] }] _ _ _ a1;rw[Cr9]at a2;obtain⟨b0,a4,t⟩:∃b0,v0=.pointer (some ⟨b0,0,none⟩)/\rho 0=.pointer (some ⟨b0,0,none⟩):=by have h0:Yj w _ _ rho v0 (.reg 0 0):=Z.env 0;cases h0<;>grind
 have q:∀{C' : Ctx}{st' : St}{a' : Act}{w' : World}{rho' : Nat->Value},(𝒢.fix C.rho0).G C' -> Sat C' st' a' w' rho' -> M9 [0,1,2,3] st'.Uu [0,1,2,3]=some objs' ->
  LeavesInM Fence.wide 0 Tryz.prog f158 a'.tmps (λe w'=>∃C' r objs0 ks rho', 𝒢.G C' /\ (r=.ret (.tup [])/\objs0=objs' /\ ks=[true,true,true,true])/\SatE C' (Uv objs0) w' rho' /\
   Bp9 w' (Prv C'.X (A2 (Uv objs0)) rho') (Lv (A2 (Uv objs0))) rho' e r/\∀i:Nat,ks[i]? = some true->i<objs0.length/\rho' i=rho i) [] .returning w':=by
  intro C' st' a' w' rho' d f j;obtain⟨g1,g2,g3⟩:=RG f (by decide) j;obtain⟨hl,hg⟩:=Bo j;refine⟨.tuple #[],by simp[results,f158],C', .ret (.tup []),objs',_,_,d.1,⟨rfl,rfl,rfl⟩,g1,⟨_,rfl,.tup _ _ rfl (by grind)⟩,?_⟩;intro i hi;have a5:i<4:=by
   have:=(Ch5.1 hi).1
   omega
  refine⟨by rw[hl];omega,?_⟩;have e1:[0,1,2,3][i]? = some i:=by
   match i,a5 with
   |0,_=>rfl
   |1,_=>rfl
   |2,_=>rfl
   |3,_=>rfl
  obtain⟨o,_,ho,_⟩:=hg i i e1;show rho' ([0,1,2,3].getD i 0)=rho i;rw[Fd e1,f.pin i (by omega) (by grind[Lv]),d.2];refine (Z.pin i (by omega) ?_).symm;rw[Lv,F4]
  match i,a5 with
  |0,_=>rfl
  |1,_=>rfl
  |2,_=>rfl
  |3,_=>rfl
 generalize hQ:bodyPostM _ _ _ _ _=QQ;refine wpIn_seq ?_;simp only[att1,f158];refine wpIn_region ?_;simp[wpOpsIn,go_sem];subst hQ;rw[AH0];refine wpIn_mono (wpIn_region (F:=FW none) a2) ?_;rintro e a' w' ⟨a0,rfl,u⟩;cases e with
 |exit id=>obtain⟨_,_,_,_,_,_,h⟩:=u;exact h.elim
 |goto l=>obtain⟨_,_,_,_,_,_,h⟩:=u;exact h.elim
 |ret=>obtain⟨_,_,_,_,_,_,h⟩:=u;exact h.elim
 |outgrown=>exact u.elim
 |normal=>
  obtain⟨C',st',rho',d,f,a6,hu⟩:=u;obtain⟨st2,rho2,b1,_,b2⟩:=hu C' a0 w' rho' f;refine Iu (C:=C') (st:=st2) (rho:=rho2) (by simp) ?_ a0.defers a0 w' rfl rfl b2;intro a3 w3 m ht;refine⟨by simp,.inr ⟨by simp[Fence.wide],_,_,Y1,#[v0],rfl,by simp[go_sem],λ_ _=>trivial,?_⟩⟩;refine (Aw0 v0 w3).mono ?_;rintro e u' w4 ⟨rfl,rfl,rfl⟩
  have:=q d m (hR st2 b1)
  rw[ht]at this;exact this
 |panic chain=>
  obtain⟨C',st',rho',v,x,rfl,d,f,a6,hv,b3⟩:=u;obtain⟨c,regs',rfl,b4,j⟩:=hX x st' b3;obtain rfl:v=.iface 288 (.int .i64 c):=by
   cases hv with
   |iface _ _ _ h=>cases h;rfl
  refine Iu (C:=C') (st:=st') (rho:=rho') (by simp) ?_ a0.defers a0 w' rfl rfl f;intro a3 w3 m ht;have g:Lv (A2 st'.Uu) 0:=by
   grind[A2,Lv,store]
  have b5:rho' 0=.pointer (some ⟨b0,0,none⟩):=by rw[m.pin 0 (by omega) g,d.2,<- t];exact (Z.pin 0 (by omega) rfl).symm
  have b6:RS C' st' w3 rho' v0 (.reg 0 0):=by rw[a4];exact .reg 0 0 b0 g b5
  obtain⟨w4,a7,b7,_⟩:=Rs m (vx:=.int .i64 c) b6 (.p _ _ (.v _)) b4 S3;refine⟨by simp,.inr ⟨by simp[Fence.wide],_,_,Y1,#[v0],rfl,by simp[go_sem],λ_ _=>trivial,?_⟩⟩;refine (QK v0 c [] w3 w4 a7 ⟨_,a4⟩).mono ?_;rintro e u' w5 ⟨rfl,rfl,rfl⟩
  have:=q d b7 j
  rw[ht]at this;exact this
def Aw1 {a:Sl Law}{b y:Sl Up}(c:Uw (Ia Tryz.prog) K7 [.p (vSl 18 B6 a),.p (vSl 2 A0 b)] [] (.p (vSl 2 A0 y)) [] []) :Uw (Ia Tryz.prog) N6 Bw0 (Av9 0 a b I1) (.tup []) (Av9 0 a b (vSl 2 A0 y)) [true,true,true,true]:=
 Tg (BM0 (An8 Tryz.prog) c) (λst h=>h) (λx st h=>h.elim)
def YA {a:Sl Law}{b:Sl Up}{c:Int}(d:(Ia Tryz.prog).F K7 [.p (vSl 18 B6 a),.p (vSl 2 A0 b)] [] λres o k=>res=.panic (.iface 288 (pI .i64 c))/\o=[]/\k=[]) :Uw (Ia Tryz.prog) N6 Bw0 (Av9 0 a b I1) (.tup []) (Av9 c a b I1) [true,true,true,true]:=
 Tg (Bf4 (An8 Tryz.prog) d) (λst h=>h.elim) (by grind)
variable {N:Nat}
open IntKind (wrap)
set_option maxRecDepth 10000
set_option maxHeartbeats 2000000
variable {S:X4}(Z:H3 S Tryz.prog) (Y:KY S)
include Z Y
def H1 (N:Nat)(a:Up):Option Bool:= some (((F3 .and .u32 a.Plus a.Minus)==0)&&(decide ((F3 .or .u32 a.Plus a.Minus)<=16777215)))
theorem T2 {b:Up}{y:Bool}(h:H1 N b=some y) :Uw S NL [.p (.agg (A0 b))] [] (pB y) ([]) []:=by unfold H1 at h;refine A1 Z func149 ?_;refine kB Z (A3 Z) S3 S3 7 (.n (.a ((F3 .and .u32 b.Plus b.Minus)==0)) (.a (decide ((F3 .or .u32 b.Plus b.Minus)<=16777215)))) ?_;cases h;exact kR Z
def P0 (N:Nat)(b:Up)(a:Up):Option Bool:= (H1 N b).bind λy1=>lt (λ(z1:Bool)=>some z1) λk1=>ite y1 ((H1 N a).bind λy3=>ite y3 (ite ((F3 .andNot .u32 a.Plus b.Plus)==0) (k1 ((F3 .andNot .u32 a.Minus b.Minus)==0)) (k1 false)) (k1 false)) (k1 false)
theorem OT {c:Up}{a:Up}{y:Bool}(h:P0 N c a=some y) :Uw S HE [.p (.agg (A0 c)),.p (.agg (A0 a))] [] (pB y) ([]) []:=by
 unfold P0 at h;refine A1 Z func269 ?_;refine kC Z h (T2 Z Y) (λy1 h=>?_);refine GN Z S3 (A3 Z) h 0 (λz1 _=>⟨[(4,pB z1)],[]⟩) (λk1 b h=>?_) (λz1 h=>?_)
 .refine kG Z h (λh=>?_) (λh=>?_)
  .refine kC Z h (T2 Z Y) (λy3 h=>?_);refine kG Z h (λh=>?_) (λh=>?_)
   .refine kG Z h (λh=>?_) (λh=>?_)
    .exact b S3 h
    exact b S3 h
   exact b S3 h
  exact b S3 h
 cases h;exact kR Z
def Gk (N:Nat)(a:Up):Option Int:= some (F3 .or .u32 a.Plus a.Minus)
theorem Th {a:Up}{y:Int}(h:Gk N a=some y) :Uw S SZ [.p (.agg (A0 a))] [] (pU y) ([]) []:=by unfold Gk at h;refine A1 Z func281 ?_;cases h;exact kR Z
def Ea (N:Nat)(c:Up)(b:Up)(a:Int):Option Up:= some (⟨F3 .or .u32 (F3 .andNot .u32 c.Plus a) (F3 .and .u32 b.Plus a),F3 .or .u32 (F3 .andNot .u32 c.Minus a) (F3 .and .u32 b.Minus a)⟩:Up)
theorem Ti {c:Up}{a:Up}{b:Int}{y:Up}(h:Ea N c a b=some y) :Uw S Tb [.p (.agg (A0 c)),.p (.agg (A0 a)),pU b] [] (.p (.agg (A0 y))) ([]) []:=by unfold Ea at h;refine A1 Z func282 ?_;cases h;exact kR Z
def T5 (N:Nat)(c:Up)(a:Int)(b:Up):Option (Up×Int):= (H1 N c).bind λy1=>lt (λ(z1:Bool)=>ite z1 (some ((⟨0,0⟩:Up),14)) (lt (λ(z2:Bool)=>ite z2 (some ((⟨0,0⟩:Up),2)) ((Gk N b).bind λy6=>(Ea N c b (F3 .or .u32 a y6)).bind λy7=>some (y7,0))) λk2=>ite (decide (16777215<a)) (k2 true) ((Gk N b).bind λy5=>k2 ((F3 .and .u32 a y5) != 0)))) λk1=>ite (!y1) (k1 true) ((H1 N b).bind λy3=>k1 (!y3))
theorem UO {c:Up}{b:Int}{a:Up}{y:Up×Int}(h:T5 N c b a=some y) :Uw S Ma [.p (.agg (A0 c)),pU b,.p (.agg (A0 a))] [] (.tup [.p (.agg (A0 y.1)),pN y.2]) ([]) []:=by
 unfold T5 at h;refine A1 Z func271 ?_;refine C7 Z S3 5 4000 [pI .u32 c.Plus,pI .u32 c.Minus] ?_;refine C7 Z S3 6 6000 [pI .u32 a.Plus,pI .u32 a.Minus] ?_;refine kD Z h Sp (T2 Z Y) (λy1 h=>?_);refine GN Z S3 (A3 Z) h 0 (λz1=>kps [(15,pB z1)] [6,5,3,1] [] [7000]) (λk1 d h=>?_) (λz1 h=>?_)
 .refine kG Z h (λh=>?_) (λh=>?_)
  .exact d S3 h
  refine kD Z h Sp (T2 Z Y) (λy3 h=>?_);exact d S3 h
 refine Ym Z h fun h=>?_;refine GN Z S3 (A3 Z) h 0 (λz2=>kps [(25,pB z2)] [6,5,3,1] [] [7000]) (λk2 f h=>?_) (λz2 h=>?_)
 .refine kG Z h (λh=>?_) (λh=>?_)
  .exact f S3 h
  refine kD Z h Sp (Th Z Y) (λy5 h=>?_);exact f S3 h
 refine Ym Z h fun h=>?_;refine B4 Z S3 [0,1,3,4,6] ?_;refine dP h (Ur (Ur Sp Sp) Sp) (Th Z Y) (λy6 h=>?_);refine dP h S3 (Ti Z Y) (λy7 h=>?_);refine D5 S3 ?_;cases h;exact kR Z
def Z2 (N:Nat)(c:Up)(a:Up)(b:Int):Option (Up×Int):= (H1 N c).bind λy1=>lt (λ(z1:Bool)=>ite z1 (some ((⟨0,0⟩:Up),14)) (ite (decide (16777215<b)) (some ((⟨0,0⟩:Up),2)) ((Ea N c a b).bind λy4=>some (y4,0)))) λk1=>ite (!y1) (k1 true) ((H1 N a).bind λy3=>k1 (!y3))
theorem Ah6 {c:Up}{a:Up}{b:Int}{y:Up×Int}(h:Z2 N c a b=some y) :Uw S Qj [.p (.agg (A0 c)),.p (.agg (A0 a)),pU b] [] (.tup [.p (.agg (A0 y.1)),pN y.2]) ([]) []:=by
 unfold Z2 at h;refine A1 Z func272 ?_;refine kC Z h (T2 Z Y) (λy1 h=>?_);refine GN Z S3 (A3 Z) h 0 (λz1=>kps [(15,pB z1)] [6,4,3,2] [] [7000,5000,4000]) (λk1 d h=>?_) (λz1 h=>?_)
 .refine kG Z h (λh=>?_) (λh=>?_)
  .exact d S3 h
  refine kC Z h (T2 Z Y) (λy3 h=>?_);exact d S3 h
 refine Ym Z h fun h=>?_;refine Ym Z h fun h=>?_;refine kC Z h (Ti Z Y) (λy4 h=>?_);cases h;exact kR Z
def De (N:Nat)(a:Up):Option Bool:= some (((F3 .and .u32 a.Plus a.Minus)==0)&&((shI .shr .u32 (F3 .or .u32 a.Plus a.Minus) 24)==0))
theorem Ah7 {a:Up}{y:Bool}(h:De N a=some y) :Uw S PU [.p (.agg (A0 a))] [] (pB y) ([]) []:=by
 unfold De at h;refine A1 Z func86 ?_;obtain⟨t1,c⟩:∃x:Bool,x=(((F3 .and .u32 a.Plus a.Minus)==0)&&((shI .shr .u32 (F3 .or .u32 a.Plus a.Minus) 24)==0)):=⟨_,rfl⟩;refine Ab8 Z S3 (A3 Z) 0 (λ_=>⟨[(2,pB t1)],[]⟩) (λd=>?_) ?_
 .refine Ip Z S3 (b:=(F3 .and .u32 a.Plus a.Minus)==0) (λc2=>?_) (λc2=>?_)
  .exact d (by decide:(0:Int)<=24) (hle:=klR [(0,.eq (.bb ((shI .shr .u32 (F3 .or .u32 a.Plus a.Minus) 24)==0)) (.bb t1))] (al1 (by simp only[c,c2,X9.ok,pm,Lo,Lp]) al0))
  exact d S3 (hle:=klR [(0,.eq (.bb false) (.bb t1))] (al1 (by simp only[c,c2,X9.ok,pm,Lo,Lp]) al0))
 subst c;cases h;exact kR Z
def W3 (N:Nat)(a:Sl Up):Option Int:= ite (decide (32<(a.n:Int))) (some 11) (N3 N (λb (x1:Int)=>ite (decide (x1<(a.n:Int))) (ite ((0:Int)<=x1/\x1<(a.n:Int)) ((De N (a.g x1.toNat)).bind λy3=>ite (!y3) (some 14) (b (wrap .i64 (x1+1)))) none) (some 0)) 0)
theorem GV {a:Sl Up}{y:Int}(h:W3 N a=some y) :Uw S PP [.p (vSl 2 A0 a)] [] (pN y) ([]) []:=by
 unfold W3 at h;refine A1 Z func55 ?_;refine Ym Z h fun h=>?_;refine E2 Z S3 h (λx1=>kps [(10,pN x1)] [9,8] [] []) (λb x1 c h=>?_);apply kI Z h<;>intro h
 .obtain⟨c9,h⟩:=C4 h;refine kD Z h (Ur c9 Sp) (Ah7 Z Y) (λy3 h=>?_);refine Ym Z h fun h=>?_;exact c S3 h
 cases h;exact kR Z
def G3 (N:Nat)(a:Sl Up)(b:Sl Up):Option Bool:= ite ((a.n:Int) != (b.n:Int)) (some false) (N3 N (λc (x1:Int)=>ite (decide (x1<(a.n:Int))) (ite (((0:Int)<=x1/\x1<(a.n:Int))/\((0:Int)<=x1/\x1<(b.n:Int))) (ite ((((a.g x1.toNat).Plus==(b.g x1.toNat).Plus)&&((a.g x1.toNat).Minus==(b.g x1.toNat).Minus)) != true) (some false) (c (wrap .i64 (x1+1)))) none) (some true)) 0)
theorem BP {a:Sl Up}{b:Sl Up}{y:Bool}(h:G3 N a b=some y) :Uw S S2 [.p (vSl 2 A0 a),.p (vSl 2 A0 b)] [] (pB y) ([]) []:=by
 unfold G3 at h;refine A1 Z func104 ?_;refine Ym Z h fun h=>?_;refine E2 Z S3 h (λx1=>kps [(13,pN x1)] [12,1,0] [] []) (λc x1 d h=>?_);apply kI Z h<;>intro h
 .refine B4 Z S3 [2,3,6,7] ?_;obtain⟨c9,h⟩:=C4 h;refine D5 (Ur (Ur (Ur (Ur c9.1 Sp) c9.2) Sp) (by decide +kernel:Qx Tryz.prog A8=true)) ?_;refine Ym Z h fun h=>?_;exact d S3 h
 cases h;exact kR Z
def Z3 (N:Nat)(a:Sl Up)(b:Sl Up):Option Bool:= (G3 N a b).bind λy1=>some y1
theorem Ql {a:Sl Up}{b:Sl Up}{y:Bool}(h:Z3 N a b=some y) :Uw S PQ [.p (vSl 2 A0 a),.p (vSl 2 A0 b)] [] (pB y) ([]) []:=by unfold Z3 at h;refine A1 Z func66 ?_;refine kC Z h (BP Z Y) (λy1 h=>?_);cases h;exact kR Z
def T6 (N:Nat)(a:Up):Option Bool:= some (((F3 .and .u32 a.Plus a.Minus)==0)&&((shI .shr .u32 (F3 .or .u32 a.Plus a.Minus) 24)==0))
theorem GW {a:Up}{y:Bool}(h:T6 N a=some y) :Uw S Qf [.p (.agg (A0 a))] [] (pB y) ([]) []:=by
 unfold T6 at h;refine A1 Z func238 ?_;obtain⟨t1,c⟩:∃x:Bool,x=(((F3 .and .u32 a.Plus a.Minus)==0)&&((shI .shr .u32 (F3 .or .u32 a.Plus a.Minus) 24)==0)):=⟨_,rfl⟩;refine Ab8 Z S3 (A3 Z) 0 (λ_=>⟨[(2,pB t1)],[]⟩) (λd=>?_) ?_
 .refine Ip Z S3 (b:=(F3 .and .u32 a.Plus a.Minus)==0) (λc2=>?_) (λc2=>?_)
  .exact d (by decide:(0:Int)<=24) (hle:=klR [(0,.eq (.bb ((shI .shr .u32 (F3 .or .u32 a.Plus a.Minus) 24)==0)) (.bb t1))] (al1 (by simp only[c,c2,X9.ok,pm,Lo,Lp]) al0))
  exact d S3 (hle:=klR [(0,.eq (.bb false) (.bb t1))] (al1 (by simp only[c,c2,X9.ok,pm,Lo,Lp]) al0))
 subst c;cases h;exact kR Z
def U8 (N:Nat)(b:Int):Option (Nat->Int):= U1 N (λa (x1:Nat->Int) (x2:Int)=>ite (decide (x2<(wrap .i64 (b+1)))) (ite (((0:Int)<=x2/\((0:Int)<=x2/\x2<33))/\(0+x2.toNat*1)<33) (a (Zv x1 (0+x2.toNat*1) (shI .shl .u64 1 x2)) (wrap .i64 (x2+1))) none) (some x1)) (λ_=>0) 0
theorem Gl {a:Int}{y:Nat->Int}(h:U8 N a=some y) :Uw S Kf [pN a] [] (.p (.agg (cA 33 (pI .u64) y))) ([]) []:=by
 unfold U8 at h;refine A1 Z func315 ?_;refine E8 Z S3 h (λx1 x2=>kps [(7,pN x2)] [6,3,2] [(4000,.arr 33 (λi=>pI .u64 (x1 i))),(3000,.arr 33 (λi=>pI .u64 ((λ_=>0) i)))] []) (λb x1 x2 d h=>?_) (hle:=kl2 2 3 (Bv3 33 (pI .u64 0)) (Bv3 33 (pI .u64 0)));apply kI Z h<;>intro h
 .obtain⟨c4,h⟩:=C4 h;exact d c4 h (hle:=klR [(2,.fn 33 33 (λi=>[(λi=>ite (i=(0+x2.toNat*1)) (pI .u64 (shI .shl .u64 1 x2)) ((λi=>pI .u64 (x1 i)) i)) i]) (λi=>[pI .u64 (Zv x1 (0+x2.toNat*1) (shI .shl .u64 1 x2) i)]))] (al1 ⟨rfl,BK5 (c:=pI .u64) (v:=x1) (x:=shI .shl .u64 1 x2) (λ_ _=>rfl) rfl⟩ al0))
 obtain rfl:=A5 h;exact I9 Z (Ur rfl (H0 _ _):(0:Nat)=0/\(Fa 33 (λi=>pI .u64 (x1 i))).length=33) ⟨[(2,.reg 3000 0)],[(3000,.arr 33 (λi=>pI .u64 (x1 i)))]⟩ [] ⟨rfl,rfl,rfl⟩ (hle:=kl1 0 (PI 33 (λi=>pI .u64 (x1 i))))
def R5 (N:Nat)(p_x:Nat->Int)(b:Nat->Int):Option (Nat->Int):= U1 N (λa (x1:Nat->Int) (x2:Int)=>ite (decide (x2<33)) (ite (((0:Int)<=x2/\x2<33)/\(0+x2.toNat*1)<33) (ite (((((0:Int)<=x2/\x2<33)/\(0+x2.toNat*1)<33)/\((0:Int)<=x2/\x2<33))/\(0+x2.toNat*1)<33) (a (Zv x1 (0+x2.toNat*1) (F3 .or .u64 (x1 (0+x2.toNat*1)) (b (0+x2.toNat*1)))) (wrap .i64 (x2+1))) none) none) (some x1)) p_x 0
theorem GX {p_x:Nat->Int}{a:Nat->Int}{y:Nat->Int}(h:R5 N p_x a=some y) :Uw S GT [.reg 0 0,.reg 1 0] [.arr 33 (λi=>pI .u64 (p_x i)),.arr 33 (λi=>pI .u64 (a i))] (.tup []) ([.arr 33 (λi=>pI .u64 (y i)),.arr 33 (λi=>pI .u64 (a i))]) [true,true]:=by
 unfold R5 at h;refine A1 Z func313 ?_;refine E8 Z S3 h (λx1 x2=>kps [(7,pN x2)] [6,0] [(0,.arr 33 (λi=>pI .u64 (x1 i)))] [1]) (λb x1 x2 d h=>?_);apply kI Z h<;>intro h
 .refine Gb Z S3 ?_;refine dE h (λh=>?_);refine Gb Z S3 ?_;refine dE h (λh=>?_);exact d S3 h (hle:=klR [(2,.fn 33 33 (λi=>[(λi=>ite (i=(0+x2.toNat*1)) (pI .u64 (F3 .or .u64 (x1 (0+x2.toNat*1)) (a (0+x2.toNat*1)))) ((λi=>pI .u64 (x1 i)) i)) i]) (λi=>[pI .u64 (Zv x1 (0+x2.toNat*1) (F3 .or .u64 (x1 (0+x2.toNat*1)) (a (0+x2.toNat*1))) i)]))] (al1 ⟨rfl,BK5 (c:=pI .u64) (v:=x1) (x:=F3 .or .u64 (x1 (0+x2.toNat*1)) (a (0+x2.toNat*1))) (λ_ _=>rfl) rfl⟩ al0))
 obtain rfl:=A5 h;exact kO Z S3 [0,1]
def Bt (N:Nat)(b:Sl Up)(a:Int):Option Int:= ite ((decide (a<0))||(decide ((b.n:Int)<a))) (some 3) (some 0)
theorem Oa {c:Sl Up}{b:Int}{y:Int}(h:Bt N c b=some y) :Uw S NW [.p (vSl 2 A0 c),pN b] [] (pN y) ([]) []:=by
 unfold Bt at h;refine A1 Z func284 ?_;refine kB Z (A3 Z) S3 S3 5 (.o (.a (decide (b<0))) (.a (decide ((c.n:Int)<b)))) ?_;refine Ym Z h fun h=>?_;cases h;exact kR Z
def Cf (N:Nat)(a:Pat):Option Int:= ite (ite (a.Kind==0) (a.Kind==0) (ite (a.Kind==2) (a.Kind==2) (a.Kind==6))) (lt (λ(z1:Bool)=>ite z1 (some 2) ((T6 N a.Is).bind λy1=>ite (!y1) (some 14) (some 0))) λk1=>ite (((a.Is.Plus==0)&&(a.Is.Minus==0)) != true) (k1 true) (ite a.Not (k1 true) (ite (a.Min != 0) (k1 true) (ite (a.Max != 0) (k1 true) (k1 (decide (0<(a.L.n:Int)))))))) (ite (a.Kind==1) (lt (λ(z2:Bool)=>ite z2 (some 2) ((T6 N a.Is).bind λy2=>ite (!y2) (some 14) (some 0))) λk2=>ite (((0==0)&&(0==0)) != true) (k2 true) (ite (a.Min != 0) (k2 true) (ite (a.Max != 0) (k2 true) (k2 (decide (0<(a.L.n:Int))))))) (lt (λ(z3:Int×Int)=>ite (((((((a.Is.Plus==0)&&(a.Is.Minus==0)) != true)||a.Not)||(z3.1 != 0))||(z3.2 != 0))||(decide (0<0))) (some 2) ((T6 N a.Is).bind λy3=>ite (!y3) (some 14) (some 0))) λk3=>ite (ite (a.Kind==3) (a.Kind==3) (a.Kind==4)) (k3 (a.Min,a.Max)) (ite (a.Kind==5) (ite (((((a.L.n:Int) != 1)||(decide (a.Min<0)))||(decide (32<a.Min)))||((a.Max != (-1))&&((decide (a.Max<a.Min))||(decide (32<a.Max))))) (some 2) (k3 (0,0))) (some 2))))
theorem UP {c:Pat}{y:Int}(h:Cf N c=some y) :Uw S LZ [.p (.agg (C5 c))] [] (pN y) ([]) []:=by
 unfold Cf at h;refine A1 Z func220 ?_;obtain⟨t1,f⟩:∃x:Bool,x=(ite (c.Kind==0) (c.Kind==0) (ite (c.Kind==2) (c.Kind==2) (c.Kind==6))):=⟨_,rfl⟩;refine Ab8 Z S3 (A3 Z) 0 (λ_=>⟨[(8,pB t1),(7,pN c.Kind),(3,.reg 4000 0),(1,.reg 2000 0)],[(4000,.cells [pN 0,pU c.Is.Plus,pU c.Is.Minus,pB c.Not,pN c.Min,pN c.Max,.p (.sl false 7 c.L.n (CE c))]),(2000,.cells ((C5 c).map .p))]⟩) (λl=>?_) ?_
 .refine O0 Z S3 (b:=c.Kind==0) (λc3=>?_) (λc3=>?_)
  .exact l S3 (hle:=klR [(0,.eq (.bb (c.Kind==0)) (.bb t1))] (al1 (by simp only[f,c3,X9.ok,pm,Lo,Lp]) al0))
  refine O0 Z S3 (b:=c.Kind==2) (λc4=>?_) (λc4=>?_)
  .exact l S3 (hle:=klR [(0,.eq (.bb (c.Kind==2)) (.bb t1))] (al1 (by simp only[f,c3,c4,X9.ok,pm,Lo,Lp]) al0))
  exact l S3 (hle:=klR [(0,.eq (.bb (c.Kind==6)) (.bb t1))] (al1 (by simp only[f,c3,c4,X9.ok,pm,Lo,Lp]) al0))
 subst f;apply kI Z h<;>intro h
 .refine GN Z (by decide +kernel:Qx Tryz.prog A8=true) (A3 Z) h 0 (λz1=>kps [(57,pB z1)] [1] [] [2000]) (λk1 d h=>?_) (λz1 h=>?_)
  .refine kG Z h (λh=>?_) (λh=>?_)
   .exact d S3 h
   refine kG Z h (λh=>?_) (λh=>?_)
   .exact d S3 h
   refine kG Z h (λh=>?_) (λh=>?_)
   .exact d S3 h
   refine kG Z h (λh=>?_) (λh=>?_)
   .exact d S3 h
   refine I6 Z S3 79 (kps [(78,.p (vSl 7 C5 c.L))] [76,1] [(2000,.cells ((C5 c).map .p))] []) ?_ (hle:=klR [(0,.fn c.L.n c.L.n (CE c) (λi=>C5 (c.L.g i)))] (al1 ⟨rfl,P8 c⟩ al0));exact d S3 h
  refine Ym Z h fun h=>?_;refine kC Z h (GW Z Y) (λy1 h=>?_);refine Ym Z h fun h=>?_;cases h;exact kR Z
 apply kI Z h<;>intro h
 .refine GN Z (by decide +kernel:Qx Tryz.prog A8=true) (A3 Z) h 0 (λz2=>kps [(57,pB z2)] [1] [] [2000]) (λk2 j h=>?_) (λz2 h=>?_)
  .refine kG Z h (λh=>?_) (λh=>?_)
   .exact j S3 h
   refine Ip Z S3 (b:=false) (λc54=>?_) (λc54=>?_)
   .exact Bool.noConfusion ((rfl:false=false).symm.trans c54)
   refine kG Z h (λh=>?_) (λh=>?_)
   .exact j S3 h
   refine kG Z h (λh=>?_) (λh=>?_)
   .exact j S3 h
   refine I6 Z S3 79 (kps [(78,.p (vSl 7 C5 c.L))] [76,1] [(2000,.cells ((C5 c).map .p))] []) ?_ (hle:=klR [(0,.fn c.L.n c.L.n (CE c) (λi=>C5 (c.L.g i)))] (al1 ⟨rfl,P8 c⟩ al0));exact j S3 h
  refine Ym Z h fun h=>?_;refine kC Z h (GW Z Y) (λy2 h=>?_);refine Ym Z h fun h=>?_;cases h;exact kR Z
 obtain⟨t4,m⟩:∃x:Bool,x=(ite (c.Kind==3) (c.Kind==3) (c.Kind==4)):=⟨_,rfl⟩;refine Ab8 Z S3 (A3 Z) 0 (λ_=>⟨[(17,pB t4),(7,pN c.Kind),(3,.reg 4000 0),(1,.reg 2000 0)],[(4000,.cells [pN 0,pU c.Is.Plus,pU c.Is.Minus,pB c.Not,pN c.Min,pN c.Max,.p (.sl false 7 c.L.n (CE c))]),(2000,.cells ((C5 c).map .p))]⟩) (λq=>?_) ?_
 .refine O0 Z S3 (b:=c.Kind==3) (λc60=>?_) (λc60=>?_)
  .exact q S3 (hle:=klR [(0,.eq (.bb (c.Kind==3)) (.bb t4))] (al1 (by simp only[m,c60,X9.ok,pm,Lo,Lp]) al0))
  exact q S3 (hle:=klR [(0,.eq (.bb (c.Kind==4)) (.bb t4))] (al1 (by simp only[m,c60,X9.ok,pm,Lo,Lp]) al0))
 subst m;refine GN Z S3 (A3 Z) h 0 (λz3=>kps [] [3,1] [(4000,.cells [pN 0,pU c.Is.Plus,pU c.Is.Minus,pB c.Not,pN z3.1,pN z3.2,.p I1])] [2000]) (λk3 r h=>?_) (λz3 h=>?_)
 .apply kI Z h<;>intro h
  .exact r S3 h
  apply kI Z h<;>intro h
  .refine I6 Z S3 25 (kps [(24,.p (vSl 7 C5 c.L))] [3,1] [(4000,.cells [pN 0,pU c.Is.Plus,pU c.Is.Minus,pB c.Not,pN c.Min,pN c.Max,.p (.sl false 7 c.L.n (CE c))]),(2000,.cells ((C5 c).map .p))] []) ?_ (hle:=klR [(0,.fn c.L.n c.L.n (CE c) (λi=>C5 (c.L.g i)))] (al1 ⟨rfl,P8 c⟩ al0));refine kB Z (A3 Z) S3 S3 26 (.o (.o (.o (.a ((c.L.n:Int) != 1)) (.a (decide (c.Min<0)))) (.a (decide (32<c.Min)))) (.n (.a (c.Max != (-1))) (.o (.a (decide (c.Max<c.Min))) (.a (decide (32<c.Max)))))) ?_;refine Ym Z h fun h=>?_;exact r S3 h
  cases h;exact kR Z
 refine kB Z (A3 Z) (by decide +kernel:Qx Tryz.prog A8=true) S3 19 (.o (.o (.o (.o (.a (((c.Is.Plus==0)&&(c.Is.Minus==0)) != true)) (.a c.Not)) (.a (z3.1 != 0))) (.a (z3.2 != 0))) (.a (decide (0<0)))) ?_;refine Ym Z h fun h=>?_;refine kC Z h (GW Z Y) (λy3 h=>?_);refine Ym Z h fun h=>?_;cases h;exact kR Z
def Dw (rec:Pat->Int->Option Int)(N:Nat)(b:Pat)(a:Int):Option Int:= U1 N (λc (x1:Int) (x2:Int)=>ite ((decide (x2<(b.L.n:Int)))&&(decide (x1<=40))) (ite ((0:Int)<=x2/\x2<(b.L.n:Int)) ((rec (b.L.g x2.toNat) x1).bind λy3=>c y3 (wrap .i64 (x2+1))) none) (some x1)) (wrap .i64 (a+1)) 0
def CN:Nat->Pat->Int->Option Int
 |0=>λ_ _=>none
 |N+1=>Dw (CN N) N
theorem Ah8 {rec:Pat->Int->Option Int}(d:∀{b:Pat}{c:Int}{y:Int},rec b c=some y->Uw S Iv [.p (.agg (C5 b)),pN c] [] (pN y) ([]) []){b:Pat}{c:Int}{y:Int}(h:Dw rec N b c=some y) :Uw S Iv [.p (.agg (C5 b)),pN c] [] (pN y) ([]) []:=by
 unfold Dw at h;refine A1 Z func75 ?_;refine E8 Z S3 h (λx1 x2=>kps [(6,pN x2),(5,pN x1)] [2] [] [3000]) (λf x1 x2 j h=>?_);refine I6 Z S3 12 (kps [(11,.p (vSl 7 C5 b.L))] [9,6,5,2] [(3000,.cells ((C5 b).map .p))] []) ?_ (hle:=klR [(0,.fn b.L.n b.L.n (CE b) (λi=>C5 (b.L.g i)))] (al1 ⟨rfl,P8 b⟩ al0));refine kB Z (A3 Z) S3 S3 3 (.n (.a (decide (x2<(b.L.n:Int)))) (.a (decide (x1<=40)))) ?_;apply kI Z h<;>intro h
 .refine I6 Z S3 23 (kps [(21,.p (vSl 7 C5 b.L))] [22,6,5,2] [(3000,.cells ((C5 b).map .p))] []) ?_ (hle:=klR [(1,.fn b.L.n b.L.n (CE b) (λi=>C5 (b.L.g i)))] (al1 ⟨rfl,P8 b⟩ al0));obtain⟨c6,h⟩:=C4 h;obtain⟨y3,e3,h⟩:=E4 h;refine D6 Z [] (Ur c6 Sz) (d e3) ?_;exact j S3 h
 cases h;exact kR Z
theorem Aw2 {b:Pat}{a:Int}{y:Int}(h:CN N b a=some y) :Uw S Iv [.p (.agg (C5 b)),pN a] [] (pN y) ([]) []:=by
 induction N generalizing b a y with
 |zero=>cases (show (none:Option Int)=some y from h)
 |succ N ih=>exact Ah8 Z Y (λe=>ih e) h
def Eb (N:Nat)(a:Pat):Option Int:= (CN N a 0).bind λy1=>some y1
theorem OU {a:Pat}{y:Int}(h:Eb N a=some y) :Uw S Wc [.p (.agg (C5 a))] [] (pN y) ([]) []:=by unfold Eb at h;refine A1 Z func37 ?_;refine kC Z h (Aw2 Z Y) (λy1 h=>?_);cases h;exact kR Z
def AS (rec:Pat->Option Int)(N:Nat)(a:Pat):Option Int:= U1 N (λb (x1:Int) (x2:Int)=>ite (decide (x2<(a.L.n:Int))) (ite ((0:Int)<=x2/\x2<(a.L.n:Int)) ((rec (a.L.g x2.toNat)).bind λy3=>b (wrap .i64 (x1+y3)) (wrap .i64 (x2+1))) none) (some x1)) ((ite (a.Kind==5) 1 0):Int) 0
def Bu:Nat->Pat->Option Int
 |0=>λ_=>none
 |N+1=>AS (Bu N) N
theorem UQ {rec:Pat->Option Int}(d:∀{a:Pat}{y:Int},rec a=some y->Uw S Fw [.p (.agg (C5 a))] [] (pN y) ([]) []){a:Pat}{y:Int}(h:AS rec N a=some y) :Uw S Fw [.p (.agg (C5 a))] [] (pN y) ([]) []:=by
 unfold AS at h;refine A1 Z func74 ?_;obtain⟨t1,c⟩:∃x:Int,x=((ite (a.Kind==5) 1 0):Int):=⟨_,rfl⟩;refine Ab8 Z S3 (A3 Z) 0 (λ_=>⟨[(3,pN t1),(1,.reg 2000 0)],[(2000,.cells ((C5 a).map .p))]⟩) (λf=>?_) ?_
 .refine O0 Z S3 (b:=a.Kind==5) (λc2=>?_) (λc2=>?_)
  .exact f S3 (hle:=klR [(0,.eq (pI .i64 1) (pI .i64 t1))] (al1 (by simp only[c,c2,X9.ok,pm,Lo,Lp]) al0))
  exact f S3 (hle:=klR [(0,.eq (pI .i64 0) (pI .i64 t1))] (al1 (by simp only[c,c2,X9.ok,pm,Lo,Lp]) al0))
 subst c;refine E8 Z S3 h (λx1 x2=>kps [(4,pN x2),(3,pN x1)] [1] [] [2000]) (λj x1 x2 l h=>?_);refine I6 Z S3 11 (kps [(10,.p (vSl 7 C5 a.L))] [8,4,3,1] [(2000,.cells ((C5 a).map .p))] []) ?_ (hle:=klR [(0,.fn a.L.n a.L.n (CE a) (λi=>C5 (a.L.g i)))] (al1 ⟨rfl,P8 a⟩ al0));apply kI Z h<;>intro h
 .refine I6 Z S3 19 (kps [(17,.p (vSl 7 C5 a.L))] [18,15,4,1] [(2000,.cells ((C5 a).map .p))] []) ?_ (hle:=klR [(1,.fn a.L.n a.L.n (CE a) (λi=>C5 (a.L.g i)))] (al1 ⟨rfl,P8 a⟩ al0));obtain⟨c8,h⟩:=C4 h;obtain⟨y3,e3,h⟩:=E4 h;refine D6 Z [] (Ur c8 Sz) (d e3) ?_;exact l S3 h
 cases h;exact kR Z
theorem YB {a:Pat}{y:Int}(h:Bu N a=some y) :Uw S Fw [.p (.agg (C5 a))] [] (pN y) ([]) []:=by
 induction N generalizing a y with
 |zero=>cases (show (none:Option Int)=some y from h)
 |succ N ih=>exact UQ Z Y (λe=>ih e) h
def FF (N:Nat)(a:Sl Law):Option Int:= U1 N (λc (x3:Int) (x4:Int)=>ite ((decide (x4<(a.n:Int)))&&(decide (x4<=300))) (ite (((0:Int)<=x4/\x4<(a.n:Int))/\((0:Int)<=x4/\x4<(a.n:Int))) (U1 N (λb (x7:Int) (x8:Int)=>ite (decide (x8<((Sl.of [(a.g x4.toNat).Left,(a.g x4.toNat).Right]:Sl Pat).n:Int))) (ite ((0:Int)<=x8/\x8<((Sl.of [(a.g x4.toNat).Left,(a.g x4.toNat).Right]:Sl Pat).n:Int)) ((Eb N ((Sl.of [(a.g x4.toNat).Left,(a.g x4.toNat).Right]:Sl Pat).g x8.toNat)).bind λd=>ite (decide (d<=40)) ((Bu N ((Sl.of [(a.g x4.toNat).Left,(a.g x4.toNat).Right]:Sl Pat).g x8.toNat)).bind λf=>b (wrap .i64 (x7+f)) (wrap .i64 (x8+1))) (b x7 (wrap .i64 (x8+1)))) none) (c (ite (x3<x7) x7 x3) (wrap .i64 (x4+1)))) 0 0) none) (some x3)) 0 0
abbrev Ys:List PV:=[pI .i64 0,pI .u32 0,pI .u32 0,.v (.bool false),pI .i64 0,pI .i64 0,I1]
theorem AS1 {b:Sl Law}{y:Int}(h:FF N b=some y) :Uw S Wb [.p (vSl 18 B6 b)] [] (pN y) ([]) []:=by
 unfold FF at h;refine A1 Z func36 ?_;refine E8 Z S3 h (λx3 x4=>kps [(4,pN x4),(3,pN x3)] [0] [] []) (λd x3 x4 f h=>?_);refine kB Z (A3 Z) S3 S3 3 (.n (.a (decide (x4<(b.n:Int)))) (.a (decide (x4<=300)))) ?_;apply kI Z h<;>intro h
 .refine B4 Z S3 [2,4,7,9] ?_;obtain⟨c24,h⟩:=C4 h;refine O3 (Ur (Ur (Ur c24.1 (by decide:(7:Nat)<=17)) c24.2) (by decide:(7:Nat)<=10)) (x:=.sl true 7 2 (G9 Ys [(0,C5 (b.g x4.toNat).Left),(1,C5 (b.g x4.toNat).Right)])) ?_;refine D5 S3 ?_;refine E8 Z S3 h (λx7 x8 _=>⟨[(30,pN x8),(29,pN ((Sl.of [(b.g x4.toNat).Left,(b.g x4.toNat).Right]:Sl Pat).n:Int)),(28,.p (vSl 7 C5 (Sl.of [(b.g x4.toNat).Left,(b.g x4.toNat).Right]:Sl Pat))),(5,pN x7),(4,pN x4),(3,pN x3),(0,.p (vSl 18 B6 b))],[]⟩) (λi x7 x8 c h=>?_) (hle:=kl1 2 (AO5 C5 ([(b.g x4.toNat).Left,(b.g x4.toNat).Right]:List Pat) Ys));apply kI Z h<;>intro h
  .obtain⟨c32,h⟩:=C4 h;refine C7 Z (Ur c32 Sz) 34 8000 (C5 ((Sl.of [(b.g x4.toNat).Left,(b.g x4.toNat).Right]:Sl Pat).g x8.toNat)) ?_;refine kD Z h Sz (OU Z Y) (λj h=>?_);apply kI Z h<;>intro h
   .refine kD Z h Sz (YB Z Y) (λl h=>?_);exact c S3 h
   exact c S3 h
  exact f S3 h
 cases h;exact kR Z
def V7 (N:Nat)(q0:Int):Option (List (Int)):= N3 N (λa (x1:Int)=>ite (x1 != 0) ((I7 N x1).bind λy3=>ite ((0:Int)<=y3) (BI y3 (a (F3 .andNot .u64 x1 (shI .shl .u64 1 y3)))) none) (some [])) q0
theorem Fg {q0:Int}{L:List (Int)}(h:V7 N q0=some L) :FY S Ff [] [.reg 0 0] [.cells [.p (pI .u64 q0)]] (L.map (λ(x:Int)=>[pI .i64 x])):=by
 unfold V7 at h;refine Fv Z func288 ?_;refine DY Z S3 h (λx1 L1=>⟨[(1,.reg 0 0),(0,.yf 1)],[(1,.yld (L1.map (λ(x:Int)=>[pI .i64 x])) true),(0,.cells [.p (pI .u64 x1)])]⟩) (λc x1 L1 d h=>?_);apply kI Z h<;>intro h
 .refine kC Z h (Gj Z Y) (λy3 h=>?_);refine Gb Z S3 ?_;refine dE h (λh=>?_);obtain⟨L4,rfl,b⟩:=OL h;replace h:=b;refine DX Z S3 (ys:=(λ(x:Int)=>[pI .i64 x]) y3) (rest:=L4.map (λ(x:Int)=>[pI .i64 x])) ?_ ?_
  .refine kF Z ?_;exact d S3 h
  refine kT Z ?_;exact kO Z S3 (a:=.tup []) (objs:=[(.cells [.p (pI .u64 (F3 .andNot .u64 x1 (shI .shl .u64 1 y3)))]),.yld [] false]) [0,1] ⟨false,rfl,rfl,_,rfl⟩
 obtain rfl:=A5 h;exact kO Z S3 (a:=.tup []) (objs:=[(.cells [.p (pI .u64 x1)]),.yld [] true]) [0,1] ⟨true,rfl,rfl,_,rfl⟩
def Cg (N:Nat)(a:Int):Option (Int):= some a
theorem Hk {a:Int}{y:Int}(h:Cg N a=some y) :Uw S Mb [.p (pI .u64 a)] [] (.clo Ff [] [.reg 0 0]) ([.cells [.p (pI .u64 y)]]) []:=by unfold Cg at h;refine A1 Z func285 ?_;obtain rfl:=A5 h;exact kO Z S3 [2000]
def F7 (N:Nat)(p_x:Nat->Int)(c:Nat->Int):Option (Nat->Int):= U1 N (λa (x3:Nat->Int) (x4:Int)=>ite (decide (x4<33)) (ite (((0:Int)<=x4/\x4<33)/\(0+x4.toNat*1)<33) ((Cg N (p_x (0+x4.toNat*1))).bind λy3=>(V7 N y3).bind λL3=>T1 L3 (λb (x7:Int) (z3:Nat->Int)=>ite (((((((0:Int)<=x4/\x4<33)/\(0+x4.toNat*1)<33)/\((0:Int)<=x7/\x7<33))/\(0+x7.toNat*1)<33)/\((0:Int)<=x4/\x4<33))/\(0+x4.toNat*1)<33) (b (Zv z3 (0+x4.toNat*1) (F3 .or .u64 (z3 (0+x4.toNat*1)) (c (0+x7.toNat*1))))) none) (λ(z3:Nat->Int)=>a z3 (wrap .i64 (x4+1))) x3) none) (some x3)) (λ_=>0) 0
theorem X5 {p_x:Nat->Int}{b:Nat->Int}{y:Nat->Int}(h:F7 N p_x b=some y) :Uw S BO [.reg 0 0,.reg 1 0] [.arr 33 (λi=>pI .u64 (p_x i)),.arr 33 (λi=>pI .u64 (b i))] (.p (.agg (cA 33 (pI .u64) y))) ([.arr 33 (λi=>pI .u64 (p_x i)),.arr 33 (λi=>pI .u64 (b i))]) [true,true]:=by
 unfold F7 at h;refine A1 Z func316 ?_;refine E8 Z S3 h (λx3 x4=>kps [(10,pN x4)] [9,5,4,3] [(6000,.arr 33 (λi=>pI .u64 (x3 i))),(5000,.arr 33 (λi=>pI .u64 ((λ_=>0) i))),(4000,.cells [.reg 1 0]),(1,.arr 33 (λi=>pI .u64 (b i))),(0,.arr 33 (λi=>pI .u64 (p_x i)))] []) (λd x3 x4 f h=>?_) (hle:=kl2 1 2 (Bv3 33 (pI .u64 0)) (Bv3 33 (pI .u64 0)));apply kI Z h<;>intro h
 .refine G1 Z S3 [(2,.l [0]),(3,.l [0]),(4,.a [7000]),(5,.a [7000])] ?_;refine dE h (λh=>?_);refine C7 Z S3 16 7000 [pI .i64 x4] ?_;refine kC Z h (Hk Z Y) (λy3 h=>?_);obtain⟨L3,e6,h⟩:=E4 h;refine JH Z S3 [18000] [10,9,6,5,4,3] 905 (λz3=>⟨[(10,pN x4),(9,.reg 0 0),(6,.p (.ptr [pI .i64 x4])),(5,.reg 6000 0),(4,.reg 5000 0),(3,.reg 4000 0)],[(6000,.arr 33 (λi=>pI .u64 (z3 i))),(5000,.arr 33 (λi=>pI .u64 ((λ_=>0) i))),(4000,.cells [.reg 1 0]),(1,.arr 33 (λi=>pI .u64 (b i))),(0,.arr 33 (λi=>pI .u64 (p_x i)))]⟩) h (Fg Z Y e6) (λ_=>by kernel_rfl) (λ_=>by kernel_rfl) (λ_=>by kernel_rfl) (λ_=>by kernel_rfl) (λx7 g z3 j h=>?_) (λz3 h=>?_)
  .refine Nr Z S3 ?_;refine G1 Z S3 [(0,.n),(1,.l [6000]),(2,.l [6000]),(3,.l [4000]),(6,.l [1]),(7,.l [1]),(9,.l [6000]),(10,.a [6000])] ?_;refine dE h (λh=>?_);exact j S3 h (hle:=klR [(0,.fn 33 33 (λi=>[(λi=>ite (i=(0+x4.toNat*1)) (pI .u64 (F3 .or .u64 (z3 (0+x4.toNat*1)) (b (0+x7.toNat*1)))) ((λi=>pI .u64 (z3 i)) i)) i]) (λi=>[pI .u64 (Zv z3 (0+x4.toNat*1) (F3 .or .u64 (z3 (0+x4.toNat*1)) (b (0+x7.toNat*1))) i)]))] (al1 ⟨rfl,BK5 (c:=pI .u64) (v:=z3) (x:=F3 .or .u64 (z3 (0+x4.toNat*1)) (b (0+x7.toNat*1))) (λ_ _=>rfl) rfl⟩ al0))
  exact f S3 h
 obtain rfl:=A5 h;exact I9 Z (Ur rfl (H0 _ _):(0:Nat)=0/\(Fa 33 (λi=>pI .u64 (x3 i))).length=33) ⟨[(4,.reg 5000 0)],[(5000,.arr 33 (λi=>pI .u64 (x3 i))),(1,.arr 33 (λi=>pI .u64 (b i))),(0,.arr 33 (λi=>pI .u64 (p_x i)))]⟩ [0,1] ⟨rfl,rfl,rfl⟩ (hle:=kl1 0 (PI 33 (λi=>pI .u64 (x3 i))))
def M4 (N:Nat)(p_x:Nat->Int):Option (Nat->Int):= U1 N (λa (x3:Nat->Int) (x4:Int)=>ite (decide (x4<33)) (ite (((0:Int)<=x4/\x4<33)/\(0+x4.toNat*1)<33) ((Cg N (p_x (0+x4.toNat*1))).bind λy3=>(V7 N y3).bind λL3=>T1 L3 (λb (x7:Int) (z3:Nat->Int)=>ite (((((((0:Int)<=x4/\x4<33)/\(0+x4.toNat*1)<33)/\((0:Int)<=x7/\x7<33))/\(0+x7.toNat*1)<33)/\((0:Int)<=x4/\x4<33))/\(0+x4.toNat*1)<33) (b (Zv z3 (0+x4.toNat*1) (F3 .or .u64 (z3 (0+x4.toNat*1)) (p_x (0+x7.toNat*1))))) none) (λ(z3:Nat->Int)=>a z3 (wrap .i64 (x4+1))) x3) none) (some x3)) (λ_=>0) 0
theorem EM {p_x:Nat->Int}{y:Nat->Int}(h:M4 N p_x=some y) :Uw S BO [.reg 0 0,.reg 0 0] [.arr 33 (λi=>pI .u64 (p_x i))] (.p (.agg (cA 33 (pI .u64) y))) ([.arr 33 (λi=>pI .u64 (p_x i))]) [true]:=by
 unfold M4 at h;refine A1 Z func316 ?_;refine E8 Z S3 h (λx3 x4=>kps [(10,pN x4)] [9,5,4,3] [(6000,.arr 33 (λi=>pI .u64 (x3 i))),(5000,.arr 33 (λi=>pI .u64 ((λ_=>0) i))),(4000,.cells [.reg 0 0]),(0,.arr 33 (λi=>pI .u64 (p_x i)))] []) (λb x3 x4 d h=>?_) (hle:=kl2 1 2 (Bv3 33 (pI .u64 0)) (Bv3 33 (pI .u64 0)));apply kI Z h<;>intro h
 .refine G1 Z S3 [(2,.l [0]),(3,.l [0]),(4,.a [7000]),(5,.a [7000])] ?_;refine dE h (λh=>?_);refine C7 Z S3 16 7000 [pI .i64 x4] ?_;refine kC Z h (Hk Z Y) (λy3 h=>?_);obtain⟨L3,e6,h⟩:=E4 h;refine JH Z S3 [18000] [10,9,6,5,4,3] 905 (λz3=>⟨[(10,pN x4),(9,.reg 0 0),(6,.p (.ptr [pI .i64 x4])),(5,.reg 6000 0),(4,.reg 5000 0),(3,.reg 4000 0)],[(6000,.arr 33 (λi=>pI .u64 (z3 i))),(5000,.arr 33 (λi=>pI .u64 ((λ_=>0) i))),(4000,.cells [.reg 0 0]),(0,.arr 33 (λi=>pI .u64 (p_x i)))]⟩) h (Fg Z Y e6) (λ_=>by kernel_rfl) (λ_=>by kernel_rfl) (λ_=>by kernel_rfl) (λ_=>by kernel_rfl) (λx7 f z3 g h=>?_) (λz3 h=>?_)
  .refine Nr Z S3 ?_;refine G1 Z S3 [(0,.n),(1,.l [6000]),(2,.l [6000]),(3,.l [4000]),(6,.l [0]),(7,.l [0]),(9,.l [6000]),(10,.a [6000])] ?_;refine dE h (λh=>?_);exact g S3 h (hle:=klR [(0,.fn 33 33 (λi=>[(λi=>ite (i=(0+x4.toNat*1)) (pI .u64 (F3 .or .u64 (z3 (0+x4.toNat*1)) (p_x (0+x7.toNat*1)))) ((λi=>pI .u64 (z3 i)) i)) i]) (λi=>[pI .u64 (Zv z3 (0+x4.toNat*1) (F3 .or .u64 (z3 (0+x4.toNat*1)) (p_x (0+x7.toNat*1))) i)]))] (al1 ⟨rfl,BK5 (c:=pI .u64) (v:=z3) (x:=F3 .or .u64 (z3 (0+x4.toNat*1)) (p_x (0+x7.toNat*1))) (λ_ _=>rfl) rfl⟩ al0))
  exact d S3 h
 obtain rfl:=A5 h;exact I9 Z (Ur rfl (H0 _ _):(0:Nat)=0/\(Fa 33 (λi=>pI .u64 (x3 i))).length=33) ⟨[(4,.reg 5000 0)],[(5000,.arr 33 (λi=>pI .u64 (x3 i))),(0,.arr 33 (λi=>pI .u64 (p_x i)))]⟩ [0] ⟨rfl,rfl,rfl⟩ (hle:=kl1 0 (PI 33 (λi=>pI .u64 (x3 i))))
def G8 (N:Nat)(p_x:Nat->Int)(b:Int)(c:Int):Option (Nat->Int):= (U8 N c).bind λy1=>Bb8 N (λa (x1:Int) (x2:Nat->Int) (x3:Nat->Int)=>ite (decide (0<x1)) (ite ((F3 .and .i64 x1 1)==1) ((F7 N x3 x2).bind λy8=>(M4 N x2).bind λy9=>a (shI .shr .i64 x1 1) y9 y8) ((M4 N x2).bind λd=>a (shI .shr .i64 x1 1) d x3)) (some x3)) b p_x y1
theorem AT {p_x:Nat->Int}{a:Int}{b:Int}{y:Nat->Int}(h:G8 N p_x a b=some y) :Uw S EK [.p (.agg (cA 33 (pI .u64) p_x)),pN a,pN b] [] (.p (.agg (cA 33 (pI .u64) y))) ([]) []:=by
 unfold G8 at h;refine A1 Z func309 ?_;refine kC Z h (Gl Z Y) (λy1 h=>?_);refine Nq Z (Ur rfl (H0 _ _):(0:Nat)=0/\(Fa 33 (λi=>pI .u64 (y1 i))).length=33) h (λx1 x2 x3=>kps [(1,pN x1)] [7,6,3] [(8000,.arr 33 (λi=>pI .u64 (x3 i))),(7000,.arr 33 (λi=>pI .u64 ((λ_=>0) i))),(4000,.arr 33 (λi=>pI .u64 (x2 i)))] []) (λf x1 x2 x3 c h=>?_) (hle:=klR [(1,.fn 33 33 (λi=>[(λi=>(cA 33 (pI .u64) y1).getD i default) i]) (λi=>[pI .u64 (y1 i)])),(2,.fn 33 33 (λi=>[(λi=>(List.replicate 33 (pI .u64 0)).getD i default) i]) (λi=>[pI .u64 ((λ_=>0) i)])),(3,.fn 33 33 (λi=>[(λi=>(cA 33 (pI .u64) p_x).getD i default) i]) (λi=>[pI .u64 (p_x i)]))] (al1 ⟨rfl,Er 33 (λi=>pI .u64 (y1 i))⟩ (al1 ⟨rfl,RV (z:=pI .u64 0) rfl⟩ (al1 ⟨rfl,Er 33 (λi=>pI .u64 (p_x i))⟩ al0))));apply kI Z h<;>intro h
 .apply kI Z h<;>intro h
  .obtain⟨y8,e8,h⟩:=E4 h;refine D6 Z [8000,4000] S3 (X5 Z Y e8) ?_;obtain⟨y9,e9,h⟩:=E4 h;refine D6 Z [4000] (Ur rfl (H0 _ _):(0:Nat)=0/\(Fa 33 (λi=>pI .u64 (y8 i))).length=33) (EM Z Y e9) ?_;exact c (Ur (Ur rfl (H0 _ _):(0:Nat)=0/\(Fa 33 (λi=>pI .u64 (y9 i))).length=33) (by decide:(0:Int)<=1)) h (hle:=kl2 1 3 (PI 33 (λi=>pI .u64 (y8 i))) (PI 33 (λi=>pI .u64 (y9 i))))
  obtain⟨d,e10,h⟩:=E4 h;refine D6 Z [4000] S3 (EM Z Y e10) ?_;exact c (Ur (Ur rfl (H0 _ _):(0:Nat)=0/\(Fa 33 (λi=>pI .u64 (d i))).length=33) (by decide:(0:Int)<=1)) h (hle:=kl1 3 (PI 33 (λi=>pI .u64 (d i))))
 obtain rfl:=A5 h;exact I9 Z (Ur rfl (H0 _ _):(0:Nat)=0/\(Fa 33 (λi=>pI .u64 (x3 i))).length=33) ⟨[(6,.reg 7000 0)],[(7000,.arr 33 (λi=>pI .u64 (x3 i)))]⟩ [] ⟨rfl,rfl,rfl⟩ (hle:=kl1 0 (PI 33 (λi=>pI .u64 (x3 i))))
def AU (N:Nat)(p_x:Bd8)(b:Sl Up):Option (Nat->Int):= U1 N (λa (x1:Nat->Int) (x2:Int)=>ite (decide (x2<(b.n:Int))) (ite ((0:Int)<=x2/\x2<(b.n:Int)) (ite ((((F3 .or .u32 (F3 .andNot .u32 p_x.is.Plus (b.g x2.toNat).Plus) (F3 .andNot .u32 p_x.is.Minus (b.g x2.toNat).Minus))==0)==p_x.not) != true) (ite (((0:Int)<=(wrap .i64 (x2+1))/\((0:Int)<=x2/\x2<33))/\(0+x2.toNat*1)<33) (a (Zv x1 (0+x2.toNat*1) (shI .shl .u64 1 (wrap .i64 (x2+1)))) (wrap .i64 (x2+1))) none) (a x1 (wrap .i64 (x2+1)))) none) (some x1)) (λ_=>0) 0
theorem Tj {p_x:Bd8}{a:Sl Up}{y:Nat->Int}(h:AU N p_x a=some y) :Uw S Gi [.p (.agg (Bv5 p_x)),.p (vSl 2 A0 a)] [] (.p (.agg (cA 33 (pI .u64) y))) ([]) []:=by
 unfold AU at h;refine A1 Z func310 ?_;refine E8 Z S3 h (λx1 x2=>kps [(9,pN x2)] [8,7,4,2] [(5000,.arr 33 (λi=>pI .u64 (x1 i)))] [3000]) (λd x1 x2 b h=>?_) (hle:=kl1 3 (Bv3 33 (pI .u64 0)));apply kI Z h<;>intro h
 .obtain⟨c8,h⟩:=C4 h;refine kX Z (Ur c8 Sp) h (λh=>?_) (λh=>?_)
  .obtain⟨c10,h⟩:=C4 h;exact b c10 h (hle:=klR [(3,.fn 33 33 (λi=>[(λi=>ite (i=(0+x2.toNat*1)) (pI .u64 (shI .shl .u64 1 (wrap .i64 (x2+1)))) ((λi=>pI .u64 (x1 i)) i)) i]) (λi=>[pI .u64 (Zv x1 (0+x2.toNat*1) (shI .shl .u64 1 (wrap .i64 (x2+1))) i)]))] (al1 ⟨rfl,BK5 (c:=pI .u64) (v:=x1) (x:=shI .shl .u64 1 (wrap .i64 (x2+1))) (λ_ _=>rfl) rfl⟩ al0))
  exact b S3 h
 obtain rfl:=A5 h;exact I9 Z (Ur rfl (H0 _ _):(0:Nat)=0/\(Fa 33 (λi=>pI .u64 (x1 i))).length=33) ⟨[(4,.reg 5000 0)],[(5000,.arr 33 (λi=>pI .u64 (x1 i)))]⟩ [] ⟨rfl,rfl,rfl⟩ (hle:=kl1 0 (PI 33 (λi=>pI .u64 (x1 i))))
def Ci (N:Nat)(p_x:BL7)(a:Sl Up):Option (Nat->Int):= ite p_x.end_ (ite (((0:Int)<=(a.n:Int)/\((0:Int)<=(a.n:Int)/\(a.n:Int)<33))/\(0+(a.n:Int).toNat*1)<33) (some (Zv (λ_=>0) (0+(a.n:Int).toNat*1) (shI .shl .u64 1 (a.n:Int)))) none) (ite (((0:Int)<=0/\(0:Int)<33)/\(0+0*1)<33) (some (Zv (λ_=>0) (0+0*1) (shI .shl .u64 1 0))) none)
theorem UR {p_x:BL7}{a:Sl Up}{y:Nat->Int}(h:Ci N p_x a=some y) :Uw S Hj [.p (.agg (BL8 p_x)),.p (vSl 2 A0 a)] [] (.p (.agg (cA 33 (pI .u64) y))) ([]) []:=by
 unfold Ci at h;refine A1 Z func311 ?_;apply kI Z h<;>intro h
 .obtain⟨c2,h⟩:=C4 h;obtain rfl:=A5 h;exact I9 Z (Ur (Ur (Ur c2.1.1 c2.1.2) c2.2) (Ur rfl (H0 _ _):(0:Nat)=0/\(Fa 33 (λi=>ite (i=(0+(a.n:Int).toNat*1)) (pI .u64 (shI .shl .u64 1 (a.n:Int))) ((λi=>(List.replicate 33 (pI .u64 0)).getD i default) i))).length=33)) ⟨[(4,.reg 5000 0)],[(5000,.arr 33 (λi=>pI .u64 (Zv (λ_=>0) (0+(a.n:Int).toNat*1) (shI .shl .u64 1 (a.n:Int)) i)))]⟩ [] ⟨rfl,rfl,rfl⟩ (hle:=klR [(0,.fn 33 33 (λi=>[(λi=>(Fa 33 (λi=>ite (i=(0+(a.n:Int).toNat*1)) (pI .u64 (shI .shl .u64 1 (a.n:Int))) ((λi=>(List.replicate 33 (pI .u64 0)).getD i default) i))).getD i default) i]) (λi=>[pI .u64 (Zv (λ_=>0) (0+(a.n:Int).toNat*1) (shI .shl .u64 1 (a.n:Int)) i)]))] (al1 ⟨rfl,λi b=>(Er 33 (λi=>ite (i=(0+(a.n:Int).toNat*1)) (pI .u64 (shI .shl .u64 1 (a.n:Int))) ((λi=>(List.replicate 33 (pI .u64 0)).getD i default) i)) i b).trans (BK5 (c:=pI .u64) (v:=λ_=>0) (x:=shI .shl .u64 1 (a.n:Int)) (RV (z:=pI .u64 0) rfl) rfl i b)⟩ al0))
 obtain⟨c3,h⟩:=C4 h;obtain rfl:=A5 h;exact I9 Z (Ur (Ur (Ur (by decide:(0:Int)<=0) c3.1) c3.2) (Ur rfl (H0 _ _):(0:Nat)=0/\(Fa 33 (λi=>ite (i=(0+0*1)) (pI .u64 (shI .shl .u64 1 0)) ((λi=>(List.replicate 33 (pI .u64 0)).getD i default) i))).length=33)) ⟨[(4,.reg 5000 0)],[(5000,.arr 33 (λi=>pI .u64 (Zv (λ_=>0) (0+0*1) (shI .shl .u64 1 0) i)))]⟩ [] ⟨rfl,rfl,rfl⟩ (hle:=klR [(0,.fn 33 33 (λi=>[(λi=>(Fa 33 (λi=>ite (i=(0+0*1)) (pI .u64 (shI .shl .u64 1 0)) ((λi=>(List.replicate 33 (pI .u64 0)).getD i default) i))).getD i default) i]) (λi=>[pI .u64 (Zv (λ_=>0) (0+0*1) (shI .shl .u64 1 0) i)]))] (al1 ⟨rfl,λi b=>(Er 33 (λi=>ite (i=(0+0*1)) (pI .u64 (shI .shl .u64 1 0)) ((λi=>(List.replicate 33 (pI .u64 0)).getD i default) i)) i b).trans (BK5 (c:=pI .u64) (v:=λ_=>0) (x:=shI .shl .u64 1 0) (RV (z:=pI .u64 0) rfl) rfl i b)⟩ al0))
def Dx (rec:Part->(Sl Up)->Option (Nat->Int))(N:Nat)(p_x:Pseq)(b:Sl Up):Option (Nat->Int):= (U8 N (b.n:Int)).bind λy1=>U1 N (λa (x1:Nat->Int) (x2:Int)=>ite (decide (x2<(p_x.l.n:Int))) (ite ((0:Int)<=x2/\x2<(p_x.l.n:Int)) ((rec (p_x.l.g x2.toNat) b).bind λy6=>(F7 N x1 y6).bind λy7=>a y7 (wrap .i64 (x2+1))) none) (some x1)) y1 0
theorem YC {rec:Part->(Sl Up)->Option ((Nat->Int))}(a:∀{x:Part}{b0:(Sl Up)}{y:(Nat->Int)},rec x b0=some y->BW4 S Tryz.prog (JK x) "ablaut/pats.in" [(.p (vSl 2 A0 b0))] (.p (.agg (cA 33 (pI .u64) y)))){p_x:Pseq}{b:(Sl Up)}{y:(Nat->Int)}(h:Dx rec N p_x b=some y) :Uw S IA [(.p (.agg (BY5 p_x))),(.p (vSl 2 A0 b))] [] (.p (.agg (cA 33 (pI .u64) y))) ([]) []:=by
 unfold Dx at h;refine A1 Z func317 ?_;refine kC Z h (Gl Z Y) (λy1 h=>?_);refine E8 Z (Ur rfl (H0 _ _):(0:Nat)=0/\(Fa 33 (λi=>pI .u64 (y1 i))).length=33) h (λx1 x2=>kps [(15,(pN x2))] [14,13,5,4,1] [(6000,(.arr 33 (λi=>pI .u64 (x1 i)))),(5000,(.arr 33 (λi=>pI .u64 ((λ_=>0) i))))] []) (λc x1 x2 d h=>?_) (hle:=(kl2 4 5 (PI 33 (λi=>pI .u64 (y1 i))) (Bv3 33 (pI .u64 0))));apply kI Z h<;>intro h
 .obtain⟨c6,h⟩:=C4 h;obtain⟨y6,e6,h⟩:=E4 h;refine Rc Z c6 (a e6) ?_;refine Np Z (Ur rfl (H0 _ _):(0:Nat)=0/\(Fa 33 (λi=>pI .u64 (y6 i))).length=33) (kps [] [15,14,13,8,5,4,1] [(9000,(.arr 33 (λi=>pI .u64 (y6 i)))),(6000,(.arr 33 (λi=>pI .u64 (x1 i)))),(5000,(.arr 33 (λi=>pI .u64 ((λ_=>0) i))))] []) ?_ (hle:=(kl1 4 (PI 33 (λi=>pI .u64 (y6 i)))));obtain⟨y7,e7,h⟩:=E4 h;refine D6 Z [6000,9000] S3 (X5 Z Y e7) ?_;exact d (Ur rfl (H0 _ _):(0:Nat)=0/\(Fa 33 (λi=>pI .u64 (y7 i))).length=33) h (hle:=kl1 4 (PI 33 (λi=>pI .u64 (y7 i))))
 obtain rfl:=A5 h;exact I9 Z (Ur rfl (H0 _ _):(0:Nat)=0/\(Fa 33 (λi=>pI .u64 (x1 i))).length=33) ⟨[(4,(.reg 5000 0))],[(5000,(.arr 33 (λi=>pI .u64 (x1 i))))]⟩ [] ⟨rfl,rfl,rfl⟩ (hle:=(kl1 0 (PI 33 (λi=>pI .u64 (x1 i)))))
def Dy (rec:Part->(Sl Up)->Option (Nat->Int))(N:Nat)(p_x:Palt)(b:Sl Up):Option (Nat->Int):= U1 N (λa (x1:Nat->Int) (x2:Int)=>ite (decide (x2<(p_x.l.n:Int))) (ite ((0:Int)<=x2/\x2<(p_x.l.n:Int)) ((rec (p_x.l.g x2.toNat) b).bind λy5=>(R5 N x1 y5).bind λy6=>a y6 (wrap .i64 (x2+1))) none) (some x1)) (λ_=>0) 0
theorem YD {rec:Part->(Sl Up)->Option ((Nat->Int))}(a:∀{x:Part}{b0:(Sl Up)}{y:(Nat->Int)},rec x b0=some y->BW4 S Tryz.prog (JK x) "ablaut/pats.in" [(.p (vSl 2 A0 b0))] (.p (.agg (cA 33 (pI .u64) y)))){p_x:Palt}{b:(Sl Up)}{y:(Nat->Int)}(h:Dy rec N p_x b=some y) :Uw S Iy [(.p (.agg (BY2 p_x))),(.p (vSl 2 A0 b))] [] (.p (.agg (cA 33 (pI .u64) y))) ([]) []:=by
 unfold Dy at h;refine A1 Z func312 ?_;refine E8 Z S3 h (λx1 x2=>kps [(11,(pN x2))] [10,9,4,1] [(5000,(.arr 33 (λi=>pI .u64 (x1 i))))] []) (λc x1 x2 d h=>?_) (hle:=(kl1 4 (Bv3 33 (pI .u64 0))));apply kI Z h<;>intro h
 .obtain⟨c6,h⟩:=C4 h;obtain⟨y5,e5,h⟩:=E4 h;refine Rc Z c6 (a e5) ?_;refine Np Z (Ur rfl (H0 _ _):(0:Nat)=0/\(Fa 33 (λi=>pI .u64 (y5 i))).length=33) (kps [] [11,10,9,7,4,1] [(8000,(.arr 33 (λi=>pI .u64 (y5 i)))),(5000,(.arr 33 (λi=>pI .u64 (x1 i))))] []) ?_ (hle:=(kl1 4 (PI 33 (λi=>pI .u64 (y5 i)))));obtain⟨y6,e6,h⟩:=E4 h;refine D6 Z [5000,8000] S3 (GX Z Y e6) ?_;exact d S3 h
 obtain rfl:=A5 h;exact I9 Z (Ur rfl (H0 _ _):(0:Nat)=0/\(Fa 33 (λi=>pI .u64 (x1 i))).length=33) ⟨[(4,(.reg 5000 0))],[(5000,(.arr 33 (λi=>pI .u64 (x1 i))))]⟩ [] ⟨rfl,rfl,rfl⟩ (hle:=(kl1 0 (PI 33 (λi=>pI .u64 (x1 i)))))
def Dz (rec:Part->(Sl Up)->Option (Nat->Int))(N:Nat)(p_x:BY3)(a:Sl Up):Option (Nat->Int):= (rec p_x.of a).bind λy1=>(G8 N y1 p_x.min (a.n:Int)).bind λy2=>(U8 N (a.n:Int)).bind λy3=>(R5 N y1 y3).bind λy4=>ite (decide (p_x.max<0)) ((G8 N y4 (a.n:Int) (a.n:Int)).bind λy5=>(F7 N y2 y5).bind λy6=>some y6) ((G8 N y4 (wrap .i64 (p_x.max-p_x.min)) (a.n:Int)).bind λy7=>(F7 N y2 y7).bind λy8=>some y8)
theorem YE {rec:Part->(Sl Up)->Option ((Nat->Int))}(a:∀{x:Part}{b0:(Sl Up)}{y:(Nat->Int)},rec x b0=some y->BW4 S Tryz.prog (JK x) "ablaut/pats.in" [(.p (vSl 2 A0 b0))] (.p (.agg (cA 33 (pI .u64) y)))){p_x:BY3}{b:(Sl Up)}{y:(Nat->Int)}(h:Dz rec N p_x b=some y) :Uw S Iz [(.p (.agg (BY4 p_x))),(.p (vSl 2 A0 b))] [] (.p (.agg (cA 33 (pI .u64) y))) ([]) []:=by
 unfold Dz at h;refine A1 Z func314 ?_;obtain⟨y1,e1,h⟩:=E4 h;refine Rc Z S3 (a e1) ?_;refine Np Z (Ur rfl (H0 _ _):(0:Nat)=0/\(Fa 33 (λi=>pI .u64 (y1 i))).length=33) (kps [] [18,16,14,5,4,2,1] [(6000,(.arr 33 (λi=>pI .u64 (y1 i)))),(5000,(.arr 33 (λi=>pI .u64 ((λ_=>0) i)))),(3000,(.cells [(.p (JK p_x.of)),(pN p_x.min),(pN p_x.max)]))] []) ?_ (hle:=(klR [(2,.eq (.agg (Fa 33 (λi=>(cA 33 (pI .u64) y1).getD i default))) (.agg (cA 33 (pI .u64) y1))),(4,.fn 33 33 (λi=>[(λi=>(cA 33 (pI .u64) y1).getD i default) i]) (λi=>[pI .u64 (y1 i)])),(5,.fn 33 33 (λi=>[(λi=>(List.replicate 33 (pI .u64 0)).getD i default) i]) (λi=>[pI .u64 ((λ_=>0) i)]))] (al1 (congrArg PV.agg (AO2 (Er 33 (λi=>pI .u64 (y1 i))))) (al1 ⟨rfl,(Er 33 (λi=>pI .u64 (y1 i)))⟩ (al1 ⟨rfl,(RV (z:=pI .u64 0) rfl)⟩ al0)))));refine kC Z h (AT Z Y) (λy2 h=>?_);refine kD Z h (Ur (Ur rfl (H0 _ _):(0:Nat)=0/\(Fa 33 (λi=>pI .u64 (y2 i))).length=33) (Ur rfl (H0 _ _):(0:Nat)=0/\(Fa 33 (λi=>pI .u64 (y1 i))).length=33)) (Gl Z Y) (λy3 h=>?_);refine Np Z (Ur rfl (H0 _ _):(0:Nat)=0/\(Fa 33 (λi=>pI .u64 (y3 i))).length=33) (kps [] [8,7,6,4,2,1] [(9000,(.arr 33 (λi=>pI .u64 (y3 i)))),(8000,(.arr 33 (λi=>pI .u64 (y1 i)))),(7000,(.arr 33 (λi=>pI .u64 (y2 i)))),(5000,(.arr 33 (λi=>pI .u64 ((λ_=>0) i)))),(3000,(.cells [(.p (JK p_x.of)),(pN p_x.min),(pN p_x.max)]))] []) ?_ (hle:=(klR [(1,.fn 33 33 (λi=>[(λi=>(cA 33 (pI .u64) y3).getD i default) i]) (λi=>[pI .u64 (y3 i)])),(2,.fn 33 33 (λi=>[(λi=>(cA 33 (pI .u64) y1).getD i default) i]) (λi=>[pI .u64 (y1 i)])),(3,.fn 33 33 (λi=>[(λi=>(cA 33 (pI .u64) y2).getD i default) i]) (λi=>[pI .u64 (y2 i)]))] (al1 ⟨rfl,(Er 33 (λi=>pI .u64 (y3 i)))⟩ (al1 ⟨rfl,(Er 33 (λi=>pI .u64 (y1 i)))⟩ (al1 ⟨rfl,(Er 33 (λi=>pI .u64 (y2 i)))⟩ al0)))));obtain⟨y4,e4,h⟩:=E4 h;refine D6 Z [8000,9000] S3 (GX Z Y e4) ?_;apply kI Z h<;>intro h
 .refine kC Z h (AT Z Y) (λy5 h=>?_);refine Np Z (Ur rfl (H0 _ _):(0:Nat)=0/\(Fa 33 (λi=>pI .u64 (y5 i))).length=33) (kps [] [7,6,4] [(8000,(.arr 33 (λi=>pI .u64 (y5 i)))),(7000,(.arr 33 (λi=>pI .u64 (y2 i)))),(5000,(.arr 33 (λi=>pI .u64 ((λ_=>0) i))))] []) ?_ (hle:=(kl1 0 (PI 33 (λi=>pI .u64 (y5 i)))));obtain⟨y6,e6,h⟩:=E4 h;refine D6 Z [7000,8000] S3 (X5 Z Y e6) ?_;obtain rfl:=A5 h;exact I9 Z (Ur rfl (H0 _ _):(0:Nat)=0/\(Fa 33 (λi=>pI .u64 (y6 i))).length=33) ⟨[(4,(.reg 5000 0))],[(5000,(.arr 33 (λi=>pI .u64 (y6 i))))]⟩ [] ⟨rfl,rfl,rfl⟩ (hle:=(kl1 0 (PI 33 (λi=>pI .u64 (y6 i)))))
 refine kC Z h (AT Z Y) (λy7 h=>?_);refine Np Z (Ur rfl (H0 _ _):(0:Nat)=0/\(Fa 33 (λi=>pI .u64 (y7 i))).length=33) (kps [] [7,6,4] [(8000,(.arr 33 (λi=>pI .u64 (y7 i)))),(7000,(.arr 33 (λi=>pI .u64 (y2 i)))),(5000,(.arr 33 (λi=>pI .u64 ((λ_=>0) i))))] []) ?_ (hle:=(kl1 0 (PI 33 (λi=>pI .u64 (y7 i)))));obtain⟨y8,e8,h⟩:=E4 h;refine D6 Z [7000,8000] S3 (X5 Z Y e8) ?_;obtain rfl:=A5 h;exact I9 Z (Ur rfl (H0 _ _):(0:Nat)=0/\(Fa 33 (λi=>pI .u64 (y8 i))).length=33) ⟨[(4,(.reg 5000 0))],[(5000,(.arr 33 (λi=>pI .u64 (y8 i))))]⟩ [] ⟨rfl,rfl,rfl⟩ (hle:=(kl1 0 (PI 33 (λi=>pI .u64 (y8 i)))))
def Aj (rec:Pat->Option Part)(N:Nat)(a:Pat):Option Part:= U1 N (λb (x1:Sl Part) (x2:Int)=>ite (decide (x2<(a.L.n:Int))) (ite ((0:Int)<=x2/\x2<(a.L.n:Int)) ((rec (a.L.g x2.toNat)).bind λy3=>ite (Uq 16 (x1.n+(Sl.of [y3]:Sl Part).n)) (b (x1.push y3) (wrap .i64 (x2+1))) none) none) (ite (a.Kind==1) (some (Part.sound a.Is a.Not)) (ite (a.Kind==2) (some (Part.edge false)) (ite (a.Kind==6) (some (Part.edge true)) (ite (a.Kind==4) (some (Part.alt x1.n x1.g)) (ite (a.Kind==5) (ite (((0:Int)<=0/\0<(x1.n:Int))/\0<x1.n) (some (Part.rep (x1.g 0) a.Min a.Max)) none) (some (Part.seq x1.n x1.g)))))))) (Sl.nil:Sl Part) 0
def Cj:Nat->Pat->Option Part
 |0=>λ_=>none
 |N+1=>Aj (Cj N) N
theorem Tk {rec:Pat->Option Part}(b:∀{a:Pat}{y:Part},rec a=some y->Uw S Es [.p (.agg (C5 a))] [] (.p (JK y)) ([]) []){a:Pat}{y:Part}(h:Aj rec N a=some y) :Uw S Es [.p (.agg (C5 a))] [] (.p (JK y)) ([]) []:=by
 unfold Aj at h;refine A1 Z func287 ?_;refine C7 Z S3 2 2000 (C5 a) ?_;refine I6 Z S3 8 (kps [(7,.p (vSl 7 C5 a.L))] [3,1] [] []) ?_ (hle:=klR [(0,.fn a.L.n a.L.n (CE a) (λi=>C5 (a.L.g i)))] (al1 ⟨rfl,P8 a⟩ al0));refine E8 Z S3 h (λx1 x2 _=>⟨[(9,pN x2),(8,pN (a.L.n:Int)),(7,.p (vSl 7 C5 a.L)),(3,.vec 4500),(1,.p (.ptr (C5 a)))],[(4500,oV Av7 1 VV x1 false)]⟩) (λc x1 x2 d h=>?_);apply kI Z h<;>intro h
 .obtain⟨c6,h⟩:=C4 h;refine C7 Z (Ur c6 Sz) 13 6000 (C5 (a.L.g x2.toNat)) ?_;obtain⟨y3,e3,h⟩:=E4 h;refine D6 Z [] Sz (b e3) ?_;obtain⟨c7,h⟩:=C4 h;exact d (Ur Td c7) h (hle:=kl1 4 (O8 VV x1 y3 [.v .nilIface]))
 apply kI Z h<;>intro h
 .obtain rfl:=A5 h;exact Bc6 Z (by decide:(2:Nat)<=6) [] ⟨rfl,rfl,rfl⟩
 refine Ym Z h fun h=>?_;refine Ym Z h fun h=>?_;apply kI Z h<;>intro h
 .refine I6 Z S3 40 (λ_=>⟨[(39,.p (vSl 1 VV x1))],[]⟩) ?_;cases h;exact kR Z
 apply kI Z h<;>intro h
 .refine B4 Z S3 [4,6] ?_;refine dE h (λh=>?_);cases h;exact kR Z
 refine I6 Z S3 54 (λ_=>⟨[(53,.p (vSl 1 VV x1))],[]⟩) ?_;cases h;exact kR Z
theorem US {a:Pat}{y:Part}(h:Cj N a=some y) :Uw S Es [.p (.agg (C5 a))] [] (.p (JK y)) ([]) []:=by
 induction N generalizing a y with
 |zero=>cases (show (none:Option Part)=some y from h)
 |succ N ih=>exact Tk Z Y (λe=>ih e) h
def Ck:Nat->Part->Sl Up->Option (Nat->Int)
 |0=>λ_ _=>none
 |N+1=>λp w=>match p with
  |.nil=>none
  |.sound x no=>AU N ⟨x,no⟩ w
  |.edge e=>Ci N ⟨e⟩ w
  |.seq n g=>Dx (Ck N) N ⟨⟨n,g⟩⟩ w
  |.alt n g=>Dy (Ck N) N ⟨⟨n,g⟩⟩ w
  |.rep o mn mx=>Dz (Ck N) N ⟨o,mn,mx⟩ w
theorem Bf5 {N:Nat}{x:Part}{w:Sl Up}{y:Nat->Int}(h:Ck N x w=some y):BW4 S Tryz.prog (JK x) "ablaut/pats.in" [(.p (vSl 2 A0 w))] (.p (.agg (cA 33 (pI .u64) y))):=by
 induction N generalizing x w y with
 |zero=>cases h
 |succ N ih=>
  cases x with
  |nil=>cases h
  |sound s no=>exact⟨_,_,Gi,rfl,by kernel_rfl,Tj Z Y (p_x:=⟨s,no⟩) h⟩
  |edge e=>exact⟨_,_,Hj,rfl,by kernel_rfl,UR Z Y (N:=N) (p_x:=⟨e⟩) h⟩
  |seq n g=>exact⟨_,_,IA,rfl,by kernel_rfl,YC Z Y (λe=>ih e) (p_x:=⟨⟨n,g⟩⟩) h⟩
  |alt n g=>exact⟨_,_,Iy,rfl,by kernel_rfl,YD Z Y (λe=>ih e) (p_x:=⟨⟨n,g⟩⟩) h⟩
  |rep o mn mx=>exact⟨_,_,Iz,rfl,by kernel_rfl,YE Z Y (λe=>ih e) (p_x:=⟨o,mn,mx⟩) h⟩
def Y4 (N:Nat)(a:Up):Option Bool:= (T6 N a).bind λy1=>some (!y1)
theorem Tl {a:Up}{y:Bool}(h:Y4 N a=some y) :Uw S Kd [.p (.agg (A0 a))] [] (pB y) ([]) []:=by unfold Y4 at h;refine A1 Z func286 ?_;refine kC Z h (GW Z Y) (λy1 h=>?_);cases h;exact kR Z
def F6 (N:Nat)(a:Sl Up)(c:Up->Option Bool):Option Int:= N3 N (λb (x1:Int)=>ite (decide (x1<(a.n:Int))) (ite ((0:Int)<=x1/\x1<(a.n:Int)) ((c (a.g x1.toNat)).bind λy3=>ite y3 (some x1) (b (wrap .i64 (x1+1)))) none) (some (-1))) 0
theorem AE {a:Sl Up}{c:Up->Option Bool}{kp_f:Nat}(d:∀{a0:Up}{b:Bool},c a0=some b->Uw S kp_f [.p (.agg (A0 a0))] [] (pB b) [] []){y:Int}(h:F6 N a c=some y) :Uw S O5 [.p (vSl 2 A0 a),.clo kp_f [] []] [] (pN y) ([]) []:=by
 unfold F6 at h;refine A1 Z func222 ?_;refine E2 Z S3 h (λx1=>kps [(8,pN x1)] [7,1,0] [] []) (λf x1 g h=>?_);apply kI Z h<;>intro h
 .obtain⟨c8,h⟩:=C4 h;obtain⟨y3,e3,h⟩:=E4 h;refine D6 Z [] (Ur c8 Sp) (d e3) ?_;refine Ym Z h fun h=>?_;exact g S3 h
 cases h;exact kR Z
def C0 (N:Nat)(a:Sl Up)(b:Up->Option Bool):Option Bool:= (F6 N a b).bind λy1=>some (decide (0<=y1))
theorem N1 {a:Sl Up}{c:Up->Option Bool}{kp_f:Nat}(d:∀{a0:Up}{b:Bool},c a0=some b->Uw S kp_f [.p (.agg (A0 a0))] [] (pB b) [] []){y:Bool}(h:C0 N a c=some y) :Uw S N0 [.p (vSl 2 A0 a),.clo kp_f [] []] [] (pB y) ([]) []:=by unfold C0 at h;refine A1 Z func188 ?_;refine kC Z h (AE Z Y (λe=>d e)) (λy1 h=>?_);cases h;exact kR Z
def E3 (N:Nat)(q0:Sl Pat):Option (List (Int×Pat)):= N3 N (λa (x1:Int)=>ite (decide (0<=x1)) (ite ((0:Int)<=x1/\x1<(q0.n:Int)) (BI (x1,q0.g x1.toNat) (a (wrap .i64 (x1-1)))) none) (some [])) (wrap .i64 ((q0.n:Int)-1))
theorem Bv {q0:Sl Pat}{L:List (Int×Pat)}(h:E3 N q0=some L) :FY S J1 [] [.reg 0 0] [.cells [.p (vSl 7 C5 q0)]] (L.map (λ(x:Int×Pat)=>[pI .i64 x.1,(λx=>.agg (C5 x)) x.2])):=by
 unfold E3 at h;refine Fv Z func239 ?_;refine DY Z S3 h (λx1 L1=>⟨[(3,pN x1),(1,.reg 0 0),(0,.yf 1)],[(1,.yld (L1.map (λ(x:Int×Pat)=>[pI .i64 x.1,(λx=>.agg (C5 x)) x.2])) true),(0,.cells [.p (vSl 7 C5 q0)])]⟩) (λc x1 L1 d h=>?_);apply kI Z h<;>intro h
 .obtain⟨c10,h⟩:=C4 h;obtain⟨L4,rfl,b⟩:=OL h;replace h:=b;refine DX Z (Ur c10 Sz) (ys:=(λ(x:Int×Pat)=>[pI .i64 x.1,(λx=>.agg (C5 x)) x.2]) (x1,q0.g x1.toNat)) (rest:=L4.map (λ(x:Int×Pat)=>[pI .i64 x.1,(λx=>.agg (C5 x)) x.2])) ?_ ?_
  .refine kF Z ?_;exact d S3 h
  refine kT Z ?_;exact kO Z S3 (a:=.tup []) (objs:=[(.cells [.p (vSl 7 C5 q0)]),.yld [] false]) [0,1] ⟨false,rfl,rfl,_,rfl⟩
 obtain rfl:=A5 h;exact kO Z S3 (a:=.tup []) (objs:=[(.cells [.p (vSl 7 C5 q0)]),.yld [] true]) [0,1] ⟨true,rfl,rfl,_,rfl⟩
def K6 (N:Nat)(a:Sl Pat):Option (Sl Pat):= some a
theorem Cl {a:Sl Pat}{y:Sl Pat}(h:K6 N a=some y) :Uw S T4 [.p (vSl 7 C5 a)] [] (.clo J1 [] [.reg 0 0]) ([.cells [.p (vSl 7 C5 y)]]) []:=by unfold K6 at h;refine A1 Z func221 ?_;obtain rfl:=A5 h;exact kO Z S3 [2000]
def AW (N:Nat)(c:Pat):Option Int:= U1 N (λa (x3:Sl Pat) (x4:Int)=>ite (decide (0<(x3.n:Int))) (ite (x4==40) (some 12) (ite (((0:Int)<=(wrap .i64 ((x3.n:Int)-1))/\(wrap .i64 ((x3.n:Int)-1))<(x3.n:Int))/\(wrap .i64 ((x3.n:Int)-1)).toNat<x3.n) (ite ((0:Int)<=(wrap .i64 ((x3.n:Int)-1))/\(wrap .i64 ((x3.n:Int)-1))<=(x3.n:Int)) ((Cf N (x3.g (wrap .i64 ((x3.n:Int)-1)).toNat)).bind λy5=>ite (y5 != 0) (some y5) (ite ((0:Int)<=(ite (41<((x3.g (wrap .i64 ((x3.n:Int)-1)).toNat).L.n:Int)) 41 ((x3.g (wrap .i64 ((x3.n:Int)-1)).toNat).L.n:Int))/\(ite (41<((x3.g (wrap .i64 ((x3.n:Int)-1)).toNat).L.n:Int)) 41 ((x3.g (wrap .i64 ((x3.n:Int)-1)).toNat).L.n:Int))<=((x3.g (wrap .i64 ((x3.n:Int)-1)).toNat).L.n:Int)) ((K6 N ((x3.g (wrap .i64 ((x3.n:Int)-1)).toNat).L.take (ite (41<((x3.g (wrap .i64 ((x3.n:Int)-1)).toNat).L.n:Int)) 41 ((x3.g (wrap .i64 ((x3.n:Int)-1)).toNat).L.n:Int)).toNat)).bind λy6=>(E3 N y6).bind λL3=>T1 L3 (λb (x7:Int×Pat) (z3:Sl Pat)=>ite (((Uq 64 (z3.n+(Sl.of [Pat.nil]:Sl Pat).n))/\((0:Int)<=(z3.n:Int)/\(z3.n:Int)<((z3.push Pat.nil).n:Int)))/\(z3.n:Int).toNat<(z3.push Pat.nil).n) (b ((z3.push Pat.nil).upd (z3.n:Int).toNat x7.2)) none) (λ(z3:Sl Pat)=>a z3 (wrap .i64 (x4+1))) (x3.take (wrap .i64 ((x3.n:Int)-1)).toNat)) none)) none) none)) (some 0)) (Sl.of [c]:Sl Pat) 0
theorem Kg {b:Pat}{y:Int}(h:AW N b=some y) :Uw S Qd [.p (.agg (C5 b))] [] (pN y) ([]) []:=by
 unfold AW at h;refine A1 Z func187 ?_;refine C7 Z S3 2 2000 (C5 b) ?_;refine E8 Z (Ur Sz Td) h (λx3 x4=>kps [(4,pN x4)] [3] [(4501,oV HF 7 C5 x3 false),(4000,.cells [.vec 4501])] []) (λd x3 x4 j h=>?_) (hle:=kl1 1 (AO5 C5 ([b]:List Pat) Ys));apply kI Z h<;>intro h
 .refine Ym Z h fun h=>?_;obtain⟨c21,h⟩:=C4 h;refine C7 Z (Ur (Ur c21.1 Sz) c21.2) 25 6000 (C5 (x3.g (wrap .i64 ((x3.n:Int)-1)).toNat)) ?_;obtain⟨c22,h⟩:=C4 h;refine BW5 Z c22 30 4501 (wrap .i64 ((x3.n:Int)-1)).toNat 4508 (e:=HF) (k:=7) (N:=x3.n) (f:=λi=>C5 (x3.g i)) (by have q:=c22;omega) ?_;refine kD Z h Sz (UP Z Y) (λy5 h=>?_);refine Ym Z h fun h=>?_;refine I6 Z S3 39 (kps [(38,.p (vSl 7 C5 (x3.g (wrap .i64 ((x3.n:Int)-1)).toNat).L)),(36,.p (vSl 7 C5 (x3.g (wrap .i64 ((x3.n:Int)-1)).toNat).L))] [4,3] [(4508,.vec HF 7 (x3.take (wrap .i64 ((x3.n:Int)-1)).toNat).n (λi=>C5 ((x3.take (wrap .i64 ((x3.n:Int)-1)).toNat).g i)) false),(4000,.cells [.vec 4508])] []) ?_ (hle:=klR [(0,.fn (x3.g (wrap .i64 ((x3.n:Int)-1)).toNat).L.n (x3.g (wrap .i64 ((x3.n:Int)-1)).toNat).L.n (CE (x3.g (wrap .i64 ((x3.n:Int)-1)).toNat)) (λi=>C5 ((x3.g (wrap .i64 ((x3.n:Int)-1)).toNat).L.g i))),(1,.fn (x3.g (wrap .i64 ((x3.n:Int)-1)).toNat).L.n (x3.g (wrap .i64 ((x3.n:Int)-1)).toNat).L.n (CE (x3.g (wrap .i64 ((x3.n:Int)-1)).toNat)) (λi=>C5 ((x3.g (wrap .i64 ((x3.n:Int)-1)).toNat).L.g i)))] (al1 ⟨rfl,P8 (x3.g (wrap .i64 ((x3.n:Int)-1)).toNat)⟩ (al1 ⟨rfl,P8 (x3.g (wrap .i64 ((x3.n:Int)-1)).toNat)⟩ al0)));obtain⟨c24,h⟩:=C4 h;refine kD Z h c24 (Cl Z Y) (λy6 h=>?_);obtain⟨L3,e9,h⟩:=E4 h;refine JH Z S3 [44000] [4,3] 905 (λz3=>⟨[(4,pN x4),(3,.reg 4000 0)],[(4500,oV HF 7 C5 z3 false),(4000,.cells [.vec 4500])]⟩) h (Bv Z Y e9) (λ_=>by kernel_rfl) (λ_=>by kernel_rfl) (λ_=>by kernel_rfl) (λ_=>by kernel_rfl) (λx7 m z3 o h=>?_) (λz3 h=>?_)
  .refine Nr Z S3 ?_;refine XK Z S3 10000 (C5 x7.2) ?_;refine G1 Z S3 [(0,.l [4000]),(1,.n),(2,.l [4500]),(4,.a [51000,4500]),(5,.l [51000]),(6,.a [51000]),(7,.a [4000])] ?_;refine O3 Sz (x:=.sl true 7 1 (G9 Ys [(0,Ys)])) ?_;obtain⟨c27,h⟩:=C4 h;refine D5 (Ur (Ur c27.1.1 c27.1.2) (Ur (rfl:(7:Nat)=7) (Ur c27.2 Sz))) ?_;exact o S3 h (hle:=klR [(0,.fn (z3.n+1) ((z3.push Pat.nil).upd (z3.n:Int).toNat x7.2).n (λl=>ite (l=(z3.n:Int).toNat) (splice (DO z3.n (λi=>C5 (z3.g i)) (G9 Ys [(0,Ys)]) l) 0 [pI .i64 x7.2.Kind,pI .u32 x7.2.Is.Plus,pI .u32 x7.2.Is.Minus,.bb x7.2.Not,pI .i64 x7.2.Min,pI .i64 x7.2.Max,.sl false 7 x7.2.L.n (CE x7.2)]) ((DO z3.n (λi=>C5 (z3.g i)) (G9 Ys [(0,Ys)])) l)) (λi=>C5 (((z3.push Pat.nil).upd (z3.n:Int).toNat x7.2).g i)))] (al1 ⟨rfl,setH (c:=C5) (v:=z3.push Pat.nil) (x:=x7.2) (app1H (c:=C5) (v:=z3) (z:=Pat.nil) same rfl) (λ_=>by simp[DO,G9,splice])⟩ al0))
  exact j S3 h
 cases h;exact kR Z
def Bw (N:Nat)(b:Pat)(a:Sl Up):Option ((Nat->Int)×Int):= (AW N b).bind λy1=>ite (y1 != 0) (some (λ_=>0,y1)) (ite (decide (32<(a.n:Int))) (some (λ_=>0,11)) ((C0 N a (λ(u1:Up)=>Y4 N u1)).bind λy2=>ite y2 (some (λ_=>0,14)) ((Cj N b).bind λy3=>(Ck N y3 a).bind λy4=>some (y4,0))))
theorem Ob {a:Pat}{b:Sl Up}{y:(Nat->Int)×Int}(h:Bw N a b=some y) :Uw S NV [.p (.agg (C5 a)),.p (vSl 2 A0 b)] [] (.tup [.p (.agg (cA 33 (pI .u64) y.1)),pN y.2]) ([]) []:=by
 unfold Bw at h;refine A1 Z func283 ?_;refine kC Z h (Kg Z Y) (λy1 h=>?_);apply kI Z h<;>intro h
 .obtain rfl:=A5 h;exact I9 Z (Ur rfl (H0 _ _):(0:Nat)=0/\(Fa 33 (λi=>pI .u64 ((λ_=>0) i))).length=33) ⟨[(5,pN y1),(4,.reg 5000 0)],[(5000,.arr 33 (λi=>pI .u64 ((λ_=>0) i)))]⟩ [] ⟨rfl,rfl,rfl⟩ (hle:=kl1 1 (PI 33 (λi=>pI .u64 ((λ_=>0) i))))
 apply kI Z h<;>intro h
 .obtain rfl:=A5 h;exact I9 Z (Ur rfl (H0 _ _):(0:Nat)=0/\(Fa 33 (λi=>pI .u64 ((λ_=>0) i))).length=33) ⟨[(5,pN 11),(4,.reg 5000 0)],[(5000,.arr 33 (λi=>pI .u64 ((λ_=>0) i)))]⟩ [] ⟨rfl,rfl,rfl⟩ (hle:=kl1 1 (PI 33 (λi=>pI .u64 ((λ_=>0) i))))
 refine kC Z h (N1 Z Y (λe=>Tl Z Y e)) (λy2 h=>?_);apply kI Z h<;>intro h
 .obtain rfl:=A5 h;exact I9 Z (Ur rfl (H0 _ _):(0:Nat)=0/\(Fa 33 (λi=>pI .u64 ((λ_=>0) i))).length=33) ⟨[(5,pN 14),(4,.reg 5000 0)],[(5000,.arr 33 (λi=>pI .u64 ((λ_=>0) i)))]⟩ [] ⟨rfl,rfl,rfl⟩ (hle:=kl1 1 (PI 33 (λi=>pI .u64 ((λ_=>0) i))))
 refine kC Z h (US Z Y) (λy3 h=>?_);obtain⟨y4,e4,h⟩:=E4 h;refine Rc Z S3 (Bf5 Z Y e4) ?_;obtain rfl:=A5 h;exact I9 Z (Ur rfl (H0 _ _):(0:Nat)=0/\(Fa 33 (λi=>pI .u64 (y4 i))).length=33) ⟨[(5,pN 0),(4,.reg 5000 0)],[(5000,.arr 33 (λi=>pI .u64 (y4 i)))]⟩ [] ⟨rfl,rfl,rfl⟩ (hle:=kl1 1 (PI 33 (λi=>pI .u64 (y4 i))))
def DA (N:Nat)(d:Pat)(c:Sl Up)(a:Int):Option ((Sl Int)×Int):= (Bw N d c).bind λy1=>lt (λ(z1:Int)=>ite (z1 != 0) (some (Te,z1)) (U1 N (λb (x2:Sl Int) (x3:Int)=>ite (decide (x3<(wrap .i64 ((c.n:Int)+1)))) (ite ((((0:Int)<=x3/\x3<33)/\(0+x3.toNat*1)<33)/\(0:Int)<=a) (ite ((F3 .and .u64 (shI .shr .u64 (y1.1 (0+x3.toNat*1)) a) 1)==1) (ite (Uq 8 (x2.n+(Sl.of [x3]:Sl Int).n)) (b (x2.push x3) (wrap .i64 (x3+1))) none) (b x2 (wrap .i64 (x3+1)))) none) (some (x2,0))) Te 0)) λk1=>ite (y1.2==0) ((Bt N c a).bind λy3=>k1 y3) (k1 y1.2)
theorem YF {c:Pat}{b:Sl Up}{a:Int}{y:(Sl Int)×Int}(h:DA N c b a=some y) :Uw S NU [.p (.agg (C5 c)),.p (vSl 2 A0 b),pN a] [] (.tup [.vec 0,pN y.2]) ([oV C8 1 (cI .i64) y.1 true]) []:=by
 unfold DA at h;refine A1 Z func279 ?_;refine kC Z h (Ob Z Y) (λy1 h=>?_);refine GN Z (Ur rfl (H0 _ _):(0:Nat)=0/\(Fa 33 (λi=>pI .u64 (y1.1 i))).length=33) (A3 Z) h 0 (λz1=>kps [(9,pN z1)] [8,2,1] [(9000,.arr 33 (λi=>pI .u64 (y1.1 i)))] []) (λk1 d h=>?_) (λz1 h=>?_)
 .apply kI Z h<;>intro h
  .refine kC Z h (Oa Z Y) (λy3 h=>?_);exact d S3 h (hle:=kl1 3 (PI 33 (λi=>pI .u64 (y1.1 i))))
  exact d S3 h (hle:=kl1 3 (PI 33 (λi=>pI .u64 (y1.1 i))))
 apply kI Z h<;>intro h
 .obtain rfl:=A5 h;exact kO Z S3 [7700]
 refine E8 Z S3 h (λx2 x3=>kps [(29,pN x3),(28,pN (wrap .i64 ((b.n:Int)+1))),(10,.vec 11500),(8,.reg 9000 0),(2,pN a)] [] [(11500,oV C8 1 (cI .i64) x2 false)] [9000]) (λg x2 x3 f h=>?_);apply kI Z h<;>intro h
 .refine kJ Z h (λh=>?_) (λh=>?_)
  .obtain⟨c14,h⟩:=C4 h;exact f (Ur Td c14) h (hle:=kl1 3 (O8 (cI .i64) x2 x3 [pI .i64 0]))
  exact f S3 h
 obtain rfl:=A5 h;exact kO Z S3 [11500]
def J8 (N:Nat)(a:List (Int)):Option (Sl Int):= T1 a (λb (x1:Int) (z1:Sl Int)=>ite (Uq 8 (z1.n+(Sl.of [x1]:Sl Int).n)) (b (z1.push x1)) none) (λ(z1:Sl Int)=>some z1) Te
theorem EN {b:List (Int)}{a:Int}{kp_seq:Nat}(fp_seq:∃fn,Cd7[kp_seq]? = some fn/\fn.body.isSome=true/\(fn.name == "runtime.NumGoroutine")=false)(c:FY S kp_seq [] [.reg 0 0] [(.cells [(.p (pI .u64 a))])] (b.map (λ(x:Int)=>[(pI .i64) x]))){y:(Sl Int)}(h:J8 N b=some y) :Uw S R9 [(.p I1),(.clo kp_seq [] [(.reg 0 0)])] [(.cells [(.p (pI .u64 a))])] (.vec 0) ([(oV C8 1 (cI .i64) y true)]) [false]:=by
 unfold J8 at h;refine A1 Z func191 ?_;refine Rb Z S3 fp_seq [0] [2] 901 (λz1=>⟨[(2,(.reg 3000 0))],[(3500,(oV C8 1 (cI .i64) z1 false)),(3000,(.cells [(.vec 3500)]))]⟩) h c (λ_=>by kernel_rfl) (λ_=>by kernel_rfl) (λ_=>by kernel_rfl) (λ_=>by kernel_rfl) (λx1 d z1 f h=>?_) (λz1 h=>?_)
 .refine Nr Z S3 ?_;obtain⟨c1,h⟩:=C4 h;exact f (Ur Td c1) h (hle:=kl1 0 (O8 (cI .i64) z1 x1 [(pI .i64 0)]))
 obtain rfl:=A5 h;exact kO Z S3 [3500]
def Q3 (N:Nat)(a:List (Int)):Option (Sl Int):= (J8 N a).bind λy1=>some y1
theorem Kh {b:List (Int)}{a:Int}{kp_seq:Nat}(fp_seq:∃fn,Cd7[kp_seq]? = some fn/\fn.body.isSome=true/\(fn.name == "runtime.NumGoroutine")=false)(c:FY S kp_seq [] [.reg 0 0] [(.cells [(.p (pI .u64 a))])] (b.map (λ(x:Int)=>[(pI .i64) x]))){y:(Sl Int)}(h:Q3 N b=some y) :Uw S BK [(.clo kp_seq [] [(.reg 0 0)])] [(.cells [(.p (pI .u64 a))])] (.vec 0) ([(oV C8 1 (cI .i64) y true)]) [false]:=by unfold Q3 at h;refine A1 Z func141 ?_;obtain⟨y1,e1,h⟩:=E4 h;refine D6 Z [0] S3 (EN Z Y fp_seq c e1) ?_;obtain rfl:=A5 h;exact kO Z S3 [5000]
def Gm (N:Nat)(c:Pat)(b:Sl Up)(a:Int):Option ((Sl Int)×Int):= (Bw N c b).bind λy1=>lt (λ(z1:Int)=>ite (z1 != 0) (some (Te,z1)) (ite (((0:Int)<=a/\a<33)/\(0+a.toNat*1)<33) ((Cg N (y1.1 (0+a.toNat*1))).bind λy4=>(V7 N y4).bind λL1=>(Q3 N L1).bind λy5=>some (y5,0)) none)) λk1=>ite (y1.2==0) ((Bt N b a).bind λy3=>k1 y3) (k1 y1.2)
theorem Aw3 {b:Pat}{c:Sl Up}{a:Int}{y:(Sl Int)×Int}(h:Gm N b c a=some y) :Uw S SY [.p (.agg (C5 b)),.p (vSl 2 A0 c),pN a] [] (.tup [.vec 0,pN y.2]) ([oV C8 1 (cI .i64) y.1 true]) []:=by
 unfold Gm at h;refine A1 Z func280 ?_;refine kC Z h (Ob Z Y) (λy1 h=>?_);refine GN Z (Ur rfl (H0 _ _):(0:Nat)=0/\(Fa 33 (λi=>pI .u64 (y1.1 i))).length=33) (A3 Z) h 0 (λz1=>kps [(9,pN z1)] [8,2] [(9000,.arr 33 (λi=>pI .u64 (y1.1 i)))] []) (λk1 d h=>?_) (λz1 h=>?_)
 .apply kI Z h<;>intro h
  .refine kC Z h (Oa Z Y) (λy3 h=>?_);exact d S3 h (hle:=kl1 2 (PI 33 (λi=>pI .u64 (y1.1 i))))
  exact d S3 h (hle:=kl1 2 (PI 33 (λi=>pI .u64 (y1.1 i))))
 apply kI Z h<;>intro h
 .obtain rfl:=A5 h;exact kO Z S3 [7700]
 obtain⟨c5,h⟩:=C4 h;refine kD Z h c5 (Hk Z Y) (λy4 h=>?_);obtain⟨L1,e5,h⟩:=E4 h;obtain⟨y5,e6,h⟩:=E4 h;refine D6 Z [28000] S3 (Kh Z Y ⟨_,func288,by decide +kernel,by decide +kernel⟩ (Fg Z Y e5) e6) ?_;obtain rfl:=A5 h;exact kO Z S3 [29000]
def Ec (N:Nat)(a:Str):Option Bool:= lt (λ(z1:Bool)=>some z1) λk1=>ite ((a==[]) != true) (ite (decide ((a.length:Int)<=24)) ((At N a [97,98,99,100,101,102,103,104,105,106,107,108,109,110,111,112,113,114,115,116,117,118,119,120,121,122,65,66,67,68,69,70,71,72,73,74,75,76,77,78,79,80,81,82,83,84,85,86,87,88,89,90,48,49,50,51,52,53,54,55,56,57,45]).bind λy2=>k1 ((y2==[]) != false)) (k1 false)) (k1 false)
theorem Aw4 {b:Str}{y:Bool}(h:Ec N b=some y) :Uw S SM [.p (.str b)] [] (pB y) ([]) []:=by
 unfold Ec at h;refine A1 Z func186 ?_;refine GN Z S3 (A3 Z) h 0 (λz1 _=>⟨[(2,pB z1)],[]⟩) (λk1 a h=>?_) (λz1 h=>?_)
 .refine kG Z h (λh=>?_) (λh=>?_)
  .refine kG Z h (λh=>?_) (λh=>?_)
   .refine kC Z h (Md Z Y) (λy2 h=>?_);exact a S3 h
   exact a S3 h
  exact a S3 h
 cases h;exact kR Z
def Au (N:Nat)(p_x:EE)(a:Int):Option Bool:= lt (λ(z1:Bool)=>ite z1 (some false) (ite ((((F3 .andNot .u32 (F3 .or .u32 p_x.Clear p_x.Take) 16777215) != 0)||((F3 .and .u32 p_x.Clear (F3 .or .u32 p_x.Set.Plus p_x.Set.Minus)) != 0))||((F3 .and .u32 p_x.Take (F3 .or .u32 (F3 .or .u32 p_x.Set.Plus p_x.Set.Minus) p_x.Clear)) != 0)) (some false) (ite (p_x.Take==0) (some (p_x.Of==0)) (some ((decide (0<=p_x.Of))&&(decide (p_x.Of<a))))))) λk1=>ite (decide (p_x.From<(-1))) (k1 true) (ite (decide (a<=p_x.From)) (k1 true) ((H1 N p_x.Set).bind λy2=>k1 (!y2)))
theorem AS2 {p_x:EE}{b:Int}{y:Bool}(h:Au N p_x b=some y) :Uw S Wq [.p (.agg (Dd p_x)),pN b] [] (pB y) ([]) []:=by
 unfold Au at h;refine A1 Z func184 ?_;refine GN Z S3 (A3 Z) h 0 (λz1=>kps [(13,pB z1)] [5,2,1] [] [3000]) (λk1 c h=>?_) (λz1 h=>?_)
 .refine kG Z h (λh=>?_) (λh=>?_)
  .exact c S3 h
  refine kG Z h (λh=>?_) (λh=>?_)
  .exact c S3 h
  refine kC Z h (T2 Z Y) (λy2 h=>?_);exact c S3 h
 refine Ym Z h fun h=>?_;refine kB Z (A3 Z) S3 S3 16 (.o (.o (.a ((F3 .andNot .u32 (F3 .or .u32 p_x.Clear p_x.Take) 16777215) != 0)) (.a ((F3 .and .u32 p_x.Clear (F3 .or .u32 p_x.Set.Plus p_x.Set.Minus)) != 0))) (.a ((F3 .and .u32 p_x.Take (F3 .or .u32 (F3 .or .u32 p_x.Set.Plus p_x.Set.Minus) p_x.Clear)) != 0))) ?_;refine Ym Z h fun h=>?_;refine Ym Z h fun h=>?_;refine kB Z (A3 Z) S3 S3 5 (.n (.a (decide (0<=p_x.Of))) (.a (decide (p_x.Of<b)))) ?_;cases h;exact kR Z
def Bx (N:Nat)(p_x:EE)(q0:Int):Option Bool:= (Au N p_x q0).bind λy1=>some (!y1)
theorem YG {p_x:EE}{q0:Int}{y:Bool}(h:Bx N p_x q0=some y) :Uw S NP [.p (.agg (Dd p_x)),.reg 0 0] [.cells [pN q0]] (pB y) ([.cells [pN q0]]) [true]:=by unfold Bx at h;refine A1 Z func183 ?_;refine kC Z h (AS2 Z Y) (λy1 h=>?_);obtain rfl:=A5 h;exact kO Z S3 [0]
def By (N:Nat)(a:Up):Option Bool:= (H1 N a).bind λy1=>some (!y1)
theorem YH {a:Up}{y:Bool}(h:By N a=some y) :Uw S NQ [.p (.agg (A0 a))] [] (pB y) ([]) []:=by unfold By at h;refine A1 Z func185 ?_;refine kC Z h (T2 Z Y) (λy1 h=>?_);cases h;exact kR Z
def G4 (N:Nat)(a:Sl EE)(c:EE->Option Bool):Option Int:= N3 N (λb (x1:Int)=>ite (decide (x1<(a.n:Int))) (ite ((0:Int)<=x1/\x1<(a.n:Int)) ((c (a.g x1.toNat)).bind λy3=>ite y3 (some x1) (b (wrap .i64 (x1+1)))) none) (some (-1))) 0
theorem BQ {c:Sl EE}{d:EE->Option Bool}{a:Int}{kp_f:Nat}(f:∀{a0:EE}{b:Bool},d a0=some b->Uw S kp_f [.p (.agg (Dd a0)),.reg 0 0] [.cells [pN a]] (pB b) [.cells [pN a]] [true]){y:Int}(h:G4 N c d=some y) :Uw S S5 [.p (vSl 6 Dd c),.clo kp_f [] [.reg 0 0]] [.cells [pN a]] (pN y) ([.cells [pN a]]) [true]:=by
 unfold G4 at h;refine A1 Z func223 ?_;refine E2 Z S3 h (λx1=>kps [(8,pN x1)] [7,1,0] [] [0]) (λg x1 i h=>?_);apply kI Z h<;>intro h
 .obtain⟨c8,h⟩:=C4 h;obtain⟨y3,e3,h⟩:=E4 h;refine D6 Z [0] (Ur c8 (by decide:(6:Nat)<=6)) (f e3) ?_;apply kI Z h<;>intro h
  .obtain rfl:=A5 h;exact kO Z S3 [0]
  exact i S3 h
 obtain rfl:=A5 h;exact kO Z S3 [0]
def D3 (N:Nat)(a:Sl EE)(b:EE->Option Bool):Option Bool:= (G4 N a b).bind λy1=>some (decide (0<=y1))
theorem AI {c:Sl EE}{d:EE->Option Bool}{a:Int}{kp_f:Nat}(f:∀{a0:EE}{b:Bool},d a0=some b->Uw S kp_f [.p (.agg (Dd a0)),.reg 0 0] [.cells [pN a]] (pB b) [.cells [pN a]] [true]){y:Bool}(h:D3 N c d=some y) :Uw S P5 [.p (vSl 6 Dd c),.clo kp_f [] [.reg 0 0]] [.cells [pN a]] (pB y) ([.cells [pN a]]) [true]:=by unfold D3 at h;refine A1 Z func189 ?_;obtain⟨y1,e1,h⟩:=E4 h;refine D6 Z [0] S3 (BQ Z Y (λe=>f e) e1) ?_;obtain rfl:=A5 h;exact kO Z S3 [0]
def Z9 (N:Nat)(a:Law):Option Int:= (Ec N a.Name).bind λy1=>ite (!y1) (some 17) ((AW N a.Left).bind λy2=>ite (y2 != 0) (some 17) ((AW N a.Right).bind λy3=>ite (y3 != 0) (some 17) (ite (decide (4<(a.If.n:Int))) (some 17) (ite (decide (6<(a.Out.n:Int))) (some 17) (ite ((wrap .i64 ((a.If.n:Int)+(a.Out.n:Int)))==0) (some 17) (ite ((decide (a.Mode<1))||(decide (3<a.Mode))) (some 17) ((C0 N a.If (λ(u1:Up)=>By N u1)).bind λy4=>ite y4 (some 17) ((D3 N a.Out (λ(u2:EE)=>Bx N u2 (a.If.n:Int))).bind λy5=>ite y5 (some 17) (some 0)))))))))
theorem MG {c:Law}{y:Int}(h:Z9 N c=some y) :Uw S SF [.p (.agg (B6 c))] [] (pN y) ([]) []:=by
 unfold Z9 at h;refine A1 Z func135 ?_;refine kC Z h (Aw4 Z Y) (λy1 h=>?_);refine O0 Z S3 (b:=!y1) (λc1=>?_) (λc1=>?_)
 .replace h:=itT c1 h;refine O0 Z S3 (b:=!y1) (λc2=>?_) (λc2=>?_)
  .cases h;exact kR Z
  exact Bool.noConfusion (c1.symm.trans c2)
 replace h:=itF c1 h;refine kC Z h (Kg Z Y) (λy2 h=>?_);refine O0 Z S3 (b:=y2 != 0) (λc3=>?_) (λc3=>?_)
 .replace h:=itT c3 h;refine O0 Z S3 (b:=y2 != 0) (λc4=>?_) (λc4=>?_)
  .cases h;exact kR Z
  exact Bool.noConfusion (c3.symm.trans c4)
 replace h:=itF c3 h;refine kC Z h (Kg Z Y) (λy3 h=>?_);refine O0 Z S3 (b:=y3 != 0) (λc5=>?_) (λc5=>?_)
 .replace h:=itT c5 h;refine O0 Z S3 (b:=y3 != 0) (λc6=>?_) (λc6=>?_)
  .cases h;exact kR Z
  exact Bool.noConfusion (c5.symm.trans c6)
 replace h:=itF c5 h;refine O0 Z S3 (b:=decide (4<(c.If.n:Int))) (λc7=>?_) (λc7=>?_)
 .replace h:=itT c7 h;refine O0 Z S3 (b:=decide (4<(c.If.n:Int))) (λc8=>?_) (λc8=>?_)
  .cases h;exact kR Z
  exact Bool.noConfusion (c7.symm.trans c8)
 replace h:=itF c7 h;refine O0 Z S3 (b:=decide (6<(c.Out.n:Int))) (λc9=>?_) (λc9=>?_)
 .replace h:=itT c9 h;refine O0 Z S3 (b:=decide (6<(c.Out.n:Int))) (λc10=>?_) (λc10=>?_)
  .cases h;exact kR Z
  exact Bool.noConfusion (c9.symm.trans c10)
 replace h:=itF c9 h;refine O0 Z S3 (b:=(wrap .i64 ((c.If.n:Int)+(c.Out.n:Int)))==0) (λc11=>?_) (λc11=>?_)
 .replace h:=itT c11 h;refine O0 Z S3 (b:=(wrap .i64 ((c.If.n:Int)+(c.Out.n:Int)))==0) (λc12=>?_) (λc12=>?_)
  .cases h;exact kR Z
  exact Bool.noConfusion (c11.symm.trans c12)
 replace h:=itF c11 h;refine kB Z (A3 Z) S3 S3 4 (.o (.a (decide (c.Mode<1))) (.a (decide (3<c.Mode)))) ?_;refine O0 Z S3 (b:=(decide (c.Mode<1))||(decide (3<c.Mode))) (λc13=>?_) (λc13=>?_)
 .replace h:=itT c13 h;refine O0 Z S3 (b:=(decide (c.Mode<1))||(decide (3<c.Mode))) (λc14=>?_) (λc14=>?_)
  .cases h;exact kR Z
  exact Bool.noConfusion (c13.symm.trans c14)
 replace h:=itF c13 h;refine kC Z h (N1 Z Y (λe=>YH Z Y e)) (λy4 h=>?_);refine O0 Z S3 (b:=y4) (λc15=>?_) (λc15=>?_)
 .replace h:=itT c15 h;refine O0 Z S3 (b:=y4) (λc16=>?_) (λc16=>?_)
  .cases h;exact kR Z
  exact Bool.noConfusion (c15.symm.trans c16)
 replace h:=itF c15 h;obtain⟨y5,e5,h⟩:=E4 h;refine D6 Z [4000] S3 (AI Z Y (λe=>YG Z Y e) e5) ?_;refine Ym Z h fun h=>?_;cases h;exact kR Z
def IB (N:Nat)(a:Law)(b:Sl Up):Option Int:= (Z9 N a).bind λy1=>ite (y1 != 0) (some y1) ((W3 N b).bind λy2=>some y2)
theorem Aw5 {a:Law}{b:Sl Up}{y:Int}(h:IB N a b=some y) :Uw S SU [.p (.agg (B6 a)),.p (vSl 2 A0 b)] [] (pN y) ([]) []:=by
 unfold IB at h;refine A1 Z func251 ?_;refine kC Z h (MG Z Y) (λy1 h=>?_);refine Ym Z h fun h=>?_;refine kC Z h (GV Z Y) (λy2 h=>?_);cases h;exact kR Z
def Av (N:Nat)(a:Int)(q0:Law)(q1:Sl Up):Option Bool:= (DA N q0.Left q1 a).bind λy1=>ite ((y1.1.n:Int)==0) (some false) ((Gm N q0.Right q1 (wrap .i64 (a+(q0.If.n:Int)))).bind λy2=>some (decide (0<(y2.1.n:Int))))
theorem UT {a:Int}{q0:Law}{q1:Sl Up}{y:Bool}(h:Av N a q0 q1=some y) :Uw S Cd [pN a,.reg 0 0,.reg 1 0] [.cells ((B6 q0).map .p),.cells [.p (vSl 2 A0 q1)]] (pB y) ([.cells ((B6 q0).map .p),.cells [.p (vSl 2 A0 q1)]]) [true,true]:=by
 unfold Av at h;refine A1 Z func278 ?_;refine kC Z h (YF Z Y) (λy1 h=>?_);apply kI Z h<;>intro h
 .obtain rfl:=A5 h;exact kO Z S3 [0,1]
 refine kC Z h (Aw3 Z Y) (λy2 h=>?_);obtain rfl:=A5 h;exact kO Z S3 [0,1]
def Ki (N:Nat)(a:Law)(b:Sl Up):Option (Law×(Sl Up)):= some (a,b)
theorem Ah9 {a:Law}{b:Sl Up}{y:Law×(Sl Up)}(h:Ki N a b=some y) :Uw S Qi [.p (.agg (B6 a)),.p (vSl 2 A0 b)] [] (.clo Cd [] [.reg 0 0,.reg 1 0]) ([.cells ((B6 y.1).map .p),.cells [.p (vSl 2 A0 y.2)]]) []:=by unfold Ki at h;refine A1 Z func268 ?_;obtain rfl:=A5 h;exact kO Z S3 [3000,4000]
def Ak (N:Nat)(a:Law)(b:Sl Up):Option (Sl Up):= U1 N (λc (x1:Sl Up) (x2:Int)=>ite (decide (x2<(a.Out.n:Int))) (ite ((0:Int)<=x2/\x2<(a.Out.n:Int)) (ite ((decide (0<=(a.Out.g x2.toNat).From))=true->((0:Int)<=(a.Out.g x2.toNat).From/\(a.Out.g x2.toNat).From<(b.n:Int))) ((T5 N (⟨(ite (decide (0<=(a.Out.g x2.toNat).From)) ((b.g (a.Out.g x2.toNat).From.toNat).Plus) 0),(ite (decide (0<=(a.Out.g x2.toNat).From)) ((b.g (a.Out.g x2.toNat).From.toNat).Minus) 0)⟩:Up) (a.Out.g x2.toNat).Clear (a.Out.g x2.toNat).Set).bind λy5=>ite ((a.Out.g x2.toNat).Take != 0) (ite ((0:Int)<=(a.Out.g x2.toNat).Of/\(a.Out.g x2.toNat).Of<(b.n:Int)) ((Z2 N y5.1 (b.g (a.Out.g x2.toNat).Of.toNat) (a.Out.g x2.toNat).Take).bind λy6=>ite (Uq 8 (x1.n+(Sl.of [y6.1]:Sl Up).n)) (c (x1.push y6.1) (wrap .i64 (x2+1))) none) none) (ite (Uq 8 (x1.n+(Sl.of [y5.1]:Sl Up).n)) (c (x1.push y5.1) (wrap .i64 (x2+1))) none)) none) none) (some x1)) (Sl.nil:Sl Up) 0
theorem Ai0 {c:Law}{a:Sl Up}{y:Sl Up}(h:Ak N c a=some y) :Uw S Ag5 [.p (.agg (B6 c)),.p (vSl 2 A0 a)] [] (.p (vSl 2 A0 y)) ([]) []:=by
 unfold Ak at h;refine A1 Z func261 ?_;refine C7 Z S3 4 3000 (B6 c) ?_;refine E8 Z S3 h (λx1 x2 _=>⟨[(12,pN x2),(11,pN (c.Out.n:Int)),(10,.p (vSl 6 Dd c.Out)),(5,.vec 6500),(1,.p (vSl 2 A0 a))],[(6500,oV A8 2 A0 x1 false)]⟩) (λl x1 x2 i h=>?_);apply kI Z h<;>intro h
 .obtain⟨c16,h⟩:=C4 h;refine C7 Z (Ur c16 (by decide:(6:Nat)<=6)) 8 8000 (Dd (c.Out.g x2.toNat)) ?_;obtain⟨c18,h⟩:=C4 h;obtain⟨t5,d⟩:∃x:Int,x=(ite (decide (0<=(c.Out.g x2.toNat).From)) ((a.g (c.Out.g x2.toNat).From.toNat).Plus) 0):=⟨_,rfl⟩;obtain⟨t6,f⟩:∃x:Int,x=(ite (decide (0<=(c.Out.g x2.toNat).From)) ((a.g (c.Out.g x2.toNat).From.toNat).Minus) 0):=⟨_,rfl⟩;refine Ab8 Z S3 (A3 Z) 0 (kps [] [12,11,10,8,7,5,1] [(9000,.cells [pU t5,pU t6]),(6500,oV A8 2 A0 x1 false)] []) (λj=>?_) ?_
  .refine O0 Z S3 (b:=decide (0<=(c.Out.g x2.toNat).From)) (λc19=>?_) (λc19=>?_)
   .exact j (Ur (c18 c19) Sp) (hle:=klR [(5,.eq (pI .u32 (a.g (c.Out.g x2.toNat).From.toNat).Plus) (pI .u32 t5)),(6,.eq (pI .u32 (a.g (c.Out.g x2.toNat).From.toNat).Minus) (pI .u32 t6))] (al1 (by simp only[d,f,c19,X9.ok,pm,Lo,Lp]) (al1 (by simp only[d,f,c19,X9.ok,pm,Lo,Lp]) al0)))
   exact j S3 (hle:=klR [(5,.eq (pI .u32 0) (pI .u32 t5)),(6,.eq (pI .u32 0) (pI .u32 t6))] (al1 (by simp only[d,f,c19,X9.ok,pm,Lo,Lp]) (al1 (by simp only[d,f,c19,X9.ok,pm,Lo,Lp]) al0)))
  subst f;subst d;refine kD Z h (by decide:(2:Nat)<=4) (UO Z Y) (λy5 h=>?_);apply kI Z h<;>intro h
  .refine B4 Z S3 [3,4,5,7,8] ?_;obtain⟨c21,h⟩:=C4 h;refine dP h (Ur c21 Sp) (Ah6 Z Y) (λy6 h=>?_);refine D5 S3 ?_;obtain⟨c22,h⟩:=C4 h;exact i (Ur Td c22) h (hle:=kl1 4 (O8 A0 x1 y6.1 Yu))
  obtain⟨c23,h⟩:=C4 h;exact i (Ur Td c23) h (hle:=kl1 4 (O8 A0 x1 y5.1 Yu))
 obtain rfl:=A5 h;exact kO Z S3 []
def B9 (N:Nat)(a:Sl (Sl Up)):Option (Sl Up):= U1 N (λb (x1:Int) (x2:Int)=>ite (decide (x2<(a.n:Int))) (ite ((0:Int)<=x2/\x2<(a.n:Int)) (ite (decide ((wrap .i64 (x1+((a.g x2.toNat).n:Int)))<0)) none (b (wrap .i64 (x1+((a.g x2.toNat).n:Int))) (wrap .i64 (x2+1)))) none) ((K5 N x1).bind λy1=>U1 N (λc (x3:Sl Up) (x4:Int)=>ite (decide (x4<(a.n:Int))) (ite (((0:Int)<=x4/\x4<(a.n:Int))/\(Uq 8 (x3.n+(a.g x4.toNat).n))) (c (x3.app (a.g x4.toNat)) (wrap .i64 (x4+1))) none) (some x3)) y1 0)) 0 0
theorem R6 {a:Sl (Sl Up)}{y:Sl Up}(h:B9 N a=some y) :Uw S Q8 [.p (vSl 1 (cL 2 A0) a)] [] (.vec 0) ([oV A8 2 A0 y true]) []:=by
 unfold B9 at h;refine A1 Z func260 ?_;refine E8 Z S3 h (λx1 x2=>kps [(11,pN x2),(3,pN x1)] [10,9,0] [] []) (λb x1 x2 c h=>?_);apply kI Z h<;>intro h
 .refine kJ Z h (λh=>?_) (λh=>?_)
  .cases h
  exact c S3 h
 refine kC Z h (Ce Z Y) (λy1 h=>?_);refine E8 Z S3 h (λx3 x4 _=>⟨[(27,pN x4),(26,pN (a.n:Int)),(25,.p (vSl 1 (cL 2 A0) a)),(6,.vec 7500)],[(7500,oV A8 2 A0 x3 false)]⟩) (λd x3 x4 f h=>?_);apply kI Z h<;>intro h
 .obtain⟨c13,h⟩:=C4 h;exact f c13 h (hle:=kl1 3 (appS A0 x3 (a.g x4.toNat)))
 obtain rfl:=A5 h;exact kO Z S3 [7500]
def Bz (N:Nat)(b:Law)(c:Sl Up)(a:Int):Option (Sl Up):= ite (((0:Int)<=a/\a<=(c.n:Int))/\((0:Int)<=a/\a<=(wrap .i64 (a+(b.If.n:Int)))/\(wrap .i64 (a+(b.If.n:Int)))<=(c.n:Int))) ((Ak N b (c.sub a.toNat (wrap .i64 (a+(b.If.n:Int))).toNat)).bind λy1=>ite ((0:Int)<=(wrap .i64 (a+(b.If.n:Int)))/\(wrap .i64 (a+(b.If.n:Int)))<=(c.n:Int)) ((B9 N (Sl.of [c.take a.toNat,y1,c.drop (wrap .i64 (a+(b.If.n:Int))).toNat]:Sl (Sl Up))).bind λy2=>some y2) none) none
theorem Oc {c:Law}{b:Sl Up}{a:Int}{y:Sl Up}(h:Bz N c b a=some y) :Uw S NT [.p (.agg (B6 c)),.p (vSl 2 A0 b),pN a] [] (.vec 0) ([oV A8 2 A0 y true]) []:=by unfold Bz at h;refine A1 Z func263 ?_;refine C7 Z S3 6 4000 (B6 c) ?_;refine B4 Z S3 [3,8] ?_;obtain⟨c1,h⟩:=C4 h;refine dP h (Ur (Ur c1.1 Tc) c1.2) (Ai0 Z Y) (λy1 h=>?_);obtain⟨c2,h⟩:=C4 h;refine O3 c2 (x:=.sl true 1 3 (G9 [I1] [(0,cL 2 A0 (b.take a.toNat)),(1,cL 2 A0 y1),(2,cL 2 A0 (b.drop (wrap .i64 (a+(c.If.n:Int))).toNat))])) ?_;obtain⟨y2,e2,h⟩:=E4 h;refine GS [] S3 (Uw.le Z (args:=[.p (.sl true 1 3 (G9 [I1] [(0,cL 2 A0 (b.take a.toNat)),(1,cL 2 A0 y1),(2,cL 2 A0 (b.drop (wrap .i64 (a+(c.If.n:Int))).toNat))]))]) (by exact⟨Na rfl (λi d=>match i,d with|0,_=>rfl|1,_=>rfl|2,_=>rfl|_+3,d=>Ke d (by omega)),trivial⟩) (R6 Z Y e2)) ?_;refine D5 S3 ?_;obtain rfl:=A5 h;exact kO Z S3 [27000]
def AX (N:Nat)(q0:Law)(q1:Sl Up)(q2:Int):Option (List (Int)):= (Ki N q0 q1).bind λy1=>N3 N (λa (x2:Int)=>ite (decide ((wrap .i64 (x2+(q0.If.n:Int)))<=(q1.n:Int))) (N3 N (λb (x4:Int)=>ite (decide (x4<(q0.If.n:Int))) (ite ((0:Int)<=x4/\x4<(q0.If.n:Int)) (ite ((0:Int)<=(wrap .i64 (x2+x4))/\(wrap .i64 (x2+x4))<(q1.n:Int)) ((P0 N (q1.g (wrap .i64 (x2+x4)).toNat) (q0.If.g x4.toNat)).bind λc=>ite (!c) (a (wrap .i64 (x2+1))) (b (wrap .i64 (x4+1)))) none) none) ((Av N x2 y1.1 y1.2).bind λd=>ite d (BI x2 (a (wrap .i64 (x2+1)))) (a (wrap .i64 (x2+1))))) 0) (some [])) q2
theorem Qm {q0:Law}{q1:Sl Up}{q2:Int}{L:List (Int)}(h:AX N q0 q1 q2=some L) :FY S Kb [] [.reg 0 0,.reg 1 0,.reg 2 0] [.cells ((B6 q0).map .p),.cells [.p (vSl 2 A0 q1)],.cells [pN q2]] (L.map (λ(x:Int)=>[pI .i64 x])):=by
 unfold AX at h;refine Fv Z func267 ?_;refine kC Z h (Ah9 Z Y) (λy1 h=>?_);refine DY Z S3 h (λx2 L1=>⟨[(6,pN x2),(5,.clo Cd [] [.reg 12000 0,.reg 12001 0]),(2,.reg 1 0),(1,.reg 0 0),(0,.yf 3)],[(12001,.cells [.p (vSl 2 A0 y1.2)]),(12000,.cells ((B6 y1.1).map .p)),(3,.yld (L1.map (λ(x:Int)=>[pI .i64 x])) true),(2,.cells [pN q2]),(1,.cells [.p (vSl 2 A0 q1)]),(0,.cells ((B6 q0).map .p))]⟩) (λd x2 L1 b h=>?_);apply kI Z h<;>intro h
 .refine DY Z S3 h (λx4 L8=>⟨[(26,pN x4),(25,pN (q0.If.n:Int)),(24,.p (vSl 2 A0 q0.If)),(6,pN x2),(5,.clo Cd [] [.reg 12000 0,.reg 12001 0]),(2,.reg 1 0),(1,.reg 0 0),(0,.yf 3)],[(12001,.cells [.p (vSl 2 A0 y1.2)]),(12000,.cells ((B6 y1.1).map .p)),(3,.yld (L8.map (λ(x:Int)=>[pI .i64 x])) true),(2,.cells [pN q2]),(1,.cells [.p (vSl 2 A0 q1)]),(0,.cells ((B6 q0).map .p))]⟩) (λf x4 L8 i h=>?_);apply kI Z h<;>intro h
  .obtain⟨c47,h⟩:=C4 h;refine XK Z (Ur c47 Sp) 9000 [pI .u32 (q0.If.g x4.toNat).Plus,pI .u32 (q0.If.g x4.toNat).Minus] ?_;refine B4 Z S3 [4,5,6,7] ?_;obtain⟨c48,h⟩:=C4 h;refine dP h (Ur (Ur c48 Sp) Sp) (OT Z Y) (λj h=>?_);refine D5 S3 ?_;apply kI Z h<;>intro h
   .exact b S3 h
   exact i S3 h
  obtain⟨l,e13,h⟩:=E4 h;refine D6 Z [12000,12001] S3 (UT Z Y e13) ?_;refine kG Z h (λh=>?_) (λh=>?_)
  .obtain⟨L10,rfl,c⟩:=OL h;replace h:=c;refine DX Z S3 (ys:=(λ(x:Int)=>[pI .i64 x]) x2) (rest:=L10.map (λ(x:Int)=>[pI .i64 x])) ?_ ?_
   .refine kF Z ?_;exact b S3 h
   refine kT Z ?_;exact kO Z S3 (a:=.tup []) (objs:=[(.cells ((B6 q0).map .p)),.cells [.p (vSl 2 A0 q1)],.cells [pN q2],.yld [] false]) [0,1,2,3] ⟨false,rfl,rfl,_,rfl⟩
  exact b S3 h
 obtain rfl:=A5 h;exact kO Z S3 (a:=.tup []) (objs:=[(.cells ((B6 q0).map .p)),.cells [.p (vSl 2 A0 q1)],.cells [pN q2],.yld [] true]) [0,1,2,3] ⟨true,rfl,rfl,_,rfl⟩
def KZ (N:Nat)(b:Law)(c:Sl Up)(a:Int):Option (Law×(Sl Up)×Int):= some (b,c,a)
theorem WC {b:Law}{c:Sl Up}{a:Int}{y:Law×(Sl Up)×Int}(h:KZ N b c a=some y) :Uw S Ww [.p (.agg (B6 b)),.p (vSl 2 A0 c),pN a] [] (.clo Kb [] [.reg 0 0,.reg 1 0,.reg 2 0]) ([.cells ((B6 y.1).map .p),.cells [.p (vSl 2 A0 y.2.1)],.cells [pN y.2.2]]) []:=by unfold KZ at h;refine A1 Z func259 ?_;obtain rfl:=A5 h;exact kO Z S3 [4000,5000,6000]
def HG (N:Nat)(b:Law)(c:Sl Up)(a:Int):Option Bool:= (KZ N b c a).bind λy1=>(AX N y1.1 y1.2.1 y1.2.2).bind λL1=>T1 L1 (λd (x1:Int) (_:Unit)=>some (x1==a)) (λ(_:Unit)=>some false) ()
theorem Ai1 {b:Law}{c:Sl Up}{a:Int}{y:Bool}(h:HG N b c a=some y) :Uw S Ag6 [.p (.agg (B6 b)),.p (vSl 2 A0 c),pN a] [] (pB y) ([]) []:=by
 unfold HG at h;refine A1 Z func262 ?_;refine kC Z h (WC Z Y) (λy1 h=>?_);obtain⟨L1,e2,h⟩:=E4 h;refine JH Z S3 [12000,12001,12002] [6,5] 901 (λ_=>⟨[(6,.reg 7000 0),(5,.reg 6000 0)],[(7000,.cells [.p (.v (.bool false))]),(6000,.cells [pN a])]⟩) h (Qm Z Y e2) (λ_=>by kernel_rfl) (λ_=>by kernel_rfl) (λ_=>by kernel_rfl) (λ_=>by kernel_rfl) (λx1 d _ f h=>?_) (λ_ h=>?_)
 .refine Nr Z S3 ?_;refine XN Z S3 ⟨[(6,.reg 7000 0),(5,.reg 6000 0)],[(7000,.cells [pB (x1==a)]),(6000,.cells [pN a])]⟩ ?_;cases h;exact kR Z
 cases h;exact kR Z
abbrev Ai2:=List (Int×Sl Up)
abbrev AllS:=Sl Up×Int×Int
def Cd0 (N:Nat)(l:Law)(q2 q3:Int)(q0:Sl Up)(a:AllS->Option Ai2)(x1:Int)(z1:AllS):Option Ai2:= ite (decide (x1<z1.2.1)) (a (z1.1,z1.2.1,z1.2.2)) (ite (((0:Int)<=(wrap .i64 (x1+z1.2.2))/\(wrap .i64 (x1+z1.2.2))<=(z1.1.n:Int))/\((0:Int)<=x1/\x1<=(wrap .i64 (x1+q2))/\(wrap .i64 (x1+q2))<=(q0.n:Int))) ((Ak N l (q0.sub x1.toNat (wrap .i64 (x1+q2)).toNat)).bind λy6=>ite ((0:Int)<=(wrap .i64 (x1+q2))/\(wrap .i64 (x1+q2))<=(q0.n:Int)) ((B9 N (Sl.of [z1.1.take (wrap .i64 (x1+z1.2.2)).toNat,y6,q0.drop (wrap .i64 (x1+q2)).toNat]:Sl (Sl Up))).bind λy7=>BI (x1,y7) (a (y7,wrap .i64 (x1+(ite (q2<1) 1 q2)),wrap .i64 ((wrap .i64 (z1.2.2+q3))-q2)))) none) none)
def BS0 (N:Nat)(l:Law)(q2 q3:Int)(a:Sl Up->Int->Option Ai2)(x5:Sl Up)(x6:Int):Option Ai2:= ite (decide ((wrap .i64 (x6+q2))<=(x5.n:Int))) ((HG N l x5 x6).bind λc=>ite (!c) (a x5 (wrap .i64 (x6+1))) ((Bz N l x5 x6).bind λb=>BI (x6,b) (ite (q2==0) (a b (wrap .i64 ((wrap .i64 (x6+q3))+1))) (a b (wrap .i64 (x6+q3)))))) (some [])
def BY8 (N:Nat)(l:Law)(q2:Int)(a:Sl Up->Int->Option Ai2)(x7:Sl Up)(x8:Int):Option Ai2:= ite (decide (0<=x8)) ((HG N l x7 x8).bind λc=>ite (!c) (a x7 (wrap .i64 (x8-1))) ((Bz N l x7 x8).bind λb=>BI (x8,b) (a b (wrap .i64 (x8-(ite (q2<1) 1 q2)))))) (some [])
def Ed (N:Nat)(q0:Sl Up)(q1:Law)(q2:Int)(q3:Int):Option (List (Int×(Sl Up))):= ite (q1.Mode==1) ((KZ N q1 q0 0).bind λy1=>(AX N y1.1 y1.2.1 y1.2.2).bind λL1=>T1 L1 (Cd0 N q1 q2 q3 q0) (λ(z1:(Sl Up)×Int×Int)=>some []) (q0,0,0)) (ite (q1.Mode==2) (U1 N (BS0 N q1 q2 q3) q0 0) (ite (q1.Mode==3) (U1 N (BY8 N q1 q2) q0 (wrap .i64 ((q0.n:Int)-q2))) (some [])))
theorem Aw6 {q0:Sl Up}{q1:Law}{q2:Int}{q3:Int}{L:List (Int×(Sl Up))}(h:Ed N q0 q1 q2 q3=some L) :FY S MF [] [.reg 0 0,.reg 1 0,.reg 2 0,.reg 3 0] [.cells [.p (vSl 2 A0 q0)],.cells ((B6 q1).map .p),.cells [pN q2],.cells [pN q3]] (L.map (λ(x:Int×(Sl Up))=>[pI .i64 x.1,vSl 2 A0 x.2])):=by
 unfold Ed at h;refine Fv Z func258 ?_;apply kI Z h<;>intro h
 .refine kC Z h (WC Z Y) (λy1 h=>?_);obtain⟨L1,e2,h⟩:=E4 h;refine Bt6 Z S3 [20000,20001,20002] [8,7,6,5,4,3,2,1] 900 (λz1 L2=>⟨[(8,.reg 9000 0),(7,.reg 8000 0),(6,.reg 7000 0),(5,.reg 6000 0),(4,.reg 3 0),(3,.reg 2 0),(2,.reg 1 0),(1,.reg 0 0)],[(9000,.cells [pN z1.2.2]),(8000,.cells [pN z1.2.1]),(7000,.cells [.p (vSl 2 A0 z1.1)]),(6000,.cells [.yf 4]),(4,.yld (L2.map (λ(x:Int×(Sl Up))=>[pI .i64 x.1,vSl 2 A0 x.2])) true),(3,.cells [pN q3]),(2,.cells [pN q2]),(1,.cells ((B6 q1).map .p)),(0,.cells [.p (vSl 2 A0 q0)])]⟩) h (Qm Z Y e2) (λ_=>by kernel_rfl) (λ_ _=>by kernel_rfl) (λ_ _=>by kernel_rfl) (λ_ _=>by kernel_rfl) (λx1 m z1 L2 d h=>?_) (λz1 L2 h=>?_)
  .refine Nr Z S3 ?_;apply kI Z h<;>intro h
   .exact d S3 h
   refine G1 Z S3 [(0,.l [7000]),(2,.l [9000]),(5,.l [1]),(6,.l [0]),(9,.l [2]),(12,.n),(13,.l [0]),(15,.l [2]),(20,.a [7000])] ?_;obtain⟨c13,h⟩:=C4 h;refine dP h c13 (Ai0 Z Y) (λy6 h=>?_);obtain⟨c14,h⟩:=C4 h;refine O3 c14 (x:=.sl true 1 3 (G9 [I1] [(0,cL 2 A0 (z1.1.take (wrap .i64 (x1+z1.2.2)).toNat)),(1,cL 2 A0 y6),(2,cL 2 A0 (q0.drop (wrap .i64 (x1+q2)).toNat))])) ?_;obtain⟨y7,e8,h⟩:=E4 h;refine GS [] S3 (Uw.le Z (args:=[.p (.sl true 1 3 (G9 [I1] [(0,cL 2 A0 (z1.1.take (wrap .i64 (x1+z1.2.2)).toNat)),(1,cL 2 A0 y6),(2,cL 2 A0 (q0.drop (wrap .i64 (x1+q2)).toNat))]))]) (by exact⟨Na rfl (λi o=>match i,o with|0,_=>rfl|1,_=>rfl|2,_=>rfl|_+3,o=>Ke o (by omega)),trivial⟩) (R6 Z Y e8)) ?_;refine D5 S3 ?_;obtain⟨L5,rfl,f⟩:=OL h;replace h:=f;refine DX Z S3 (ys:=(λ(x:Int×(Sl Up))=>[pI .i64 x.1,vSl 2 A0 x.2]) (x1,y7)) (rest:=L5.map (λ(x:Int×(Sl Up))=>[pI .i64 x.1,vSl 2 A0 x.2])) ?_ ?_
   .refine kF Z ?_;refine G1 Z S3 [(1,.l [2]),(4,.l [9000]),(5,.l [3]),(7,.l [2]),(9,.a [8000]),(10,.a [9000])] ?_;refine D5 S3 ?_;exact d S3 h
   refine kT Z ?_;refine XN Z S3 ⟨[(8,.reg 9000 0),(7,.reg 8000 0),(6,.reg 7000 0),(5,.reg 6000 0),(4,.reg 3 0),(3,.reg 2 0),(2,.reg 1 0),(1,.reg 0 0)],[(44000,oV A8 2 A0 y7 true),(9000,.cells [pN z1.2.2]),(8000,.cells [pN z1.2.1]),(7000,.cells [.vec 44000]),(6000,.cells [.yf 4]),(4,.yld [] false),(3,.cells [pN q3]),(2,.cells [pN q2]),(1,.cells ((B6 q1).map .p)),(0,.cells [.p (vSl 2 A0 q0)])]⟩ ?_;exact kO Z S3 (a:=.tup []) (objs:=[(.cells [.p (vSl 2 A0 q0)]),.cells ((B6 q1).map .p),.cells [pN q2],.cells [pN q3],.yld [] false]) [0,1,2,3,4] ⟨false,rfl,rfl,_,rfl⟩
  obtain rfl:=A5 h;exact kO Z S3 (a:=.tup []) (objs:=[(.cells [.p (vSl 2 A0 q0)]),.cells ((B6 q1).map .p),.cells [pN q2],.cells [pN q3],.yld [] true]) [0,1,2,3,4] ⟨true,rfl,rfl,_,rfl⟩
 apply kI Z h<;>intro h
 .refine XJ Z S3 h (λx5 x6 L6=>⟨[(10,pN x6),(6,.reg 7000 0),(5,.reg 6000 0),(4,.reg 3 0),(3,.reg 2 0),(2,.reg 1 0)],[(7000,.cells [.p (vSl 2 A0 x5)]),(6000,.cells [.yf 4]),(4,.yld (L6.map (λ(x:Int×(Sl Up))=>[pI .i64 x.1,vSl 2 A0 x.2])) true),(3,.cells [pN q3]),(2,.cells [pN q2]),(1,.cells ((B6 q1).map .p)),(0,.cells [.p (vSl 2 A0 q0)])]⟩) (λq x5 x6 L6 b h=>?_);apply kI Z h<;>intro h
  .refine kC Z h (Ai1 Z Y) (λu h=>?_);apply kI Z h<;>intro h
   .exact b S3 h
   refine kC Z h (Oc Z Y) (λr h=>?_);obtain⟨L9,rfl,g⟩:=OL h;replace h:=g;refine DX Z S3 (ys:=(λ(x:Int×(Sl Up))=>[pI .i64 x.1,vSl 2 A0 x.2]) (x6,r)) (rest:=L9.map (λ(x:Int×(Sl Up))=>[pI .i64 x.1,vSl 2 A0 x.2])) ?_ ?_
   .refine kF Z ?_;apply kI Z h<;>intro h
    .exact b S3 h
    exact b S3 h
   refine kT Z ?_;exact kO Z S3 (a:=.tup []) (objs:=[(.cells [.p (vSl 2 A0 q0)]),.cells ((B6 q1).map .p),.cells [pN q2],.cells [pN q3],.yld [] false]) [0,1,2,3,4] ⟨false,rfl,rfl,_,rfl⟩
  obtain rfl:=A5 h;exact kO Z S3 (a:=.tup []) (objs:=[(.cells [.p (vSl 2 A0 q0)]),.cells ((B6 q1).map .p),.cells [pN q2],.cells [pN q3],.yld [] true]) [0,1,2,3,4] ⟨true,rfl,rfl,_,rfl⟩
 apply kI Z h<;>intro h
 .refine XJ Z S3 h (λx7 x8 L10=>⟨[(11,pN x8),(6,.reg 7000 0),(5,.reg 6000 0),(3,.reg 2 0),(2,.reg 1 0)],[(7000,.cells [.p (vSl 2 A0 x7)]),(6000,.cells [.yf 4]),(4,.yld (L10.map (λ(x:Int×(Sl Up))=>[pI .i64 x.1,vSl 2 A0 x.2])) true),(3,.cells [pN q3]),(2,.cells [pN q2]),(1,.cells ((B6 q1).map .p)),(0,.cells [.p (vSl 2 A0 q0)])]⟩) (λs x7 x8 L10 j h=>?_);apply kI Z h<;>intro h
  .refine kC Z h (Ai1 Z Y) (λv h=>?_);apply kI Z h<;>intro h
   .exact j S3 h
   refine kC Z h (Oc Z Y) (λt h=>?_);obtain⟨L13,rfl,c⟩:=OL h;replace h:=c;refine DX Z S3 (ys:=(λ(x:Int×(Sl Up))=>[pI .i64 x.1,vSl 2 A0 x.2]) (x8,t)) (rest:=L13.map (λ(x:Int×(Sl Up))=>[pI .i64 x.1,vSl 2 A0 x.2])) ?_ ?_
   .refine kF Z ?_;exact j S3 h
   refine kT Z ?_;exact kO Z S3 (a:=.tup []) (objs:=[(.cells [.p (vSl 2 A0 q0)]),.cells ((B6 q1).map .p),.cells [pN q2],.cells [pN q3],.yld [] false]) [0,1,2,3,4] ⟨false,rfl,rfl,_,rfl⟩
  obtain rfl:=A5 h;exact kO Z S3 (a:=.tup []) (objs:=[(.cells [.p (vSl 2 A0 q0)]),.cells ((B6 q1).map .p),.cells [pN q2],.cells [pN q3],.yld [] true]) [0,1,2,3,4] ⟨true,rfl,rfl,_,rfl⟩
 obtain rfl:=A5 h;exact kO Z S3 (a:=.tup []) (objs:=[(.cells [.p (vSl 2 A0 q0)]),.cells ((B6 q1).map .p),.cells [pN q2],.cells [pN q3],.yld [] true]) [0,1,2,3,4] ⟨true,rfl,rfl,_,rfl⟩
def Od (N:Nat)(a:Law)(b:Sl Up):Option ((Sl Up)×Law×Int×Int):= some (b,a,(a.If.n:Int),(a.Out.n:Int))
theorem Bf6 {b:Law}{c:Sl Up}{y:(Sl Up)×Law×Int×Int}(h:Od N b c=some y) :Uw S Ag2 [.p (.agg (B6 b)),.p (vSl 2 A0 c)] [] (.clo MF [] [.reg 0 0,.reg 1 0,.reg 2 0,.reg 3 0]) ([.cells [.p (vSl 2 A0 y.1)],.cells ((B6 y.2.1).map .p),.cells [pN y.2.2.1],.cells [pN y.2.2.2]]) []:=by unfold Od at h;refine A1 Z func252 ?_;refine G1 Z S3 [(1,.l [3000]),(2,.n),(4,.l [3000]),(5,.n),(6,.a [6000]),(7,.a [7000]),(8,.a [6000]),(9,.a [7000])] ?_;refine D5 S3 ?_;obtain rfl:=A5 h;exact kO Z S3 [4000,3000,6000,7000]
def Gn (N:Nat)(b:Law)(c:Sl Up):Option ((Sl Int)×(Sl (Sl Up))×Int):= (IB N b c).bind λy1=>ite (y1 != 0) (some (Te,(Sl.nil:Sl (Sl Up)),y1)) ((Od N b c).bind λy2=>(Ed N y2.1 y2.2.1 y2.2.2.1 y2.2.2.2).bind λL1=>T1 L1 (λa (x1:Int×(Sl Up)) (z1:(Sl Int)×(Sl (Sl Up)))=>ite (decide (32<(x1.2.n:Int))) (some (Te,(Sl.nil:Sl (Sl Up)),11)) (ite (Uq 8 (z1.1.n+(Sl.of [x1.1]:Sl Int).n)) (ite (Uq 24 (z1.2.n+(Sl.of [x1.2]:Sl (Sl Up)).n)) (a (z1.1.push x1.1,z1.2.push x1.2)) none) none)) (λ(z1:(Sl Int)×(Sl (Sl Up)))=>some (z1.1,z1.2,0)) (Te,(Sl.nil:Sl (Sl Up))))
theorem Aw7 {b:Law}{c:Sl Up}{y:(Sl Int)×(Sl (Sl Up))×Int}(h:Gn N b c=some y) :Uw S ST [.p (.agg (B6 b)),.p (vSl 2 A0 c)] [] (.tup [.vec 0,.vec 1,pN y.2.2]) ([oV C8 1 (cI .i64) y.1 true,oV F0 1 (cL 2 A0) y.2.1 true]) []:=by
 unfold Gn at h;refine A1 Z func244 ?_;refine C7 Z S3 4 3000 (B6 b) ?_;refine kD Z h Tc (Aw5 Z Y) (λy1 h=>?_);apply kI Z h<;>intro h
 .obtain rfl:=A5 h;exact I9 Z S3 ⟨[(6,.reg 7000 0),(5,.reg 6000 0),(4,.reg 5000 0)],[(7000,.cells [pN y1]),(6701,.vec F0 1 (Sl.nil:Sl (Sl Up)).n (λi=>cL 2 A0 ((Sl.nil:Sl (Sl Up)).g i)) true),(6000,.cells [.vec 6701]),(5700,oV C8 1 (cI .i64) Te true),(5000,.cells [.vec 5700])]⟩ [5700,6701] ⟨rfl,rfl,rfl⟩
 refine kD Z h Tc (Bf6 Z Y) (λy2 h=>?_);obtain⟨L1,e3,h⟩:=E4 h;refine JH Z S3 [21000,21001,21002,21003] [9,8,6,5,4] 901 (λz1=>⟨[(9,.reg 10000 0),(8,.reg 9000 0),(6,.reg 7000 0),(5,.reg 6000 0),(4,.reg 5000 0)],[(10500,oV F0 1 (cL 2 A0) z1.2 false),(10000,.cells [.vec 10500]),(9500,oV C8 1 (cI .i64) z1.1 false),(9000,.cells [.vec 9500]),(7000,.cells [pN 0]),(6000,.cells [.p I1]),(5000,.cells [.p I1])]⟩) h (Aw6 Z Y e3) (λ_=>by kernel_rfl) (λ_=>by kernel_rfl) (λ_=>by kernel_rfl) (λ_=>by kernel_rfl) (λx1 d z1 f h=>?_) (λz1 h=>?_)
 .refine Nr Z S3 ?_;apply kI Z h<;>intro h
  .refine XN Z S3 ⟨[(9,.reg 10000 0),(8,.reg 9000 0),(6,.reg 7000 0),(5,.reg 6000 0),(4,.reg 5000 0)],[(10500,oV F0 1 (cL 2 A0) z1.2 false),(10000,.cells [.vec 10500]),(9500,oV C8 1 (cI .i64) z1.1 false),(9000,.cells [.vec 9500]),(7000,.cells [pN 11]),(6000,.cells [.p I1]),(5000,.cells [.p I1])]⟩ ?_;obtain rfl:=A5 h;exact I9 Z S3 ⟨[(6,.reg 7000 0),(5,.reg 6000 0),(4,.reg 5000 0)],[(7000,.cells [pN 11]),(6701,.vec F0 1 (Sl.nil:Sl (Sl Up)).n (λi=>cL 2 A0 ((Sl.nil:Sl (Sl Up)).g i)) true),(6000,.cells [.vec 6701]),(5700,oV C8 1 (cI .i64) Te true),(5000,.cells [.vec 5700])]⟩ [5700,6701] ⟨rfl,rfl,rfl⟩
  refine G1 Z S3 [(0,.l [9000]),(3,.a [30000,9500]),(4,.l [10000]),(7,.a [34000,10500]),(8,.a [9000]),(9,.a [10000])] ?_;refine O3 S3 (x:=.sl true 1 1 (G9 [pI .i64 0] [(0,cI .i64 x1.1)])) ?_;obtain⟨c9,h⟩:=C4 h;refine O3 c9 (x:=.sl true 1 1 (G9 [I1] [(0,cL 2 A0 x1.2)])) ?_;refine dE h (λh=>?_);exact f S3 h (hle:=kl2 0 1 (O8 (cL 2 A0) z1.2 x1.2 [I1]) (O8 (cI .i64) z1.1 x1.1 [pI .i64 0]))
 refine G1 Z S3 [(0,.l [9000]),(1,.l [10000]),(2,.a [5000]),(3,.a [6000]),(4,.a [7000])] ?_;refine D5 S3 ?_;obtain rfl:=A5 h;exact I9 Z S3 ⟨[(6,.reg 7000 0),(5,.reg 6000 0),(4,.reg 5000 0)],[(10500,oV F0 1 (cL 2 A0) z1.2 true),(9500,oV C8 1 (cI .i64) z1.1 true),(7000,.cells [pN 0]),(6000,.cells [.vec 10500]),(5000,.cells [.vec 9500])]⟩ [9500,10500] ⟨rfl,rfl,rfl⟩
def CO (N:Nat)(b:Law)(a:Sl Up):Option ((Sl Up)×Int):= (Gn N b a).bind λy1=>ite (y1.2.2 != 0) (some ((Sl.nil:Sl Up),y1.2.2)) (ite (decide (0<(y1.2.1.n:Int))) (ite (((0:Int)<=(wrap .i64 ((y1.2.1.n:Int)-1))/\(wrap .i64 ((y1.2.1.n:Int)-1))<(y1.2.1.n:Int))/\(wrap .i64 ((y1.2.1.n:Int)-1)).toNat<y1.2.1.n) (some (y1.2.1.g (wrap .i64 ((y1.2.1.n:Int)-1)).toNat,0)) none) ((B1 N a).bind λy2=>some (y2,0)))
theorem Aw8 {a:Law}{b:Sl Up}{y:(Sl Up)×Int}(h:CO N a b=some y) :Uw S SQ [.p (.agg (B6 a)),.p (vSl 2 A0 b)] [] (.tup [.p (vSl 2 A0 y.1),pN y.2]) ([]) []:=by
 unfold CO at h;refine A1 Z func231 ?_;refine kC Z h (Aw7 Z Y) (λy1 h=>?_);apply kI Z h<;>intro h
 .obtain rfl:=A5 h;exact kO Z S3 []
 apply kI Z h<;>intro h
 .obtain⟨c3,h⟩:=C4 h;obtain rfl:=A5 h;exact Bc6 Z c3 [] ⟨rfl,rfl,rfl⟩
 refine kC Z h (S7 Z Y) (λy2 h=>?_);obtain rfl:=A5 h;exact kO Z S3 []
def Cx (N:Nat)(a:Law):Option Bool:= (Z9 N a).bind λy1=>some (y1 != 0)
theorem QL {a:Law}{y:Bool}(h:Cx N a=some y) :Uw S Jj [.p (.agg (B6 a))] [] (pB y) ([]) []:=by unfold Cx at h;refine A1 Z func211 ?_;refine kC Z h (MG Z Y) (λy1 h=>?_);cases h;exact kR Z
def E7 (N:Nat)(a:Sl Law)(c:Law->Option Bool):Option Int:= N3 N (λb (x1:Int)=>ite (decide (x1<(a.n:Int))) (ite ((0:Int)<=x1/\x1<(a.n:Int)) ((c (a.g x1.toNat)).bind λy3=>ite y3 (some x1) (b (wrap .i64 (x1+1)))) none) (some (-1))) 0
theorem BR {a:Sl Law}{c:Law->Option Bool}{kp_f:Nat}(d:∀{a0:Law}{b:Bool},c a0=some b->Uw S kp_f [.p (.agg (B6 a0))] [] (pB b) [] []){y:Int}(h:E7 N a c=some y) :Uw S S6 [.p (vSl 18 B6 a),.clo kp_f [] []] [] (pN y) ([]) []:=by
 unfold E7 at h;refine A1 Z func229 ?_;refine E2 Z S3 h (λx1=>kps [(8,pN x1)] [7,1,0] [] []) (λf x1 g h=>?_);apply kI Z h<;>intro h
 .obtain⟨c8,h⟩:=C4 h;obtain⟨y3,e3,h⟩:=E4 h;refine D6 Z [] (Ur c8 Tc) (d e3) ?_;refine Ym Z h fun h=>?_;exact g S3 h
 cases h;exact kR Z
def D4 (N:Nat)(a:Sl Law)(b:Law->Option Bool):Option Bool:= (E7 N a b).bind λy1=>some (decide (0<=y1))
theorem AJ {a:Sl Law}{c:Law->Option Bool}{kp_f:Nat}(d:∀{a0:Law}{b:Bool},c a0=some b->Uw S kp_f [.p (.agg (B6 a0))] [] (pB b) [] []){y:Bool}(h:D4 N a c=some y) :Uw S P6 [.p (vSl 18 B6 a),.clo kp_f [] []] [] (pB y) ([]) []:=by unfold D4 at h;refine A1 Z func210 ?_;refine kC Z h (BR Z Y (λe=>d e)) (λy1 h=>?_);cases h;exact kR Z
def Cm (N:Nat)(a:Sl Law):Option Int:= ite (decide (64<(a.n:Int))) (some 12) ((D4 N a (λ(u1:Law)=>Cx N u1)).bind λy1=>ite y1 (some 17) (some 0))
theorem UU {a:Sl Law}{y:Int}(h:Cm N a=some y) :Uw S LU [.p (vSl 18 B6 a)] [] (pN y) ([]) []:=by
 unfold Cm at h;refine A1 Z func157 ?_;refine Ym Z h fun h=>?_;refine kC Z h (AJ Z Y (λe=>QL Z Y e)) (λy1 h=>?_);refine Ym Z h fun h=>?_;cases h;exact kR Z
def Aw (N:Nat)(b:Sl Law)(a:Sl (Sl Up)):Option Int:= (Cm N b).bind λy1=>ite (y1 != 0) (some y1) (ite (decide (256<(a.n:Int))) (some 12) (N3 N (λc (x1:Int)=>ite (decide (x1<(a.n:Int))) (ite ((0:Int)<=x1/\x1<(a.n:Int)) ((W3 N (a.g x1.toNat)).bind λy4=>ite (y4 != 0) (some y4) (c (wrap .i64 (x1+1)))) none) (some 0)) 0))
theorem UV {b:Sl Law}{a:Sl (Sl Up)}{y:Int}(h:Aw N b a=some y) :Uw S LP [.p (vSl 18 B6 b),.p (vSl 1 (cL 2 A0) a)] [] (pN y) ([]) []:=by
 unfold Aw at h;refine A1 Z func113 ?_;refine kC Z h (UU Z Y) (λy1 h=>?_);refine Ym Z h fun h=>?_;refine Ym Z h fun h=>?_;refine E2 Z S3 h (λx1=>kps [(19,pN x1)] [18,17] [] []) (λc x1 d h=>?_);apply kI Z h<;>intro h
 .obtain⟨c10,h⟩:=C4 h;refine kD Z h c10 (GV Z Y) (λy4 h=>?_);refine Ym Z h fun h=>?_;exact d S3 h
 cases h;exact kR Z
def Bw2 (c:Int):Option PV:=ite (c=0) none (some (.iface 288 (pI .i64 c)))
def Cy (N:Nat)(c:Int)(q0:Sl Up)(q1:Sl Law):Option (List (Int×(Sl Up))):= (B1 N q0).bind λy1=>BI (0,y1) (U1 N (λa (x1:Sl Up) (x2:Int)=>ite (decide (x2<(q1.n:Int))) (ite ((0:Int)<=x2/\x2<(q1.n:Int)) ((CO N (q1.g x2.toNat) x1).bind λy4=>ite (y4.2 != 0) (ite (y4.2=c) (some []) none) (BI (wrap .i64 (x2+1),y4.1) (a y4.1 (wrap .i64 (x2+1))))) none) (ite (c=0) (some []) none)) y1 0)
theorem Jl {q0:Sl Up}{q1:Sl Law}{c:Int}{L:List (Int×(Sl Up))}(h:Cy N c q0 q1=some L) :RW S Ai [] [.reg 0 0,.reg 1 0] [.cells [.p (vSl 2 A0 q0)],.cells [.p (vSl 18 B6 q1)]] (L.map (λ(x:Int×(Sl Up))=>[pI .i64 x.1,vSl 2 A0 x.2])) (Bw2 c):=by
 unfold Cy at h;refine Bd1 Z func230 ?_;refine kC Z h (S7 Z Y) (λy1 h=>?_);obtain⟨L1,rfl,d⟩:=OL h;replace h:=d;refine DX Z S3 (ys:=(λ(x:Int×(Sl Up))=>[pI .i64 x.1,vSl 2 A0 x.2]) (0,y1)) (rest:=L1.map (λ(x:Int×(Sl Up))=>[pI .i64 x.1,vSl 2 A0 x.2])) ?_ ?_
 .refine kF Z ?_;refine XJ Z S3 h (λx1 x2 L2=>⟨[(17,pN x2),(16,pN (q1.n:Int)),(15,.p (vSl 18 B6 q1)),(4,.p (vSl 2 A0 x1)),(0,.yf 2)],[(2,.yld (L2.map (λ(x:Int×(Sl Up))=>[pI .i64 x.1,vSl 2 A0 x.2])) true),(1,.cells [.p (vSl 18 B6 q1)]),(0,.cells [.p (vSl 2 A0 q0)])]⟩) (λg x1 x2 L2 i h=>?_);apply kI Z h<;>intro h
  .obtain⟨c13,h⟩:=C4 h;refine kD Z h (Ur c13 Tc) (Aw8 Z Y) (λy4 h=>?_);refine O0 Z S3 (b:=y4.2 != 0) (λc14=>?_) (λc14=>?_)
   .replace h:=itT c14 h;obtain⟨c0,h⟩:=C4 h;obtain rfl:=A5 h;have j:Bw2 c=some (.iface 288 (pI .i64 y4.2)):=by
     have:¬y4.2=0:=by simpa using c14
     rw[<- c0];simp[Bw2,this]
    refine BK9 Z S3 (x:=.iface 288 (pI .i64 y4.2)) ?_;exact BD6 Z S3 (x:=.iface 288 (pI .i64 y4.2)) (objs:=[(.cells [.p (vSl 2 A0 q0)]),.cells [.p (vSl 18 B6 q1)],.yld [] true]) [0,1,2] ⟨true,rfl,rfl,λ_=>by rw[j];rfl,λe=>nomatch e⟩
   replace h:=itF c14 h;obtain⟨L5,rfl,f⟩:=OL h;replace h:=f;refine DX Z S3 (ys:=(λ(x:Int×(Sl Up))=>[pI .i64 x.1,vSl 2 A0 x.2]) (wrap .i64 (x2+1),y4.1)) (rest:=L5.map (λ(x:Int×(Sl Up))=>[pI .i64 x.1,vSl 2 A0 x.2])) ?_ ?_
   .refine kF Z ?_;exact i S3 h
   refine kT Z ?_;exact kO Z S3 (a:=.tup []) (objs:=[(.cells [.p (vSl 2 A0 q0)]),.cells [.p (vSl 18 B6 q1)],.yld [] false]) [0,1,2] ⟨false,rfl,rfl,λe=>(nomatch e),λ_=>⟨_,rfl⟩⟩
  obtain⟨c0,h⟩:=C4 h;obtain rfl:=A5 h;exact kO Z S3 (a:=.tup []) (objs:=[(.cells [.p (vSl 2 A0 q0)]),.cells [.p (vSl 18 B6 q1)],.yld [] true]) [0,1,2] ⟨true,rfl,rfl,λ_=>by subst c0;exact⟨_,rfl⟩,λe=>(nomatch e)⟩
 refine kT Z ?_;exact kO Z S3 (a:=.tup []) (objs:=[(.cells [.p (vSl 2 A0 q0)]),.cells [.p (vSl 18 B6 q1)],.yld [] false]) [0,1,2] ⟨false,rfl,rfl,λe=>(nomatch e),λ_=>⟨_,rfl⟩⟩
def Eu (N:Nat)(a:Sl Law)(b:Sl Up):Option ((Sl Up)×(Sl Law)):= some (b,a)
theorem Me {a:Sl Law}{b:Sl Up}{y:(Sl Up)×(Sl Law)}(h:Eu N a b=some y) :Uw S LY [.p (vSl 18 B6 a),.p (vSl 2 A0 b)] [] (.clo Ai [] [.reg 0 0,.reg 1 0]) ([.cells [.p (vSl 2 A0 y.1)],.cells [.p (vSl 18 B6 y.2)]]) []:=by unfold Eu at h;refine A1 Z func212 ?_;obtain rfl:=A5 h;exact kO Z S3 [4000,3000]
def K8 (N:Nat)(c:Int)(a:Sl Law)(d:Sl Up):Option (Sl Up):= (Eu N a d).bind λy1=>(Cy N c y1.1 y1.2).bind λL1=>T1 L1 (λb (x1:Int×(Sl Up)) (z1:Sl Up)=>b x1.2) (λ(z1:Sl Up)=>some z1) (Sl.nil:Sl Up)
theorem OV {a:Sl Law}{b:Sl Up}{y:Sl Up}(h:K8 N 0 a b=some y) :Uw S K7 [.p (vSl 18 B6 a),.p (vSl 2 A0 b)] [] (.p (vSl 2 A0 y)) ([]) []:=by
 unfold K8 at h;refine A1 Z func160 ?_;refine kC Z h (Me Z Y) (λy1 h=>?_);obtain⟨L1,e2,h⟩:=E4 h;have f:RW S Ai [] [.reg 0 0,.reg 1 0] [.cells [.p (vSl 2 A0 y1.1)],.cells [.p (vSl 18 B6 y1.2)]] (L1.map (λ(x:Int×(Sl Up))=>[pI .i64 x.1,vSl 2 A0 x.2])) none:=Jl Z Y e2;refine AG6 Z S3 [8000,8001] [4] 901 (λz1=>⟨[(4,.reg 5000 0)],[(5000,.cells [.p (vSl 2 A0 z1)])]⟩) h f (λ_=>by kernel_rfl) (λ_=>by kernel_rfl) (λ_=>by kernel_rfl) (λ_=>by kernel_rfl) (λx1 c z1 d h=>?_) (λz1 h=>?_)
 .refine Nr Z S3 ?_;exact d S3 h
 cases h;exact kR Z
theorem OW {c:Int}{a:Sl Law}{b:Sl Up}{y:Sl Up}(hc:c≠0)(h:K8 N c a b=some y) :S.F K7 [.p (vSl 18 B6 a),.p (vSl 2 A0 b)] [] λres o k=>res=.panic (.iface 288 (pI .i64 c))/\o=[]/\k=[]:=by
 unfold K8 at h;refine Bu6 Z func160 ?_;refine kC Z h (Me Z Y) (λy1 h=>?_);obtain⟨L1,e2,h⟩:=E4 h;have g:RW S Ai [] [.reg 0 0,.reg 1 0] [.cells [.p (vSl 2 A0 y1.1)],.cells [.p (vSl 18 B6 y1.2)]] (L1.map (λ(x:Int×(Sl Up))=>[pI .i64 x.1,vSl 2 A0 x.2])) (some (.iface 288 (pI .i64 c))):=by
  have:=Jl Z Y e2
  simpa[Bw2,hc]using this
 refine AG6 Z S3 [8000,8001] [4] 901 (λz1=>⟨[(4,.reg 5000 0)],[(5000,.cells [.p (vSl 2 A0 z1)])]⟩) h g (λ_=>by kernel_rfl) (λ_=>by kernel_rfl) (λ_=>by kernel_rfl) (λ_=>by kernel_rfl) (λx1 d z1 f h=>?_) (λz1 h=>?_)
 .refine Nr Z S3 ?_;exact f S3 h
 exact BD6 Z S3 (x:=.iface 288 (pI .i64 c)) (objs:=[]) [] ⟨rfl,rfl,rfl⟩
def Cz (N:Nat)(a:Sl Law)(b:Sl Up):Option ((Sl Up)×Bool):=
 match K8 N 0 a b with
 |some y=>some (y,true)
 |none=>(K8 N 11 a b).bind λ_=>some ((Sl.nil:Sl Up),false)
theorem QM {b:Sl Law}{c:Sl Up}{y:(Sl Up)×Bool}(h:Cz N b c=some y) :Uw S Je [.p (vSl 18 B6 b),.p (vSl 2 A0 c)] [] (.tup [.p (vSl 2 A0 y.1),pB y.2]) ([]) []:=by
 unfold Cz at h;refine A1 Z func114 ?_;rcases e:K8 N 0 b c with _|z
 .rw[e]at h;obtain⟨z,e1,h⟩:=E4 h;obtain rfl:=A5 h;refine D6 Z [7000,3000,4000,5000] S3 (Y.attP (OW Z Y (by decide) e1)) ?_;refine G1 Z S3 [(0,.l [5000]),(1,.l [7000]),(3,.a [5000])] ?_;refine D5 S3 ?_;exact I9 Z S3 ⟨[(5,pB false),(4,.reg 5000 0)],[(5000,.cells [.p (vSl 2 A0 Sl.nil)])]⟩ [] ⟨rfl,rfl,rfl⟩
 rw[e]at h;obtain rfl:=A5 h;refine D6 Z [7000,3000,4000,5000] S3 (Y.attR (OV Z Y e)) ?_;refine G1 Z S3 [(0,.l [5000]),(1,.l [7000]),(3,.a [5000])] ?_;refine D5 S3 ?_;exact I9 Z S3 ⟨[(5,pB true),(4,.reg 5000 0)],[(5000,.cells [.p (vSl 2 A0 z)])]⟩ [] ⟨rfl,rfl,rfl⟩
def N7 (N:Nat)(a:Sl Law)(b:Sl Up):Option ((Sl Up)×Int):= (Aw N a (Sl.of [b]:Sl (Sl Up))).bind λy1=>ite (y1 != 0) (some ((Sl.nil:Sl Up),y1)) ((Cz N a b).bind λy2=>ite (!y2.2) (some ((Sl.nil:Sl Up),11)) (some (y2.1,0)))
theorem Kj {N:Nat}{a:Sl Law}{b:Sl Up}{y:(Sl Up)×Int}(h:N7 N a b=some y) :Uw S JQ [.p (vSl 18 B6 a),.p (vSl 2 A0 b)] [] (.tup [.p (vSl 2 A0 y.1),pN y.2]) ([]) []:=by
 unfold N7 at h;refine A1 Z Tryz.func73 ?_;refine Np Z Td (kps [] [11,9,1,0] [(12000,.vec F0 1 (Sl.of [b]:Sl (Sl Up)).n (λi=>cL 2 A0 ((Sl.of [b]:Sl (Sl Up)).g i)) false)] []) ?_ (hle:=kl1 3 (AO5 (cL 2 A0) ([b]:List (Sl Up)) [I1]));refine kC Z h (UV Z Y) (λy1 h=>?_);apply kI Z h<;>intro h
 .obtain rfl:=A5 h;exact kO Z S3 []
 refine kC Z h (QM Z Y) (λy2 h=>?_);apply kI Z h<;>intro h
 .obtain rfl:=A5 h;exact kO Z S3 []
 cases h;exact kR Z
def Kk (N:Nat)(a:Int):Option Bool:= some (((((decide (97<=a))&&(decide (a<=122)))||((decide (65<=a))&&(decide (a<=90))))||((decide (48<=a))&&(decide (a<=57))))||(a==45))
theorem Ai3 {b:Int}{y:Bool}(h:Kk N b=some y) :Uw S PZ [.p (pI .u8 b)] [] (pB y) ([]) []:=by unfold Kk at h;refine A1 Z func115 ?_;refine kB Z (A3 Z) S3 S3 23 (.o (.o (.o (.n (.a (decide (97<=b))) (.a (decide (b<=122)))) (.n (.a (decide (65<=b))) (.a (decide (b<=90))))) (.n (.a (decide (48<=b))) (.a (decide (b<=57))))) (.a (b==45))) ?_;cases h;exact kR Z
def Ee (N:Nat)(a:Str):Option Bool:= N3 N (λb (x1:Int)=>ite (decide (x1<(a.length:Int))) (ite ((0:Int)<=x1/\x1<(a.length:Int)) ((Kk N (E9 a x1)).bind λy3=>ite (!y3) (some false) (b (wrap .i64 (x1+1)))) none) (some ((decide (1<=(a.length:Int)))&&(decide ((a.length:Int)<=24))))) 0
theorem OX {b:Str}{y:Bool}(h:Ee N b=some y) :Uw S Wg [.p (.str b)] [] (pB y) ([]) []:=by
 unfold Ee at h;refine A1 Z func76 ?_;refine E2 Z S3 h (λx1=>kps [(3,pN x1)] [0] [] []) (λc x1 d h=>?_);apply kI Z h<;>intro h
 .obtain⟨c8,h⟩:=C4 h;refine kD Z h c8 (Ai3 Z Y) (λy3 h=>?_);refine Ym Z h fun h=>?_;exact d S3 h
 refine kB Z (A3 Z) S3 S3 4 (.n (.a (decide (1<=(b.length:Int)))) (.a (decide ((b.length:Int)<=24)))) ?_;cases h;exact kR Z
def AY (N:Nat)(a:Sl Node):Option Int:= ite ((decide ((a.n:Int)<1))=false->((decide (63<(a.n:Int)))=false->((0:Int)<=0/\0<(a.n:Int)))) (ite (((decide ((a.n:Int)<1))||(decide (63<(a.n:Int))))||((a.g 0).Ye != (-1))) (some 16) (N3 N (λb (x3:Int)=>ite (decide (x3<(a.n:Int))) (lt (λ(z3:Bool)=>ite z3 (some 16) (N3 N (λc (x7:Int)=>ite (decide (x7<x3)) (ite (((0:Int)<=x7/\x7<(a.n:Int))/\((0:Int)<=x3/\x3<(a.n:Int))) (ite (((a.g x7.toNat).Name==(a.g x3.toNat).Name) != false) (some 16) (c (wrap .i64 (x7+1)))) none) (b (wrap .i64 (x3+1)))) 0)) λk3=>ite (decide (0<x3)) (ite ((0:Int)<=x3/\x3<(a.n:Int)) (ite (decide ((a.g x3.toNat).Ye<0)) (k3 true) (ite ((0:Int)<=x3/\x3<(a.n:Int)) (ite (decide (x3<=(a.g x3.toNat).Ye)) (k3 true) (ite ((0:Int)<=x3/\x3<(a.n:Int)) ((Ee N (a.g x3.toNat).Name).bind λd=>k3 (!d)) none)) none)) none) (ite ((0:Int)<=x3/\x3<(a.n:Int)) ((Ee N (a.g x3.toNat).Name).bind λf=>k3 (!f)) none)) (some 0)) 0)) none
theorem MH {b:Sl Node}{y:Int}(h:AY N b=some y) :Uw S Si [.p (vSl 2 F1 b)] [] (pN y) ([]) []:=by
 unfold AY at h;refine A1 Z func38 ?_;obtain⟨c1,h⟩:=C4 h;refine kB Z (A3 Z) S3 c1 11 (.o (.o (.a (decide ((b.n:Int)<1))) (.a (decide (63<(b.n:Int))))) (.a ((b.g 0).Ye != (-1)))) ?_;refine Ym Z h fun h=>?_;refine E2 Z S3 h (λx3=>kps [(3,pN x3)] [0] [] []) (λd x3 f h=>?_);apply kI Z h<;>intro h
 .refine GN Z S3 (A3 Z) h 0 (λz3=>kps [(53,pB z3)] [3,0] [] []) (λk3 c h=>?_) (λz3 h=>?_)
  .refine kG Z h (λh=>?_) (λh=>?_)
   .obtain⟨c71,h⟩:=C4 h;refine kV Z c71 h (λh=>?_) (λh=>?_)
    .exact c S3 h
    obtain⟨c73,h⟩:=C4 h;refine kV Z c73 h (λh=>?_) (λh=>?_)
    .exact c S3 h
    obtain⟨c75,h⟩:=C4 h;refine kD Z h c75 (OX Z Y) (λl h=>?_);exact c S3 h
   obtain⟨c76,h⟩:=C4 h;refine kD Z h c76 (OX Z Y) (λm h=>?_);exact c S3 h
  refine Ym Z h fun h=>?_;refine E2 Z S3 h (λx7=>kps [(4,pN x7)] [3,0] [] []) (λi x7 j h=>?_);apply kI Z h<;>intro h
  .refine B4 Z S3 [2,4,7,9] ?_;refine dE h (λh=>?_);refine Ym Z h fun h=>?_;exact j S3 h
  exact f S3 h
 cases h;exact kR Z
def IC (N:Nat)(a:Int):Option Bool:= some (((((decide (97<=a))&&(decide (a<=122)))||((decide (65<=a))&&(decide (a<=90))))||((decide (48<=a))&&(decide (a<=57))))||(a==45))
theorem YI {b:Int}{y:Bool}(h:IC N b=some y) :Uw S NO [.p (pI .u8 b)] [] (pB y) ([]) []:=by unfold IC at h;refine A1 Z func162 ?_;refine kB Z (A3 Z) S3 S3 23 (.o (.o (.o (.n (.a (decide (97<=b))) (.a (decide (b<=122)))) (.n (.a (decide (65<=b))) (.a (decide (b<=90))))) (.n (.a (decide (48<=b))) (.a (decide (b<=57))))) (.a (b==45))) ?_;cases h;exact kR Z
def EO (N:Nat)(a:Str):Option Bool:= N3 N (λb (x1:Int)=>ite (decide (x1<(a.length:Int))) (ite ((0:Int)<=x1/\x1<(a.length:Int)) ((IC N (E9 a x1)).bind λy3=>ite (!y3) (some false) (b (wrap .i64 (x1+1)))) none) (some ((decide (0<(a.length:Int)))&&(decide ((a.length:Int)<=24))))) 0
theorem Ai4 {b:Str}{y:Bool}(h:EO N b=some y) :Uw S Qa [.p (.str b)] [] (pB y) ([]) []:=by
 unfold EO at h;refine A1 Z func117 ?_;refine E2 Z S3 h (λx1=>kps [(6,pN x1)] [5,0] [] []) (λc x1 d h=>?_);apply kI Z h<;>intro h
 .obtain⟨c8,h⟩:=C4 h;refine kD Z h c8 (YI Z Y) (λy3 h=>?_);refine Ym Z h fun h=>?_;exact d S3 h
 refine kB Z (A3 Z) S3 S3 4 (.n (.a (decide (0<(b.length:Int)))) (.a (decide ((b.length:Int)<=24)))) ?_;cases h;exact kR Z
def W4 (N:Nat)(a:Sl Node):Option Int:= ite (((a.n:Int)==0)||(decide (63<(a.n:Int)))) (some 16) (U1 N (λb (x2:List (Str×Bool)) (x3:Int)=>ite (decide (x3<(a.n:Int))) (ite ((0:Int)<=x3/\x3<(a.n:Int)) (lt (λ(z3:Bool)=>ite z3 (some 16) (b (FZ eqS (a.g x3.toNat).Name true x2) (wrap .i64 (x3+1)))) λk3=>ite (decide (x3<=(a.g x3.toNat).Ye)) (k3 true) (ite (decide ((a.g x3.toNat).Ye<(ite (0<(wrap .i64 (x3-1))) 0 (wrap .i64 (x3-1))))) (k3 true) ((EO N (a.g x3.toNat).Name).bind λy6=>ite (!y6) (k3 true) (JD (M7 eqS (a.g x3.toNat).Name x2) (k3 false) λv6=>k3 v6)))) none) (some 0)) [] 0)
theorem GY {b:Sl Node}{y:Int}(h:W4 N b=some y) :Uw S PT [.p (vSl 2 F1 b)] [] (pN y) ([]) []:=by
 unfold W4 at h;refine A1 Z func81 ?_;refine kB Z (A3 Z) S3 S3 4 (.o (.a ((b.n:Int)==0)) (.a (decide (63<(b.n:Int))))) ?_;refine Ym Z h fun h=>?_;refine E8 Z S3 h (λx2 x3=>kps [(17,pN x3)] [16,15,3] [(15000,oM PV.str PV.bb x2)] []) (λd x2 x3 f h=>?_);apply kI Z h<;>intro h
 .obtain⟨c25,h⟩:=C4 h;refine GN Z (Ur c25 Sp) (A3 Z) h 0 (λz3=>kps [(45,pB z3)] [17,16,15,5,3] [] [15000,6000]) (λk3 c h=>?_) (λz3 h=>?_)
  .refine kG Z h (λh=>?_) (λh=>?_)
   .exact c S3 h
   refine kG Z h (λh=>?_) (λh=>?_)
   .exact c S3 h
   refine kC Z h (Ai4 Z Y) (λy6 h=>?_);refine kG Z h (λh=>?_) (λh=>?_)
   .exact c S3 h
   rcases o6:M7 eqS (b.g x3.toNat).Name x2 with _|v6
   .replace h:=An6 o6 h;refine Ar6 Z S3 M6 BD8 PV.str PV.bb eqS o6 (.v (.bool false)) S3 ?_;exact c S3 h
   replace h:=Ab6 o6 h;refine Ar5 Z S3 M6 BD8 PV.str PV.bb eqS o6 S3 ?_;exact c S3 h
  refine Ym Z h fun h=>?_;refine AO6 Z S3 M6 PV.str PV.bb eqS (b.g x3.toNat).Name true x2 S3 ?_;exact f S3 h
 cases h;exact kR Z
def AZ (N:Nat)(a:Yc):Option Int:= ite ((0:Int)<=(a.On.n:Int)/\(a.On.n:Int)<=(a.On.n:Int)/\(a.On.n:Int)*8<=140737488355328/\(a.On.n:Int)<=140737488355328) (Bb8 N (λc (x4:Sl Int) (x5:Bool) (x6:Int)=>ite (decide (x6<(a.On.n:Int))) (ite ((((0:Int)<=x6/\x6<(a.On.n:Int))/\((0:Int)<=x6/\x6<(x4.n:Int)))/\x6.toNat<x4.n) (ite ((0:Int)<=x6/\x6<(a.Tree.n:Int)) (lt (λ(z3:Sl Int)=>ite (((0:Int)<=x6/\x6<(z3.n:Int))/\x6.toNat<z3.n) (ite (decide (64<(z3.g x6.toNat))) (some 2) (U1 N (λd (f:Bool) (b:Int)=>ite (decide (b<((a.On.g x6.toNat).n:Int))) (ite ((0:Int)<=b/\b<((a.On.g x6.toNat).n:Int)) (d ((f||(decide (((a.On.g x6.toNat).g b.toNat)<0)))||(decide ((a.Laws.n:Int)<=((a.On.g x6.toNat).g b.toNat)))) (wrap .i64 (b+1))) none) (c z3 f (wrap .i64 (x6+1)))) x5 0)) none) λk3=>ite (decide (0<=(a.Tree.g x6.toNat).Ye)) (ite (((((((0:Int)<=x6/\x6<((x4.upd x6.toNat ((a.On.g x6.toNat).n:Int)).n:Int))/\x6.toNat<(x4.upd x6.toNat ((a.On.g x6.toNat).n:Int)).n)/\((0:Int)<=(a.Tree.g x6.toNat).Ye/\(a.Tree.g x6.toNat).Ye<((x4.upd x6.toNat ((a.On.g x6.toNat).n:Int)).n:Int)))/\(a.Tree.g x6.toNat).Ye.toNat<(x4.upd x6.toNat ((a.On.g x6.toNat).n:Int)).n)/\((0:Int)<=x6/\x6<((x4.upd x6.toNat ((a.On.g x6.toNat).n:Int)).n:Int)))/\x6.toNat<(x4.upd x6.toNat ((a.On.g x6.toNat).n:Int)).n) (k3 ((x4.upd x6.toNat ((a.On.g x6.toNat).n:Int)).upd x6.toNat (wrap .i64 (((x4.upd x6.toNat ((a.On.g x6.toNat).n:Int)).g x6.toNat)+((x4.upd x6.toNat ((a.On.g x6.toNat).n:Int)).g (a.Tree.g x6.toNat).Ye.toNat))))) none) (k3 (x4.upd x6.toNat ((a.On.g x6.toNat).n:Int)))) none) none) (ite x5 (some 3) (some 0))) (Sl.rep (a.On.n:Int).toNat 0:Sl Int) false 0) none
theorem Tm {b:Yc}{y:Int}(h:AZ N b=some y) :Uw S JV [.p (.agg (A9 b))] [] (pN y) ([]) []:=by
 unfold AZ at h;refine A1 Z func136 ?_;refine C7 Z S3 2 2000 (A9 b) ?_;obtain⟨c1,h⟩:=C4 h;refine Nq Z c1 h (λx4 x5 x6=>kps [(17,pN x6),(4,pB x5)] [16,15,3,1] [(14000,oV C8 1 (cI .i64) x4 false)] []) (λm x4 x5 x6 q h=>?_);apply kI Z h<;>intro h
 .obtain⟨c35,h⟩:=C4 h;refine I6 Z (Ur (Ur c35.1.1 c35.1.2) (Ur (rfl:(1:Nat)=1) (Ur c35.2 Sn))) 27 (kps [] [17,16,15,6,5,4,3,1] [(14000,.vec C8 1 (x4.upd x6.toNat ((b.On.g x6.toNat).n:Int)).n (λi=>cI .i64 ((x4.upd x6.toNat ((b.On.g x6.toNat).n:Int)).g i)) false)] []) ?_ (hle:=klR [(7,.fn x4.n (x4.upd x6.toNat ((b.On.g x6.toNat).n:Int)).n (λl=>ite (l=x6.toNat) (splice ((λi=>cI .i64 (x4.g i)) l) 0 [pI .i64 ((b.On.g x6.toNat).n:Int)]) ((λi=>cI .i64 (x4.g i)) l)) (λi=>cI .i64 ((x4.upd x6.toNat ((b.On.g x6.toNat).n:Int)).g i)))] (al1 ⟨rfl,Zu (c:=cI .i64) (v:=x4) (x:=((b.On.g x6.toNat).n:Int)) same (λ_=>by first|rfl|(dsimp only;split<;>rfl))⟩ al0));obtain⟨c36,h⟩:=C4 h;refine GN Z c36 (A3 Z) h 0 (λz3=>kps [] [17,16,15,6,5,4,3,1] [(14000,oV C8 1 (cI .i64) z3 false)] []) (λk3 j h=>?_) (λz3 h=>?_)
  .apply kI Z h<;>intro h
   .refine Gb Z S3 ?_;obtain⟨c41,h⟩:=C4 h;refine D5 (Ur (Ur (Ur (Ur (Ur c41.1.1.1.1.1 c41.1.1.1.1.2) c41.1.1.1.2) c41.1.1.2) c41.1.2) (Ur (rfl:(1:Nat)=1) (Ur c41.2 Sn))) ?_;exact j S3 h (hle:=klR [(7,.fn (x4.upd x6.toNat ((b.On.g x6.toNat).n:Int)).n ((x4.upd x6.toNat ((b.On.g x6.toNat).n:Int)).upd x6.toNat (wrap .i64 (((x4.upd x6.toNat ((b.On.g x6.toNat).n:Int)).g x6.toNat)+((x4.upd x6.toNat ((b.On.g x6.toNat).n:Int)).g (b.Tree.g x6.toNat).Ye.toNat)))).n (λl=>ite (l=x6.toNat) (splice ((λi=>cI .i64 ((x4.upd x6.toNat ((b.On.g x6.toNat).n:Int)).g i)) l) 0 [pI .i64 (wrap .i64 (((x4.upd x6.toNat ((b.On.g x6.toNat).n:Int)).g x6.toNat)+((x4.upd x6.toNat ((b.On.g x6.toNat).n:Int)).g (b.Tree.g x6.toNat).Ye.toNat)))]) ((λi=>cI .i64 ((x4.upd x6.toNat ((b.On.g x6.toNat).n:Int)).g i)) l)) (λi=>cI .i64 (((x4.upd x6.toNat ((b.On.g x6.toNat).n:Int)).upd x6.toNat (wrap .i64 (((x4.upd x6.toNat ((b.On.g x6.toNat).n:Int)).g x6.toNat)+((x4.upd x6.toNat ((b.On.g x6.toNat).n:Int)).g (b.Tree.g x6.toNat).Ye.toNat)))).g i)))] (al1 ⟨rfl,Zu (c:=cI .i64) (v:=x4.upd x6.toNat ((b.On.g x6.toNat).n:Int)) (x:=wrap .i64 (((x4.upd x6.toNat ((b.On.g x6.toNat).n:Int)).g x6.toNat)+((x4.upd x6.toNat ((b.On.g x6.toNat).n:Int)).g (b.Tree.g x6.toNat).Ye.toNat))) same (λ_=>by first|rfl|(dsimp only;split<;>rfl))⟩ al0))
   exact j S3 h
  refine kJ Z h (λh=>?_) (λh=>?_)
  .cases h;exact kR Z
  refine E8 Z S3 h (λf d=>kps [(52,pN d),(4,pB f)] [51,50,17,16,15,3,1] [] [14000]) (λr f d s h=>?_);apply kI Z h<;>intro h
  .obtain⟨c49,h⟩:=C4 h;refine kB Z (A3 Z) c49 S3 10 (.o (.o (.a f) (.a (decide (((b.On.g x6.toNat).g d.toNat)<0)))) (.a (decide ((b.Laws.n:Int)<=((b.On.g x6.toNat).g d.toNat))))) ?_;exact s S3 h
  exact q S3 h
 refine Ym Z h fun h=>?_;cases h;exact kR Z
def Q4 (N:Nat)(a:Yc):Option Int:= (W4 N a.Tree).bind λy1=>ite (y1 != 0) (some 16) (ite (decide (64<(a.Laws.n:Int))) (some 12) (U1 N (λb (x1:List (Str×Int)) (x2:Int)=>ite (decide (x2<(a.Laws.n:Int))) (ite ((0:Int)<=x2/\x2<(a.Laws.n:Int)) ((Z9 N (a.Laws.g x2.toNat)).bind λy4=>ite (y4 != 0) (some 17) (JD (M7 eqS (a.Laws.g x2.toNat).Name x1) (b (FZ eqS (a.Laws.g x2.toNat).Name (wrap .i64 (0+1)) x1) (wrap .i64 (x2+1))) λv3=>b (FZ eqS (a.Laws.g x2.toNat).Name (wrap .i64 (v3+1)) x1) (wrap .i64 (x2+1)))) none) (ite (decide (((DQ PV.str (pI .i64) x1).length:Int)<(a.Laws.n:Int))) (some 6) (ite ((a.On.n:Int) != (a.Tree.n:Int)) (some 2) ((AZ N a).bind λy5=>some y5)))) [] 0))
theorem Gp {a:Yc}{y:Int}(h:Q4 N a=some y) :Uw S JS [.p (.agg (A9 a))] [] (pN y) ([]) []:=by
 unfold Q4 at h;refine A1 Z func96 ?_;refine kC Z h (GY Z Y) (λy1 h=>?_);refine Ym Z h fun h=>?_;refine Ym Z h fun h=>?_;refine E8 Z S3 h (λx1 x2=>kps [(18,pN x2)] [17,16,3,1] [(15000,oM PV.str (pI .i64) x1)] [2000]) (λc x1 x2 b h=>?_);apply kI Z h<;>intro h
 .obtain⟨c10,h⟩:=C4 h;refine kD Z h (Ur c10 Tc) (MG Z Y) (λy4 h=>?_);refine Ym Z h fun h=>?_;rcases o3:M7 eqS (a.Laws.g x2.toNat).Name x1 with _|v3
  .replace h:=An6 o3 h;refine Ar6 Z S3 M6 C8 PV.str (pI .i64) eqS o3 (pI .i64 0) S3 ?_;refine AO6 Z S3 M6 PV.str (pI .i64) eqS (a.Laws.g x2.toNat).Name (wrap .i64 (0+1)) x1 S3 ?_;exact b S3 h
  replace h:=Ab6 o3 h;refine Ar5 Z S3 M6 C8 PV.str (pI .i64) eqS o3 S3 ?_;refine AO6 Z S3 M6 PV.str (pI .i64) eqS (a.Laws.g x2.toNat).Name (wrap .i64 (v3+1)) x1 S3 ?_;exact b S3 h
 refine Ym Z h fun h=>?_;refine Ym Z h fun h=>?_;refine kC Z h (Tm Z Y) (λy5 h=>?_);cases h;exact kR Z
def Cn (N:Nat)(b:Yc)(a:Int):Option Bool:= some ((decide (0<=a))&&(decide (a<(b.Tree.n:Int))))
theorem Mf {c:Yc}{b:Int}{y:Bool}(h:Cn N c b=some y) :Uw S LO [.p (.agg (A9 c)),pN b] [] (pB y) ([]) []:=by unfold Cn at h;refine A1 Z func109 ?_;refine kB Z (A3 Z) S3 S3 6 (.n (.a (decide (0<=b))) (.a (decide (b<(c.Tree.n:Int))))) ?_;cases h;exact kR Z
def Y5 (N:Nat)(q0:Int)(q1:Sl Node):Option (List (Int)):= U1 N (λa (x1:Int) (x2:Sl Int)=>ite (decide (0<=x1)) (ite ((Uq 8 (x2.n+(Sl.of [x1]:Sl Int).n))/\((0:Int)<=x1/\x1<(q1.n:Int))) (a (q1.g x1.toNat).Ye (x2.push x1)) none) (N3 N (λb (x3:Int)=>ite (decide (0<=x3)) (ite (((0:Int)<=x3/\x3<(x2.n:Int))/\x3.toNat<x2.n) (BI (x2.g x3.toNat) (b (wrap .i64 (x3-1)))) none) (some [])) (wrap .i64 ((x2.n:Int)-1)))) q0 Te
theorem Tn {q0:Int}{q1:Sl Node}{L:List (Int)}(h:Y5 N q0 q1=some L) :FY S Gg [] [.reg 0 0,.reg 1 0] [.cells [pN q0],.cells [.p (vSl 2 F1 q1)]] (L.map (λ(x:Int)=>[pI .i64 x])):=by
 unfold Y5 at h;refine Fv Z func209 ?_;refine XJ Z S3 h (λx1 x2 L1=>⟨[(4,.vec 5500),(2,.reg 1 0),(1,.reg 0 0),(0,.yf 2)],[(5500,oV C8 1 (cI .i64) x2 false),(2,.yld (L1.map (λ(x:Int)=>[pI .i64 x])) true),(1,.cells [.p (vSl 2 F1 q1)]),(0,.cells [pN x1])]⟩) (λc x1 x2 L1 d h=>?_);apply kI Z h<;>intro h
 .obtain⟨c4,h⟩:=C4 h;exact d (Ur (Ur Td c4.1) c4.2) h (hle:=kl1 0 (O8 (cI .i64) x2 x1 [pI .i64 0]))
 refine DY Z S3 h (λx3 L2=>⟨[(5,pN x3),(4,.vec 5500),(0,.yf 2)],[(5500,oV C8 1 (cI .i64) x2 false),(2,.yld (L2.map (λ(x:Int)=>[pI .i64 x])) true),(1,.cells [.p (vSl 2 F1 q1)]),(0,.cells [pN x1])]⟩) (λf x3 L2 i h=>?_);apply kI Z h<;>intro h
 .obtain⟨c14,h⟩:=C4 h;obtain⟨L5,rfl,b⟩:=OL h;replace h:=b;refine DX Z c14 (ys:=(λ(x:Int)=>[pI .i64 x]) (x2.g x3.toNat)) (rest:=L5.map (λ(x:Int)=>[pI .i64 x])) ?_ ?_
  .refine kF Z ?_;exact i S3 h
  refine kT Z ?_;exact kO Z S3 (a:=.tup []) (objs:=[(.cells [pN x1]),.cells [.p (vSl 2 F1 q1)],.yld [] false]) [0,1,2] ⟨false,rfl,rfl,_,rfl⟩
 obtain rfl:=A5 h;exact kO Z S3 (a:=.tup []) (objs:=[(.cells [pN x1]),.cells [.p (vSl 2 F1 q1)],.yld [] true]) [0,1,2] ⟨true,rfl,rfl,_,rfl⟩
def Fx (N:Nat)(a:Sl Node)(b:Int):Option (Int×(Sl Node)):= some (b,a)
theorem YJ {a:Sl Node}{b:Int}{y:Int×(Sl Node)}(h:Fx N a b=some y) :Uw S NM [.p (vSl 2 F1 a),pN b] [] (.clo Gg [] [.reg 0 0,.reg 1 0]) ([.cells [pN y.1],.cells [.p (vSl 2 F1 y.2)]]) []:=by unfold Fx at h;refine A1 Z func153 ?_;obtain rfl:=A5 h;exact kO Z S3 [4000,3000]
def Co (N:Nat)(a:Yc)(c:Int):Option ((Sl Int)×Int):= (Q4 N a).bind λy1=>ite (y1 != 0) (some (Te,y1)) ((Cn N a c).bind λy2=>ite (!y2) (some (Te,3)) ((Fx N a.Tree c).bind λy3=>(Y5 N y3.1 y3.2).bind λL1=>T1 L1 (λb (x1:Int) (z1:Sl Int)=>ite (((0:Int)<=x1/\x1<(a.On.n:Int))/\(Uq 8 (z1.n+(a.On.g x1.toNat).n))) (b (z1.app (a.On.g x1.toNat))) none) (λ(z1:Sl Int)=>some (z1,0)) Te))
theorem UW {a:Yc}{b:Int}{y:(Sl Int)×Int}(h:Co N a b=some y) :Uw S LM [.p (.agg (A9 a)),pN b] [] (.tup [.vec 0,pN y.2]) ([oV C8 1 (cI .i64) y.1 true]) []:=by
 unfold Co at h;refine A1 Z func107 ?_;refine C7 Z S3 4 3000 (A9 a) ?_;refine kD Z h Sw (Gp Z Y) (λy1 h=>?_);apply kI Z h<;>intro h
 .obtain rfl:=A5 h;exact kO Z S3 [5700]
 refine kD Z h Sw (Mf Z Y) (λy2 h=>?_);apply kI Z h<;>intro h
 .obtain rfl:=A5 h;exact kO Z S3 [5700]
 refine kC Z h (YJ Z Y) (λy3 h=>?_);obtain⟨L1,e4,h⟩:=E4 h;refine JH Z S3 [22000,22001] [7,2] 901 (λz1=>⟨[(7,.reg 8000 0),(2,.p (.ptr (A9 a)))],[(8500,oV C8 1 (cI .i64) z1 false),(8000,.cells [.vec 8500])]⟩) h (Tn Z Y e4) (λ_=>by kernel_rfl) (λ_=>by kernel_rfl) (λ_=>by kernel_rfl) (λ_=>by kernel_rfl) (λx1 c z1 d h=>?_) (λz1 h=>?_)
 .refine Nr Z S3 ?_;refine B4 Z S3 [2,4,5] ?_;refine dE h (λh=>?_);exact d S3 h (hle:=kl1 0 (appS (cI .i64) z1 (a.On.g x1.toNat)))
 obtain rfl:=A5 h;exact kO Z S3 [8500]
def U9 (rec:Pat->Option Pat)(N:Nat)(a:Pat):Option Pat:= N3 N (λb (x2:Int)=>ite (decide (x2<(a.L.n:Int))) (ite ((0:Int)<=x2/\x2<(a.L.n:Int)) ((rec (a.L.g x2.toNat)).bind λy3=>ite (Uq 64 (x2.toNat+1)) (b (wrap .i64 (x2+1))) none) none) (ite (x2.toNat=a.L.n) (some a) none)) 0
def T9:Nat->Pat->Option Pat
 |0=>λ_=>none
 |N+1=>U9 (T9 N) N
omit Z Y in
theorem wrapN {x:Int}(h:0<=x)(a:x.toNat+1<=140737488355328):(wrap .i64 (x+1)).toNat=x.toNat+1:=by have h1:(x+1) % (2 ^ 64:Int)=x+1:=Int.emod_eq_of_lt (by omega) (by omega);unfold wrap;simp only[IntKind.bits,IntKind.signed,h1];rw[Js (by simp;omega)];omega
theorem Oe {rec:Pat->Option Pat}(b:∀{a:Pat}{y:Pat},rec a=some y->Uw S Bp [.p (.agg (C5 a))] [] (.p (.agg (C5 a))) ([]) []){a:Pat}{y:Pat}(h:U9 rec N a=some y) :Uw S Bp [.p (.agg (C5 a))] [] (.p (.agg (C5 a))) ([]) []:=by
 unfold U9 at h;refine A1 Z func154 ?_;refine I6 Z S3 8 (kps [(7,.p (vSl 7 C5 a.L))] [3,2,1] [(3000,.cells [pN 0,pU 0,pU 0,.p (.v (.bool false)),pN 0,pN 0,.p I1]),(2000,.cells ((C5 a).map .p))] []) ?_ (hle:=klR [(0,.fn a.L.n a.L.n (CE a) (λi=>C5 (a.L.g i)))] (al1 ⟨rfl,P8 a⟩ al0));refine E2 Z S3 h (λx2=>kps [(9,pN x2),(8,pN (a.L.n:Int)),(7,.p (vSl 7 C5 a.L)),(3,.vec 4500),(2,.reg 3000 0),(1,.reg 2000 0)] [] [(4500,.vec HF 7 x2.toNat (λi=>C5 (a.L.g i)) false)] [3000,2000]) (λc x2 d h=>?_);apply kI Z h<;>intro h
 .obtain⟨c6,h⟩:=C4 h;obtain⟨y3,e3,h⟩:=E4 h;refine D6 Z [] (Ur c6 Sz) (b e3) ?_;obtain⟨c7,h⟩:=C4 h;exact d (Ur Td c7) h (hle:=kl1 3 (L:=.fn (x2.toNat+1) (wrap .i64 (x2+1)).toNat (DO x2.toNat (λi=>C5 (a.L.g i)) (G9 Ys [(0,C5 (a.L.g x2.toNat))])) (λi=>C5 (a.L.g i))) ⟨(wrapN c6.1 c7.2).symm,λi f=>by
   unfold DO;split
   .rfl
   obtain rfl:i=x2.toNat:=by omega
   simp[G9]⟩)
 obtain⟨c8,h⟩:=C4 h;exact I9 Z S3 ⟨[(2,.reg 3000 0)],[(3000,.cells [pN a.Kind,pU a.Is.Plus,pU a.Is.Minus,pB a.Not,pN a.Min,pN a.Max,.p (.sl false 7 a.L.n (CE a))])]⟩ [] ⟨rfl,rfl,rfl⟩ (hle:=kl1 6 (L:=.fn x2.toNat a.L.n (λi=>C5 (a.L.g i)) (CE a)) ⟨c8,λi f=>(P8 a i (by omega)).symm⟩)
theorem HH {a:Pat}{y:Pat}(h:T9 N a=some y) :Uw S Bp [.p (.agg (C5 a))] [] (.p (.agg (C5 a))) ([]) []:=by
 induction N generalizing a y with
 |zero=>cases (show (none:Option Pat)=some y from h)
 |succ N ih=>exact Oe Z Y (λe=>ih e) h
def V8 (N:Nat)(a:Law):Option Law:= (T9 N a.Left).bind λ_=>(T9 N a.Right).bind λ_=>(B1 N a.If).bind λy3=>(H9 N a.Out).bind λy4=>some (⟨a.Name,a.Left,a.Right,y3,y4,a.Mode⟩:Law)
theorem Jm {a:Law}{y:Law}(h:V8 N a=some y) :Uw S Jd [.p (.agg (B6 a))] [] (.p (.agg (B6 y))) ([]) []:=by unfold V8 at h;refine A1 Z func111 ?_;refine B4 Z S3 [2,5] ?_;refine dP h S3 (HH Z Y) (λy1 h=>?_);refine dP h S3 (HH Z Y) (λy2 h=>?_);refine D5 S3 ?_;refine B4 Z S3 [2,5] ?_;refine dP h S3 (Bs Z Y) (λy3 h=>?_);refine dP h S3 (Dk Z Y) (λy4 h=>?_);refine D5 S3 ?_;cases h;exact kR Z
def Cp (N:Nat)(c:Yc)(a:Sl Int):Option (Sl Law):= U1 N (λb (x1:Sl Law) (x2:Int)=>ite (decide (x2<(a.n:Int))) (ite (((0:Int)<=x2/\x2<(a.n:Int))/\((0:Int)<=(a.g x2.toNat)/\(a.g x2.toNat)<(c.Laws.n:Int))) ((V8 N (c.Laws.g (a.g x2.toNat).toNat)).bind λy3=>ite (Uq 200 (x1.n+(Sl.of [y3]:Sl Law).n)) (b (x1.push y3) (wrap .i64 (x2+1))) none) none) (some x1)) (Sl.nil:Sl Law) 0
abbrev Yr:List PV:=[.str [],pI .i64 0,pI .u32 0,pI .u32 0,.v (.bool false),pI .i64 0,pI .i64 0,I1,pI .i64 0,pI .u32 0,pI .u32 0,.v (.bool false),pI .i64 0,pI .i64 0,I1,I1,I1,pI .i64 0]
theorem UX {b:Yc}{a:Sl Int}{y:Sl Law}(h:Cp N b a=some y) :Uw S LN [.p (.agg (A9 b)),.p (vSl 1 (cI .i64) a)] [] (.p (vSl 18 B6 y)) ([]) []:=by
 unfold Cp at h;refine A1 Z func108 ?_;refine E8 Z S3 h (λx1 x2=>kps [(10,pN x2),(9,pN (a.n:Int)),(8,.p (vSl 1 (cI .i64) a)),(5,.vec 6500),(2,.reg 3000 0)] [] [(6500,oV H6 18 B6 x1 false)] [3000]) (λc x1 x2 d h=>?_);apply kI Z h<;>intro h
 .obtain⟨c6,h⟩:=C4 h;refine kD Z h (Ur (Ur c6.1 c6.2) Tc) (Jm Z Y) (λy3 h=>?_);obtain⟨c7,h⟩:=C4 h;exact d (Ur Td c7) h (hle:=kl1 3 (O8 B6 x1 y3 Yr))
 obtain rfl:=A5 h;exact kO Z S3 []
def Cq (N:Nat)(a:Yc)(b:Int):Option ((Sl Law)×Int):= (Co N a b).bind λy1=>(Cp N a y1.1).bind λy2=>some (y2,y1.2)
theorem UY {a:Yc}{b:Int}{y:(Sl Law)×Int}(h:Cq N a b=some y) :Uw S LH [.p (.agg (A9 a)),pN b] [] (.tup [.p (vSl 18 B6 y.1),pN y.2]) ([]) []:=by unfold Cq at h;refine A1 Z func70 ?_;refine kC Z h (UW Z Y) (λy1 h=>?_);refine kC Z h (UX Z Y) (λy2 h=>?_);cases h;exact kR Z
omit Z Y
abbrev DP {T:Type}(e:TypeId)(k:Nat)(c:T->List PV)(x:Sl T):Obj:=.vec e k x.n (λq=>c (x.g q)) false
def BY9 {T:Type}{e:TypeId}{k n i:Nat}{c:T->List PV}{X:Sl (Sl T)}{z:Sl T}:∀q,q<n->(λq=>ite (q=i) (DP e k c z) (ite (q=i) Obj.dead (DP e k c (X.g q)))) q=(λq=>DP e k c ((X.upd i z).g q)) q:=by grind
include Z Y
def Ba (N:Nat)(a:Sl Node):Option (Sl (Sl Int)):= ite ((0:Int)<=(a.n:Int)/\(a.n:Int)<=(a.n:Int)/\(a.n:Int)*24<=140737488355328/\(a.n:Int)<=140737488355328) (U1 N (λb (x:Int) (X:Sl (Sl Int))=>ite (decide (x<(a.n:Int))) (ite ((0:Int)<=x/\x<(a.n:Int)) (ite ((a.g x.toNat).Ye.toNat<X.n) (lt (λ(z:Sl Int)=>b (wrap .i64 (x+1)) (X.upd (a.g x.toNat).Ye.toNat z)) λk=>ite (decide (0<x)) (ite (((0:Int)<=(a.g x.toNat).Ye/\(a.g x.toNat).Ye<(X.n:Int))/\(Uq 8 ((X.g (a.g x.toNat).Ye.toNat).n+1))) (k ((X.g (a.g x.toNat).Ye.toNat).push x)) none) (k (X.g (a.g x.toNat).Ye.toNat))) none) none) (some X)) 0 ⟨a.n,λ_=>Sl.nil⟩) none
theorem To {N:Nat}{b:Sl Node}{y:Sl (Sl Int)}(h:Ba N b=some y) :Uw S JT [.p (vSl 2 F1 b)] [] (.p (vSl 1 (cL 1 (cI .i64)) y)) [] []:=by
 unfold Ba at h;refine A1 Z Tryz.func118 ?_;obtain⟨c1,h⟩:=C4 h;refine Dc Z c1 9 (.fam 9000 9901 λi=>DP C8 1 (cI .i64) ((⟨b.n,λ_=>Sl.nil⟩:Sl (Sl Int)).g i)) (⟨by decide,λi _=>rfl⟩:1000<=9901/\∀i,i<b.n->Ro [I1] (DP C8 1 (cI .i64) ((⟨b.n,λ_=>Sl.nil⟩:Sl (Sl Int)).g i))) ?_;refine E8 Z S3 h (λx X=>kps [(11,pN x)] [10,9,3] [(9901,.rows X.n λi=>DP C8 1 (cI .i64) (X.g i)),(9000,.fam Et X.n 9901 none)] []) (λf x X d h=>?_);apply kI Z h<;>intro h
 .obtain⟨c2,h⟩:=C4 h;obtain⟨c3,h⟩:=C4 h;refine Dc Z (Ur c2 Sp) 17 (.take 9000 (b.g x.toNat).Ye.toNat 9801) (⟨⟨by decide,rfl⟩,c3⟩:(1000<=9801/\X.n=X.n)/\(b.g x.toNat).Ye.toNat<X.n) ?_;refine GN Z S3 (A3 Z) h 0 (λz=>kps [] [11,10,9,3] [(9801,DP C8 1 (cI .i64) z)] [9901,9000]) (λk c h=>?_) (λz h=>?_)
  .apply kI Z h<;>intro h
   .obtain⟨c4,h⟩:=C4 h;refine G1 Z S3 [(0,.n),(1,.n),(2,.l [6000]),(3,.n),(4,.n),(5,.l [6000]),(6,.l [9000]),(7,.l [9000]),(8,.n),(10,.a [29000,9801]),(11,.l [9000]),(12,.a [9000])] ?_;refine O3 (Ur c4.1 (Ur c3 (rfl:(b.g x.toNat).Ye.toNat=(b.g x.toNat).Ye.toNat))) (x:=.sl true 1 1 (G9 [pI .i64 0] [(0,cI .i64 x)])) ?_;refine D5 (Ur (Ur c4.2 c4.1) (Ur c3 (rfl:(b.g x.toNat).Ye.toNat=(b.g x.toNat).Ye.toNat))) ?_;exact c S3 h (hle:=kl1 5 (O8 (cI .i64) (X.g (b.g x.toNat).Ye.toNat) x [pI .i64 0]))
   exact c S3 h
  refine Dc Z S3 30 (.put 9000 9902) (⟨⟨by decide,rfl⟩,c3⟩:(1000<=9902/\X.n=X.n)/\(b.g x.toNat).Ye.toNat<X.n) ?_;exact d S3 h (hle:=klR [(4,.ob X.n (λq=>ite (q=(b.g x.toNat).Ye.toNat) (DP C8 1 (cI .i64) z) (ite (q=(b.g x.toNat).Ye.toNat) (.dead) (DP C8 1 (cI .i64) (X.g q)))) λi=>DP C8 1 (cI .i64) ((X.upd (b.g x.toNat).Ye.toNat z).g i))] (al1 BY9 al0))
 refine Dc Z S3 31 (.pub 9000) (⟨rfl,λi _=>rfl⟩:X.n=X.n/\∀i,i<X.n->(Xf (DP C8 1 (cI .i64) (X.g i))).isSome=true) ?_;obtain rfl:=A5 h;exact kO Z S3 [] (hle:=klR [(0,.fn X.n X.n (λi=>[(Xf (DP C8 1 (cI .i64) (X.g i))).getD default]) (λi=>cL 1 (cI .i64) (X.g i)))] (al1 ⟨rfl,λ_ _=>rfl⟩ al0))
def DB (N:Nat)(b:Sl Node):Option (Sl Int):= (Ba N b).bind λy1=>U1 N (λa (x1:Sl Int) (x2:Int)=>ite (decide (x2<(y1.n:Int))) (ite ((0:Int)<=x2/\x2<(y1.n:Int)) (ite (((y1.g x2.toNat).n:Int)==0) (ite (Uq 8 (x1.n+(Sl.of [x2]:Sl Int).n)) (a (x1.push x2) (wrap .i64 (x2+1))) none) (a x1 (wrap .i64 (x2+1)))) none) (some x1)) Te 0
theorem YK {a:Sl Node}{y:Sl Int}(h:DB N a=some y) :Uw S NH [.p (vSl 2 F1 a)] [] (.vec 0) ([oV C8 1 (cI .i64) y true]) []:=by
 unfold DB at h;refine A1 Z func82 ?_;refine kC Z h (To Z Y) (λy1 h=>?_);refine E8 Z S3 h (λx1 x2 _=>⟨[(9,pN x2),(8,pN (y1.n:Int)),(7,.p (vSl 1 (cL 1 (cI .i64)) y1)),(3,.vec 4500)],[(4500,oV C8 1 (cI .i64) x1 false)]⟩) (λc x1 x2 b h=>?_);apply kI Z h<;>intro h
 .refine kJ Z h (λh=>?_) (λh=>?_)
  .obtain⟨c10,h⟩:=C4 h;exact b (Ur Td c10) h (hle:=kl1 3 (O8 (cI .i64) x1 x2 [pI .i64 0]))
  exact b S3 h
 obtain rfl:=A5 h;exact kO Z S3 [4500]
def T3 (N:Nat)(a:Sl Node):Option ((Sl Int)×Int):= (W4 N a).bind λy1=>ite (y1 != 0) (some (Te,y1)) ((DB N a).bind λy2=>some (y2,0))
theorem Fy {a:Sl Node}{y:(Sl Int)×Int}(h:T3 N a=some y) :Uw S ND [.p (vSl 2 F1 a)] [] (.tup [.vec 0,pN y.2]) ([oV C8 1 (cI .i64) y.1 true]) []:=by
 unfold T3 at h;refine A1 Z func46 ?_;refine kC Z h (GY Z Y) (λy1 h=>?_);apply kI Z h<;>intro h
 .obtain rfl:=A5 h;exact kO Z S3 [3700]
 refine kC Z h (YK Z Y) (λy2 h=>?_);obtain rfl:=A5 h;exact kO Z S3 [12000]
def Cr (N:Nat)(b:Sl Node)(c:Int):Option (Sl Int):= U1 N (λa (x1:Sl Int) (x2:Int)=>ite (decide (x2<(b.n:Int))) (ite ((0:Int)<=x2/\x2<(b.n:Int)) (ite ((b.g x2.toNat).Ye==c) (ite (Uq 8 (x1.n+(Sl.of [x2]:Sl Int).n)) (a (x1.push x2) (wrap .i64 (x2+1))) none) (a x1 (wrap .i64 (x2+1)))) none) (some x1)) Te 0
theorem UZ {a:Sl Node}{b:Int}{y:Sl Int}(h:Cr N a b=some y) :Uw S LQ [.p (vSl 2 F1 a),pN b] [] (.vec 0) ([oV C8 1 (cI .i64) y true]) []:=by
 unfold Cr at h;refine A1 Z func125 ?_;refine E8 Z S3 h (λx1 x2 _=>⟨[(6,pN x2),(5,.vec 6500),(1,pN b),(0,.p (vSl 2 F1 a))],[(6500,oV C8 1 (cI .i64) x1 false)]⟩) (λd x1 x2 c h=>?_);apply kI Z h<;>intro h
 .refine kJ Z h (λh=>?_) (λh=>?_)
  .obtain⟨c10,h⟩:=C4 h;exact c (Ur Td c10) h (hle:=kl1 3 (O8 (cI .i64) x1 x2 [pI .i64 0]))
  exact c S3 h
 obtain rfl:=A5 h;exact kO Z S3 [6500]
def Z4 (N:Nat)(b:Sl Node):Option ((Sl Int)×Int):= (AY N b).bind λy1=>ite (y1 != 0) (some (Te,y1)) (U1 N (λa (x1:Sl Int) (x2:Int)=>ite (decide (x2<(b.n:Int))) ((Cr N b x2).bind λy4=>ite ((y4.n:Int)==0) (ite (Uq 8 (x1.n+(Sl.of [x2]:Sl Int).n)) (a (x1.push x2) (wrap .i64 (x2+1))) none) (a x1 (wrap .i64 (x2+1)))) (some (x1,0))) Te 0)
theorem Kl {a:Sl Node}{y:(Sl Int)×Int}(h:Z4 N a=some y) :Uw S PW [.p (vSl 2 F1 a)] [] (.tup [.vec 0,pN y.2]) ([oV C8 1 (cI .i64) y.1 true]) []:=by
 unfold Z4 at h;refine A1 Z func87 ?_;refine kC Z h (MH Z Y) (λy1 h=>?_);apply kI Z h<;>intro h
 .obtain rfl:=A5 h;exact kO Z S3 [3700]
 refine E8 Z S3 h (λx1 x2 _=>⟨[(6,pN x2),(5,.vec 6500),(0,.p (vSl 2 F1 a))],[(6500,oV C8 1 (cI .i64) x1 false)]⟩) (λc x1 x2 b h=>?_);apply kI Z h<;>intro h
 .refine kC Z h (UZ Z Y) (λy4 h=>?_);apply kI Z h<;>intro h
  .obtain⟨c8,h⟩:=C4 h;exact b (Ur Td c8) h (hle:=kl1 2 (O8 (cI .i64) x1 x2 [pI .i64 0]))
  exact b S3 h
 obtain rfl:=A5 h;exact kO Z S3 [6500]
def EP (N:Nat)(c:Sl Node)(a:Sl Int):Option Int:= (W4 N c).bind λy1=>ite (y1 != 0) (some y1) (N3 N (λb (x1:Int)=>ite (decide (x1<(a.n:Int))) (ite ((0:Int)<=x1/\x1<(a.n:Int)) (ite ((decide ((a.g x1.toNat)<0))||(decide ((c.n:Int)<=(a.g x1.toNat)))) (some 3) (b (wrap .i64 (x1+1)))) none) (some 0)) 0)
theorem Ai5 {c:Sl Node}{b:Sl Int}{y:Int}(h:EP N c b=some y) :Uw S Qb [.p (vSl 2 F1 c),.p (vSl 1 (cI .i64) b)] [] (pN y) ([]) []:=by
 unfold EP at h;refine A1 Z func140 ?_;refine kC Z h (GY Z Y) (λy1 h=>?_);refine Ym Z h fun h=>?_;refine E2 Z S3 h (λx1=>kps [(15,pN x1)] [14,13,0] [] []) (λd x1 f h=>?_);apply kI Z h<;>intro h
 .obtain⟨c9,h⟩:=C4 h;refine kB Z (A3 Z) c9 S3 5 (.o (.a (decide ((b.g x1.toNat)<0))) (.a (decide ((c.n:Int)<=(b.g x1.toNat))))) ?_;refine Ym Z h fun h=>?_;exact f S3 h
 cases h;exact kR Z
def Gq (N:Nat)(q0:Int)(q1:Sl Node):Option (List (Int)):= N3 N (λa (x1:Int)=>ite (decide (0<=x1)) (BI x1 (ite ((0:Int)<=x1/\x1<(q1.n:Int)) (a (q1.g x1.toNat).Ye) none)) (some [])) q0
theorem Aw9 {q0:Int}{q1:Sl Node}{L:List (Int)}(h:Gq N q0 q1=some L) :FY S ME [] [.reg 0 0,.reg 1 0] [.cells [pN q0],.cells [.p (vSl 2 F1 q1)]] (L.map (λ(x:Int)=>[pI .i64 x])):=by
 unfold Gq at h;refine Fv Z func192 ?_;refine DY Z S3 h (λx1 L1=>⟨[(2,.reg 1 0),(1,.reg 0 0),(0,.yf 2)],[(2,.yld (L1.map (λ(x:Int)=>[pI .i64 x])) true),(1,.cells [.p (vSl 2 F1 q1)]),(0,.cells [pN x1])]⟩) (λc x1 L1 d h=>?_);apply kI Z h<;>intro h
 .obtain⟨L4,rfl,b⟩:=OL h;replace h:=b;refine DX Z S3 (ys:=(λ(x:Int)=>[pI .i64 x]) x1) (rest:=L4.map (λ(x:Int)=>[pI .i64 x])) ?_ ?_
  .refine kF Z ?_;obtain⟨c9,h⟩:=C4 h;exact d c9 h
  refine kT Z ?_;exact kO Z S3 (a:=.tup []) (objs:=[(.cells [pN x1]),.cells [.p (vSl 2 F1 q1)],.yld [] false]) [0,1,2] ⟨false,rfl,rfl,_,rfl⟩
 obtain rfl:=A5 h;exact kO Z S3 (a:=.tup []) (objs:=[(.cells [pN x1]),.cells [.p (vSl 2 F1 q1)],.yld [] true]) [0,1,2] ⟨true,rfl,rfl,_,rfl⟩
def Og (N:Nat)(a:Sl Node)(b:Int):Option (Int×(Sl Node)):= some (b,a)
theorem Bf7 {a:Sl Node}{b:Int}{y:Int×(Sl Node)}(h:Og N a b=some y) :Uw S Af2 [.p (vSl 2 F1 a),pN b] [] (.clo ME [] [.reg 0 0,.reg 1 0]) ([.cells [pN y.1],.cells [.p (vSl 2 F1 y.2)]]) []:=by unfold Og at h;refine A1 Z func142 ?_;obtain rfl:=A5 h;exact kO Z S3 [4000,3000]
def J9 (N:Nat)(a:List (Int)):Option (Sl Int):= T1 a (λb (x1:Int) (z1:Sl Int)=>ite (Uq 8 (z1.n+(Sl.of [x1]:Sl Int).n)) (b (z1.push x1)) none) (λ(z1:Sl Int)=>some z1) Te
theorem EQ {c:List (Int)}{a:Int}{b:(Sl Node)}{kp_seq:Nat}(fp_seq:∃fn,Cd7[kp_seq]? = some fn/\fn.body.isSome=true/\(fn.name == "runtime.NumGoroutine")=false)(d:FY S kp_seq [] [.reg 0 0,.reg 1 0] [(.cells [(pN a)]),(.cells [(.p (vSl 2 F1 b))])] (c.map (λ(x:Int)=>[(pI .i64) x]))){y:(Sl Int)}(h:J9 N c=some y) :Uw S R9 [(.p I1),(.clo kp_seq [] [(.reg 0 0),(.reg 1 0)])] [(.cells [(pN a)]),(.cells [(.p (vSl 2 F1 b))])] (.vec 0) ([(oV C8 1 (cI .i64) y false)]) [false,false]:=by
 unfold J9 at h;refine A1 Z func191 ?_;refine Rb Z S3 fp_seq [0,1] [2] 901 (λz1=>⟨[(2,(.reg 3000 0))],[(3500,(oV C8 1 (cI .i64) z1 false)),(3000,(.cells [(.vec 3500)]))]⟩) h d (λ_=>by kernel_rfl) (λ_=>by kernel_rfl) (λ_=>by kernel_rfl) (λ_=>by kernel_rfl) (λx1 f z1 g h=>?_) (λz1 h=>?_)
 .refine Nr Z S3 ?_;obtain⟨c1,h⟩:=C4 h;exact g (Ur Td c1) h (hle:=kl1 0 (O8 (cI .i64) z1 x1 [(pI .i64 0)]))
 obtain rfl:=A5 h;exact kO Z S3 [3500]
def W5 (N:Nat)(a:List (Int)):Option (Sl Int):= (J9 N a).bind λy1=>some y1
theorem Km {c:List (Int)}{a:Int}{b:(Sl Node)}{kp_seq:Nat}(fp_seq:∃fn,Cd7[kp_seq]? = some fn/\fn.body.isSome=true/\(fn.name == "runtime.NumGoroutine")=false)(d:FY S kp_seq [] [.reg 0 0,.reg 1 0] [(.cells [(pN a)]),(.cells [(.p (vSl 2 F1 b))])] (c.map (λ(x:Int)=>[(pI .i64) x]))){y:(Sl Int)}(h:W5 N c=some y) :Uw S BK [(.clo kp_seq [] [(.reg 0 0),(.reg 1 0)])] [(.cells [(pN a)]),(.cells [(.p (vSl 2 F1 b))])] (.vec 0) ([(oV C8 1 (cI .i64) y false)]) [false,false]:=by unfold W5 at h;refine A1 Z func141 ?_;obtain⟨y1,e1,h⟩:=E4 h;refine D6 Z [0,1] S3 (EQ Z Y fp_seq d e1) ?_;obtain rfl:=A5 h;exact kO Z S3 [5000]
def I8 (N:Nat)(b:Sl Int):Option (Sl Int):= Bb8 N (λa (x1:Sl Int) (x2:Int) (x3:Int)=>ite (decide (x2<x3)) (ite (((((((((0:Int)<=x3/\x3<(x1.n:Int))/\x3.toNat<x1.n)/\((0:Int)<=x2/\x2<(x1.n:Int)))/\x2.toNat<x1.n)/\((0:Int)<=x2/\x2<(x1.n:Int)))/\x2.toNat<x1.n)/\((0:Int)<=x3/\x3<((x1.upd x2.toNat (x1.g x3.toNat)).n:Int)))/\x3.toNat<(x1.upd x2.toNat (x1.g x3.toNat)).n) (a ((x1.upd x2.toNat (x1.g x3.toNat)).upd x3.toNat (x1.g x2.toNat)) (wrap .i64 (x2+1)) (wrap .i64 (x3-1))) none) (some x1)) b 0 (wrap .i64 ((b.n:Int)-1))
theorem Gr {a:Sl Int}{y:Sl Int}(h:I8 N a=some y) :Uw S AP [.vec 0] [oV C8 1 (cI .i64) a false] (.tup []) ([oV C8 1 (cI .i64) y false]) [true]:=by
 unfold I8 at h;refine A1 Z func143 ?_;refine Nq Z S3 h (λx1 x2 x3=>kps [(3,pN x3),(2,pN x2)] [0] [(0,oV C8 1 (cI .i64) x1 false)] []) (λb x1 x2 x3 d h=>?_);apply kI Z h<;>intro h
 .refine Gb Z S3 ?_;obtain⟨c6,h⟩:=C4 h;refine D5 (Ur (Ur (Ur (Ur (Ur (Ur (Ur c6.1.1.1.1.1.1.1 c6.1.1.1.1.1.1.2) c6.1.1.1.1.1.2) c6.1.1.1.1.2) c6.1.1.1.2) (Ur (rfl:(1:Nat)=1) (Ur c6.1.1.2 Sn))) c6.1.2) (Ur (rfl:(1:Nat)=1) (Ur c6.2 Sn))) ?_;exact d S3 h (hle:=klR [(2,.fn x1.n ((x1.upd x2.toNat (x1.g x3.toNat)).upd x3.toNat (x1.g x2.toNat)).n (λl=>ite (l=x3.toNat) (splice ((λl=>ite (l=x2.toNat) (splice ((λi=>cI .i64 (x1.g i)) l) 0 [pI .i64 (x1.g x3.toNat)]) ((λi=>cI .i64 (x1.g i)) l)) l) 0 [pI .i64 (x1.g x2.toNat)]) ((λl=>ite (l=x2.toNat) (splice ((λi=>cI .i64 (x1.g i)) l) 0 [pI .i64 (x1.g x3.toNat)]) ((λi=>cI .i64 (x1.g i)) l)) l)) (λi=>cI .i64 (((x1.upd x2.toNat (x1.g x3.toNat)).upd x3.toNat (x1.g x2.toNat)).g i)))] (al1 ⟨rfl,Zu (c:=cI .i64) (v:=x1.upd x2.toNat (x1.g x3.toNat)) (x:=x1.g x2.toNat) (Zu (c:=cI .i64) (v:=x1) (x:=x1.g x3.toNat) same (λ_=>by first|rfl|(dsimp only;split<;>rfl))) (λ_=>by first|rfl|(dsimp only;split<;>rfl))⟩ al0))
 obtain rfl:=A5 h;exact kO Z S3 [0]
def Gs (N:Nat)(a:Sl Node)(b:Int):Option ((Sl Int)×Int):= (EP N a (Sl.of [b]:Sl Int)).bind λy1=>ite (y1 != 0) (some (Te,y1)) ((Og N a b).bind λy2=>(Gq N y2.1 y2.2).bind λL1=>(W5 N L1).bind λy3=>(I8 N y3).bind λy4=>some (y4,0))
theorem Ax0 {b:Sl Node}{a:Int}{y:(Sl Int)×Int}(h:Gs N b a=some y) :Uw S Sy [.p (vSl 2 F1 b),pN a] [] (.tup [.vec 0,pN y.2]) ([oV C8 1 (cI .i64) y.1 true]) []:=by
 unfold Gs at h;refine A1 Z func100 ?_;refine Np Z Td (kps [] [10,8,1,0] [(11000,oV C8 1 (cI .i64) (Sl.of [a]:Sl Int) false)] []) ?_ (hle:=kl1 3 (AO5 (cI .i64) ([a]:List Int) [pI .i64 0]));refine kC Z h (Ai5 Z Y) (λy1 h=>?_);apply kI Z h<;>intro h
 .obtain rfl:=A5 h;exact kO Z S3 [5700]
 refine kC Z h (Bf7 Z Y) (λy2 h=>?_);obtain⟨L1,e3,h⟩:=E4 h;obtain⟨y3,e4,h⟩:=E4 h;refine D6 Z [18000,18001] S3 (Km Z Y ⟨_,func192,by decide +kernel,by decide +kernel⟩ (Aw9 Z Y e3) e4) ?_;obtain⟨y4,e5,h⟩:=E4 h;refine BK4 Z [19000] S3 (Gr Z Y e5) ?_;obtain rfl:=A5 h;exact kO Z S3 [19000]
def ER (N:Nat)(a:Sl Up):Option Str:= U1 N (λb (x1:Sl Int) (x2:Int)=>ite (decide (x2<(a.n:Int))) (ite ((0:Int)<=x2/\x2<(a.n:Int)) (ite (Uq 1 (x1.n+(Sh (a.g x2.toNat).Plus).n)) (ite (Uq 1 ((x1.app (Sh (a.g x2.toNat).Plus)).n+(Sh (a.g x2.toNat).Minus).n)) (b ((x1.app (Sh (a.g x2.toNat).Plus)).app (Sh (a.g x2.toNat).Minus)) (wrap .i64 (x2+1))) none) none) none) (some (Aq8 x1))) Te 0
theorem Qn {a:Sl Up}{y:Str}(h:ER N a=some y) :Uw S PY [.p (vSl 2 A0 a)] [] (.p (.str y)) ([]) []:=by
 unfold ER at h;refine A1 Z func102 ?_;refine E8 Z S3 h (λx1 x2 _=>⟨[(10,pN x2),(9,pN (a.n:Int)),(8,.p (vSl 2 A0 a)),(3,.vec 4500)],[(4500,oV I2 1 (cI .u8) x1 false)]⟩) (λd x1 x2 l h=>?_);apply kI Z h<;>intro h
 .obtain⟨c22,h⟩:=C4 h;refine Bt8 Z (Ur c22 Sp) 2 (unrT [λt=>t=⟨[(19,pN 0),(18,.p (.agg [pI .u32 (a.g x2.toNat).Plus,pI .u32 (a.g x2.toNat).Minus])),(10,pN x2),(9,pN (a.n:Int)),(8,.p (vSl 2 A0 a)),(3,.vec 4501)],[(4501,oV I2 1 (cI .u8) x1 false)]⟩/\(
   if (Uq 1 (x1.n+(Sh (a.g x2.toNat).Plus).n))then
    if (Uq 1 ((x1.app (Sh (a.g x2.toNat).Plus)).n+(Sh (a.g x2.toNat).Minus).n))then
     d ((x1.app (Sh (a.g x2.toNat).Plus)).app (Sh (a.g x2.toNat).Minus)) (wrap .i64 (x2+1))
    else none
   else none
   )=some y,λt=>t=⟨[(19,pN 1),(18,.p (.agg [pI .u32 (a.g x2.toNat).Plus,pI .u32 (a.g x2.toNat).Minus])),(10,pN x2),(9,pN (a.n:Int)),(8,.p (vSl 2 A0 a)),(3,.vec 4500)],[(4500,.vec I2 1 (x1.app (Sh (a.g x2.toNat).Plus)).n (λi=>cI .u8 ((x1.app (Sh (a.g x2.toNat).Plus)).g i)) false)]⟩/\(
    if (Uq 1 ((x1.app (Sh (a.g x2.toNat).Plus)).n+(Sh (a.g x2.toNat).Minus).n))then
     d ((x1.app (Sh (a.g x2.toNat).Plus)).app (Sh (a.g x2.toNat).Minus)) (wrap .i64 (x2+1))
    else none
   )=some y,λt=>t=⟨[(19,pN 2),(18,.p (.agg [pI .u32 (a.g x2.toNat).Plus,pI .u32 (a.g x2.toNat).Minus])),(10,pN x2),(9,pN (a.n:Int)),(8,.p (vSl 2 A0 a)),(3,.vec 4501)],[(4501,.vec I2 1 ((x1.app (Sh (a.g x2.toNat).Plus)).app (Sh (a.g x2.toNat).Minus)).n (λi=>cI .u8 (((x1.app (Sh (a.g x2.toNat).Plus)).app (Sh (a.g x2.toNat).Minus)).g i)) false)]⟩/\(
    d ((x1.app (Sh (a.g x2.toNat).Plus)).app (Sh (a.g x2.toNat).Minus)) (wrap .i64 (x2+1))
   )=some y]) ⟨[(19,pN 0),(18,.p (.agg [pI .u32 (a.g x2.toNat).Plus,pI .u32 (a.g x2.toNat).Minus])),(10,pN x2),(9,pN (a.n:Int)),(8,.p (vSl 2 A0 a)),(3,.vec 4501)],[(4501,oV I2 1 (cI .u8) x1 false)]⟩ ⟨rfl,h⟩ (λi t f ht j=>?_)
  rcases i with _|_|_|i
  .obtain⟨rfl,h⟩:=ht;refine O0 Z S3 (b:=decide ((0:Int)<2)) (λc29=>?_) (λc29=>?_)
   .obtain⟨c30,h⟩:=C4 h;exact j (Ur (Ur (Ur (Ur (by decide:(0:Int)<=0/\(0:Int)<2) (by decide:(0:Int)<=8)) (by decide:(0:Int)<=16)) Td) c30) rfl ⟨rfl,h⟩ (hle:=klR [(5,.fn (x1.n+3) (x1.app (Sh (a.g x2.toNat).Plus)).n (DO x1.n (λi=>cI .u8 (x1.g i)) (G9 [pI .u8 0] [(0,cI .u8 (wrap .u8 (a.g x2.toNat).Plus)),(1,cI .u8 (wrap .u8 (shI .shr .u32 (a.g x2.toNat).Plus 8))),(2,cI .u8 (wrap .u8 (shI .shr .u32 (a.g x2.toNat).Plus 16)))])) (λi=>cI .u8 ((x1.app (Sh (a.g x2.toNat).Plus)).g i)))] (al1 ⟨rfl,Aq7 (c:=cI .u8) (v:=x1) (w:=(Sh (a.g x2.toNat).Plus)) same rfl (λi f=>match i,f with|0,_=>rfl|1,_=>rfl|2,_=>rfl|_+3,f=>Ke f (by omega)) rfl⟩ al0))
   exact Bool.noConfusion ((by decide:decide ((0:Int)<2)=true).symm.trans c29)
  .obtain⟨rfl,h⟩:=ht;refine O0 Z S3 (b:=decide ((1:Int)<2)) (λc27=>?_) (λc27=>?_)
   .obtain⟨c28,h⟩:=C4 h;exact j (Ur (Ur (Ur (Ur (by decide:(0:Int)<=1/\(1:Int)<2) (by decide:(0:Int)<=8)) (by decide:(0:Int)<=16)) Td) c28) rfl ⟨rfl,h⟩ (hle:=klR [(5,.fn ((x1.app (Sh (a.g x2.toNat).Plus)).n+3) ((x1.app (Sh (a.g x2.toNat).Plus)).app (Sh (a.g x2.toNat).Minus)).n (DO (x1.app (Sh (a.g x2.toNat).Plus)).n (λi=>cI .u8 ((x1.app (Sh (a.g x2.toNat).Plus)).g i)) (G9 [pI .u8 0] [(0,cI .u8 (wrap .u8 (a.g x2.toNat).Minus)),(1,cI .u8 (wrap .u8 (shI .shr .u32 (a.g x2.toNat).Minus 8))),(2,cI .u8 (wrap .u8 (shI .shr .u32 (a.g x2.toNat).Minus 16)))])) (λi=>cI .u8 (((x1.app (Sh (a.g x2.toNat).Plus)).app (Sh (a.g x2.toNat).Minus)).g i)))] (al1 ⟨rfl,Aq7 (c:=cI .u8) (v:=x1.app (Sh (a.g x2.toNat).Plus)) (w:=(Sh (a.g x2.toNat).Minus)) same rfl (λi f=>match i,f with|0,_=>rfl|1,_=>rfl|2,_=>rfl|_+3,f=>Ke f (by omega)) rfl⟩ al0))
   exact Bool.noConfusion ((by decide:decide ((1:Int)<2)=true).symm.trans c27)
  .obtain⟨rfl,h⟩:=ht;refine O0 Z S3 (b:=decide ((2:Int)<2)) (λc26=>?_) (λc26=>?_)
   .exact Bool.noConfusion ((by decide:decide ((2:Int)<2)=false).symm.trans c26)
   exact l S3 h
  exact Ke f (by omega)
 obtain rfl:=A5 h;exact Bc6 Z ((λ_ _=>rfl):∀i:Nat,i<x1.n->true=true) [] ⟨rfl,rfl,rfl⟩
def D8 (N:Nat)(a:Sl M8)(c:M8->Option Bool):Option Int:= N3 N (λb (x1:Int)=>ite (decide (x1<(a.n:Int))) (ite ((0:Int)<=x1/\x1<(a.n:Int)) ((c (a.g x1.toNat)).bind λy3=>ite y3 (some x1) (b (wrap .i64 (x1+1)))) none) (some (-1))) 0
theorem Bb {a:Sl M8}{c:M8->Option Bool}{kp_f:Nat}(d:∀{a0:M8}{b:Bool},c a0=some b->Uw S kp_f [.p (.agg (I4 a0))] [] (pB b) [] []){y:Int}(h:D8 N a c=some y) :Uw S Q1 [.p (vSl 2 I4 a),.clo kp_f [] []] [] (pN y) ([]) []:=by
 unfold D8 at h;refine A1 Z func190 ?_;refine E2 Z S3 h (λx1=>kps [(8,pN x1)] [7,1,0] [] []) (λf x1 g h=>?_);apply kI Z h<;>intro h
 .obtain⟨c8,h⟩:=C4 h;obtain⟨y3,e3,h⟩:=E4 h;refine D6 Z [] (Ur c8 Sp) (d e3) ?_;refine Ym Z h fun h=>?_;exact g S3 h
 cases h;exact kR Z
def F2 (N:Nat)(a:Sl M8)(b:M8->Option Bool):Option Bool:= (D8 N a b).bind λy1=>some (decide (0<=y1))
theorem Al {a:Sl M8}{c:M8->Option Bool}{kp_f:Nat}(d:∀{a0:M8}{b:Bool},c a0=some b->Uw S kp_f [.p (.agg (I4 a0))] [] (pB b) [] []){y:Bool}(h:F2 N a c=some y) :Uw S O1 [.p (vSl 2 I4 a),.clo kp_f [] []] [] (pB y) ([]) []:=by unfold F2 at h;refine A1 Z func137 ?_;refine kC Z h (Bb Z Y (λe=>d e)) (λy1 h=>?_);cases h;exact kR Z
def CA (N:Nat)(a:M8):Option Bool:= some ((!a.Has)&&(decide (0<(a.W.n:Int))))
theorem QN {b:M8}{y:Bool}(h:CA N b=some y) :Uw S Jf [.p (.agg (I4 b))] [] (pB y) ([]) []:=by unfold CA at h;refine A1 Z func138 ?_;refine kB Z (A3 Z) S3 S3 5 (.n (.a (!b.Has)) (.a (decide (0<(b.W.n:Int))))) ?_;cases h;exact kR Z
def Ax (N:Nat)(a:Sl M8):Option Bool:= (F2 N a (λ(u1:M8)=>CA N u1)).bind λy1=>some (!y1)
theorem Mg {a:Sl M8}{y:Bool}(h:Ax N a=some y) :Uw S LJ [.p (vSl 2 I4 a)] [] (pB y) ([]) []:=by unfold Ax at h;refine A1 Z func97 ?_;refine kC Z h (Al Z Y (λe=>QN Z Y e)) (λy1 h=>?_);cases h;exact kR Z
def T7 (N:Nat)(a:Sl M8):Option Int:= N3 N (λb (x1:Int)=>ite (decide (x1<(a.n:Int))) (ite ((0:Int)<=x1/\x1<(a.n:Int)) ((W3 N (a.g x1.toNat).W).bind λy3=>ite (y3 != 0) (some y3) (b (wrap .i64 (x1+1)))) none) (some 0)) 0
theorem Mh {a:Sl M8}{y:Int}(h:T7 N a=some y) :Uw S LK [.p (vSl 2 I4 a)] [] (pN y) ([]) []:=by
 unfold T7 at h;refine A1 Z func99 ?_;refine E2 Z S3 h (λx1=>kps [(8,pN x1)] [7,6] [] []) (λb x1 c h=>?_);apply kI Z h<;>intro h
 .obtain⟨c8,h⟩:=C4 h;refine kD Z h (Ur c8 Sp) (GV Z Y) (λy3 h=>?_);refine Ym Z h fun h=>?_;exact c S3 h
 cases h;exact kR Z
def Cs (N:Nat)(a:Str):Option Bool:= (W4 N (Sl.of [(⟨-1,a⟩:Node)]:Sl Node)).bind λy1=>some (y1==0)
theorem Va {a:Str}{y:Bool}(h:Cs N a=some y) :Uw S LT [.p (.str a)] [] (pB y) ([]) []:=by unfold Cs at h;refine A1 Z func139 ?_;refine Np Z Td (kps [] [5] [(6000,oV Y3 2 F1 (Sl.of [(⟨-1,a⟩:Node)]:Sl Node) false)] []) ?_ (hle:=kl1 0 (AO5 F1 ([(⟨-1,a⟩:Node)]:List Node) [pI .i64 0,.str []]));refine kC Z h (GY Z Y) (λy1 h=>?_);cases h;exact kR Z
def S1 (N:Nat)(a:Sl Yh)(b:Int):Option Int:= N3 N (λc (x2:Int)=>ite (decide (x2<(a.n:Int))) (ite ((0:Int)<=x2/\x2<(a.n:Int)) (lt (λ(z3:Bool)=>ite z3 (some 2) (c (wrap .i64 (x2+1)))) λk3=>ite (((a.g x2.toNat).Yg.n:Int) != b) (k3 true) ((Ax N (a.g x2.toNat).Yg).bind λy6=>k3 (!y6))) none) (N3 N (λd (x5:Int)=>ite (decide (x5<(a.n:Int))) (ite ((0:Int)<=x5/\x5<(a.n:Int)) ((Cs N (a.g x5.toNat).Gloss).bind λy9=>ite (!y9) (some 15) (d (wrap .i64 (x5+1)))) none) (some 0)) 0)) 0
theorem QO {b:Sl Yh}{a:Int}{y:Int}(h:S1 N b a=some y) :Uw S Jb [.p (vSl 2 N5 b),pN a] [] (pN y) ([]) []:=by
 unfold S1 at h;refine A1 Z func98 ?_;refine E2 Z S3 h (λx2=>kps [(11,pN x2)] [10,9,1,0] [] []) (λd x2 f h=>?_);apply kI Z h<;>intro h
 .obtain⟨c14,h⟩:=C4 h;refine GN Z (Ur c14 Sp) (A3 Z) h 0 (λz3=>kps [(25,pB z3)] [11,10,9,1,0] [] []) (λk3 c h=>?_) (λz3 h=>?_)
  .refine kG Z h (λh=>?_) (λh=>?_)
   .exact c S3 h
   refine kC Z h (Mg Z Y) (λy6 h=>?_);exact c S3 h
  refine Ym Z h fun h=>?_;exact f S3 h
 refine E2 Z S3 h (λx5=>kps [(29,pN x5)] [28,27] [] []) (λg x5 i h=>?_);apply kI Z h<;>intro h
 .obtain⟨c26,h⟩:=C4 h;refine kD Z h (Ur c26 Sp) (Va Z Y) (λy9 h=>?_);refine Ym Z h fun h=>?_;exact i S3 h
 cases h;exact kR Z
def Ay (N:Nat)(d:Yc)(a:Sl M8)(b:Sl Yh):Option Int:= (Q4 N d).bind λy1=>ite (y1 != 0) (some y1) ((T3 N d.Tree).bind λy2=>ite (decide (256<(b.n:Int))) (some 12) (lt (λ(z1:Bool)=>ite z1 (some 2) ((S1 N b (y2.1.n:Int)).bind λy5=>ite (y5 != 0) (some y5) ((T7 N a).bind λy6=>ite (y6 != 0) (some y6) (N3 N (λc (x2:Int)=>ite (decide (x2<(b.n:Int))) (ite ((0:Int)<=x2/\x2<(b.n:Int)) ((T7 N (b.g x2.toNat).Yg).bind λy9=>ite (y9 != 0) (some y9) (c (wrap .i64 (x2+1)))) none) (some 0)) 0)))) λk1=>ite ((a.n:Int) != (b.n:Int)) (k1 true) ((Ax N a).bind λy4=>k1 (!y4))))
theorem Mi {b:Yc}{a:Sl M8}{c:Sl Yh}{y:Int}(h:Ay N b a c=some y) :Uw S LG [.p (.agg (A9 b)),.p (vSl 2 I4 a),.p (vSl 2 N5 c)] [] (pN y) ([]) []:=by
 unfold Ay at h;refine A1 Z func63 ?_;refine kC Z h (Gp Z Y) (λy1 h=>?_);refine Ym Z h fun h=>?_;refine kC Z h (Fy Z Y) (λy2 h=>?_);refine Ym Z h fun h=>?_;refine GN Z S3 (A3 Z) h 0 (λz1=>kps [(30,pB z1)] [8,2,1] [] [24000]) (λk1 d h=>?_) (λz1 h=>?_)
 .refine kG Z h (λh=>?_) (λh=>?_)
  .exact d S3 h
  refine kC Z h (Mg Z Y) (λy4 h=>?_);exact d S3 h
 refine Ym Z h fun h=>?_;refine kC Z h (QO Z Y) (λy5 h=>?_);refine Ym Z h fun h=>?_;refine kC Z h (Mh Z Y) (λy6 h=>?_);refine Ym Z h fun h=>?_;refine E2 Z S3 h (λx2=>kps [(55,pN x2)] [54,53] [] []) (λf x2 g h=>?_);apply kI Z h<;>intro h
 .obtain⟨c16,h⟩:=C4 h;refine kD Z h (Ur c16 Sp) (Mh Z Y) (λy9 h=>?_);refine Ym Z h fun h=>?_;exact g S3 h
 cases h;exact kR Z
def V2 (N:Nat)(q0:Sl Yh):Option (List (FP×(Sl Up))):= N3 N (λb (x2:Int)=>ite (decide (x2<(q0.n:Int))) (ite ((0:Int)<=x2/\x2<(q0.n:Int)) (N3 N (λa (x4:Int)=>ite (decide (x4<((q0.g x2.toNat).Yg.n:Int))) (ite ((0:Int)<=x4/\x4<((q0.g x2.toNat).Yg.n:Int)) (ite (((q0.g x2.toNat).Yg.g x4.toNat).Has) (BI ((⟨x2,x4⟩:FP),((q0.g x2.toNat).Yg.g x4.toNat).W) (a (wrap .i64 (x4+1)))) (a (wrap .i64 (x4+1)))) none) (b (wrap .i64 (x2+1)))) 0) none) (some [])) 0
theorem MI {q0:Sl Yh}{L:List (FP×(Sl Up))}(h:V2 N q0=some L) :FY S CH [] [.reg 0 0] [.cells [.p (vSl 2 N5 q0)]] (L.map (λ(x:FP×(Sl Up))=>[(λx=>.agg (RY x)) x.1,vSl 2 A0 x.2])):=by
 unfold V2 at h;refine Fv Z func103 ?_;refine DY Z S3 h (λx2 L1=>⟨[(9,pN x2),(8,pN (q0.n:Int)),(7,.p (vSl 2 N5 q0)),(0,.yf 1)],[(1,.yld (L1.map (λ(x:FP×(Sl Up))=>[(λx=>.agg (RY x)) x.1,vSl 2 A0 x.2])) true),(0,.cells [.p (vSl 2 N5 q0)])]⟩) (λd x2 L1 f h=>?_);apply kI Z h<;>intro h
 .obtain⟨c48,h⟩:=C4 h;refine DY Z (Ur c48 Sp) h (λx4 L16=>⟨[(17,pN x4),(16,pN ((q0.g x2.toNat).Yg.n:Int)),(15,.p (vSl 2 I4 (q0.g x2.toNat).Yg)),(9,pN x2),(8,pN (q0.n:Int)),(7,.p (vSl 2 N5 q0)),(3,pN x2),(0,.yf 1)],[(1,.yld (L16.map (λ(x:FP×(Sl Up))=>[(λx=>.agg (RY x)) x.1,vSl 2 A0 x.2])) true),(0,.cells [.p (vSl 2 N5 q0)])]⟩) (λi x4 L16 c h=>?_);apply kI Z h<;>intro h
  .obtain⟨c64,h⟩:=C4 h;refine kV Z (Ur c64 Sp) h (λh=>?_) (λh=>?_)
   .obtain⟨L22,rfl,b⟩:=OL h;replace h:=b;refine DX Z S3 (ys:=(λ(x:FP×(Sl Up))=>[(λx=>.agg (RY x)) x.1,vSl 2 A0 x.2]) ((⟨x2,x4⟩:FP),((q0.g x2.toNat).Yg.g x4.toNat).W)) (rest:=L22.map (λ(x:FP×(Sl Up))=>[(λx=>.agg (RY x)) x.1,vSl 2 A0 x.2])) ?_ ?_
    .refine kF Z ?_;exact c S3 h
    refine kT Z ?_;exact kO Z S3 (a:=.tup []) (objs:=[(.cells [.p (vSl 2 N5 q0)]),.yld [] false]) [0,1] ⟨false,rfl,rfl,_,rfl⟩
   exact c S3 h
  exact f S3 h
 obtain rfl:=A5 h;exact kO Z S3 (a:=.tup []) (objs:=[(.cells [.p (vSl 2 N5 q0)]),.yld [] true]) [0,1] ⟨true,rfl,rfl,_,rfl⟩
def BA (N:Nat)(a:Sl Yh):Option (Sl Yh):= some a
theorem OY {a:Sl Yh}{y:Sl Yh}(h:BA N a=some y) :Uw S HB [.p (vSl 2 N5 a)] [] (.clo CH [] [.reg 0 0]) ([.cells [.p (vSl 2 N5 y)]]) []:=by unfold BA at h;refine A1 Z func65 ?_;obtain rfl:=A5 h;exact kO Z S3 [2000]
omit Z Y
abbrev Ud (es:List (Str×M8)):Obj:=.map (DQ PV.str (λx=>.agg (I4 x)) es)
abbrev BM2 (M:Sl (List (Str×M8))):List Obj:=[.cells [.vec 1],.fam G7 M.n 2 none,.rows M.n λi=>Ud (M.g i)]
def BZ0 {i n:Nat}{g:Nat->Obj}:∀q,q<n->(λq=>ite (q=i) (g i) (ite (q=i) Obj.dead (g q))) q=(λq=>g q) q:=by grind
def BZ1 {i n:Nat}{M:Sl (List (Str×M8))}{x:List (Str×M8)}:∀q,q<n->(λq=>ite (q=i) (Ud x) (ite (q=i) Obj.dead (Ud (M.g q)))) q=(λq=>Ud ((M.upd i x).g q)) q:=by grind
abbrev knO (K i:Nat):Obj:=ite (i<K) (Ud []) (.ghost [.p (.v (.map none))])
def obKn {K x n:Nat}(hx:x=K):∀q,q<n->(λq=>ite (q=x) (Obj.map []) (ite (q=x) Obj.dead (knO K q))) q=(λi=>knO (K+1) i) q:=λq _=>by
 show (ite (q=x) (Ud []) (ite (q=x) Obj.dead (ite (q<K) (Ud []) (.ghost [.p (.v (.map none))]))))=if q<K+1 then Ud []else .ghost [.p (.v (.map none))]
 grind
include Z Y
def R7 (N:Nat)(p:M8)(leaf:Int)(M:Sl (List (Str×M8)))(X:Sl (Sl Law)):Option (Sl Up×Bool×Sl (List (Str×M8))):= ite (!p.Has) (some ((Sl.nil:Sl Up),false,M)) (ite (leaf.toNat<M.n) (ite ((0:Int)<=leaf/\leaf<(M.n:Int)) ((ER N p.W).bind λk=>JD (M7 eqS k (M.g leaf.toNat)) (ite ((0:Int)<=leaf/\leaf<(X.n:Int)) ((N7 N (X.g leaf.toNat) p.W).bind λw=>some (w.1,w.2==0,M.upd leaf.toNat (FZ eqS k (⟨w.2==0,w.1⟩:M8) (M.g leaf.toNat)))) none) λv=>some (v.W,v.Has,M)) none) none)
abbrev Yw:List PV:=[.v (.bool false),I1]
theorem Oh {N:Nat}{p:M8}{leaf:Int}{X:Sl (Sl Law)}{M:Sl (List (Str×M8))}{y:Sl Up×Bool×Sl (List (Str×M8))}(h:R7 N p leaf M X=some y) :Uw S W1 [.p (.agg (I4 p)),pN leaf,.reg 0 0,.p (.ptr [vSl 1 (cL 18 B6) X])] (BM2 M) (.tup [.p (vSl 2 A0 y.1),pB y.2.1]) (BM2 y.2.2) [true,true,false]:=by
 unfold R7 at h;refine A1 Z Tryz.func101 ?_;refine C7 Z S3 12 5000 (I4 p) ?_;apply kI Z h<;>intro h
 .obtain rfl:=A5 h;exact I9 Z S3 ⟨[(7,pB false),(6,.p (vSl 2 A0 (Sl.nil:Sl Up)))],[(9902,.rows M.n λi=>Ud (M.g i)),(1,.fam G7 M.n 9902 none),(0,.cells [.vec 1])]⟩ [0,1,9902] ⟨rfl,rfl,rfl⟩
 obtain⟨c1,h⟩:=C4 h;obtain⟨c2,h⟩:=C4 h;refine AG5 Z S3 (.take 1 leaf.toNat 9801) (⟨⟨by decide,rfl⟩,c1⟩:(1000<=9801/\M.n=M.n)/\leaf.toNat<M.n) ?_;obtain⟨k,e1,h⟩:=E4 h;refine G1 Z S3 [(0,.l [0]),(2,.l [1]),(3,.l [1]),(5,.n),(6,.n),(7,.l [9801]),(11,.a [9000]),(12,.a [9000])] ?_;refine PH (Ur c2 (Ur c1 (rfl:leaf.toNat=leaf.toNat))) (Qn Z Y e1) ?_;rcases o1:M7 eqS k (M.g leaf.toNat)with _|v1
 .replace h:=An6 o1 h;refine BL6 S3 M6 KX PV.str (λx=>.agg (I4 x)) eqS o1 (.agg Yw) S3 ?_;refine D5 S3 ?_;refine O0 Z S3 (b:=true) (λc=>?_) (by grind);obtain⟨c3,h⟩:=C4 h;obtain⟨w,e2,h⟩:=E4 h;refine B4 Z S3 [0,2,3,5,6] ?_;refine PH c3 (Kj Z Y e2) ?_;refine D5 S3 ?_;refine G1 Z S3 [(0,.l [0]),(2,.l [1]),(3,.l [1]),(5,.n),(6,.n),(7,.l [9000])] ?_;refine PH (Ur c2 (Ur c1 (rfl:leaf.toNat=leaf.toNat))) (Qn Z Y e1) ?_;refine XS S3 M6 PV.str (λx=>.agg (I4 x)) eqS k (⟨w.2==0,w.1⟩:M8) (M.g leaf.toNat) S3 ?_;refine D5 S3 ?_;obtain rfl:=A5 h;refine AG5 Z S3 (.put 1 9902) (⟨⟨by decide,rfl⟩,c1⟩:(1000<=9902/\M.n=M.n)/\leaf.toNat<M.n) ?_;refine Gb Z S3 ?_;refine D5 S3 ?_;exact I9 Z S3 ⟨[(7,pB (w.2==0)),(6,.p (vSl 2 A0 w.1))],[(9902,.rows M.n λi=>Ud ((M.upd leaf.toNat (FZ eqS k (⟨w.2==0,w.1⟩:M8) (M.g leaf.toNat))).g i)),(1,.fam G7 M.n 9902 none),(0,.cells [.vec 1])]⟩ [0,1,9902] ⟨rfl,rfl,rfl⟩ (hle:=klR [(3,.ob M.n (λq=>ite (q=leaf.toNat) (Ud (FZ eqS k (⟨w.2==0,w.1⟩:M8) (M.g leaf.toNat))) (ite (q=leaf.toNat) (.dead) (Ud (M.g q)))) λi=>Ud ((M.upd leaf.toNat (FZ eqS k (⟨w.2==0,w.1⟩:M8) (M.g leaf.toNat))).g i))] (al1 BZ1 al0))
 replace h:=Ab6 o1 h;refine Bv4 S3 M6 KX PV.str (λx=>.agg (I4 x)) eqS o1 S3 ?_;refine D5 S3 ?_;obtain rfl:=A5 h;refine O0 Z S3 (b:=false) (by grind) (λc=>?_);refine AG5 Z S3 (.put 1 9902) (⟨⟨by decide,rfl⟩,c1⟩:(1000<=9902/\M.n=M.n)/\leaf.toNat<M.n) ?_;refine Gb Z S3 ?_;refine D5 S3 ?_;exact I9 Z S3 ⟨[(7,pB v1.Has),(6,.p (vSl 2 A0 v1.W))],[(9902,.rows M.n λi=>Ud (M.g i)),(1,.fam G7 M.n 9902 none),(0,.cells [.vec 1])]⟩ [0,1,9902] ⟨rfl,rfl,rfl⟩ (hle:=klR [(3,.ob M.n (λq=>ite (q=leaf.toNat) (Ud (M.g leaf.toNat)) (ite (q=leaf.toNat) (.dead) (Ud (M.g q)))) λi=>Ud (M.g i))] (al1 (BZ0 (g:=λi=>Ud (M.g i))) al0))
def Am (N:Nat)(a:Yc)(b:Int):Option (Sl (Sl Law)):= (T3 N a.Tree).bind λl=>ite ((0:Int)<=(l.1.n:Int)/\(l.1.n:Int)<=(l.1.n:Int)/\(l.1.n:Int)*24<=140737488355328/\(l.1.n:Int)<=140737488355328) (ite ((0:Int)<=(l.1.n:Int)/\(l.1.n:Int)<=(l.1.n:Int)/\(l.1.n:Int)*8<=140737488355328/\(l.1.n:Int)<=140737488355328) (Bb8 N (λf (K:Nat) (X:Sl (Sl Law)) (x:Int)=>ite (decide (x<(l.1.n:Int))) (ite (((0:Int)<=x/\x<(l.1.n:Int))/\x.toNat<l.1.n) ((Gs N a.Tree (l.1.g x.toNat)).bind λw=>U1 N (λd (X:Sl (Sl Law)) (y:Int)=>ite (decide (y<(w.1.n:Int))) (ite ((((0:Int)<=y/\y<(w.1.n:Int))/\y.toNat<w.1.n)/\((0:Int)<=(w.1.g y.toNat)/\(w.1.g y.toNat)<(a.On.n:Int))) (U1 N (λc (X:Sl (Sl Law)) (z:Int)=>ite (decide (z<((a.On.g (w.1.g y.toNat).toNat).n:Int))) (ite ((0:Int)<=z/\z<((a.On.g (w.1.g y.toNat).toNat).n:Int)) (ite (((a.On.g (w.1.g y.toNat).toNat).g z.toNat) != b) (ite (x.toNat<X.n) (ite (((0:Int)<=x/\x<(X.n:Int))/\((0:Int)<=((a.On.g (w.1.g y.toNat).toNat).g z.toNat)/\((a.On.g (w.1.g y.toNat).toNat).g z.toNat)<(a.Laws.n:Int))) (ite (Uq 200 ((X.g x.toNat).n+1)) (c (X.upd x.toNat ((X.g x.toNat).push (a.Laws.g ((a.On.g (w.1.g y.toNat).toNat).g z.toNat).toNat))) (wrap .i64 (z+1))) none) none) none) (c X (wrap .i64 (z+1)))) none) (d X (wrap .i64 (y+1)))) X 0) none) (ite (x.toNat=K/\K<l.1.n) (f (K+1) X (wrap .i64 (x+1))) none)) X 0) none) (ite (K=l.1.n/\X.n=l.1.n) (some X) none)) 0 ⟨l.1.n,λ_=>Sl.nil⟩ 0) none) none
theorem QP {N:Nat}{b:Yc}{c:Int}{y:Sl (Sl Law)}(h:Am N b c=some y) :Uw S Ja [.p (.agg (A9 b)),pN c] [] (.clo W1 [] [.reg 0 0,.p (.ptr [vSl 1 (cL 18 B6) y])]) (BM2 ⟨y.n,λ_=>[]⟩) []:=by
 unfold Am at h;refine A1 Z Tryz.func64 ?_;refine C7 Z S3 18 3000 (A9 b) ?_;refine kC Z h (Fy Z Y) (λl h=>?_);obtain⟨c1,h⟩:=C4 h;refine Dc Z c1 26 (.fam 26000 9901 λi=>DP H6 18 B6 ((⟨l.1.n,λ_=>Sl.nil⟩:Sl (Sl Law)).g i)) (⟨by decide,λi _=>rfl⟩:1000<=9901/\∀i,i<l.1.n->Ro [I1] (DP H6 18 B6 ((⟨l.1.n,λ_=>Sl.nil⟩:Sl (Sl Law)).g i))) ?_;obtain⟨c2,h⟩:=C4 h;refine Dc Z c2 29 (.fam 29000 9951 λi=>knO 0 i) (⟨by decide,λi _=>⟨rfl,rfl⟩⟩:1000<=9951/\∀i,i<l.1.n->Ro [.v (.map none)] (knO 0 i)) ?_;refine Nq Z S3 h (λK X x=>kps [(31,pN x)] [30,29,8,7,2,1] [(26000,.fam EL X.n 9901 none),(9951,.rows l.1.n λi=>knO K i),(9901,.rows X.n λi=>DP H6 18 B6 (X.g i))] [29000,21000,9000,8000]) (λr K X x f h=>?_);apply kI Z h<;>intro h
 .obtain⟨c3,h⟩:=C4 h;refine kD Z h c3 (Ax0 Z Y) (λw h=>?_);refine E8 Z S3 h (λX u=>kps [(45,pN u)] [44,43,31,30,29,9,8,7,2,1] [(26000,.fam EL X.n 9901 none),(9901,.rows X.n λi=>DP H6 18 B6 (X.g i))] [41000,29000,21000,9951,9000,8000]) (λj X u m h=>?_);apply kI Z h<;>intro h
  .obtain⟨c4,h⟩:=C4 h;refine E8 Z c4 h (λX z=>kps [(55,pN z)] [54,53,45,44,43,31,30,29,9,8,7,2,1] [(26000,.fam EL X.n 9901 none),(9901,.rows X.n λi=>DP H6 18 B6 (X.g i))] [41000,29000,21000,9951,9000,8000]) (λo X z d h=>?_);apply kI Z h<;>intro h
   .refine kJ Z h (λh=>?_) (λh=>?_)
    .obtain⟨c7,h⟩:=C4 h;obtain⟨c8,h⟩:=C4 h;obtain⟨c9,h⟩:=C4 h;refine AG5 Z S3 (.take 26000 x.toNat 9801) (⟨⟨by decide,rfl⟩,c7⟩:(1000<=9801/\X.n=X.n)/\x.toNat<X.n) ?_;refine G1 Z S3 [(0,.l [8000]),(2,.l [8000]),(4,.l [26000]),(5,.l [26000]),(6,.n),(7,.n),(9,.n),(10,.n),(12,.a [75000,9801]),(13,.l [26000]),(14,.a [26000])] ?_;refine O3 (Ur (Ur (Ur c8.1 (Ur c7 (rfl:x.toNat=x.toNat))) c8.2) Tc) (x:=.sl true 18 1 (G9 Yr [(0,B6 (b.Laws.g ((b.On.g (w.1.g u.toNat).toNat).g z.toNat).toNat))])) ?_;refine D5 (Ur (Ur c9 c8.1) (Ur c7 (rfl:x.toNat=x.toNat))) ?_;refine I6 Z S3 76 (kps [] [55,54,53,45,44,43,31,30,29,9,8,7,2,1] [(75000,DP H6 18 B6 ((X.g x.toNat).push (b.Laws.g ((b.On.g (w.1.g u.toNat).toNat).g z.toNat).toNat))),(41000,oV C8 1 (cI .i64) w.1 true),(29000,.fam G7 l.1.n 9951 none),(26000,.fam EL X.n 9901 (some (x.toNat,.vec 75000))),(21000,oV C8 1 (cI .i64) l.1 true),(9951,.rows l.1.n λi=>knO K i),(9901,(.rows X.n λq=>ite (q=x.toNat) (.dead) (DP H6 18 B6 (X.g q)))),(9000,.cells [.vec 29000]),(8000,.cells [.vec 26000])] []) ?_ (hle:=kl1 10 (O8 B6 (X.g x.toNat) (b.Laws.g ((b.On.g (w.1.g u.toNat).toNat).g z.toNat).toNat) Yr));refine Dc Z S3 76 (.put 26000 9902) (⟨⟨by decide,rfl⟩,c7⟩:(1000<=9902/\X.n=X.n)/\x.toNat<X.n) ?_;exact d S3 h (hle:=klR [(17,.ob X.n (λq=>ite (q=x.toNat) (DP H6 18 B6 ((X.g x.toNat).push (b.Laws.g ((b.On.g (w.1.g u.toNat).toNat).g z.toNat).toNat))) (ite (q=x.toNat) (.dead) (DP H6 18 B6 (X.g q)))) λi=>DP H6 18 B6 ((X.upd x.toNat ((X.g x.toNat).push (b.Laws.g ((b.On.g (w.1.g u.toNat).toNat).g z.toNat).toNat))).g i))] (al1 BY9 al0))
    exact d S3 h
   exact m S3 h
  obtain⟨c4,h⟩:=C4 h;refine Dc Z S3 78 (.over 29000 x.toNat) (⟨rfl,by omega⟩:l.1.n=l.1.n/\x.toNat<l.1.n) ?_;refine Dc Z (Ur c3.1 (Ur c3.2 (rfl:x.toNat=x.toNat))) 82 (.put 29000 9952) (⟨⟨by decide,rfl⟩,c3.2⟩:(1000<=9952/\l.1.n=l.1.n)/\x.toNat<l.1.n) ?_;exact f S3 h (hle:=klR [(8,.ob l.1.n (λq=>ite (q=x.toNat) (.map []) (ite (q=x.toNat) (.dead) (knO K q))) λi=>knO (K+1) i)] (al1 (obKn c4.1) al0))
 obtain⟨c3,h⟩:=C4 h;obtain rfl:=A5 h;refine Dc Z S3 83 (.pub 26000) (⟨rfl,λi _=>rfl⟩:X.n=X.n/\∀i,i<X.n->(Xf (DP H6 18 B6 (X.g i))).isSome=true) ?_;refine I6 Z S3 83 (kps [] [8,7] [(29000,.fam G7 X.n 9951 none),(9951,.rows X.n λi=>Ud []),(9000,.cells [.vec 29000]),(8000,.cells [.p (vSl 1 (cL 18 B6) X)])] []) ?_ (hle:=klR [(0,.nt l.1.n X.n),(1,.nt l.1.n X.n),(2,.ob X.n (λi=>knO K i) (λi=>Ud [])),(3,.fn X.n X.n (λi=>[(Xf (DP H6 18 B6 (X.g i))).getD default]) (λi=>cL 18 B6 (X.g i)))] (al1 c3.2.symm (al1 c3.2.symm (al1 (λi s=>Jk (by omega)) (al1 ⟨rfl,λ_ _=>rfl⟩ al0)))));refine C7 Z S3 83 8000 [vSl 1 (cL 18 B6) X] ?_;exact I9 Z S3 ⟨[(4,.clo W1 [] [.reg 9000 0,.p (.ptr [vSl 1 (cL 18 B6) X])])],[(29000,.fam G7 X.n 9951 none),(9951,.rows X.n λi=>Ud []),(9000,.cells [.vec 29000])]⟩ [9000,29000,9951] ⟨rfl,rfl,rfl⟩
def ES (N:Nat)(d:Yc)(b:Sl M8)(f:Sl Yh)(a:Int):Option ((Sl A7)×Int):= (Ay N d b f).bind λy1=>ite (y1 != 0) (some ((Sl.nil:Sl A7),y1)) (ite ((decide (a<0))||(decide (1073741824<a))) (some ((Sl.nil:Sl A7),2)) ((Am N d (-1)).bind λy2=>(BA N f).bind λy3=>(V2 N y3).bind λL1=>T1 L1 (λc (x1:FP×(Sl Up)) (z1:(Sl (List (Str×M8)))×(Sl A7))=>ite ((0:Int)<=x1.1.entry/\x1.1.entry<(b.n:Int)) ((R7 N (b.g x1.1.entry.toNat) x1.1.leaf z1.1 y2).bind λy8=>ite (!y8.2.1) (ite (Uq 32 (z1.2.n+(Sl.of [(⟨x1.1.entry,x1.1.leaf,2,a⟩:A7)]:Sl A7).n)) (c (y8.2.2,z1.2.push (⟨x1.1.entry,x1.1.leaf,2,a⟩:A7))) none) ((Z3 N y8.1 x1.2).bind λy9=>ite (!y9) (ite (Uq 32 (z1.2.n+(Sl.of [(⟨x1.1.entry,x1.1.leaf,1,a⟩:A7)]:Sl A7).n)) (c (y8.2.2,z1.2.push (⟨x1.1.entry,x1.1.leaf,1,a⟩:A7))) none) (c (y8.2.2,z1.2)))) none) (λ(z1:(Sl (List (Str×M8)))×(Sl A7))=>some (z1.2,0)) ((⟨y2.n,λ_=>[]⟩:Sl (List (Str×M8))),(Sl.nil:Sl A7))))
abbrev Yv:List PV:=[pI .i64 0,pI .i64 0,pI .i64 0,pI .i64 0]
theorem Qo {N:Nat}{d:Yc}{c:Sl M8}{j:Sl Yh}{b:Int}{y:(Sl A7)×Int}(h:ES N d c j b=some y) :Uw S PN [.p (.agg (A9 d)),.p (vSl 2 I4 c),.p (vSl 2 N5 j),pN b] [] (.tup [.vec 0,pN y.2]) ([oV E6 4 B8 y.1 false]) []:=by
 unfold ES at h;refine A1 Z Tryz.func29 ?_;refine C7 Z S3 5 5000 (A9 d) ?_;refine C7 Z S3 7 6000 [vSl 2 I4 c] ?_;refine C7 Z S3 8 8000 [pI .i64 b] ?_;refine kD Z h Sw (Mi Z Y) (λy1 h=>?_);apply kI Z h<;>intro h
 .obtain rfl:=A5 h;exact kO Z S3 [9700]
 refine kB Z (A3 Z) S3 S3 3 (.o (.a (decide (b<0))) (.a (decide (1073741824<b)))) ?_;apply kI Z h<;>intro h
 .obtain rfl:=A5 h;exact kO Z S3 [9700]
 refine kD Z h Sw (QP Z Y) (λy2 h=>?_);refine kC Z h (OY Z Y) (λy3 h=>?_);obtain⟨L1,e4,h⟩:=E4 h;refine JH Z S3 [34000] [12,11,7,5] 901 (λz1=>⟨[(12,.reg 13000 0),(11,.reg 12000 0),(7,.p (.ptr [pI .i64 b])),(5,.p (.ptr [vSl 2 I4 c]))],[(32001,.fam G7 z1.1.n 12500 none),(32000,.cells [.vec 32001]),(13500,oV E6 4 B8 z1.2 false),(13000,.cells [.vec 13500]),(12500,.rows z1.1.n λi=>Ud (z1.1.g i)),(12000,.cells [.clo W1 [] [.reg 32000 0,.p (.ptr [vSl 1 (cL 18 B6) y2])]])]⟩) h (MI Z Y e4) (λ_=>by kernel_rfl) (λ_=>by kernel_rfl) (λ_=>by kernel_rfl) (λ_=>by kernel_rfl) (λx1 l z1 f h=>?_) (λz1 h=>?_)
 .refine C7 Z S3 14 14000 [pI .i64 x1.1.entry,pI .i64 x1.1.leaf] ?_;refine Nr Z S3 ?_;refine B4 Z S3 [1,3,4,5,7] ?_;obtain⟨c9,h⟩:=C4 h;obtain⟨y8,e9,h⟩:=E4 h;refine GS [32000,32001,12500] (Ur c9 Sp) (Oh Z Y e9) ?_;refine D5 S3 ?_;apply kI Z h<;>intro h
  .obtain⟨c11,h⟩:=C4 h;exact f (Ur Td c11) h (hle:=kl1 1 (O8 B8 z1.2 (⟨x1.1.entry,x1.1.leaf,2,b⟩:A7) Yv))
  refine kC Z h (Ql Z Y) (λy9 h=>?_);apply kI Z h<;>intro h
  .obtain⟨c13,h⟩:=C4 h;exact f (Ur Td c13) h (hle:=kl1 1 (O8 B8 z1.2 (⟨x1.1.entry,x1.1.leaf,1,b⟩:A7) Yv))
  exact f S3 h
 obtain rfl:=A5 h;exact kO Z S3 [13500]
end Go.AM
namespace Go.AM
open Go.Proofs.Tryz
variable {N:Nat}
open Go.Proofs
section
variable {S:X4}(Z:H3 S Tryz.prog) (Y:KY S)
include Z Y
def X0 (N:Nat)(s:Sl Str)(t:Str):Option Str:= ite (s.n<=140737488355328/\(Lib.join ((List.range s.n).map s.g) t).length<=140737488355328) (some (Lib.join ((List.range s.n).map s.g) t)) none
theorem Vb {s:Sl Str}{t:Str}{y:Str}(h:X0 N s t=some y):Uw S Hg [.p (vSl 1 cS s),.p (.str t)] [] (.p (.str y)) [] []:=by simp only[X0,Cr1,Cd9]at h;obtain⟨⟨h1,a⟩,rfl⟩:=h;exact Y.join false s.n s.g t h1 a
def P1 (N:Nat)(s:Str)(t:Int):Option Int:= ite (0<=t/\t<256) (some (Lib.indexByte s (UInt8.ofNat t.toNat))) none
theorem Gt {s:Str}{t:Int}{y:Int}(h:P1 N s t=some y):Uw S CL [.p (.str s),.p (pI .u8 t)] [] (.p (pI .i64 y)) [] []:=by
 simp only[P1,Cr1,Cd9]at h;obtain⟨h1,rfl⟩:=h
 have:=Y.indexByte s (UInt8.ofNat t.toNat)
 have e:(((UInt8.ofNat t.toNat).toNat:Nat):Int)=t:=by
  have:(UInt8.ofNat t.toNat).toNat=t.toNat:=UInt8.toNat_ofNat_of_lt' (by show t.toNat<256;omega)
  omega
 rw[e]at this;exact this
def D1 (N:Nat)(s:Sl Str):Option (Sl Str):=ite ((0+s.n)*16<=140737488355328/\0+s.n<=140737488355328) (some s) none
theorem P2 {s y:Sl Str}(h:D1 N s=some y):Uw S Y2 [.p (vSl 1 cS s)] [] (.vec 0) [.vec M6 1 y.n (λi=>cS (y.g i)) true] []:=by
 unfold D1 at h;obtain⟨c1,h⟩:=C4 h;obtain rfl:=A5 h;refine A1 Z func195 ?_;refine Ac5 Z S3 3 (k:=1) (n:=s.n) (f:=λi=>cS (s.g i)) (λa=>?_) ?_
 .obtain⟨n,g⟩:=s;obtain rfl:n=0:=a;exact kO Z S3 [3700]
 exact kO Z (Ur Td c1) [8000]
  (hle:=kl1 0 (Bn7 cS s [.str []]))
def J4 (N:Nat)(s:Sl F9):Option (Sl F9):=ite ((0+s.n)*24<=140737488355328/\0+s.n<=140737488355328) (some s) none
abbrev Yt:List PV:=[.str [],pI .u32 0,pI .u32 0]
theorem BS {s y:Sl F9}(h:J4 N s=some y):Uw S S4 [.p (vSl 3 H5 s)] [] (.vec 0) [.vec S0 3 y.n (λi=>H5 (y.g i)) true] []:=by
 unfold J4 at h;obtain⟨c1,h⟩:=C4 h;obtain rfl:=A5 h;refine A1 Z func200 ?_;refine Ac5 Z S3 3 (k:=3) (n:=s.n) (f:=λi=>H5 (s.g i)) (λa=>?_) ?_
 .obtain⟨n,g⟩:=s;obtain rfl:n=0:=a;exact kO Z S3 [3700]
 exact kO Z (Ur Td c1) [8000]
  (hle:=kl1 0 (Bn7 H5 s Yt))
def H2 (N:Nat)(s:Sl GO):Option (Sl GO):=ite ((0+s.n)*32<=140737488355328/\0+s.n<=140737488355328) (some s) none
theorem CP {s y:Sl GO}(h:H2 N s=some y):Uw S U6 [.p (vSl 4 EF s)] [] (.vec 0) [.vec WA 4 y.n (λi=>EF (y.g i)) true] []:=by
 unfold H2 at h;obtain⟨c1,h⟩:=C4 h;obtain rfl:=A5 h;refine A1 Z func152 ?_;refine Ac5 Z S3 3 (k:=4) (n:=s.n) (f:=λi=>EF (s.g i)) (λa=>?_) ?_
 .obtain⟨n,g⟩:=s;obtain rfl:n=0:=a;exact kO Z S3 [3700]
 exact kO Z (Ur Td c1) [8000]
  (hle:=kl1 0 (Bn7 EF s [.str [],pI .u32 0,pI .u32 0,pI .u32 0]))
end
open IntKind (wrap)
set_option maxRecDepth 10000
set_option maxHeartbeats 2000000
variable {S:X4}(Z:H3 S Tryz.prog) (Y:KY S)
include Z Y
def U0 (N:Nat)(a:Int):Option Bool:= some (((decide (97<=a))&&(decide (a<=122)))||((decide (48<=a))&&(decide (a<=57))))
theorem HI {b:Int}{y:Bool}(h:U0 N b=some y) :Uw S HD [.p (pI .u8 b)] [] (pB y) ([]) []:=by unfold U0 at h;refine A1 Z func194 ?_;refine kB Z (A3 Z) S3 S3 11 (.o (.n (.a (decide (97<=b))) (.a (decide (b<=122)))) (.n (.a (decide (48<=b))) (.a (decide (b<=57))))) ?_;cases h;exact kR Z
abbrev iO (v:A6)(a b c d:Nat):List Obj:=[(.cells [.p (vSl 1 cS v.feats),.Uz a,.vec b,.Uz c,.Uz d]),oM PV.str (pI .i64) v.number,oV S0 3 H5 v.sounds true,oM PV.str (pI .i64) v.symbols,oM (λx=>.agg (A0 x)) (pI .i64) v.values]
def J5 (N:Nat)(a:A6):Option Bool:= some true
theorem BU {a:A6}{y:Bool}(h:J5 N a=some y) :Uw S Fo [.reg 0 0] (iO a 1 2 3 4) (pB y) (iO a 1 2 3 4) [true,true,true,true,true]:=by unfold J5 at h;refine A1 Z func196 ?_;obtain rfl:=A5 h;exact kO Z S3 [0,1,2,3,4]
def N8 (N:Nat)(b:A6)(a:Up):Option Bool:= ite ((0:Int)<=(b.feats.n:Int)) (some (((F3 .and .u32 a.Plus a.Minus)==0)&&((F3 .andNot .u32 (F3 .or .u32 a.Plus a.Minus) (wrap .u32 ((shI .shl .u32 1 (b.feats.n:Int))-1)))==0))) none
theorem ID {c:A6}{b:Up}{y:Bool}(h:N8 N c b=some y) :Uw S Dv [.reg 0 0,.p (.agg (A0 b))] (iO c 1 2 3 4) (pB y) (iO c 1 2 3 4) [true,true,true,true,true]:=by unfold N8 at h;refine A1 Z func199 ?_;obtain⟨c1,h⟩:=C4 h;refine kB Z (A3 Z) c1 S3 9 (.n (.a ((F3 .and .u32 b.Plus b.Minus)==0)) (.a ((F3 .andNot .u32 (F3 .or .u32 b.Plus b.Minus) (wrap .u32 ((shI .shl .u32 1 (c.feats.n:Int))-1)))==0))) ?_;obtain rfl:=A5 h;exact kO Z S3 [0,1,2,3,4]
def J6 (N:Nat)(a:Str)(b:Int)(d:Int->Option Bool):Option Bool:= ite ((decide ((a.length:Int)<1))||(decide (b<(a.length:Int)))) (some false) (N3 N (λc (x1:Int)=>ite (decide (x1<(a.length:Int))) (ite ((0:Int)<=x1/\x1<(a.length:Int)) ((d (E9 a x1)).bind λy3=>ite (!y3) (some false) (c (wrap .i64 (x1+1)))) none) (some true)) 0)
theorem Fq {d:Str}{c:Int}{f:Int->Option Bool}{kp_of:Nat}(g:∀{a0:Int}{b:Bool},f a0=some b->Uw S kp_of [.p (pI .u8 a0)] [] (pB b) [] []){y:Bool}(h:J6 N d c f=some y) :Uw S Fn [.p (.str d),pN c,.clo kp_of [] []] [] (pB y) ([]) []:=by
 unfold J6 at h;refine A1 Z func193 ?_;refine kB Z (A3 Z) S3 S3 5 (.o (.a (decide ((d.length:Int)<1))) (.a (decide (c<(d.length:Int))))) ?_;refine Ym Z h fun h=>?_;refine E2 Z S3 h (λx1=>kps [(19,pN x1)] [18,2,0] [] []) (λi x1 j h=>?_);apply kI Z h<;>intro h
 .obtain⟨c9,h⟩:=C4 h;obtain⟨y3,e3,h⟩:=E4 h;refine D6 Z [] c9 (g e3) ?_;refine Ym Z h fun h=>?_;exact j S3 h
 cases h;exact kR Z
def M5 (N:Nat)(a:Int):Option Bool:= (U0 N a).bind λy1=>lt (λ(z1:Bool)=>some z1) λk1=>ite y1 (k1 true) (ite (decide (65<=a)) (ite (decide (a<=90)) (k1 true) ((P1 N [64,63,33,38,42,36,37] a).bind λy4=>k1 (decide (0<=y4)))) ((P1 N [64,63,33,38,42,36,37] a).bind λy5=>k1 (decide (0<=y5))))
theorem Kn {b:Int}{y:Bool}(h:M5 N b=some y) :Uw S EJ [.p (pI .u8 b)] [] (pB y) ([]) []:=by
 unfold M5 at h;refine A1 Z func197 ?_;refine kC Z h (HI Z Y) (λy1 h=>?_);refine GN Z S3 (A3 Z) h 0 (λz1 _=>⟨[(2,pB z1)],[]⟩) (λk1 a h=>?_) (λz1 h=>?_)
 .refine kG Z h (λh=>?_) (λh=>?_)
  .exact a S3 h
  refine kG Z h (λh=>?_) (λh=>?_)
  .refine kG Z h (λh=>?_) (λh=>?_)
   .exact a S3 h
   refine kC Z h (Gt Z Y) (λy4 h=>?_);exact a S3 h
  refine kC Z h (Gt Z Y) (λy5 h=>?_);exact a S3 h
 cases h;exact kR Z
def P3 (N:Nat)(b:A6)(a:Str)(c:Up):Option (Int×A6):= (J5 N b).bind λy1=>ite (!y1) (some (1,b)) ((J6 N a 4 (λ(u1:Int)=>M5 N u1)).bind λy2=>ite (!y2) (some (15,b)) ((N8 N b c).bind λy3=>ite (!y3) (some (14,b)) (JD (M7 eqS a b.symbols) (JD (M7 G2 c b.values) (ite (false||false) (some (6,b)) (ite ((b.sounds.n:Int)==256) (some (4,b)) (ite (Uq 24 (b.sounds.n+(Sl.of [(⟨a,c⟩:F9)]:Sl F9).n)) (some (0,(⟨b.feats,b.number,b.sounds.push (⟨a,c⟩:F9),FZ eqS a (b.sounds.n:Int) b.symbols,FZ G2 c (b.sounds.n:Int) b.values⟩:A6))) none))) λv2=>ite (false||true) (some (6,b)) (ite ((b.sounds.n:Int)==256) (some (4,b)) (ite (Uq 24 (b.sounds.n+(Sl.of [(⟨a,c⟩:F9)]:Sl F9).n)) (some (0,(⟨b.feats,b.number,b.sounds.push (⟨a,c⟩:F9),FZ eqS a (b.sounds.n:Int) b.symbols,FZ G2 c (b.sounds.n:Int) b.values⟩:A6))) none))) λv1=>JD (M7 G2 c b.values) (ite (true||false) (some (6,b)) (ite ((b.sounds.n:Int)==256) (some (4,b)) (ite (Uq 24 (b.sounds.n+(Sl.of [(⟨a,c⟩:F9)]:Sl F9).n)) (some (0,(⟨b.feats,b.number,b.sounds.push (⟨a,c⟩:F9),FZ eqS a (b.sounds.n:Int) b.symbols,FZ G2 c (b.sounds.n:Int) b.values⟩:A6))) none))) λv3=>ite (true||true) (some (6,b)) (ite ((b.sounds.n:Int)==256) (some (4,b)) (ite (Uq 24 (b.sounds.n+(Sl.of [(⟨a,c⟩:F9)]:Sl F9).n)) (some (0,(⟨b.feats,b.number,b.sounds.push (⟨a,c⟩:F9),FZ eqS a (b.sounds.n:Int) b.symbols,FZ G2 c (b.sounds.n:Int) b.values⟩:A6))) none)))))
theorem MJ {c:A6}{b:Str}{d:Up}{y:Int×A6}(h:P3 N c b d=some y) :Uw S Gf [.reg 0 0,.p (.str b),.p (.agg (A0 d))] (iO c 1 2 3 4) (pN y.1) ([.cells [.p (vSl 1 cS y.2.feats),.Uz 1,.vec 2,.Uz 3,.Uz 4],oM PV.str (pI .i64) y.2.number,oV S0 3 H5 y.2.sounds true,oM PV.str (pI .i64) y.2.symbols,oM (λx=>.agg (A0 x)) (pI .i64) y.2.values]) [true,true,false,true,true]:=by
 unfold P3 at h;refine A1 Z func145 ?_;refine C7 Z S3 6 6000 [pI .u32 d.Plus,pI .u32 d.Minus] ?_;obtain⟨y1,e1,h⟩:=E4 h;refine D6 Z [0,1,2,3,4] S3 (BU Z Y e1) ?_;apply kI Z h<;>intro h
 .obtain rfl:=A5 h;exact kO Z S3 [0,1,990002,3,4]
 refine kC Z h (Fq Z Y (λe=>Kn Z Y e)) (λy2 h=>?_);apply kI Z h<;>intro h
 .obtain rfl:=A5 h;exact kO Z S3 [0,1,990002,3,4]
 obtain⟨y3,e3,h⟩:=E4 h;refine D6 Z [0,1,2,3,4] Sp (ID Z Y e3) ?_;apply kI Z h<;>intro h
 .obtain rfl:=A5 h;exact kO Z S3 [0,1,990002,3,4]
 rcases o1:M7 eqS b c.symbols with _|v1
 .replace h:=An6 o1 h;refine Ar6 Z S3 M6 C8 PV.str (pI .i64) eqS o1 (pI .i64 0) S3 ?_;refine B4 Z S3 [4] ?_;rcases o2:M7 G2 d c.values with _|v2
  .replace h:=An6 o2 h;refine BL6 Sp A8 C8 (λx=>.agg (A0 x)) (pI .i64) G2 o2 (pI .i64 0) (by decide +kernel:Qx Tryz.prog A8=true) ?_;refine D5 S3 ?_;refine kB Z (A3 Z) S3 S3 2 (.o (.a false) (.a false)) ?_;apply kI Z h<;>intro h
   .obtain rfl:=A5 h;exact kO Z S3 [0,1,990002,3,4]
   apply kI Z h<;>intro h
   .obtain rfl:=A5 h;exact kO Z S3 [0,1,990002,3,4]
   refine Gb Z S3 ?_;refine XS S3 M6 PV.str (pI .i64) eqS b (c.sounds.n:Int) c.symbols S3 ?_;refine D5 S3 ?_;refine B4 Z S3 [4] ?_;refine XS Sp A8 (λx=>.agg (A0 x)) (pI .i64) G2 d (c.sounds.n:Int) c.values (by decide +kernel:Qx Tryz.prog A8=true) ?_;refine D5 S3 ?_;refine B4 Z S3 [6] ?_;refine O3 Sp (x:=.sl true 3 1 (G9 Yt [(0,H5 (⟨b,d⟩:F9))])) ?_;refine dE h (λh=>?_);obtain rfl:=A5 h;exact kO Z S3 [0,1,79000,3,4] (hle:=kl1 1 (O8 H5 c.sounds (⟨b,d⟩:F9) Yt))
  replace h:=Ab6 o2 h;refine Bv4 Sp A8 C8 (λx=>.agg (A0 x)) (pI .i64) G2 o2 (by decide +kernel:Qx Tryz.prog A8=true) ?_;refine D5 S3 ?_;refine kB Z (A3 Z) S3 S3 2 (.o (.a false) (.a true)) ?_;apply kI Z h<;>intro h
  .obtain rfl:=A5 h;exact kO Z S3 [0,1,990002,3,4]
  apply kI Z h<;>intro h
  .obtain rfl:=A5 h;exact kO Z S3 [0,1,990002,3,4]
  refine Gb Z S3 ?_;refine XS S3 M6 PV.str (pI .i64) eqS b (c.sounds.n:Int) c.symbols S3 ?_;refine D5 S3 ?_;refine B4 Z S3 [4] ?_;refine XS Sp A8 (λx=>.agg (A0 x)) (pI .i64) G2 d (c.sounds.n:Int) c.values (by decide +kernel:Qx Tryz.prog A8=true) ?_;refine D5 S3 ?_;refine B4 Z S3 [6] ?_;refine O3 Sp (x:=.sl true 3 1 (G9 Yt [(0,H5 (⟨b,d⟩:F9))])) ?_;refine dE h (λh=>?_);obtain rfl:=A5 h;exact kO Z S3 [0,1,79000,3,4] (hle:=kl1 1 (O8 H5 c.sounds (⟨b,d⟩:F9) Yt))
 replace h:=Ab6 o1 h;refine Ar5 Z S3 M6 C8 PV.str (pI .i64) eqS o1 S3 ?_;refine B4 Z S3 [4] ?_;rcases o3:M7 G2 d c.values with _|v3
 .replace h:=An6 o3 h;refine BL6 Sp A8 C8 (λx=>.agg (A0 x)) (pI .i64) G2 o3 (pI .i64 0) (by decide +kernel:Qx Tryz.prog A8=true) ?_;refine D5 S3 ?_;refine kB Z (A3 Z) S3 S3 2 (.o (.a true) (.a false)) ?_;apply kI Z h<;>intro h
  .obtain rfl:=A5 h;exact kO Z S3 [0,1,990002,3,4]
  apply kI Z h<;>intro h
  .obtain rfl:=A5 h;exact kO Z S3 [0,1,990002,3,4]
  refine Gb Z S3 ?_;refine XS S3 M6 PV.str (pI .i64) eqS b (c.sounds.n:Int) c.symbols S3 ?_;refine D5 S3 ?_;refine B4 Z S3 [4] ?_;refine XS Sp A8 (λx=>.agg (A0 x)) (pI .i64) G2 d (c.sounds.n:Int) c.values (by decide +kernel:Qx Tryz.prog A8=true) ?_;refine D5 S3 ?_;refine B4 Z S3 [6] ?_;refine O3 Sp (x:=.sl true 3 1 (G9 Yt [(0,H5 (⟨b,d⟩:F9))])) ?_;refine dE h (λh=>?_);obtain rfl:=A5 h;exact kO Z S3 [0,1,79000,3,4] (hle:=kl1 1 (O8 H5 c.sounds (⟨b,d⟩:F9) Yt))
 replace h:=Ab6 o3 h;refine Bv4 Sp A8 C8 (λx=>.agg (A0 x)) (pI .i64) G2 o3 (by decide +kernel:Qx Tryz.prog A8=true) ?_;refine D5 S3 ?_;refine kB Z (A3 Z) S3 S3 2 (.o (.a true) (.a true)) ?_;apply kI Z h<;>intro h
 .obtain rfl:=A5 h;exact kO Z S3 [0,1,990002,3,4]
 apply kI Z h<;>intro h
 .obtain rfl:=A5 h;exact kO Z S3 [0,1,990002,3,4]
 refine Gb Z S3 ?_;refine XS S3 M6 PV.str (pI .i64) eqS b (c.sounds.n:Int) c.symbols S3 ?_;refine D5 S3 ?_;refine B4 Z S3 [4] ?_;refine XS Sp A8 (λx=>.agg (A0 x)) (pI .i64) G2 d (c.sounds.n:Int) c.values (by decide +kernel:Qx Tryz.prog A8=true) ?_;refine D5 S3 ?_;refine B4 Z S3 [6] ?_;refine O3 Sp (x:=.sl true 3 1 (G9 Yt [(0,H5 (⟨b,d⟩:F9))])) ?_;refine dE h (λh=>?_);obtain rfl:=A5 h;exact kO Z S3 [0,1,79000,3,4] (hle:=kl1 1 (O8 H5 c.sounds (⟨b,d⟩:F9) Yt))
def Bc (N:Nat)(a:Sl Str):Option ((Option A6)×Int):= ite (decide (24<(a.n:Int))) (some (none,12)) (N3 N (λb (x1:Int)=>ite (decide (x1<(a.n:Int))) (ite ((0:Int)<=x1/\x1<(a.n:Int)) ((J6 N (a.g x1.toNat) 16 (λ(u3:Int)=>U0 N u3)).bind λy3=>ite ((!y3)=false->((0:Int)<=0/\0<((a.g x1.toNat).length:Int))) (ite ((!y3)||(decide ((E9 (a.g x1.toNat) 0)<=57))) (some (none,15)) (b (wrap .i64 (x1+1)))) none) none) (U1 N (λc (x2:List (Str×Int)) (x3:Int)=>ite (decide (x3<(a.n:Int))) (ite ((0:Int)<=x3/\x3<(a.n:Int)) (JD (M7 eqS (a.g x3.toNat) x2) (c (FZ eqS (a.g x3.toNat) x3 x2) (wrap .i64 (x3+1))) λv3=>some (none,6)) none) ((D1 N a).bind λy4=>some (some (⟨y4,x2,(Sl.nil:Sl F9),[],[]⟩:A6),0))) [] 0)) 0)
theorem Ko {b:Sl Str}{y:(Option A6)×Int}(h:Bc N b=some y) :Uw S JW [.p (vSl 1 cS b)] [] (.tup [JD y.1 (.p BR6) λ_=>.reg 0 0,pN y.2]) (JD y.1 [] λo=>iO o 1 2 3 4) []:=by
 unfold Bc at h;refine A1 Z func144 ?_;apply kI Z h<;>intro h
 .obtain rfl:=A5 h;exact kO Z S3 []
 refine E2 Z S3 h (λx1=>kps [(21,pN x1)] [20,19,4,0] [] [19000,17000,16000,15000]) (λc x1 d h=>?_);apply kI Z h<;>intro h
 .obtain⟨c11,h⟩:=C4 h;refine kD Z h c11 (Fq Z Y (λe=>HI Z Y e)) (λy3 h=>?_);obtain⟨c12,h⟩:=C4 h;refine kB Z (A3 Z) S3 c12 4 (.o (.a (!y3)) (.a (decide ((E9 (b.g x1.toNat) 0)<=57)))) ?_;apply kI Z h<;>intro h
  .obtain rfl:=A5 h;exact kO Z S3 []
  exact d S3 h
 refine E8 Z S3 h (λx2 x3=>kps [(36,pN x3)] [35,34,4,0] [(15000,oM PV.str (pI .i64) x2)] [19000,17000,16000]) (λf x2 x3 i h=>?_);apply kI Z h<;>intro h
 .obtain⟨c23,h⟩:=C4 h;rcases o3:M7 eqS (b.g x3.toNat) x2 with _|v3
  .replace h:=An6 o3 h;refine Ar6 Z c23 M6 C8 PV.str (pI .i64) eqS o3 (pI .i64 0) S3 ?_;refine kF Z ?_;refine AO6 Z S3 M6 PV.str (pI .i64) eqS (b.g x3.toNat) x3 x2 S3 ?_;exact i S3 h
  replace h:=Ab6 o3 h;refine Ar5 Z c23 M6 C8 PV.str (pI .i64) eqS o3 S3 ?_;refine kT Z ?_;obtain rfl:=A5 h;exact kO Z S3 []
 refine kC Z h (P2 Z Y) (λy4 h=>?_);obtain rfl:=A5 h;exact kO Z S3 [19000,15000,3802,16000,17000]
def Q5 (N:Nat)(a:A6):Option (Sl Str):= (J5 N a).bind λy1=>ite (!y1) (some (Sl.nil:Sl Str)) ((D1 N a.feats).bind λy2=>some y2)
theorem Kq {a:A6}{y:Sl Str}(h:Q5 N a=some y) :Uw S EI [.reg 0 0] (iO a 1 2 3 4) (.vec 5) ([.cells [.p (vSl 1 cS a.feats),.Uz 1,.vec 2,.Uz 3,.Uz 4],oM PV.str (pI .i64) a.number,oV S0 3 H5 a.sounds true,oM PV.str (pI .i64) a.symbols,oM (λx=>.agg (A0 x)) (pI .i64) a.values,oV M6 1 cS y true]) [true,true,true,true,true]:=by
 unfold Q5 at h;refine A1 Z func147 ?_;obtain⟨y1,e1,h⟩:=E4 h;refine D6 Z [0,1,2,3,4] S3 (BU Z Y e1) ?_;apply kI Z h<;>intro h
 .obtain rfl:=A5 h;exact kO Z S3 [0,1,2,3,4,3700]
 refine kC Z h (P2 Z Y) (λy2 h=>?_);obtain rfl:=A5 h;exact kO Z S3 [0,1,2,3,4,11000]
end Go.AM
namespace Go.AM
open IntKind (wrap)
open Go.Proofs
set_option maxRecDepth 10000
set_option maxHeartbeats 4000000
def CQ {κ ν : Type}(kP : κ -> PV)(vP : ν -> PV):∀l:List (κ × ν),(DQ kP vP l).length=l.length
 |[]=>rfl
 |_::l=>congrArg (· + 1) (CQ kP vP l)
variable {S:X4}(Z:H3 S Tryz.prog) (Y:KY S)
include Z Y
def S8 (N:Nat)(a:A6):Option (Option A6):= (J5 N a).bind λy1=>ite (!y1) (some none) ((D1 N a.feats).bind λy2=>(J4 N a.sounds).bind λy3=>U1 N (λb (x1:List (Str×Int)) (x2:Int)=>ite (decide (x2<(y2.n:Int))) (ite (((0:Int)<=x2/\x2<(y2.n:Int))/\x2.toNat<y2.n) (b (FZ eqS (y2.g x2.toNat) x2 x1) (wrap .i64 (x2+1))) none) (Bb8 N (λc (x3:List (Str×Int)) (x4:List (Up×Int)) (x5:Int)=>ite (decide (x5<(y3.n:Int))) (ite (((0:Int)<=x5/\x5<(y3.n:Int))/\x5.toNat<y3.n) (c (FZ eqS (y3.g x5.toNat).Yi x5 x3) (FZ G2 (y3.g x5.toNat).S x5 x4) (wrap .i64 (x5+1))) none) (some (some (⟨y2,x1,y3,x3,x4⟩:A6)))) [] [] 0)) [] 0)
theorem Fr {N:Nat}{b:A6}{y:Option A6}(h:S8 N b=some y) :Uw S Fm [.reg 0 0] (iO b 1 2 3 4) (JD y (.p BR6) λ_=>.reg 5 0) ((iO b 1 2 3 4)++(JD y [] λo=>iO o 6 7 8 9)) [true,true,true,true,true]:=by
 unfold S8 at h;refine A1 Z Tryz.func146 ?_;obtain⟨y1,e1,h⟩:=E4 h;refine D6 Z [0,1,2,3,4] S3 (BU Z Y e1) ?_;apply kI Z h<;>intro h
 .obtain rfl:=A5 h;exact kO Z S3 [0,1,2,3,4]
 refine G1 Z S3 [(3,.l [0]),(4,.a [16000]),(8,.l [0]),(9,.a [2,21000]),(10,.a [22000]),(11,.a [23000]),(12,.a [24000])] ?_;obtain⟨y2,e2,h⟩:=E4 h;refine GS [] S3 (P2 Z Y e2) ?_;obtain⟨y3,e3,h⟩:=E4 h;refine GS [] S3 (BS Z Y e3) ?_;refine D5 S3 ?_;refine E8 Z S3 h (λx1 x2=>kps [(31,pN x2)] [30,29,3] [(22000,oM PV.str (pI .i64) x1)] [26000,24000,23000,21000,16000,4,3,2,1,0]) (λc x1 x2 d h=>?_);apply kI Z h<;>intro h
 .obtain⟨c7,h⟩:=C4 h;refine AO6 Z c7 M6 PV.str (pI .i64) eqS (y2.g x2.toNat) x2 x1 S3 ?_;exact d S3 h
 refine Nq Z S3 h (λx3 x4 x5=>kps [(48,pN x5)] [47,46,3] [(24000,oM (λx=>.agg (A0 x)) (pI .i64) x4),(23000,oM PV.str (pI .i64) x3)] [26000,22000,21000,16000,4,3,2,1,0]) (λf x3 x4 x5 j h=>?_);apply kI Z h<;>intro h
 .obtain⟨c13,h⟩:=C4 h;refine XK Z (Ur (Ur c13.1 Sw) c13.2) 8000 (H5 (y3.g x5.toNat)) ?_;refine B4 Z S3 [5,11] ?_;refine Bd4 Sp (kt:=M6) (key:=PV.str (y3.g x5.toNat).Yi) (z:=pI .i64 0) (y:=pI .i64 (JJ eqS (y3.g x5.toNat).Yi (0:Int) x3).2.1) (es:=DQ PV.str (pI .i64) x3) (es':=DQ PV.str (pI .i64) (JJ eqS (y3.g x5.toNat).Yi (0:Int) x3).2.2) (i:=(JJ eqS (y3.g x5.toNat).Yi (0:Int) x3).1) (Re (kP:=PV.str) (vP:=pI .i64) (eq:=eqS) (λ_ _=>by kernel_rfl) (y3.g x5.toNat).Yi 0 x3) S3 ?_;refine XP S3 (i:=(JJ eqS (y3.g x5.toNat).Yi (0:Int) x3).1) (y:=pI .i64 x5) (es:=DQ PV.str (pI .i64) (JJ eqS (y3.g x5.toNat).Yi (0:Int) x3).2.2) (es':=DQ PV.str (pI .i64) (FZ eqS (y3.g x5.toNat).Yi x5 x3)) (by rw[CQ];exact My eqS (y3.g x5.toNat).Yi 0 x3) ((Ns (JJ eqS (y3.g x5.toNat).Yi (0:Int) x3).2.2 (JJ eqS (y3.g x5.toNat).Yi (0:Int) x3).1 x5 (My eqS (y3.g x5.toNat).Yi 0 x3)).trans (congrArg (DQ PV.str (pI .i64)) (Nt eqS (y3.g x5.toNat).Yi 0 x5 x3))) ?_;refine Bd4 S3 (kt:=A8) (key:=(λx=>.agg (A0 x)) (y3.g x5.toNat).S) (z:=pI .i64 0) (y:=pI .i64 (JJ G2 (y3.g x5.toNat).S (0:Int) x4).2.1) (es:=DQ (λx=>.agg (A0 x)) (pI .i64) x4) (es':=DQ (λx=>.agg (A0 x)) (pI .i64) (JJ G2 (y3.g x5.toNat).S (0:Int) x4).2.2) (i:=(JJ G2 (y3.g x5.toNat).S (0:Int) x4).1) (Re (kP:=λx=>.agg (A0 x)) (vP:=pI .i64) (eq:=G2) (λ_ _=>by kernel_rfl) (y3.g x5.toNat).S 0 x4) (by decide +kernel:Qx Tryz.prog A8=true) ?_;refine XP S3 (i:=(JJ G2 (y3.g x5.toNat).S (0:Int) x4).1) (y:=pI .i64 x5) (es:=DQ (λx=>.agg (A0 x)) (pI .i64) (JJ G2 (y3.g x5.toNat).S (0:Int) x4).2.2) (es':=DQ (λx=>.agg (A0 x)) (pI .i64) (FZ G2 (y3.g x5.toNat).S x5 x4)) (by rw[CQ];exact My G2 (y3.g x5.toNat).S 0 x4) ((Ns (JJ G2 (y3.g x5.toNat).S (0:Int) x4).2.2 (JJ G2 (y3.g x5.toNat).S (0:Int) x4).1 x5 (My G2 (y3.g x5.toNat).S 0 x4)).trans (congrArg (DQ (λx=>.agg (A0 x)) (pI .i64)) (Nt G2 (y3.g x5.toNat).S 0 x5 x4))) ?_;refine D5 S3 ?_;exact j S3 h
 obtain rfl:=A5 h;exact kO Z S3 [0,1,2,3,4,26000,22000,21000,23000,24000]
end Go.AM
namespace Go.AM
open Go.Proofs.Tryz
variable {N:Nat}
open IntKind (wrap)
open Go.Proofs
set_option maxRecDepth 10000
set_option maxHeartbeats 2000000
variable {S:X4}(Z:H3 S Tryz.prog) (Y:KY S)
include Z Y
def An (N:Nat)(a:B0):Option ((Option A6)×Int):= (Bc N a.Feats).bind λy1=>JD y1.1 (ite (y1.2 != 0) (some (none,y1.2)) none) λz1=>ite (y1.2 != 0) (some (none,y1.2)) (fix6 N (λb (x2:Sl Str) (x3:List (Str×Int)) (x4:Sl F9) (x5:List (Str×Int)) (x6:List (Up×Int)) (x7:Int)=>ite (decide (x7<(a.Sounds.n:Int))) (ite ((0:Int)<=x7/\x7<(a.Sounds.n:Int)) ((P3 N (⟨x2,x3,x4,x5,x6⟩:A6) (a.Sounds.g x7.toNat).Yi (a.Sounds.g x7.toNat).S).bind λy7=>ite (y7.1 != 0) (some (none,y7.1)) (b y7.2.feats y7.2.number y7.2.sounds y7.2.symbols y7.2.values (wrap .i64 (x7+1)))) none) (some (some (⟨x2,x3,x4,x5,x6⟩:A6),0))) z1.feats z1.number z1.sounds z1.symbols z1.values 0)
theorem Jn {a:B0}{y:(Option A6)×Int}(h:An N a=some y) :Uw S Jc [.p (.agg (B3 a))] [] (.tup [JD y.1 (.p BR6) λ_=>.reg 0 0,pN y.2]) (JD y.1 [] λo=>iO o 1 2 3 4) []:=by
 unfold An at h;refine A1 Z func105 ?_;obtain⟨y1,e1,h⟩:=E4 h;rcases o1:y1.1 with _|z1
 .replace h:=An6 o1 h;have w1:=(Ko Z Y e1);simp only[o1,K0,M2,Cg4,Ce9,Cj0]at w1;refine D6 Z [] S3 w1 ?_;apply kI Z h<;>intro h
  .obtain rfl:=A5 h;exact kO Z S3 []
  cases h
 replace h:=Ab6 o1 h;have w2:=(Ko Z Y e1);simp only[o1,K0,M2,Cg4,Ce9,Cj0]at w2;refine D6 Z [] S3 w2 ?_;apply kI Z h<;>intro h
 .obtain rfl:=A5 h;exact kO Z S3 []
 refine BW2 Z S3 h (λx2 x3 x4 x5 x6 x7=>kps [(21,pN x7)] [20,19,4] [(13004,oM (λx=>.agg (A0 x)) (pI .i64) x6),(13003,oM PV.str (pI .i64) x5),(13001,oM PV.str (pI .i64) x3),(13000,.cells [.p (vSl 1 cS x2),.Uz 13001,.vec 5500,.Uz 13003,.Uz 13004]),(5500,oV S0 3 H5 x4 true)] []) (λb x2 x3 x4 x5 x6 x7 c h=>?_);apply kI Z h<;>intro h
 .obtain⟨c19,h⟩:=C4 h;obtain⟨y7,e7,h⟩:=E4 h;refine D6 Z [13000,13001,5500,13003,13004] (Ur c19 Sw) (MJ Z Y e7) ?_;apply kI Z h<;>intro h
  .obtain rfl:=A5 h;exact kO Z S3 []
  exact c S3 h
 obtain rfl:=A5 h;exact kO Z S3 [13000,13001,5500,13003,13004]
def Ao (N:Nat)(a:GO)(q0:GO):Option Bool:= some ((a.Text==q0.Text) != false)
theorem QR {a:GO}{q0:GO}{y:Bool}(h:Ao N a q0=some y) :Uw S Jg [.p (.agg (EF a)),.p (.ptr (EF q0))] [] (pB y) ([]) []:=by unfold Ao at h;refine A1 Z func151 ?_;cases h;exact kR Z
def D9 (N:Nat)(a:Sl GO)(c:GO->Option Bool):Option Int:= N3 N (λb (x1:Int)=>ite (decide (x1<(a.n:Int))) (ite ((0:Int)<=x1/\x1<(a.n:Int)) ((c (a.g x1.toNat)).bind λy3=>ite y3 (some x1) (b (wrap .i64 (x1+1)))) none) (some (-1))) 0
theorem Bd {a:Sl GO}{c:GO->Option Bool}{kp_f:Nat}{cp_f_0:List PV}(d:∀{a0:GO}{b:Bool},c a0=some b->Uw S kp_f [.p (.agg (EF a0)),.p (.ptr cp_f_0)] [] (pB b) [] []){y:Int}(h:D9 N a c=some y) :Uw S Q2 [.p (vSl 4 EF a),.clo kp_f [] [.p (.ptr cp_f_0)]] [] (pN y) ([]) []:=by
 unfold D9 at h;refine A1 Z func208 ?_;refine E2 Z S3 h (λx1=>kps [(8,pN x1)] [7,1,0] [] []) (λf x1 g h=>?_);apply kI Z h<;>intro h
 .obtain⟨c8,h⟩:=C4 h;obtain⟨y3,e3,h⟩:=E4 h;refine D6 Z [] (Ur c8 Sx) (d e3) ?_;refine Ym Z h fun h=>?_;exact g S3 h
 cases h;exact kR Z
def C9 (N:Nat)(a:Sl GO)(b:GO->Option Bool):Option Bool:= (D9 N a b).bind λy1=>some (decide (0<=y1))
theorem Ap {a:Sl GO}{c:GO->Option Bool}{kp_f:Nat}{cp_f_0:List PV}(d:∀{a0:GO}{b:Bool},c a0=some b->Uw S kp_f [.p (.agg (EF a0)),.p (.ptr cp_f_0)] [] (pB b) [] []){y:Bool}(h:C9 N a c=some y) :Uw S O2 [.p (vSl 4 EF a),.clo kp_f [] [.p (.ptr cp_f_0)]] [] (pB y) ([]) []:=by unfold C9 at h;refine A1 Z func150 ?_;refine kC Z h (Bd Z Y (λe=>d e)) (λy1 h=>?_);cases h;exact kR Z
def Ct (N:Nat)(c:A6)(a:Sl GO):Option Int:= (S8 N c).bind λy1=>JD y1 (some 1) λz1=>ite (decide (32<(a.n:Int))) (some 12) ((Q5 N z1).bind λy2=>ite ((0:Int)<=(y2.n:Int)) (N3 N (λb (x3:Int)=>ite (decide (x3<(a.n:Int))) (ite ((0:Int)<=x3/\x3<(a.n:Int)) (lt (λ(z6:Bool)=>ite z6 (some 15) (lt (λ(z7:Bool)=>ite z7 (some 2) (ite ((0:Int)<=x3/\x3<=(a.n:Int)) ((C9 N (a.take x3.toNat) (λ(u3:GO)=>Ao N u3 (a.g x3.toNat))).bind λd=>ite d (some 6) (b (wrap .i64 (x3+1)))) none)) λk6=>ite ((F3 .and .u32 (F3 .or .u32 (a.g x3.toNat).Clear (F3 .or .u32 (a.g x3.toNat).Set.Plus (a.g x3.toNat).Set.Minus)) (F3 .xor .u32 4294967295 (wrap .u32 ((shI .shl .u32 1 (y2.n:Int))-1)))) != 0) (k6 true) (ite ((F3 .and .u32 (a.g x3.toNat).Clear (F3 .or .u32 (a.g x3.toNat).Set.Plus (a.g x3.toNat).Set.Minus)) != 0) (k6 true) ((H1 N (a.g x3.toNat).Set).bind λf=>k6 (!f))))) λk5=>ite (((a.g x3.toNat).Text==[]) != false) (k5 true) (ite (decide (3<((a.g x3.toNat).Text.length:Int))) (k5 true) ((At N (a.g x3.toNat).Text [58,39,34,126,94,95,61,96]).bind λi=>k5 ((i==[]) != true)))) none) ((H2 N a).bind λj=>some 0)) 0) none)
theorem Vc {b:A6}{a:Sl GO}{y:Int}(h:Ct N b a=some y) :Uw S LL [.reg 0 0,.p (vSl 4 EF a)] (iO b 1 2 3 4) (.tup [.top,pN y]) (iO b 1 2 3 4) [true,true,true,true,true]:=by
 unfold Ct at h;refine A1 Z func106 ?_;obtain⟨y1,e1,h⟩:=E4 h;rcases o1:y1 with _|z1
 .replace h:=An6 o1 h;have w1:=(Fr Z Y e1);simp only[o1,K0,M2,Cg4,Ce9,Cj0]at w1;refine D6 Z [0,1,2,3,4] S3 w1 ?_;obtain rfl:=A5 h;exact kO Z S3 [0,1,2,3,4]
 replace h:=Ab6 o1 h;have w2:=(Fr Z Y e1);simp only[o1,K0,M2,Cg4,Ce9,Cj0]at w2;refine D6 Z [0,1,2,3,4] S3 w2 ?_;apply kI Z h<;>intro h
 .obtain rfl:=A5 h;exact kO Z S3 [0,1,2,3,4]
 obtain⟨y2,e2,h⟩:=E4 h;refine D6 Z [13005,13006,13007,13008,13009] S3 (Kq Z Y e2) ?_;obtain⟨c2,h⟩:=C4 h;refine E2 Z c2 h (λx3=>kps [(26,pN x3)] [25,24,7,6,1] [] [13009,13008,13007,13006,13005,4,3,2,1,0]) (λf x3 i h=>?_);apply kI Z h<;>intro h
 .obtain⟨c40,h⟩:=C4 h;refine GN Z (Ur c40 Sx) (A3 Z) h 0 (λz6=>kps [(38,pB z6)] [26,25,24,10,9,8,7,6,1] [] [13009,13008,13007,13006,13005,10000,4,3,2,1,0]) (λk5 c h=>?_) (λz6 h=>?_)
  .refine kG Z h (λh=>?_) (λh=>?_)
   .exact c S3 h
   refine kG Z h (λh=>?_) (λh=>?_)
   .exact c S3 h
   refine kC Z h (Md Z Y) (λj h=>?_);exact c S3 h
  apply kI Z h<;>intro h
  .obtain rfl:=A5 h;exact kO Z S3 [0,1,2,3,4]
  refine GN Z S3 (A3 Z) h 0 (λz7=>kps [(54,pB z7)] [26,25,24,9,8,7,6,1] [] [13009,13008,13007,13006,13005,10000,4,3,2,1,0]) (λk6 d h=>?_) (λz7 h=>?_)
  .refine kG Z h (λh=>?_) (λh=>?_)
   .exact d S3 h
   refine kG Z h (λh=>?_) (λh=>?_)
   .exact d S3 h
   refine kC Z h (T2 Z Y) (λl h=>?_);exact d S3 h
  apply kI Z h<;>intro h
  .obtain rfl:=A5 h;exact kO Z S3 [0,1,2,3,4]
  obtain⟨c55,h⟩:=C4 h;refine C7 Z c55 79 10000 (EF (a.g x3.toNat)) ?_;refine kC Z h (Ap Z Y (λe=>QR Z Y e)) (λm h=>?_);apply kI Z h<;>intro h
  .obtain rfl:=A5 h;exact kO Z S3 [0,1,2,3,4]
  exact i S3 h
 refine kC Z h (CP Z Y) (λn h=>?_);obtain rfl:=A5 h;exact kO Z S3 [0,1,2,3,4]
def GZ (N:Nat)(a:B0):Option Int:= (An N a).bind λy1=>JD y1.1 (ite (y1.2 != 0) (some y1.2) none) λz1=>ite (y1.2 != 0) (some y1.2) ((Ct N z1 a.Marks).bind λy3=>ite (y3 != 0) (some y3) (some 0))
theorem Ai6 {a:B0}{y:Int}(h:GZ N a=some y) :Uw S PS [.p (.agg (B3 a))] [] (.tup [.top,.top,pN y]) ([]) []:=by
 unfold GZ at h;refine A1 Z func67 ?_;obtain⟨y1,e1,h⟩:=E4 h;rcases o1:y1.1 with _|z1
 .replace h:=An6 o1 h;have w1:=(Jn Z Y e1);simp only[o1,K0,M2,Cg4,Ce9,Cj0]at w1;refine D6 Z [] S3 w1 ?_;apply kI Z h<;>intro h
  .obtain rfl:=A5 h;exact kO Z S3 []
  cases h
 replace h:=Ab6 o1 h;have w2:=(Jn Z Y e1);simp only[o1,K0,M2,Cg4,Ce9,Cj0]at w2;refine D6 Z [] S3 w2 ?_;apply kI Z h<;>intro h
 .obtain rfl:=A5 h;exact kO Z S3 []
 obtain⟨y3,e3,h⟩:=E4 h;refine D6 Z [11000,11001,11002,11003,11004] S3 (Vc Z Y e3) ?_;apply kI Z h<;>intro h
 .obtain rfl:=A5 h;exact kO Z S3 []
 obtain rfl:=A5 h;exact kO Z S3 []
def Z5 (N:Nat)(a:B0):Option Int:= (GZ N a).bind λy1=>ite (y1 != 0) (some y1) ((Ay N a.Yc a.Yb a.Yf).bind λy2=>some y2)
theorem Ha {a:B0}{y:Int}(h:Z5 N a=some y) :Uw S PO [.p (.agg (B3 a))] [] (pN y) ([]) []:=by
 unfold Z5 at h;refine A1 Z func30 ?_;refine kC Z h (Ai6 Z Y) (λy1 h=>?_);refine Ym Z h fun h=>?_;refine kC Z h (Mi Z Y) (λy2 h=>?_);cases h;exact kR Z
end Go.AM
