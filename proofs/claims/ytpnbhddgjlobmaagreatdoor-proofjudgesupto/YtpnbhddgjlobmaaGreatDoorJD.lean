/- Part 4. -/
import Derived.Test.YtpnbhddgjlobmaaGreatDoorJC
import Derived.Test.YtpnbhddgjlobmaaGreatDoorJB
import Derived.RecoverIn
import Derived.Test.YtpnbhddgjlobmaaGreatDoorProg
import Derived.Lib.SlTrimSet
import Derived.Lib.Join
import Derived.Lib.ItoaNum
import Derived.Lib.Bytealg
import Derived.TacticsInMore
set_option linter.defProp false
set_option linter.unusedSimpArgs false
set_option linter.unusedVariables false
set_option linter.unusedSectionVars false
namespace Go.AM
def Vb:=@And.intro
abbrev Va(k n:Nat):Prop:=n*k<=140737488355328/\n<=140737488355328
abbrev Tj:Sl Int:=Sl.nil
def Sr:true=true:=rfl
def Sq:(18:Nat)<=18:=by decide
def S5:(7:Nat)<=7:=by decide
def Pd:(4:Nat)<=4:=by decide
def Pc:(3:Nat)<=3:=by decide
def Pb:(2:Nat)<=2:=by decide
def Pa:(1:Nat)<=1:=by decide
abbrev Oe(z:Int):Sl Int:=(Sl.of [IntKind.wrap .u8 z,IntKind.wrap .u8 (shI .shr .u32 z 8),IntKind.wrap .u8 (shI .shr .u32 z 16)]:Sl Int)
noncomputable abbrev Ci1:=Go.Proofs.Tryz.prog.funcs
def Cj9:=@Bool.eq_iff_iff
def Cn4:=@List.nil_append
def Cv5:=@Option.ite_none_right_eq_some
def Cw2:=@BitVec.toNat_ofNat
def Cw7:=@BitVec.getLsbD_shiftLeft
def Cz9:=@BitVec.getLsbD_one
theorem IE (D:List Deferred)(a:Act)(d:Option Tmp)(v:Value):(Ur D a).put d v=Ur D (a.put d v):=by cases d<;>rfl
def NB {F:Fence}{n:Nat}{P:Program}{ops:Array Oper}{Q:Exit->Act->World->Prop}(D:List Deferred):∀(l:List Nat) (a:Act) (w:World),wpOpsIn F n P ops Q l a w ->
 wpOpsIn F n P ops (λe a' w'=>∃a0,a' = Ur D a0/\Q e a0 w') l (Ur D a) w
 |[],a,w,h=>⟨a,rfl,h⟩
 |i::l,a,w,h=>by
  have ih:=NB (F:=F) (n:=n) (P:=P) (ops:=ops) (Q:=Q) D l;simp only[wpOpsIn]at h⊢;have e1:(Ur D a).eval=a.eval:=by funext x;cases x<;>rfl
  have e2:(Ur D a).tmps=a.tmps:=rfl;cases j:ops[i]? with
  |none=>grind
  |some o=>
   simp only[j]at h⊢;rw[e2,e1];by_cases hw:Region.wanted o (yielded ops a.tmps)=true
   .rw[Kb hw]at h⊢;refine⟨by rw[e1];exact h.1,?_⟩;have b:=h.2;rw[e1];generalize (o.semAt F.round a.eval).run P w=r at b;unfold Oper.uponIn at b⊢;split at b
    .rw[IE];grind
    .rw[IE];grind
    .exact ih _ _ b |> λx=>by
      rename_i d w'
      have:({ (Ur D a)with defers:=d::(Ur D a).defers }:Act).put o.dst undef=Ur D (({ a with defers:=d::a.defers }:Act).put o.dst undef):=by rw[<- IE];rfl
      rw[this];exact x
    .refine⟨b.1,b.2.mono ?_⟩;intro e w' f;cases e with
     |returned v=>have:=ih _ _ f;rw[<- IE]at this;omega
     |panicked ch=>grind
     |outgrown=>obtain⟨a1,w1,g⟩:=f;exact⟨Ur D a1,w1,a1,rfl,g⟩
    .refine⟨b.1,λc cs m=>?_⟩;obtain⟨v,w',g1,g2⟩:=b.2 c cs m
     grind[IE]
    .refine⟨b.1,b.2.mono ?_⟩;intro e w' f;cases e with
     |returned v=>have:=ih _ _ f;rw[<- IE]at this;omega
     |panicked ch=>grind
     |outgrown=>obtain⟨a1,w1,g⟩:=f;exact⟨Ur D a1,w1,a1,rfl,g⟩
    all_goals grind
   simp_all[Kd,IE]
section
variable {P:Program}{C:Ctx}{st:St}{rho:Nat->Value}
def IF {fn:Func}{R:Ending->World->Prop}{u:FrameMode}(c:u ≠ .run){tmps:Array Value}{D:List Deferred}(b:∀a w,Sat C st a w rho->a.tmps=tmps->LeavesInM Fence.wide 0 P fn tmps R D u w) :∀(ds:List Deferred) (a:Act) (w:World),a.defers=ds->a.tmps=tmps->Sat C st a w rho->LeavesInM Fence.wide 0 P fn tmps R (ds++D) u w
 |[],a,w,hd,ht,h=>b a w h ht
 |d::ds,a,w,hd,ht,h=>by obtain⟨r,w',h1,f,g⟩:=h.unmark hd;exact⟨c,.inl ⟨r,w',h1,f,IF c b ds { a with defers:=ds } w' rfl ht g⟩⟩
end
structure Node where
 Yx:Int
 Name:Str
 deriving Inhabited,DecidableEq
abbrev F1 (x:Node):List PV:=[(pI .i64 x.Yx),.str x.Name]
structure Tr where
 Plus:Int
 Minus:Int
 deriving Inhabited,DecidableEq
abbrev A0 (x:Tr):List PV:=[(pI .u32 x.Plus),pI .u32 x.Minus]
inductive Pat where
 |nil
 |mk (Kind:Int) (Is:Tr) (Not:Bool) (Min:Int) (Max:Int) (n:Nat) (g:Nat->Pat)
instance:Inhabited Pat:=⟨.nil⟩
def Pat.Kind:Pat->Int
 |.nil=>0
 |.mk x _ _ _ _ _ _=>x
def Pat.Is:Pat->Tr
 |.nil=>default
 |.mk _ x _ _ _ _ _=>x
def Pat.Not:Pat->Bool
 |.nil=>false
 |.mk _ _ x _ _ _ _=>x
def Pat.Min:Pat->Int
 |.nil=>0
 |.mk _ _ _ x _ _ _=>x
def Pat.Max:Pat->Int
 |.nil=>0
 |.mk _ _ _ _ x _ _=>x
def Pat.L:Pat->Sl Pat
 |.nil=>⟨0,λ_=>.nil⟩
 |.mk _ _ _ _ _ n g=>⟨n,g⟩
def CJ:Pat->Nat->List PV
 |.nil=>λ_=>[]
 |.mk _ _ _ _ _ n g=>λi=>[(pI .i64 (g i).Kind),pI .u32 (g i).Is.Plus,pI .u32 (g i).Is.Minus,.bb (g i).Not,pI .i64 (g i).Min,pI .i64 (g i).Max,.sl false 7 (g i).L.n (CJ (g i))]
abbrev C5 (x:Pat):List PV:=[(pI .i64 x.Kind),pI .u32 x.Is.Plus,pI .u32 x.Is.Minus,.bb x.Not,pI .i64 x.Min,pI .i64 x.Max,.sl false 7 x.L.n (CJ x)]
def Q0 (x:Pat):∀i,i<x.L.n->CJ x i=C5 (x.L.g i):=by
 cases x with
 |nil=>intro i a;exact Kf (show i<0 from a) (by omega)
 |mk Kind Is Not Min Max n g=>exact λ_ _=>rfl
structure EM where
 From:Int
 Clear:Int
 Set:Tr
 Take:Int
 Of:Int
 deriving Inhabited,DecidableEq
abbrev Dj (x:EM):List PV:=[(pI .i64 x.From),pI .u32 x.Clear,pI .u32 x.Set.Plus,pI .u32 x.Set.Minus,pI .u32 x.Take,pI .i64 x.Of]
structure Law where
 Name:Str
 Left:Pat
 Right:Pat
 If:(Sl Tr)
 Out:(Sl EM)
 Mode:Int
 deriving Inhabited
abbrev B7 (x:Law):List PV:=[(.str x.Name),pI .i64 x.Left.Kind,pI .u32 x.Left.Is.Plus,pI .u32 x.Left.Is.Minus,.bb x.Left.Not,pI .i64 x.Left.Min,pI .i64 x.Left.Max,.sl false 7 x.Left.L.n (CJ x.Left),pI .i64 x.Right.Kind,pI .u32 x.Right.Is.Plus,pI .u32 x.Right.Is.Minus,.bb x.Right.Not,pI .i64 x.Right.Min,pI .i64 x.Right.Max,.sl false 7 x.Right.L.n (CJ x.Right),vSl 2 A0 x.If,vSl 6 Dj x.Out,pI .i64 x.Mode]
structure Yv where
 Tree:(Sl Node)
 Laws:(Sl Law)
 On:(Sl (Sl Int))
 deriving Inhabited
abbrev B0 (x:Yv):List PV:=[(vSl 2 F1 x.Tree),vSl 18 B7 x.Laws,vSl 1 (cL 1 (cI .i64)) x.On]
structure F9 where
 Af1:Str
 S:Tr
 deriving Inhabited,DecidableEq
abbrev H6 (x:F9):List PV:=[(.str x.Af1),pI .u32 x.S.Plus,pI .u32 x.S.Minus]
structure GW where
 Text:Str
 Clear:Int
 Set:Tr
 deriving Inhabited,DecidableEq
abbrev EN (x:GW):List PV:=[(.str x.Text),pI .u32 x.Clear,pI .u32 x.Set.Plus,pI .u32 x.Set.Minus]
structure N0 where
 Has:Bool
 W:(Sl Tr)
 deriving Inhabited
abbrev I5 (x:N0):List PV:=[(.bb x.Has),vSl 2 A0 x.W]
structure Z1 where
 Gloss:Str
 Yz:(Sl N0)
 deriving Inhabited
abbrev N8 (x:Z1):List PV:=[(.str x.Gloss),vSl 2 I5 x.Yz]
structure A8 where
 Feats:(Sl Str)
 Sounds:(Sl F9)
 Marks:(Sl GW)
 Yv:Yv
 Yu:(Sl N0)
 Yy:(Sl Z1)
 deriving Inhabited
abbrev B2 (x:A8):List PV:=[(vSl 1 cS x.Feats),vSl 3 H6 x.Sounds,vSl 4 EN x.Marks,vSl 2 F1 x.Yv.Tree,vSl 18 B7 x.Yv.Laws,vSl 1 (cL 1 (cI .i64)) x.Yv.On,vSl 2 I5 x.Yu,vSl 2 N8 x.Yy]
structure A5 where
 Z1:Int
 Ys:Int
 Kind:Int
 Cost:Int
 deriving Inhabited,DecidableEq
abbrev B9 (x:A5):List PV:=[(pI .i64 x.Z1),pI .i64 x.Ys,pI .i64 x.Kind,pI .i64 x.Cost]
structure Br where
 Node:Int
 Place:Int
 Z1:Int
 Ys:Int
 deriving Inhabited,DecidableEq
abbrev N1 (x:Br):List PV:=[(pI .i64 x.Node),pI .i64 x.Place,pI .i64 x.Z1,pI .i64 x.Ys]
structure Z9 where
 Bad:(Sl A5)
 Yw:(Sl Br)
 deriving Inhabited
abbrev Dv (x:Z9):List PV:=[(vSl 4 B9 x.Bad),vSl 4 N1 x.Yw]
structure C8 where
 a0:Int
 a1:Int
 deriving Inhabited,DecidableEq
abbrev E1 (x:C8):List PV:=[(pI .i64 x.a0),pI .i64 x.a1]
structure place where
 entry:Int
 leaf:Int
 deriving Inhabited,DecidableEq
abbrev Sj (x:place):List PV:=[(pI .i64 x.entry),pI .i64 x.leaf]
inductive Part where
 |nil
 |sound (x:Tr) (no:Bool)
 |edge (e:Bool)
 |seq (n:Nat) (g:Nat->Part)
 |alt (n:Nat) (g:Nat->Part)
 |rep (o:Part) (mn mx:Int)
instance:Inhabited Part:=⟨.nil⟩
def Part.t:Part->Nat
 |.nil=>0
 |.sound _ _=>353
 |.edge _=>355
 |.seq _ _=>360
 |.alt _ _=>357
 |.rep _ _ _=>359
def Part.v:Part->PV
 |.nil=>.bb false
 |.sound x no=>.agg [pI .u32 x.Plus,pI .u32 x.Minus,.bb no]
 |.edge e=>.agg [.bb e]
 |.seq n g=>.agg [.sl false 1 n λi=>[.iface (g i).t (g i).v]]
 |.alt n g=>.agg [.sl false 1 n λi=>[.iface (g i).t (g i).v]]
 |.rep o mn mx=>.agg [.iface o.t o.v,pI .i64 mn,pI .i64 mx]
abbrev JR (x:Part):PV:=.iface x.t x.v
abbrev Wk (x:Part):List PV:=[JR x]
structure Bh3 where
 is:Tr
 not:Bool
 deriving Inhabited,DecidableEq
abbrev Bz8 (x:Bh3):List PV:=[(pI .u32 x.is.Plus),pI .u32 x.is.Minus,.bb x.not]
structure BQ1 where
 end_:Bool
 deriving Inhabited,DecidableEq
abbrev BQ2 (x:BQ1):List PV:=[(.bb x.end_)]
structure Palt where
 l:(Sl Part)
 deriving Inhabited
abbrev Cc1 (x:Palt):List PV:=[(vSl 1 Wk x.l)]
structure Cc2 where
 of:Part
 min:Int
 max:Int
 deriving Inhabited
abbrev Cc3 (x:Cc2):List PV:=[(JR x.of),pI .i64 x.min,pI .i64 x.max]
structure Pseq where
 l:(Sl Part)
 deriving Inhabited
abbrev Cc4 (x:Pseq):List PV:=[(vSl 1 Wk x.l)]
structure D7 where
 Made:Bool
 F:(Sl Str)
 S:(Sl F9)
 deriving Inhabited
structure A7 where
 feats:(Sl Str)
 number:List (Str×Int)
 sounds:(Sl F9)
 symbols:List (Str×Int)
 values:List (Tr×Int)
 deriving Inhabited
abbrev G2 (a b:Tr):Bool:=((a.Plus==b.Plus)&&(a.Minus==b.Minus))
open Go.Proofs
abbrev DZ:Nat:=3
abbrev Sk:Nat:=4
abbrev Sm:Nat:=5
abbrev LL:Nat:=6
abbrev PQ:Nat:=7
abbrev PS:Nat:=8
abbrev Wl:Nat:=9
abbrev NC:Nat:=10
abbrev Sn:Nat:=11
abbrev Wm:Nat:=12
abbrev So:Nat:=13
abbrev Af3:Nat:=14
abbrev PT:Nat:=15
abbrev Sp:Nat:=16
abbrev ND:Nat:=17
abbrev PU:Nat:=18
abbrev Wn:Nat:=19
abbrev PW:Nat:=20
abbrev NE:Nat:=21
abbrev Wo:Nat:=22
abbrev M6:Nat:=23
abbrev U3:Nat:=24
abbrev Wp:Nat:=25
abbrev PX:Nat:=26
abbrev JS:Nat:=27
abbrev JT:Nat:=28
abbrev NF:Nat:=29
abbrev Ss:Nat:=30
abbrev Wq:Nat:=31
abbrev Wr:Nat:=32
abbrev NG:Nat:=33
abbrev Su:Nat:=34
abbrev Ws:Nat:=35
abbrev Wt:Nat:=36
abbrev Sv:Nat:=37
abbrev Sw:Nat:=38
abbrev Lb:Nat:=39
abbrev NH:Nat:=40
abbrev Wu:Nat:=41
abbrev Sx:Nat:=42
abbrev NI:Nat:=43
abbrev PY:Nat:=44
abbrev NJ:Nat:=45
abbrev NK:Nat:=46
abbrev Ho:Nat:=47
abbrev Ah:Nat:=48
abbrev Hq:Nat:=49
abbrev Sy:Nat:=50
abbrev Aa:Nat:=51
abbrev EO:Nat:=52
abbrev Y1:Nat:=53
abbrev PZ:Nat:=54
abbrev Sz:Nat:=55
abbrev Ag0:Nat:=56
abbrev SA:Nat:=57
abbrev Qa:Nat:=58
abbrev LM:Nat:=59
abbrev LN:Nat:=60
abbrev JV:Nat:=61
abbrev Qb:Nat:=62
abbrev LO:Nat:=63
abbrev LP:Nat:=64
abbrev SD:Nat:=65
abbrev Wv:Nat:=66
abbrev Ww:Nat:=67
abbrev NL:Nat:=68
abbrev FF:Nat:=69
abbrev IG:Nat:=70
abbrev Wx:Nat:=71
abbrev Wy:Nat:=72
abbrev SF:Nat:=73
abbrev SH:Nat:=74
abbrev Wz:Nat:=75
abbrev Jg:Nat:=76
abbrev HL:Nat:=77
abbrev DY:Nat:=78
abbrev NM:Nat:=79
abbrev HM:Nat:=80
abbrev Qc:Nat:=81
abbrev NN:Nat:=82
abbrev U4:Nat:=83
abbrev Qd:Nat:=86
abbrev NO:Nat:=87
abbrev NP:Nat:=88
abbrev SI:Nat:=89
abbrev Jh:Nat:=90
abbrev LQ:Nat:=91
abbrev JW:Nat:=92
abbrev LR:Nat:=93
abbrev Ji:Nat:=94
abbrev LS:Nat:=95
abbrev LT:Nat:=96
abbrev U5:Nat:=97
abbrev Jj:Nat:=98
abbrev Cf:Nat:=99
abbrev LU:Nat:=100
abbrev Jk:Nat:=101
abbrev S4:Nat:=102
abbrev LW:Nat:=103
abbrev LX:Nat:=104
abbrev JX:Nat:=105
abbrev Ag5:Nat:=106
abbrev Qe:Nat:=107
abbrev SL:Nat:=108
abbrev SM:Nat:=109
abbrev AJ4:Nat:=110
abbrev SN:Nat:=111
abbrev Qf:Nat:=112
abbrev Lc:Nat:=113
abbrev SO:Nat:=114
abbrev W0:Nat:=115
abbrev Qg:Nat:=116
abbrev CM:Nat:=117
abbrev W1:Nat:=118
abbrev Gj:Nat:=119
abbrev CN:Nat:=120
abbrev Qh:Nat:=121
abbrev JZ:Nat:=122
abbrev Qi:Nat:=129
abbrev WA:Nat:=130
abbrev Ka:Nat:=131
abbrev Gk:Nat:=132
abbrev Fu:Nat:=133
abbrev EP:Nat:=134
abbrev Hs:Nat:=135
abbrev NR:Nat:=136
abbrev O4:Nat:=137
abbrev Jl:Nat:=138
abbrev U6:Nat:=139
abbrev SR:Nat:=140
abbrev Kc:Nat:=141
abbrev O5:Nat:=142
abbrev Jm:Nat:=143
abbrev LY:Nat:=144
abbrev Bs:Nat:=145
abbrev J3:Nat:=146
abbrev W2:Nat:=147
abbrev LZ:Nat:=148
abbrev N9:Nat:=149
abbrev Y2:Nat:=150
abbrev L0:Nat:=151
abbrev NT:Nat:=152
abbrev Ah1:Nat:=153
abbrev NU:Nat:=154
abbrev Ke:Nat:=155
abbrev Ma:Nat:=156
abbrev Mb:Nat:=157
abbrev Mc:Nat:=158
abbrev SU:Nat:=159
abbrev WB:Nat:=160
abbrev AJ5:Nat:=161
abbrev WC:Nat:=162
abbrev Qj:Nat:=163
abbrev BP:Nat:=164
abbrev Ah3:Nat:=165
abbrev AR:Nat:=166
abbrev NV:Nat:=167
abbrev SV:Nat:=174
abbrev WD:Nat:=175
abbrev Fw:Nat:=176
abbrev HN:Nat:=177
abbrev Y3:Nat:=178
abbrev Fx:Nat:=179
abbrev EQ:Nat:=180
abbrev CP:Nat:=181
abbrev DF:Nat:=182
abbrev S6:Nat:=183
abbrev Q2:Nat:=191
abbrev NW:Nat:=192
abbrev WE:Nat:=193
abbrev NX:Nat:=194
abbrev SW:Nat:=195
abbrev Qk:Nat:=196
abbrev N4:Nat:=197
abbrev P6:Nat:=198
abbrev Q3:Nat:=199
abbrev P7:Nat:=200
abbrev Jo:Nat:=201
abbrev Md:Nat:=202
abbrev Gm:Nat:=203
abbrev Ql:Nat:=204
abbrev Me:Nat:=205
abbrev Mf:Nat:=206
abbrev HO:Nat:=207
abbrev WF:Nat:=208
abbrev Jp:Nat:=209
abbrev SY:Nat:=210
abbrev WG:Nat:=211
abbrev S0:Nat:=212
abbrev MJ:Nat:=213
abbrev U7:Nat:=215
abbrev Tb:Nat:=216
abbrev WH:Nat:=217
abbrev Tc:Nat:=218
abbrev WI:Nat:=219
abbrev Ld:Nat:=220
abbrev Mg:Nat:=226
abbrev T5:Nat:=227
abbrev O8:Nat:=228
abbrev S7:Nat:=229
abbrev S8:Nat:=230
abbrev Al:Nat:=231
abbrev Td:Nat:=232
abbrev Qm:Nat:=233
abbrev Ah7:Nat:=234
abbrev Ah8:Nat:=235
abbrev WJ:Nat:=236
abbrev Te:Nat:=237
abbrev Qn:Nat:=242
abbrev J1:Nat:=243
abbrev Tf:Nat:=244
abbrev NY:Nat:=245
abbrev Tg:Nat:=246
abbrev Ai0:Nat:=247
abbrev Th:Nat:=248
abbrev WK:Nat:=249
abbrev Ti:Nat:=253
abbrev Ai1:Nat:=254
abbrev Ai2:Nat:=255
abbrev Ai3:Nat:=256
abbrev NZ:Nat:=257
abbrev MK:Nat:=258
abbrev WL:Nat:=259
abbrev Q9:Nat:=260
abbrev Ai4:Nat:=261
abbrev Ai5:Nat:=262
abbrev Oa:Nat:=263
abbrev Kg:Nat:=264
abbrev Qo:Nat:=265
abbrev WM:Nat:=266
abbrev Qp:Nat:=267
abbrev WN:Nat:=268
abbrev Kh:Nat:=269
abbrev Qq:Nat:=270
abbrev HP:Nat:=271
abbrev K6:Nat:=272
abbrev Mh:Nat:=273
abbrev Qr:Nat:=274
abbrev WO:Nat:=275
abbrev II:Nat:=276
abbrev Aj1:Nat:=277
abbrev Cj:Nat:=278
abbrev Ob:Nat:=279
abbrev Tk:Nat:=280
abbrev Tl:Nat:=281
abbrev Tm:Nat:=282
abbrev Ki:Nat:=283
abbrev WQ:Nat:=284
abbrev Qs:Nat:=285
abbrev WR:Nat:=286
abbrev To:Nat:=287
abbrev Oc:Nat:=288
abbrev Od:Nat:=289
abbrev Mi:Nat:=290
abbrev Kj:Nat:=291
abbrev EB:Nat:=292
abbrev Fo:Nat:=293
abbrev ER:Nat:=314
abbrev Gp:Nat:=315
abbrev Ht:Nat:=316
abbrev IJ:Nat:=317
abbrev Hb:Nat:=318
abbrev IK:Nat:=319
abbrev Kl:Nat:=320
abbrev BU:Nat:=321
abbrev IL:Nat:=322
abbrev C9:Nat:=3
abbrev BI1:Nat:=4
abbrev I2:Nat:=5
abbrev M9:Nat:=9
abbrev ES:Nat:=26
abbrev YQ:Nat:=29
abbrev YR:Nat:=33
abbrev Ay2:Nat:=37
abbrev Bv:Nat:=39
abbrev Ay3:Nat:=54
abbrev E9:Nat:=63
abbrev K7:Nat:=67
abbrev Lf:Nat:=74
abbrev CQ:Nat:=82
abbrev EC:Nat:=85
abbrev A9:Nat:=88
abbrev HQ:Nat:=91
abbrev H7:Nat:=94
abbrev S1:Nat:=101
abbrev Y4:Nat:=125
abbrev Bi8:Nat:=151
abbrev G8:Nat:=197
abbrev R5:Nat:=210
abbrev WS:Nat:=222
abbrev Ay4:Nat:=348
open IntKind (wrap)
abbrev U (x:BitVec 64):Int:=(x.toNat:Int)
theorem Og {n:Nat}(h:n<2 ^ 64):IntKind.u64.wrap (n:Int)=n:=by
 have h1:((n:Int) % (2 ^ 64:Int))=n:=by omega
 simp_all[wrap,IntKind.bits,IntKind.signed,Cr2,Ci8,Lw]
theorem Ay5 (x:BitVec 64):BitVec.ofInt 64 (U x)=x:=by
 grind
def and64 (x y:BitVec 64):F3 .and .u64 (U x) (U y)=U (x &&& y):=by
 grind[F3,IntKind.bits,Ay5,Og]
def Ch2 (x y:BitVec 64):F3 .or .u64 (U x) (U y)=U (x ||| y):=by
 grind[F3,IntKind.bits,Ay5,Og]
def BA1 (x y:BitVec 64):F3 .andNot .u64 (U x) (U y)=U (x &&& ~~~ y):=by
 grind[F3,IntKind.bits,Ay5,Og]
def shr64 (x:BitVec 64)(n:Nat):shI .shr .u64 (U x) n=U (x >>> n):=by
 simp only[shI,IntKind.bits,Int.toNat_natCast];have hx:=x.isLt;show Int.fdiv (x.toNat:Int) (2 ^ min n 64)=((x >>> n).toNat:Int);rw[Cr6,Cr3];have e:((2:Int) ^ (min n 64))=((2 ^ (min n 64):Nat):Int):=by norm_cast
 rw[e,Cw1 _ (Cz7 _),<- Int.natCast_ediv];congr 1;by_cases h:n<=64
 .rw[Cp2 h]
 rw[Cv4 (by omega),Cq2 hx,Cq2];exact Ck0 hx (Cr5 (by omega) (by omega))
def Cc5:(1:Int)=U 1#64:=rfl
def Aj3 (n:Nat)(h:n<64):shI .shl .u64 1 n=U (1#64 <<< n):=by
 simp only[shI,IntKind.bits,Int.toNat_natCast];rw[Cp2 (by omega)];show wrap .u64 (1*2 ^ n)=((1#64 <<< n).toNat:Int);rw[Cu9,Cx6];have h1:(2:Nat) ^ n<2 ^ 64:=Nat.pow_lt_pow_right (by omega) h;have e:((1:Int)*2 ^ n)=((2 ^ n:Nat):Int):=by norm_cast;omega
 rw[e,Og h1]
 norm_cast
 rw[Co9]
 all_goals grind
def BQ3 {i:Nat}:(1#64).getLsbD i=decide (i=0):=by rw[Cz9];simp
def YS {n i:Nat}(h:n<64)(a:i<64):(1#64 <<< n).getLsbD i=decide (i=n):=by
 rw[Cw7,BQ3,Cj9]
 grind
def bit64 (x:BitVec 64)(i:Nat):(F3 .and .u64 (shI .shr .u64 (U x) (i:Int)) 1==1)=x.getLsbD i:=by
 rw[shr64,Cc5,and64];have h:(x >>> i &&& 1#64)=(BitVec.ofBool (x.getLsbD i)).setWidth 64:=by
  grind
 rw[h];cases x.getLsbD i<;>rfl
def BA2 {x y:BitVec 64}(h:∀b,b<64->(x.getLsbD b=true↔y.getLsbD b=true)):x=y:=
 (by grind)
def Mj (n:Nat)(R:Nat->Nat->Prop):Nat->Nat->Nat->Prop
 |0=>λa b=>a=b
 |k+1=>λa b=>∃c,c<=n/\Mj n R k a c/\R c b
def BI2 (n:Nat)(Q:Nat->Nat->Nat->Prop):Nat->Nat->Nat->Prop
 |0=>λa b=>a=b
 |i+1=>λa b=>∃c,c<=n/\BI2 n Q i a c/\Q i c b
def Fwd (n:Nat)(R:Nat->Nat->Prop):Prop:=∀a b,a<=n->R a b->a<=b/\b<=n
def Oh {n:Nat}{R:Nat->Nat->Prop}(h:Fwd n R):∀k,Fwd n (Mj n R k)
 |0,a,b,ha,hb=>by obtain rfl:a=b:=hb;omega
 |k+1,a,b,ha,⟨c,hc,h1,h2⟩=>by have g1:=Oh h k a c ha h1;have g2:=h c b hc h2;omega
def AJ6 {n:Nat}{Q:Nat->Nat->Nat->Prop}:∀k,(∀i,i<k->Fwd n (Q i))->Fwd n (BI2 n Q k)
 |0,_,a,b,ha,hb=>by obtain rfl:a=b:=hb;omega
 |k+1,h,a,b,ha,⟨c,hc,h1,h2⟩=>by have g1:=AJ6 k (by grind) a c ha h1;have g2:=h k (by omega) c b hc h2;omega
theorem Hc {n:Nat}{R:Nat->Nat->Prop}(h:Fwd n R)(j:Nat){a:Nat}(ha:a<=n):∀k b,Mj n R (j+k) a b ↔ ∃c,c<=n/\Mj n R j a c/\Mj n R k c b
 |0,b=>⟨λhp=>⟨b,(Oh h j a b ha hp).2,hp,rfl⟩,fun⟨c,_,hp,e⟩=>by obtain rfl:c=b:=e;omega⟩
 |k+1,b=>by
  constructor
  .rintro⟨d,f,h1,g⟩;obtain⟨c,hc,g1,g2⟩:=(Hc h j ha k d).1 h1;exact⟨c,hc,g1,d,f,g2,g⟩
  rintro⟨c,hc,g1,d,f,g2,g⟩;exact⟨d,f,(Hc h j ha k d).2 ⟨c,hc,g1,g2⟩,g⟩
def WT {n:Nat}{R:Nat->Nat->Prop}(h:Fwd n R){a:Nat}(ha:a<=n):∀k b,Mj n R (k+1) a b->Mj n R k a b \/ a+(k+1)<=b
 |0,b,⟨c,hc,h1,h2⟩=>by
  obtain rfl:a=c:=h1;by_cases e:a=b
  .exact .inl e
  have:=(h a b ha h2).1;omega
 |k+1,b,⟨c,hc,h1,h2⟩=>by
  by_cases e:c=b
  .grind
  have:=(h c b hc h2).1
  rcases WT h ha k c h1 with g|g
  .exact .inl ⟨c,hc,g,h2⟩
  omega
def Aj4 {n:Nat}{R:Nat->Nat->Prop}(h:Fwd n R){a:Nat}(ha:a<=n){k b:Nat}(hk:n<=k)(hp:Mj n R (k+1) a b):Mj n R k a b:=by
 rcases WT h ha k b hp with g|g
 .exact g
 have:=(Oh h (k+1) a b ha hp).2;omega
def Aj5 {n:Nat}{R:Nat->Nat->Prop}(h:Fwd n R){a:Nat}(ha:a<=n){b:Nat}:∀k,Mj n R k a b->∃j,j<=n/\Mj n R j a b
 |0,hp=>by grind
 |k+1,hp=>by
  by_cases hk:n<=k
  .exact Aj5 h ha k (Aj4 h ha hk hp)
  grind
theorem Ts {n:Nat}{R:Nat->Nat->Prop}(h:Fwd n R){a:Nat}(ha:a<=n):∀k b,Mj n (λx y=>R x y \/ x=y) k a b ↔ ∃j,j<=k/\Mj n R j a b
 |0,b=>⟨λe=>⟨0,Ci9 _,e⟩,fun⟨j,f,hp⟩=>by
  obtain rfl:j=0:=by omega
  exact hp⟩
 |k+1,b=>by
  constructor
  .rintro⟨c,hc,h1,d⟩;obtain⟨j,f,hp⟩:=(Ts h ha k c).1 h1;rcases d with d|d
   .exact⟨j+1,by omega,c,hc,hp,d⟩
   grind
  rintro⟨j,f,hp⟩;by_cases e:j<=k
  .have hb:=(Oh h j a b ha hp).2;exact⟨b,hb,(Ts h ha k b).2 ⟨j,e,hp⟩,.inr rfl⟩
  obtain rfl:j=k+1:=by omega
  obtain⟨c,hc,h1,d⟩:=hp;exact⟨c,hc,(Ts h ha k c).2 (by grind),.inl d⟩
def Ba6 (s c:Tr):Bool:=(F3 .and .u32 s.Plus c.Plus==c.Plus)&&(F3 .and .u32 s.Minus c.Minus==c.Minus)
def PR (w:Sl Tr):Pat->Nat->Nat->Prop
 |.nil=>λa b=>a=b
 |.mk kind is no mn mx m g=>λa b=>
  if kind=0 then a=b
  else if kind=1 then a<w.n/\b=a+1/\(Ba6 (w.g a) is != no)=true
  else if kind=2 then a=0/\b=0
  else if kind=6 then a=w.n/\b=w.n
  else if kind=3 then BI2 w.n (λi=>PR w (g i)) m a b
  else if kind=4 then ∃i,i<m/\PR w (g i) a b
  else if kind=5 then ∃k:Nat,mn<=k/\(mx = -1 \/ (k:Int)<=mx)/\Mj w.n (PR w (g 0)) k a b
  else False
def Aj6 (w:Sl Tr):∀p:Pat,Fwd w.n (PR w p)
 |.nil,a,b,ha,h=>by obtain rfl:a=b:=h;omega
 |.mk kind is no mn mx m g,a,b,ha,h=>by
  simp only[PR]at h;split at h
  .omega
  split at h
  .omega
  split at h
  .omega
  split at h
  .omega
  split at h
  .exact AJ6 m (λi _=>Aj6 w (g i)) a b ha h
  split at h
  .obtain⟨i,_,c⟩:=h;exact Aj6 w (g i) a b ha c
  split at h
  .obtain⟨k,_,_,hk⟩:=h;exact Oh (Aj6 w (g 0)) k a b ha hk
  grind
def TabR (n:Nat)(R:Nat->Nat->Prop)(f:Nat->Int):Prop:=∀a,a<=n->∃x:BitVec 64,f a=U x/\∀b,b<64->(x.getLsbD b=true↔b<=n/\R a b)
def TabR.congr {n:Nat}{R R' : Nat->Nat->Prop}{f:Nat->Int}(h:TabR n R f)(c:∀a b,a<=n->b<=n->(R a b↔R' a b)):TabR n R' f:=λa ha=>by
 obtain⟨x,e,hx⟩:=h a ha
 grind
def TabR.uniq {n:Nat}{R:Nat->Nat->Prop}{f g:Nat->Int}(h:TabR n R f)(h' : TabR n R g){a:Nat}(ha:a<=n):f a=g a:=by obtain⟨x,e,hx⟩:=h a ha;obtain⟨y,e',hy⟩:=h' a ha;rw[e,e',BA2 λb hb=>(hx b hb).trans (hy b hb).symm]
def TabR.bit {n:Nat}{R:Nat->Nat->Prop}{f:Nat->Int}(h:TabR n R f){a b:Nat}(ha:a<=n)(hb:b<64):(F3 .and .u64 (shI .shr .u64 (f a) (b:Int)) 1==1)=true↔b<=n/\R a b:=by obtain⟨x,e,hx⟩:=h a ha;rw[e,bit64];grind
open Go.Proofs.Tryz
variable {N:Nat}
abbrev BA3:List AV:=[.reg 0 0,.reg 1 0,.reg 2 0,.reg 3 0]
abbrev Ay6 (c:Int)(a:Sl Law)(b:Sl Tr)(y:PV):List Obj:=[.cells [pN c],.cells [.p (vSl 18 B7 a)],.cells [.p (vSl 2 A0 b)],.cells [.p y]]
structure Km (S:X0):Prop where
 attR:∀{a:Sl Law}{b y:Sl Tr},Yo S L0 [.p (vSl 18 B7 a),.p (vSl 2 A0 b)] [] (.p (vSl 2 A0 y)) [] []->Yo S N9 BA3 (Ay6 0 a b I4) (.tup []) (Ay6 0 a b (vSl 2 A0 y)) [true,true,true,true]
 attP:∀{a:Sl Law}{b:Sl Tr}{c:Int},(S.F L0 [.p (vSl 18 B7 a),.p (vSl 2 A0 b)] [] λres o k=>res=.panic (.iface 285 (pI .i64 c))/\o=[]/\k=[])->Yo S N9 BA3 (Ay6 0 a b I4) (.tup []) (Ay6 c a b I4) [true,true,true,true]
 tz:∀x:BitVec 64,ZZ S U7 [.p (pI .u64 (U x))] (.p (pI .i64 (Lib.ctz 64 x.toNat:Nat)))
 trim:∀s c:Str,s.length<1000000000000->c.length<1000000->(∀b∈c,b.toNat<128)->ZZ S Hs [.p (.str s),.p (.str c)] (.p (.str (Lib.trimS s c)))
 growS:∀(f:Nat->List PV) (n:Nat),n*8<=140737488355328->Yo S K6 [.p I4,.p (pI .i64 (n:Int))] [] (.vec 0) [.vec A9 2 0 f false] []
 join:∀(nn:Bool) (n:Nat) (g:Nat->List UInt8) (sep:List UInt8),n<=140737488355328->(Lib.join ((List.range n).map g) sep).length<=140737488355328 ->
  ZZ S Hq [.p (.sl nn 1 n λi=>[.str (g i)]),.p (.str sep)] (.p (.str (Lib.join ((List.range n).map g) sep)))
 indexByte:∀(s:List UInt8) (c:UInt8),ZZ S CP [.p (.str s),.p (.v (.int .u8 c.toNat))] (.p (.v (.int .i64 (Lib.indexByte s c))))
 fmtInt:∀n:Int,-9223372036854775808<=n->n<=9223372036854775807->ZZ S Aa [.p (pI .i64 n),.p (pI .i64 10)] (.p (.str (Lib.itoa n)))
 copyCheck:∀(T:Nat) (u n:Nat) (f:Nat->List PV),T=116->Yo S U4 [.reg 0 0] [.blk [0,T,u] 1,.vec I2 1 n f false] (.tup []) [.blk [0,T,1] 1,.vec I2 1 n f false] [true,true]
 bstr:∀(T u n:Nat) (f:Nat->List PV) (s:List UInt8),T=116->s.length=n->(∀i,i<n->f i=[.v (.int .u8 (s.getD i 0).toNat)])->Yo S Y1 [.reg 0 0] [.blk [0,T,u] 1,.vec I2 1 n f false] (.p (.str s)) [] []
def I8 (N:Nat)(x:Int):Option Int:=ite (0<=x/\x<18446744073709551616) (some ((Lib.ctz 64 x.toNat:Nat):Int)) none
def Ax (N:Nat)(s c:Str):Option Str:=ite (s.length<1000000000000/\c.length<1000000/\(c.all λb=>decide (b.toNat<128))) (some (Lib.trimS s c)) none
def K8 (N:Nat)(n:Int):Option (Sl Tr):=ite (0<=n/\n*8<=140737488355328) (some (Sl.nil:Sl Tr)) none
section
variable {S:X0}(Z:H4 S Tryz.prog) (Y:Km S)
include Z Y
theorem Gq {x y:Int}(h:I8 N x=some y):Yo S U7 [.p (pI .u64 x)] [] (.p (pI .i64 y)) [] []:=by
 obtain⟨⟨a,h1⟩,h⟩:=C0 h;obtain rfl:=A6 h
 have:=Y.tz (BitVec.ofNat 64 x.toNat)
 have e:(BitVec.ofNat 64 x.toNat).toNat=x.toNat:=by rw[Cw2];omega
 have e2:U (BitVec.ofNat 64 x.toNat)=x:=by show ((BitVec.ofNat 64 x.toNat).toNat:Int)=x;rw[e];omega
 rw[e,e2]at this;exact this
theorem Mk {s c:Str}{y:Str}(h:Ax N s c=some y):Yo S Hs [.p (.str s),.p (.str c)] [] (.p (.str y)) [] []:=by obtain⟨⟨a,h1,d⟩,h⟩:=C0 h;obtain rfl:=A6 h;exact Y.trim s c a h1 λb hb=>by simpa using Cj2.1 d b hb
theorem Ck {n:Int}{y:Sl Tr}(h:K8 N n=some y):Yo S K6 [.p I4,.p (pI .i64 n)] [] (.vec 0) [.vec A9 2 y.n (λi=>A0 (y.g i)) false] []:=by
 obtain⟨⟨a,h1⟩,h⟩:=C0 h;obtain rfl:=A6 h
 have:=Y.growS (λi=>A0 default) n.toNat (by omega)
 rw[show ((n.toNat:Nat):Int)=n by omega]at this;exact this
def B3 (N:Nat)(s:Sl Tr):Option (Sl Tr):=ite ((0+s.n)*8<=140737488355328/\0+s.n<=140737488355328) (some s) none
abbrev Ag7:List PV:=[pI .u32 0,pI .u32 0]
theorem S9 {s y:Sl Tr}(h:B3 N s=some y):Yo S J3 [.p (vSl 2 A0 s)] [] (.vec 0) [.vec A9 2 y.n (λi=>A0 (y.g i)) true] []:=by
 unfold B3 at h;obtain⟨c1,h⟩:=C0 h;obtain rfl:=A6 h;refine A1 Z func146 ?_;refine Ae4 Z Ly 3 (k:=2) (n:=s.n) (f:=λi=>A0 (s.g i)) (λa=>?_) ?_
 .obtain⟨n,g⟩:=s;obtain rfl:n=0:=a;exact kO Z Ly [3700]
 exact kO Z (Vb Sr c1) [8000]
  (hle:=kl1 0 (Br8 A0 s Ag7))
def I0 (N:Nat)(s:Sl EM):Option (Sl EM):=ite ((0+s.n)*32<=140737488355328/\0+s.n<=140737488355328) (some s) none
theorem Bw {s y:Sl Tr}(h:B3 N s=some y):Yo S J3 [.p (vSl 2 A0 s)] [] (.p (vSl 2 A0 y)) [] []:=by
 unfold B3 at h;obtain⟨c1,h⟩:=C0 h;obtain rfl:=A6 h;refine A1 Z func146 ?_;refine Ae4 Z Ly 3 (k:=2) (n:=s.n) (f:=λi=>A0 (s.g i)) (λa=>?_) ?_
 .obtain⟨n,g⟩:=s;obtain rfl:n=0:=a;exact kO Z Ly []
 exact kO Z (Vb Sr c1) []
  (hle:=kl1 0 (Br8 A0 s Ag7))
theorem Ds {s y:Sl EM}(h:I0 N s=some y):Yo S W2 [.p (vSl 6 Dj s)] [] (.p (vSl 6 Dj y)) [] []:=by
 unfold I0 at h;obtain⟨c1,h⟩:=C0 h;obtain rfl:=A6 h;refine A1 Z func147 ?_;refine Ae4 Z Ly 3 (k:=6) (n:=s.n) (f:=λi=>Dj (s.g i)) (λa=>?_) ?_
 .obtain⟨n,g⟩:=s;obtain rfl:n=0:=a;exact kO Z Ly []
 exact kO Z (Vb Sr c1) []
  (hle:=kl1 0 (Br8 Dj s [pI .i64 0,pI .u32 0,pI .u32 0,pI .u32 0,pI .u32 0,pI .i64 0]))
end
end Go.AM
set_option maxRecDepth 100000
namespace Go.AM
open Go.Proofs.Tryz
open Go.Proofs
def AV0 (v:Value)(w:World):(Instr.typeAssert (.iface 285 v) 20 285 true).run Tryz.prog w=.ok (.tuple #[v,.bool true]) w:=by kernel_rfl
def Ay7 (p:Value)(w:World):CallsDIn Fence.wide 0 Tryz.prog Y2 #[p] .returning w λe u' w'=>e=.returned (.tuple #[])/\u' = .returning/\w' = w:=by
 refine callsDIn_of_wpSIn func150 rfl (by simp[Fence.wide]) λc₀ cs a=>?_;apply wpSIn_seq;apply wpSIn_region;simp[wpOpsSIn,go_sem,recoverD,a,f150,Exit.thenS];refine wpSIn_of_wpIn rfl (wpIn_block (wpIn_seq (wpIn_region ?_)));simp[wpOpsIn,go_sem];refine wpIn_cond (t:=true) (by simp[Act.eval]) ?_;simp;refine wpIn_region ?_;simp[wpOpsIn,go_sem,bodyPostS,results];cases c₀
 grind
def QT (p:Value)(c:Int)(older:List PanicEntry)(w w1:World)(a:(Instr.storeAt 42 p (.int .i64 c)).run Tryz.prog w=.ok () w1)(hn:∃b,p=.pointer (some b)) :CallsDIn Fence.wide 0 Tryz.prog Y2 #[p] (.panicking ({ v:=.iface 285 (.int .i64 c),recovered:=false }::older)) w λe u' w'=>
  e=.returned (.tuple #[])/\u' = .panicking ({ v:=.iface 285 (.int .i64 c),recovered:=true }::older)/\w' = w1:=by
 obtain⟨b,rfl⟩:=hn;refine callsDIn_of_wpSIn func150 rfl (by simp[Fence.wide]) λc₀ cs d=>?_;apply wpSIn_seq;apply wpSIn_region;simp[wpOpsSIn,go_sem,recoverD,d,f150,Exit.thenS];refine wpSIn_of_wpIn rfl (wpIn_block (wpIn_seq (wpIn_region ?_)));simp[wpOpsIn,go_sem];refine wpIn_cond (t:=false) (by simp[Act.eval]) ?_;simp;refine wpIn_seq (wpIn_region ?_);simp[wpOpsIn,go_sem,AV0];refine wpIn_cond (t:=true) (by simp[Act.eval]) ?_;simp;refine wpIn_seq (wpIn_region ?_);simp[wpOpsIn,go_sem];refine wpIn_region ?_;simp[wpOpsIn,Oper.uponIn,go_sem,bodyPostS,results];simp[go_sem]at a;rw[a]
 simp_all
noncomputable def BW4:Code:=match Tryz.f149.body with
 |some (.seq _ c)=>c
 |_=>.skip
def BQ4 {S:X0}(Z:H4 S Tryz.prog){a:Sl Law}{b y:Sl Tr}(c:Yo S L0 [.p (vSl 18 B7 a),.p (vSl 2 A0 b)] [] (.p (vSl 2 A0 y)) [] []) :KG S Tryz.prog (Wh S (λst=>N2 [0,1,2,3] st.Ym [0,1,2,3]=some (Ay6 0 a b (vSl 2 A0 y))) λ_ _=>False) (.code BW4 [] ⟨Af5 BA3,Yn (Ay6 0 a b I4)⟩):=by refine E2 Z [] Ly c ?_;exact K_upN Z Ly ⟨[],[(3,.cells [.p (vSl 2 A0 y)]),(2,.cells [.p (vSl 2 A0 b)]),(1,.cells [.p (vSl 18 B7 a)]),(0,.cells [pN 0])]⟩ rfl
def Bi9 {S:X0}(Z:H4 S Tryz.prog){a:Sl Law}{b:Sl Tr}{c:Int}(d:S.F L0 [.p (vSl 18 B7 a),.p (vSl 2 A0 b)] [] λres o k=>res=.panic (.iface 285 (pI .i64 c))/\o=[]/\k=[]) :KG S Tryz.prog (Wh S (λ_=>False) λx st=>x=.iface 285 (pI .i64 c)/\store Tryz.prog st.Ym 42 (.reg 0 0) (.p (pI .i64 c))=some ([],ins 0 (.cells [pN c]) st.Ym)/\N2 [0,1,2,3] (ins 0 (.cells [pN c]) st.Ym) [0,1,2,3]=some (Ay6 c a b I4)) (.code BW4 [] ⟨Af5 BA3,Yn (Ay6 0 a b I4)⟩):=by refine BP5 Z [] Ly d ?_;exact K_upP Z Ly ⟨rfl,by kernel_rfl,by kernel_rfl⟩
noncomputable def att1:Code:=match Tryz.f149.body with
 |some (.seq c _)=>c
 |_=>.skip
noncomputable def attOps:Array Oper:=match BW4 with
 |.region _ ops _=>ops
 |_=>#[]
def AJ7:BW4=.region 1 attOps false:=by kernel_rfl
def Cc6:attOps.toList.all (LD 7 attOps.toList)=true:=by kernel_rfl
def BA4:Tryz.f149.body=some (.seq att1 BW4):=by kernel_rfl
def BQ5 {C:Ctx}{vs:Array Value}{w:World}{rho:Nat->Value}{args:List AV}{objs:List Obj}{n:Nat}(Z:Sat C ⟨Af5 args,Yn objs⟩ ⟨vs,[]⟩ w rho)(a:vs.size=args.length) :Sat C ⟨Af5 args,Yn objs⟩ { tmps:=vs++Array.replicate n undef,defers:=[] } w rho:=by
 refine⟨Z.toSatE,λt=>?_,Z.pin,Z.marks⟩
 have:=Z.env t
 by_cases ht:t<vs.size
 .simp_all[Ci5,Ct5]
 show Af2 w _ _ _ _ (get (Af5 args) t);rw[Dg,Ci4,Cm4 (by omega)];exact .top _
def Tt {R:St->Prop}{X:PV->St->Prop}{a:Sl Law}{b:Sl Tr}{objs' : List Obj}
 (y:KG (Im Tryz.prog) Tryz.prog (Wh (Im Tryz.prog) R X) (.code BW4 [] ⟨Af5 BA3,Yn (Ay6 0 a b I4)⟩))
 (hR:∀st,R st->N2 [0,1,2,3] st.Ym [0,1,2,3]=some objs')
 (hX:∀x st,X x st->∃c regs',x=.iface 285 (pI .i64 c)/\store Tryz.prog st.Ym 42 (.reg 0 0) (.p (pI .i64 c))=some ([],regs')/\N2 [0,1,2,3] regs' [0,1,2,3]=some objs') :
 Yo (Im Tryz.prog) N9 BA3 (Ay6 0 a b I4) (.tup []) objs' [true,true,true,true]:=by
 intro 𝒢 C w vs rho hG Z s;obtain⟨l⟩:=vs
 match l,s with
 |[v0,v1,v2,v3],s=>?_
 refine⟨.enter N9 #[v0,v1,v2,v3],w,by simp_all,?_⟩;refine callsIn_of_wp_marks func149 BA4 Ly ?_;have z:=BQ5 (n:=Tryz.f149.ntmps-4) Z s;have a8:Tryz.f149.ntmps-4=3:=rfl;rw[a8]at z;have a9:((#[v0,v1,v2,v3]:Array Value)++Array.replicate 3 undef).size=7:=rfl;have hw:Lr (Im Tryz.prog) Tryz.prog attOps.toList attOps.toList (Wh (Im Tryz.prog) R X) ⟨Af5 BA3,Yn (Ay6 0 a b I4)⟩:=by
  have:=y.out
  rw[AJ7]at this
  simp_all[G,awp,kp,Ci8,Lw]
 have a1:=RU (𝒢:=𝒢.fix C.rho0) (n:=7) (ro:=none) (ops:=attOps) Cc6 attOps.toList 0 rfl (by simp) ⟨hG,rfl⟩ z a9 hw;have a2:=NB [{ target:=.fn (.func Y2) #[],args:=#[v0] }] _ _ _ a1;rw[Cw3]at a2;obtain⟨b0,a4,t⟩:∃b0,v0=.pointer (some ⟨b0,0,none⟩)/\rho 0=.pointer (some ⟨b0,0,none⟩):=by have h0:Af2 w _ _ rho v0 (.reg 0 0):=Z.env 0;cases h0<;>grind
 have q:∀{C' : Ctx}{st' : St}{a' : Act}{w' : World}{rho' : Nat->Value},(𝒢.fix C.rho0).G C' -> Sat C' st' a' w' rho' -> N2 [0,1,2,3] st'.Ym [0,1,2,3]=some objs' ->
  LeavesInM Fence.wide 0 Tryz.prog f149 a'.tmps (λe w'=>∃C' r objs0 ks rho', 𝒢.G C' /\ (r=.ret (.tup [])/\objs0=objs' /\ ks=[true,true,true,true])/\SatE C' (Yn objs0) w' rho' /\
   Bu2 w' (Prv C'.X (A2 (Yn objs0)) rho') (Lv (A2 (Yn objs0))) rho' e r/\∀i:Nat,ks[i]? = some true->i<objs0.length/\rho' i=rho i) [] .returning w':=by
  intro C' st' a' w' rho' d f j;obtain⟨g1,g2,g3⟩:=RV f (by decide) j;obtain⟨hl,hg⟩:=Bq j;refine⟨.tuple #[],by simp[results,f149],C', .ret (.tup []),objs',_,_,d.1,⟨rfl,rfl,rfl⟩,g1,⟨_,rfl,.tup _ _ rfl (by grind)⟩,?_⟩;intro i hi;have a5:i<4:=by
   have:=(Cl9.1 hi).1
   omega
  refine⟨by rw[hl];omega,?_⟩;have e1:[0,1,2,3][i]? = some i:=by
   match i,a5 with
   |0,_=>rfl
   |1,_=>rfl
   |2,_=>rfl
   |3,_=>rfl
  obtain⟨o,_,ho,_⟩:=hg i i e1;show rho' ([0,1,2,3].getD i 0)=rho i;rw[Fm e1,f.pin i (by omega) (by grind[Lv]),d.2];refine (Z.pin i (by omega) ?_).symm;rw[Lv,F4]
  match i,a5 with
  |0,_=>rfl
  |1,_=>rfl
  |2,_=>rfl
  |3,_=>rfl
 generalize hQ:bodyPostM _ _ _ _ _=QQ;refine wpIn_seq ?_;simp only[att1,f149];refine wpIn_region ?_;simp[wpOpsIn,go_sem];subst hQ;rw[AJ7];refine wpIn_mono (wpIn_region (F:=FW none) a2) ?_;rintro e a' w' ⟨a0,rfl,u⟩;cases e with
 |exit id=>obtain⟨_,_,_,_,_,_,h⟩:=u;exact h.elim
 |goto l=>obtain⟨_,_,_,_,_,_,h⟩:=u;exact h.elim
 |ret=>obtain⟨_,_,_,_,_,_,h⟩:=u;exact h.elim
 |outgrown=>exact u.elim
 |normal=>
  obtain⟨C',st',rho',d,f,a6,hu⟩:=u;obtain⟨st2,rho2,b1,_,b2⟩:=hu C' a0 w' rho' f;refine IF (C:=C') (st:=st2) (rho:=rho2) (by simp) ?_ a0.defers a0 w' rfl rfl b2;intro a3 w3 m ht;refine⟨by simp,.inr ⟨by simp[Fence.wide],_,_,Y2,#[v0],rfl,by simp[go_sem],λ_ _=>trivial,?_⟩⟩;refine (Ay7 v0 w3).mono ?_;rintro e u' w4 ⟨rfl,rfl,rfl⟩
  have:=q d m (hR st2 b1)
  rw[ht]at this;exact this
 |panic chain=>
  obtain⟨C',st',rho',v,x,rfl,d,f,a6,hv,b3⟩:=u;obtain⟨c,regs',rfl,b4,j⟩:=hX x st' b3;obtain rfl:v=.iface 285 (.int .i64 c):=by
   cases hv with
   |iface _ _ _ h=>cases h;rfl
  refine IF (C:=C') (st:=st') (rho:=rho') (by simp) ?_ a0.defers a0 w' rfl rfl f;intro a3 w3 m ht;have g:Lv (A2 st'.Ym) 0:=by
   grind[A2,Lv,store]
  have b5:rho' 0=.pointer (some ⟨b0,0,none⟩):=by rw[m.pin 0 (by omega) g,d.2,<- t];exact (Z.pin 0 (by omega) rfl).symm
  have b6:RS C' st' w3 rho' v0 (.reg 0 0):=by rw[a4];exact .reg 0 0 b0 g b5
  obtain⟨w4,a7,b7,_⟩:=RF m (vx:=.int .i64 c) b6 (.p _ _ (.v _)) b4 Ly;refine⟨by simp,.inr ⟨by simp[Fence.wide],_,_,Y2,#[v0],rfl,by simp[go_sem],λ_ _=>trivial,?_⟩⟩;refine (QT v0 c [] w3 w4 a7 ⟨_,a4⟩).mono ?_;rintro e u' w5 ⟨rfl,rfl,rfl⟩
  have:=q d b7 j
  rw[ht]at this;exact this
def Ay8 {a:Sl Law}{b y:Sl Tr}(c:Yo (Im Tryz.prog) L0 [.p (vSl 18 B7 a),.p (vSl 2 A0 b)] [] (.p (vSl 2 A0 y)) [] []) :Yo (Im Tryz.prog) N9 BA3 (Ay6 0 a b I4) (.tup []) (Ay6 0 a b (vSl 2 A0 y)) [true,true,true,true]:=
 Tt (BQ4 (Aq2 Tryz.prog) c) (λst h=>h) (λx st h=>h.elim)
def YT {a:Sl Law}{b:Sl Tr}{c:Int}(d:(Im Tryz.prog).F L0 [.p (vSl 18 B7 a),.p (vSl 2 A0 b)] [] λres o k=>res=.panic (.iface 285 (pI .i64 c))/\o=[]/\k=[]) :Yo (Im Tryz.prog) N9 BA3 (Ay6 0 a b I4) (.tup []) (Ay6 c a b I4) [true,true,true,true]:=
 Tt (Bi9 (Aq2 Tryz.prog) d) (λst h=>h.elim) (by grind)
variable {N:Nat}
open IntKind (wrap)
set_option maxRecDepth 10000
set_option maxHeartbeats 2000000
variable {S:X0}(Z:H4 S Tryz.prog) (Y:Km S)
include Z Y
def H1 (N:Nat)(a:Tr):Option Bool:= some (((F3 .and .u32 a.Plus a.Minus)==0)&&(decide ((F3 .or .u32 a.Plus a.Minus)<=16777215)))
theorem T3 {b:Tr}{y:Bool}(h:H1 N b=some y) :Yo S NR [.p (.agg (A0 b))] [] (pB y) ([]) []:=by unfold H1 at h;refine A1 Z func136 ?_;refine kB Z (A3 Z) Ly Ly 7 (.n (.a ((F3 .and .u32 b.Plus b.Minus)==0)) (.a (decide ((F3 .or .u32 b.Plus b.Minus)<=16777215)))) ?_;cases h;exact kR Z
def P1 (N:Nat)(b:Tr)(a:Tr):Option Bool:= (H1 N b).bind λy1=>lt (λ(z1:Bool)=>some z1) λk1=>ite y1 ((H1 N a).bind λy3=>ite y3 (ite ((F3 .andNot .u32 a.Plus b.Plus)==0) (k1 ((F3 .andNot .u32 a.Minus b.Minus)==0)) (k1 false)) (k1 false)) (k1 false)
theorem Pe {c:Tr}{a:Tr}{y:Bool}(h:P1 N c a=some y) :Yo S HP [.p (.agg (A0 c)),.p (.agg (A0 a))] [] (pB y) ([]) []:=by
 unfold P1 at h;refine A1 Z func271 ?_;refine kC Z h (T3 Z Y) (λy1 h=>?_);refine GT Z Ly (A3 Z) h 0 (λz1 _=>⟨[(4,pB z1)],[]⟩) (λk1 b h=>?_) (λz1 h=>?_)
 .refine kG Z h (λh=>?_) (λh=>?_)
  .refine kC Z h (T3 Z Y) (λy3 h=>?_);refine kG Z h (λh=>?_) (λh=>?_)
   .refine kG Z h (λh=>?_) (λh=>?_)
    .exact b Ly h
    exact b Ly h
   exact b Ly h
  exact b Ly h
 cases h;exact kR Z
def Gr (N:Nat)(a:Tr):Option Int:= some (F3 .or .u32 a.Plus a.Minus)
theorem Tu {a:Tr}{y:Int}(h:Gr N a=some y) :Yo S Tl [.p (.agg (A0 a))] [] (pU y) ([]) []:=by unfold Gr at h;refine A1 Z func281 ?_;cases h;exact kR Z
def Ei (N:Nat)(c:Tr)(b:Tr)(a:Int):Option Tr:= some (⟨F3 .or .u32 (F3 .andNot .u32 c.Plus a) (F3 .and .u32 b.Plus a),F3 .or .u32 (F3 .andNot .u32 c.Minus a) (F3 .and .u32 b.Minus a)⟩:Tr)
theorem Tv {c:Tr}{a:Tr}{b:Int}{y:Tr}(h:Ei N c a b=some y) :Yo S Tm [.p (.agg (A0 c)),.p (.agg (A0 a)),pU b] [] (.p (.agg (A0 y))) ([]) []:=by unfold Ei at h;refine A1 Z func282 ?_;cases h;exact kR Z
def T6 (N:Nat)(c:Tr)(a:Int)(b:Tr):Option (Tr×Int):= (H1 N c).bind λy1=>lt (λ(z1:Bool)=>ite z1 (some ((⟨0,0⟩:Tr),14)) (lt (λ(z2:Bool)=>ite z2 (some ((⟨0,0⟩:Tr),2)) ((Gr N b).bind λy6=>(Ei N c b (F3 .or .u32 a y6)).bind λy7=>some (y7,0))) λk2=>ite (decide (16777215<a)) (k2 true) ((Gr N b).bind λy5=>k2 ((F3 .and .u32 a y5) != 0)))) λk1=>ite (!y1) (k1 true) ((H1 N b).bind λy3=>k1 (!y3))
theorem Vd {c:Tr}{b:Int}{a:Tr}{y:Tr×Int}(h:T6 N c b a=some y) :Yo S Mh [.p (.agg (A0 c)),pU b,.p (.agg (A0 a))] [] (.tup [.p (.agg (A0 y.1)),pN y.2]) ([]) []:=by
 unfold T6 at h;refine A1 Z func273 ?_;refine C6 Z Ly 5 4000 [pI .u32 c.Plus,pI .u32 c.Minus] ?_;refine C6 Z Ly 6 6000 [pI .u32 a.Plus,pI .u32 a.Minus] ?_;refine kD Z h Pb (T3 Z Y) (λy1 h=>?_);refine GT Z Ly (A3 Z) h 0 (λz1=>kps [(15,pB z1)] [6,5,3,1] [] [7000]) (λk1 d h=>?_) (λz1 h=>?_)
 .refine kG Z h (λh=>?_) (λh=>?_)
  .exact d Ly h
  refine kD Z h Pb (T3 Z Y) (λy3 h=>?_);exact d Ly h
 refine Af6 Z h fun h=>?_;refine GT Z Ly (A3 Z) h 0 (λz2=>kps [(25,pB z2)] [6,5,3,1] [] [7000]) (λk2 f h=>?_) (λz2 h=>?_)
 .refine kG Z h (λh=>?_) (λh=>?_)
  .exact f Ly h
  refine kD Z h Pb (Tu Z Y) (λy5 h=>?_);exact f Ly h
 refine Af6 Z h fun h=>?_;refine B5 Z Ly [0,1,3,4,6] ?_;refine dP h (Vb (Vb Pb Pb) Pb) (Tu Z Y) (λy6 h=>?_);refine dP h Ly (Tv Z Y) (λy7 h=>?_);refine D1 Ly ?_;cases h;exact kR Z
def Z2 (N:Nat)(c:Tr)(a:Tr)(b:Int):Option (Tr×Int):= (H1 N c).bind λy1=>lt (λ(z1:Bool)=>ite z1 (some ((⟨0,0⟩:Tr),14)) (ite (decide (16777215<b)) (some ((⟨0,0⟩:Tr),2)) ((Ei N c a b).bind λy4=>some (y4,0)))) λk1=>ite (!y1) (k1 true) ((H1 N a).bind λy3=>k1 (!y3))
theorem Aj7 {c:Tr}{a:Tr}{b:Int}{y:Tr×Int}(h:Z2 N c a b=some y) :Yo S Qr [.p (.agg (A0 c)),.p (.agg (A0 a)),pU b] [] (.tup [.p (.agg (A0 y.1)),pN y.2]) ([]) []:=by
 unfold Z2 at h;refine A1 Z func274 ?_;refine kC Z h (T3 Z Y) (λy1 h=>?_);refine GT Z Ly (A3 Z) h 0 (λz1=>kps [(15,pB z1)] [6,4,3,2] [] [7000,5000,4000]) (λk1 d h=>?_) (λz1 h=>?_)
 .refine kG Z h (λh=>?_) (λh=>?_)
  .exact d Ly h
  refine kC Z h (T3 Z Y) (λy3 h=>?_);exact d Ly h
 refine Af6 Z h fun h=>?_;refine Af6 Z h fun h=>?_;refine kC Z h (Tv Z Y) (λy4 h=>?_);cases h;exact kR Z
def Dk (N:Nat)(a:Tr):Option Bool:= some (((F3 .and .u32 a.Plus a.Minus)==0)&&((shI .shr .u32 (F3 .or .u32 a.Plus a.Minus) 24)==0))
theorem Aj8 {a:Tr}{y:Bool}(h:Dk N a=some y) :Yo S Qd [.p (.agg (A0 a))] [] (pB y) ([]) []:=by
 unfold Dk at h;refine A1 Z func86 ?_;obtain⟨t1,c⟩:∃x:Bool,x=(((F3 .and .u32 a.Plus a.Minus)==0)&&((shI .shr .u32 (F3 .or .u32 a.Plus a.Minus) 24)==0)):=⟨_,rfl⟩;refine Ad7 Z Ly (A3 Z) 0 (λ_=>⟨[(2,pB t1)],[]⟩) (λd=>?_) ?_
 .refine IB Z Ly (b:=(F3 .and .u32 a.Plus a.Minus)==0) (λc2=>?_) (λc2=>?_)
  .exact d (by decide:(0:Int)<=24) (hle:=klR [(0,.eq (.bb ((shI .shr .u32 (F3 .or .u32 a.Plus a.Minus) 24)==0)) (.bb t1))] (al1 (by simp only[c,c2,Ys.ok,pm,Kk,Lw]) al0))
  exact d Ly (hle:=klR [(0,.eq (.bb false) (.bb t1))] (al1 (by simp only[c,c2,Ys.ok,pm,Kk,Lw]) al0))
 subst c;cases h;exact kR Z
def W3 (N:Nat)(a:Sl Tr):Option Int:= ite (decide (32<(a.n:Int))) (some 11) (N3 N (λb (x1:Int)=>ite (decide (x1<(a.n:Int))) (ite ((0:Int)<=x1/\x1<(a.n:Int)) ((Dk N (a.g x1.toNat)).bind λy3=>ite (!y3) (some 14) (b (wrap .i64 (x1+1)))) none) (some 0)) 0)
theorem Hd {a:Sl Tr}{y:Int}(h:W3 N a=some y) :Yo S PZ [.p (vSl 2 A0 a)] [] (pN y) ([]) []:=by
 unfold W3 at h;refine A1 Z func54 ?_;refine Af6 Z h fun h=>?_;refine D6 Z Ly h (λx1=>kps [(10,pN x1)] [9,8] [] []) (λb x1 c h=>?_);apply kI Z h<;>intro h
 .obtain⟨c9,h⟩:=C0 h;refine kD Z h (Vb c9 Pb) (Aj8 Z Y) (λy3 h=>?_);refine Af6 Z h fun h=>?_;exact c Ly h
 cases h;exact kR Z
def G3 (N:Nat)(a:Sl Tr)(b:Sl Tr):Option Bool:= ite ((a.n:Int) != (b.n:Int)) (some false) (N3 N (λc (x1:Int)=>ite (decide (x1<(a.n:Int))) (ite (((0:Int)<=x1/\x1<(a.n:Int))/\((0:Int)<=x1/\x1<(b.n:Int))) (ite ((((a.g x1.toNat).Plus==(b.g x1.toNat).Plus)&&((a.g x1.toNat).Minus==(b.g x1.toNat).Minus)) != true) (some false) (c (wrap .i64 (x1+1)))) none) (some true)) 0)
theorem BV {a:Sl Tr}{b:Sl Tr}{y:Bool}(h:G3 N a b=some y) :Yo S S4 [.p (vSl 2 A0 a),.p (vSl 2 A0 b)] [] (pB y) ([]) []:=by
 unfold G3 at h;refine A1 Z func102 ?_;refine Af6 Z h fun h=>?_;refine D6 Z Ly h (λx1=>kps [(13,pN x1)] [12,1,0] [] []) (λc x1 d h=>?_);apply kI Z h<;>intro h
 .refine B5 Z Ly [2,3,6,7] ?_;obtain⟨c9,h⟩:=C0 h;refine D1 (Vb (Vb (Vb (Vb c9.1 Pb) c9.2) Pb) (by decide +kernel:QF Tryz.prog A9=true)) ?_;refine Af6 Z h fun h=>?_;exact d Ly h
 cases h;exact kR Z
def Z3 (N:Nat)(a:Sl Tr)(b:Sl Tr):Option Bool:= (G3 N a b).bind λy1=>some y1
theorem Qt {a:Sl Tr}{b:Sl Tr}{y:Bool}(h:Z3 N a b=some y) :Yo S Qb [.p (vSl 2 A0 a),.p (vSl 2 A0 b)] [] (pB y) ([]) []:=by unfold Z3 at h;refine A1 Z func62 ?_;refine kC Z h (BV Z Y) (λy1 h=>?_);cases h;exact kR Z
def T7 (N:Nat)(a:Tr):Option Bool:= some (((F3 .and .u32 a.Plus a.Minus)==0)&&((shI .shr .u32 (F3 .or .u32 a.Plus a.Minus) 24)==0))
theorem He {a:Tr}{y:Bool}(h:T7 N a=some y) :Yo S Qn [.p (.agg (A0 a))] [] (pB y) ([]) []:=by
 unfold T7 at h;refine A1 Z func242 ?_;obtain⟨t1,c⟩:∃x:Bool,x=(((F3 .and .u32 a.Plus a.Minus)==0)&&((shI .shr .u32 (F3 .or .u32 a.Plus a.Minus) 24)==0)):=⟨_,rfl⟩;refine Ad7 Z Ly (A3 Z) 0 (λ_=>⟨[(2,pB t1)],[]⟩) (λd=>?_) ?_
 .refine IB Z Ly (b:=(F3 .and .u32 a.Plus a.Minus)==0) (λc2=>?_) (λc2=>?_)
  .exact d (by decide:(0:Int)<=24) (hle:=klR [(0,.eq (.bb ((shI .shr .u32 (F3 .or .u32 a.Plus a.Minus) 24)==0)) (.bb t1))] (al1 (by simp only[c,c2,Ys.ok,pm,Kk,Lw]) al0))
  exact d Ly (hle:=klR [(0,.eq (.bb false) (.bb t1))] (al1 (by simp only[c,c2,Ys.ok,pm,Kk,Lw]) al0))
 subst c;cases h;exact kR Z
def U8 (N:Nat)(b:Int):Option (Nat->Int):= V7 N (λa (x1:Nat->Int) (x2:Int)=>ite (decide (x2<(wrap .i64 (b+1)))) (ite (((0:Int)<=x2/\((0:Int)<=x2/\x2<33))/\(0+x2.toNat*1)<33) (a (ZN x1 (0+x2.toNat*1) (shI .shl .u64 1 x2)) (wrap .i64 (x2+1))) none) (some x1)) (λ_=>0) 0
theorem Gs {a:Int}{y:Nat->Int}(h:U8 N a=some y) :Yo S Kl [pN a] [] (.p (.agg (cA 33 (pI .u64) y))) ([]) []:=by
 unfold U8 at h;refine A1 Z func320 ?_;refine F5 Z Ly h (λx1 x2=>kps [(7,pN x2)] [6,3,2] [(4000,.arr 33 (λi=>pI .u64 (x1 i))),(3000,.arr 33 (λi=>pI .u64 ((λ_=>0) i)))] []) (λb x1 x2 d h=>?_) (hle:=kl2 2 3 (Bz6 33 (pI .u64 0)) (Bz6 33 (pI .u64 0)));apply kI Z h<;>intro h
 .obtain⟨c4,h⟩:=C0 h;exact d c4 h (hle:=klR [(2,.fn 33 33 (λi=>[(λi=>ite (i=(0+x2.toNat*1)) (pI .u64 (shI .shl .u64 1 x2)) ((λi=>pI .u64 (x1 i)) i)) i]) (λi=>[pI .u64 (ZN x1 (0+x2.toNat*1) (shI .shl .u64 1 x2) i)]))] (al1 ⟨rfl,BO9 (c:=pI .u64) (v:=x1) (x:=shI .shl .u64 1 x2) (λ_ _=>rfl) rfl⟩ al0))
 obtain rfl:=A6 h;exact J8 Z (Vb rfl (H0 _ _):(0:Nat)=0/\(Fi 33 (λi=>pI .u64 (x1 i))).length=33) ⟨[(2,.reg 3000 0)],[(3000,.arr 33 (λi=>pI .u64 (x1 i)))]⟩ [] ⟨rfl,rfl,rfl⟩ (hle:=kl1 0 (PP 33 (λi=>pI .u64 (x1 i))))
def R6 (N:Nat)(p_x:Nat->Int)(b:Nat->Int):Option (Nat->Int):= V7 N (λa (x1:Nat->Int) (x2:Int)=>ite (decide (x2<33)) (ite (((0:Int)<=x2/\x2<33)/\(0+x2.toNat*1)<33) (ite (((((0:Int)<=x2/\x2<33)/\(0+x2.toNat*1)<33)/\((0:Int)<=x2/\x2<33))/\(0+x2.toNat*1)<33) (a (ZN x1 (0+x2.toNat*1) (F3 .or .u64 (x1 (0+x2.toNat*1)) (b (0+x2.toNat*1)))) (wrap .i64 (x2+1))) none) none) (some x1)) p_x 0
theorem Hf {p_x:Nat->Int}{a:Nat->Int}{y:Nat->Int}(h:R6 N p_x a=some y) :Yo S Hb [.reg 0 0,.reg 1 0] [.arr 33 (λi=>pI .u64 (p_x i)),.arr 33 (λi=>pI .u64 (a i))] (.tup []) ([.arr 33 (λi=>pI .u64 (y i)),.arr 33 (λi=>pI .u64 (a i))]) [true,true]:=by
 unfold R6 at h;refine A1 Z func318 ?_;refine F5 Z Ly h (λx1 x2=>kps [(7,pN x2)] [6,0] [(0,.arr 33 (λi=>pI .u64 (x1 i)))] [1]) (λb x1 x2 d h=>?_);apply kI Z h<;>intro h
 .refine Gh Z Ly ?_;refine dE h (λh=>?_);refine Gh Z Ly ?_;refine dE h (λh=>?_);exact d Ly h (hle:=klR [(2,.fn 33 33 (λi=>[(λi=>ite (i=(0+x2.toNat*1)) (pI .u64 (F3 .or .u64 (x1 (0+x2.toNat*1)) (a (0+x2.toNat*1)))) ((λi=>pI .u64 (x1 i)) i)) i]) (λi=>[pI .u64 (ZN x1 (0+x2.toNat*1) (F3 .or .u64 (x1 (0+x2.toNat*1)) (a (0+x2.toNat*1))) i)]))] (al1 ⟨rfl,BO9 (c:=pI .u64) (v:=x1) (x:=F3 .or .u64 (x1 (0+x2.toNat*1)) (a (0+x2.toNat*1))) (λ_ _=>rfl) rfl⟩ al0))
 obtain rfl:=A6 h;exact kO Z Ly [0,1]
def Bx (N:Nat)(b:Sl Tr)(a:Int):Option Int:= ite ((decide (a<0))||(decide ((b.n:Int)<a))) (some 3) (some 0)
theorem Oi {c:Sl Tr}{b:Int}{y:Int}(h:Bx N c b=some y) :Yo S Od [.p (vSl 2 A0 c),pN b] [] (pN y) ([]) []:=by
 unfold Bx at h;refine A1 Z func289 ?_;refine kB Z (A3 Z) Ly Ly 5 (.o (.a (decide (b<0))) (.a (decide ((c.n:Int)<b)))) ?_;refine Af6 Z h fun h=>?_;cases h;exact kR Z
def Cl (N:Nat)(a:Pat):Option Int:= ite (ite (a.Kind==0) (a.Kind==0) (ite (a.Kind==2) (a.Kind==2) (a.Kind==6))) (lt (λ(z1:Bool)=>ite z1 (some 2) ((T7 N a.Is).bind λy1=>ite (!y1) (some 14) (some 0))) λk1=>ite (((a.Is.Plus==0)&&(a.Is.Minus==0)) != true) (k1 true) (ite a.Not (k1 true) (ite (a.Min != 0) (k1 true) (ite (a.Max != 0) (k1 true) (k1 (decide (0<(a.L.n:Int)))))))) (ite (a.Kind==1) (lt (λ(z2:Bool)=>ite z2 (some 2) ((T7 N a.Is).bind λy2=>ite (!y2) (some 14) (some 0))) λk2=>ite (((0==0)&&(0==0)) != true) (k2 true) (ite (a.Min != 0) (k2 true) (ite (a.Max != 0) (k2 true) (k2 (decide (0<(a.L.n:Int))))))) (lt (λ(z3:Int×Int)=>ite (((((((a.Is.Plus==0)&&(a.Is.Minus==0)) != true)||a.Not)||(z3.1 != 0))||(z3.2 != 0))||(decide (0<0))) (some 2) ((T7 N a.Is).bind λy3=>ite (!y3) (some 14) (some 0))) λk3=>ite (ite (a.Kind==3) (a.Kind==3) (a.Kind==4)) (k3 (a.Min,a.Max)) (ite (a.Kind==5) (ite (((((a.L.n:Int) != 1)||(decide (a.Min<0)))||(decide (32<a.Min)))||((a.Max != (-1))&&((decide (a.Max<a.Min))||(decide (32<a.Max))))) (some 2) (k3 (0,0))) (some 2))))
theorem Ve {c:Pat}{y:Int}(h:Cl N c=some y) :Yo S Mg [.p (.agg (C5 c))] [] (pN y) ([]) []:=by
 unfold Cl at h;refine A1 Z func226 ?_;obtain⟨t1,f⟩:∃x:Bool,x=(ite (c.Kind==0) (c.Kind==0) (ite (c.Kind==2) (c.Kind==2) (c.Kind==6))):=⟨_,rfl⟩;refine Ad7 Z Ly (A3 Z) 0 (λ_=>⟨[(8,pB t1),(7,pN c.Kind),(3,.reg 4000 0),(1,.reg 2000 0)],[(4000,.cells [pN 0,pU c.Is.Plus,pU c.Is.Minus,pB c.Not,pN c.Min,pN c.Max,.p (.sl false 7 c.L.n (CJ c))]),(2000,.cells ((C5 c).map .p))]⟩) (λl=>?_) ?_
 .refine O3 Z Ly (b:=c.Kind==0) (λc3=>?_) (λc3=>?_)
  .exact l Ly (hle:=klR [(0,.eq (.bb (c.Kind==0)) (.bb t1))] (al1 (by simp only[f,c3,Ys.ok,pm,Kk,Lw]) al0))
  refine O3 Z Ly (b:=c.Kind==2) (λc4=>?_) (λc4=>?_)
  .exact l Ly (hle:=klR [(0,.eq (.bb (c.Kind==2)) (.bb t1))] (al1 (by simp only[f,c3,c4,Ys.ok,pm,Kk,Lw]) al0))
  exact l Ly (hle:=klR [(0,.eq (.bb (c.Kind==6)) (.bb t1))] (al1 (by simp only[f,c3,c4,Ys.ok,pm,Kk,Lw]) al0))
 subst f;apply kI Z h<;>intro h
 .refine GT Z (by decide +kernel:QF Tryz.prog A9=true) (A3 Z) h 0 (λz1=>kps [(57,pB z1)] [1] [] [2000]) (λk1 d h=>?_) (λz1 h=>?_)
  .refine kG Z h (λh=>?_) (λh=>?_)
   .exact d Ly h
   refine kG Z h (λh=>?_) (λh=>?_)
   .exact d Ly h
   refine kG Z h (λh=>?_) (λh=>?_)
   .exact d Ly h
   refine kG Z h (λh=>?_) (λh=>?_)
   .exact d Ly h
   refine I7 Z Ly 79 (kps [(78,.p (vSl 7 C5 c.L))] [76,1] [(2000,.cells ((C5 c).map .p))] []) ?_ (hle:=klR [(0,.fn c.L.n c.L.n (CJ c) (λi=>C5 (c.L.g i)))] (al1 ⟨rfl,Q0 c⟩ al0));exact d Ly h
  refine Af6 Z h fun h=>?_;refine kC Z h (He Z Y) (λy1 h=>?_);refine Af6 Z h fun h=>?_;cases h;exact kR Z
 apply kI Z h<;>intro h
 .refine GT Z (by decide +kernel:QF Tryz.prog A9=true) (A3 Z) h 0 (λz2=>kps [(57,pB z2)] [1] [] [2000]) (λk2 j h=>?_) (λz2 h=>?_)
  .refine kG Z h (λh=>?_) (λh=>?_)
   .exact j Ly h
   refine IB Z Ly (b:=false) (λc54=>?_) (λc54=>?_)
   .exact Bool.noConfusion ((rfl:false=false).symm.trans c54)
   refine kG Z h (λh=>?_) (λh=>?_)
   .exact j Ly h
   refine kG Z h (λh=>?_) (λh=>?_)
   .exact j Ly h
   refine I7 Z Ly 79 (kps [(78,.p (vSl 7 C5 c.L))] [76,1] [(2000,.cells ((C5 c).map .p))] []) ?_ (hle:=klR [(0,.fn c.L.n c.L.n (CJ c) (λi=>C5 (c.L.g i)))] (al1 ⟨rfl,Q0 c⟩ al0));exact j Ly h
  refine Af6 Z h fun h=>?_;refine kC Z h (He Z Y) (λy2 h=>?_);refine Af6 Z h fun h=>?_;cases h;exact kR Z
 obtain⟨t4,m⟩:∃x:Bool,x=(ite (c.Kind==3) (c.Kind==3) (c.Kind==4)):=⟨_,rfl⟩;refine Ad7 Z Ly (A3 Z) 0 (λ_=>⟨[(17,pB t4),(7,pN c.Kind),(3,.reg 4000 0),(1,.reg 2000 0)],[(4000,.cells [pN 0,pU c.Is.Plus,pU c.Is.Minus,pB c.Not,pN c.Min,pN c.Max,.p (.sl false 7 c.L.n (CJ c))]),(2000,.cells ((C5 c).map .p))]⟩) (λq=>?_) ?_
 .refine O3 Z Ly (b:=c.Kind==3) (λc60=>?_) (λc60=>?_)
  .exact q Ly (hle:=klR [(0,.eq (.bb (c.Kind==3)) (.bb t4))] (al1 (by simp only[m,c60,Ys.ok,pm,Kk,Lw]) al0))
  exact q Ly (hle:=klR [(0,.eq (.bb (c.Kind==4)) (.bb t4))] (al1 (by simp only[m,c60,Ys.ok,pm,Kk,Lw]) al0))
 subst m;refine GT Z Ly (A3 Z) h 0 (λz3=>kps [] [3,1] [(4000,.cells [pN 0,pU c.Is.Plus,pU c.Is.Minus,pB c.Not,pN z3.1,pN z3.2,.p I4])] [2000]) (λk3 r h=>?_) (λz3 h=>?_)
 .apply kI Z h<;>intro h
  .exact r Ly h
  apply kI Z h<;>intro h
  .refine I7 Z Ly 25 (kps [(24,.p (vSl 7 C5 c.L))] [3,1] [(4000,.cells [pN 0,pU c.Is.Plus,pU c.Is.Minus,pB c.Not,pN c.Min,pN c.Max,.p (.sl false 7 c.L.n (CJ c))]),(2000,.cells ((C5 c).map .p))] []) ?_ (hle:=klR [(0,.fn c.L.n c.L.n (CJ c) (λi=>C5 (c.L.g i)))] (al1 ⟨rfl,Q0 c⟩ al0));refine kB Z (A3 Z) Ly Ly 26 (.o (.o (.o (.a ((c.L.n:Int) != 1)) (.a (decide (c.Min<0)))) (.a (decide (32<c.Min)))) (.n (.a (c.Max != (-1))) (.o (.a (decide (c.Max<c.Min))) (.a (decide (32<c.Max)))))) ?_;refine Af6 Z h fun h=>?_;exact r Ly h
  cases h;exact kR Z
 refine kB Z (A3 Z) (by decide +kernel:QF Tryz.prog A9=true) Ly 19 (.o (.o (.o (.o (.a (((c.Is.Plus==0)&&(c.Is.Minus==0)) != true)) (.a c.Not)) (.a (z3.1 != 0))) (.a (z3.2 != 0))) (.a (decide (0<0)))) ?_;refine Af6 Z h fun h=>?_;refine kC Z h (He Z Y) (λy3 h=>?_);refine Af6 Z h fun h=>?_;cases h;exact kR Z
def DH (rec:Pat->Int->Option Int)(N:Nat)(b:Pat)(a:Int):Option Int:= V7 N (λc (x1:Int) (x2:Int)=>ite ((decide (x2<(b.L.n:Int)))&&(decide (x1<=40))) (ite ((0:Int)<=x2/\x2<(b.L.n:Int)) ((rec (b.L.g x2.toNat) x1).bind λy3=>c y3 (wrap .i64 (x2+1))) none) (some x1)) (wrap .i64 (a+1)) 0
def CR:Nat->Pat->Int->Option Int
 |0=>λ_ _=>none
 |N+1=>DH (CR N) N
theorem Aj9 {rec:Pat->Int->Option Int}(d:∀{b:Pat}{c:Int}{y:Int},rec b c=some y->Yo S IG [.p (.agg (C5 b)),pN c] [] (pN y) ([]) []){b:Pat}{c:Int}{y:Int}(h:DH rec N b c=some y) :Yo S IG [.p (.agg (C5 b)),pN c] [] (pN y) ([]) []:=by
 unfold DH at h;refine A1 Z func70 ?_;refine F5 Z Ly h (λx1 x2=>kps [(6,pN x2),(5,pN x1)] [2] [] [3000]) (λf x1 x2 j h=>?_);refine I7 Z Ly 12 (kps [(11,.p (vSl 7 C5 b.L))] [9,6,5,2] [(3000,.cells ((C5 b).map .p))] []) ?_ (hle:=klR [(0,.fn b.L.n b.L.n (CJ b) (λi=>C5 (b.L.g i)))] (al1 ⟨rfl,Q0 b⟩ al0));refine kB Z (A3 Z) Ly Ly 3 (.n (.a (decide (x2<(b.L.n:Int)))) (.a (decide (x1<=40)))) ?_;apply kI Z h<;>intro h
 .refine I7 Z Ly 23 (kps [(21,.p (vSl 7 C5 b.L))] [22,6,5,2] [(3000,.cells ((C5 b).map .p))] []) ?_ (hle:=klR [(1,.fn b.L.n b.L.n (CJ b) (λi=>C5 (b.L.g i)))] (al1 ⟨rfl,Q0 b⟩ al0));obtain⟨c6,h⟩:=C0 h;obtain⟨y3,e3,h⟩:=E7 h;refine E2 Z [] (Vb c6 S5) (d e3) ?_;exact j Ly h
 cases h;exact kR Z
theorem Ay9 {b:Pat}{a:Int}{y:Int}(h:CR N b a=some y) :Yo S IG [.p (.agg (C5 b)),pN a] [] (pN y) ([]) []:=by
 induction N generalizing b a y with
 |zero=>cases (show (none:Option Int)=some y from h)
 |succ N ih=>exact Aj9 Z Y (λe=>ih e) h
def Ej (N:Nat)(a:Pat):Option Int:= (CR N a 0).bind λy1=>some y1
theorem Pf {a:Pat}{y:Int}(h:Ej N a=some y) :Yo S Wt [.p (.agg (C5 a))] [] (pN y) ([]) []:=by unfold Ej at h;refine A1 Z func36 ?_;refine kC Z h (Ay9 Z Y) (λy1 h=>?_);cases h;exact kR Z
def AU (rec:Pat->Option Int)(N:Nat)(a:Pat):Option Int:= V7 N (λb (x1:Int) (x2:Int)=>ite (decide (x2<(a.L.n:Int))) (ite ((0:Int)<=x2/\x2<(a.L.n:Int)) ((rec (a.L.g x2.toNat)).bind λy3=>b (wrap .i64 (x1+y3)) (wrap .i64 (x2+1))) none) (some x1)) ((ite (a.Kind==5) 1 0):Int) 0
def By:Nat->Pat->Option Int
 |0=>λ_=>none
 |N+1=>AU (By N) N
theorem Vf {rec:Pat->Option Int}(d:∀{a:Pat}{y:Int},rec a=some y->Yo S FF [.p (.agg (C5 a))] [] (pN y) ([]) []){a:Pat}{y:Int}(h:AU rec N a=some y) :Yo S FF [.p (.agg (C5 a))] [] (pN y) ([]) []:=by
 unfold AU at h;refine A1 Z func69 ?_;obtain⟨t1,c⟩:∃x:Int,x=((ite (a.Kind==5) 1 0):Int):=⟨_,rfl⟩;refine Ad7 Z Ly (A3 Z) 0 (λ_=>⟨[(3,pN t1),(1,.reg 2000 0)],[(2000,.cells ((C5 a).map .p))]⟩) (λf=>?_) ?_
 .refine O3 Z Ly (b:=a.Kind==5) (λc2=>?_) (λc2=>?_)
  .exact f Ly (hle:=klR [(0,.eq (pI .i64 1) (pI .i64 t1))] (al1 (by simp only[c,c2,Ys.ok,pm,Kk,Lw]) al0))
  exact f Ly (hle:=klR [(0,.eq (pI .i64 0) (pI .i64 t1))] (al1 (by simp only[c,c2,Ys.ok,pm,Kk,Lw]) al0))
 subst c;refine F5 Z Ly h (λx1 x2=>kps [(4,pN x2),(3,pN x1)] [1] [] [2000]) (λj x1 x2 l h=>?_);refine I7 Z Ly 11 (kps [(10,.p (vSl 7 C5 a.L))] [8,4,3,1] [(2000,.cells ((C5 a).map .p))] []) ?_ (hle:=klR [(0,.fn a.L.n a.L.n (CJ a) (λi=>C5 (a.L.g i)))] (al1 ⟨rfl,Q0 a⟩ al0));apply kI Z h<;>intro h
 .refine I7 Z Ly 19 (kps [(17,.p (vSl 7 C5 a.L))] [18,15,4,1] [(2000,.cells ((C5 a).map .p))] []) ?_ (hle:=klR [(1,.fn a.L.n a.L.n (CJ a) (λi=>C5 (a.L.g i)))] (al1 ⟨rfl,Q0 a⟩ al0));obtain⟨c8,h⟩:=C0 h;obtain⟨y3,e3,h⟩:=E7 h;refine E2 Z [] (Vb c8 S5) (d e3) ?_;exact l Ly h
 cases h;exact kR Z
theorem YU {a:Pat}{y:Int}(h:By N a=some y) :Yo S FF [.p (.agg (C5 a))] [] (pN y) ([]) []:=by
 induction N generalizing a y with
 |zero=>cases (show (none:Option Int)=some y from h)
 |succ N ih=>exact Vf Z Y (λe=>ih e) h
def FN (N:Nat)(a:Sl Law):Option Int:= V7 N (λc (x3:Int) (x4:Int)=>ite ((decide (x4<(a.n:Int)))&&(decide (x4<=300))) (ite (((0:Int)<=x4/\x4<(a.n:Int))/\((0:Int)<=x4/\x4<(a.n:Int))) (V7 N (λb (x7:Int) (x8:Int)=>ite (decide (x8<((Sl.of [(a.g x4.toNat).Left,(a.g x4.toNat).Right]:Sl Pat).n:Int))) (ite ((0:Int)<=x8/\x8<((Sl.of [(a.g x4.toNat).Left,(a.g x4.toNat).Right]:Sl Pat).n:Int)) ((Ej N ((Sl.of [(a.g x4.toNat).Left,(a.g x4.toNat).Right]:Sl Pat).g x8.toNat)).bind λd=>ite (decide (d<=40)) ((By N ((Sl.of [(a.g x4.toNat).Left,(a.g x4.toNat).Right]:Sl Pat).g x8.toNat)).bind λf=>b (wrap .i64 (x7+f)) (wrap .i64 (x8+1))) (b x7 (wrap .i64 (x8+1)))) none) (c (ite (x3<x7) x7 x3) (wrap .i64 (x4+1)))) 0 0) none) (some x3)) 0 0
abbrev Ag3:List PV:=[pI .i64 0,pI .u32 0,pI .u32 0,.v (.bool false),pI .i64 0,pI .i64 0,I4]
theorem AV1 {b:Sl Law}{y:Int}(h:FN N b=some y) :Yo S Ws [.p (vSl 18 B7 b)] [] (pN y) ([]) []:=by
 unfold FN at h;refine A1 Z func35 ?_;refine F5 Z Ly h (λx3 x4=>kps [(4,pN x4),(3,pN x3)] [0] [] []) (λd x3 x4 f h=>?_);refine kB Z (A3 Z) Ly Ly 3 (.n (.a (decide (x4<(b.n:Int)))) (.a (decide (x4<=300)))) ?_;apply kI Z h<;>intro h
 .refine B5 Z Ly [2,4,7,9] ?_;obtain⟨c24,h⟩:=C0 h;refine O6 (Vb (Vb (Vb c24.1 (by decide:(7:Nat)<=17)) c24.2) (by decide:(7:Nat)<=10)) (x:=.sl true 7 2 (G7 Ag3 [(0,C5 (b.g x4.toNat).Left),(1,C5 (b.g x4.toNat).Right)])) ?_;refine D1 Ly ?_;refine F5 Z Ly h (λx7 x8 _=>⟨[(30,pN x8),(29,pN ((Sl.of [(b.g x4.toNat).Left,(b.g x4.toNat).Right]:Sl Pat).n:Int)),(28,.p (vSl 7 C5 (Sl.of [(b.g x4.toNat).Left,(b.g x4.toNat).Right]:Sl Pat))),(5,pN x7),(4,pN x4),(3,pN x3),(0,.p (vSl 18 B7 b))],[]⟩) (λi x7 x8 c h=>?_) (hle:=kl1 2 (AR3 C5 ([(b.g x4.toNat).Left,(b.g x4.toNat).Right]:List Pat) Ag3));apply kI Z h<;>intro h
  .obtain⟨c32,h⟩:=C0 h;refine C6 Z (Vb c32 S5) 34 8000 (C5 ((Sl.of [(b.g x4.toNat).Left,(b.g x4.toNat).Right]:Sl Pat).g x8.toNat)) ?_;refine kD Z h S5 (Pf Z Y) (λj h=>?_);apply kI Z h<;>intro h
   .refine kD Z h S5 (YU Z Y) (λl h=>?_);exact c Ly h
   exact c Ly h
  exact f Ly h
 cases h;exact kR Z
def V8 (N:Nat)(q0:Int):Option (List (Int)):= N3 N (λa (x1:Int)=>ite (x1 != 0) ((I8 N x1).bind λy3=>ite ((0:Int)<=y3) (BN y3 (a (F3 .andNot .u64 x1 (shI .shl .u64 1 y3)))) none) (some [])) q0
theorem Fp {q0:Int}{L:List (Int)}(h:V8 N q0=some L) :Gf S Fo [] [.reg 0 0] [.cells [.p (pI .u64 q0)]] (L.map (λ(x:Int)=>[pI .i64 x])):=by
 unfold V8 at h;refine FE Z func293 ?_;refine Eg Z Ly h (λx1 L1=>⟨[(1,.reg 0 0),(0,.yf 1)],[(1,.yld (L1.map (λ(x:Int)=>[pI .i64 x])) true),(0,.cells [.p (pI .u64 x1)])]⟩) (λc x1 L1 d h=>?_);apply kI Z h<;>intro h
 .refine kC Z h (Gq Z Y) (λy3 h=>?_);refine Gh Z Ly ?_;refine dE h (λh=>?_);obtain⟨L4,rfl,b⟩:=OX h;replace h:=b;refine Ef Z Ly (ys:=(λ(x:Int)=>[pI .i64 x]) y3) (rest:=L4.map (λ(x:Int)=>[pI .i64 x])) ?_ ?_
  .refine kF Z ?_;exact d Ly h
  refine kT Z ?_;exact kO Z Ly (a:=.tup []) (objs:=[(.cells [.p (pI .u64 (F3 .andNot .u64 x1 (shI .shl .u64 1 y3)))]),.yld [] false]) [0,1] ⟨false,rfl,rfl,_,rfl⟩
 obtain rfl:=A6 h;exact kO Z Ly (a:=.tup []) (objs:=[(.cells [.p (pI .u64 x1)]),.yld [] true]) [0,1] ⟨true,rfl,rfl,_,rfl⟩
def Cm (N:Nat)(a:Int):Option (Int):= some a
theorem Hu {a:Int}{y:Int}(h:Cm N a=some y) :Yo S Mi [.p (pI .u64 a)] [] (.clo Fo [] [.reg 0 0]) ([.cells [.p (pI .u64 y)]]) []:=by unfold Cm at h;refine A1 Z func290 ?_;obtain rfl:=A6 h;exact kO Z Ly [2000]
def F8 (N:Nat)(p_x:Nat->Int)(c:Nat->Int):Option (Nat->Int):= V7 N (λa (x3:Nat->Int) (x4:Int)=>ite (decide (x4<33)) (ite (((0:Int)<=x4/\x4<33)/\(0+x4.toNat*1)<33) ((Cm N (p_x (0+x4.toNat*1))).bind λy3=>(V8 N y3).bind λL3=>T2 L3 (λb (x7:Int) (z3:Nat->Int)=>ite (((((((0:Int)<=x4/\x4<33)/\(0+x4.toNat*1)<33)/\((0:Int)<=x7/\x7<33))/\(0+x7.toNat*1)<33)/\((0:Int)<=x4/\x4<33))/\(0+x4.toNat*1)<33) (b (ZN z3 (0+x4.toNat*1) (F3 .or .u64 (z3 (0+x4.toNat*1)) (c (0+x7.toNat*1))))) none) (λ(z3:Nat->Int)=>a z3 (wrap .i64 (x4+1))) x3) none) (some x3)) (λ_=>0) 0
theorem X7 {p_x:Nat->Int}{b:Nat->Int}{y:Nat->Int}(h:F8 N p_x b=some y) :Yo S BU [.reg 0 0,.reg 1 0] [.arr 33 (λi=>pI .u64 (p_x i)),.arr 33 (λi=>pI .u64 (b i))] (.p (.agg (cA 33 (pI .u64) y))) ([.arr 33 (λi=>pI .u64 (p_x i)),.arr 33 (λi=>pI .u64 (b i))]) [true,true]:=by
 unfold F8 at h;refine A1 Z func321 ?_;refine F5 Z Ly h (λx3 x4=>kps [(10,pN x4)] [9,5,4,3] [(6000,.arr 33 (λi=>pI .u64 (x3 i))),(5000,.arr 33 (λi=>pI .u64 ((λ_=>0) i))),(4000,.cells [.reg 1 0]),(1,.arr 33 (λi=>pI .u64 (b i))),(0,.arr 33 (λi=>pI .u64 (p_x i)))] []) (λd x3 x4 f h=>?_) (hle:=kl2 1 2 (Bz6 33 (pI .u64 0)) (Bz6 33 (pI .u64 0)));apply kI Z h<;>intro h
 .refine G6 Z Ly [(2,.l [0]),(3,.l [0]),(4,.a [7000]),(5,.a [7000])] ?_;refine dE h (λh=>?_);refine C6 Z Ly 16 7000 [pI .i64 x4] ?_;refine kC Z h (Hu Z Y) (λy3 h=>?_);obtain⟨L3,e6,h⟩:=E7 h;refine JO Z Ly [18000] [10,9,6,5,4,3] 905 (λz3=>⟨[(10,pN x4),(9,.reg 0 0),(6,.p (.ptr [pI .i64 x4])),(5,.reg 6000 0),(4,.reg 5000 0),(3,.reg 4000 0)],[(6000,.arr 33 (λi=>pI .u64 (z3 i))),(5000,.arr 33 (λi=>pI .u64 ((λ_=>0) i))),(4000,.cells [.reg 1 0]),(1,.arr 33 (λi=>pI .u64 (b i))),(0,.arr 33 (λi=>pI .u64 (p_x i)))]⟩) h (Fp Z Y e6) (λ_=>by kernel_rfl) (λ_=>by kernel_rfl) (λ_=>by kernel_rfl) (λ_=>by kernel_rfl) (λx7 g z3 j h=>?_) (λz3 h=>?_)
  .refine Ny Z Ly ?_;refine G6 Z Ly [(0,.n),(1,.l [6000]),(2,.l [6000]),(3,.l [4000]),(6,.l [1]),(7,.l [1]),(9,.l [6000]),(10,.a [6000])] ?_;refine dE h (λh=>?_);exact j Ly h (hle:=klR [(0,.fn 33 33 (λi=>[(λi=>ite (i=(0+x4.toNat*1)) (pI .u64 (F3 .or .u64 (z3 (0+x4.toNat*1)) (b (0+x7.toNat*1)))) ((λi=>pI .u64 (z3 i)) i)) i]) (λi=>[pI .u64 (ZN z3 (0+x4.toNat*1) (F3 .or .u64 (z3 (0+x4.toNat*1)) (b (0+x7.toNat*1))) i)]))] (al1 ⟨rfl,BO9 (c:=pI .u64) (v:=z3) (x:=F3 .or .u64 (z3 (0+x4.toNat*1)) (b (0+x7.toNat*1))) (λ_ _=>rfl) rfl⟩ al0))
  exact f Ly h
 obtain rfl:=A6 h;exact J8 Z (Vb rfl (H0 _ _):(0:Nat)=0/\(Fi 33 (λi=>pI .u64 (x3 i))).length=33) ⟨[(4,.reg 5000 0)],[(5000,.arr 33 (λi=>pI .u64 (x3 i))),(1,.arr 33 (λi=>pI .u64 (b i))),(0,.arr 33 (λi=>pI .u64 (p_x i)))]⟩ [0,1] ⟨rfl,rfl,rfl⟩ (hle:=kl1 0 (PP 33 (λi=>pI .u64 (x3 i))))
def M7 (N:Nat)(p_x:Nat->Int):Option (Nat->Int):= V7 N (λa (x3:Nat->Int) (x4:Int)=>ite (decide (x4<33)) (ite (((0:Int)<=x4/\x4<33)/\(0+x4.toNat*1)<33) ((Cm N (p_x (0+x4.toNat*1))).bind λy3=>(V8 N y3).bind λL3=>T2 L3 (λb (x7:Int) (z3:Nat->Int)=>ite (((((((0:Int)<=x4/\x4<33)/\(0+x4.toNat*1)<33)/\((0:Int)<=x7/\x7<33))/\(0+x7.toNat*1)<33)/\((0:Int)<=x4/\x4<33))/\(0+x4.toNat*1)<33) (b (ZN z3 (0+x4.toNat*1) (F3 .or .u64 (z3 (0+x4.toNat*1)) (p_x (0+x7.toNat*1))))) none) (λ(z3:Nat->Int)=>a z3 (wrap .i64 (x4+1))) x3) none) (some x3)) (λ_=>0) 0
theorem ET {p_x:Nat->Int}{y:Nat->Int}(h:M7 N p_x=some y) :Yo S BU [.reg 0 0,.reg 0 0] [.arr 33 (λi=>pI .u64 (p_x i))] (.p (.agg (cA 33 (pI .u64) y))) ([.arr 33 (λi=>pI .u64 (p_x i))]) [true]:=by
 unfold M7 at h;refine A1 Z func321 ?_;refine F5 Z Ly h (λx3 x4=>kps [(10,pN x4)] [9,5,4,3] [(6000,.arr 33 (λi=>pI .u64 (x3 i))),(5000,.arr 33 (λi=>pI .u64 ((λ_=>0) i))),(4000,.cells [.reg 0 0]),(0,.arr 33 (λi=>pI .u64 (p_x i)))] []) (λb x3 x4 d h=>?_) (hle:=kl2 1 2 (Bz6 33 (pI .u64 0)) (Bz6 33 (pI .u64 0)));apply kI Z h<;>intro h
 .refine G6 Z Ly [(2,.l [0]),(3,.l [0]),(4,.a [7000]),(5,.a [7000])] ?_;refine dE h (λh=>?_);refine C6 Z Ly 16 7000 [pI .i64 x4] ?_;refine kC Z h (Hu Z Y) (λy3 h=>?_);obtain⟨L3,e6,h⟩:=E7 h;refine JO Z Ly [18000] [10,9,6,5,4,3] 905 (λz3=>⟨[(10,pN x4),(9,.reg 0 0),(6,.p (.ptr [pI .i64 x4])),(5,.reg 6000 0),(4,.reg 5000 0),(3,.reg 4000 0)],[(6000,.arr 33 (λi=>pI .u64 (z3 i))),(5000,.arr 33 (λi=>pI .u64 ((λ_=>0) i))),(4000,.cells [.reg 0 0]),(0,.arr 33 (λi=>pI .u64 (p_x i)))]⟩) h (Fp Z Y e6) (λ_=>by kernel_rfl) (λ_=>by kernel_rfl) (λ_=>by kernel_rfl) (λ_=>by kernel_rfl) (λx7 f z3 g h=>?_) (λz3 h=>?_)
  .refine Ny Z Ly ?_;refine G6 Z Ly [(0,.n),(1,.l [6000]),(2,.l [6000]),(3,.l [4000]),(6,.l [0]),(7,.l [0]),(9,.l [6000]),(10,.a [6000])] ?_;refine dE h (λh=>?_);exact g Ly h (hle:=klR [(0,.fn 33 33 (λi=>[(λi=>ite (i=(0+x4.toNat*1)) (pI .u64 (F3 .or .u64 (z3 (0+x4.toNat*1)) (p_x (0+x7.toNat*1)))) ((λi=>pI .u64 (z3 i)) i)) i]) (λi=>[pI .u64 (ZN z3 (0+x4.toNat*1) (F3 .or .u64 (z3 (0+x4.toNat*1)) (p_x (0+x7.toNat*1))) i)]))] (al1 ⟨rfl,BO9 (c:=pI .u64) (v:=z3) (x:=F3 .or .u64 (z3 (0+x4.toNat*1)) (p_x (0+x7.toNat*1))) (λ_ _=>rfl) rfl⟩ al0))
  exact d Ly h
 obtain rfl:=A6 h;exact J8 Z (Vb rfl (H0 _ _):(0:Nat)=0/\(Fi 33 (λi=>pI .u64 (x3 i))).length=33) ⟨[(4,.reg 5000 0)],[(5000,.arr 33 (λi=>pI .u64 (x3 i))),(0,.arr 33 (λi=>pI .u64 (p_x i)))]⟩ [0] ⟨rfl,rfl,rfl⟩ (hle:=kl1 0 (PP 33 (λi=>pI .u64 (x3 i))))
def G9 (N:Nat)(p_x:Nat->Int)(b:Int)(c:Int):Option (Nat->Int):= (U8 N c).bind λy1=>Bf3 N (λa (x1:Int) (x2:Nat->Int) (x3:Nat->Int)=>ite (decide (0<x1)) (ite ((F3 .and .i64 x1 1)==1) ((F8 N x3 x2).bind λy8=>(M7 N x2).bind λy9=>a (shI .shr .i64 x1 1) y9 y8) ((M7 N x2).bind λd=>a (shI .shr .i64 x1 1) d x3)) (some x3)) b p_x y1
theorem AW {p_x:Nat->Int}{a:Int}{b:Int}{y:Nat->Int}(h:G9 N p_x a b=some y) :Yo S ER [.p (.agg (cA 33 (pI .u64) p_x)),pN a,pN b] [] (.p (.agg (cA 33 (pI .u64) y))) ([]) []:=by
 unfold G9 at h;refine A1 Z func314 ?_;refine kC Z h (Gs Z Y) (λy1 h=>?_);refine Nx Z (Vb rfl (H0 _ _):(0:Nat)=0/\(Fi 33 (λi=>pI .u64 (y1 i))).length=33) h (λx1 x2 x3=>kps [(1,pN x1)] [7,6,3] [(8000,.arr 33 (λi=>pI .u64 (x3 i))),(7000,.arr 33 (λi=>pI .u64 ((λ_=>0) i))),(4000,.arr 33 (λi=>pI .u64 (x2 i)))] []) (λf x1 x2 x3 c h=>?_) (hle:=klR [(1,.fn 33 33 (λi=>[(λi=>(cA 33 (pI .u64) y1).getD i default) i]) (λi=>[pI .u64 (y1 i)])),(2,.fn 33 33 (λi=>[(λi=>(List.replicate 33 (pI .u64 0)).getD i default) i]) (λi=>[pI .u64 ((λ_=>0) i)])),(3,.fn 33 33 (λi=>[(λi=>(cA 33 (pI .u64) p_x).getD i default) i]) (λi=>[pI .u64 (p_x i)]))] (al1 ⟨rfl,EA 33 (λi=>pI .u64 (y1 i))⟩ (al1 ⟨rfl,Sg (z:=pI .u64 0) rfl⟩ (al1 ⟨rfl,EA 33 (λi=>pI .u64 (p_x i))⟩ al0))));apply kI Z h<;>intro h
 .apply kI Z h<;>intro h
  .obtain⟨y8,e8,h⟩:=E7 h;refine E2 Z [8000,4000] Ly (X7 Z Y e8) ?_;obtain⟨y9,e9,h⟩:=E7 h;refine E2 Z [4000] (Vb rfl (H0 _ _):(0:Nat)=0/\(Fi 33 (λi=>pI .u64 (y8 i))).length=33) (ET Z Y e9) ?_;exact c (Vb (Vb rfl (H0 _ _):(0:Nat)=0/\(Fi 33 (λi=>pI .u64 (y9 i))).length=33) (by decide:(0:Int)<=1)) h (hle:=kl2 1 3 (PP 33 (λi=>pI .u64 (y8 i))) (PP 33 (λi=>pI .u64 (y9 i))))
  obtain⟨d,e10,h⟩:=E7 h;refine E2 Z [4000] Ly (ET Z Y e10) ?_;exact c (Vb (Vb rfl (H0 _ _):(0:Nat)=0/\(Fi 33 (λi=>pI .u64 (d i))).length=33) (by decide:(0:Int)<=1)) h (hle:=kl1 3 (PP 33 (λi=>pI .u64 (d i))))
 obtain rfl:=A6 h;exact J8 Z (Vb rfl (H0 _ _):(0:Nat)=0/\(Fi 33 (λi=>pI .u64 (x3 i))).length=33) ⟨[(6,.reg 7000 0)],[(7000,.arr 33 (λi=>pI .u64 (x3 i)))]⟩ [] ⟨rfl,rfl,rfl⟩ (hle:=kl1 0 (PP 33 (λi=>pI .u64 (x3 i))))
def AX (N:Nat)(p_x:Bh3)(b:Sl Tr):Option (Nat->Int):= V7 N (λa (x1:Nat->Int) (x2:Int)=>ite (decide (x2<(b.n:Int))) (ite ((0:Int)<=x2/\x2<(b.n:Int)) (ite ((((F3 .or .u32 (F3 .andNot .u32 p_x.is.Plus (b.g x2.toNat).Plus) (F3 .andNot .u32 p_x.is.Minus (b.g x2.toNat).Minus))==0)==p_x.not) != true) (ite (((0:Int)<=(wrap .i64 (x2+1))/\((0:Int)<=x2/\x2<33))/\(0+x2.toNat*1)<33) (a (ZN x1 (0+x2.toNat*1) (shI .shl .u64 1 (wrap .i64 (x2+1)))) (wrap .i64 (x2+1))) none) (a x1 (wrap .i64 (x2+1)))) none) (some x1)) (λ_=>0) 0
theorem Tw {p_x:Bh3}{a:Sl Tr}{y:Nat->Int}(h:AX N p_x a=some y) :Yo S Gp [.p (.agg (Bz8 p_x)),.p (vSl 2 A0 a)] [] (.p (.agg (cA 33 (pI .u64) y))) ([]) []:=by
 unfold AX at h;refine A1 Z func315 ?_;refine F5 Z Ly h (λx1 x2=>kps [(9,pN x2)] [8,7,4,2] [(5000,.arr 33 (λi=>pI .u64 (x1 i)))] [3000]) (λd x1 x2 b h=>?_) (hle:=kl1 3 (Bz6 33 (pI .u64 0)));apply kI Z h<;>intro h
 .obtain⟨c8,h⟩:=C0 h;refine kX Z (Vb c8 Pb) h (λh=>?_) (λh=>?_)
  .obtain⟨c10,h⟩:=C0 h;exact b c10 h (hle:=klR [(3,.fn 33 33 (λi=>[(λi=>ite (i=(0+x2.toNat*1)) (pI .u64 (shI .shl .u64 1 (wrap .i64 (x2+1)))) ((λi=>pI .u64 (x1 i)) i)) i]) (λi=>[pI .u64 (ZN x1 (0+x2.toNat*1) (shI .shl .u64 1 (wrap .i64 (x2+1))) i)]))] (al1 ⟨rfl,BO9 (c:=pI .u64) (v:=x1) (x:=shI .shl .u64 1 (wrap .i64 (x2+1))) (λ_ _=>rfl) rfl⟩ al0))
  exact b Ly h
 obtain rfl:=A6 h;exact J8 Z (Vb rfl (H0 _ _):(0:Nat)=0/\(Fi 33 (λi=>pI .u64 (x1 i))).length=33) ⟨[(4,.reg 5000 0)],[(5000,.arr 33 (λi=>pI .u64 (x1 i)))]⟩ [] ⟨rfl,rfl,rfl⟩ (hle:=kl1 0 (PP 33 (λi=>pI .u64 (x1 i))))
def Cn (N:Nat)(p_x:BQ1)(a:Sl Tr):Option (Nat->Int):= ite p_x.end_ (ite (((0:Int)<=(a.n:Int)/\((0:Int)<=(a.n:Int)/\(a.n:Int)<33))/\(0+(a.n:Int).toNat*1)<33) (some (ZN (λ_=>0) (0+(a.n:Int).toNat*1) (shI .shl .u64 1 (a.n:Int)))) none) (ite (((0:Int)<=0/\(0:Int)<33)/\(0+0*1)<33) (some (ZN (λ_=>0) (0+0*1) (shI .shl .u64 1 0))) none)
theorem Vg {p_x:BQ1}{a:Sl Tr}{y:Nat->Int}(h:Cn N p_x a=some y) :Yo S Ht [.p (.agg (BQ2 p_x)),.p (vSl 2 A0 a)] [] (.p (.agg (cA 33 (pI .u64) y))) ([]) []:=by
 unfold Cn at h;refine A1 Z func316 ?_;apply kI Z h<;>intro h
 .obtain⟨c2,h⟩:=C0 h;obtain rfl:=A6 h;exact J8 Z (Vb (Vb (Vb c2.1.1 c2.1.2) c2.2) (Vb rfl (H0 _ _):(0:Nat)=0/\(Fi 33 (λi=>ite (i=(0+(a.n:Int).toNat*1)) (pI .u64 (shI .shl .u64 1 (a.n:Int))) ((λi=>(List.replicate 33 (pI .u64 0)).getD i default) i))).length=33)) ⟨[(4,.reg 5000 0)],[(5000,.arr 33 (λi=>pI .u64 (ZN (λ_=>0) (0+(a.n:Int).toNat*1) (shI .shl .u64 1 (a.n:Int)) i)))]⟩ [] ⟨rfl,rfl,rfl⟩ (hle:=klR [(0,.fn 33 33 (λi=>[(λi=>(Fi 33 (λi=>ite (i=(0+(a.n:Int).toNat*1)) (pI .u64 (shI .shl .u64 1 (a.n:Int))) ((λi=>(List.replicate 33 (pI .u64 0)).getD i default) i))).getD i default) i]) (λi=>[pI .u64 (ZN (λ_=>0) (0+(a.n:Int).toNat*1) (shI .shl .u64 1 (a.n:Int)) i)]))] (al1 ⟨rfl,λi b=>(EA 33 (λi=>ite (i=(0+(a.n:Int).toNat*1)) (pI .u64 (shI .shl .u64 1 (a.n:Int))) ((λi=>(List.replicate 33 (pI .u64 0)).getD i default) i)) i b).trans (BO9 (c:=pI .u64) (v:=λ_=>0) (x:=shI .shl .u64 1 (a.n:Int)) (Sg (z:=pI .u64 0) rfl) rfl i b)⟩ al0))
 obtain⟨c3,h⟩:=C0 h;obtain rfl:=A6 h;exact J8 Z (Vb (Vb (Vb (by decide:(0:Int)<=0) c3.1) c3.2) (Vb rfl (H0 _ _):(0:Nat)=0/\(Fi 33 (λi=>ite (i=(0+0*1)) (pI .u64 (shI .shl .u64 1 0)) ((λi=>(List.replicate 33 (pI .u64 0)).getD i default) i))).length=33)) ⟨[(4,.reg 5000 0)],[(5000,.arr 33 (λi=>pI .u64 (ZN (λ_=>0) (0+0*1) (shI .shl .u64 1 0) i)))]⟩ [] ⟨rfl,rfl,rfl⟩ (hle:=klR [(0,.fn 33 33 (λi=>[(λi=>(Fi 33 (λi=>ite (i=(0+0*1)) (pI .u64 (shI .shl .u64 1 0)) ((λi=>(List.replicate 33 (pI .u64 0)).getD i default) i))).getD i default) i]) (λi=>[pI .u64 (ZN (λ_=>0) (0+0*1) (shI .shl .u64 1 0) i)]))] (al1 ⟨rfl,λi b=>(EA 33 (λi=>ite (i=(0+0*1)) (pI .u64 (shI .shl .u64 1 0)) ((λi=>(List.replicate 33 (pI .u64 0)).getD i default) i)) i b).trans (BO9 (c:=pI .u64) (v:=λ_=>0) (x:=shI .shl .u64 1 0) (Sg (z:=pI .u64 0) rfl) rfl i b)⟩ al0))
def DI (rec:Part->(Sl Tr)->Option (Nat->Int))(N:Nat)(p_x:Pseq)(b:Sl Tr):Option (Nat->Int):= (U8 N (b.n:Int)).bind λy1=>V7 N (λa (x1:Nat->Int) (x2:Int)=>ite (decide (x2<(p_x.l.n:Int))) (ite ((0:Int)<=x2/\x2<(p_x.l.n:Int)) ((rec (p_x.l.g x2.toNat) b).bind λy6=>(F8 N x1 y6).bind λy7=>a y7 (wrap .i64 (x2+1))) none) (some x1)) y1 0
theorem YV {rec:Part->(Sl Tr)->Option ((Nat->Int))}(a:∀{x:Part}{b0:(Sl Tr)}{y:(Nat->Int)},rec x b0=some y->Ca3 S Tryz.prog (JR x) "ablaut/pats.in" [(.p (vSl 2 A0 b0))] (.p (.agg (cA 33 (pI .u64) y)))){p_x:Pseq}{b:(Sl Tr)}{y:(Nat->Int)}(h:DI rec N p_x b=some y) :Yo S IL [(.p (.agg (Cc4 p_x))),(.p (vSl 2 A0 b))] [] (.p (.agg (cA 33 (pI .u64) y))) ([]) []:=by
 unfold DI at h;refine A1 Z func322 ?_;refine kC Z h (Gs Z Y) (λy1 h=>?_);refine F5 Z (Vb rfl (H0 _ _):(0:Nat)=0/\(Fi 33 (λi=>pI .u64 (y1 i))).length=33) h (λx1 x2=>kps [(15,(pN x2))] [14,13,5,4,1] [(6000,(.arr 33 (λi=>pI .u64 (x1 i)))),(5000,(.arr 33 (λi=>pI .u64 ((λ_=>0) i))))] []) (λc x1 x2 d h=>?_) (hle:=(kl2 4 5 (PP 33 (λi=>pI .u64 (y1 i))) (Bz6 33 (pI .u64 0))));apply kI Z h<;>intro h
 .obtain⟨c6,h⟩:=C0 h;obtain⟨y6,e6,h⟩:=E7 h;refine Rk Z c6 (a e6) ?_;refine Nw Z (Vb rfl (H0 _ _):(0:Nat)=0/\(Fi 33 (λi=>pI .u64 (y6 i))).length=33) (kps [] [15,14,13,8,5,4,1] [(9000,(.arr 33 (λi=>pI .u64 (y6 i)))),(6000,(.arr 33 (λi=>pI .u64 (x1 i)))),(5000,(.arr 33 (λi=>pI .u64 ((λ_=>0) i))))] []) ?_ (hle:=(kl1 4 (PP 33 (λi=>pI .u64 (y6 i)))));obtain⟨y7,e7,h⟩:=E7 h;refine E2 Z [6000,9000] Ly (X7 Z Y e7) ?_;exact d (Vb rfl (H0 _ _):(0:Nat)=0/\(Fi 33 (λi=>pI .u64 (y7 i))).length=33) h (hle:=kl1 4 (PP 33 (λi=>pI .u64 (y7 i))))
 obtain rfl:=A6 h;exact J8 Z (Vb rfl (H0 _ _):(0:Nat)=0/\(Fi 33 (λi=>pI .u64 (x1 i))).length=33) ⟨[(4,(.reg 5000 0))],[(5000,(.arr 33 (λi=>pI .u64 (x1 i))))]⟩ [] ⟨rfl,rfl,rfl⟩ (hle:=(kl1 0 (PP 33 (λi=>pI .u64 (x1 i)))))
def DJ (rec:Part->(Sl Tr)->Option (Nat->Int))(N:Nat)(p_x:Palt)(b:Sl Tr):Option (Nat->Int):= V7 N (λa (x1:Nat->Int) (x2:Int)=>ite (decide (x2<(p_x.l.n:Int))) (ite ((0:Int)<=x2/\x2<(p_x.l.n:Int)) ((rec (p_x.l.g x2.toNat) b).bind λy5=>(R6 N x1 y5).bind λy6=>a y6 (wrap .i64 (x2+1))) none) (some x1)) (λ_=>0) 0
theorem YW {rec:Part->(Sl Tr)->Option ((Nat->Int))}(a:∀{x:Part}{b0:(Sl Tr)}{y:(Nat->Int)},rec x b0=some y->Ca3 S Tryz.prog (JR x) "ablaut/pats.in" [(.p (vSl 2 A0 b0))] (.p (.agg (cA 33 (pI .u64) y)))){p_x:Palt}{b:(Sl Tr)}{y:(Nat->Int)}(h:DJ rec N p_x b=some y) :Yo S IJ [(.p (.agg (Cc1 p_x))),(.p (vSl 2 A0 b))] [] (.p (.agg (cA 33 (pI .u64) y))) ([]) []:=by
 unfold DJ at h;refine A1 Z func317 ?_;refine F5 Z Ly h (λx1 x2=>kps [(11,(pN x2))] [10,9,4,1] [(5000,(.arr 33 (λi=>pI .u64 (x1 i))))] []) (λc x1 x2 d h=>?_) (hle:=(kl1 4 (Bz6 33 (pI .u64 0))));apply kI Z h<;>intro h
 .obtain⟨c6,h⟩:=C0 h;obtain⟨y5,e5,h⟩:=E7 h;refine Rk Z c6 (a e5) ?_;refine Nw Z (Vb rfl (H0 _ _):(0:Nat)=0/\(Fi 33 (λi=>pI .u64 (y5 i))).length=33) (kps [] [11,10,9,7,4,1] [(8000,(.arr 33 (λi=>pI .u64 (y5 i)))),(5000,(.arr 33 (λi=>pI .u64 (x1 i))))] []) ?_ (hle:=(kl1 4 (PP 33 (λi=>pI .u64 (y5 i)))));obtain⟨y6,e6,h⟩:=E7 h;refine E2 Z [5000,8000] Ly (Hf Z Y e6) ?_;exact d Ly h
 obtain rfl:=A6 h;exact J8 Z (Vb rfl (H0 _ _):(0:Nat)=0/\(Fi 33 (λi=>pI .u64 (x1 i))).length=33) ⟨[(4,(.reg 5000 0))],[(5000,(.arr 33 (λi=>pI .u64 (x1 i))))]⟩ [] ⟨rfl,rfl,rfl⟩ (hle:=(kl1 0 (PP 33 (λi=>pI .u64 (x1 i)))))
def DK (rec:Part->(Sl Tr)->Option (Nat->Int))(N:Nat)(p_x:Cc2)(a:Sl Tr):Option (Nat->Int):= (rec p_x.of a).bind λy1=>(G9 N y1 p_x.min (a.n:Int)).bind λy2=>(U8 N (a.n:Int)).bind λy3=>(R6 N y1 y3).bind λy4=>ite (decide (p_x.max<0)) ((G9 N y4 (a.n:Int) (a.n:Int)).bind λy5=>(F8 N y2 y5).bind λy6=>some y6) ((G9 N y4 (wrap .i64 (p_x.max-p_x.min)) (a.n:Int)).bind λy7=>(F8 N y2 y7).bind λy8=>some y8)
theorem YX {rec:Part->(Sl Tr)->Option ((Nat->Int))}(a:∀{x:Part}{b0:(Sl Tr)}{y:(Nat->Int)},rec x b0=some y->Ca3 S Tryz.prog (JR x) "ablaut/pats.in" [(.p (vSl 2 A0 b0))] (.p (.agg (cA 33 (pI .u64) y)))){p_x:Cc2}{b:(Sl Tr)}{y:(Nat->Int)}(h:DK rec N p_x b=some y) :Yo S IK [(.p (.agg (Cc3 p_x))),(.p (vSl 2 A0 b))] [] (.p (.agg (cA 33 (pI .u64) y))) ([]) []:=by
 unfold DK at h;refine A1 Z func319 ?_;obtain⟨y1,e1,h⟩:=E7 h;refine Rk Z Ly (a e1) ?_;refine Nw Z (Vb rfl (H0 _ _):(0:Nat)=0/\(Fi 33 (λi=>pI .u64 (y1 i))).length=33) (kps [] [18,16,14,5,4,2,1] [(6000,(.arr 33 (λi=>pI .u64 (y1 i)))),(5000,(.arr 33 (λi=>pI .u64 ((λ_=>0) i)))),(3000,(.cells [(.p (JR p_x.of)),(pN p_x.min),(pN p_x.max)]))] []) ?_ (hle:=(klR [(2,.eq (.agg (Fi 33 (λi=>(cA 33 (pI .u64) y1).getD i default))) (.agg (cA 33 (pI .u64) y1))),(4,.fn 33 33 (λi=>[(λi=>(cA 33 (pI .u64) y1).getD i default) i]) (λi=>[pI .u64 (y1 i)])),(5,.fn 33 33 (λi=>[(λi=>(List.replicate 33 (pI .u64 0)).getD i default) i]) (λi=>[pI .u64 ((λ_=>0) i)]))] (al1 (congrArg PV.agg (AR0 (EA 33 (λi=>pI .u64 (y1 i))))) (al1 ⟨rfl,(EA 33 (λi=>pI .u64 (y1 i)))⟩ (al1 ⟨rfl,(Sg (z:=pI .u64 0) rfl)⟩ al0)))));refine kC Z h (AW Z Y) (λy2 h=>?_);refine kD Z h (Vb (Vb rfl (H0 _ _):(0:Nat)=0/\(Fi 33 (λi=>pI .u64 (y2 i))).length=33) (Vb rfl (H0 _ _):(0:Nat)=0/\(Fi 33 (λi=>pI .u64 (y1 i))).length=33)) (Gs Z Y) (λy3 h=>?_);refine Nw Z (Vb rfl (H0 _ _):(0:Nat)=0/\(Fi 33 (λi=>pI .u64 (y3 i))).length=33) (kps [] [8,7,6,4,2,1] [(9000,(.arr 33 (λi=>pI .u64 (y3 i)))),(8000,(.arr 33 (λi=>pI .u64 (y1 i)))),(7000,(.arr 33 (λi=>pI .u64 (y2 i)))),(5000,(.arr 33 (λi=>pI .u64 ((λ_=>0) i)))),(3000,(.cells [(.p (JR p_x.of)),(pN p_x.min),(pN p_x.max)]))] []) ?_ (hle:=(klR [(1,.fn 33 33 (λi=>[(λi=>(cA 33 (pI .u64) y3).getD i default) i]) (λi=>[pI .u64 (y3 i)])),(2,.fn 33 33 (λi=>[(λi=>(cA 33 (pI .u64) y1).getD i default) i]) (λi=>[pI .u64 (y1 i)])),(3,.fn 33 33 (λi=>[(λi=>(cA 33 (pI .u64) y2).getD i default) i]) (λi=>[pI .u64 (y2 i)]))] (al1 ⟨rfl,(EA 33 (λi=>pI .u64 (y3 i)))⟩ (al1 ⟨rfl,(EA 33 (λi=>pI .u64 (y1 i)))⟩ (al1 ⟨rfl,(EA 33 (λi=>pI .u64 (y2 i)))⟩ al0)))));obtain⟨y4,e4,h⟩:=E7 h;refine E2 Z [8000,9000] Ly (Hf Z Y e4) ?_;apply kI Z h<;>intro h
 .refine kC Z h (AW Z Y) (λy5 h=>?_);refine Nw Z (Vb rfl (H0 _ _):(0:Nat)=0/\(Fi 33 (λi=>pI .u64 (y5 i))).length=33) (kps [] [7,6,4] [(8000,(.arr 33 (λi=>pI .u64 (y5 i)))),(7000,(.arr 33 (λi=>pI .u64 (y2 i)))),(5000,(.arr 33 (λi=>pI .u64 ((λ_=>0) i))))] []) ?_ (hle:=(kl1 0 (PP 33 (λi=>pI .u64 (y5 i)))));obtain⟨y6,e6,h⟩:=E7 h;refine E2 Z [7000,8000] Ly (X7 Z Y e6) ?_;obtain rfl:=A6 h;exact J8 Z (Vb rfl (H0 _ _):(0:Nat)=0/\(Fi 33 (λi=>pI .u64 (y6 i))).length=33) ⟨[(4,(.reg 5000 0))],[(5000,(.arr 33 (λi=>pI .u64 (y6 i))))]⟩ [] ⟨rfl,rfl,rfl⟩ (hle:=(kl1 0 (PP 33 (λi=>pI .u64 (y6 i)))))
 refine kC Z h (AW Z Y) (λy7 h=>?_);refine Nw Z (Vb rfl (H0 _ _):(0:Nat)=0/\(Fi 33 (λi=>pI .u64 (y7 i))).length=33) (kps [] [7,6,4] [(8000,(.arr 33 (λi=>pI .u64 (y7 i)))),(7000,(.arr 33 (λi=>pI .u64 (y2 i)))),(5000,(.arr 33 (λi=>pI .u64 ((λ_=>0) i))))] []) ?_ (hle:=(kl1 0 (PP 33 (λi=>pI .u64 (y7 i)))));obtain⟨y8,e8,h⟩:=E7 h;refine E2 Z [7000,8000] Ly (X7 Z Y e8) ?_;obtain rfl:=A6 h;exact J8 Z (Vb rfl (H0 _ _):(0:Nat)=0/\(Fi 33 (λi=>pI .u64 (y8 i))).length=33) ⟨[(4,(.reg 5000 0))],[(5000,(.arr 33 (λi=>pI .u64 (y8 i))))]⟩ [] ⟨rfl,rfl,rfl⟩ (hle:=(kl1 0 (PP 33 (λi=>pI .u64 (y8 i)))))
def Am (rec:Pat->Option Part)(N:Nat)(a:Pat):Option Part:= V7 N (λb (x1:Sl Part) (x2:Int)=>ite (decide (x2<(a.L.n:Int))) (ite ((0:Int)<=x2/\x2<(a.L.n:Int)) ((rec (a.L.g x2.toNat)).bind λy3=>ite (Va 16 (x1.n+(Sl.of [y3]:Sl Part).n)) (b (x1.push y3) (wrap .i64 (x2+1))) none) none) (ite (a.Kind==1) (some (Part.sound a.Is a.Not)) (ite (a.Kind==2) (some (Part.edge false)) (ite (a.Kind==6) (some (Part.edge true)) (ite (a.Kind==4) (some (Part.alt x1.n x1.g)) (ite (a.Kind==5) (ite (((0:Int)<=0/\0<(x1.n:Int))/\0<x1.n) (some (Part.rep (x1.g 0) a.Min a.Max)) none) (some (Part.seq x1.n x1.g)))))))) (Sl.nil:Sl Part) 0
def Co:Nat->Pat->Option Part
 |0=>λ_=>none
 |N+1=>Am (Co N) N
theorem Tx {rec:Pat->Option Part}(b:∀{a:Pat}{y:Part},rec a=some y->Yo S EB [.p (.agg (C5 a))] [] (.p (JR y)) ([]) []){a:Pat}{y:Part}(h:Am rec N a=some y) :Yo S EB [.p (.agg (C5 a))] [] (.p (JR y)) ([]) []:=by
 unfold Am at h;refine A1 Z func292 ?_;refine C6 Z Ly 2 2000 (C5 a) ?_;refine I7 Z Ly 8 (kps [(7,.p (vSl 7 C5 a.L))] [3,1] [] []) ?_ (hle:=klR [(0,.fn a.L.n a.L.n (CJ a) (λi=>C5 (a.L.g i)))] (al1 ⟨rfl,Q0 a⟩ al0));refine F5 Z Ly h (λx1 x2 _=>⟨[(9,pN x2),(8,pN (a.L.n:Int)),(7,.p (vSl 7 C5 a.L)),(3,.vec 4500),(1,.p (.ptr (C5 a)))],[(4500,oV Ay4 1 Wk x1 false)]⟩) (λc x1 x2 d h=>?_);apply kI Z h<;>intro h
 .obtain⟨c6,h⟩:=C0 h;refine C6 Z (Vb c6 S5) 13 6000 (C5 (a.L.g x2.toNat)) ?_;obtain⟨y3,e3,h⟩:=E7 h;refine E2 Z [] S5 (b e3) ?_;obtain⟨c7,h⟩:=C0 h;exact d (Vb Sr c7) h (hle:=kl1 4 (P0 Wk x1 y3 [.v .nilIface]))
 apply kI Z h<;>intro h
 .obtain rfl:=A6 h;exact Bg1 Z (by decide:(2:Nat)<=6) [] ⟨rfl,rfl,rfl⟩
 refine Af6 Z h fun h=>?_;refine Af6 Z h fun h=>?_;apply kI Z h<;>intro h
 .refine I7 Z Ly 40 (λ_=>⟨[(39,.p (vSl 1 Wk x1))],[]⟩) ?_;cases h;exact kR Z
 apply kI Z h<;>intro h
 .refine B5 Z Ly [4,6] ?_;refine dE h (λh=>?_);cases h;exact kR Z
 refine I7 Z Ly 54 (λ_=>⟨[(53,.p (vSl 1 Wk x1))],[]⟩) ?_;cases h;exact kR Z
theorem Vh {a:Pat}{y:Part}(h:Co N a=some y) :Yo S EB [.p (.agg (C5 a))] [] (.p (JR y)) ([]) []:=by
 induction N generalizing a y with
 |zero=>cases (show (none:Option Part)=some y from h)
 |succ N ih=>exact Tx Z Y (λe=>ih e) h
def Cp:Nat->Part->Sl Tr->Option (Nat->Int)
 |0=>λ_ _=>none
 |N+1=>λp w=>match p with
  |.nil=>none
  |.sound x no=>AX N ⟨x,no⟩ w
  |.edge e=>Cn N ⟨e⟩ w
  |.seq n g=>DI (Cp N) N ⟨⟨n,g⟩⟩ w
  |.alt n g=>DJ (Cp N) N ⟨⟨n,g⟩⟩ w
  |.rep o mn mx=>DK (Cp N) N ⟨o,mn,mx⟩ w
theorem Bj0 {N:Nat}{x:Part}{w:Sl Tr}{y:Nat->Int}(h:Cp N x w=some y):Ca3 S Tryz.prog (JR x) "ablaut/pats.in" [(.p (vSl 2 A0 w))] (.p (.agg (cA 33 (pI .u64) y))):=by
 induction N generalizing x w y with
 |zero=>cases h
 |succ N ih=>
  cases x with
  |nil=>cases h
  |sound s no=>exact⟨_,_,Gp,rfl,by kernel_rfl,Tw Z Y (p_x:=⟨s,no⟩) h⟩
  |edge e=>exact⟨_,_,Ht,rfl,by kernel_rfl,Vg Z Y (N:=N) (p_x:=⟨e⟩) h⟩
  |seq n g=>exact⟨_,_,IL,rfl,by kernel_rfl,YV Z Y (λe=>ih e) (p_x:=⟨⟨n,g⟩⟩) h⟩
  |alt n g=>exact⟨_,_,IJ,rfl,by kernel_rfl,YW Z Y (λe=>ih e) (p_x:=⟨⟨n,g⟩⟩) h⟩
  |rep o mn mx=>exact⟨_,_,IK,rfl,by kernel_rfl,YX Z Y (λe=>ih e) (p_x:=⟨o,mn,mx⟩) h⟩
def Y5 (N:Nat)(a:Tr):Option Bool:= (T7 N a).bind λy1=>some (!y1)
theorem Ty {a:Tr}{y:Bool}(h:Y5 N a=some y) :Yo S Kj [.p (.agg (A0 a))] [] (pB y) ([]) []:=by unfold Y5 at h;refine A1 Z func291 ?_;refine kC Z h (He Z Y) (λy1 h=>?_);cases h;exact kR Z
def F7 (N:Nat)(a:Sl Tr)(c:Tr->Option Bool):Option Int:= N3 N (λb (x1:Int)=>ite (decide (x1<(a.n:Int))) (ite ((0:Int)<=x1/\x1<(a.n:Int)) ((c (a.g x1.toNat)).bind λy3=>ite y3 (some x1) (b (wrap .i64 (x1+1)))) none) (some (-1))) 0
theorem AH {a:Sl Tr}{c:Tr->Option Bool}{kp_f:Nat}(d:∀{a0:Tr}{b:Bool},c a0=some b->Yo S kp_f [.p (.agg (A0 a0))] [] (pB b) [] []){y:Int}(h:F7 N a c=some y) :Yo S O8 [.p (vSl 2 A0 a),.clo kp_f [] []] [] (pN y) ([]) []:=by
 unfold F7 at h;refine A1 Z func228 ?_;refine D6 Z Ly h (λx1=>kps [(8,pN x1)] [7,1,0] [] []) (λf x1 g h=>?_);apply kI Z h<;>intro h
 .obtain⟨c8,h⟩:=C0 h;obtain⟨y3,e3,h⟩:=E7 h;refine E2 Z [] (Vb c8 Pb) (d e3) ?_;refine Af6 Z h fun h=>?_;exact g Ly h
 cases h;exact kR Z
def C4 (N:Nat)(a:Sl Tr)(b:Tr->Option Bool):Option Bool:= (F7 N a b).bind λy1=>some (decide (0<=y1))
theorem N5 {a:Sl Tr}{c:Tr->Option Bool}{kp_f:Nat}(d:∀{a0:Tr}{b:Bool},c a0=some b->Yo S kp_f [.p (.agg (A0 a0))] [] (pB b) [] []){y:Bool}(h:C4 N a c=some y) :Yo S N4 [.p (vSl 2 A0 a),.clo kp_f [] []] [] (pB y) ([]) []:=by unfold C4 at h;refine A1 Z func197 ?_;refine kC Z h (AH Z Y (λe=>d e)) (λy1 h=>?_);cases h;exact kR Z
def E3 (N:Nat)(q0:Sl Pat):Option (List (Int×Pat)):= N3 N (λa (x1:Int)=>ite (decide (0<=x1)) (ite ((0:Int)<=x1/\x1<(q0.n:Int)) (BN (x1,q0.g x1.toNat) (a (wrap .i64 (x1-1)))) none) (some [])) (wrap .i64 ((q0.n:Int)-1))
theorem Bz {q0:Sl Pat}{L:List (Int×Pat)}(h:E3 N q0=some L) :Gf S J1 [] [.reg 0 0] [.cells [.p (vSl 7 C5 q0)]] (L.map (λ(x:Int×Pat)=>[pI .i64 x.1,(λx=>.agg (C5 x)) x.2])):=by
 unfold E3 at h;refine FE Z func243 ?_;refine Eg Z Ly h (λx1 L1=>⟨[(3,pN x1),(1,.reg 0 0),(0,.yf 1)],[(1,.yld (L1.map (λ(x:Int×Pat)=>[pI .i64 x.1,(λx=>.agg (C5 x)) x.2])) true),(0,.cells [.p (vSl 7 C5 q0)])]⟩) (λc x1 L1 d h=>?_);apply kI Z h<;>intro h
 .obtain⟨c10,h⟩:=C0 h;obtain⟨L4,rfl,b⟩:=OX h;replace h:=b;refine Ef Z (Vb c10 S5) (ys:=(λ(x:Int×Pat)=>[pI .i64 x.1,(λx=>.agg (C5 x)) x.2]) (x1,q0.g x1.toNat)) (rest:=L4.map (λ(x:Int×Pat)=>[pI .i64 x.1,(λx=>.agg (C5 x)) x.2])) ?_ ?_
  .refine kF Z ?_;exact d Ly h
  refine kT Z ?_;exact kO Z Ly (a:=.tup []) (objs:=[(.cells [.p (vSl 7 C5 q0)]),.yld [] false]) [0,1] ⟨false,rfl,rfl,_,rfl⟩
 obtain rfl:=A6 h;exact kO Z Ly (a:=.tup []) (objs:=[(.cells [.p (vSl 7 C5 q0)]),.yld [] true]) [0,1] ⟨true,rfl,rfl,_,rfl⟩
def K9 (N:Nat)(a:Sl Pat):Option (Sl Pat):= some a
theorem Cq {a:Sl Pat}{y:Sl Pat}(h:K9 N a=some y) :Yo S T5 [.p (vSl 7 C5 a)] [] (.clo J1 [] [.reg 0 0]) ([.cells [.p (vSl 7 C5 y)]]) []:=by unfold K9 at h;refine A1 Z func227 ?_;obtain rfl:=A6 h;exact kO Z Ly [2000]
def AY (N:Nat)(c:Pat):Option Int:= V7 N (λa (x3:Sl Pat) (x4:Int)=>ite (decide (0<(x3.n:Int))) (ite (x4==40) (some 12) (ite (((0:Int)<=(wrap .i64 ((x3.n:Int)-1))/\(wrap .i64 ((x3.n:Int)-1))<(x3.n:Int))/\(wrap .i64 ((x3.n:Int)-1)).toNat<x3.n) (ite ((0:Int)<=(wrap .i64 ((x3.n:Int)-1))/\(wrap .i64 ((x3.n:Int)-1))<=(x3.n:Int)) ((Cl N (x3.g (wrap .i64 ((x3.n:Int)-1)).toNat)).bind λy5=>ite (y5 != 0) (some y5) (ite ((0:Int)<=(ite (41<((x3.g (wrap .i64 ((x3.n:Int)-1)).toNat).L.n:Int)) 41 ((x3.g (wrap .i64 ((x3.n:Int)-1)).toNat).L.n:Int))/\(ite (41<((x3.g (wrap .i64 ((x3.n:Int)-1)).toNat).L.n:Int)) 41 ((x3.g (wrap .i64 ((x3.n:Int)-1)).toNat).L.n:Int))<=((x3.g (wrap .i64 ((x3.n:Int)-1)).toNat).L.n:Int)) ((K9 N ((x3.g (wrap .i64 ((x3.n:Int)-1)).toNat).L.take (ite (41<((x3.g (wrap .i64 ((x3.n:Int)-1)).toNat).L.n:Int)) 41 ((x3.g (wrap .i64 ((x3.n:Int)-1)).toNat).L.n:Int)).toNat)).bind λy6=>(E3 N y6).bind λL3=>T2 L3 (λb (x7:Int×Pat) (z3:Sl Pat)=>ite (((Va 64 (z3.n+(Sl.of [Pat.nil]:Sl Pat).n))/\((0:Int)<=(z3.n:Int)/\(z3.n:Int)<((z3.push Pat.nil).n:Int)))/\(z3.n:Int).toNat<(z3.push Pat.nil).n) (b ((z3.push Pat.nil).upd (z3.n:Int).toNat x7.2)) none) (λ(z3:Sl Pat)=>a z3 (wrap .i64 (x4+1))) (x3.take (wrap .i64 ((x3.n:Int)-1)).toNat)) none)) none) none)) (some 0)) (Sl.of [c]:Sl Pat) 0
theorem Kn {b:Pat}{y:Int}(h:AY N b=some y) :Yo S Qk [.p (.agg (C5 b))] [] (pN y) ([]) []:=by
 unfold AY at h;refine A1 Z func196 ?_;refine C6 Z Ly 2 2000 (C5 b) ?_;refine F5 Z (Vb S5 Sr) h (λx3 x4=>kps [(4,pN x4)] [3] [(4501,oV HQ 7 C5 x3 false),(4000,.cells [.vec 4501])] []) (λd x3 x4 j h=>?_) (hle:=kl1 1 (AR3 C5 ([b]:List Pat) Ag3));apply kI Z h<;>intro h
 .refine Af6 Z h fun h=>?_;obtain⟨c21,h⟩:=C0 h;refine C6 Z (Vb (Vb c21.1 S5) c21.2) 25 6000 (C5 (x3.g (wrap .i64 ((x3.n:Int)-1)).toNat)) ?_;obtain⟨c22,h⟩:=C0 h;refine Ca4 Z c22 30 4501 (wrap .i64 ((x3.n:Int)-1)).toNat 4508 (e:=HQ) (k:=7) (N:=x3.n) (f:=λi=>C5 (x3.g i)) (by have q:=c22;omega) ?_;refine kD Z h S5 (Ve Z Y) (λy5 h=>?_);refine Af6 Z h fun h=>?_;refine I7 Z Ly 39 (kps [(38,.p (vSl 7 C5 (x3.g (wrap .i64 ((x3.n:Int)-1)).toNat).L)),(36,.p (vSl 7 C5 (x3.g (wrap .i64 ((x3.n:Int)-1)).toNat).L))] [4,3] [(4508,.vec HQ 7 (x3.take (wrap .i64 ((x3.n:Int)-1)).toNat).n (λi=>C5 ((x3.take (wrap .i64 ((x3.n:Int)-1)).toNat).g i)) false),(4000,.cells [.vec 4508])] []) ?_ (hle:=klR [(0,.fn (x3.g (wrap .i64 ((x3.n:Int)-1)).toNat).L.n (x3.g (wrap .i64 ((x3.n:Int)-1)).toNat).L.n (CJ (x3.g (wrap .i64 ((x3.n:Int)-1)).toNat)) (λi=>C5 ((x3.g (wrap .i64 ((x3.n:Int)-1)).toNat).L.g i))),(1,.fn (x3.g (wrap .i64 ((x3.n:Int)-1)).toNat).L.n (x3.g (wrap .i64 ((x3.n:Int)-1)).toNat).L.n (CJ (x3.g (wrap .i64 ((x3.n:Int)-1)).toNat)) (λi=>C5 ((x3.g (wrap .i64 ((x3.n:Int)-1)).toNat).L.g i)))] (al1 ⟨rfl,Q0 (x3.g (wrap .i64 ((x3.n:Int)-1)).toNat)⟩ (al1 ⟨rfl,Q0 (x3.g (wrap .i64 ((x3.n:Int)-1)).toNat)⟩ al0)));obtain⟨c24,h⟩:=C0 h;refine kD Z h c24 (Cq Z Y) (λy6 h=>?_);obtain⟨L3,e9,h⟩:=E7 h;refine JO Z Ly [44000] [4,3] 905 (λz3=>⟨[(4,pN x4),(3,.reg 4000 0)],[(4500,oV HQ 7 C5 z3 false),(4000,.cells [.vec 4500])]⟩) h (Bz Z Y e9) (λ_=>by kernel_rfl) (λ_=>by kernel_rfl) (λ_=>by kernel_rfl) (λ_=>by kernel_rfl) (λx7 m z3 o h=>?_) (λz3 h=>?_)
  .refine Ny Z Ly ?_;refine Yd Z Ly 10000 (C5 x7.2) ?_;refine G6 Z Ly [(0,.l [4000]),(1,.n),(2,.l [4500]),(4,.a [51000,4500]),(5,.l [51000]),(6,.a [51000]),(7,.a [4000])] ?_;refine O6 S5 (x:=.sl true 7 1 (G7 Ag3 [(0,Ag3)])) ?_;obtain⟨c27,h⟩:=C0 h;refine D1 (Vb (Vb c27.1.1 c27.1.2) (Vb (rfl:(7:Nat)=7) (Vb c27.2 S5))) ?_;exact o Ly h (hle:=klR [(0,.fn (z3.n+1) ((z3.push Pat.nil).upd (z3.n:Int).toNat x7.2).n (λl=>ite (l=(z3.n:Int).toNat) (splice (Du z3.n (λi=>C5 (z3.g i)) (G7 Ag3 [(0,Ag3)]) l) 0 [pI .i64 x7.2.Kind,pI .u32 x7.2.Is.Plus,pI .u32 x7.2.Is.Minus,.bb x7.2.Not,pI .i64 x7.2.Min,pI .i64 x7.2.Max,.sl false 7 x7.2.L.n (CJ x7.2)]) ((Du z3.n (λi=>C5 (z3.g i)) (G7 Ag3 [(0,Ag3)])) l)) (λi=>C5 (((z3.push Pat.nil).upd (z3.n:Int).toNat x7.2).g i)))] (al1 ⟨rfl,setH (c:=C5) (v:=z3.push Pat.nil) (x:=x7.2) (app1H (c:=C5) (v:=z3) (z:=Pat.nil) same rfl) (λ_=>by simp[Du,G7,splice])⟩ al0))
  exact j Ly h
 cases h;exact kR Z
def BA (N:Nat)(b:Pat)(a:Sl Tr):Option ((Nat->Int)×Int):= (AY N b).bind λy1=>ite (y1 != 0) (some (λ_=>0,y1)) (ite (decide (32<(a.n:Int))) (some (λ_=>0,11)) ((C4 N a (λ(u1:Tr)=>Y5 N u1)).bind λy2=>ite y2 (some (λ_=>0,14)) ((Co N b).bind λy3=>(Cp N y3 a).bind λy4=>some (y4,0))))
theorem Oj {a:Pat}{b:Sl Tr}{y:(Nat->Int)×Int}(h:BA N a b=some y) :Yo S Oc [.p (.agg (C5 a)),.p (vSl 2 A0 b)] [] (.tup [.p (.agg (cA 33 (pI .u64) y.1)),pN y.2]) ([]) []:=by
 unfold BA at h;refine A1 Z func288 ?_;refine kC Z h (Kn Z Y) (λy1 h=>?_);apply kI Z h<;>intro h
 .obtain rfl:=A6 h;exact J8 Z (Vb rfl (H0 _ _):(0:Nat)=0/\(Fi 33 (λi=>pI .u64 ((λ_=>0) i))).length=33) ⟨[(5,pN y1),(4,.reg 5000 0)],[(5000,.arr 33 (λi=>pI .u64 ((λ_=>0) i)))]⟩ [] ⟨rfl,rfl,rfl⟩ (hle:=kl1 1 (PP 33 (λi=>pI .u64 ((λ_=>0) i))))
 apply kI Z h<;>intro h
 .obtain rfl:=A6 h;exact J8 Z (Vb rfl (H0 _ _):(0:Nat)=0/\(Fi 33 (λi=>pI .u64 ((λ_=>0) i))).length=33) ⟨[(5,pN 11),(4,.reg 5000 0)],[(5000,.arr 33 (λi=>pI .u64 ((λ_=>0) i)))]⟩ [] ⟨rfl,rfl,rfl⟩ (hle:=kl1 1 (PP 33 (λi=>pI .u64 ((λ_=>0) i))))
 refine kC Z h (N5 Z Y (λe=>Ty Z Y e)) (λy2 h=>?_);apply kI Z h<;>intro h
 .obtain rfl:=A6 h;exact J8 Z (Vb rfl (H0 _ _):(0:Nat)=0/\(Fi 33 (λi=>pI .u64 ((λ_=>0) i))).length=33) ⟨[(5,pN 14),(4,.reg 5000 0)],[(5000,.arr 33 (λi=>pI .u64 ((λ_=>0) i)))]⟩ [] ⟨rfl,rfl,rfl⟩ (hle:=kl1 1 (PP 33 (λi=>pI .u64 ((λ_=>0) i))))
 refine kC Z h (Vh Z Y) (λy3 h=>?_);obtain⟨y4,e4,h⟩:=E7 h;refine Rk Z Ly (Bj0 Z Y e4) ?_;obtain rfl:=A6 h;exact J8 Z (Vb rfl (H0 _ _):(0:Nat)=0/\(Fi 33 (λi=>pI .u64 (y4 i))).length=33) ⟨[(5,pN 0),(4,.reg 5000 0)],[(5000,.arr 33 (λi=>pI .u64 (y4 i)))]⟩ [] ⟨rfl,rfl,rfl⟩ (hle:=kl1 1 (PP 33 (λi=>pI .u64 (y4 i))))
def DL (N:Nat)(d:Pat)(c:Sl Tr)(a:Int):Option ((Sl Int)×Int):= (BA N d c).bind λy1=>lt (λ(z1:Int)=>ite (z1 != 0) (some (Tj,z1)) (V7 N (λb (x2:Sl Int) (x3:Int)=>ite (decide (x3<(wrap .i64 ((c.n:Int)+1)))) (ite ((((0:Int)<=x3/\x3<33)/\(0+x3.toNat*1)<33)/\(0:Int)<=a) (ite ((F3 .and .u64 (shI .shr .u64 (y1.1 (0+x3.toNat*1)) a) 1)==1) (ite (Va 8 (x2.n+(Sl.of [x3]:Sl Int).n)) (b (x2.push x3) (wrap .i64 (x3+1))) none) (b x2 (wrap .i64 (x3+1)))) none) (some (x2,0))) Tj 0)) λk1=>ite (y1.2==0) ((Bx N c a).bind λy3=>k1 y3) (k1 y1.2)
theorem YY {c:Pat}{b:Sl Tr}{a:Int}{y:(Sl Int)×Int}(h:DL N c b a=some y) :Yo S Ob [.p (.agg (C5 c)),.p (vSl 2 A0 b),pN a] [] (.tup [.vec 0,pN y.2]) ([oV C9 1 (cI .i64) y.1 true]) []:=by
 unfold DL at h;refine A1 Z func279 ?_;refine kC Z h (Oj Z Y) (λy1 h=>?_);refine GT Z (Vb rfl (H0 _ _):(0:Nat)=0/\(Fi 33 (λi=>pI .u64 (y1.1 i))).length=33) (A3 Z) h 0 (λz1=>kps [(9,pN z1)] [8,2,1] [(9000,.arr 33 (λi=>pI .u64 (y1.1 i)))] []) (λk1 d h=>?_) (λz1 h=>?_)
 .apply kI Z h<;>intro h
  .refine kC Z h (Oi Z Y) (λy3 h=>?_);exact d Ly h (hle:=kl1 3 (PP 33 (λi=>pI .u64 (y1.1 i))))
  exact d Ly h (hle:=kl1 3 (PP 33 (λi=>pI .u64 (y1.1 i))))
 apply kI Z h<;>intro h
 .obtain rfl:=A6 h;exact kO Z Ly [7700]
 refine F5 Z Ly h (λx2 x3=>kps [(29,pN x3),(28,pN (wrap .i64 ((b.n:Int)+1))),(10,.vec 11500),(8,.reg 9000 0),(2,pN a)] [] [(11500,oV C9 1 (cI .i64) x2 false)] [9000]) (λg x2 x3 f h=>?_);apply kI Z h<;>intro h
 .refine kJ Z h (λh=>?_) (λh=>?_)
  .obtain⟨c14,h⟩:=C0 h;exact f (Vb Sr c14) h (hle:=kl1 3 (P0 (cI .i64) x2 x3 [pI .i64 0]))
  exact f Ly h
 obtain rfl:=A6 h;exact kO Z Ly [11500]
def K0 (N:Nat)(a:List (Int)):Option (Sl Int):= T2 a (λb (x1:Int) (z1:Sl Int)=>ite (Va 8 (z1.n+(Sl.of [x1]:Sl Int).n)) (b (z1.push x1)) none) (λ(z1:Sl Int)=>some z1) Tj
theorem EU {b:List (Int)}{a:Int}{kp_seq:Nat}(fp_seq:∃fn,Ci1[kp_seq]? = some fn/\fn.body.isSome=true/\(fn.name == "runtime.NumGoroutine")=false)(c:Gf S kp_seq [] [.reg 0 0] [(.cells [(.p (pI .u64 a))])] (b.map (λ(x:Int)=>[(pI .i64) x]))){y:(Sl Int)}(h:K0 N b=some y) :Yo S S0 [(.p I4),(.clo kp_seq [] [(.reg 0 0)])] [(.cells [(.p (pI .u64 a))])] (.vec 0) ([(oV C9 1 (cI .i64) y true)]) [false]:=by
 unfold K0 at h;refine A1 Z func212 ?_;refine Rj Z Ly fp_seq [0] [2] 901 (λz1=>⟨[(2,(.reg 3000 0))],[(3500,(oV C9 1 (cI .i64) z1 false)),(3000,(.cells [(.vec 3500)]))]⟩) h c (λ_=>by kernel_rfl) (λ_=>by kernel_rfl) (λ_=>by kernel_rfl) (λ_=>by kernel_rfl) (λx1 d z1 f h=>?_) (λz1 h=>?_)
 .refine Ny Z Ly ?_;obtain⟨c1,h⟩:=C0 h;exact f (Vb Sr c1) h (hle:=kl1 0 (P0 (cI .i64) z1 x1 [(pI .i64 0)]))
 obtain rfl:=A6 h;exact kO Z Ly [3500]
def Q4 (N:Nat)(a:List (Int)):Option (Sl Int):= (K0 N a).bind λy1=>some y1
theorem Ko {b:List (Int)}{a:Int}{kp_seq:Nat}(fp_seq:∃fn,Ci1[kp_seq]? = some fn/\fn.body.isSome=true/\(fn.name == "runtime.NumGoroutine")=false)(c:Gf S kp_seq [] [.reg 0 0] [(.cells [(.p (pI .u64 a))])] (b.map (λ(x:Int)=>[(pI .i64) x]))){y:(Sl Int)}(h:Q4 N b=some y) :Yo S BP [(.clo kp_seq [] [(.reg 0 0)])] [(.cells [(.p (pI .u64 a))])] (.vec 0) ([(oV C9 1 (cI .i64) y true)]) [false]:=by unfold Q4 at h;refine A1 Z func164 ?_;obtain⟨y1,e1,h⟩:=E7 h;refine E2 Z [0] Ly (EU Z Y fp_seq c e1) ?_;obtain rfl:=A6 h;exact kO Z Ly [5000]
def Gt (N:Nat)(c:Pat)(b:Sl Tr)(a:Int):Option ((Sl Int)×Int):= (BA N c b).bind λy1=>lt (λ(z1:Int)=>ite (z1 != 0) (some (Tj,z1)) (ite (((0:Int)<=a/\a<33)/\(0+a.toNat*1)<33) ((Cm N (y1.1 (0+a.toNat*1))).bind λy4=>(V8 N y4).bind λL1=>(Q4 N L1).bind λy5=>some (y5,0)) none)) λk1=>ite (y1.2==0) ((Bx N b a).bind λy3=>k1 y3) (k1 y1.2)
theorem Az0 {b:Pat}{c:Sl Tr}{a:Int}{y:(Sl Int)×Int}(h:Gt N b c a=some y) :Yo S Tk [.p (.agg (C5 b)),.p (vSl 2 A0 c),pN a] [] (.tup [.vec 0,pN y.2]) ([oV C9 1 (cI .i64) y.1 true]) []:=by
 unfold Gt at h;refine A1 Z func280 ?_;refine kC Z h (Oj Z Y) (λy1 h=>?_);refine GT Z (Vb rfl (H0 _ _):(0:Nat)=0/\(Fi 33 (λi=>pI .u64 (y1.1 i))).length=33) (A3 Z) h 0 (λz1=>kps [(9,pN z1)] [8,2] [(9000,.arr 33 (λi=>pI .u64 (y1.1 i)))] []) (λk1 d h=>?_) (λz1 h=>?_)
 .apply kI Z h<;>intro h
  .refine kC Z h (Oi Z Y) (λy3 h=>?_);exact d Ly h (hle:=kl1 2 (PP 33 (λi=>pI .u64 (y1.1 i))))
  exact d Ly h (hle:=kl1 2 (PP 33 (λi=>pI .u64 (y1.1 i))))
 apply kI Z h<;>intro h
 .obtain rfl:=A6 h;exact kO Z Ly [7700]
 obtain⟨c5,h⟩:=C0 h;refine kD Z h c5 (Hu Z Y) (λy4 h=>?_);obtain⟨L1,e5,h⟩:=E7 h;obtain⟨y5,e6,h⟩:=E7 h;refine E2 Z [28000] Ly (Ko Z Y ⟨_,func293,by decide +kernel,by decide +kernel⟩ (Fp Z Y e5) e6) ?_;obtain rfl:=A6 h;exact kO Z Ly [29000]
def Ek (N:Nat)(a:Str):Option Bool:= lt (λ(z1:Bool)=>some z1) λk1=>ite ((a==[]) != true) (ite (decide ((a.length:Int)<=24)) ((Ax N a [97,98,99,100,101,102,103,104,105,106,107,108,109,110,111,112,113,114,115,116,117,118,119,120,121,122,65,66,67,68,69,70,71,72,73,74,75,76,77,78,79,80,81,82,83,84,85,86,87,88,89,90,48,49,50,51,52,53,54,55,56,57,45]).bind λy2=>k1 ((y2==[]) != false)) (k1 false)) (k1 false)
theorem Az1 {b:Str}{y:Bool}(h:Ek N b=some y) :Yo S SW [.p (.str b)] [] (pB y) ([]) []:=by
 unfold Ek at h;refine A1 Z func195 ?_;refine GT Z Ly (A3 Z) h 0 (λz1 _=>⟨[(2,pB z1)],[]⟩) (λk1 a h=>?_) (λz1 h=>?_)
 .refine kG Z h (λh=>?_) (λh=>?_)
  .refine kG Z h (λh=>?_) (λh=>?_)
   .refine kC Z h (Mk Z Y) (λy2 h=>?_);exact a Ly h
   exact a Ly h
  exact a Ly h
 cases h;exact kR Z
def Ay (N:Nat)(p_x:EM)(a:Int):Option Bool:= lt (λ(z1:Bool)=>ite z1 (some false) (ite ((((F3 .andNot .u32 (F3 .or .u32 p_x.Clear p_x.Take) 16777215) != 0)||((F3 .and .u32 p_x.Clear (F3 .or .u32 p_x.Set.Plus p_x.Set.Minus)) != 0))||((F3 .and .u32 p_x.Take (F3 .or .u32 (F3 .or .u32 p_x.Set.Plus p_x.Set.Minus) p_x.Clear)) != 0)) (some false) (ite (p_x.Take==0) (some (p_x.Of==0)) (some ((decide (0<=p_x.Of))&&(decide (p_x.Of<a))))))) λk1=>ite (decide (p_x.From<(-1))) (k1 true) (ite (decide (a<=p_x.From)) (k1 true) ((H1 N p_x.Set).bind λy2=>k1 (!y2)))
theorem AV2 {p_x:EM}{b:Int}{y:Bool}(h:Ay N p_x b=some y) :Yo S WE [.p (.agg (Dj p_x)),pN b] [] (pB y) ([]) []:=by
 unfold Ay at h;refine A1 Z func193 ?_;refine GT Z Ly (A3 Z) h 0 (λz1=>kps [(13,pB z1)] [5,2,1] [] [3000]) (λk1 c h=>?_) (λz1 h=>?_)
 .refine kG Z h (λh=>?_) (λh=>?_)
  .exact c Ly h
  refine kG Z h (λh=>?_) (λh=>?_)
  .exact c Ly h
  refine kC Z h (T3 Z Y) (λy2 h=>?_);exact c Ly h
 refine Af6 Z h fun h=>?_;refine kB Z (A3 Z) Ly Ly 16 (.o (.o (.a ((F3 .andNot .u32 (F3 .or .u32 p_x.Clear p_x.Take) 16777215) != 0)) (.a ((F3 .and .u32 p_x.Clear (F3 .or .u32 p_x.Set.Plus p_x.Set.Minus)) != 0))) (.a ((F3 .and .u32 p_x.Take (F3 .or .u32 (F3 .or .u32 p_x.Set.Plus p_x.Set.Minus) p_x.Clear)) != 0))) ?_;refine Af6 Z h fun h=>?_;refine Af6 Z h fun h=>?_;refine kB Z (A3 Z) Ly Ly 5 (.n (.a (decide (0<=p_x.Of))) (.a (decide (p_x.Of<b)))) ?_;cases h;exact kR Z
def BB (N:Nat)(p_x:EM)(q0:Int):Option Bool:= (Ay N p_x q0).bind λy1=>some (!y1)
theorem YZ {p_x:EM}{q0:Int}{y:Bool}(h:BB N p_x q0=some y) :Yo S NW [.p (.agg (Dj p_x)),.reg 0 0] [.cells [pN q0]] (pB y) ([.cells [pN q0]]) [true]:=by unfold BB at h;refine A1 Z func192 ?_;refine kC Z h (AV2 Z Y) (λy1 h=>?_);obtain rfl:=A6 h;exact kO Z Ly [0]
def BC (N:Nat)(a:Tr):Option Bool:= (H1 N a).bind λy1=>some (!y1)
theorem Za {a:Tr}{y:Bool}(h:BC N a=some y) :Yo S NX [.p (.agg (A0 a))] [] (pB y) ([]) []:=by unfold BC at h;refine A1 Z func194 ?_;refine kC Z h (T3 Z Y) (λy1 h=>?_);cases h;exact kR Z
def G4 (N:Nat)(a:Sl EM)(c:EM->Option Bool):Option Int:= N3 N (λb (x1:Int)=>ite (decide (x1<(a.n:Int))) (ite ((0:Int)<=x1/\x1<(a.n:Int)) ((c (a.g x1.toNat)).bind λy3=>ite y3 (some x1) (b (wrap .i64 (x1+1)))) none) (some (-1))) 0
theorem BW {c:Sl EM}{d:EM->Option Bool}{a:Int}{kp_f:Nat}(f:∀{a0:EM}{b:Bool},d a0=some b->Yo S kp_f [.p (.agg (Dj a0)),.reg 0 0] [.cells [pN a]] (pB b) [.cells [pN a]] [true]){y:Int}(h:G4 N c d=some y) :Yo S S7 [.p (vSl 6 Dj c),.clo kp_f [] [.reg 0 0]] [.cells [pN a]] (pN y) ([.cells [pN a]]) [true]:=by
 unfold G4 at h;refine A1 Z func229 ?_;refine D6 Z Ly h (λx1=>kps [(8,pN x1)] [7,1,0] [] [0]) (λg x1 i h=>?_);apply kI Z h<;>intro h
 .obtain⟨c8,h⟩:=C0 h;obtain⟨y3,e3,h⟩:=E7 h;refine E2 Z [0] (Vb c8 (by decide:(6:Nat)<=6)) (f e3) ?_;apply kI Z h<;>intro h
  .obtain rfl:=A6 h;exact kO Z Ly [0]
  exact i Ly h
 obtain rfl:=A6 h;exact kO Z Ly [0]
def D4 (N:Nat)(a:Sl EM)(b:EM->Option Bool):Option Bool:= (G4 N a b).bind λy1=>some (decide (0<=y1))
theorem AK {c:Sl EM}{d:EM->Option Bool}{a:Int}{kp_f:Nat}(f:∀{a0:EM}{b:Bool},d a0=some b->Yo S kp_f [.p (.agg (Dj a0)),.reg 0 0] [.cells [pN a]] (pB b) [.cells [pN a]] [true]){y:Bool}(h:D4 N c d=some y) :Yo S P6 [.p (vSl 6 Dj c),.clo kp_f [] [.reg 0 0]] [.cells [pN a]] (pB y) ([.cells [pN a]]) [true]:=by unfold D4 at h;refine A1 Z func198 ?_;obtain⟨y1,e1,h⟩:=E7 h;refine E2 Z [0] Ly (BW Z Y (λe=>f e) e1) ?_;obtain rfl:=A6 h;exact kO Z Ly [0]
def Ab (N:Nat)(a:Law):Option Int:= (Ek N a.Name).bind λy1=>ite (!y1) (some 17) ((AY N a.Left).bind λy2=>ite (y2 != 0) (some 17) ((AY N a.Right).bind λy3=>ite (y3 != 0) (some 17) (ite (decide (4<(a.If.n:Int))) (some 17) (ite (decide (6<(a.Out.n:Int))) (some 17) (ite ((wrap .i64 ((a.If.n:Int)+(a.Out.n:Int)))==0) (some 17) (ite ((decide (a.Mode<1))||(decide (3<a.Mode))) (some 17) ((C4 N a.If (λ(u1:Tr)=>BC N u1)).bind λy4=>ite y4 (some 17) ((D4 N a.Out (λ(u2:EM)=>BB N u2 (a.If.n:Int))).bind λy5=>ite y5 (some 17) (some 0)))))))))
theorem ML {c:Law}{y:Int}(h:Ab N c=some y) :Yo S SR [.p (.agg (B7 c))] [] (pN y) ([]) []:=by
 unfold Ab at h;refine A1 Z func140 ?_;refine kC Z h (Az1 Z Y) (λy1 h=>?_);refine O3 Z Ly (b:=!y1) (λc1=>?_) (λc1=>?_)
 .replace h:=itT c1 h;refine O3 Z Ly (b:=!y1) (λc2=>?_) (λc2=>?_)
  .cases h;exact kR Z
  exact Bool.noConfusion (c1.symm.trans c2)
 replace h:=itF c1 h;refine kC Z h (Kn Z Y) (λy2 h=>?_);refine O3 Z Ly (b:=y2 != 0) (λc3=>?_) (λc3=>?_)
 .replace h:=itT c3 h;refine O3 Z Ly (b:=y2 != 0) (λc4=>?_) (λc4=>?_)
  .cases h;exact kR Z
  exact Bool.noConfusion (c3.symm.trans c4)
 replace h:=itF c3 h;refine kC Z h (Kn Z Y) (λy3 h=>?_);refine O3 Z Ly (b:=y3 != 0) (λc5=>?_) (λc5=>?_)
 .replace h:=itT c5 h;refine O3 Z Ly (b:=y3 != 0) (λc6=>?_) (λc6=>?_)
  .cases h;exact kR Z
  exact Bool.noConfusion (c5.symm.trans c6)
 replace h:=itF c5 h;refine O3 Z Ly (b:=decide (4<(c.If.n:Int))) (λc7=>?_) (λc7=>?_)
 .replace h:=itT c7 h;refine O3 Z Ly (b:=decide (4<(c.If.n:Int))) (λc8=>?_) (λc8=>?_)
  .cases h;exact kR Z
  exact Bool.noConfusion (c7.symm.trans c8)
 replace h:=itF c7 h;refine O3 Z Ly (b:=decide (6<(c.Out.n:Int))) (λc9=>?_) (λc9=>?_)
 .replace h:=itT c9 h;refine O3 Z Ly (b:=decide (6<(c.Out.n:Int))) (λc10=>?_) (λc10=>?_)
  .cases h;exact kR Z
  exact Bool.noConfusion (c9.symm.trans c10)
 replace h:=itF c9 h;refine O3 Z Ly (b:=(wrap .i64 ((c.If.n:Int)+(c.Out.n:Int)))==0) (λc11=>?_) (λc11=>?_)
 .replace h:=itT c11 h;refine O3 Z Ly (b:=(wrap .i64 ((c.If.n:Int)+(c.Out.n:Int)))==0) (λc12=>?_) (λc12=>?_)
  .cases h;exact kR Z
  exact Bool.noConfusion (c11.symm.trans c12)
 replace h:=itF c11 h;refine kB Z (A3 Z) Ly Ly 4 (.o (.a (decide (c.Mode<1))) (.a (decide (3<c.Mode)))) ?_;refine O3 Z Ly (b:=(decide (c.Mode<1))||(decide (3<c.Mode))) (λc13=>?_) (λc13=>?_)
 .replace h:=itT c13 h;refine O3 Z Ly (b:=(decide (c.Mode<1))||(decide (3<c.Mode))) (λc14=>?_) (λc14=>?_)
  .cases h;exact kR Z
  exact Bool.noConfusion (c13.symm.trans c14)
 replace h:=itF c13 h;refine kC Z h (N5 Z Y (λe=>Za Z Y e)) (λy4 h=>?_);refine O3 Z Ly (b:=y4) (λc15=>?_) (λc15=>?_)
 .replace h:=itT c15 h;refine O3 Z Ly (b:=y4) (λc16=>?_) (λc16=>?_)
  .cases h;exact kR Z
  exact Bool.noConfusion (c15.symm.trans c16)
 replace h:=itF c15 h;obtain⟨y5,e5,h⟩:=E7 h;refine E2 Z [4000] Ly (AK Z Y (λe=>YZ Z Y e) e5) ?_;refine Af6 Z h fun h=>?_;cases h;exact kR Z
def IM (N:Nat)(a:Law)(b:Sl Tr):Option Int:= (Ab N a).bind λy1=>ite (y1 != 0) (some y1) ((W3 N b).bind λy2=>some y2)
theorem Az2 {a:Law}{b:Sl Tr}{y:Int}(h:IM N a b=some y) :Yo S Ti [.p (.agg (B7 a)),.p (vSl 2 A0 b)] [] (pN y) ([]) []:=by
 unfold IM at h;refine A1 Z func253 ?_;refine kC Z h (ML Z Y) (λy1 h=>?_);refine Af6 Z h fun h=>?_;refine kC Z h (Hd Z Y) (λy2 h=>?_);cases h;exact kR Z
def Az (N:Nat)(a:Int)(q0:Law)(q1:Sl Tr):Option Bool:= (DL N q0.Left q1 a).bind λy1=>ite ((y1.1.n:Int)==0) (some false) ((Gt N q0.Right q1 (wrap .i64 (a+(q0.If.n:Int)))).bind λy2=>some (decide (0<(y2.1.n:Int))))
theorem Vi {a:Int}{q0:Law}{q1:Sl Tr}{y:Bool}(h:Az N a q0 q1=some y) :Yo S Cj [pN a,.reg 0 0,.reg 1 0] [.cells ((B7 q0).map .p),.cells [.p (vSl 2 A0 q1)]] (pB y) ([.cells ((B7 q0).map .p),.cells [.p (vSl 2 A0 q1)]]) [true,true]:=by
 unfold Az at h;refine A1 Z func278 ?_;refine kC Z h (YY Z Y) (λy1 h=>?_);apply kI Z h<;>intro h
 .obtain rfl:=A6 h;exact kO Z Ly [0,1]
 refine kC Z h (Az0 Z Y) (λy2 h=>?_);obtain rfl:=A6 h;exact kO Z Ly [0,1]
def Kq (N:Nat)(a:Law)(b:Sl Tr):Option (Law×(Sl Tr)):= some (a,b)
theorem Ak0 {a:Law}{b:Sl Tr}{y:Law×(Sl Tr)}(h:Kq N a b=some y) :Yo S Qq [.p (.agg (B7 a)),.p (vSl 2 A0 b)] [] (.clo Cj [] [.reg 0 0,.reg 1 0]) ([.cells ((B7 y.1).map .p),.cells [.p (vSl 2 A0 y.2)]]) []:=by unfold Kq at h;refine A1 Z func270 ?_;obtain rfl:=A6 h;exact kO Z Ly [3000,4000]
def An (N:Nat)(a:Law)(b:Sl Tr):Option (Sl Tr):= V7 N (λc (x1:Sl Tr) (x2:Int)=>ite (decide (x2<(a.Out.n:Int))) (ite ((0:Int)<=x2/\x2<(a.Out.n:Int)) (ite ((decide (0<=(a.Out.g x2.toNat).From))=true->((0:Int)<=(a.Out.g x2.toNat).From/\(a.Out.g x2.toNat).From<(b.n:Int))) ((T6 N (⟨(ite (decide (0<=(a.Out.g x2.toNat).From)) ((b.g (a.Out.g x2.toNat).From.toNat).Plus) 0),(ite (decide (0<=(a.Out.g x2.toNat).From)) ((b.g (a.Out.g x2.toNat).From.toNat).Minus) 0)⟩:Tr) (a.Out.g x2.toNat).Clear (a.Out.g x2.toNat).Set).bind λy5=>ite ((a.Out.g x2.toNat).Take != 0) (ite ((0:Int)<=(a.Out.g x2.toNat).Of/\(a.Out.g x2.toNat).Of<(b.n:Int)) ((Z2 N y5.1 (b.g (a.Out.g x2.toNat).Of.toNat) (a.Out.g x2.toNat).Take).bind λy6=>ite (Va 8 (x1.n+(Sl.of [y6.1]:Sl Tr).n)) (c (x1.push y6.1) (wrap .i64 (x2+1))) none) none) (ite (Va 8 (x1.n+(Sl.of [y5.1]:Sl Tr).n)) (c (x1.push y5.1) (wrap .i64 (x2+1))) none)) none) none) (some x1)) (Sl.nil:Sl Tr) 0
theorem Ak1 {c:Law}{a:Sl Tr}{y:Sl Tr}(h:An N c a=some y) :Yo S Ai4 [.p (.agg (B7 c)),.p (vSl 2 A0 a)] [] (.p (vSl 2 A0 y)) ([]) []:=by
 unfold An at h;refine A1 Z func261 ?_;refine C6 Z Ly 4 3000 (B7 c) ?_;refine F5 Z Ly h (λx1 x2 _=>⟨[(12,pN x2),(11,pN (c.Out.n:Int)),(10,.p (vSl 6 Dj c.Out)),(5,.vec 6500),(1,.p (vSl 2 A0 a))],[(6500,oV A9 2 A0 x1 false)]⟩) (λl x1 x2 i h=>?_);apply kI Z h<;>intro h
 .obtain⟨c16,h⟩:=C0 h;refine C6 Z (Vb c16 (by decide:(6:Nat)<=6)) 8 8000 (Dj (c.Out.g x2.toNat)) ?_;obtain⟨c18,h⟩:=C0 h;obtain⟨t5,d⟩:∃x:Int,x=(ite (decide (0<=(c.Out.g x2.toNat).From)) ((a.g (c.Out.g x2.toNat).From.toNat).Plus) 0):=⟨_,rfl⟩;obtain⟨t6,f⟩:∃x:Int,x=(ite (decide (0<=(c.Out.g x2.toNat).From)) ((a.g (c.Out.g x2.toNat).From.toNat).Minus) 0):=⟨_,rfl⟩;refine Ad7 Z Ly (A3 Z) 0 (kps [] [12,11,10,8,7,5,1] [(9000,.cells [pU t5,pU t6]),(6500,oV A9 2 A0 x1 false)] []) (λj=>?_) ?_
  .refine O3 Z Ly (b:=decide (0<=(c.Out.g x2.toNat).From)) (λc19=>?_) (λc19=>?_)
   .exact j (Vb (c18 c19) Pb) (hle:=klR [(5,.eq (pI .u32 (a.g (c.Out.g x2.toNat).From.toNat).Plus) (pI .u32 t5)),(6,.eq (pI .u32 (a.g (c.Out.g x2.toNat).From.toNat).Minus) (pI .u32 t6))] (al1 (by simp only[d,f,c19,Ys.ok,pm,Kk,Lw]) (al1 (by simp only[d,f,c19,Ys.ok,pm,Kk,Lw]) al0)))
   exact j Ly (hle:=klR [(5,.eq (pI .u32 0) (pI .u32 t5)),(6,.eq (pI .u32 0) (pI .u32 t6))] (al1 (by simp only[d,f,c19,Ys.ok,pm,Kk,Lw]) (al1 (by simp only[d,f,c19,Ys.ok,pm,Kk,Lw]) al0)))
  subst f;subst d;refine kD Z h (by decide:(2:Nat)<=4) (Vd Z Y) (λy5 h=>?_);apply kI Z h<;>intro h
  .refine B5 Z Ly [3,4,5,7,8] ?_;obtain⟨c21,h⟩:=C0 h;refine dP h (Vb c21 Pb) (Aj7 Z Y) (λy6 h=>?_);refine D1 Ly ?_;obtain⟨c22,h⟩:=C0 h;exact i (Vb Sr c22) h (hle:=kl1 4 (P0 A0 x1 y6.1 Ag7))
  obtain⟨c23,h⟩:=C0 h;exact i (Vb Sr c23) h (hle:=kl1 4 (P0 A0 x1 y5.1 Ag7))
 obtain rfl:=A6 h;exact kO Z Ly []
def B8 (N:Nat)(a:Sl (Sl Tr)):Option (Sl Tr):= V7 N (λb (x1:Int) (x2:Int)=>ite (decide (x2<(a.n:Int))) (ite ((0:Int)<=x2/\x2<(a.n:Int)) (ite (decide ((wrap .i64 (x1+((a.g x2.toNat).n:Int)))<0)) none (b (wrap .i64 (x1+((a.g x2.toNat).n:Int))) (wrap .i64 (x2+1)))) none) ((K8 N x1).bind λy1=>V7 N (λc (x3:Sl Tr) (x4:Int)=>ite (decide (x4<(a.n:Int))) (ite (((0:Int)<=x4/\x4<(a.n:Int))/\(Va 8 (x3.n+(a.g x4.toNat).n))) (c (x3.app (a.g x4.toNat)) (wrap .i64 (x4+1))) none) (some x3)) y1 0)) 0 0
theorem R7 {a:Sl (Sl Tr)}{y:Sl Tr}(h:B8 N a=some y) :Yo S Q9 [.p (vSl 1 (cL 2 A0) a)] [] (.vec 0) ([oV A9 2 A0 y true]) []:=by
 unfold B8 at h;refine A1 Z func260 ?_;refine F5 Z Ly h (λx1 x2=>kps [(11,pN x2),(3,pN x1)] [10,9,0] [] []) (λb x1 x2 c h=>?_);apply kI Z h<;>intro h
 .refine kJ Z h (λh=>?_) (λh=>?_)
  .cases h
  exact c Ly h
 refine kC Z h (Ck Z Y) (λy1 h=>?_);refine F5 Z Ly h (λx3 x4 _=>⟨[(27,pN x4),(26,pN (a.n:Int)),(25,.p (vSl 1 (cL 2 A0) a)),(6,.vec 7500)],[(7500,oV A9 2 A0 x3 false)]⟩) (λd x3 x4 f h=>?_);apply kI Z h<;>intro h
 .obtain⟨c13,h⟩:=C0 h;exact f c13 h (hle:=kl1 3 (appS A0 x3 (a.g x4.toNat)))
 obtain rfl:=A6 h;exact kO Z Ly [7500]
def BD (N:Nat)(b:Law)(c:Sl Tr)(a:Int):Option (Sl Tr):= ite (((0:Int)<=a/\a<=(c.n:Int))/\((0:Int)<=a/\a<=(wrap .i64 (a+(b.If.n:Int)))/\(wrap .i64 (a+(b.If.n:Int)))<=(c.n:Int))) ((An N b (c.sub a.toNat (wrap .i64 (a+(b.If.n:Int))).toNat)).bind λy1=>ite ((0:Int)<=(wrap .i64 (a+(b.If.n:Int)))/\(wrap .i64 (a+(b.If.n:Int)))<=(c.n:Int)) ((B8 N (Sl.of [c.take a.toNat,y1,c.drop (wrap .i64 (a+(b.If.n:Int))).toNat]:Sl (Sl Tr))).bind λy2=>some y2) none) none
theorem Ok {c:Law}{b:Sl Tr}{a:Int}{y:Sl Tr}(h:BD N c b a=some y) :Yo S Oa [.p (.agg (B7 c)),.p (vSl 2 A0 b),pN a] [] (.vec 0) ([oV A9 2 A0 y true]) []:=by unfold BD at h;refine A1 Z func263 ?_;refine C6 Z Ly 6 4000 (B7 c) ?_;refine B5 Z Ly [3,8] ?_;obtain⟨c1,h⟩:=C0 h;refine dP h (Vb (Vb c1.1 Sq) c1.2) (Ak1 Z Y) (λy1 h=>?_);obtain⟨c2,h⟩:=C0 h;refine O6 c2 (x:=.sl true 1 3 (G7 [I4] [(0,cL 2 A0 (b.take a.toNat)),(1,cL 2 A0 y1),(2,cL 2 A0 (b.drop (wrap .i64 (a+(c.If.n:Int))).toNat))])) ?_;obtain⟨y2,e2,h⟩:=E7 h;refine Ha [] Ly (Yo.le Z (args:=[.p (.sl true 1 3 (G7 [I4] [(0,cL 2 A0 (b.take a.toNat)),(1,cL 2 A0 y1),(2,cL 2 A0 (b.drop (wrap .i64 (a+(c.If.n:Int))).toNat))]))]) (by exact⟨Ni rfl (λi d=>match i,d with|0,_=>rfl|1,_=>rfl|2,_=>rfl|_+3,d=>Kf d (by omega)),trivial⟩) (R7 Z Y e2)) ?_;refine D1 Ly ?_;obtain rfl:=A6 h;exact kO Z Ly [27000]
def AZ (N:Nat)(q0:Law)(q1:Sl Tr)(q2:Int):Option (List (Int)):= (Kq N q0 q1).bind λy1=>N3 N (λa (x2:Int)=>ite (decide ((wrap .i64 (x2+(q0.If.n:Int)))<=(q1.n:Int))) (N3 N (λb (x4:Int)=>ite (decide (x4<(q0.If.n:Int))) (ite ((0:Int)<=x4/\x4<(q0.If.n:Int)) (ite ((0:Int)<=(wrap .i64 (x2+x4))/\(wrap .i64 (x2+x4))<(q1.n:Int)) ((P1 N (q1.g (wrap .i64 (x2+x4)).toNat) (q0.If.g x4.toNat)).bind λc=>ite (!c) (a (wrap .i64 (x2+1))) (b (wrap .i64 (x4+1)))) none) none) ((Az N x2 y1.1 y1.2).bind λd=>ite d (BN x2 (a (wrap .i64 (x2+1)))) (a (wrap .i64 (x2+1))))) 0) (some [])) q2
theorem Qu {q0:Law}{q1:Sl Tr}{q2:Int}{L:List (Int)}(h:AZ N q0 q1 q2=some L) :Gf S Kh [] [.reg 0 0,.reg 1 0,.reg 2 0] [.cells ((B7 q0).map .p),.cells [.p (vSl 2 A0 q1)],.cells [pN q2]] (L.map (λ(x:Int)=>[pI .i64 x])):=by
 unfold AZ at h;refine FE Z func269 ?_;refine kC Z h (Ak0 Z Y) (λy1 h=>?_);refine Eg Z Ly h (λx2 L1=>⟨[(6,pN x2),(5,.clo Cj [] [.reg 12000 0,.reg 12001 0]),(2,.reg 1 0),(1,.reg 0 0),(0,.yf 3)],[(12001,.cells [.p (vSl 2 A0 y1.2)]),(12000,.cells ((B7 y1.1).map .p)),(3,.yld (L1.map (λ(x:Int)=>[pI .i64 x])) true),(2,.cells [pN q2]),(1,.cells [.p (vSl 2 A0 q1)]),(0,.cells ((B7 q0).map .p))]⟩) (λd x2 L1 b h=>?_);apply kI Z h<;>intro h
 .refine Eg Z Ly h (λx4 L8=>⟨[(26,pN x4),(25,pN (q0.If.n:Int)),(24,.p (vSl 2 A0 q0.If)),(6,pN x2),(5,.clo Cj [] [.reg 12000 0,.reg 12001 0]),(2,.reg 1 0),(1,.reg 0 0),(0,.yf 3)],[(12001,.cells [.p (vSl 2 A0 y1.2)]),(12000,.cells ((B7 y1.1).map .p)),(3,.yld (L8.map (λ(x:Int)=>[pI .i64 x])) true),(2,.cells [pN q2]),(1,.cells [.p (vSl 2 A0 q1)]),(0,.cells ((B7 q0).map .p))]⟩) (λf x4 L8 i h=>?_);apply kI Z h<;>intro h
  .obtain⟨c47,h⟩:=C0 h;refine Yd Z (Vb c47 Pb) 9000 [pI .u32 (q0.If.g x4.toNat).Plus,pI .u32 (q0.If.g x4.toNat).Minus] ?_;refine B5 Z Ly [4,5,6,7] ?_;obtain⟨c48,h⟩:=C0 h;refine dP h (Vb (Vb c48 Pb) Pb) (Pe Z Y) (λj h=>?_);refine D1 Ly ?_;apply kI Z h<;>intro h
   .exact b Ly h
   exact i Ly h
  obtain⟨l,e13,h⟩:=E7 h;refine E2 Z [12000,12001] Ly (Vi Z Y e13) ?_;refine kG Z h (λh=>?_) (λh=>?_)
  .obtain⟨L10,rfl,c⟩:=OX h;replace h:=c;refine Ef Z Ly (ys:=(λ(x:Int)=>[pI .i64 x]) x2) (rest:=L10.map (λ(x:Int)=>[pI .i64 x])) ?_ ?_
   .refine kF Z ?_;exact b Ly h
   refine kT Z ?_;exact kO Z Ly (a:=.tup []) (objs:=[(.cells ((B7 q0).map .p)),.cells [.p (vSl 2 A0 q1)],.cells [pN q2],.yld [] false]) [0,1,2,3] ⟨false,rfl,rfl,_,rfl⟩
  exact b Ly h
 obtain rfl:=A6 h;exact kO Z Ly (a:=.tup []) (objs:=[(.cells ((B7 q0).map .p)),.cells [.p (vSl 2 A0 q1)],.cells [pN q2],.yld [] true]) [0,1,2,3] ⟨true,rfl,rfl,_,rfl⟩
def Lg (N:Nat)(b:Law)(c:Sl Tr)(a:Int):Option (Law×(Sl Tr)×Int):= some (b,c,a)
theorem WU {b:Law}{c:Sl Tr}{a:Int}{y:Law×(Sl Tr)×Int}(h:Lg N b c a=some y) :Yo S WL [.p (.agg (B7 b)),.p (vSl 2 A0 c),pN a] [] (.clo Kh [] [.reg 0 0,.reg 1 0,.reg 2 0]) ([.cells ((B7 y.1).map .p),.cells [.p (vSl 2 A0 y.2.1)],.cells [pN y.2.2]]) []:=by unfold Lg at h;refine A1 Z func259 ?_;obtain rfl:=A6 h;exact kO Z Ly [4000,5000,6000]
def HR (N:Nat)(b:Law)(c:Sl Tr)(a:Int):Option Bool:= (Lg N b c a).bind λy1=>(AZ N y1.1 y1.2.1 y1.2.2).bind λL1=>T2 L1 (λd (x1:Int) (_:Unit)=>some (x1==a)) (λ(_:Unit)=>some false) ()
theorem Ak2 {b:Law}{c:Sl Tr}{a:Int}{y:Bool}(h:HR N b c a=some y) :Yo S Ai5 [.p (.agg (B7 b)),.p (vSl 2 A0 c),pN a] [] (pB y) ([]) []:=by
 unfold HR at h;refine A1 Z func262 ?_;refine kC Z h (WU Z Y) (λy1 h=>?_);obtain⟨L1,e2,h⟩:=E7 h;refine JO Z Ly [12000,12001,12002] [6,5] 901 (λ_=>⟨[(6,.reg 7000 0),(5,.reg 6000 0)],[(7000,.cells [.p (.v (.bool false))]),(6000,.cells [pN a])]⟩) h (Qu Z Y e2) (λ_=>by kernel_rfl) (λ_=>by kernel_rfl) (λ_=>by kernel_rfl) (λ_=>by kernel_rfl) (λx1 d _ f h=>?_) (λ_ h=>?_)
 .refine Ny Z Ly ?_;refine Yg Z Ly ⟨[(6,.reg 7000 0),(5,.reg 6000 0)],[(7000,.cells [pB (x1==a)]),(6000,.cells [pN a])]⟩ ?_;cases h;exact kR Z
 cases h;exact kR Z
abbrev Ak3:=List (Int×Sl Tr)
abbrev AllS:=Sl Tr×Int×Int
def Ch3 (N:Nat)(l:Law)(q2 q3:Int)(q0:Sl Tr)(a:AllS->Option Ak3)(x1:Int)(z1:AllS):Option Ak3:= ite (decide (x1<z1.2.1)) (a (z1.1,z1.2.1,z1.2.2)) (ite (((0:Int)<=(wrap .i64 (x1+z1.2.2))/\(wrap .i64 (x1+z1.2.2))<=(z1.1.n:Int))/\((0:Int)<=x1/\x1<=(wrap .i64 (x1+q2))/\(wrap .i64 (x1+q2))<=(q0.n:Int))) ((An N l (q0.sub x1.toNat (wrap .i64 (x1+q2)).toNat)).bind λy6=>ite ((0:Int)<=(wrap .i64 (x1+q2))/\(wrap .i64 (x1+q2))<=(q0.n:Int)) ((B8 N (Sl.of [z1.1.take (wrap .i64 (x1+z1.2.2)).toNat,y6,q0.drop (wrap .i64 (x1+q2)).toNat]:Sl (Sl Tr))).bind λy7=>BN (x1,y7) (a (y7,wrap .i64 (x1+(ite (q2<1) 1 q2)),wrap .i64 ((wrap .i64 (z1.2.2+q3))-q2)))) none) none)
def BW5 (N:Nat)(l:Law)(q2 q3:Int)(a:Sl Tr->Int->Option Ak3)(x5:Sl Tr)(x6:Int):Option Ak3:= ite (decide ((wrap .i64 (x6+q2))<=(x5.n:Int))) ((HR N l x5 x6).bind λc=>ite (!c) (a x5 (wrap .i64 (x6+1))) ((BD N l x5 x6).bind λb=>BN (x6,b) (ite (q2==0) (a b (wrap .i64 ((wrap .i64 (x6+q3))+1))) (a b (wrap .i64 (x6+q3)))))) (some [])
def Cc7 (N:Nat)(l:Law)(q2:Int)(a:Sl Tr->Int->Option Ak3)(x7:Sl Tr)(x8:Int):Option Ak3:= ite (decide (0<=x8)) ((HR N l x7 x8).bind λc=>ite (!c) (a x7 (wrap .i64 (x8-1))) ((BD N l x7 x8).bind λb=>BN (x8,b) (a b (wrap .i64 (x8-(ite (q2<1) 1 q2)))))) (some [])
def El (N:Nat)(q0:Sl Tr)(q1:Law)(q2:Int)(q3:Int):Option (List (Int×(Sl Tr))):= ite (q1.Mode==1) ((Lg N q1 q0 0).bind λy1=>(AZ N y1.1 y1.2.1 y1.2.2).bind λL1=>T2 L1 (Ch3 N q1 q2 q3 q0) (λ(z1:(Sl Tr)×Int×Int)=>some []) (q0,0,0)) (ite (q1.Mode==2) (V7 N (BW5 N q1 q2 q3) q0 0) (ite (q1.Mode==3) (V7 N (Cc7 N q1 q2) q0 (wrap .i64 ((q0.n:Int)-q2))) (some [])))
theorem Az3 {q0:Sl Tr}{q1:Law}{q2:Int}{q3:Int}{L:List (Int×(Sl Tr))}(h:El N q0 q1 q2 q3=some L) :Gf S MK [] [.reg 0 0,.reg 1 0,.reg 2 0,.reg 3 0] [.cells [.p (vSl 2 A0 q0)],.cells ((B7 q1).map .p),.cells [pN q2],.cells [pN q3]] (L.map (λ(x:Int×(Sl Tr))=>[pI .i64 x.1,vSl 2 A0 x.2])):=by
 unfold El at h;refine FE Z func258 ?_;apply kI Z h<;>intro h
 .refine kC Z h (WU Z Y) (λy1 h=>?_);obtain⟨L1,e2,h⟩:=E7 h;refine Bx9 Z Ly [20000,20001,20002] [8,7,6,5,4,3,2,1] 900 (λz1 L2=>⟨[(8,.reg 9000 0),(7,.reg 8000 0),(6,.reg 7000 0),(5,.reg 6000 0),(4,.reg 3 0),(3,.reg 2 0),(2,.reg 1 0),(1,.reg 0 0)],[(9000,.cells [pN z1.2.2]),(8000,.cells [pN z1.2.1]),(7000,.cells [.p (vSl 2 A0 z1.1)]),(6000,.cells [.yf 4]),(4,.yld (L2.map (λ(x:Int×(Sl Tr))=>[pI .i64 x.1,vSl 2 A0 x.2])) true),(3,.cells [pN q3]),(2,.cells [pN q2]),(1,.cells ((B7 q1).map .p)),(0,.cells [.p (vSl 2 A0 q0)])]⟩) h (Qu Z Y e2) (λ_=>by kernel_rfl) (λ_ _=>by kernel_rfl) (λ_ _=>by kernel_rfl) (λ_ _=>by kernel_rfl) (λx1 m z1 L2 d h=>?_) (λz1 L2 h=>?_)
  .refine Ny Z Ly ?_;apply kI Z h<;>intro h
   .exact d Ly h
   refine G6 Z Ly [(0,.l [7000]),(2,.l [9000]),(5,.l [1]),(6,.l [0]),(9,.l [2]),(12,.n),(13,.l [0]),(15,.l [2]),(20,.a [7000])] ?_;obtain⟨c13,h⟩:=C0 h;refine dP h c13 (Ak1 Z Y) (λy6 h=>?_);obtain⟨c14,h⟩:=C0 h;refine O6 c14 (x:=.sl true 1 3 (G7 [I4] [(0,cL 2 A0 (z1.1.take (wrap .i64 (x1+z1.2.2)).toNat)),(1,cL 2 A0 y6),(2,cL 2 A0 (q0.drop (wrap .i64 (x1+q2)).toNat))])) ?_;obtain⟨y7,e8,h⟩:=E7 h;refine Ha [] Ly (Yo.le Z (args:=[.p (.sl true 1 3 (G7 [I4] [(0,cL 2 A0 (z1.1.take (wrap .i64 (x1+z1.2.2)).toNat)),(1,cL 2 A0 y6),(2,cL 2 A0 (q0.drop (wrap .i64 (x1+q2)).toNat))]))]) (by exact⟨Ni rfl (λi o=>match i,o with|0,_=>rfl|1,_=>rfl|2,_=>rfl|_+3,o=>Kf o (by omega)),trivial⟩) (R7 Z Y e8)) ?_;refine D1 Ly ?_;obtain⟨L5,rfl,f⟩:=OX h;replace h:=f;refine Ef Z Ly (ys:=(λ(x:Int×(Sl Tr))=>[pI .i64 x.1,vSl 2 A0 x.2]) (x1,y7)) (rest:=L5.map (λ(x:Int×(Sl Tr))=>[pI .i64 x.1,vSl 2 A0 x.2])) ?_ ?_
   .refine kF Z ?_;refine G6 Z Ly [(1,.l [2]),(4,.l [9000]),(5,.l [3]),(7,.l [2]),(9,.a [8000]),(10,.a [9000])] ?_;refine D1 Ly ?_;exact d Ly h
   refine kT Z ?_;refine Yg Z Ly ⟨[(8,.reg 9000 0),(7,.reg 8000 0),(6,.reg 7000 0),(5,.reg 6000 0),(4,.reg 3 0),(3,.reg 2 0),(2,.reg 1 0),(1,.reg 0 0)],[(44000,oV A9 2 A0 y7 true),(9000,.cells [pN z1.2.2]),(8000,.cells [pN z1.2.1]),(7000,.cells [.vec 44000]),(6000,.cells [.yf 4]),(4,.yld [] false),(3,.cells [pN q3]),(2,.cells [pN q2]),(1,.cells ((B7 q1).map .p)),(0,.cells [.p (vSl 2 A0 q0)])]⟩ ?_;exact kO Z Ly (a:=.tup []) (objs:=[(.cells [.p (vSl 2 A0 q0)]),.cells ((B7 q1).map .p),.cells [pN q2],.cells [pN q3],.yld [] false]) [0,1,2,3,4] ⟨false,rfl,rfl,_,rfl⟩
  obtain rfl:=A6 h;exact kO Z Ly (a:=.tup []) (objs:=[(.cells [.p (vSl 2 A0 q0)]),.cells ((B7 q1).map .p),.cells [pN q2],.cells [pN q3],.yld [] true]) [0,1,2,3,4] ⟨true,rfl,rfl,_,rfl⟩
 apply kI Z h<;>intro h
 .refine Yc Z Ly h (λx5 x6 L6=>⟨[(10,pN x6),(6,.reg 7000 0),(5,.reg 6000 0),(4,.reg 3 0),(3,.reg 2 0),(2,.reg 1 0)],[(7000,.cells [.p (vSl 2 A0 x5)]),(6000,.cells [.yf 4]),(4,.yld (L6.map (λ(x:Int×(Sl Tr))=>[pI .i64 x.1,vSl 2 A0 x.2])) true),(3,.cells [pN q3]),(2,.cells [pN q2]),(1,.cells ((B7 q1).map .p)),(0,.cells [.p (vSl 2 A0 q0)])]⟩) (λq x5 x6 L6 b h=>?_);apply kI Z h<;>intro h
  .refine kC Z h (Ak2 Z Y) (λu h=>?_);apply kI Z h<;>intro h
   .exact b Ly h
   refine kC Z h (Ok Z Y) (λr h=>?_);obtain⟨L9,rfl,g⟩:=OX h;replace h:=g;refine Ef Z Ly (ys:=(λ(x:Int×(Sl Tr))=>[pI .i64 x.1,vSl 2 A0 x.2]) (x6,r)) (rest:=L9.map (λ(x:Int×(Sl Tr))=>[pI .i64 x.1,vSl 2 A0 x.2])) ?_ ?_
   .refine kF Z ?_;apply kI Z h<;>intro h
    .exact b Ly h
    exact b Ly h
   refine kT Z ?_;exact kO Z Ly (a:=.tup []) (objs:=[(.cells [.p (vSl 2 A0 q0)]),.cells ((B7 q1).map .p),.cells [pN q2],.cells [pN q3],.yld [] false]) [0,1,2,3,4] ⟨false,rfl,rfl,_,rfl⟩
  obtain rfl:=A6 h;exact kO Z Ly (a:=.tup []) (objs:=[(.cells [.p (vSl 2 A0 q0)]),.cells ((B7 q1).map .p),.cells [pN q2],.cells [pN q3],.yld [] true]) [0,1,2,3,4] ⟨true,rfl,rfl,_,rfl⟩
 apply kI Z h<;>intro h
 .refine Yc Z Ly h (λx7 x8 L10=>⟨[(11,pN x8),(6,.reg 7000 0),(5,.reg 6000 0),(3,.reg 2 0),(2,.reg 1 0)],[(7000,.cells [.p (vSl 2 A0 x7)]),(6000,.cells [.yf 4]),(4,.yld (L10.map (λ(x:Int×(Sl Tr))=>[pI .i64 x.1,vSl 2 A0 x.2])) true),(3,.cells [pN q3]),(2,.cells [pN q2]),(1,.cells ((B7 q1).map .p)),(0,.cells [.p (vSl 2 A0 q0)])]⟩) (λs x7 x8 L10 j h=>?_);apply kI Z h<;>intro h
  .refine kC Z h (Ak2 Z Y) (λv h=>?_);apply kI Z h<;>intro h
   .exact j Ly h
   refine kC Z h (Ok Z Y) (λt h=>?_);obtain⟨L13,rfl,c⟩:=OX h;replace h:=c;refine Ef Z Ly (ys:=(λ(x:Int×(Sl Tr))=>[pI .i64 x.1,vSl 2 A0 x.2]) (x8,t)) (rest:=L13.map (λ(x:Int×(Sl Tr))=>[pI .i64 x.1,vSl 2 A0 x.2])) ?_ ?_
   .refine kF Z ?_;exact j Ly h
   refine kT Z ?_;exact kO Z Ly (a:=.tup []) (objs:=[(.cells [.p (vSl 2 A0 q0)]),.cells ((B7 q1).map .p),.cells [pN q2],.cells [pN q3],.yld [] false]) [0,1,2,3,4] ⟨false,rfl,rfl,_,rfl⟩
  obtain rfl:=A6 h;exact kO Z Ly (a:=.tup []) (objs:=[(.cells [.p (vSl 2 A0 q0)]),.cells ((B7 q1).map .p),.cells [pN q2],.cells [pN q3],.yld [] true]) [0,1,2,3,4] ⟨true,rfl,rfl,_,rfl⟩
 obtain rfl:=A6 h;exact kO Z Ly (a:=.tup []) (objs:=[(.cells [.p (vSl 2 A0 q0)]),.cells ((B7 q1).map .p),.cells [pN q2],.cells [pN q3],.yld [] true]) [0,1,2,3,4] ⟨true,rfl,rfl,_,rfl⟩
def Ol (N:Nat)(a:Law)(b:Sl Tr):Option ((Sl Tr)×Law×Int×Int):= some (b,a,(a.If.n:Int),(a.Out.n:Int))
theorem Bj1 {b:Law}{c:Sl Tr}{y:(Sl Tr)×Law×Int×Int}(h:Ol N b c=some y) :Yo S Ai1 [.p (.agg (B7 b)),.p (vSl 2 A0 c)] [] (.clo MK [] [.reg 0 0,.reg 1 0,.reg 2 0,.reg 3 0]) ([.cells [.p (vSl 2 A0 y.1)],.cells ((B7 y.2.1).map .p),.cells [pN y.2.2.1],.cells [pN y.2.2.2]]) []:=by unfold Ol at h;refine A1 Z func254 ?_;refine G6 Z Ly [(1,.l [3000]),(2,.n),(4,.l [3000]),(5,.n),(6,.a [6000]),(7,.a [7000]),(8,.a [6000]),(9,.a [7000])] ?_;refine D1 Ly ?_;obtain rfl:=A6 h;exact kO Z Ly [4000,3000,6000,7000]
def Gu (N:Nat)(b:Law)(c:Sl Tr):Option ((Sl Int)×(Sl (Sl Tr))×Int):= (IM N b c).bind λy1=>ite (y1 != 0) (some (Tj,(Sl.nil:Sl (Sl Tr)),y1)) ((Ol N b c).bind λy2=>(El N y2.1 y2.2.1 y2.2.2.1 y2.2.2.2).bind λL1=>T2 L1 (λa (x1:Int×(Sl Tr)) (z1:(Sl Int)×(Sl (Sl Tr)))=>ite (decide (32<(x1.2.n:Int))) (some (Tj,(Sl.nil:Sl (Sl Tr)),11)) (ite (Va 8 (z1.1.n+(Sl.of [x1.1]:Sl Int).n)) (ite (Va 24 (z1.2.n+(Sl.of [x1.2]:Sl (Sl Tr)).n)) (a (z1.1.push x1.1,z1.2.push x1.2)) none) none)) (λ(z1:(Sl Int)×(Sl (Sl Tr)))=>some (z1.1,z1.2,0)) (Tj,(Sl.nil:Sl (Sl Tr))))
theorem Az4 {b:Law}{c:Sl Tr}{y:(Sl Int)×(Sl (Sl Tr))×Int}(h:Gu N b c=some y) :Yo S Tf [.p (.agg (B7 b)),.p (vSl 2 A0 c)] [] (.tup [.vec 0,.vec 1,pN y.2.2]) ([oV C9 1 (cI .i64) y.1 true,oV E9 1 (cL 2 A0) y.2.1 true]) []:=by
 unfold Gu at h;refine A1 Z func244 ?_;refine C6 Z Ly 4 3000 (B7 b) ?_;refine kD Z h Sq (Az2 Z Y) (λy1 h=>?_);apply kI Z h<;>intro h
 .obtain rfl:=A6 h;exact J8 Z Ly ⟨[(6,.reg 7000 0),(5,.reg 6000 0),(4,.reg 5000 0)],[(7000,.cells [pN y1]),(6701,.vec E9 1 (Sl.nil:Sl (Sl Tr)).n (λi=>cL 2 A0 ((Sl.nil:Sl (Sl Tr)).g i)) true),(6000,.cells [.vec 6701]),(5700,oV C9 1 (cI .i64) Tj true),(5000,.cells [.vec 5700])]⟩ [5700,6701] ⟨rfl,rfl,rfl⟩
 refine kD Z h Sq (Bj1 Z Y) (λy2 h=>?_);obtain⟨L1,e3,h⟩:=E7 h;refine JO Z Ly [21000,21001,21002,21003] [9,8,6,5,4] 901 (λz1=>⟨[(9,.reg 10000 0),(8,.reg 9000 0),(6,.reg 7000 0),(5,.reg 6000 0),(4,.reg 5000 0)],[(10500,oV E9 1 (cL 2 A0) z1.2 false),(10000,.cells [.vec 10500]),(9500,oV C9 1 (cI .i64) z1.1 false),(9000,.cells [.vec 9500]),(7000,.cells [pN 0]),(6000,.cells [.p I4]),(5000,.cells [.p I4])]⟩) h (Az3 Z Y e3) (λ_=>by kernel_rfl) (λ_=>by kernel_rfl) (λ_=>by kernel_rfl) (λ_=>by kernel_rfl) (λx1 d z1 f h=>?_) (λz1 h=>?_)
 .refine Ny Z Ly ?_;apply kI Z h<;>intro h
  .refine Yg Z Ly ⟨[(9,.reg 10000 0),(8,.reg 9000 0),(6,.reg 7000 0),(5,.reg 6000 0),(4,.reg 5000 0)],[(10500,oV E9 1 (cL 2 A0) z1.2 false),(10000,.cells [.vec 10500]),(9500,oV C9 1 (cI .i64) z1.1 false),(9000,.cells [.vec 9500]),(7000,.cells [pN 11]),(6000,.cells [.p I4]),(5000,.cells [.p I4])]⟩ ?_;obtain rfl:=A6 h;exact J8 Z Ly ⟨[(6,.reg 7000 0),(5,.reg 6000 0),(4,.reg 5000 0)],[(7000,.cells [pN 11]),(6701,.vec E9 1 (Sl.nil:Sl (Sl Tr)).n (λi=>cL 2 A0 ((Sl.nil:Sl (Sl Tr)).g i)) true),(6000,.cells [.vec 6701]),(5700,oV C9 1 (cI .i64) Tj true),(5000,.cells [.vec 5700])]⟩ [5700,6701] ⟨rfl,rfl,rfl⟩
  refine G6 Z Ly [(0,.l [9000]),(3,.a [30000,9500]),(4,.l [10000]),(7,.a [34000,10500]),(8,.a [9000]),(9,.a [10000])] ?_;refine O6 Ly (x:=.sl true 1 1 (G7 [pI .i64 0] [(0,cI .i64 x1.1)])) ?_;obtain⟨c9,h⟩:=C0 h;refine O6 c9 (x:=.sl true 1 1 (G7 [I4] [(0,cL 2 A0 x1.2)])) ?_;refine dE h (λh=>?_);exact f Ly h (hle:=kl2 0 1 (P0 (cL 2 A0) z1.2 x1.2 [I4]) (P0 (cI .i64) z1.1 x1.1 [pI .i64 0]))
 refine G6 Z Ly [(0,.l [9000]),(1,.l [10000]),(2,.a [5000]),(3,.a [6000]),(4,.a [7000])] ?_;refine D1 Ly ?_;obtain rfl:=A6 h;exact J8 Z Ly ⟨[(6,.reg 7000 0),(5,.reg 6000 0),(4,.reg 5000 0)],[(10500,oV E9 1 (cL 2 A0) z1.2 true),(9500,oV C9 1 (cI .i64) z1.1 true),(7000,.cells [pN 0]),(6000,.cells [.vec 10500]),(5000,.cells [.vec 9500])]⟩ [9500,10500] ⟨rfl,rfl,rfl⟩
def CS (N:Nat)(b:Law)(a:Sl Tr):Option ((Sl Tr)×Int):= (Gu N b a).bind λy1=>ite (y1.2.2 != 0) (some ((Sl.nil:Sl Tr),y1.2.2)) (ite (decide (0<(y1.2.1.n:Int))) (ite (((0:Int)<=(wrap .i64 ((y1.2.1.n:Int)-1))/\(wrap .i64 ((y1.2.1.n:Int)-1))<(y1.2.1.n:Int))/\(wrap .i64 ((y1.2.1.n:Int)-1)).toNat<y1.2.1.n) (some (y1.2.1.g (wrap .i64 ((y1.2.1.n:Int)-1)).toNat,0)) none) ((B3 N a).bind λy2=>some (y2,0)))
theorem Az5 {a:Law}{b:Sl Tr}{y:(Sl Tr)×Int}(h:CS N a b=some y) :Yo S Td [.p (.agg (B7 a)),.p (vSl 2 A0 b)] [] (.tup [.p (vSl 2 A0 y.1),pN y.2]) ([]) []:=by
 unfold CS at h;refine A1 Z func232 ?_;refine kC Z h (Az4 Z Y) (λy1 h=>?_);apply kI Z h<;>intro h
 .obtain rfl:=A6 h;exact kO Z Ly []
 apply kI Z h<;>intro h
 .obtain⟨c3,h⟩:=C0 h;obtain rfl:=A6 h;exact Bg1 Z c3 [] ⟨rfl,rfl,rfl⟩
 refine kC Z h (S9 Z Y) (λy2 h=>?_);obtain rfl:=A6 h;exact kO Z Ly []
def CC (N:Nat)(a:Law):Option Bool:= (Ab N a).bind λy1=>some (y1 != 0)
theorem QU {a:Law}{y:Bool}(h:CC N a=some y) :Yo S Jo [.p (.agg (B7 a))] [] (pB y) ([]) []:=by unfold CC at h;refine A1 Z func201 ?_;refine kC Z h (ML Z Y) (λy1 h=>?_);cases h;exact kR Z
def E6 (N:Nat)(a:Sl Law)(c:Law->Option Bool):Option Int:= N3 N (λb (x1:Int)=>ite (decide (x1<(a.n:Int))) (ite ((0:Int)<=x1/\x1<(a.n:Int)) ((c (a.g x1.toNat)).bind λy3=>ite y3 (some x1) (b (wrap .i64 (x1+1)))) none) (some (-1))) 0
theorem BX {a:Sl Law}{c:Law->Option Bool}{kp_f:Nat}(d:∀{a0:Law}{b:Bool},c a0=some b->Yo S kp_f [.p (.agg (B7 a0))] [] (pB b) [] []){y:Int}(h:E6 N a c=some y) :Yo S S8 [.p (vSl 18 B7 a),.clo kp_f [] []] [] (pN y) ([]) []:=by
 unfold E6 at h;refine A1 Z func230 ?_;refine D6 Z Ly h (λx1=>kps [(8,pN x1)] [7,1,0] [] []) (λf x1 g h=>?_);apply kI Z h<;>intro h
 .obtain⟨c8,h⟩:=C0 h;obtain⟨y3,e3,h⟩:=E7 h;refine E2 Z [] (Vb c8 Sq) (d e3) ?_;refine Af6 Z h fun h=>?_;exact g Ly h
 cases h;exact kR Z
def D5 (N:Nat)(a:Sl Law)(b:Law->Option Bool):Option Bool:= (E6 N a b).bind λy1=>some (decide (0<=y1))
theorem AL {a:Sl Law}{c:Law->Option Bool}{kp_f:Nat}(d:∀{a0:Law}{b:Bool},c a0=some b->Yo S kp_f [.p (.agg (B7 a0))] [] (pB b) [] []){y:Bool}(h:D5 N a c=some y) :Yo S P7 [.p (vSl 18 B7 a),.clo kp_f [] []] [] (pB y) ([]) []:=by unfold D5 at h;refine A1 Z func200 ?_;refine kC Z h (BX Z Y (λe=>d e)) (λy1 h=>?_);cases h;exact kR Z
def Cr (N:Nat)(a:Sl Law):Option Int:= ite (decide (64<(a.n:Int))) (some 12) ((D5 N a (λ(u1:Law)=>CC N u1)).bind λy1=>ite y1 (some 17) (some 0))
theorem Vj {a:Sl Law}{y:Int}(h:Cr N a=some y) :Yo S LZ [.p (vSl 18 B7 a)] [] (pN y) ([]) []:=by
 unfold Cr at h;refine A1 Z func148 ?_;refine Af6 Z h fun h=>?_;refine kC Z h (AL Z Y (λe=>QU Z Y e)) (λy1 h=>?_);refine Af6 Z h fun h=>?_;cases h;exact kR Z
def AA (N:Nat)(b:Sl Law)(a:Sl (Sl Tr)):Option Int:= (Cr N b).bind λy1=>ite (y1 != 0) (some y1) (ite (decide (256<(a.n:Int))) (some 12) (N3 N (λc (x1:Int)=>ite (decide (x1<(a.n:Int))) (ite ((0:Int)<=x1/\x1<(a.n:Int)) ((W3 N (a.g x1.toNat)).bind λy4=>ite (y4 != 0) (some y4) (c (wrap .i64 (x1+1)))) none) (some 0)) 0))
theorem Vk {b:Sl Law}{a:Sl (Sl Tr)}{y:Int}(h:AA N b a=some y) :Yo S LU [.p (vSl 18 B7 b),.p (vSl 1 (cL 2 A0) a)] [] (pN y) ([]) []:=by
 unfold AA at h;refine A1 Z func100 ?_;refine kC Z h (Vj Z Y) (λy1 h=>?_);refine Af6 Z h fun h=>?_;refine Af6 Z h fun h=>?_;refine D6 Z Ly h (λx1=>kps [(19,pN x1)] [18,17] [] []) (λc x1 d h=>?_);apply kI Z h<;>intro h
 .obtain⟨c10,h⟩:=C0 h;refine kD Z h c10 (Hd Z Y) (λy4 h=>?_);refine Af6 Z h fun h=>?_;exact d Ly h
 cases h;exact kR Z
def BA5 (c:Int):Option PV:=ite (c=0) none (some (.iface 285 (pI .i64 c)))
def CD (N:Nat)(c:Int)(q0:Sl Tr)(q1:Sl Law):Option (List (Int×(Sl Tr))):= (B3 N q0).bind λy1=>BN (0,y1) (V7 N (λa (x1:Sl Tr) (x2:Int)=>ite (decide (x2<(q1.n:Int))) (ite ((0:Int)<=x2/\x2<(q1.n:Int)) ((CS N (q1.g x2.toNat) x1).bind λy4=>ite (y4.2 != 0) (ite (y4.2=c) (some []) none) (BN (wrap .i64 (x2+1),y4.1) (a y4.1 (wrap .i64 (x2+1))))) none) (ite (c=0) (some []) none)) y1 0)
theorem Jr {q0:Sl Tr}{q1:Sl Law}{c:Int}{L:List (Int×(Sl Tr))}(h:CD N c q0 q1=some L) :Sh S Al [] [.reg 0 0,.reg 1 0] [.cells [.p (vSl 2 A0 q0)],.cells [.p (vSl 18 B7 q1)]] (L.map (λ(x:Int×(Sl Tr))=>[pI .i64 x.1,vSl 2 A0 x.2])) (BA5 c):=by
 unfold CD at h;refine Bg6 Z func231 ?_;refine kC Z h (S9 Z Y) (λy1 h=>?_);obtain⟨L1,rfl,d⟩:=OX h;replace h:=d;refine Ef Z Ly (ys:=(λ(x:Int×(Sl Tr))=>[pI .i64 x.1,vSl 2 A0 x.2]) (0,y1)) (rest:=L1.map (λ(x:Int×(Sl Tr))=>[pI .i64 x.1,vSl 2 A0 x.2])) ?_ ?_
 .refine kF Z ?_;refine Yc Z Ly h (λx1 x2 L2=>⟨[(17,pN x2),(16,pN (q1.n:Int)),(15,.p (vSl 18 B7 q1)),(4,.p (vSl 2 A0 x1)),(0,.yf 2)],[(2,.yld (L2.map (λ(x:Int×(Sl Tr))=>[pI .i64 x.1,vSl 2 A0 x.2])) true),(1,.cells [.p (vSl 18 B7 q1)]),(0,.cells [.p (vSl 2 A0 q0)])]⟩) (λg x1 x2 L2 i h=>?_);apply kI Z h<;>intro h
  .obtain⟨c13,h⟩:=C0 h;refine kD Z h (Vb c13 Sq) (Az5 Z Y) (λy4 h=>?_);refine O3 Z Ly (b:=y4.2 != 0) (λc14=>?_) (λc14=>?_)
   .replace h:=itT c14 h;obtain⟨c0,h⟩:=C0 h;obtain rfl:=A6 h;have j:BA5 c=some (.iface 285 (pI .i64 y4.2)):=by
     have:¬y4.2=0:=by simpa using c14
     rw[<- c0];simp[BA5,this]
    refine BP3 Z Ly (x:=.iface 285 (pI .i64 y4.2)) ?_;exact BH9 Z Ly (x:=.iface 285 (pI .i64 y4.2)) (objs:=[(.cells [.p (vSl 2 A0 q0)]),.cells [.p (vSl 18 B7 q1)],.yld [] true]) [0,1,2] ⟨true,rfl,rfl,λ_=>by rw[j];rfl,λe=>nomatch e⟩
   replace h:=itF c14 h;obtain⟨L5,rfl,f⟩:=OX h;replace h:=f;refine Ef Z Ly (ys:=(λ(x:Int×(Sl Tr))=>[pI .i64 x.1,vSl 2 A0 x.2]) (wrap .i64 (x2+1),y4.1)) (rest:=L5.map (λ(x:Int×(Sl Tr))=>[pI .i64 x.1,vSl 2 A0 x.2])) ?_ ?_
   .refine kF Z ?_;exact i Ly h
   refine kT Z ?_;exact kO Z Ly (a:=.tup []) (objs:=[(.cells [.p (vSl 2 A0 q0)]),.cells [.p (vSl 18 B7 q1)],.yld [] false]) [0,1,2] ⟨false,rfl,rfl,λe=>(nomatch e),λ_=>⟨_,rfl⟩⟩
  obtain⟨c0,h⟩:=C0 h;obtain rfl:=A6 h;exact kO Z Ly (a:=.tup []) (objs:=[(.cells [.p (vSl 2 A0 q0)]),.cells [.p (vSl 18 B7 q1)],.yld [] true]) [0,1,2] ⟨true,rfl,rfl,λ_=>by subst c0;exact⟨_,rfl⟩,λe=>(nomatch e)⟩
 refine kT Z ?_;exact kO Z Ly (a:=.tup []) (objs:=[(.cells [.p (vSl 2 A0 q0)]),.cells [.p (vSl 18 B7 q1)],.yld [] false]) [0,1,2] ⟨false,rfl,rfl,λe=>(nomatch e),λ_=>⟨_,rfl⟩⟩
def ED (N:Nat)(a:Sl Law)(b:Sl Tr):Option ((Sl Tr)×(Sl Law)):= some (b,a)
theorem Ml {a:Sl Law}{b:Sl Tr}{y:(Sl Tr)×(Sl Law)}(h:ED N a b=some y) :Yo S Md [.p (vSl 18 B7 a),.p (vSl 2 A0 b)] [] (.clo Al [] [.reg 0 0,.reg 1 0]) ([.cells [.p (vSl 2 A0 y.1)],.cells [.p (vSl 18 B7 y.2)]]) []:=by unfold ED at h;refine A1 Z func202 ?_;obtain rfl:=A6 h;exact kO Z Ly [4000,3000]
def L7 (N:Nat)(c:Int)(a:Sl Law)(d:Sl Tr):Option (Sl Tr):= (ED N a d).bind λy1=>(CD N c y1.1 y1.2).bind λL1=>T2 L1 (λb (x1:Int×(Sl Tr)) (z1:Sl Tr)=>b x1.2) (λ(z1:Sl Tr)=>some z1) (Sl.nil:Sl Tr)
theorem Pg {a:Sl Law}{b:Sl Tr}{y:Sl Tr}(h:L7 N 0 a b=some y) :Yo S L0 [.p (vSl 18 B7 a),.p (vSl 2 A0 b)] [] (.p (vSl 2 A0 y)) ([]) []:=by
 unfold L7 at h;refine A1 Z func151 ?_;refine kC Z h (Ml Z Y) (λy1 h=>?_);obtain⟨L1,e2,h⟩:=E7 h;have f:Sh S Al [] [.reg 0 0,.reg 1 0] [.cells [.p (vSl 2 A0 y1.1)],.cells [.p (vSl 18 B7 y1.2)]] (L1.map (λ(x:Int×(Sl Tr))=>[pI .i64 x.1,vSl 2 A0 x.2])) none:=Jr Z Y e2;refine AJ3 Z Ly [8000,8001] [4] 901 (λz1=>⟨[(4,.reg 5000 0)],[(5000,.cells [.p (vSl 2 A0 z1)])]⟩) h f (λ_=>by kernel_rfl) (λ_=>by kernel_rfl) (λ_=>by kernel_rfl) (λ_=>by kernel_rfl) (λx1 c z1 d h=>?_) (λz1 h=>?_)
 .refine Ny Z Ly ?_;exact d Ly h
 cases h;exact kR Z
theorem Ph {c:Int}{a:Sl Law}{b:Sl Tr}{y:Sl Tr}(hc:c≠0)(h:L7 N c a b=some y) :S.F L0 [.p (vSl 18 B7 a),.p (vSl 2 A0 b)] [] λres o k=>res=.panic (.iface 285 (pI .i64 c))/\o=[]/\k=[]:=by
 unfold L7 at h;refine By9 Z func151 ?_;refine kC Z h (Ml Z Y) (λy1 h=>?_);obtain⟨L1,e2,h⟩:=E7 h;have g:Sh S Al [] [.reg 0 0,.reg 1 0] [.cells [.p (vSl 2 A0 y1.1)],.cells [.p (vSl 18 B7 y1.2)]] (L1.map (λ(x:Int×(Sl Tr))=>[pI .i64 x.1,vSl 2 A0 x.2])) (some (.iface 285 (pI .i64 c))):=by
  have:=Jr Z Y e2
  simpa[BA5,hc]using this
 refine AJ3 Z Ly [8000,8001] [4] 901 (λz1=>⟨[(4,.reg 5000 0)],[(5000,.cells [.p (vSl 2 A0 z1)])]⟩) h g (λ_=>by kernel_rfl) (λ_=>by kernel_rfl) (λ_=>by kernel_rfl) (λ_=>by kernel_rfl) (λx1 d z1 f h=>?_) (λz1 h=>?_)
 .refine Ny Z Ly ?_;exact f Ly h
 exact BH9 Z Ly (x:=.iface 285 (pI .i64 c)) (objs:=[]) [] ⟨rfl,rfl,rfl⟩
def CE (N:Nat)(a:Sl Law)(b:Sl Tr):Option ((Sl Tr)×Bool):=
 match L7 N 0 a b with
 |some y=>some (y,true)
 |none=>(L7 N 11 a b).bind λ_=>some ((Sl.nil:Sl Tr),false)
theorem QV {b:Sl Law}{c:Sl Tr}{y:(Sl Tr)×Bool}(h:CE N b c=some y) :Yo S Jk [.p (vSl 18 B7 b),.p (vSl 2 A0 c)] [] (.tup [.p (vSl 2 A0 y.1),pB y.2]) ([]) []:=by
 unfold CE at h;refine A1 Z func101 ?_;rcases e:L7 N 0 b c with _|z
 .rw[e]at h;obtain⟨z,e1,h⟩:=E7 h;obtain rfl:=A6 h;refine E2 Z [7000,3000,4000,5000] Ly (Y.attP (Ph Z Y (by decide) e1)) ?_;refine G6 Z Ly [(0,.l [5000]),(1,.l [7000]),(3,.a [5000])] ?_;refine D1 Ly ?_;exact J8 Z Ly ⟨[(5,pB false),(4,.reg 5000 0)],[(5000,.cells [.p (vSl 2 A0 Sl.nil)])]⟩ [] ⟨rfl,rfl,rfl⟩
 rw[e]at h;obtain rfl:=A6 h;refine E2 Z [7000,3000,4000,5000] Ly (Y.attR (Pg Z Y e)) ?_;refine G6 Z Ly [(0,.l [5000]),(1,.l [7000]),(3,.a [5000])] ?_;refine D1 Ly ?_;exact J8 Z Ly ⟨[(5,pB true),(4,.reg 5000 0)],[(5000,.cells [.p (vSl 2 A0 z)])]⟩ [] ⟨rfl,rfl,rfl⟩
def O0 (N:Nat)(a:Sl Law)(b:Sl Tr):Option ((Sl Tr)×Int):= (AA N a (Sl.of [b]:Sl (Sl Tr))).bind λy1=>ite (y1 != 0) (some ((Sl.nil:Sl Tr),y1)) ((CE N a b).bind λy2=>ite (!y2.2) (some ((Sl.nil:Sl Tr),11)) (some (y2.1,0)))
theorem Kr {N:Nat}{a:Sl Law}{b:Sl Tr}{y:(Sl Tr)×Int}(h:O0 N a b=some y) :Yo S JV [.p (vSl 18 B7 a),.p (vSl 2 A0 b)] [] (.tup [.p (vSl 2 A0 y.1),pN y.2]) ([]) []:=by
 unfold O0 at h;refine A1 Z Tryz.func61 ?_;refine Nw Z Sr (kps [] [11,9,1,0] [(12000,.vec E9 1 (Sl.of [b]:Sl (Sl Tr)).n (λi=>cL 2 A0 ((Sl.of [b]:Sl (Sl Tr)).g i)) false)] []) ?_ (hle:=kl1 3 (AR3 (cL 2 A0) ([b]:List (Sl Tr)) [I4]));refine kC Z h (Vk Z Y) (λy1 h=>?_);apply kI Z h<;>intro h
 .obtain rfl:=A6 h;exact kO Z Ly []
 refine kC Z h (QV Z Y) (λy2 h=>?_);apply kI Z h<;>intro h
 .obtain rfl:=A6 h;exact kO Z Ly []
 cases h;exact kR Z
def Ks (N:Nat)(a:Int):Option Bool:= some (((((decide (97<=a))&&(decide (a<=122)))||((decide (65<=a))&&(decide (a<=90))))||((decide (48<=a))&&(decide (a<=57))))||(a==45))
theorem Ak4 {b:Int}{y:Bool}(h:Ks N b=some y) :Yo S Qf [.p (pI .u8 b)] [] (pB y) ([]) []:=by unfold Ks at h;refine A1 Z func112 ?_;refine kB Z (A3 Z) Ly Ly 23 (.o (.o (.o (.n (.a (decide (97<=b))) (.a (decide (b<=122)))) (.n (.a (decide (65<=b))) (.a (decide (b<=90))))) (.n (.a (decide (48<=b))) (.a (decide (b<=57))))) (.a (b==45))) ?_;cases h;exact kR Z
def Em (N:Nat)(a:Str):Option Bool:= N3 N (λb (x1:Int)=>ite (decide (x1<(a.length:Int))) (ite ((0:Int)<=x1/\x1<(a.length:Int)) ((Ks N (E8 a x1)).bind λy3=>ite (!y3) (some false) (b (wrap .i64 (x1+1)))) none) (some ((decide (1<=(a.length:Int)))&&(decide ((a.length:Int)<=24))))) 0
theorem Pj {b:Str}{y:Bool}(h:Em N b=some y) :Yo S Wx [.p (.str b)] [] (pB y) ([]) []:=by
 unfold Em at h;refine A1 Z func71 ?_;refine D6 Z Ly h (λx1=>kps [(3,pN x1)] [0] [] []) (λc x1 d h=>?_);apply kI Z h<;>intro h
 .obtain⟨c8,h⟩:=C0 h;refine kD Z h c8 (Ak4 Z Y) (λy3 h=>?_);refine Af6 Z h fun h=>?_;exact d Ly h
 refine kB Z (A3 Z) Ly Ly 4 (.n (.a (decide (1<=(b.length:Int)))) (.a (decide ((b.length:Int)<=24)))) ?_;cases h;exact kR Z
def Ba (N:Nat)(a:Sl Node):Option Int:= ite ((decide ((a.n:Int)<1))=false->((decide (63<(a.n:Int)))=false->((0:Int)<=0/\0<(a.n:Int)))) (ite (((decide ((a.n:Int)<1))||(decide (63<(a.n:Int))))||((a.g 0).Yx != (-1))) (some 16) (N3 N (λb (x3:Int)=>ite (decide (x3<(a.n:Int))) (lt (λ(z3:Bool)=>ite z3 (some 16) (N3 N (λc (x7:Int)=>ite (decide (x7<x3)) (ite (((0:Int)<=x7/\x7<(a.n:Int))/\((0:Int)<=x3/\x3<(a.n:Int))) (ite (((a.g x7.toNat).Name==(a.g x3.toNat).Name) != false) (some 16) (c (wrap .i64 (x7+1)))) none) (b (wrap .i64 (x3+1)))) 0)) λk3=>ite (decide (0<x3)) (ite ((0:Int)<=x3/\x3<(a.n:Int)) (ite (decide ((a.g x3.toNat).Yx<0)) (k3 true) (ite ((0:Int)<=x3/\x3<(a.n:Int)) (ite (decide (x3<=(a.g x3.toNat).Yx)) (k3 true) (ite ((0:Int)<=x3/\x3<(a.n:Int)) ((Em N (a.g x3.toNat).Name).bind λd=>k3 (!d)) none)) none)) none) (ite ((0:Int)<=x3/\x3<(a.n:Int)) ((Em N (a.g x3.toNat).Name).bind λf=>k3 (!f)) none)) (some 0)) 0)) none
theorem MM {b:Sl Node}{y:Int}(h:Ba N b=some y) :Yo S Sv [.p (vSl 2 F1 b)] [] (pN y) ([]) []:=by
 unfold Ba at h;refine A1 Z func37 ?_;obtain⟨c1,h⟩:=C0 h;refine kB Z (A3 Z) Ly c1 11 (.o (.o (.a (decide ((b.n:Int)<1))) (.a (decide (63<(b.n:Int))))) (.a ((b.g 0).Yx != (-1)))) ?_;refine Af6 Z h fun h=>?_;refine D6 Z Ly h (λx3=>kps [(3,pN x3)] [0] [] []) (λd x3 f h=>?_);apply kI Z h<;>intro h
 .refine GT Z Ly (A3 Z) h 0 (λz3=>kps [(53,pB z3)] [3,0] [] []) (λk3 c h=>?_) (λz3 h=>?_)
  .refine kG Z h (λh=>?_) (λh=>?_)
   .obtain⟨c71,h⟩:=C0 h;refine kV Z c71 h (λh=>?_) (λh=>?_)
    .exact c Ly h
    obtain⟨c73,h⟩:=C0 h;refine kV Z c73 h (λh=>?_) (λh=>?_)
    .exact c Ly h
    obtain⟨c75,h⟩:=C0 h;refine kD Z h c75 (Pj Z Y) (λl h=>?_);exact c Ly h
   obtain⟨c76,h⟩:=C0 h;refine kD Z h c76 (Pj Z Y) (λm h=>?_);exact c Ly h
  refine Af6 Z h fun h=>?_;refine D6 Z Ly h (λx7=>kps [(4,pN x7)] [3,0] [] []) (λi x7 j h=>?_);apply kI Z h<;>intro h
  .refine B5 Z Ly [2,4,7,9] ?_;refine dE h (λh=>?_);refine Af6 Z h fun h=>?_;exact j Ly h
  exact f Ly h
 cases h;exact kR Z
def IN (N:Nat)(a:Int):Option Bool:= some (((((decide (97<=a))&&(decide (a<=122)))||((decide (65<=a))&&(decide (a<=90))))||((decide (48<=a))&&(decide (a<=57))))||(a==45))
theorem Zb {b:Int}{y:Bool}(h:IN N b=some y) :Yo S NV [.p (pI .u8 b)] [] (pB y) ([]) []:=by unfold IN at h;refine A1 Z func167 ?_;refine kB Z (A3 Z) Ly Ly 23 (.o (.o (.o (.n (.a (decide (97<=b))) (.a (decide (b<=122)))) (.n (.a (decide (65<=b))) (.a (decide (b<=90))))) (.n (.a (decide (48<=b))) (.a (decide (b<=57))))) (.a (b==45))) ?_;cases h;exact kR Z
def EV (N:Nat)(a:Str):Option Bool:= N3 N (λb (x1:Int)=>ite (decide (x1<(a.length:Int))) (ite ((0:Int)<=x1/\x1<(a.length:Int)) ((IN N (E8 a x1)).bind λy3=>ite (!y3) (some false) (b (wrap .i64 (x1+1)))) none) (some ((decide (0<(a.length:Int)))&&(decide ((a.length:Int)<=24))))) 0
theorem Ak5 {b:Str}{y:Bool}(h:EV N b=some y) :Yo S Qh [.p (.str b)] [] (pB y) ([]) []:=by
 unfold EV at h;refine A1 Z func121 ?_;refine D6 Z Ly h (λx1=>kps [(6,pN x1)] [5,0] [] []) (λc x1 d h=>?_);apply kI Z h<;>intro h
 .obtain⟨c8,h⟩:=C0 h;refine kD Z h c8 (Zb Z Y) (λy3 h=>?_);refine Af6 Z h fun h=>?_;exact d Ly h
 refine kB Z (A3 Z) Ly Ly 4 (.n (.a (decide (0<(b.length:Int)))) (.a (decide ((b.length:Int)<=24)))) ?_;cases h;exact kR Z
def W4 (N:Nat)(a:Sl Node):Option Int:= ite (((a.n:Int)==0)||(decide (63<(a.n:Int)))) (some 16) (V7 N (λb (x2:List (Str×Bool)) (x3:Int)=>ite (decide (x3<(a.n:Int))) (ite ((0:Int)<=x3/\x3<(a.n:Int)) (lt (λ(z3:Bool)=>ite z3 (some 16) (b (Fj eqS (a.g x3.toNat).Name true x2) (wrap .i64 (x3+1)))) λk3=>ite (decide (x3<=(a.g x3.toNat).Yx)) (k3 true) (ite (decide ((a.g x3.toNat).Yx<(ite (0<(wrap .i64 (x3-1))) 0 (wrap .i64 (x3-1))))) (k3 true) ((EV N (a.g x3.toNat).Name).bind λy6=>ite (!y6) (k3 true) (JA (K4 eqS (a.g x3.toNat).Name x2) (k3 false) λv6=>k3 v6)))) none) (some 0)) [] 0)
theorem Hg {b:Sl Node}{y:Int}(h:W4 N b=some y) :Yo S Qc [.p (vSl 2 F1 b)] [] (pN y) ([]) []:=by
 unfold W4 at h;refine A1 Z func81 ?_;refine kB Z (A3 Z) Ly Ly 4 (.o (.a ((b.n:Int)==0)) (.a (decide (63<(b.n:Int))))) ?_;refine Af6 Z h fun h=>?_;refine F5 Z Ly h (λx2 x3=>kps [(17,pN x3)] [16,15,3] [(15000,oM PV.str PV.bb x2)] []) (λd x2 x3 f h=>?_);apply kI Z h<;>intro h
 .obtain⟨c25,h⟩:=C0 h;refine GT Z (Vb c25 Pb) (A3 Z) h 0 (λz3=>kps [(45,pB z3)] [17,16,15,5,3] [] [15000,6000]) (λk3 c h=>?_) (λz3 h=>?_)
  .refine kG Z h (λh=>?_) (λh=>?_)
   .exact c Ly h
   refine kG Z h (λh=>?_) (λh=>?_)
   .exact c Ly h
   refine kC Z h (Ak5 Z Y) (λy6 h=>?_);refine kG Z h (λh=>?_) (λh=>?_)
   .exact c Ly h
   rcases o6:K4 eqS (b.g x3.toNat).Name x2 with _|v6
   .replace h:=Ap8 o6 h;refine Au0 Z Ly M9 BI1 PV.str PV.bb eqS o6 (.v (.bool false)) Ly ?_;exact c Ly h
   replace h:=Ad5 o6 h;refine At9 Z Ly M9 BI1 PV.str PV.bb eqS o6 Ly ?_;exact c Ly h
  refine Af6 Z h fun h=>?_;refine AR4 Z Ly M9 PV.str PV.bb eqS (b.g x3.toNat).Name true x2 Ly ?_;exact f Ly h
 cases h;exact kR Z
def Bb (N:Nat)(a:Yv):Option Int:= ite ((0:Int)<=(a.On.n:Int)/\(a.On.n:Int)<=(a.On.n:Int)/\(a.On.n:Int)*8<=140737488355328/\(a.On.n:Int)<=140737488355328) (Bf3 N (λc (x4:Sl Int) (x5:Bool) (x6:Int)=>ite (decide (x6<(a.On.n:Int))) (ite ((((0:Int)<=x6/\x6<(a.On.n:Int))/\((0:Int)<=x6/\x6<(x4.n:Int)))/\x6.toNat<x4.n) (ite ((0:Int)<=x6/\x6<(a.Tree.n:Int)) (lt (λ(z3:Sl Int)=>ite (((0:Int)<=x6/\x6<(z3.n:Int))/\x6.toNat<z3.n) (ite (decide (64<(z3.g x6.toNat))) (some 2) (V7 N (λd (f:Bool) (b:Int)=>ite (decide (b<((a.On.g x6.toNat).n:Int))) (ite ((0:Int)<=b/\b<((a.On.g x6.toNat).n:Int)) (d ((f||(decide (((a.On.g x6.toNat).g b.toNat)<0)))||(decide ((a.Laws.n:Int)<=((a.On.g x6.toNat).g b.toNat)))) (wrap .i64 (b+1))) none) (c z3 f (wrap .i64 (x6+1)))) x5 0)) none) λk3=>ite (decide (0<=(a.Tree.g x6.toNat).Yx)) (ite (((((((0:Int)<=x6/\x6<((x4.upd x6.toNat ((a.On.g x6.toNat).n:Int)).n:Int))/\x6.toNat<(x4.upd x6.toNat ((a.On.g x6.toNat).n:Int)).n)/\((0:Int)<=(a.Tree.g x6.toNat).Yx/\(a.Tree.g x6.toNat).Yx<((x4.upd x6.toNat ((a.On.g x6.toNat).n:Int)).n:Int)))/\(a.Tree.g x6.toNat).Yx.toNat<(x4.upd x6.toNat ((a.On.g x6.toNat).n:Int)).n)/\((0:Int)<=x6/\x6<((x4.upd x6.toNat ((a.On.g x6.toNat).n:Int)).n:Int)))/\x6.toNat<(x4.upd x6.toNat ((a.On.g x6.toNat).n:Int)).n) (k3 ((x4.upd x6.toNat ((a.On.g x6.toNat).n:Int)).upd x6.toNat (wrap .i64 (((x4.upd x6.toNat ((a.On.g x6.toNat).n:Int)).g x6.toNat)+((x4.upd x6.toNat ((a.On.g x6.toNat).n:Int)).g (a.Tree.g x6.toNat).Yx.toNat))))) none) (k3 (x4.upd x6.toNat ((a.On.g x6.toNat).n:Int)))) none) none) (ite x5 (some 3) (some 0))) (Sl.rep (a.On.n:Int).toNat 0:Sl Int) false 0) none
theorem Tz {b:Yv}{y:Int}(h:Bb N b=some y) :Yo S Kc [.p (.agg (B0 b))] [] (pN y) ([]) []:=by
 unfold Bb at h;refine A1 Z func141 ?_;refine C6 Z Ly 2 2000 (B0 b) ?_;obtain⟨c1,h⟩:=C0 h;refine Nx Z c1 h (λx4 x5 x6=>kps [(17,pN x6),(4,pB x5)] [16,15,3,1] [(14000,oV C9 1 (cI .i64) x4 false)] []) (λm x4 x5 x6 q h=>?_);apply kI Z h<;>intro h
 .obtain⟨c35,h⟩:=C0 h;refine I7 Z (Vb (Vb c35.1.1 c35.1.2) (Vb (rfl:(1:Nat)=1) (Vb c35.2 Pa))) 27 (kps [] [17,16,15,6,5,4,3,1] [(14000,.vec C9 1 (x4.upd x6.toNat ((b.On.g x6.toNat).n:Int)).n (λi=>cI .i64 ((x4.upd x6.toNat ((b.On.g x6.toNat).n:Int)).g i)) false)] []) ?_ (hle:=klR [(7,.fn x4.n (x4.upd x6.toNat ((b.On.g x6.toNat).n:Int)).n (λl=>ite (l=x6.toNat) (splice ((λi=>cI .i64 (x4.g i)) l) 0 [pI .i64 ((b.On.g x6.toNat).n:Int)]) ((λi=>cI .i64 (x4.g i)) l)) (λi=>cI .i64 ((x4.upd x6.toNat ((b.On.g x6.toNat).n:Int)).g i)))] (al1 ⟨rfl,At1 (c:=cI .i64) (v:=x4) (x:=((b.On.g x6.toNat).n:Int)) same (λ_=>by first|rfl|(dsimp only;split<;>rfl))⟩ al0));obtain⟨c36,h⟩:=C0 h;refine GT Z c36 (A3 Z) h 0 (λz3=>kps [] [17,16,15,6,5,4,3,1] [(14000,oV C9 1 (cI .i64) z3 false)] []) (λk3 j h=>?_) (λz3 h=>?_)
  .apply kI Z h<;>intro h
   .refine Gh Z Ly ?_;obtain⟨c41,h⟩:=C0 h;refine D1 (Vb (Vb (Vb (Vb (Vb c41.1.1.1.1.1 c41.1.1.1.1.2) c41.1.1.1.2) c41.1.1.2) c41.1.2) (Vb (rfl:(1:Nat)=1) (Vb c41.2 Pa))) ?_;exact j Ly h (hle:=klR [(7,.fn (x4.upd x6.toNat ((b.On.g x6.toNat).n:Int)).n ((x4.upd x6.toNat ((b.On.g x6.toNat).n:Int)).upd x6.toNat (wrap .i64 (((x4.upd x6.toNat ((b.On.g x6.toNat).n:Int)).g x6.toNat)+((x4.upd x6.toNat ((b.On.g x6.toNat).n:Int)).g (b.Tree.g x6.toNat).Yx.toNat)))).n (λl=>ite (l=x6.toNat) (splice ((λi=>cI .i64 ((x4.upd x6.toNat ((b.On.g x6.toNat).n:Int)).g i)) l) 0 [pI .i64 (wrap .i64 (((x4.upd x6.toNat ((b.On.g x6.toNat).n:Int)).g x6.toNat)+((x4.upd x6.toNat ((b.On.g x6.toNat).n:Int)).g (b.Tree.g x6.toNat).Yx.toNat)))]) ((λi=>cI .i64 ((x4.upd x6.toNat ((b.On.g x6.toNat).n:Int)).g i)) l)) (λi=>cI .i64 (((x4.upd x6.toNat ((b.On.g x6.toNat).n:Int)).upd x6.toNat (wrap .i64 (((x4.upd x6.toNat ((b.On.g x6.toNat).n:Int)).g x6.toNat)+((x4.upd x6.toNat ((b.On.g x6.toNat).n:Int)).g (b.Tree.g x6.toNat).Yx.toNat)))).g i)))] (al1 ⟨rfl,At1 (c:=cI .i64) (v:=x4.upd x6.toNat ((b.On.g x6.toNat).n:Int)) (x:=wrap .i64 (((x4.upd x6.toNat ((b.On.g x6.toNat).n:Int)).g x6.toNat)+((x4.upd x6.toNat ((b.On.g x6.toNat).n:Int)).g (b.Tree.g x6.toNat).Yx.toNat))) same (λ_=>by first|rfl|(dsimp only;split<;>rfl))⟩ al0))
   exact j Ly h
  refine kJ Z h (λh=>?_) (λh=>?_)
  .cases h;exact kR Z
  refine F5 Z Ly h (λf d=>kps [(52,pN d),(4,pB f)] [51,50,17,16,15,3,1] [] [14000]) (λr f d s h=>?_);apply kI Z h<;>intro h
  .obtain⟨c49,h⟩:=C0 h;refine kB Z (A3 Z) c49 Ly 10 (.o (.o (.a f) (.a (decide (((b.On.g x6.toNat).g d.toNat)<0)))) (.a (decide ((b.Laws.n:Int)<=((b.On.g x6.toNat).g d.toNat))))) ?_;exact s Ly h
  exact q Ly h
 refine Af6 Z h fun h=>?_;cases h;exact kR Z
def Q5 (N:Nat)(a:Yv):Option Int:= (W4 N a.Tree).bind λy1=>ite (y1 != 0) (some 16) (ite (decide (64<(a.Laws.n:Int))) (some 12) (V7 N (λb (x1:List (Str×Int)) (x2:Int)=>ite (decide (x2<(a.Laws.n:Int))) (ite ((0:Int)<=x2/\x2<(a.Laws.n:Int)) ((Ab N (a.Laws.g x2.toNat)).bind λy4=>ite (y4 != 0) (some 17) (JA (K4 eqS (a.Laws.g x2.toNat).Name x1) (b (Fj eqS (a.Laws.g x2.toNat).Name (wrap .i64 (0+1)) x1) (wrap .i64 (x2+1))) λv3=>b (Fj eqS (a.Laws.g x2.toNat).Name (wrap .i64 (v3+1)) x1) (wrap .i64 (x2+1)))) none) (ite (decide (((DX PV.str (pI .i64) x1).length:Int)<(a.Laws.n:Int))) (some 6) (ite ((a.On.n:Int) != (a.Tree.n:Int)) (some 2) ((Bb N a).bind λy5=>some y5)))) [] 0))
theorem Gv {a:Yv}{y:Int}(h:Q5 N a=some y) :Yo S JW [.p (.agg (B0 a))] [] (pN y) ([]) []:=by
 unfold Q5 at h;refine A1 Z func92 ?_;refine kC Z h (Hg Z Y) (λy1 h=>?_);refine Af6 Z h fun h=>?_;refine Af6 Z h fun h=>?_;refine F5 Z Ly h (λx1 x2=>kps [(18,pN x2)] [17,16,3,1] [(15000,oM PV.str (pI .i64) x1)] [2000]) (λc x1 x2 b h=>?_);apply kI Z h<;>intro h
 .obtain⟨c10,h⟩:=C0 h;refine kD Z h (Vb c10 Sq) (ML Z Y) (λy4 h=>?_);refine Af6 Z h fun h=>?_;rcases o3:K4 eqS (a.Laws.g x2.toNat).Name x1 with _|v3
  .replace h:=Ap8 o3 h;refine Au0 Z Ly M9 C9 PV.str (pI .i64) eqS o3 (pI .i64 0) Ly ?_;refine AR4 Z Ly M9 PV.str (pI .i64) eqS (a.Laws.g x2.toNat).Name (wrap .i64 (0+1)) x1 Ly ?_;exact b Ly h
  replace h:=Ad5 o3 h;refine At9 Z Ly M9 C9 PV.str (pI .i64) eqS o3 Ly ?_;refine AR4 Z Ly M9 PV.str (pI .i64) eqS (a.Laws.g x2.toNat).Name (wrap .i64 (v3+1)) x1 Ly ?_;exact b Ly h
 refine Af6 Z h fun h=>?_;refine Af6 Z h fun h=>?_;refine kC Z h (Tz Z Y) (λy5 h=>?_);cases h;exact kR Z
def Cs (N:Nat)(b:Yv)(a:Int):Option Bool:= some ((decide (0<=a))&&(decide (a<(b.Tree.n:Int))))
theorem Mm {c:Yv}{b:Int}{y:Bool}(h:Cs N c b=some y) :Yo S LT [.p (.agg (B0 c)),pN b] [] (pB y) ([]) []:=by unfold Cs at h;refine A1 Z func96 ?_;refine kB Z (A3 Z) Ly Ly 6 (.n (.a (decide (0<=b))) (.a (decide (b<(c.Tree.n:Int))))) ?_;cases h;exact kR Z
def Y6 (N:Nat)(q0:Int)(q1:Sl Node):Option (List (Int)):= V7 N (λa (x1:Int) (x2:Sl Int)=>ite (decide (0<=x1)) (ite ((Va 8 (x2.n+(Sl.of [x1]:Sl Int).n))/\((0:Int)<=x1/\x1<(q1.n:Int))) (a (q1.g x1.toNat).Yx (x2.push x1)) none) (N3 N (λb (x3:Int)=>ite (decide (0<=x3)) (ite (((0:Int)<=x3/\x3<(x2.n:Int))/\x3.toNat<x2.n) (BN (x2.g x3.toNat) (b (wrap .i64 (x3-1)))) none) (some [])) (wrap .i64 ((x2.n:Int)-1)))) q0 Tj
theorem TA {q0:Int}{q1:Sl Node}{L:List (Int)}(h:Y6 N q0 q1=some L) :Gf S Gm [] [.reg 0 0,.reg 1 0] [.cells [pN q0],.cells [.p (vSl 2 F1 q1)]] (L.map (λ(x:Int)=>[pI .i64 x])):=by
 unfold Y6 at h;refine FE Z func203 ?_;refine Yc Z Ly h (λx1 x2 L1=>⟨[(4,.vec 5500),(2,.reg 1 0),(1,.reg 0 0),(0,.yf 2)],[(5500,oV C9 1 (cI .i64) x2 false),(2,.yld (L1.map (λ(x:Int)=>[pI .i64 x])) true),(1,.cells [.p (vSl 2 F1 q1)]),(0,.cells [pN x1])]⟩) (λc x1 x2 L1 d h=>?_);apply kI Z h<;>intro h
 .obtain⟨c4,h⟩:=C0 h;exact d (Vb (Vb Sr c4.1) c4.2) h (hle:=kl1 0 (P0 (cI .i64) x2 x1 [pI .i64 0]))
 refine Eg Z Ly h (λx3 L2=>⟨[(5,pN x3),(4,.vec 5500),(0,.yf 2)],[(5500,oV C9 1 (cI .i64) x2 false),(2,.yld (L2.map (λ(x:Int)=>[pI .i64 x])) true),(1,.cells [.p (vSl 2 F1 q1)]),(0,.cells [pN x1])]⟩) (λf x3 L2 i h=>?_);apply kI Z h<;>intro h
 .obtain⟨c14,h⟩:=C0 h;obtain⟨L5,rfl,b⟩:=OX h;replace h:=b;refine Ef Z c14 (ys:=(λ(x:Int)=>[pI .i64 x]) (x2.g x3.toNat)) (rest:=L5.map (λ(x:Int)=>[pI .i64 x])) ?_ ?_
  .refine kF Z ?_;exact i Ly h
  refine kT Z ?_;exact kO Z Ly (a:=.tup []) (objs:=[(.cells [pN x1]),.cells [.p (vSl 2 F1 q1)],.yld [] false]) [0,1,2] ⟨false,rfl,rfl,_,rfl⟩
 obtain rfl:=A6 h;exact kO Z Ly (a:=.tup []) (objs:=[(.cells [pN x1]),.cells [.p (vSl 2 F1 q1)],.yld [] true]) [0,1,2] ⟨true,rfl,rfl,_,rfl⟩
def FG (N:Nat)(a:Sl Node)(b:Int):Option (Int×(Sl Node)):= some (b,a)
theorem Zc {a:Sl Node}{b:Int}{y:Int×(Sl Node)}(h:FG N a b=some y) :Yo S NT [.p (vSl 2 F1 a),pN b] [] (.clo Gm [] [.reg 0 0,.reg 1 0]) ([.cells [pN y.1],.cells [.p (vSl 2 F1 y.2)]]) []:=by unfold FG at h;refine A1 Z func152 ?_;obtain rfl:=A6 h;exact kO Z Ly [4000,3000]
def Ct (N:Nat)(a:Yv)(c:Int):Option ((Sl Int)×Int):= (Q5 N a).bind λy1=>ite (y1 != 0) (some (Tj,y1)) ((Cs N a c).bind λy2=>ite (!y2) (some (Tj,3)) ((FG N a.Tree c).bind λy3=>(Y6 N y3.1 y3.2).bind λL1=>T2 L1 (λb (x1:Int) (z1:Sl Int)=>ite (((0:Int)<=x1/\x1<(a.On.n:Int))/\(Va 8 (z1.n+(a.On.g x1.toNat).n))) (b (z1.app (a.On.g x1.toNat))) none) (λ(z1:Sl Int)=>some (z1,0)) Tj))
theorem Vl {a:Yv}{b:Int}{y:(Sl Int)×Int}(h:Ct N a b=some y) :Yo S LW [.p (.agg (B0 a)),pN b] [] (.tup [.vec 0,pN y.2]) ([oV C9 1 (cI .i64) y.1 true]) []:=by
 unfold Ct at h;refine A1 Z func103 ?_;refine C6 Z Ly 4 3000 (B0 a) ?_;refine kD Z h Pc (Gv Z Y) (λy1 h=>?_);apply kI Z h<;>intro h
 .obtain rfl:=A6 h;exact kO Z Ly [5700]
 refine kD Z h Pc (Mm Z Y) (λy2 h=>?_);apply kI Z h<;>intro h
 .obtain rfl:=A6 h;exact kO Z Ly [5700]
 refine kC Z h (Zc Z Y) (λy3 h=>?_);obtain⟨L1,e4,h⟩:=E7 h;refine JO Z Ly [22000,22001] [7,2] 901 (λz1=>⟨[(7,.reg 8000 0),(2,.p (.ptr (B0 a)))],[(8500,oV C9 1 (cI .i64) z1 false),(8000,.cells [.vec 8500])]⟩) h (TA Z Y e4) (λ_=>by kernel_rfl) (λ_=>by kernel_rfl) (λ_=>by kernel_rfl) (λ_=>by kernel_rfl) (λx1 c z1 d h=>?_) (λz1 h=>?_)
 .refine Ny Z Ly ?_;refine B5 Z Ly [2,4,5] ?_;refine dE h (λh=>?_);exact d Ly h (hle:=kl1 0 (appS (cI .i64) z1 (a.On.g x1.toNat)))
 obtain rfl:=A6 h;exact kO Z Ly [8500]
def U9 (rec:Pat->Option Pat)(N:Nat)(a:Pat):Option Pat:= N3 N (λb (x2:Int)=>ite (decide (x2<(a.L.n:Int))) (ite ((0:Int)<=x2/\x2<(a.L.n:Int)) ((rec (a.L.g x2.toNat)).bind λy3=>ite (Va 64 (x2.toNat+1)) (b (wrap .i64 (x2+1))) none) none) (ite (x2.toNat=a.L.n) (some a) none)) 0
def U0:Nat->Pat->Option Pat
 |0=>λ_=>none
 |N+1=>U9 (U0 N) N
omit Z Y in
theorem wrapN {x:Int}(h:0<=x)(a:x.toNat+1<=140737488355328):(wrap .i64 (x+1)).toNat=x.toNat+1:=by have h1:(x+1) % (2 ^ 64:Int)=x+1:=Int.emod_eq_of_lt (by omega) (by omega);unfold wrap;simp only[IntKind.bits,IntKind.signed,h1];rw[Kd (by simp;omega)];omega
theorem Om {rec:Pat->Option Pat}(b:∀{a:Pat}{y:Pat},rec a=some y->Yo S Bs [.p (.agg (C5 a))] [] (.p (.agg (C5 a))) ([]) []){a:Pat}{y:Pat}(h:U9 rec N a=some y) :Yo S Bs [.p (.agg (C5 a))] [] (.p (.agg (C5 a))) ([]) []:=by
 unfold U9 at h;refine A1 Z func145 ?_;refine I7 Z Ly 8 (kps [(7,.p (vSl 7 C5 a.L))] [3,2,1] [(3000,.cells [pN 0,pU 0,pU 0,.p (.v (.bool false)),pN 0,pN 0,.p I4]),(2000,.cells ((C5 a).map .p))] []) ?_ (hle:=klR [(0,.fn a.L.n a.L.n (CJ a) (λi=>C5 (a.L.g i)))] (al1 ⟨rfl,Q0 a⟩ al0));refine D6 Z Ly h (λx2=>kps [(9,pN x2),(8,pN (a.L.n:Int)),(7,.p (vSl 7 C5 a.L)),(3,.vec 4500),(2,.reg 3000 0),(1,.reg 2000 0)] [] [(4500,.vec HQ 7 x2.toNat (λi=>C5 (a.L.g i)) false)] [3000,2000]) (λc x2 d h=>?_);apply kI Z h<;>intro h
 .obtain⟨c6,h⟩:=C0 h;obtain⟨y3,e3,h⟩:=E7 h;refine E2 Z [] (Vb c6 S5) (b e3) ?_;obtain⟨c7,h⟩:=C0 h;exact d (Vb Sr c7) h (hle:=kl1 3 (L:=.fn (x2.toNat+1) (wrap .i64 (x2+1)).toNat (Du x2.toNat (λi=>C5 (a.L.g i)) (G7 Ag3 [(0,C5 (a.L.g x2.toNat))])) (λi=>C5 (a.L.g i))) ⟨(wrapN c6.1 c7.2).symm,λi f=>by
   unfold Du;split
   .rfl
   obtain rfl:i=x2.toNat:=by omega
   simp[G7]⟩)
 obtain⟨c8,h⟩:=C0 h;exact J8 Z Ly ⟨[(2,.reg 3000 0)],[(3000,.cells [pN a.Kind,pU a.Is.Plus,pU a.Is.Minus,pB a.Not,pN a.Min,pN a.Max,.p (.sl false 7 a.L.n (CJ a))])]⟩ [] ⟨rfl,rfl,rfl⟩ (hle:=kl1 6 (L:=.fn x2.toNat a.L.n (λi=>C5 (a.L.g i)) (CJ a)) ⟨c8,λi f=>(Q0 a i (by omega)).symm⟩)
theorem HS {a:Pat}{y:Pat}(h:U0 N a=some y) :Yo S Bs [.p (.agg (C5 a))] [] (.p (.agg (C5 a))) ([]) []:=by
 induction N generalizing a y with
 |zero=>cases (show (none:Option Pat)=some y from h)
 |succ N ih=>exact Om Z Y (λe=>ih e) h
def V9 (N:Nat)(a:Law):Option Law:= (U0 N a.Left).bind λ_=>(U0 N a.Right).bind λ_=>(B3 N a.If).bind λy3=>(I0 N a.Out).bind λy4=>some (⟨a.Name,a.Left,a.Right,y3,y4,a.Mode⟩:Law)
theorem Js {a:Law}{y:Law}(h:V9 N a=some y) :Yo S Jj [.p (.agg (B7 a))] [] (.p (.agg (B7 y))) ([]) []:=by unfold V9 at h;refine A1 Z func98 ?_;refine B5 Z Ly [2,5] ?_;refine dP h Ly (HS Z Y) (λy1 h=>?_);refine dP h Ly (HS Z Y) (λy2 h=>?_);refine D1 Ly ?_;refine B5 Z Ly [2,5] ?_;refine dP h Ly (Bw Z Y) (λy3 h=>?_);refine dP h Ly (Ds Z Y) (λy4 h=>?_);refine D1 Ly ?_;cases h;exact kR Z
def Cu (N:Nat)(c:Yv)(a:Sl Int):Option (Sl Law):= V7 N (λb (x1:Sl Law) (x2:Int)=>ite (decide (x2<(a.n:Int))) (ite (((0:Int)<=x2/\x2<(a.n:Int))/\((0:Int)<=(a.g x2.toNat)/\(a.g x2.toNat)<(c.Laws.n:Int))) ((V9 N (c.Laws.g (a.g x2.toNat).toNat)).bind λy3=>ite (Va 200 (x1.n+(Sl.of [y3]:Sl Law).n)) (b (x1.push y3) (wrap .i64 (x2+1))) none) none) (some x1)) (Sl.nil:Sl Law) 0
abbrev Ag2:List PV:=[.str [],pI .i64 0,pI .u32 0,pI .u32 0,.v (.bool false),pI .i64 0,pI .i64 0,I4,pI .i64 0,pI .u32 0,pI .u32 0,.v (.bool false),pI .i64 0,pI .i64 0,I4,I4,I4,pI .i64 0]
theorem Vm {b:Yv}{a:Sl Int}{y:Sl Law}(h:Cu N b a=some y) :Yo S LX [.p (.agg (B0 b)),.p (vSl 1 (cI .i64) a)] [] (.p (vSl 18 B7 y)) ([]) []:=by
 unfold Cu at h;refine A1 Z func104 ?_;refine F5 Z Ly h (λx1 x2=>kps [(10,pN x2),(9,pN (a.n:Int)),(8,.p (vSl 1 (cI .i64) a)),(5,.vec 6500),(2,.reg 3000 0)] [] [(6500,oV H7 18 B7 x1 false)] [3000]) (λc x1 x2 d h=>?_);apply kI Z h<;>intro h
 .obtain⟨c6,h⟩:=C0 h;refine kD Z h (Vb (Vb c6.1 c6.2) Sq) (Js Z Y) (λy3 h=>?_);obtain⟨c7,h⟩:=C0 h;exact d (Vb Sr c7) h (hle:=kl1 3 (P0 B7 x1 y3 Ag2))
 obtain rfl:=A6 h;exact kO Z Ly []
def Cv (N:Nat)(a:Yv)(b:Int):Option ((Sl Law)×Int):= (Ct N a b).bind λy1=>(Cu N a y1.1).bind λy2=>some (y2,y1.2)
theorem Vn {a:Yv}{b:Int}{y:(Sl Law)×Int}(h:Cv N a b=some y) :Yo S LO [.p (.agg (B0 a)),pN b] [] (.tup [.p (vSl 18 B7 y.1),pN y.2]) ([]) []:=by unfold Cv at h;refine A1 Z func63 ?_;refine kC Z h (Vl Z Y) (λy1 h=>?_);refine kC Z h (Vm Z Y) (λy2 h=>?_);cases h;exact kR Z
omit Z Y
abbrev DW {T:Type}(e:TypeId)(k:Nat)(c:T->List PV)(x:Sl T):Obj:=.vec e k x.n (λq=>c (x.g q)) false
def Cc8 {T:Type}{e:TypeId}{k n i:Nat}{c:T->List PV}{X:Sl (Sl T)}{z:Sl T}:∀q,q<n->(λq=>ite (q=i) (DW e k c z) (ite (q=i) Obj.dead (DW e k c (X.g q)))) q=(λq=>DW e k c ((X.upd i z).g q)) q:=by grind
include Z Y
def Bc (N:Nat)(a:Sl Node):Option (Sl (Sl Int)):= ite ((0:Int)<=(a.n:Int)/\(a.n:Int)<=(a.n:Int)/\(a.n:Int)*24<=140737488355328/\(a.n:Int)<=140737488355328) (V7 N (λb (x:Int) (X:Sl (Sl Int))=>ite (decide (x<(a.n:Int))) (ite ((0:Int)<=x/\x<(a.n:Int)) (ite ((a.g x.toNat).Yx.toNat<X.n) (lt (λ(z:Sl Int)=>b (wrap .i64 (x+1)) (X.upd (a.g x.toNat).Yx.toNat z)) λk=>ite (decide (0<x)) (ite (((0:Int)<=(a.g x.toNat).Yx/\(a.g x.toNat).Yx<(X.n:Int))/\(Va 8 ((X.g (a.g x.toNat).Yx.toNat).n+1))) (k ((X.g (a.g x.toNat).Yx.toNat).push x)) none) (k (X.g (a.g x.toNat).Yx.toNat))) none) none) (some X)) 0 ⟨a.n,λ_=>Sl.nil⟩) none
theorem TB {N:Nat}{b:Sl Node}{y:Sl (Sl Int)}(h:Bc N b=some y) :Yo S JZ [.p (vSl 2 F1 b)] [] (.p (vSl 1 (cL 1 (cI .i64)) y)) [] []:=by
 unfold Bc at h;refine A1 Z Tryz.func122 ?_;obtain⟨c1,h⟩:=C0 h;refine Di Z c1 9 (.fam 9000 9901 λi=>DW C9 1 (cI .i64) ((⟨b.n,λ_=>Sl.nil⟩:Sl (Sl Int)).g i)) (⟨by decide,λi _=>rfl⟩:1000<=9901/\∀i,i<b.n->RB [I4] (DW C9 1 (cI .i64) ((⟨b.n,λ_=>Sl.nil⟩:Sl (Sl Int)).g i))) ?_;refine F5 Z Ly h (λx X=>kps [(11,pN x)] [10,9,3] [(9901,.rows X.n λi=>DW C9 1 (cI .i64) (X.g i)),(9000,.fam EC X.n 9901 none)] []) (λf x X d h=>?_);apply kI Z h<;>intro h
 .obtain⟨c2,h⟩:=C0 h;obtain⟨c3,h⟩:=C0 h;refine Di Z (Vb c2 Pb) 17 (.take 9000 (b.g x.toNat).Yx.toNat 9801) (⟨⟨by decide,rfl⟩,c3⟩:(1000<=9801/\X.n=X.n)/\(b.g x.toNat).Yx.toNat<X.n) ?_;refine GT Z Ly (A3 Z) h 0 (λz=>kps [] [11,10,9,3] [(9801,DW C9 1 (cI .i64) z)] [9901,9000]) (λk c h=>?_) (λz h=>?_)
  .apply kI Z h<;>intro h
   .obtain⟨c4,h⟩:=C0 h;refine G6 Z Ly [(0,.n),(1,.n),(2,.l [6000]),(3,.n),(4,.n),(5,.l [6000]),(6,.l [9000]),(7,.l [9000]),(8,.n),(10,.a [29000,9801]),(11,.l [9000]),(12,.a [9000])] ?_;refine O6 (Vb c4.1 (Vb c3 (rfl:(b.g x.toNat).Yx.toNat=(b.g x.toNat).Yx.toNat))) (x:=.sl true 1 1 (G7 [pI .i64 0] [(0,cI .i64 x)])) ?_;refine D1 (Vb (Vb c4.2 c4.1) (Vb c3 (rfl:(b.g x.toNat).Yx.toNat=(b.g x.toNat).Yx.toNat))) ?_;exact c Ly h (hle:=kl1 5 (P0 (cI .i64) (X.g (b.g x.toNat).Yx.toNat) x [pI .i64 0]))
   exact c Ly h
  refine Di Z Ly 30 (.put 9000 9902) (⟨⟨by decide,rfl⟩,c3⟩:(1000<=9902/\X.n=X.n)/\(b.g x.toNat).Yx.toNat<X.n) ?_;exact d Ly h (hle:=klR [(4,.ob X.n (λq=>ite (q=(b.g x.toNat).Yx.toNat) (DW C9 1 (cI .i64) z) (ite (q=(b.g x.toNat).Yx.toNat) (.dead) (DW C9 1 (cI .i64) (X.g q)))) λi=>DW C9 1 (cI .i64) ((X.upd (b.g x.toNat).Yx.toNat z).g i))] (al1 Cc8 al0))
 refine Di Z Ly 31 (.pub 9000) (⟨rfl,λi _=>rfl⟩:X.n=X.n/\∀i,i<X.n->(Xy (DW C9 1 (cI .i64) (X.g i))).isSome=true) ?_;obtain rfl:=A6 h;exact kO Z Ly [] (hle:=klR [(0,.fn X.n X.n (λi=>[(Xy (DW C9 1 (cI .i64) (X.g i))).getD default]) (λi=>cL 1 (cI .i64) (X.g i)))] (al1 ⟨rfl,λ_ _=>rfl⟩ al0))
def DM (N:Nat)(b:Sl Node):Option (Sl Int):= (Bc N b).bind λy1=>V7 N (λa (x1:Sl Int) (x2:Int)=>ite (decide (x2<(y1.n:Int))) (ite ((0:Int)<=x2/\x2<(y1.n:Int)) (ite (((y1.g x2.toNat).n:Int)==0) (ite (Va 8 (x1.n+(Sl.of [x2]:Sl Int).n)) (a (x1.push x2) (wrap .i64 (x2+1))) none) (a x1 (wrap .i64 (x2+1)))) none) (some x1)) Tj 0
theorem Zd {a:Sl Node}{y:Sl Int}(h:DM N a=some y) :Yo S NN [.p (vSl 2 F1 a)] [] (.vec 0) ([oV C9 1 (cI .i64) y true]) []:=by
 unfold DM at h;refine A1 Z func82 ?_;refine kC Z h (TB Z Y) (λy1 h=>?_);refine F5 Z Ly h (λx1 x2 _=>⟨[(9,pN x2),(8,pN (y1.n:Int)),(7,.p (vSl 1 (cL 1 (cI .i64)) y1)),(3,.vec 4500)],[(4500,oV C9 1 (cI .i64) x1 false)]⟩) (λc x1 x2 b h=>?_);apply kI Z h<;>intro h
 .refine kJ Z h (λh=>?_) (λh=>?_)
  .obtain⟨c10,h⟩:=C0 h;exact b (Vb Sr c10) h (hle:=kl1 3 (P0 (cI .i64) x1 x2 [pI .i64 0]))
  exact b Ly h
 obtain rfl:=A6 h;exact kO Z Ly [4500]
def T4 (N:Nat)(a:Sl Node):Option ((Sl Int)×Int):= (W4 N a).bind λy1=>ite (y1 != 0) (some (Tj,y1)) ((DM N a).bind λy2=>some (y2,0))
theorem FH {a:Sl Node}{y:(Sl Int)×Int}(h:T4 N a=some y) :Yo S NK [.p (vSl 2 F1 a)] [] (.tup [.vec 0,pN y.2]) ([oV C9 1 (cI .i64) y.1 true]) []:=by
 unfold T4 at h;refine A1 Z func46 ?_;refine kC Z h (Hg Z Y) (λy1 h=>?_);apply kI Z h<;>intro h
 .obtain rfl:=A6 h;exact kO Z Ly [3700]
 refine kC Z h (Zd Z Y) (λy2 h=>?_);obtain rfl:=A6 h;exact kO Z Ly [12000]
def Cw (N:Nat)(b:Sl Node)(c:Int):Option (Sl Int):= V7 N (λa (x1:Sl Int) (x2:Int)=>ite (decide (x2<(b.n:Int))) (ite ((0:Int)<=x2/\x2<(b.n:Int)) (ite ((b.g x2.toNat).Yx==c) (ite (Va 8 (x1.n+(Sl.of [x2]:Sl Int).n)) (a (x1.push x2) (wrap .i64 (x2+1))) none) (a x1 (wrap .i64 (x2+1)))) none) (some x1)) Tj 0
theorem Vo {a:Sl Node}{b:Int}{y:Sl Int}(h:Cw N a b=some y) :Yo S Mc [.p (vSl 2 F1 a),pN b] [] (.vec 0) ([oV C9 1 (cI .i64) y true]) []:=by
 unfold Cw at h;refine A1 Z func158 ?_;refine F5 Z Ly h (λx1 x2 _=>⟨[(6,pN x2),(5,.vec 6500),(1,pN b),(0,.p (vSl 2 F1 a))],[(6500,oV C9 1 (cI .i64) x1 false)]⟩) (λd x1 x2 c h=>?_);apply kI Z h<;>intro h
 .refine kJ Z h (λh=>?_) (λh=>?_)
  .obtain⟨c10,h⟩:=C0 h;exact c (Vb Sr c10) h (hle:=kl1 3 (P0 (cI .i64) x1 x2 [pI .i64 0]))
  exact c Ly h
 obtain rfl:=A6 h;exact kO Z Ly [6500]
def Z4 (N:Nat)(b:Sl Node):Option ((Sl Int)×Int):= (Ba N b).bind λy1=>ite (y1 != 0) (some (Tj,y1)) (V7 N (λa (x1:Sl Int) (x2:Int)=>ite (decide (x2<(b.n:Int))) ((Cw N b x2).bind λy4=>ite ((y4.n:Int)==0) (ite (Va 8 (x1.n+(Sl.of [x2]:Sl Int).n)) (a (x1.push x2) (wrap .i64 (x2+1))) none) (a x1 (wrap .i64 (x2+1)))) (some (x1,0))) Tj 0)
theorem Kt {a:Sl Node}{y:(Sl Int)×Int}(h:Z4 N a=some y) :Yo S Qe [.p (vSl 2 F1 a)] [] (.tup [.vec 0,pN y.2]) ([oV C9 1 (cI .i64) y.1 true]) []:=by
 unfold Z4 at h;refine A1 Z func107 ?_;refine kC Z h (MM Z Y) (λy1 h=>?_);apply kI Z h<;>intro h
 .obtain rfl:=A6 h;exact kO Z Ly [3700]
 refine F5 Z Ly h (λx1 x2 _=>⟨[(6,pN x2),(5,.vec 6500),(0,.p (vSl 2 F1 a))],[(6500,oV C9 1 (cI .i64) x1 false)]⟩) (λc x1 x2 b h=>?_);apply kI Z h<;>intro h
 .refine kC Z h (Vo Z Y) (λy4 h=>?_);apply kI Z h<;>intro h
  .obtain⟨c8,h⟩:=C0 h;exact b (Vb Sr c8) h (hle:=kl1 2 (P0 (cI .i64) x1 x2 [pI .i64 0]))
  exact b Ly h
 obtain rfl:=A6 h;exact kO Z Ly [6500]
def EW (N:Nat)(c:Sl Node)(a:Sl Int):Option Int:= (W4 N c).bind λy1=>ite (y1 != 0) (some y1) (N3 N (λb (x1:Int)=>ite (decide (x1<(a.n:Int))) (ite ((0:Int)<=x1/\x1<(a.n:Int)) (ite ((decide ((a.g x1.toNat)<0))||(decide ((c.n:Int)<=(a.g x1.toNat)))) (some 3) (b (wrap .i64 (x1+1)))) none) (some 0)) 0)
theorem Ak6 {c:Sl Node}{b:Sl Int}{y:Int}(h:EW N c b=some y) :Yo S Qj [.p (vSl 2 F1 c),.p (vSl 1 (cI .i64) b)] [] (pN y) ([]) []:=by
 unfold EW at h;refine A1 Z func163 ?_;refine kC Z h (Hg Z Y) (λy1 h=>?_);refine Af6 Z h fun h=>?_;refine D6 Z Ly h (λx1=>kps [(15,pN x1)] [14,13,0] [] []) (λd x1 f h=>?_);apply kI Z h<;>intro h
 .obtain⟨c9,h⟩:=C0 h;refine kB Z (A3 Z) c9 Ly 5 (.o (.a (decide ((b.g x1.toNat)<0))) (.a (decide ((c.n:Int)<=(b.g x1.toNat))))) ?_;refine Af6 Z h fun h=>?_;exact f Ly h
 cases h;exact kR Z
def Gw (N:Nat)(q0:Int)(q1:Sl Node):Option (List (Int)):= N3 N (λa (x1:Int)=>ite (decide (0<=x1)) (BN x1 (ite ((0:Int)<=x1/\x1<(q1.n:Int)) (a (q1.g x1.toNat).Yx) none)) (some [])) q0
theorem Az6 {q0:Int}{q1:Sl Node}{L:List (Int)}(h:Gw N q0 q1=some L) :Gf S MJ [] [.reg 0 0,.reg 1 0] [.cells [pN q0],.cells [.p (vSl 2 F1 q1)]] (L.map (λ(x:Int)=>[pI .i64 x])):=by
 unfold Gw at h;refine FE Z func213 ?_;refine Eg Z Ly h (λx1 L1=>⟨[(2,.reg 1 0),(1,.reg 0 0),(0,.yf 2)],[(2,.yld (L1.map (λ(x:Int)=>[pI .i64 x])) true),(1,.cells [.p (vSl 2 F1 q1)]),(0,.cells [pN x1])]⟩) (λc x1 L1 d h=>?_);apply kI Z h<;>intro h
 .obtain⟨L4,rfl,b⟩:=OX h;replace h:=b;refine Ef Z Ly (ys:=(λ(x:Int)=>[pI .i64 x]) x1) (rest:=L4.map (λ(x:Int)=>[pI .i64 x])) ?_ ?_
  .refine kF Z ?_;obtain⟨c9,h⟩:=C0 h;exact d c9 h
  refine kT Z ?_;exact kO Z Ly (a:=.tup []) (objs:=[(.cells [pN x1]),.cells [.p (vSl 2 F1 q1)],.yld [] false]) [0,1,2] ⟨false,rfl,rfl,_,rfl⟩
 obtain rfl:=A6 h;exact kO Z Ly (a:=.tup []) (objs:=[(.cells [pN x1]),.cells [.p (vSl 2 F1 q1)],.yld [] true]) [0,1,2] ⟨true,rfl,rfl,_,rfl⟩
def Oo (N:Nat)(a:Sl Node)(b:Int):Option (Int×(Sl Node)):= some (b,a)
theorem Bj2 {a:Sl Node}{b:Int}{y:Int×(Sl Node)}(h:Oo N a b=some y) :Yo S Ah3 [.p (vSl 2 F1 a),pN b] [] (.clo MJ [] [.reg 0 0,.reg 1 0]) ([.cells [pN y.1],.cells [.p (vSl 2 F1 y.2)]]) []:=by unfold Oo at h;refine A1 Z func165 ?_;obtain rfl:=A6 h;exact kO Z Ly [4000,3000]
def K3 (N:Nat)(a:List (Int)):Option (Sl Int):= T2 a (λb (x1:Int) (z1:Sl Int)=>ite (Va 8 (z1.n+(Sl.of [x1]:Sl Int).n)) (b (z1.push x1)) none) (λ(z1:Sl Int)=>some z1) Tj
theorem EX {c:List (Int)}{a:Int}{b:(Sl Node)}{kp_seq:Nat}(fp_seq:∃fn,Ci1[kp_seq]? = some fn/\fn.body.isSome=true/\(fn.name == "runtime.NumGoroutine")=false)(d:Gf S kp_seq [] [.reg 0 0,.reg 1 0] [(.cells [(pN a)]),(.cells [(.p (vSl 2 F1 b))])] (c.map (λ(x:Int)=>[(pI .i64) x]))){y:(Sl Int)}(h:K3 N c=some y) :Yo S S0 [(.p I4),(.clo kp_seq [] [(.reg 0 0),(.reg 1 0)])] [(.cells [(pN a)]),(.cells [(.p (vSl 2 F1 b))])] (.vec 0) ([(oV C9 1 (cI .i64) y false)]) [false,false]:=by
 unfold K3 at h;refine A1 Z func212 ?_;refine Rj Z Ly fp_seq [0,1] [2] 901 (λz1=>⟨[(2,(.reg 3000 0))],[(3500,(oV C9 1 (cI .i64) z1 false)),(3000,(.cells [(.vec 3500)]))]⟩) h d (λ_=>by kernel_rfl) (λ_=>by kernel_rfl) (λ_=>by kernel_rfl) (λ_=>by kernel_rfl) (λx1 f z1 g h=>?_) (λz1 h=>?_)
 .refine Ny Z Ly ?_;obtain⟨c1,h⟩:=C0 h;exact g (Vb Sr c1) h (hle:=kl1 0 (P0 (cI .i64) z1 x1 [(pI .i64 0)]))
 obtain rfl:=A6 h;exact kO Z Ly [3500]
def W5 (N:Nat)(a:List (Int)):Option (Sl Int):= (K3 N a).bind λy1=>some y1
theorem Ku {c:List (Int)}{a:Int}{b:(Sl Node)}{kp_seq:Nat}(fp_seq:∃fn,Ci1[kp_seq]? = some fn/\fn.body.isSome=true/\(fn.name == "runtime.NumGoroutine")=false)(d:Gf S kp_seq [] [.reg 0 0,.reg 1 0] [(.cells [(pN a)]),(.cells [(.p (vSl 2 F1 b))])] (c.map (λ(x:Int)=>[(pI .i64) x]))){y:(Sl Int)}(h:W5 N c=some y) :Yo S BP [(.clo kp_seq [] [(.reg 0 0),(.reg 1 0)])] [(.cells [(pN a)]),(.cells [(.p (vSl 2 F1 b))])] (.vec 0) ([(oV C9 1 (cI .i64) y false)]) [false,false]:=by unfold W5 at h;refine A1 Z func164 ?_;obtain⟨y1,e1,h⟩:=E7 h;refine E2 Z [0,1] Ly (EX Z Y fp_seq d e1) ?_;obtain rfl:=A6 h;exact kO Z Ly [5000]
def I9 (N:Nat)(b:Sl Int):Option (Sl Int):= Bf3 N (λa (x1:Sl Int) (x2:Int) (x3:Int)=>ite (decide (x2<x3)) (ite (((((((((0:Int)<=x3/\x3<(x1.n:Int))/\x3.toNat<x1.n)/\((0:Int)<=x2/\x2<(x1.n:Int)))/\x2.toNat<x1.n)/\((0:Int)<=x2/\x2<(x1.n:Int)))/\x2.toNat<x1.n)/\((0:Int)<=x3/\x3<((x1.upd x2.toNat (x1.g x3.toNat)).n:Int)))/\x3.toNat<(x1.upd x2.toNat (x1.g x3.toNat)).n) (a ((x1.upd x2.toNat (x1.g x3.toNat)).upd x3.toNat (x1.g x2.toNat)) (wrap .i64 (x2+1)) (wrap .i64 (x3-1))) none) (some x1)) b 0 (wrap .i64 ((b.n:Int)-1))
theorem Gx {a:Sl Int}{y:Sl Int}(h:I9 N a=some y) :Yo S AR [.vec 0] [oV C9 1 (cI .i64) a false] (.tup []) ([oV C9 1 (cI .i64) y false]) [true]:=by
 unfold I9 at h;refine A1 Z func166 ?_;refine Nx Z Ly h (λx1 x2 x3=>kps [(3,pN x3),(2,pN x2)] [0] [(0,oV C9 1 (cI .i64) x1 false)] []) (λb x1 x2 x3 d h=>?_);apply kI Z h<;>intro h
 .refine Gh Z Ly ?_;obtain⟨c6,h⟩:=C0 h;refine D1 (Vb (Vb (Vb (Vb (Vb (Vb (Vb c6.1.1.1.1.1.1.1 c6.1.1.1.1.1.1.2) c6.1.1.1.1.1.2) c6.1.1.1.1.2) c6.1.1.1.2) (Vb (rfl:(1:Nat)=1) (Vb c6.1.1.2 Pa))) c6.1.2) (Vb (rfl:(1:Nat)=1) (Vb c6.2 Pa))) ?_;exact d Ly h (hle:=klR [(2,.fn x1.n ((x1.upd x2.toNat (x1.g x3.toNat)).upd x3.toNat (x1.g x2.toNat)).n (λl=>ite (l=x3.toNat) (splice ((λl=>ite (l=x2.toNat) (splice ((λi=>cI .i64 (x1.g i)) l) 0 [pI .i64 (x1.g x3.toNat)]) ((λi=>cI .i64 (x1.g i)) l)) l) 0 [pI .i64 (x1.g x2.toNat)]) ((λl=>ite (l=x2.toNat) (splice ((λi=>cI .i64 (x1.g i)) l) 0 [pI .i64 (x1.g x3.toNat)]) ((λi=>cI .i64 (x1.g i)) l)) l)) (λi=>cI .i64 (((x1.upd x2.toNat (x1.g x3.toNat)).upd x3.toNat (x1.g x2.toNat)).g i)))] (al1 ⟨rfl,At1 (c:=cI .i64) (v:=x1.upd x2.toNat (x1.g x3.toNat)) (x:=x1.g x2.toNat) (At1 (c:=cI .i64) (v:=x1) (x:=x1.g x3.toNat) same (λ_=>by first|rfl|(dsimp only;split<;>rfl))) (λ_=>by first|rfl|(dsimp only;split<;>rfl))⟩ al0))
 obtain rfl:=A6 h;exact kO Z Ly [0]
def Gy (N:Nat)(a:Sl Node)(b:Int):Option ((Sl Int)×Int):= (EW N a (Sl.of [b]:Sl Int)).bind λy1=>ite (y1 != 0) (some (Tj,y1)) ((Oo N a b).bind λy2=>(Gw N y2.1 y2.2).bind λL1=>(W5 N L1).bind λy3=>(I9 N y3).bind λy4=>some (y4,0))
theorem Az7 {b:Sl Node}{a:Int}{y:(Sl Int)×Int}(h:Gy N b a=some y) :Yo S SO [.p (vSl 2 F1 b),pN a] [] (.tup [.vec 0,pN y.2]) ([oV C9 1 (cI .i64) y.1 true]) []:=by
 unfold Gy at h;refine A1 Z func114 ?_;refine Nw Z Sr (kps [] [10,8,1,0] [(11000,oV C9 1 (cI .i64) (Sl.of [a]:Sl Int) false)] []) ?_ (hle:=kl1 3 (AR3 (cI .i64) ([a]:List Int) [pI .i64 0]));refine kC Z h (Ak6 Z Y) (λy1 h=>?_);apply kI Z h<;>intro h
 .obtain rfl:=A6 h;exact kO Z Ly [5700]
 refine kC Z h (Bj2 Z Y) (λy2 h=>?_);obtain⟨L1,e3,h⟩:=E7 h;obtain⟨y3,e4,h⟩:=E7 h;refine E2 Z [18000,18001] Ly (Ku Z Y ⟨_,func213,by decide +kernel,by decide +kernel⟩ (Az6 Z Y e3) e4) ?_;obtain⟨y4,e5,h⟩:=E7 h;refine BO8 Z [19000] Ly (Gx Z Y e5) ?_;obtain rfl:=A6 h;exact kO Z Ly [19000]
def EY (N:Nat)(a:Sl Tr):Option Str:= V7 N (λb (x1:Sl Int) (x2:Int)=>ite (decide (x2<(a.n:Int))) (ite ((0:Int)<=x2/\x2<(a.n:Int)) (ite (Va 1 (x1.n+(Oe (a.g x2.toNat).Plus).n)) (ite (Va 1 ((x1.app (Oe (a.g x2.toNat).Plus)).n+(Oe (a.g x2.toNat).Minus).n)) (b ((x1.app (Oe (a.g x2.toNat).Plus)).app (Oe (a.g x2.toNat).Minus)) (wrap .i64 (x2+1))) none) none) none) (some (At2 x1))) Tj 0
theorem Qv {a:Sl Tr}{y:Str}(h:EY N a=some y) :Yo S Qg [.p (vSl 2 A0 a)] [] (.p (.str y)) ([]) []:=by
 unfold EY at h;refine A1 Z func116 ?_;refine F5 Z Ly h (λx1 x2 _=>⟨[(10,pN x2),(9,pN (a.n:Int)),(8,.p (vSl 2 A0 a)),(3,.vec 4500)],[(4500,oV I2 1 (cI .u8) x1 false)]⟩) (λd x1 x2 l h=>?_);apply kI Z h<;>intro h
 .obtain⟨c22,h⟩:=C0 h;refine By1 Z (Vb c22 Pb) 2 (unrT [λt=>t=⟨[(19,pN 0),(18,.p (.agg [pI .u32 (a.g x2.toNat).Plus,pI .u32 (a.g x2.toNat).Minus])),(10,pN x2),(9,pN (a.n:Int)),(8,.p (vSl 2 A0 a)),(3,.vec 4501)],[(4501,oV I2 1 (cI .u8) x1 false)]⟩/\(
   if (Va 1 (x1.n+(Oe (a.g x2.toNat).Plus).n))then
    if (Va 1 ((x1.app (Oe (a.g x2.toNat).Plus)).n+(Oe (a.g x2.toNat).Minus).n))then
     d ((x1.app (Oe (a.g x2.toNat).Plus)).app (Oe (a.g x2.toNat).Minus)) (wrap .i64 (x2+1))
    else none
   else none
   )=some y,λt=>t=⟨[(19,pN 1),(18,.p (.agg [pI .u32 (a.g x2.toNat).Plus,pI .u32 (a.g x2.toNat).Minus])),(10,pN x2),(9,pN (a.n:Int)),(8,.p (vSl 2 A0 a)),(3,.vec 4500)],[(4500,.vec I2 1 (x1.app (Oe (a.g x2.toNat).Plus)).n (λi=>cI .u8 ((x1.app (Oe (a.g x2.toNat).Plus)).g i)) false)]⟩/\(
    if (Va 1 ((x1.app (Oe (a.g x2.toNat).Plus)).n+(Oe (a.g x2.toNat).Minus).n))then
     d ((x1.app (Oe (a.g x2.toNat).Plus)).app (Oe (a.g x2.toNat).Minus)) (wrap .i64 (x2+1))
    else none
   )=some y,λt=>t=⟨[(19,pN 2),(18,.p (.agg [pI .u32 (a.g x2.toNat).Plus,pI .u32 (a.g x2.toNat).Minus])),(10,pN x2),(9,pN (a.n:Int)),(8,.p (vSl 2 A0 a)),(3,.vec 4501)],[(4501,.vec I2 1 ((x1.app (Oe (a.g x2.toNat).Plus)).app (Oe (a.g x2.toNat).Minus)).n (λi=>cI .u8 (((x1.app (Oe (a.g x2.toNat).Plus)).app (Oe (a.g x2.toNat).Minus)).g i)) false)]⟩/\(
    d ((x1.app (Oe (a.g x2.toNat).Plus)).app (Oe (a.g x2.toNat).Minus)) (wrap .i64 (x2+1))
   )=some y]) ⟨[(19,pN 0),(18,.p (.agg [pI .u32 (a.g x2.toNat).Plus,pI .u32 (a.g x2.toNat).Minus])),(10,pN x2),(9,pN (a.n:Int)),(8,.p (vSl 2 A0 a)),(3,.vec 4501)],[(4501,oV I2 1 (cI .u8) x1 false)]⟩ ⟨rfl,h⟩ (λi t f ht j=>?_)
  rcases i with _|_|_|i
  .obtain⟨rfl,h⟩:=ht;refine O3 Z Ly (b:=decide ((0:Int)<2)) (λc29=>?_) (λc29=>?_)
   .obtain⟨c30,h⟩:=C0 h;exact j (Vb (Vb (Vb (Vb (by decide:(0:Int)<=0/\(0:Int)<2) (by decide:(0:Int)<=8)) (by decide:(0:Int)<=16)) Sr) c30) rfl ⟨rfl,h⟩ (hle:=klR [(5,.fn (x1.n+3) (x1.app (Oe (a.g x2.toNat).Plus)).n (Du x1.n (λi=>cI .u8 (x1.g i)) (G7 [pI .u8 0] [(0,cI .u8 (wrap .u8 (a.g x2.toNat).Plus)),(1,cI .u8 (wrap .u8 (shI .shr .u32 (a.g x2.toNat).Plus 8))),(2,cI .u8 (wrap .u8 (shI .shr .u32 (a.g x2.toNat).Plus 16)))])) (λi=>cI .u8 ((x1.app (Oe (a.g x2.toNat).Plus)).g i)))] (al1 ⟨rfl,Ad3 (c:=cI .u8) (v:=x1) (w:=(Oe (a.g x2.toNat).Plus)) same rfl (λi f=>match i,f with|0,_=>rfl|1,_=>rfl|2,_=>rfl|_+3,f=>Kf f (by omega)) rfl⟩ al0))
   exact Bool.noConfusion ((by decide:decide ((0:Int)<2)=true).symm.trans c29)
  .obtain⟨rfl,h⟩:=ht;refine O3 Z Ly (b:=decide ((1:Int)<2)) (λc27=>?_) (λc27=>?_)
   .obtain⟨c28,h⟩:=C0 h;exact j (Vb (Vb (Vb (Vb (by decide:(0:Int)<=1/\(1:Int)<2) (by decide:(0:Int)<=8)) (by decide:(0:Int)<=16)) Sr) c28) rfl ⟨rfl,h⟩ (hle:=klR [(5,.fn ((x1.app (Oe (a.g x2.toNat).Plus)).n+3) ((x1.app (Oe (a.g x2.toNat).Plus)).app (Oe (a.g x2.toNat).Minus)).n (Du (x1.app (Oe (a.g x2.toNat).Plus)).n (λi=>cI .u8 ((x1.app (Oe (a.g x2.toNat).Plus)).g i)) (G7 [pI .u8 0] [(0,cI .u8 (wrap .u8 (a.g x2.toNat).Minus)),(1,cI .u8 (wrap .u8 (shI .shr .u32 (a.g x2.toNat).Minus 8))),(2,cI .u8 (wrap .u8 (shI .shr .u32 (a.g x2.toNat).Minus 16)))])) (λi=>cI .u8 (((x1.app (Oe (a.g x2.toNat).Plus)).app (Oe (a.g x2.toNat).Minus)).g i)))] (al1 ⟨rfl,Ad3 (c:=cI .u8) (v:=x1.app (Oe (a.g x2.toNat).Plus)) (w:=(Oe (a.g x2.toNat).Minus)) same rfl (λi f=>match i,f with|0,_=>rfl|1,_=>rfl|2,_=>rfl|_+3,f=>Kf f (by omega)) rfl⟩ al0))
   exact Bool.noConfusion ((by decide:decide ((1:Int)<2)=true).symm.trans c27)
  .obtain⟨rfl,h⟩:=ht;refine O3 Z Ly (b:=decide ((2:Int)<2)) (λc26=>?_) (λc26=>?_)
   .exact Bool.noConfusion ((by decide:decide ((2:Int)<2)=false).symm.trans c26)
   exact l Ly h
  exact Kf f (by omega)
 obtain rfl:=A6 h;exact Bg1 Z ((λ_ _=>rfl):∀i:Nat,i<x1.n->true=true) [] ⟨rfl,rfl,rfl⟩
def D8 (N:Nat)(a:Sl N0)(c:N0->Option Bool):Option Int:= N3 N (λb (x1:Int)=>ite (decide (x1<(a.n:Int))) (ite ((0:Int)<=x1/\x1<(a.n:Int)) ((c (a.g x1.toNat)).bind λy3=>ite y3 (some x1) (b (wrap .i64 (x1+1)))) none) (some (-1))) 0
theorem Bd {a:Sl N0}{c:N0->Option Bool}{kp_f:Nat}(d:∀{a0:N0}{b:Bool},c a0=some b->Yo S kp_f [.p (.agg (I5 a0))] [] (pB b) [] []){y:Int}(h:D8 N a c=some y) :Yo S Q3 [.p (vSl 2 I5 a),.clo kp_f [] []] [] (pN y) ([]) []:=by
 unfold D8 at h;refine A1 Z func199 ?_;refine D6 Z Ly h (λx1=>kps [(8,pN x1)] [7,1,0] [] []) (λf x1 g h=>?_);apply kI Z h<;>intro h
 .obtain⟨c8,h⟩:=C0 h;obtain⟨y3,e3,h⟩:=E7 h;refine E2 Z [] (Vb c8 Pb) (d e3) ?_;refine Af6 Z h fun h=>?_;exact g Ly h
 cases h;exact kR Z
def F2 (N:Nat)(a:Sl N0)(b:N0->Option Bool):Option Bool:= (D8 N a b).bind λy1=>some (decide (0<=y1))
theorem Ao {a:Sl N0}{c:N0->Option Bool}{kp_f:Nat}(d:∀{a0:N0}{b:Bool},c a0=some b->Yo S kp_f [.p (.agg (I5 a0))] [] (pB b) [] []){y:Bool}(h:F2 N a c=some y) :Yo S O5 [.p (vSl 2 I5 a),.clo kp_f [] []] [] (pB y) ([]) []:=by unfold F2 at h;refine A1 Z func142 ?_;refine kC Z h (Bd Z Y (λe=>d e)) (λy1 h=>?_);cases h;exact kR Z
def CF (N:Nat)(a:N0):Option Bool:= some ((!a.Has)&&(decide (0<(a.W.n:Int))))
theorem QW {b:N0}{y:Bool}(h:CF N b=some y) :Yo S Jm [.p (.agg (I5 b))] [] (pB y) ([]) []:=by unfold CF at h;refine A1 Z func143 ?_;refine kB Z (A3 Z) Ly Ly 5 (.n (.a (!b.Has)) (.a (decide (0<(b.W.n:Int))))) ?_;cases h;exact kR Z
def AB (N:Nat)(a:Sl N0):Option Bool:= (F2 N a (λ(u1:N0)=>CF N u1)).bind λy1=>some (!y1)
theorem Mn {a:Sl N0}{y:Bool}(h:AB N a=some y) :Yo S LR [.p (vSl 2 I5 a)] [] (pB y) ([]) []:=by unfold AB at h;refine A1 Z func93 ?_;refine kC Z h (Ao Z Y (λe=>QW Z Y e)) (λy1 h=>?_);cases h;exact kR Z
def T8 (N:Nat)(a:Sl N0):Option Int:= N3 N (λb (x1:Int)=>ite (decide (x1<(a.n:Int))) (ite ((0:Int)<=x1/\x1<(a.n:Int)) ((W3 N (a.g x1.toNat).W).bind λy3=>ite (y3 != 0) (some y3) (b (wrap .i64 (x1+1)))) none) (some 0)) 0
theorem Mo {a:Sl N0}{y:Int}(h:T8 N a=some y) :Yo S LS [.p (vSl 2 I5 a)] [] (pN y) ([]) []:=by
 unfold T8 at h;refine A1 Z func95 ?_;refine D6 Z Ly h (λx1=>kps [(8,pN x1)] [7,6] [] []) (λb x1 c h=>?_);apply kI Z h<;>intro h
 .obtain⟨c8,h⟩:=C0 h;refine kD Z h (Vb c8 Pb) (Hd Z Y) (λy3 h=>?_);refine Af6 Z h fun h=>?_;exact c Ly h
 cases h;exact kR Z
def Cx (N:Nat)(a:Str):Option Bool:= (W4 N (Sl.of [(⟨-1,a⟩:Node)]:Sl Node)).bind λy1=>some (y1==0)
theorem Vp {a:Str}{y:Bool}(h:Cx N a=some y) :Yo S LY [.p (.str a)] [] (pB y) ([]) []:=by unfold Cx at h;refine A1 Z func144 ?_;refine Nw Z Sr (kps [] [5] [(6000,oV Y4 2 F1 (Sl.of [(⟨-1,a⟩:Node)]:Sl Node) false)] []) ?_ (hle:=kl1 0 (AR3 F1 ([(⟨-1,a⟩:Node)]:List Node) [pI .i64 0,.str []]));refine kC Z h (Hg Z Y) (λy1 h=>?_);cases h;exact kR Z
def S2 (N:Nat)(a:Sl Z1)(b:Int):Option Int:= N3 N (λc (x2:Int)=>ite (decide (x2<(a.n:Int))) (ite ((0:Int)<=x2/\x2<(a.n:Int)) (lt (λ(z3:Bool)=>ite z3 (some 2) (c (wrap .i64 (x2+1)))) λk3=>ite (((a.g x2.toNat).Yz.n:Int) != b) (k3 true) ((AB N (a.g x2.toNat).Yz).bind λy6=>k3 (!y6))) none) (N3 N (λd (x5:Int)=>ite (decide (x5<(a.n:Int))) (ite ((0:Int)<=x5/\x5<(a.n:Int)) ((Cx N (a.g x5.toNat).Gloss).bind λy9=>ite (!y9) (some 15) (d (wrap .i64 (x5+1)))) none) (some 0)) 0)) 0
theorem QX {b:Sl Z1}{a:Int}{y:Int}(h:S2 N b a=some y) :Yo S Ji [.p (vSl 2 N8 b),pN a] [] (pN y) ([]) []:=by
 unfold S2 at h;refine A1 Z func94 ?_;refine D6 Z Ly h (λx2=>kps [(11,pN x2)] [10,9,1,0] [] []) (λd x2 f h=>?_);apply kI Z h<;>intro h
 .obtain⟨c14,h⟩:=C0 h;refine GT Z (Vb c14 Pb) (A3 Z) h 0 (λz3=>kps [(25,pB z3)] [11,10,9,1,0] [] []) (λk3 c h=>?_) (λz3 h=>?_)
  .refine kG Z h (λh=>?_) (λh=>?_)
   .exact c Ly h
   refine kC Z h (Mn Z Y) (λy6 h=>?_);exact c Ly h
  refine Af6 Z h fun h=>?_;exact f Ly h
 refine D6 Z Ly h (λx5=>kps [(29,pN x5)] [28,27] [] []) (λg x5 i h=>?_);apply kI Z h<;>intro h
 .obtain⟨c26,h⟩:=C0 h;refine kD Z h (Vb c26 Pb) (Vp Z Y) (λy9 h=>?_);refine Af6 Z h fun h=>?_;exact i Ly h
 cases h;exact kR Z
def AC (N:Nat)(d:Yv)(a:Sl N0)(b:Sl Z1):Option Int:= (Q5 N d).bind λy1=>ite (y1 != 0) (some y1) ((T4 N d.Tree).bind λy2=>ite (decide (256<(b.n:Int))) (some 12) (lt (λ(z1:Bool)=>ite z1 (some 2) ((S2 N b (y2.1.n:Int)).bind λy5=>ite (y5 != 0) (some y5) ((T8 N a).bind λy6=>ite (y6 != 0) (some y6) (N3 N (λc (x2:Int)=>ite (decide (x2<(b.n:Int))) (ite ((0:Int)<=x2/\x2<(b.n:Int)) ((T8 N (b.g x2.toNat).Yz).bind λy9=>ite (y9 != 0) (some y9) (c (wrap .i64 (x2+1)))) none) (some 0)) 0)))) λk1=>ite ((a.n:Int) != (b.n:Int)) (k1 true) ((AB N a).bind λy4=>k1 (!y4))))
theorem Mp {b:Yv}{a:Sl N0}{c:Sl Z1}{y:Int}(h:AC N b a c=some y) :Yo S LM [.p (.agg (B0 b)),.p (vSl 2 I5 a),.p (vSl 2 N8 c)] [] (pN y) ([]) []:=by
 unfold AC at h;refine A1 Z func59 ?_;refine kC Z h (Gv Z Y) (λy1 h=>?_);refine Af6 Z h fun h=>?_;refine kC Z h (FH Z Y) (λy2 h=>?_);refine Af6 Z h fun h=>?_;refine GT Z Ly (A3 Z) h 0 (λz1=>kps [(30,pB z1)] [8,2,1] [] [24000]) (λk1 d h=>?_) (λz1 h=>?_)
 .refine kG Z h (λh=>?_) (λh=>?_)
  .exact d Ly h
  refine kC Z h (Mn Z Y) (λy4 h=>?_);exact d Ly h
 refine Af6 Z h fun h=>?_;refine kC Z h (QX Z Y) (λy5 h=>?_);refine Af6 Z h fun h=>?_;refine kC Z h (Mo Z Y) (λy6 h=>?_);refine Af6 Z h fun h=>?_;refine D6 Z Ly h (λx2=>kps [(55,pN x2)] [54,53] [] []) (λf x2 g h=>?_);apply kI Z h<;>intro h
 .obtain⟨c16,h⟩:=C0 h;refine kD Z h (Vb c16 Pb) (Mo Z Y) (λy9 h=>?_);refine Af6 Z h fun h=>?_;exact g Ly h
 cases h;exact kR Z
def V2 (N:Nat)(q0:Sl Z1):Option (List (place×(Sl Tr))):= N3 N (λb (x2:Int)=>ite (decide (x2<(q0.n:Int))) (ite ((0:Int)<=x2/\x2<(q0.n:Int)) (N3 N (λa (x4:Int)=>ite (decide (x4<((q0.g x2.toNat).Yz.n:Int))) (ite ((0:Int)<=x4/\x4<((q0.g x2.toNat).Yz.n:Int)) (ite (((q0.g x2.toNat).Yz.g x4.toNat).Has) (BN ((⟨x2,x4⟩:place),((q0.g x2.toNat).Yz.g x4.toNat).W) (a (wrap .i64 (x4+1)))) (a (wrap .i64 (x4+1)))) none) (b (wrap .i64 (x2+1)))) 0) none) (some [])) 0
theorem MN {q0:Sl Z1}{L:List (place×(Sl Tr))}(h:V2 N q0=some L) :Gf S CM [] [.reg 0 0] [.cells [.p (vSl 2 N8 q0)]] (L.map (λ(x:place×(Sl Tr))=>[(λx=>.agg (Sj x)) x.1,vSl 2 A0 x.2])):=by
 unfold V2 at h;refine FE Z func117 ?_;refine Eg Z Ly h (λx2 L1=>⟨[(9,pN x2),(8,pN (q0.n:Int)),(7,.p (vSl 2 N8 q0)),(0,.yf 1)],[(1,.yld (L1.map (λ(x:place×(Sl Tr))=>[(λx=>.agg (Sj x)) x.1,vSl 2 A0 x.2])) true),(0,.cells [.p (vSl 2 N8 q0)])]⟩) (λd x2 L1 f h=>?_);apply kI Z h<;>intro h
 .obtain⟨c48,h⟩:=C0 h;refine Eg Z (Vb c48 Pb) h (λx4 L16=>⟨[(17,pN x4),(16,pN ((q0.g x2.toNat).Yz.n:Int)),(15,.p (vSl 2 I5 (q0.g x2.toNat).Yz)),(9,pN x2),(8,pN (q0.n:Int)),(7,.p (vSl 2 N8 q0)),(3,pN x2),(0,.yf 1)],[(1,.yld (L16.map (λ(x:place×(Sl Tr))=>[(λx=>.agg (Sj x)) x.1,vSl 2 A0 x.2])) true),(0,.cells [.p (vSl 2 N8 q0)])]⟩) (λi x4 L16 c h=>?_);apply kI Z h<;>intro h
  .obtain⟨c64,h⟩:=C0 h;refine kV Z (Vb c64 Pb) h (λh=>?_) (λh=>?_)
   .obtain⟨L22,rfl,b⟩:=OX h;replace h:=b;refine Ef Z Ly (ys:=(λ(x:place×(Sl Tr))=>[(λx=>.agg (Sj x)) x.1,vSl 2 A0 x.2]) ((⟨x2,x4⟩:place),((q0.g x2.toNat).Yz.g x4.toNat).W)) (rest:=L22.map (λ(x:place×(Sl Tr))=>[(λx=>.agg (Sj x)) x.1,vSl 2 A0 x.2])) ?_ ?_
    .refine kF Z ?_;exact c Ly h
    refine kT Z ?_;exact kO Z Ly (a:=.tup []) (objs:=[(.cells [.p (vSl 2 N8 q0)]),.yld [] false]) [0,1] ⟨false,rfl,rfl,_,rfl⟩
   exact c Ly h
  exact f Ly h
 obtain rfl:=A6 h;exact kO Z Ly (a:=.tup []) (objs:=[(.cells [.p (vSl 2 N8 q0)]),.yld [] true]) [0,1] ⟨true,rfl,rfl,_,rfl⟩
def BF (N:Nat)(a:Sl Z1):Option (Sl Z1):= some a
theorem Pk {a:Sl Z1}{y:Sl Z1}(h:BF N a=some y) :Yo S HL [.p (vSl 2 N8 a)] [] (.clo CM [] [.reg 0 0]) ([.cells [.p (vSl 2 N8 y)]]) []:=by unfold BF at h;refine A1 Z func77 ?_;obtain rfl:=A6 h;exact kO Z Ly [2000]
omit Z Y
abbrev Ut (es:List (Str×N0)):Obj:=.map (DX PV.str (λx=>.agg (I5 x)) es)
abbrev BQ6 (M:Sl (List (Str×N0))):List Obj:=[.cells [.vec 1],.fam G8 M.n 2 none,.rows M.n λi=>Ut (M.g i)]
def Cc9 {i n:Nat}{g:Nat->Obj}:∀q,q<n->(λq=>ite (q=i) (g i) (ite (q=i) Obj.dead (g q))) q=(λq=>g q) q:=by grind
def Cd0 {i n:Nat}{M:Sl (List (Str×N0))}{x:List (Str×N0)}:∀q,q<n->(λq=>ite (q=i) (Ut x) (ite (q=i) Obj.dead (Ut (M.g q)))) q=(λq=>Ut ((M.upd i x).g q)) q:=by grind
abbrev knO (K i:Nat):Obj:=ite (i<K) (Ut []) (.ghost [.p (.v (.map none))])
def obKn {K x n:Nat}(hx:x=K):∀q,q<n->(λq=>ite (q=x) (Obj.map []) (ite (q=x) Obj.dead (knO K q))) q=(λi=>knO (K+1) i) q:=λq _=>by
 show (ite (q=x) (Ut []) (ite (q=x) Obj.dead (ite (q<K) (Ut []) (.ghost [.p (.v (.map none))]))))=if q<K+1 then Ut []else .ghost [.p (.v (.map none))]
 grind
include Z Y
def R8 (N:Nat)(p:N0)(leaf:Int)(M:Sl (List (Str×N0)))(X:Sl (Sl Law)):Option (Sl Tr×Bool×Sl (List (Str×N0))):= ite (!p.Has) (some ((Sl.nil:Sl Tr),false,M)) (ite (leaf.toNat<M.n) (ite ((0:Int)<=leaf/\leaf<(M.n:Int)) ((EY N p.W).bind λk=>JA (K4 eqS k (M.g leaf.toNat)) (ite ((0:Int)<=leaf/\leaf<(X.n:Int)) ((O0 N (X.g leaf.toNat) p.W).bind λw=>some (w.1,w.2==0,M.upd leaf.toNat (Fj eqS k (⟨w.2==0,w.1⟩:N0) (M.g leaf.toNat)))) none) λv=>some (v.W,v.Has,M)) none) none)
abbrev Ag8:List PV:=[.v (.bool false),I4]
theorem Oq {N:Nat}{p:N0}{leaf:Int}{X:Sl (Sl Law)}{M:Sl (List (Str×N0))}{y:Sl Tr×Bool×Sl (List (Str×N0))}(h:R8 N p leaf M X=some y) :Yo S W0 [.p (.agg (I5 p)),pN leaf,.reg 0 0,.p (.ptr [vSl 1 (cL 18 B7) X])] (BQ6 M) (.tup [.p (vSl 2 A0 y.1),pB y.2.1]) (BQ6 y.2.2) [true,true,false]:=by
 unfold R8 at h;refine A1 Z Tryz.func115 ?_;refine C6 Z Ly 12 5000 (I5 p) ?_;apply kI Z h<;>intro h
 .obtain rfl:=A6 h;exact J8 Z Ly ⟨[(7,pB false),(6,.p (vSl 2 A0 (Sl.nil:Sl Tr)))],[(9902,.rows M.n λi=>Ut (M.g i)),(1,.fam G8 M.n 9902 none),(0,.cells [.vec 1])]⟩ [0,1,9902] ⟨rfl,rfl,rfl⟩
 obtain⟨c1,h⟩:=C0 h;obtain⟨c2,h⟩:=C0 h;refine AJ2 Z Ly (.take 1 leaf.toNat 9801) (⟨⟨by decide,rfl⟩,c1⟩:(1000<=9801/\M.n=M.n)/\leaf.toNat<M.n) ?_;obtain⟨k,e1,h⟩:=E7 h;refine G6 Z Ly [(0,.l [0]),(2,.l [1]),(3,.l [1]),(5,.n),(6,.n),(7,.l [9801]),(11,.a [9000]),(12,.a [9000])] ?_;refine PO (Vb c2 (Vb c1 (rfl:leaf.toNat=leaf.toNat))) (Qv Z Y e1) ?_;rcases o1:K4 eqS k (M.g leaf.toNat)with _|v1
 .replace h:=Ap8 o1 h;refine BQ0 Ly M9 Lf PV.str (λx=>.agg (I5 x)) eqS o1 (.agg Ag8) Ly ?_;refine D1 Ly ?_;refine O3 Z Ly (b:=true) (λc=>?_) (by grind);obtain⟨c3,h⟩:=C0 h;obtain⟨w,e2,h⟩:=E7 h;refine B5 Z Ly [0,2,3,5,6] ?_;refine PO c3 (Kr Z Y e2) ?_;refine D1 Ly ?_;refine G6 Z Ly [(0,.l [0]),(2,.l [1]),(3,.l [1]),(5,.n),(6,.n),(7,.l [9000])] ?_;refine PO (Vb c2 (Vb c1 (rfl:leaf.toNat=leaf.toNat))) (Qv Z Y e1) ?_;refine Yl Ly M9 PV.str (λx=>.agg (I5 x)) eqS k (⟨w.2==0,w.1⟩:N0) (M.g leaf.toNat) Ly ?_;refine D1 Ly ?_;obtain rfl:=A6 h;refine AJ2 Z Ly (.put 1 9902) (⟨⟨by decide,rfl⟩,c1⟩:(1000<=9902/\M.n=M.n)/\leaf.toNat<M.n) ?_;refine Gh Z Ly ?_;refine D1 Ly ?_;exact J8 Z Ly ⟨[(7,pB (w.2==0)),(6,.p (vSl 2 A0 w.1))],[(9902,.rows M.n λi=>Ut ((M.upd leaf.toNat (Fj eqS k (⟨w.2==0,w.1⟩:N0) (M.g leaf.toNat))).g i)),(1,.fam G8 M.n 9902 none),(0,.cells [.vec 1])]⟩ [0,1,9902] ⟨rfl,rfl,rfl⟩ (hle:=klR [(3,.ob M.n (λq=>ite (q=leaf.toNat) (Ut (Fj eqS k (⟨w.2==0,w.1⟩:N0) (M.g leaf.toNat))) (ite (q=leaf.toNat) (.dead) (Ut (M.g q)))) λi=>Ut ((M.upd leaf.toNat (Fj eqS k (⟨w.2==0,w.1⟩:N0) (M.g leaf.toNat))).g i))] (al1 Cd0 al0))
 replace h:=Ad5 o1 h;refine Bz7 Ly M9 Lf PV.str (λx=>.agg (I5 x)) eqS o1 Ly ?_;refine D1 Ly ?_;obtain rfl:=A6 h;refine O3 Z Ly (b:=false) (by grind) (λc=>?_);refine AJ2 Z Ly (.put 1 9902) (⟨⟨by decide,rfl⟩,c1⟩:(1000<=9902/\M.n=M.n)/\leaf.toNat<M.n) ?_;refine Gh Z Ly ?_;refine D1 Ly ?_;exact J8 Z Ly ⟨[(7,pB v1.Has),(6,.p (vSl 2 A0 v1.W))],[(9902,.rows M.n λi=>Ut (M.g i)),(1,.fam G8 M.n 9902 none),(0,.cells [.vec 1])]⟩ [0,1,9902] ⟨rfl,rfl,rfl⟩ (hle:=klR [(3,.ob M.n (λq=>ite (q=leaf.toNat) (Ut (M.g leaf.toNat)) (ite (q=leaf.toNat) (.dead) (Ut (M.g q)))) λi=>Ut (M.g i))] (al1 (Cc9 (g:=λi=>Ut (M.g i))) al0))
def Ap (N:Nat)(a:Yv)(b:Int):Option (Sl (Sl Law)):= (T4 N a.Tree).bind λl=>ite ((0:Int)<=(l.1.n:Int)/\(l.1.n:Int)<=(l.1.n:Int)/\(l.1.n:Int)*24<=140737488355328/\(l.1.n:Int)<=140737488355328) (ite ((0:Int)<=(l.1.n:Int)/\(l.1.n:Int)<=(l.1.n:Int)/\(l.1.n:Int)*8<=140737488355328/\(l.1.n:Int)<=140737488355328) (Bf3 N (λf (K:Nat) (X:Sl (Sl Law)) (x:Int)=>ite (decide (x<(l.1.n:Int))) (ite (((0:Int)<=x/\x<(l.1.n:Int))/\x.toNat<l.1.n) ((Gy N a.Tree (l.1.g x.toNat)).bind λw=>V7 N (λd (X:Sl (Sl Law)) (y:Int)=>ite (decide (y<(w.1.n:Int))) (ite ((((0:Int)<=y/\y<(w.1.n:Int))/\y.toNat<w.1.n)/\((0:Int)<=(w.1.g y.toNat)/\(w.1.g y.toNat)<(a.On.n:Int))) (V7 N (λc (X:Sl (Sl Law)) (z:Int)=>ite (decide (z<((a.On.g (w.1.g y.toNat).toNat).n:Int))) (ite ((0:Int)<=z/\z<((a.On.g (w.1.g y.toNat).toNat).n:Int)) (ite (((a.On.g (w.1.g y.toNat).toNat).g z.toNat) != b) (ite (x.toNat<X.n) (ite (((0:Int)<=x/\x<(X.n:Int))/\((0:Int)<=((a.On.g (w.1.g y.toNat).toNat).g z.toNat)/\((a.On.g (w.1.g y.toNat).toNat).g z.toNat)<(a.Laws.n:Int))) (ite (Va 200 ((X.g x.toNat).n+1)) (c (X.upd x.toNat ((X.g x.toNat).push (a.Laws.g ((a.On.g (w.1.g y.toNat).toNat).g z.toNat).toNat))) (wrap .i64 (z+1))) none) none) none) (c X (wrap .i64 (z+1)))) none) (d X (wrap .i64 (y+1)))) X 0) none) (ite (x.toNat=K/\K<l.1.n) (f (K+1) X (wrap .i64 (x+1))) none)) X 0) none) (ite (K=l.1.n/\X.n=l.1.n) (some X) none)) 0 ⟨l.1.n,λ_=>Sl.nil⟩ 0) none) none
theorem QY {N:Nat}{b:Yv}{c:Int}{y:Sl (Sl Law)}(h:Ap N b c=some y) :Yo S Jg [.p (.agg (B0 b)),pN c] [] (.clo W0 [] [.reg 0 0,.p (.ptr [vSl 1 (cL 18 B7) y])]) (BQ6 ⟨y.n,λ_=>[]⟩) []:=by
 unfold Ap at h;refine A1 Z Tryz.func76 ?_;refine C6 Z Ly 18 3000 (B0 b) ?_;refine kC Z h (FH Z Y) (λl h=>?_);obtain⟨c1,h⟩:=C0 h;refine Di Z c1 26 (.fam 26000 9901 λi=>DW H7 18 B7 ((⟨l.1.n,λ_=>Sl.nil⟩:Sl (Sl Law)).g i)) (⟨by decide,λi _=>rfl⟩:1000<=9901/\∀i,i<l.1.n->RB [I4] (DW H7 18 B7 ((⟨l.1.n,λ_=>Sl.nil⟩:Sl (Sl Law)).g i))) ?_;obtain⟨c2,h⟩:=C0 h;refine Di Z c2 29 (.fam 29000 9951 λi=>knO 0 i) (⟨by decide,λi _=>⟨rfl,rfl⟩⟩:1000<=9951/\∀i,i<l.1.n->RB [.v (.map none)] (knO 0 i)) ?_;refine Nx Z Ly h (λK X x=>kps [(31,pN x)] [30,29,8,7,2,1] [(26000,.fam ES X.n 9901 none),(9951,.rows l.1.n λi=>knO K i),(9901,.rows X.n λi=>DW H7 18 B7 (X.g i))] [29000,21000,9000,8000]) (λr K X x f h=>?_);apply kI Z h<;>intro h
 .obtain⟨c3,h⟩:=C0 h;refine kD Z h c3 (Az7 Z Y) (λw h=>?_);refine F5 Z Ly h (λX u=>kps [(45,pN u)] [44,43,31,30,29,9,8,7,2,1] [(26000,.fam ES X.n 9901 none),(9901,.rows X.n λi=>DW H7 18 B7 (X.g i))] [41000,29000,21000,9951,9000,8000]) (λj X u m h=>?_);apply kI Z h<;>intro h
  .obtain⟨c4,h⟩:=C0 h;refine F5 Z c4 h (λX z=>kps [(55,pN z)] [54,53,45,44,43,31,30,29,9,8,7,2,1] [(26000,.fam ES X.n 9901 none),(9901,.rows X.n λi=>DW H7 18 B7 (X.g i))] [41000,29000,21000,9951,9000,8000]) (λo X z d h=>?_);apply kI Z h<;>intro h
   .refine kJ Z h (λh=>?_) (λh=>?_)
    .obtain⟨c7,h⟩:=C0 h;obtain⟨c8,h⟩:=C0 h;obtain⟨c9,h⟩:=C0 h;refine AJ2 Z Ly (.take 26000 x.toNat 9801) (⟨⟨by decide,rfl⟩,c7⟩:(1000<=9801/\X.n=X.n)/\x.toNat<X.n) ?_;refine G6 Z Ly [(0,.l [8000]),(2,.l [8000]),(4,.l [26000]),(5,.l [26000]),(6,.n),(7,.n),(9,.n),(10,.n),(12,.a [75000,9801]),(13,.l [26000]),(14,.a [26000])] ?_;refine O6 (Vb (Vb (Vb c8.1 (Vb c7 (rfl:x.toNat=x.toNat))) c8.2) Sq) (x:=.sl true 18 1 (G7 Ag2 [(0,B7 (b.Laws.g ((b.On.g (w.1.g u.toNat).toNat).g z.toNat).toNat))])) ?_;refine D1 (Vb (Vb c9 c8.1) (Vb c7 (rfl:x.toNat=x.toNat))) ?_;refine I7 Z Ly 76 (kps [] [55,54,53,45,44,43,31,30,29,9,8,7,2,1] [(75000,DW H7 18 B7 ((X.g x.toNat).push (b.Laws.g ((b.On.g (w.1.g u.toNat).toNat).g z.toNat).toNat))),(41000,oV C9 1 (cI .i64) w.1 true),(29000,.fam G8 l.1.n 9951 none),(26000,.fam ES X.n 9901 (some (x.toNat,.vec 75000))),(21000,oV C9 1 (cI .i64) l.1 true),(9951,.rows l.1.n λi=>knO K i),(9901,(.rows X.n λq=>ite (q=x.toNat) (.dead) (DW H7 18 B7 (X.g q)))),(9000,.cells [.vec 29000]),(8000,.cells [.vec 26000])] []) ?_ (hle:=kl1 10 (P0 B7 (X.g x.toNat) (b.Laws.g ((b.On.g (w.1.g u.toNat).toNat).g z.toNat).toNat) Ag2));refine Di Z Ly 76 (.put 26000 9902) (⟨⟨by decide,rfl⟩,c7⟩:(1000<=9902/\X.n=X.n)/\x.toNat<X.n) ?_;exact d Ly h (hle:=klR [(17,.ob X.n (λq=>ite (q=x.toNat) (DW H7 18 B7 ((X.g x.toNat).push (b.Laws.g ((b.On.g (w.1.g u.toNat).toNat).g z.toNat).toNat))) (ite (q=x.toNat) (.dead) (DW H7 18 B7 (X.g q)))) λi=>DW H7 18 B7 ((X.upd x.toNat ((X.g x.toNat).push (b.Laws.g ((b.On.g (w.1.g u.toNat).toNat).g z.toNat).toNat))).g i))] (al1 Cc8 al0))
    exact d Ly h
   exact m Ly h
  obtain⟨c4,h⟩:=C0 h;refine Di Z Ly 78 (.over 29000 x.toNat) (⟨rfl,by omega⟩:l.1.n=l.1.n/\x.toNat<l.1.n) ?_;refine Di Z (Vb c3.1 (Vb c3.2 (rfl:x.toNat=x.toNat))) 82 (.put 29000 9952) (⟨⟨by decide,rfl⟩,c3.2⟩:(1000<=9952/\l.1.n=l.1.n)/\x.toNat<l.1.n) ?_;exact f Ly h (hle:=klR [(8,.ob l.1.n (λq=>ite (q=x.toNat) (.map []) (ite (q=x.toNat) (.dead) (knO K q))) λi=>knO (K+1) i)] (al1 (obKn c4.1) al0))
 obtain⟨c3,h⟩:=C0 h;obtain rfl:=A6 h;refine Di Z Ly 83 (.pub 26000) (⟨rfl,λi _=>rfl⟩:X.n=X.n/\∀i,i<X.n->(Xy (DW H7 18 B7 (X.g i))).isSome=true) ?_;refine I7 Z Ly 83 (kps [] [8,7] [(29000,.fam G8 X.n 9951 none),(9951,.rows X.n λi=>Ut []),(9000,.cells [.vec 29000]),(8000,.cells [.p (vSl 1 (cL 18 B7) X)])] []) ?_ (hle:=klR [(0,.nt l.1.n X.n),(1,.nt l.1.n X.n),(2,.ob X.n (λi=>knO K i) (λi=>Ut [])),(3,.fn X.n X.n (λi=>[(Xy (DW H7 18 B7 (X.g i))).getD default]) (λi=>cL 18 B7 (X.g i)))] (al1 c3.2.symm (al1 c3.2.symm (al1 (λi s=>Kb (by omega)) (al1 ⟨rfl,λ_ _=>rfl⟩ al0)))));refine C6 Z Ly 83 8000 [vSl 1 (cL 18 B7) X] ?_;exact J8 Z Ly ⟨[(4,.clo W0 [] [.reg 9000 0,.p (.ptr [vSl 1 (cL 18 B7) X])])],[(29000,.fam G8 X.n 9951 none),(9951,.rows X.n λi=>Ut []),(9000,.cells [.vec 29000])]⟩ [9000,29000,9951] ⟨rfl,rfl,rfl⟩
def EZ (N:Nat)(d:Yv)(b:Sl N0)(f:Sl Z1)(a:Int):Option ((Sl A5)×Int):= (AC N d b f).bind λy1=>ite (y1 != 0) (some ((Sl.nil:Sl A5),y1)) (ite ((decide (a<0))||(decide (1073741824<a))) (some ((Sl.nil:Sl A5),2)) ((Ap N d (-1)).bind λy2=>(BF N f).bind λy3=>(V2 N y3).bind λL1=>T2 L1 (λc (x1:place×(Sl Tr)) (z1:(Sl (List (Str×N0)))×(Sl A5))=>ite ((0:Int)<=x1.1.entry/\x1.1.entry<(b.n:Int)) ((R8 N (b.g x1.1.entry.toNat) x1.1.leaf z1.1 y2).bind λy8=>ite (!y8.2.1) (ite (Va 32 (z1.2.n+(Sl.of [(⟨x1.1.entry,x1.1.leaf,2,a⟩:A5)]:Sl A5).n)) (c (y8.2.2,z1.2.push (⟨x1.1.entry,x1.1.leaf,2,a⟩:A5))) none) ((Z3 N y8.1 x1.2).bind λy9=>ite (!y9) (ite (Va 32 (z1.2.n+(Sl.of [(⟨x1.1.entry,x1.1.leaf,1,a⟩:A5)]:Sl A5).n)) (c (y8.2.2,z1.2.push (⟨x1.1.entry,x1.1.leaf,1,a⟩:A5))) none) (c (y8.2.2,z1.2)))) none) (λ(z1:(Sl (List (Str×N0)))×(Sl A5))=>some (z1.2,0)) ((⟨y2.n,λ_=>[]⟩:Sl (List (Str×N0))),(Sl.nil:Sl A5))))
abbrev Ag4:List PV:=[pI .i64 0,pI .i64 0,pI .i64 0,pI .i64 0]
theorem Ak7 {N:Nat}{d:Yv}{c:Sl N0}{j:Sl Z1}{b:Int}{y:(Sl A5)×Int}(h:EZ N d c j b=some y) :Yo S PY [.p (.agg (B0 d)),.p (vSl 2 I5 c),.p (vSl 2 N8 j),pN b] [] (.tup [.vec 0,pN y.2]) ([oV K7 4 B9 y.1 false]) []:=by
 unfold EZ at h;refine A1 Z Tryz.func44 ?_;refine C6 Z Ly 5 5000 (B0 d) ?_;refine C6 Z Ly 7 6000 [vSl 2 I5 c] ?_;refine C6 Z Ly 8 8000 [pI .i64 b] ?_;refine kD Z h Pc (Mp Z Y) (λy1 h=>?_);apply kI Z h<;>intro h
 .obtain rfl:=A6 h;exact kO Z Ly [9700]
 refine kB Z (A3 Z) Ly Ly 3 (.o (.a (decide (b<0))) (.a (decide (1073741824<b)))) ?_;apply kI Z h<;>intro h
 .obtain rfl:=A6 h;exact kO Z Ly [9700]
 refine kD Z h Pc (QY Z Y) (λy2 h=>?_);refine kC Z h (Pk Z Y) (λy3 h=>?_);obtain⟨L1,e4,h⟩:=E7 h;refine JO Z Ly [34000] [12,11,7,5] 901 (λz1=>⟨[(12,.reg 13000 0),(11,.reg 12000 0),(7,.p (.ptr [pI .i64 b])),(5,.p (.ptr [vSl 2 I5 c]))],[(32001,.fam G8 z1.1.n 12500 none),(32000,.cells [.vec 32001]),(13500,oV K7 4 B9 z1.2 false),(13000,.cells [.vec 13500]),(12500,.rows z1.1.n λi=>Ut (z1.1.g i)),(12000,.cells [.clo W0 [] [.reg 32000 0,.p (.ptr [vSl 1 (cL 18 B7) y2])]])]⟩) h (MN Z Y e4) (λ_=>by kernel_rfl) (λ_=>by kernel_rfl) (λ_=>by kernel_rfl) (λ_=>by kernel_rfl) (λx1 l z1 f h=>?_) (λz1 h=>?_)
 .refine C6 Z Ly 14 14000 [pI .i64 x1.1.entry,pI .i64 x1.1.leaf] ?_;refine Ny Z Ly ?_;refine B5 Z Ly [1,3,4,5,7] ?_;obtain⟨c9,h⟩:=C0 h;obtain⟨y8,e9,h⟩:=E7 h;refine Ha [32000,32001,12500] (Vb c9 Pb) (Oq Z Y e9) ?_;refine D1 Ly ?_;apply kI Z h<;>intro h
  .obtain⟨c11,h⟩:=C0 h;exact f (Vb Sr c11) h (hle:=kl1 1 (P0 B9 z1.2 (⟨x1.1.entry,x1.1.leaf,2,b⟩:A5) Ag4))
  refine kC Z h (Qt Z Y) (λy9 h=>?_);apply kI Z h<;>intro h
  .obtain⟨c13,h⟩:=C0 h;exact f (Vb Sr c13) h (hle:=kl1 1 (P0 B9 z1.2 (⟨x1.1.entry,x1.1.leaf,1,b⟩:A5) Ag4))
  exact f Ly h
 obtain rfl:=A6 h;exact kO Z Ly [13500]
end Go.AM
namespace Go.AM
open Go.Proofs.Tryz
variable {N:Nat}
open Go.Proofs
section
variable {S:X0}(Z:H4 S Tryz.prog) (Y:Km S)
include Z Y
def X1 (N:Nat)(s:Sl Str)(t:Str):Option Str:= ite (s.n<=140737488355328/\(Lib.join ((List.range s.n).map s.g) t).length<=140737488355328) (some (Lib.join ((List.range s.n).map s.g) t)) none
theorem Vq {s:Sl Str}{t:Str}{y:Str}(h:X1 N s t=some y):Yo S Hq [.p (vSl 1 cS s),.p (.str t)] [] (.p (.str y)) [] []:=by simp only[X1,Cv5,Ci3]at h;obtain⟨⟨h1,a⟩,rfl⟩:=h;exact Y.join false s.n s.g t h1 a
def P2 (N:Nat)(s:Str)(t:Int):Option Int:= ite (0<=t/\t<256) (some (Lib.indexByte s (UInt8.ofNat t.toNat))) none
theorem Gz {s:Str}{t:Int}{y:Int}(h:P2 N s t=some y):Yo S CP [.p (.str s),.p (pI .u8 t)] [] (.p (pI .i64 y)) [] []:=by
 simp only[P2,Cv5,Ci3]at h;obtain⟨h1,rfl⟩:=h
 have:=Y.indexByte s (UInt8.ofNat t.toNat)
 have e:(((UInt8.ofNat t.toNat).toNat:Nat):Int)=t:=by
  have:(UInt8.ofNat t.toNat).toNat=t.toNat:=UInt8.toNat_ofNat_of_lt' (by show t.toNat<256;omega)
  omega
 rw[e]at this;exact this
def D2 (N:Nat)(s:Sl Str):Option (Sl Str):=ite ((0+s.n)*16<=140737488355328/\0+s.n<=140737488355328) (some s) none
theorem P3 {s y:Sl Str}(h:D2 N s=some y):Yo S Y3 [.p (vSl 1 cS s)] [] (.vec 0) [.vec M9 1 y.n (λi=>cS (y.g i)) true] []:=by
 unfold D2 at h;obtain⟨c1,h⟩:=C0 h;obtain rfl:=A6 h;refine A1 Z func178 ?_;refine Ae4 Z Ly 3 (k:=1) (n:=s.n) (f:=λi=>cS (s.g i)) (λa=>?_) ?_
 .obtain⟨n,g⟩:=s;obtain rfl:n=0:=a;exact kO Z Ly [3700]
 exact kO Z (Vb Sr c1) [8000]
  (hle:=kl1 0 (Br8 cS s [.str []]))
def J4 (N:Nat)(s:Sl F9):Option (Sl F9):=ite ((0+s.n)*24<=140737488355328/\0+s.n<=140737488355328) (some s) none
abbrev Ag6:List PV:=[.str [],pI .u32 0,pI .u32 0]
theorem BY {s y:Sl F9}(h:J4 N s=some y):Yo S S6 [.p (vSl 3 H6 s)] [] (.vec 0) [.vec S1 3 y.n (λi=>H6 (y.g i)) true] []:=by
 unfold J4 at h;obtain⟨c1,h⟩:=C0 h;obtain rfl:=A6 h;refine A1 Z func183 ?_;refine Ae4 Z Ly 3 (k:=3) (n:=s.n) (f:=λi=>H6 (s.g i)) (λa=>?_) ?_
 .obtain⟨n,g⟩:=s;obtain rfl:n=0:=a;exact kO Z Ly [3700]
 exact kO Z (Vb Sr c1) [8000]
  (hle:=kl1 0 (Br8 H6 s Ag6))
def H2 (N:Nat)(s:Sl GW):Option (Sl GW):=ite ((0+s.n)*32<=140737488355328/\0+s.n<=140737488355328) (some s) none
theorem CT {s y:Sl GW}(h:H2 N s=some y):Yo S U6 [.p (vSl 4 EN s)] [] (.vec 0) [.vec WS 4 y.n (λi=>EN (y.g i)) true] []:=by
 unfold H2 at h;obtain⟨c1,h⟩:=C0 h;obtain rfl:=A6 h;refine A1 Z func139 ?_;refine Ae4 Z Ly 3 (k:=4) (n:=s.n) (f:=λi=>EN (s.g i)) (λa=>?_) ?_
 .obtain⟨n,g⟩:=s;obtain rfl:n=0:=a;exact kO Z Ly [3700]
 exact kO Z (Vb Sr c1) [8000]
  (hle:=kl1 0 (Br8 EN s [.str [],pI .u32 0,pI .u32 0,pI .u32 0]))
end
open IntKind (wrap)
set_option maxRecDepth 10000
set_option maxHeartbeats 2000000
variable {S:X0}(Z:H4 S Tryz.prog) (Y:Km S)
include Z Y
def U1 (N:Nat)(a:Int):Option Bool:= some (((decide (97<=a))&&(decide (a<=122)))||((decide (48<=a))&&(decide (a<=57))))
theorem HT {b:Int}{y:Bool}(h:U1 N b=some y) :Yo S HN [.p (pI .u8 b)] [] (pB y) ([]) []:=by unfold U1 at h;refine A1 Z func177 ?_;refine kB Z (A3 Z) Ly Ly 11 (.o (.n (.a (decide (97<=b))) (.a (decide (b<=122)))) (.n (.a (decide (48<=b))) (.a (decide (b<=57))))) ?_;cases h;exact kR Z
abbrev iO (v:A7)(a b c d:Nat):List Obj:=[(.cells [.p (vSl 1 cS v.feats),.Yr a,.vec b,.Yr c,.Yr d]),oM PV.str (pI .i64) v.number,oV S1 3 H6 v.sounds true,oM PV.str (pI .i64) v.symbols,oM (λx=>.agg (A0 x)) (pI .i64) v.values]
def J5 (N:Nat)(a:A7):Option Bool:= some true
theorem BZ {a:A7}{y:Bool}(h:J5 N a=some y) :Yo S Fx [.reg 0 0] (iO a 1 2 3 4) (pB y) (iO a 1 2 3 4) [true,true,true,true,true]:=by unfold J5 at h;refine A1 Z func179 ?_;obtain rfl:=A6 h;exact kO Z Ly [0,1,2,3,4]
def O1 (N:Nat)(b:A7)(a:Tr):Option Bool:= ite ((0:Int)<=(b.feats.n:Int)) (some (((F3 .and .u32 a.Plus a.Minus)==0)&&((F3 .andNot .u32 (F3 .or .u32 a.Plus a.Minus) (wrap .u32 ((shI .shl .u32 1 (b.feats.n:Int))-1)))==0))) none
theorem IO {c:A7}{b:Tr}{y:Bool}(h:O1 N c b=some y) :Yo S DF [.reg 0 0,.p (.agg (A0 b))] (iO c 1 2 3 4) (pB y) (iO c 1 2 3 4) [true,true,true,true,true]:=by unfold O1 at h;refine A1 Z func182 ?_;obtain⟨c1,h⟩:=C0 h;refine kB Z (A3 Z) c1 Ly 9 (.n (.a ((F3 .and .u32 b.Plus b.Minus)==0)) (.a ((F3 .andNot .u32 (F3 .or .u32 b.Plus b.Minus) (wrap .u32 ((shI .shl .u32 1 (c.feats.n:Int))-1)))==0))) ?_;obtain rfl:=A6 h;exact kO Z Ly [0,1,2,3,4]
def J6 (N:Nat)(a:Str)(b:Int)(d:Int->Option Bool):Option Bool:= ite ((decide ((a.length:Int)<1))||(decide (b<(a.length:Int)))) (some false) (N3 N (λc (x1:Int)=>ite (decide (x1<(a.length:Int))) (ite ((0:Int)<=x1/\x1<(a.length:Int)) ((d (E8 a x1)).bind λy3=>ite (!y3) (some false) (c (wrap .i64 (x1+1)))) none) (some true)) 0)
theorem Fz {d:Str}{c:Int}{f:Int->Option Bool}{kp_of:Nat}(g:∀{a0:Int}{b:Bool},f a0=some b->Yo S kp_of [.p (pI .u8 a0)] [] (pB b) [] []){y:Bool}(h:J6 N d c f=some y) :Yo S Fw [.p (.str d),pN c,.clo kp_of [] []] [] (pB y) ([]) []:=by
 unfold J6 at h;refine A1 Z func176 ?_;refine kB Z (A3 Z) Ly Ly 5 (.o (.a (decide ((d.length:Int)<1))) (.a (decide (c<(d.length:Int))))) ?_;refine Af6 Z h fun h=>?_;refine D6 Z Ly h (λx1=>kps [(19,pN x1)] [18,2,0] [] []) (λi x1 j h=>?_);apply kI Z h<;>intro h
 .obtain⟨c9,h⟩:=C0 h;obtain⟨y3,e3,h⟩:=E7 h;refine E2 Z [] c9 (g e3) ?_;refine Af6 Z h fun h=>?_;exact j Ly h
 cases h;exact kR Z
def M8 (N:Nat)(a:Int):Option Bool:= (U1 N a).bind λy1=>lt (λ(z1:Bool)=>some z1) λk1=>ite y1 (k1 true) (ite (decide (65<=a)) (ite (decide (a<=90)) (k1 true) ((P2 N [64,63,33,38,42,36,37] a).bind λy4=>k1 (decide (0<=y4)))) ((P2 N [64,63,33,38,42,36,37] a).bind λy5=>k1 (decide (0<=y5))))
theorem Kv {b:Int}{y:Bool}(h:M8 N b=some y) :Yo S EQ [.p (pI .u8 b)] [] (pB y) ([]) []:=by
 unfold M8 at h;refine A1 Z func180 ?_;refine kC Z h (HT Z Y) (λy1 h=>?_);refine GT Z Ly (A3 Z) h 0 (λz1 _=>⟨[(2,pB z1)],[]⟩) (λk1 a h=>?_) (λz1 h=>?_)
 .refine kG Z h (λh=>?_) (λh=>?_)
  .exact a Ly h
  refine kG Z h (λh=>?_) (λh=>?_)
  .refine kG Z h (λh=>?_) (λh=>?_)
   .exact a Ly h
   refine kC Z h (Gz Z Y) (λy4 h=>?_);exact a Ly h
  refine kC Z h (Gz Z Y) (λy5 h=>?_);exact a Ly h
 cases h;exact kR Z
def P4 (N:Nat)(b:A7)(a:Str)(c:Tr):Option (Int×A7):= (J5 N b).bind λy1=>ite (!y1) (some (1,b)) ((J6 N a 4 (λ(u1:Int)=>M8 N u1)).bind λy2=>ite (!y2) (some (15,b)) ((O1 N b c).bind λy3=>ite (!y3) (some (14,b)) (JA (K4 eqS a b.symbols) (JA (K4 G2 c b.values) (ite (false||false) (some (6,b)) (ite ((b.sounds.n:Int)==256) (some (4,b)) (ite (Va 24 (b.sounds.n+(Sl.of [(⟨a,c⟩:F9)]:Sl F9).n)) (some (0,(⟨b.feats,b.number,b.sounds.push (⟨a,c⟩:F9),Fj eqS a (b.sounds.n:Int) b.symbols,Fj G2 c (b.sounds.n:Int) b.values⟩:A7))) none))) λv2=>ite (false||true) (some (6,b)) (ite ((b.sounds.n:Int)==256) (some (4,b)) (ite (Va 24 (b.sounds.n+(Sl.of [(⟨a,c⟩:F9)]:Sl F9).n)) (some (0,(⟨b.feats,b.number,b.sounds.push (⟨a,c⟩:F9),Fj eqS a (b.sounds.n:Int) b.symbols,Fj G2 c (b.sounds.n:Int) b.values⟩:A7))) none))) λv1=>JA (K4 G2 c b.values) (ite (true||false) (some (6,b)) (ite ((b.sounds.n:Int)==256) (some (4,b)) (ite (Va 24 (b.sounds.n+(Sl.of [(⟨a,c⟩:F9)]:Sl F9).n)) (some (0,(⟨b.feats,b.number,b.sounds.push (⟨a,c⟩:F9),Fj eqS a (b.sounds.n:Int) b.symbols,Fj G2 c (b.sounds.n:Int) b.values⟩:A7))) none))) λv3=>ite (true||true) (some (6,b)) (ite ((b.sounds.n:Int)==256) (some (4,b)) (ite (Va 24 (b.sounds.n+(Sl.of [(⟨a,c⟩:F9)]:Sl F9).n)) (some (0,(⟨b.feats,b.number,b.sounds.push (⟨a,c⟩:F9),Fj eqS a (b.sounds.n:Int) b.symbols,Fj G2 c (b.sounds.n:Int) b.values⟩:A7))) none)))))
theorem MO {c:A7}{b:Str}{d:Tr}{y:Int×A7}(h:P4 N c b d=some y) :Yo S Gk [.reg 0 0,.p (.str b),.p (.agg (A0 d))] (iO c 1 2 3 4) (pN y.1) ([.cells [.p (vSl 1 cS y.2.feats),.Yr 1,.vec 2,.Yr 3,.Yr 4],oM PV.str (pI .i64) y.2.number,oV S1 3 H6 y.2.sounds true,oM PV.str (pI .i64) y.2.symbols,oM (λx=>.agg (A0 x)) (pI .i64) y.2.values]) [true,true,false,true,true]:=by
 unfold P4 at h;refine A1 Z func132 ?_;refine C6 Z Ly 6 6000 [pI .u32 d.Plus,pI .u32 d.Minus] ?_;obtain⟨y1,e1,h⟩:=E7 h;refine E2 Z [0,1,2,3,4] Ly (BZ Z Y e1) ?_;apply kI Z h<;>intro h
 .obtain rfl:=A6 h;exact kO Z Ly [0,1,990002,3,4]
 refine kC Z h (Fz Z Y (λe=>Kv Z Y e)) (λy2 h=>?_);apply kI Z h<;>intro h
 .obtain rfl:=A6 h;exact kO Z Ly [0,1,990002,3,4]
 obtain⟨y3,e3,h⟩:=E7 h;refine E2 Z [0,1,2,3,4] Pb (IO Z Y e3) ?_;apply kI Z h<;>intro h
 .obtain rfl:=A6 h;exact kO Z Ly [0,1,990002,3,4]
 rcases o1:K4 eqS b c.symbols with _|v1
 .replace h:=Ap8 o1 h;refine Au0 Z Ly M9 C9 PV.str (pI .i64) eqS o1 (pI .i64 0) Ly ?_;refine B5 Z Ly [4] ?_;rcases o2:K4 G2 d c.values with _|v2
  .replace h:=Ap8 o2 h;refine BQ0 Pb A9 C9 (λx=>.agg (A0 x)) (pI .i64) G2 o2 (pI .i64 0) (by decide +kernel:QF Tryz.prog A9=true) ?_;refine D1 Ly ?_;refine kB Z (A3 Z) Ly Ly 2 (.o (.a false) (.a false)) ?_;apply kI Z h<;>intro h
   .obtain rfl:=A6 h;exact kO Z Ly [0,1,990002,3,4]
   apply kI Z h<;>intro h
   .obtain rfl:=A6 h;exact kO Z Ly [0,1,990002,3,4]
   refine Gh Z Ly ?_;refine Yl Ly M9 PV.str (pI .i64) eqS b (c.sounds.n:Int) c.symbols Ly ?_;refine D1 Ly ?_;refine B5 Z Ly [4] ?_;refine Yl Pb A9 (λx=>.agg (A0 x)) (pI .i64) G2 d (c.sounds.n:Int) c.values (by decide +kernel:QF Tryz.prog A9=true) ?_;refine D1 Ly ?_;refine B5 Z Ly [6] ?_;refine O6 Pb (x:=.sl true 3 1 (G7 Ag6 [(0,H6 (⟨b,d⟩:F9))])) ?_;refine dE h (λh=>?_);obtain rfl:=A6 h;exact kO Z Ly [0,1,79000,3,4] (hle:=kl1 1 (P0 H6 c.sounds (⟨b,d⟩:F9) Ag6))
  replace h:=Ad5 o2 h;refine Bz7 Pb A9 C9 (λx=>.agg (A0 x)) (pI .i64) G2 o2 (by decide +kernel:QF Tryz.prog A9=true) ?_;refine D1 Ly ?_;refine kB Z (A3 Z) Ly Ly 2 (.o (.a false) (.a true)) ?_;apply kI Z h<;>intro h
  .obtain rfl:=A6 h;exact kO Z Ly [0,1,990002,3,4]
  apply kI Z h<;>intro h
  .obtain rfl:=A6 h;exact kO Z Ly [0,1,990002,3,4]
  refine Gh Z Ly ?_;refine Yl Ly M9 PV.str (pI .i64) eqS b (c.sounds.n:Int) c.symbols Ly ?_;refine D1 Ly ?_;refine B5 Z Ly [4] ?_;refine Yl Pb A9 (λx=>.agg (A0 x)) (pI .i64) G2 d (c.sounds.n:Int) c.values (by decide +kernel:QF Tryz.prog A9=true) ?_;refine D1 Ly ?_;refine B5 Z Ly [6] ?_;refine O6 Pb (x:=.sl true 3 1 (G7 Ag6 [(0,H6 (⟨b,d⟩:F9))])) ?_;refine dE h (λh=>?_);obtain rfl:=A6 h;exact kO Z Ly [0,1,79000,3,4] (hle:=kl1 1 (P0 H6 c.sounds (⟨b,d⟩:F9) Ag6))
 replace h:=Ad5 o1 h;refine At9 Z Ly M9 C9 PV.str (pI .i64) eqS o1 Ly ?_;refine B5 Z Ly [4] ?_;rcases o3:K4 G2 d c.values with _|v3
 .replace h:=Ap8 o3 h;refine BQ0 Pb A9 C9 (λx=>.agg (A0 x)) (pI .i64) G2 o3 (pI .i64 0) (by decide +kernel:QF Tryz.prog A9=true) ?_;refine D1 Ly ?_;refine kB Z (A3 Z) Ly Ly 2 (.o (.a true) (.a false)) ?_;apply kI Z h<;>intro h
  .obtain rfl:=A6 h;exact kO Z Ly [0,1,990002,3,4]
  apply kI Z h<;>intro h
  .obtain rfl:=A6 h;exact kO Z Ly [0,1,990002,3,4]
  refine Gh Z Ly ?_;refine Yl Ly M9 PV.str (pI .i64) eqS b (c.sounds.n:Int) c.symbols Ly ?_;refine D1 Ly ?_;refine B5 Z Ly [4] ?_;refine Yl Pb A9 (λx=>.agg (A0 x)) (pI .i64) G2 d (c.sounds.n:Int) c.values (by decide +kernel:QF Tryz.prog A9=true) ?_;refine D1 Ly ?_;refine B5 Z Ly [6] ?_;refine O6 Pb (x:=.sl true 3 1 (G7 Ag6 [(0,H6 (⟨b,d⟩:F9))])) ?_;refine dE h (λh=>?_);obtain rfl:=A6 h;exact kO Z Ly [0,1,79000,3,4] (hle:=kl1 1 (P0 H6 c.sounds (⟨b,d⟩:F9) Ag6))
 replace h:=Ad5 o3 h;refine Bz7 Pb A9 C9 (λx=>.agg (A0 x)) (pI .i64) G2 o3 (by decide +kernel:QF Tryz.prog A9=true) ?_;refine D1 Ly ?_;refine kB Z (A3 Z) Ly Ly 2 (.o (.a true) (.a true)) ?_;apply kI Z h<;>intro h
 .obtain rfl:=A6 h;exact kO Z Ly [0,1,990002,3,4]
 apply kI Z h<;>intro h
 .obtain rfl:=A6 h;exact kO Z Ly [0,1,990002,3,4]
 refine Gh Z Ly ?_;refine Yl Ly M9 PV.str (pI .i64) eqS b (c.sounds.n:Int) c.symbols Ly ?_;refine D1 Ly ?_;refine B5 Z Ly [4] ?_;refine Yl Pb A9 (λx=>.agg (A0 x)) (pI .i64) G2 d (c.sounds.n:Int) c.values (by decide +kernel:QF Tryz.prog A9=true) ?_;refine D1 Ly ?_;refine B5 Z Ly [6] ?_;refine O6 Pb (x:=.sl true 3 1 (G7 Ag6 [(0,H6 (⟨b,d⟩:F9))])) ?_;refine dE h (λh=>?_);obtain rfl:=A6 h;exact kO Z Ly [0,1,79000,3,4] (hle:=kl1 1 (P0 H6 c.sounds (⟨b,d⟩:F9) Ag6))
def Be (N:Nat)(a:Sl Str):Option ((Option A7)×Int):= ite (decide (24<(a.n:Int))) (some (none,12)) (N3 N (λb (x1:Int)=>ite (decide (x1<(a.n:Int))) (ite ((0:Int)<=x1/\x1<(a.n:Int)) ((J6 N (a.g x1.toNat) 16 (λ(u3:Int)=>U1 N u3)).bind λy3=>ite ((!y3)=false->((0:Int)<=0/\0<((a.g x1.toNat).length:Int))) (ite ((!y3)||(decide ((E8 (a.g x1.toNat) 0)<=57))) (some (none,15)) (b (wrap .i64 (x1+1)))) none) none) (V7 N (λc (x2:List (Str×Int)) (x3:Int)=>ite (decide (x3<(a.n:Int))) (ite ((0:Int)<=x3/\x3<(a.n:Int)) (JA (K4 eqS (a.g x3.toNat) x2) (c (Fj eqS (a.g x3.toNat) x3 x2) (wrap .i64 (x3+1))) λv3=>some (none,6)) none) ((D2 N a).bind λy4=>some (some (⟨y4,x2,(Sl.nil:Sl F9),[],[]⟩:A7),0))) [] 0)) 0)
theorem Kw {b:Sl Str}{y:(Option A7)×Int}(h:Be N b=some y) :Yo S Ka [.p (vSl 1 cS b)] [] (.tup [JA y.1 (.p BW1) λ_=>.reg 0 0,pN y.2]) (JA y.1 [] λo=>iO o 1 2 3 4) []:=by
 unfold Be at h;refine A1 Z func131 ?_;apply kI Z h<;>intro h
 .obtain rfl:=A6 h;exact kO Z Ly []
 refine D6 Z Ly h (λx1=>kps [(21,pN x1)] [20,19,4,0] [] [19000,17000,16000,15000]) (λc x1 d h=>?_);apply kI Z h<;>intro h
 .obtain⟨c11,h⟩:=C0 h;refine kD Z h c11 (Fz Z Y (λe=>HT Z Y e)) (λy3 h=>?_);obtain⟨c12,h⟩:=C0 h;refine kB Z (A3 Z) Ly c12 4 (.o (.a (!y3)) (.a (decide ((E8 (b.g x1.toNat) 0)<=57)))) ?_;apply kI Z h<;>intro h
  .obtain rfl:=A6 h;exact kO Z Ly []
  exact d Ly h
 refine F5 Z Ly h (λx2 x3=>kps [(36,pN x3)] [35,34,4,0] [(15000,oM PV.str (pI .i64) x2)] [19000,17000,16000]) (λf x2 x3 i h=>?_);apply kI Z h<;>intro h
 .obtain⟨c23,h⟩:=C0 h;rcases o3:K4 eqS (b.g x3.toNat) x2 with _|v3
  .replace h:=Ap8 o3 h;refine Au0 Z c23 M9 C9 PV.str (pI .i64) eqS o3 (pI .i64 0) Ly ?_;refine kF Z ?_;refine AR4 Z Ly M9 PV.str (pI .i64) eqS (b.g x3.toNat) x3 x2 Ly ?_;exact i Ly h
  replace h:=Ad5 o3 h;refine At9 Z c23 M9 C9 PV.str (pI .i64) eqS o3 Ly ?_;refine kT Z ?_;obtain rfl:=A6 h;exact kO Z Ly []
 refine kC Z h (P3 Z Y) (λy4 h=>?_);obtain rfl:=A6 h;exact kO Z Ly [19000,15000,3802,16000,17000]
def Q6 (N:Nat)(a:A7):Option (Sl Str):= (J5 N a).bind λy1=>ite (!y1) (some (Sl.nil:Sl Str)) ((D2 N a.feats).bind λy2=>some y2)
theorem Kx {a:A7}{y:Sl Str}(h:Q6 N a=some y) :Yo S EP [.reg 0 0] (iO a 1 2 3 4) (.vec 5) ([.cells [.p (vSl 1 cS a.feats),.Yr 1,.vec 2,.Yr 3,.Yr 4],oM PV.str (pI .i64) a.number,oV S1 3 H6 a.sounds true,oM PV.str (pI .i64) a.symbols,oM (λx=>.agg (A0 x)) (pI .i64) a.values,oV M9 1 cS y true]) [true,true,true,true,true]:=by
 unfold Q6 at h;refine A1 Z func134 ?_;obtain⟨y1,e1,h⟩:=E7 h;refine E2 Z [0,1,2,3,4] Ly (BZ Z Y e1) ?_;apply kI Z h<;>intro h
 .obtain rfl:=A6 h;exact kO Z Ly [0,1,2,3,4,3700]
 refine kC Z h (P3 Z Y) (λy2 h=>?_);obtain rfl:=A6 h;exact kO Z Ly [0,1,2,3,4,11000]
end Go.AM
namespace Go.AM
open IntKind (wrap)
open Go.Proofs
set_option maxRecDepth 10000
set_option maxHeartbeats 4000000
def CU {κ ν : Type}(kP : κ -> PV)(vP : ν -> PV):∀l:List (κ × ν),(DX kP vP l).length=l.length
 |[]=>rfl
 |_::l=>congrArg (· + 1) (CU kP vP l)
variable {S:X0}(Z:H4 S Tryz.prog) (Y:Km S)
include Z Y
def T0 (N:Nat)(a:A7):Option (Option A7):= (J5 N a).bind λy1=>ite (!y1) (some none) ((D2 N a.feats).bind λy2=>(J4 N a.sounds).bind λy3=>V7 N (λb (x1:List (Str×Int)) (x2:Int)=>ite (decide (x2<(y2.n:Int))) (ite (((0:Int)<=x2/\x2<(y2.n:Int))/\x2.toNat<y2.n) (b (Fj eqS (y2.g x2.toNat) x2 x1) (wrap .i64 (x2+1))) none) (Bf3 N (λc (x3:List (Str×Int)) (x4:List (Tr×Int)) (x5:Int)=>ite (decide (x5<(y3.n:Int))) (ite (((0:Int)<=x5/\x5<(y3.n:Int))/\x5.toNat<y3.n) (c (Fj eqS (y3.g x5.toNat).Af1 x5 x3) (Fj G2 (y3.g x5.toNat).S x5 x4) (wrap .i64 (x5+1))) none) (some (some (⟨y2,x1,y3,x3,x4⟩:A7)))) [] [] 0)) [] 0)
theorem FA {N:Nat}{b:A7}{y:Option A7}(h:T0 N b=some y) :Yo S Fu [.reg 0 0] (iO b 1 2 3 4) (JA y (.p BW1) λ_=>.reg 5 0) ((iO b 1 2 3 4)++(JA y [] λo=>iO o 6 7 8 9)) [true,true,true,true,true]:=by
 unfold T0 at h;refine A1 Z Tryz.func133 ?_;obtain⟨y1,e1,h⟩:=E7 h;refine E2 Z [0,1,2,3,4] Ly (BZ Z Y e1) ?_;apply kI Z h<;>intro h
 .obtain rfl:=A6 h;exact kO Z Ly [0,1,2,3,4]
 refine G6 Z Ly [(3,.l [0]),(4,.a [16000]),(8,.l [0]),(9,.a [2,21000]),(10,.a [22000]),(11,.a [23000]),(12,.a [24000])] ?_;obtain⟨y2,e2,h⟩:=E7 h;refine Ha [] Ly (P3 Z Y e2) ?_;obtain⟨y3,e3,h⟩:=E7 h;refine Ha [] Ly (BY Z Y e3) ?_;refine D1 Ly ?_;refine F5 Z Ly h (λx1 x2=>kps [(31,pN x2)] [30,29,3] [(22000,oM PV.str (pI .i64) x1)] [26000,24000,23000,21000,16000,4,3,2,1,0]) (λc x1 x2 d h=>?_);apply kI Z h<;>intro h
 .obtain⟨c7,h⟩:=C0 h;refine AR4 Z c7 M9 PV.str (pI .i64) eqS (y2.g x2.toNat) x2 x1 Ly ?_;exact d Ly h
 refine Nx Z Ly h (λx3 x4 x5=>kps [(48,pN x5)] [47,46,3] [(24000,oM (λx=>.agg (A0 x)) (pI .i64) x4),(23000,oM PV.str (pI .i64) x3)] [26000,22000,21000,16000,4,3,2,1,0]) (λf x3 x4 x5 j h=>?_);apply kI Z h<;>intro h
 .obtain⟨c13,h⟩:=C0 h;refine Yd Z (Vb (Vb c13.1 Pc) c13.2) 8000 (H6 (y3.g x5.toNat)) ?_;refine B5 Z Ly [5,11] ?_;refine Bg9 Pb (kt:=M9) (key:=PV.str (y3.g x5.toNat).Af1) (z:=pI .i64 0) (y:=pI .i64 (JQ eqS (y3.g x5.toNat).Af1 (0:Int) x3).2.1) (es:=DX PV.str (pI .i64) x3) (es':=DX PV.str (pI .i64) (JQ eqS (y3.g x5.toNat).Af1 (0:Int) x3).2.2) (i:=(JQ eqS (y3.g x5.toNat).Af1 (0:Int) x3).1) (Rm (kP:=PV.str) (vP:=pI .i64) (eq:=eqS) (λ_ _=>by kernel_rfl) (y3.g x5.toNat).Af1 0 x3) Ly ?_;refine Yi Ly (i:=(JQ eqS (y3.g x5.toNat).Af1 (0:Int) x3).1) (y:=pI .i64 x5) (es:=DX PV.str (pI .i64) (JQ eqS (y3.g x5.toNat).Af1 (0:Int) x3).2.2) (es':=DX PV.str (pI .i64) (Fj eqS (y3.g x5.toNat).Af1 x5 x3)) (by rw[CU];exact ME eqS (y3.g x5.toNat).Af1 0 x3) ((Nz (JQ eqS (y3.g x5.toNat).Af1 (0:Int) x3).2.2 (JQ eqS (y3.g x5.toNat).Af1 (0:Int) x3).1 x5 (ME eqS (y3.g x5.toNat).Af1 0 x3)).trans (congrArg (DX PV.str (pI .i64)) (NA eqS (y3.g x5.toNat).Af1 0 x5 x3))) ?_;refine Bg9 Ly (kt:=A9) (key:=(λx=>.agg (A0 x)) (y3.g x5.toNat).S) (z:=pI .i64 0) (y:=pI .i64 (JQ G2 (y3.g x5.toNat).S (0:Int) x4).2.1) (es:=DX (λx=>.agg (A0 x)) (pI .i64) x4) (es':=DX (λx=>.agg (A0 x)) (pI .i64) (JQ G2 (y3.g x5.toNat).S (0:Int) x4).2.2) (i:=(JQ G2 (y3.g x5.toNat).S (0:Int) x4).1) (Rm (kP:=λx=>.agg (A0 x)) (vP:=pI .i64) (eq:=G2) (λ_ _=>by kernel_rfl) (y3.g x5.toNat).S 0 x4) (by decide +kernel:QF Tryz.prog A9=true) ?_;refine Yi Ly (i:=(JQ G2 (y3.g x5.toNat).S (0:Int) x4).1) (y:=pI .i64 x5) (es:=DX (λx=>.agg (A0 x)) (pI .i64) (JQ G2 (y3.g x5.toNat).S (0:Int) x4).2.2) (es':=DX (λx=>.agg (A0 x)) (pI .i64) (Fj G2 (y3.g x5.toNat).S x5 x4)) (by rw[CU];exact ME G2 (y3.g x5.toNat).S 0 x4) ((Nz (JQ G2 (y3.g x5.toNat).S (0:Int) x4).2.2 (JQ G2 (y3.g x5.toNat).S (0:Int) x4).1 x5 (ME G2 (y3.g x5.toNat).S 0 x4)).trans (congrArg (DX (λx=>.agg (A0 x)) (pI .i64)) (NA G2 (y3.g x5.toNat).S 0 x5 x4))) ?_;refine D1 Ly ?_;exact j Ly h
 obtain rfl:=A6 h;exact kO Z Ly [0,1,2,3,4,26000,22000,21000,23000,24000]
end Go.AM
namespace Go.AM
open Go.Proofs.Tryz
variable {N:Nat}
open IntKind (wrap)
open Go.Proofs
set_option maxRecDepth 10000
set_option maxHeartbeats 2000000
variable {S:X0}(Z:H4 S Tryz.prog) (Y:Km S)
include Z Y
def Aq (N:Nat)(a:A8):Option ((Option A7)×Int):= (Be N a.Feats).bind λy1=>JA y1.1 (ite (y1.2 != 0) (some (none,y1.2)) none) λz1=>ite (y1.2 != 0) (some (none,y1.2)) (fix6 N (λb (x2:Sl Str) (x3:List (Str×Int)) (x4:Sl F9) (x5:List (Str×Int)) (x6:List (Tr×Int)) (x7:Int)=>ite (decide (x7<(a.Sounds.n:Int))) (ite ((0:Int)<=x7/\x7<(a.Sounds.n:Int)) ((P4 N (⟨x2,x3,x4,x5,x6⟩:A7) (a.Sounds.g x7.toNat).Af1 (a.Sounds.g x7.toNat).S).bind λy7=>ite (y7.1 != 0) (some (none,y7.1)) (b y7.2.feats y7.2.number y7.2.sounds y7.2.symbols y7.2.values (wrap .i64 (x7+1)))) none) (some (some (⟨x2,x3,x4,x5,x6⟩:A7),0))) z1.feats z1.number z1.sounds z1.symbols z1.values 0)
theorem Jt {a:A8}{y:(Option A7)×Int}(h:Aq N a=some y) :Yo S Jh [.p (.agg (B2 a))] [] (.tup [JA y.1 (.p BW1) λ_=>.reg 0 0,pN y.2]) (JA y.1 [] λo=>iO o 1 2 3 4) []:=by
 unfold Aq at h;refine A1 Z func90 ?_;obtain⟨y1,e1,h⟩:=E7 h;rcases o1:y1.1 with _|z1
 .replace h:=Ap8 o1 h;have w1:=(Kw Z Y e1);simp only[o1,K5,M5,Ck9,Cj3,Cn4]at w1;refine E2 Z [] Ly w1 ?_;apply kI Z h<;>intro h
  .obtain rfl:=A6 h;exact kO Z Ly []
  cases h
 replace h:=Ad5 o1 h;have w2:=(Kw Z Y e1);simp only[o1,K5,M5,Ck9,Cj3,Cn4]at w2;refine E2 Z [] Ly w2 ?_;apply kI Z h<;>intro h
 .obtain rfl:=A6 h;exact kO Z Ly []
 refine Ca1 Z Ly h (λx2 x3 x4 x5 x6 x7=>kps [(21,pN x7)] [20,19,4] [(13004,oM (λx=>.agg (A0 x)) (pI .i64) x6),(13003,oM PV.str (pI .i64) x5),(13001,oM PV.str (pI .i64) x3),(13000,.cells [.p (vSl 1 cS x2),.Yr 13001,.vec 5500,.Yr 13003,.Yr 13004]),(5500,oV S1 3 H6 x4 true)] []) (λb x2 x3 x4 x5 x6 x7 c h=>?_);apply kI Z h<;>intro h
 .obtain⟨c19,h⟩:=C0 h;obtain⟨y7,e7,h⟩:=E7 h;refine E2 Z [13000,13001,5500,13003,13004] (Vb c19 Pc) (MO Z Y e7) ?_;apply kI Z h<;>intro h
  .obtain rfl:=A6 h;exact kO Z Ly []
  exact c Ly h
 obtain rfl:=A6 h;exact kO Z Ly [13000,13001,5500,13003,13004]
def Ar (N:Nat)(a:GW)(q0:GW):Option Bool:= some ((a.Text==q0.Text) != false)
theorem QZ {a:GW}{q0:GW}{y:Bool}(h:Ar N a q0=some y) :Yo S Jl [.p (.agg (EN a)),.p (.ptr (EN q0))] [] (pB y) ([]) []:=by unfold Ar at h;refine A1 Z func138 ?_;cases h;exact kR Z
def D9 (N:Nat)(a:Sl GW)(c:GW->Option Bool):Option Int:= N3 N (λb (x1:Int)=>ite (decide (x1<(a.n:Int))) (ite ((0:Int)<=x1/\x1<(a.n:Int)) ((c (a.g x1.toNat)).bind λy3=>ite y3 (some x1) (b (wrap .i64 (x1+1)))) none) (some (-1))) 0
theorem Bf {a:Sl GW}{c:GW->Option Bool}{kp_f:Nat}{cp_f_0:List PV}(d:∀{a0:GW}{b:Bool},c a0=some b->Yo S kp_f [.p (.agg (EN a0)),.p (.ptr cp_f_0)] [] (pB b) [] []){y:Int}(h:D9 N a c=some y) :Yo S Q2 [.p (vSl 4 EN a),.clo kp_f [] [.p (.ptr cp_f_0)]] [] (pN y) ([]) []:=by
 unfold D9 at h;refine A1 Z func191 ?_;refine D6 Z Ly h (λx1=>kps [(8,pN x1)] [7,1,0] [] []) (λf x1 g h=>?_);apply kI Z h<;>intro h
 .obtain⟨c8,h⟩:=C0 h;obtain⟨y3,e3,h⟩:=E7 h;refine E2 Z [] (Vb c8 Pd) (d e3) ?_;refine Af6 Z h fun h=>?_;exact g Ly h
 cases h;exact kR Z
def D0 (N:Nat)(a:Sl GW)(b:GW->Option Bool):Option Bool:= (D9 N a b).bind λy1=>some (decide (0<=y1))
theorem At {a:Sl GW}{c:GW->Option Bool}{kp_f:Nat}{cp_f_0:List PV}(d:∀{a0:GW}{b:Bool},c a0=some b->Yo S kp_f [.p (.agg (EN a0)),.p (.ptr cp_f_0)] [] (pB b) [] []){y:Bool}(h:D0 N a c=some y) :Yo S O4 [.p (vSl 4 EN a),.clo kp_f [] [.p (.ptr cp_f_0)]] [] (pB y) ([]) []:=by unfold D0 at h;refine A1 Z func137 ?_;refine kC Z h (Bf Z Y (λe=>d e)) (λy1 h=>?_);cases h;exact kR Z
def Cy (N:Nat)(c:A7)(a:Sl GW):Option Int:= (T0 N c).bind λy1=>JA y1 (some 1) λz1=>ite (decide (32<(a.n:Int))) (some 12) ((Q6 N z1).bind λy2=>ite ((0:Int)<=(y2.n:Int)) (N3 N (λb (x3:Int)=>ite (decide (x3<(a.n:Int))) (ite ((0:Int)<=x3/\x3<(a.n:Int)) (lt (λ(z6:Bool)=>ite z6 (some 15) (lt (λ(z7:Bool)=>ite z7 (some 2) (ite ((0:Int)<=x3/\x3<=(a.n:Int)) ((D0 N (a.take x3.toNat) (λ(u3:GW)=>Ar N u3 (a.g x3.toNat))).bind λd=>ite d (some 6) (b (wrap .i64 (x3+1)))) none)) λk6=>ite ((F3 .and .u32 (F3 .or .u32 (a.g x3.toNat).Clear (F3 .or .u32 (a.g x3.toNat).Set.Plus (a.g x3.toNat).Set.Minus)) (F3 .xor .u32 4294967295 (wrap .u32 ((shI .shl .u32 1 (y2.n:Int))-1)))) != 0) (k6 true) (ite ((F3 .and .u32 (a.g x3.toNat).Clear (F3 .or .u32 (a.g x3.toNat).Set.Plus (a.g x3.toNat).Set.Minus)) != 0) (k6 true) ((H1 N (a.g x3.toNat).Set).bind λf=>k6 (!f))))) λk5=>ite (((a.g x3.toNat).Text==[]) != false) (k5 true) (ite (decide (3<((a.g x3.toNat).Text.length:Int))) (k5 true) ((Ax N (a.g x3.toNat).Text [58,39,34,126,94,95,61,96]).bind λi=>k5 ((i==[]) != true)))) none) ((H2 N a).bind λj=>some 0)) 0) none)
theorem Vr {b:A7}{a:Sl GW}{y:Int}(h:Cy N b a=some y) :Yo S LQ [.reg 0 0,.p (vSl 4 EN a)] (iO b 1 2 3 4) (.tup [.top,pN y]) (iO b 1 2 3 4) [true,true,true,true,true]:=by
 unfold Cy at h;refine A1 Z func91 ?_;obtain⟨y1,e1,h⟩:=E7 h;rcases o1:y1 with _|z1
 .replace h:=Ap8 o1 h;have w1:=(FA Z Y e1);simp only[o1,K5,M5,Ck9,Cj3,Cn4]at w1;refine E2 Z [0,1,2,3,4] Ly w1 ?_;obtain rfl:=A6 h;exact kO Z Ly [0,1,2,3,4]
 replace h:=Ad5 o1 h;have w2:=(FA Z Y e1);simp only[o1,K5,M5,Ck9,Cj3,Cn4]at w2;refine E2 Z [0,1,2,3,4] Ly w2 ?_;apply kI Z h<;>intro h
 .obtain rfl:=A6 h;exact kO Z Ly [0,1,2,3,4]
 obtain⟨y2,e2,h⟩:=E7 h;refine E2 Z [13005,13006,13007,13008,13009] Ly (Kx Z Y e2) ?_;obtain⟨c2,h⟩:=C0 h;refine D6 Z c2 h (λx3=>kps [(26,pN x3)] [25,24,7,6,1] [] [13009,13008,13007,13006,13005,4,3,2,1,0]) (λf x3 i h=>?_);apply kI Z h<;>intro h
 .obtain⟨c40,h⟩:=C0 h;refine GT Z (Vb c40 Pd) (A3 Z) h 0 (λz6=>kps [(38,pB z6)] [26,25,24,10,9,8,7,6,1] [] [13009,13008,13007,13006,13005,10000,4,3,2,1,0]) (λk5 c h=>?_) (λz6 h=>?_)
  .refine kG Z h (λh=>?_) (λh=>?_)
   .exact c Ly h
   refine kG Z h (λh=>?_) (λh=>?_)
   .exact c Ly h
   refine kC Z h (Mk Z Y) (λj h=>?_);exact c Ly h
  apply kI Z h<;>intro h
  .obtain rfl:=A6 h;exact kO Z Ly [0,1,2,3,4]
  refine GT Z Ly (A3 Z) h 0 (λz7=>kps [(54,pB z7)] [26,25,24,9,8,7,6,1] [] [13009,13008,13007,13006,13005,10000,4,3,2,1,0]) (λk6 d h=>?_) (λz7 h=>?_)
  .refine kG Z h (λh=>?_) (λh=>?_)
   .exact d Ly h
   refine kG Z h (λh=>?_) (λh=>?_)
   .exact d Ly h
   refine kC Z h (T3 Z Y) (λl h=>?_);exact d Ly h
  apply kI Z h<;>intro h
  .obtain rfl:=A6 h;exact kO Z Ly [0,1,2,3,4]
  obtain⟨c55,h⟩:=C0 h;refine C6 Z c55 79 10000 (EN (a.g x3.toNat)) ?_;refine kC Z h (At Z Y (λe=>QZ Z Y e)) (λm h=>?_);apply kI Z h<;>intro h
  .obtain rfl:=A6 h;exact kO Z Ly [0,1,2,3,4]
  exact i Ly h
 refine kC Z h (CT Z Y) (λn h=>?_);obtain rfl:=A6 h;exact kO Z Ly [0,1,2,3,4]
def Hh (N:Nat)(a:A8):Option Int:= (Aq N a).bind λy1=>JA y1.1 (ite (y1.2 != 0) (some y1.2) none) λz1=>ite (y1.2 != 0) (some y1.2) ((Cy N z1 a.Marks).bind λy3=>ite (y3 != 0) (some y3) (some 0))
theorem Ak8 {a:A8}{y:Int}(h:Hh N a=some y) :Yo S Qa [.p (.agg (B2 a))] [] (.tup [.top,.top,pN y]) ([]) []:=by
 unfold Hh at h;refine A1 Z func58 ?_;obtain⟨y1,e1,h⟩:=E7 h;rcases o1:y1.1 with _|z1
 .replace h:=Ap8 o1 h;have w1:=(Jt Z Y e1);simp only[o1,K5,M5,Ck9,Cj3,Cn4]at w1;refine E2 Z [] Ly w1 ?_;apply kI Z h<;>intro h
  .obtain rfl:=A6 h;exact kO Z Ly []
  cases h
 replace h:=Ad5 o1 h;have w2:=(Jt Z Y e1);simp only[o1,K5,M5,Ck9,Cj3,Cn4]at w2;refine E2 Z [] Ly w2 ?_;apply kI Z h<;>intro h
 .obtain rfl:=A6 h;exact kO Z Ly []
 obtain⟨y3,e3,h⟩:=E7 h;refine E2 Z [11000,11001,11002,11003,11004] Ly (Vr Z Y e3) ?_;apply kI Z h<;>intro h
 .obtain rfl:=A6 h;exact kO Z Ly []
 obtain rfl:=A6 h;exact kO Z Ly []
def Z5 (N:Nat)(a:A8):Option Int:= (Hh N a).bind λy1=>ite (y1 != 0) (some y1) ((AC N a.Yv a.Yu a.Yy).bind λy2=>some y2)
theorem Hi {a:A8}{y:Int}(h:Z5 N a=some y) :Yo S PX [.p (.agg (B2 a))] [] (pN y) ([]) []:=by
 unfold Z5 at h;refine A1 Z func26 ?_;refine kC Z h (Ak8 Z Y) (λy1 h=>?_);refine Af6 Z h fun h=>?_;refine kC Z h (Mp Z Y) (λy2 h=>?_);cases h;exact kR Z
end Go.AM
