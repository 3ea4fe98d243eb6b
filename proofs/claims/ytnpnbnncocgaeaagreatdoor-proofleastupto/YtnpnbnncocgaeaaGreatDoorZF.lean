/- Part 6. -/
import Derived.Test.YtnpnbnncocgaeaaGreatDoorZE
import Derived.Test.YtnpnbnncocgaeaaGreatDoorZD
import Derived.RecoverIn
import Derived.Test.YtnpnbnncocgaeaaGreatDoorProg
import Derived.Lib.SlTrimSet
import Derived.Lib.Join
import Derived.Lib.ItoaNum
import Derived.Lib.Bytealg
import Derived.TacticsInMore
set_option linter.defProp false
set_option linter.unusedSimpArgs false
set_option linter.unusedVariables false
set_option linter.unusedSectionVars false
namespace Go.AM
def Qe:=@And.intro
abbrev Qd(k n:Nat):Prop:=n*k<=140737488355328/\n<=140737488355328
def Qc(l:List Nat):List (Nat×Nat):=l.map fun a=>(a,a)
abbrev Ox:Sl Int:=Sl.nil
def Ow:true=true:=rfl
def Ov:(18:Nat)<=18:=by decide
def Nt:(7:Nat)<=7:=by decide
def Mn:(2:Nat)<=2:=by decide
def Jy:=True.intro
noncomputable abbrev BS8:=Go.Proofs.Tryz.prog.funcs
def BV2:=@Bool.eq_iff_iff
def Ch1:=@BitVec.toNat_ofNat
def Ch6:=@BitVec.getLsbD_shiftLeft
def Ck5:=@BitVec.getLsbD_one
theorem Id (D:List Deferred)(a:Act)(d:Option Tmp)(v:Value):(Tt D a).put d v=Tt D (a.put d v):=by cases d<;>rfl
def Ng {F:Fence}{n:Nat}{P:Program}{ops:Array Oper}{Q:Exit->Act->World->Prop}(D:List Deferred):∀(l:List Nat) (a:Act) (w:World),wpOpsIn F n P ops Q l a w ->
 wpOpsIn F n P ops (λe a' w'=>∃a0,a' = Tt D a0/\Q e a0 w') l (Tt D a) w
 |[],a,w,h=>⟨a,rfl,h⟩
 |i::l,a,w,h=>by
  have ih:=Ng (F:=F) (n:=n) (P:=P) (ops:=ops) (Q:=Q) D l;simp only[wpOpsIn]at h⊢;have e1:(Tt D a).eval=a.eval:=by funext x;cases x<;>rfl
  have e2:(Tt D a).tmps=a.tmps:=rfl;cases j:ops[i]? with
  |none=>grind
  |some o=>
   simp only[j]at h⊢;rw[e2,e1];by_cases hw:Region.wanted o (yielded ops a.tmps)=true
   .rw[Fg hw]at h⊢;refine⟨by rw[e1];exact h.1,?_⟩;have b:=h.2;rw[e1];generalize (o.semAt F.round a.eval).run P w=r at b;unfold Oper.uponIn at b⊢;split at b
    .rw[Id];grind
    .rw[Id];grind
    .exact ih _ _ b |> λx=>by
      rename_i d w'
      have:({ (Tt D a)with defers:=d::(Tt D a).defers }:Act).put o.dst undef=Tt D (({ a with defers:=d::a.defers }:Act).put o.dst undef):=by rw[<- Id];rfl
      rw[this];exact x
    .refine⟨b.1,b.2.mono ?_⟩;intro e w' f;cases e with
     |returned v=>have:=ih _ _ f;rw[<- Id]at this;omega
     |panicked ch=>grind
     |outgrown=>obtain⟨a1,w1,g⟩:=f;exact⟨Tt D a1,w1,a1,rfl,g⟩
    .refine⟨b.1,λc cs m=>?_⟩;obtain⟨v,w',g1,g2⟩:=b.2 c cs m
     grind[Id]
    .refine⟨b.1,b.2.mono ?_⟩;intro e w' f;cases e with
     |returned v=>have:=ih _ _ f;rw[<- Id]at this;omega
     |panicked ch=>grind
     |outgrown=>obtain⟨a1,w1,g⟩:=f;exact⟨Tt D a1,w1,a1,rfl,g⟩
    all_goals grind
   simp_all[Gb,Id]
section
variable {P:Program}{C:Ctx}{st:St}{rho:Nat->Value}
def Ie {fn:Func}{R:Ending->World->Prop}{u:FrameMode}(c:u ≠ .run){tmps:Array Value}{D:List Deferred}(b:∀a w,Sat C st a w rho->a.tmps=tmps->LeavesInM Fence.wide 0 P fn tmps R D u w) :∀(ds:List Deferred) (a:Act) (w:World),a.defers=ds->a.tmps=tmps->Sat C st a w rho->LeavesInM Fence.wide 0 P fn tmps R (ds++D) u w
 |[],a,w,hd,ht,h=>b a w h ht
 |d::ds,a,w,hd,ht,h=>by obtain⟨r,w',h1,f,g⟩:=h.unmark hd;exact⟨c,.inl ⟨r,w',h1,f,Ie c b ds { a with defers:=ds } w' rfl ht g⟩⟩
end
structure Node where
 Sx:Int
 Name:Str
 deriving Inhabited,DecidableEq
abbrev F4 (x:Node):List PV:=[(pI .i64 x.Sx),.str x.Name]
structure Qb where
 Plus:Int
 Minus:Int
 deriving Inhabited,DecidableEq
abbrev A0 (x:Qb):List PV:=[(pI .u32 x.Plus),pI .u32 x.Minus]
inductive Pat where
 |nil
 |mk (Kind:Int) (Is:Qb) (Not:Bool) (Min:Int) (Max:Int) (n:Nat) (g:Nat->Pat)
instance:Inhabited Pat:=⟨.nil⟩
def Pat.Kind:Pat->Int
 |.nil=>0
 |.mk x _ _ _ _ _ _=>x
def Pat.Is:Pat->Qb
 |.nil=>default
 |.mk _ x _ _ _ _ _=>x
def Pat.Not:Pat->Bool
 |.nil=>false
 |.mk _ _ x _ _ _ _=>x
def Pat.Min:Pat->Int
 |.nil=>0
 |.mk _ _ _ x _ _ _=>x
def Pat.Max:Pat->Int
 |.nil=>0
 |.mk _ _ _ _ x _ _=>x
def Pat.L:Pat->Sl Pat
 |.nil=>⟨0,λ_=>.nil⟩
 |.mk _ _ _ _ _ n g=>⟨n,g⟩
def CA:Pat->Nat->List PV
 |.nil=>λ_=>[]
 |.mk _ _ _ _ _ n g=>λi=>[(pI .i64 (g i).Kind),pI .u32 (g i).Is.Plus,pI .u32 (g i).Is.Minus,.bb (g i).Not,pI .i64 (g i).Min,pI .i64 (g i).Max,.sl false 7 (g i).L.n (CA (g i))]
abbrev B7 (x:Pat):List PV:=[(pI .i64 x.Kind),pI .u32 x.Is.Plus,pI .u32 x.Is.Minus,.bb x.Not,pI .i64 x.Min,pI .i64 x.Max,.sl false 7 x.L.n (CA x)]
def P7 (x:Pat):∀i,i<x.L.n->CA x i=B7 (x.L.g i):=by
 cases x with
 |nil=>intro i a;exact Hc (show i<0 from a) (by omega)
 |mk Kind Is Not Min Max n g=>exact λ_ _=>rfl
structure Ex where
 From:Int
 Clear:Int
 Set:Qb
 Take:Int
 Of:Int
 deriving Inhabited,DecidableEq
abbrev Y7 (x:Ex):List PV:=[(pI .i64 x.From),pI .u32 x.Clear,pI .u32 x.Set.Plus,pI .u32 x.Set.Minus,pI .u32 x.Take,pI .i64 x.Of]
structure Law where
 Name:Str
 Left:Pat
 Right:Pat
 If:(Sl Qb)
 Out:(Sl Ex)
 Mode:Int
 deriving Inhabited
abbrev B3 (x:Law):List PV:=[(.str x.Name),pI .i64 x.Left.Kind,pI .u32 x.Left.Is.Plus,pI .u32 x.Left.Is.Minus,.bb x.Left.Not,pI .i64 x.Left.Min,pI .i64 x.Left.Max,.sl false 7 x.Left.L.n (CA x.Left),pI .i64 x.Right.Kind,pI .u32 x.Right.Is.Plus,pI .u32 x.Right.Is.Minus,.bb x.Right.Not,pI .i64 x.Right.Min,pI .i64 x.Right.Max,.sl false 7 x.Right.L.n (CA x.Right),vSl 2 A0 x.If,vSl 6 Y7 x.Out,pI .i64 x.Mode]
structure Sv where
 Tree:(Sl Node)
 Laws:(Sl Law)
 On:(Sl (Sl Int))
 deriving Inhabited
abbrev B0 (x:Sv):List PV:=[(vSl 2 F4 x.Tree),vSl 18 B3 x.Laws,vSl 1 (cL 1 (cI .i64)) x.On]
structure G0 where
 Uc:Str
 S:Qb
 deriving Inhabited,DecidableEq
abbrev D3 (x:G0):List PV:=[(.str x.Uc),pI .u32 x.S.Plus,pI .u32 x.S.Minus]
structure GI where
 Text:Str
 Clear:Int
 Set:Qb
 deriving Inhabited,DecidableEq
abbrev R8 (x:GI):List PV:=[(.str x.Text),pI .u32 x.Clear,pI .u32 x.Set.Plus,pI .u32 x.Set.Minus]
structure K0 where
 Has:Bool
 W:(Sl Qb)
 deriving Inhabited
abbrev F2 (x:K0):List PV:=[(.bb x.Has),vSl 2 A0 x.W]
structure Ub where
 Gloss:Str
 Ua:(Sl K0)
 deriving Inhabited
abbrev H0 (x:Ub):List PV:=[(.str x.Gloss),vSl 2 F2 x.Ua]
structure B4 where
 Feats:(Sl Str)
 Sounds:(Sl G0)
 Marks:(Sl GI)
 Sv:Sv
 Sg:(Sl K0)
 Sz:(Sl Ub)
 deriving Inhabited
abbrev A9 (x:B4):List PV:=[(vSl 1 cS x.Feats),vSl 3 D3 x.Sounds,vSl 4 R8 x.Marks,vSl 2 F4 x.Sv.Tree,vSl 18 B3 x.Sv.Laws,vSl 1 (cL 1 (cI .i64)) x.Sv.On,vSl 2 F2 x.Sg,vSl 2 H0 x.Sz]
structure C9 where
 Ub:Int
 Sd:Int
 Kind:Int
 Cost:Int
 deriving Inhabited,DecidableEq
abbrev D1 (x:C9):List PV:=[(pI .i64 x.Ub),pI .i64 x.Sd,pI .i64 x.Kind,pI .i64 x.Cost]
structure Lm where
 Node:Int
 Place:Int
 Ub:Int
 Sd:Int
 deriving Inhabited,DecidableEq
abbrev Z9 (x:Lm):List PV:=[(pI .i64 x.Node),pI .i64 x.Place,pI .i64 x.Ub,pI .i64 x.Sd]
structure Nh where
 Bad:(Sl C9)
 Sw:(Sl Lm)
 deriving Inhabited
abbrev Rr (x:Nh):List PV:=[(vSl 4 D1 x.Bad),vSl 4 Z9 x.Sw]
structure G3 where
 a0:Int
 a1:Int
 deriving Inhabited,DecidableEq
abbrev D8 (x:G3):List PV:=[(pI .i64 x.a0),pI .i64 x.a1]
structure GY where
 entry:Int
 leaf:Int
 deriving Inhabited,DecidableEq
abbrev Rs (x:GY):List PV:=[(pI .i64 x.entry),pI .i64 x.leaf]
inductive Part where
 |nil
 |sound (x:Qb) (no:Bool)
 |edge (e:Bool)
 |seq (n:Nat) (g:Nat->Part)
 |alt (n:Nat) (g:Nat->Part)
 |rep (o:Part) (mn mx:Int)
instance:Inhabited Part:=⟨.nil⟩
def Part.t:Part->Nat
 |.nil=>0
 |.sound _ _=>345
 |.edge _=>347
 |.seq _ _=>352
 |.alt _ _=>349
 |.rep _ _ _=>351
def Part.v:Part->PV
 |.nil=>.bb false
 |.sound x no=>.agg [pI .u32 x.Plus,pI .u32 x.Minus,.bb no]
 |.edge e=>.agg [.bb e]
 |.seq n g=>.agg [.sl false 1 n λi=>[.iface (g i).t (g i).v]]
 |.alt n g=>.agg [.sl false 1 n λi=>[.iface (g i).t (g i).v]]
 |.rep o mn mx=>.agg [.iface o.t o.v,pI .i64 mn,pI .i64 mx]
abbrev Jv (x:Part):PV:=.iface x.t x.v
abbrev Ln (x:Part):List PV:=[Jv x]
structure AV9 where
 is:Qb
 not:Bool
 deriving Inhabited,DecidableEq
abbrev AB2 (x:AV9):List PV:=[(pI .u32 x.is.Plus),pI .u32 x.is.Minus,.bb x.not]
structure BB6 where
 end_:Bool
 deriving Inhabited,DecidableEq
abbrev BB7 (x:BB6):List PV:=[(.bb x.end_)]
structure Palt where
 l:(Sl Part)
 deriving Inhabited
abbrev BN7 (x:Palt):List PV:=[(vSl 1 Ln x.l)]
structure BN8 where
 of:Part
 min:Int
 max:Int
 deriving Inhabited
abbrev BN9 (x:BN8):List PV:=[(Jv x.of),pI .i64 x.min,pI .i64 x.max]
structure Pseq where
 l:(Sl Part)
 deriving Inhabited
abbrev BO0 (x:Pseq):List PV:=[(vSl 1 Ln x.l)]
structure E1 where
 Made:Bool
 F:(Sl Str)
 S:(Sl G0)
 deriving Inhabited
structure A5 where
 feats:(Sl Str)
 number:List (Str×Int)
 sounds:(Sl G0)
 symbols:List (Str×Int)
 values:List (Qb×Int)
 deriving Inhabited
abbrev G5 (a b:Qb):Bool:=((a.Plus==b.Plus)&&(a.Minus==b.Minus))
open Go.Proofs
abbrev ER:Nat:=3
abbrev Rt:Nat:=4
abbrev Ru:Nat:=5
abbrev Ni:Nat:=6
abbrev Rv:Nat:=7
abbrev Rw:Nat:=8
abbrev ZJ:Nat:=9
abbrev Pg:Nat:=10
abbrev Rx:Nat:=11
abbrev Nj:Nat:=12
abbrev Ph:Nat:=13
abbrev Lo:Nat:=14
abbrev Vm:Nat:=15
abbrev Pj:Nat:=16
abbrev Pk:Nat:=17
abbrev Nk:Nat:=18
abbrev Vn:Nat:=19
abbrev Nl:Nat:=20
abbrev Pl:Nat:=21
abbrev Nm:Nat:=22
abbrev Jw:Nat:=23
abbrev RB:Nat:=24
abbrev RC:Nat:=25
abbrev RD:Nat:=26
abbrev Vo:Nat:=27
abbrev Vp:Nat:=28
abbrev RE:Nat:=29
abbrev RF:Nat:=30
abbrev KF:Nat:=31
abbrev Nn:Nat:=32
abbrev Vq:Nat:=33
abbrev RG:Nat:=34
abbrev Pm:Nat:=35
abbrev No:Nat:=36
abbrev N1:Nat:=37
abbrev U0:Nat:=38
abbrev Pn:Nat:=39
abbrev Np:Nat:=40
abbrev BR:Nat:=41
abbrev Aa:Nat:=42
abbrev Ek:Nat:=43
abbrev RH:Nat:=44
abbrev Z2:Nat:=45
abbrev Jx:Nat:=46
abbrev Ey:Nat:=47
abbrev X5:Nat:=48
abbrev Po:Nat:=49
abbrev Lp:Nat:=50
abbrev Jz:Nat:=51
abbrev Pp:Nat:=52
abbrev RK:Nat:=53
abbrev RM:Nat:=54
abbrev Nq:Nat:=55
abbrev Fn:Nat:=56
abbrev Ig:Nat:=57
abbrev Vr:Nat:=58
abbrev Vs:Nat:=59
abbrev RN:Nat:=60
abbrev RO:Nat:=61
abbrev Vt:Nat:=62
abbrev Lq:Nat:=63
abbrev IN:Nat:=64
abbrev Hv:Nat:=65
abbrev DI:Nat:=66
abbrev Nr:Nat:=67
abbrev Hw:Nat:=68
abbrev Pq:Nat:=69
abbrev Ps:Nat:=70
abbrev Ns:Nat:=71
abbrev U1:Nat:=72
abbrev Lr:Nat:=75
abbrev Ls:Nat:=76
abbrev Lt:Nat:=77
abbrev Lu:Nat:=78
abbrev IO:Nat:=79
abbrev R9:Nat:=80
abbrev Lw:Nat:=81
abbrev RQ:Nat:=82
abbrev Pt:Nat:=83
abbrev AB3:Nat:=84
abbrev RR:Nat:=85
abbrev Pu:Nat:=86
abbrev KH:Nat:=87
abbrev JA:Nat:=88
abbrev Lx:Nat:=89
abbrev IP:Nat:=90
abbrev Ly:Nat:=91
abbrev RV:Nat:=92
abbrev V7:Nat:=93
abbrev Pv:Nat:=94
abbrev CC:Nat:=95
abbrev V8:Nat:=96
abbrev FX:Nat:=97
abbrev CD:Nat:=98
abbrev IQ:Nat:=99
abbrev Lz:Nat:=100
abbrev Pw:Nat:=101
abbrev JC:Nat:=102
abbrev LA:Nat:=109
abbrev U2:Nat:=110
abbrev IR:Nat:=111
abbrev BS:Nat:=112
abbrev Nu:Nat:=113
abbrev LB:Nat:=114
abbrev N9:Nat:=115
abbrev X6:Nat:=116
abbrev K6:Nat:=117
abbrev JE:Nat:=118
abbrev ZZ:Nat:=119
abbrev RY:Nat:=120
abbrev RZ:Nat:=121
abbrev LC:Nat:=122
abbrev Vu:Nat:=123
abbrev Vv:Nat:=124
abbrev AB4:Nat:=125
abbrev Vw:Nat:=126
abbrev Sa:Nat:=127
abbrev JF:Nat:=128
abbrev O2:Nat:=129
abbrev IT:Nat:=130
abbrev LD:Nat:=131
abbrev Px:Nat:=132
abbrev Bz:Nat:=133
abbrev Aa1:Nat:=134
abbrev AG:Nat:=135
abbrev JG:Nat:=136
abbrev FZ:Nat:=137
abbrev Fd:Nat:=138
abbrev Ez:Nat:=139
abbrev Hd:Nat:=140
abbrev Nv:Nat:=141
abbrev O3:Nat:=142
abbrev IU:Nat:=143
abbrev U3:Nat:=144
abbrev Nw:Nat:=145
abbrev Bi:Nat:=152
abbrev J1:Nat:=153
abbrev V9:Nat:=154
abbrev Ga:Nat:=155
abbrev P4:Nat:=156
abbrev IV:Nat:=157
abbrev LE:Nat:=158
abbrev Aa2:Nat:=159
abbrev Nx:Nat:=160
abbrev JI:Nat:=161
abbrev LF:Nat:=162
abbrev LG:Nat:=163
abbrev Vx:Nat:=164
abbrev Py:Nat:=165
abbrev Ny:Nat:=166
abbrev Vy:Nat:=167
abbrev Nz:Nat:=168
abbrev Sf:Nat:=169
abbrev Pz:Nat:=170
abbrev N6:Nat:=171
abbrev P5:Nat:=172
abbrev P9:Nat:=173
abbrev R5:Nat:=174
abbrev Mp:Nat:=175
abbrev Fe:Nat:=176
abbrev Hx:Nat:=177
abbrev X7:Nat:=178
abbrev Ff:Nat:=179
abbrev EA:Nat:=180
abbrev Z3:Nat:=181
abbrev Dn:Nat:=182
abbrev S1:Nat:=183
abbrev Q0:Nat:=191
abbrev U4:Nat:=193
abbrev S2:Nat:=194
abbrev Ae:Nat:=195
abbrev Sh:Nat:=196
abbrev PA:Nat:=197
abbrev LH:Nat:=198
abbrev LI:Nat:=199
abbrev Hy:Nat:=200
abbrev Vz:Nat:=201
abbrev IW:Nat:=202
abbrev VA:Nat:=203
abbrev Si:Nat:=204
abbrev LJ:Nat:=205
abbrev T1:Nat:=206
abbrev O5:Nat:=207
abbrev S3:Nat:=208
abbrev Sj:Nat:=214
abbrev PB:Nat:=215
abbrev Aa7:Nat:=216
abbrev Aa8:Nat:=217
abbrev Sk:Nat:=218
abbrev VB:Nat:=219
abbrev Sm:Nat:=220
abbrev PC:Nat:=221
abbrev I8:Nat:=222
abbrev Sn:Nat:=227
abbrev Ab0:Nat:=228
abbrev NA:Nat:=229
abbrev So:Nat:=230
abbrev Mr:Nat:=234
abbrev VC:Nat:=235
abbrev Q6:Nat:=236
abbrev Ab1:Nat:=237
abbrev Ab2:Nat:=238
abbrev NB:Nat:=239
abbrev Sp:Nat:=240
abbrev Ab3:Nat:=241
abbrev Sq:Nat:=242
abbrev VD:Nat:=243
abbrev JK:Nat:=244
abbrev PD:Nat:=245
abbrev Hz:Nat:=246
abbrev K3:Nat:=247
abbrev LK:Nat:=248
abbrev PE:Nat:=249
abbrev Ab7:Nat:=250
abbrev Ab8:Nat:=251
abbrev NC:Nat:=252
abbrev BW:Nat:=253
abbrev ND:Nat:=254
abbrev Sr:Nat:=255
abbrev Ss:Nat:=256
abbrev Su:Nat:=257
abbrev JL:Nat:=258
abbrev PF:Nat:=259
abbrev VE:Nat:=260
abbrev PG:Nat:=261
abbrev VF:Nat:=262
abbrev NE:Nat:=263
abbrev NF:Nat:=264
abbrev LL:Nat:=265
abbrev VG:Nat:=266
abbrev Ii:Nat:=267
abbrev Ac1:Nat:=268
abbrev JM:Nat:=269
abbrev El:Nat:=270
abbrev EV:Nat:=271
abbrev JN:Nat:=272
abbrev VH:Nat:=273
abbrev PH:Nat:=274
abbrev VJ:Nat:=275
abbrev Sy:Nat:=276
abbrev EB:Nat:=297
abbrev Gc:Nat:=298
abbrev He:Nat:=299
abbrev Ij:Nat:=300
abbrev GP:Nat:=301
abbrev Ik:Nat:=302
abbrev JP:Nat:=303
abbrev BD:Nat:=304
abbrev Il:Nat:=305
abbrev D2:Nat:=3
abbrev Bu4:Nat:=4
abbrev H8:Nat:=5
abbrev J6:Nat:=9
abbrev EC:Nat:=26
abbrev XA:Nat:=29
abbrev XB:Nat:=33
abbrev E8:Nat:=37
abbrev Fv:Nat:=42
abbrev Aq5:Nat:=49
abbrev HA:Nat:=64
abbrev AJ:Nat:=68
abbrev KI:Nat:=75
abbrev B1:Nat:=78
abbrev HB:Nat:=81
abbrev I9:Nat:=84
abbrev D4:Nat:=91
abbrev X8:Nat:=119
abbrev BF:Nat:=126
abbrev AX3:Nat:=139
abbrev E2:Nat:=180
abbrev J7:Nat:=197
abbrev VK:Nat:=231
abbrev Aq6:Nat:=337
open IntKind (wrap)
abbrev U (x:BitVec 64):Int:=(x.toNat:Int)
theorem NH {n:Nat}(h:n<2 ^ 64):IntKind.u64.wrap (n:Int)=n:=by
 have h1:((n:Int) % (2 ^ 64:Int))=n:=by omega
 simp_all[wrap,IntKind.bits,IntKind.signed,Cd9,BT6,Ih]
theorem Aq7 (x:BitVec 64):BitVec.ofInt 64 (U x)=x:=by
 grind
def and64 (x y:BitVec 64):E6 .and .u64 (U x) (U y)=U (x &&& y):=by
 grind[E6,IntKind.bits,Aq7,NH]
def BS1 (x y:BitVec 64):E6 .or .u64 (U x) (U y)=U (x ||| y):=by
 grind[E6,IntKind.bits,Aq7,NH]
def Bm8 (x y:BitVec 64):E6 .andNot .u64 (U x) (U y)=U (x &&& ~~~ y):=by
 grind[E6,IntKind.bits,Aq7,NH]
def shr64 (x:BitVec 64)(n:Nat):shI .shr .u64 (U x) n=U (x >>> n):=by
 simp only[shI,IntKind.bits,BS9];have hx:=x.isLt;show Int.fdiv (x.toNat:Int) (2 ^ min n 64)=((x >>> n).toNat:Int);rw[Cf2,Ce9];have e:((2:Int) ^ (min n 64))=((2 ^ (min n 64):Nat):Int):=by norm_cast
 rw[e,Ch0 _ (Ck3 _),<- Int.natCast_ediv];congr 1;by_cases h:n<=64
 .rw[Ca2 h]
 rw[Cg4 (by omega),Cb4 hx,Cb4];exact BU8 hx (Cc3 (by omega) (by omega))
def BO1:(1:Int)=U 1#64:=rfl
def Ac3 (n:Nat)(h:n<64):shI .shl .u64 1 n=U (1#64 <<< n):=by
 simp only[shI,IntKind.bits,BS9];rw[Ca2 (by omega)];show wrap .u64 (1*2 ^ n)=((1#64 <<< n).toNat:Int);rw[Cg1,Ci4];have h1:(2:Nat) ^ n<2 ^ 64:=Nat.pow_lt_pow_right (by omega) h;have e:((1:Int)*2 ^ n)=((2 ^ n:Nat):Int):=by norm_cast;omega
 rw[e,NH h1]
 norm_cast
 rw[BZ8]
 all_goals grind
def BB8 {i:Nat}:(1#64).getLsbD i=decide (i=0):=by rw[Ck5];simp
def XC {n i:Nat}(h:n<64)(a:i<64):(1#64 <<< n).getLsbD i=decide (i=n):=by
 rw[Ch6,BB8,BV2]
 grind
def bit64 (x:BitVec 64)(i:Nat):(E6 .and .u64 (shI .shr .u64 (U x) (i:Int)) 1==1)=x.getLsbD i:=by
 rw[shr64,BO1,and64];have h:(x >>> i &&& 1#64)=(BitVec.ofBool (x.getLsbD i)).setWidth 64:=by
  grind
 rw[h];cases x.getLsbD i<;>rfl
def Bm9 {x y:BitVec 64}(h:∀b,b<64->(x.getLsbD b=true↔y.getLsbD b=true)):x=y:=
 (by grind)
def LM (n:Nat)(R:Nat->Nat->Prop):Nat->Nat->Nat->Prop
 |0=>λa b=>a=b
 |k+1=>λa b=>∃c,c<=n/\LM n R k a c/\R c b
def Bu5 (n:Nat)(Q:Nat->Nat->Nat->Prop):Nat->Nat->Nat->Prop
 |0=>λa b=>a=b
 |i+1=>λa b=>∃c,c<=n/\Bu5 n Q i a c/\Q i c b
def Fwd (n:Nat)(R:Nat->Nat->Prop):Prop:=∀a b,a<=n->R a b->a<=b/\b<=n
def NI {n:Nat}{R:Nat->Nat->Prop}(h:Fwd n R):∀k,Fwd n (LM n R k)
 |0,a,b,ha,hb=>by obtain rfl:a=b:=hb;omega
 |k+1,a,b,ha,⟨c,hc,h1,h2⟩=>by have g1:=NI h k a c ha h1;have g2:=h c b hc h2;omega
def AB5 {n:Nat}{Q:Nat->Nat->Nat->Prop}:∀k,(∀i,i<k->Fwd n (Q i))->Fwd n (Bu5 n Q k)
 |0,_,a,b,ha,hb=>by obtain rfl:a=b:=hb;omega
 |k+1,h,a,b,ha,⟨c,hc,h1,h2⟩=>by have g1:=AB5 k (by grind) a c ha h1;have g2:=h k (by omega) c b hc h2;omega
theorem GQ {n:Nat}{R:Nat->Nat->Prop}(h:Fwd n R)(j:Nat){a:Nat}(ha:a<=n):∀k b,LM n R (j+k) a b ↔ ∃c,c<=n/\LM n R j a c/\LM n R k c b
 |0,b=>⟨λhp=>⟨b,(NI h j a b ha hp).2,hp,rfl⟩,fun⟨c,_,hp,e⟩=>by obtain rfl:c=b:=e;omega⟩
 |k+1,b=>by
  constructor
  .rintro⟨d,f,h1,g⟩;obtain⟨c,hc,g1,g2⟩:=(GQ h j ha k d).1 h1;exact⟨c,hc,g1,d,f,g2,g⟩
  rintro⟨c,hc,g1,d,f,g2,g⟩;exact⟨d,f,(GQ h j ha k d).2 ⟨c,hc,g1,g2⟩,g⟩
def VL {n:Nat}{R:Nat->Nat->Prop}(h:Fwd n R){a:Nat}(ha:a<=n):∀k b,LM n R (k+1) a b->LM n R k a b \/ a+(k+1)<=b
 |0,b,⟨c,hc,h1,h2⟩=>by
  obtain rfl:a=c:=h1;by_cases e:a=b
  .exact .inl e
  have:=(h a b ha h2).1;omega
 |k+1,b,⟨c,hc,h1,h2⟩=>by
  by_cases e:c=b
  .grind
  have:=(h c b hc h2).1
  rcases VL h ha k c h1 with g|g
  .exact .inl ⟨c,hc,g,h2⟩
  omega
def Ac4 {n:Nat}{R:Nat->Nat->Prop}(h:Fwd n R){a:Nat}(ha:a<=n){k b:Nat}(hk:n<=k)(hp:LM n R (k+1) a b):LM n R k a b:=by
 rcases VL h ha k b hp with g|g
 .exact g
 have:=(NI h (k+1) a b ha hp).2;omega
def Ac5 {n:Nat}{R:Nat->Nat->Prop}(h:Fwd n R){a:Nat}(ha:a<=n){b:Nat}:∀k,LM n R k a b->∃j,j<=n/\LM n R j a b
 |0,hp=>by grind
 |k+1,hp=>by
  by_cases hk:n<=k
  .exact Ac5 h ha k (Ac4 h ha hk hp)
  grind
theorem SB {n:Nat}{R:Nat->Nat->Prop}(h:Fwd n R){a:Nat}(ha:a<=n):∀k b,LM n (λx y=>R x y \/ x=y) k a b ↔ ∃j,j<=k/\LM n R j a b
 |0,b=>⟨λe=>⟨0,BT8 _,e⟩,fun⟨j,f,hp⟩=>by
  obtain rfl:j=0:=by omega
  exact hp⟩
 |k+1,b=>by
  constructor
  .rintro⟨c,hc,h1,d⟩;obtain⟨j,f,hp⟩:=(SB h ha k c).1 h1;rcases d with d|d
   .exact⟨j+1,by omega,c,hc,hp,d⟩
   grind
  rintro⟨j,f,hp⟩;by_cases e:j<=k
  .have hb:=(NI h j a b ha hp).2;exact⟨b,hb,(SB h ha k b).2 ⟨j,e,hp⟩,.inr rfl⟩
  obtain rfl:j=k+1:=by omega
  obtain⟨c,hc,h1,d⟩:=hp;exact⟨c,hc,(SB h ha k c).2 (by grind),.inl d⟩
def AP1 (s c:Qb):Bool:=(E6 .and .u32 s.Plus c.Plus==c.Plus)&&(E6 .and .u32 s.Minus c.Minus==c.Minus)
def PR (w:Sl Qb):Pat->Nat->Nat->Prop
 |.nil=>λa b=>a=b
 |.mk kind is no mn mx m g=>λa b=>
  if kind=0 then a=b
  else if kind=1 then a<w.n/\b=a+1/\(AP1 (w.g a) is != no)=true
  else if kind=2 then a=0/\b=0
  else if kind=6 then a=w.n/\b=w.n
  else if kind=3 then Bu5 w.n (λi=>PR w (g i)) m a b
  else if kind=4 then ∃i,i<m/\PR w (g i) a b
  else if kind=5 then ∃k:Nat,mn<=k/\(mx = -1 \/ (k:Int)<=mx)/\LM w.n (PR w (g 0)) k a b
  else False
def Ac6 (w:Sl Qb):∀p:Pat,Fwd w.n (PR w p)
 |.nil,a,b,ha,h=>by obtain rfl:a=b:=h;omega
 |.mk kind is no mn mx m g,a,b,ha,h=>by
  simp only[PR]at h;split at h
  .omega
  split at h
  .omega
  split at h
  .omega
  split at h
  .omega
  split at h
  .exact AB5 m (λi _=>Ac6 w (g i)) a b ha h
  split at h
  .obtain⟨i,_,c⟩:=h;exact Ac6 w (g i) a b ha c
  split at h
  .obtain⟨k,_,_,hk⟩:=h;exact NI (Ac6 w (g 0)) k a b ha hk
  grind
def TabR (n:Nat)(R:Nat->Nat->Prop)(f:Nat->Int):Prop:=∀a,a<=n->∃x:BitVec 64,f a=U x/\∀b,b<64->(x.getLsbD b=true↔b<=n/\R a b)
def TabR.congr {n:Nat}{R R' : Nat->Nat->Prop}{f:Nat->Int}(h:TabR n R f)(c:∀a b,a<=n->b<=n->(R a b↔R' a b)):TabR n R' f:=λa ha=>by
 obtain⟨x,e,hx⟩:=h a ha
 grind
def TabR.uniq {n:Nat}{R:Nat->Nat->Prop}{f g:Nat->Int}(h:TabR n R f)(h' : TabR n R g){a:Nat}(ha:a<=n):f a=g a:=by obtain⟨x,e,hx⟩:=h a ha;obtain⟨y,e',hy⟩:=h' a ha;rw[e,e',Bm9 λb hb=>(hx b hb).trans (hy b hb).symm]
def TabR.bit {n:Nat}{R:Nat->Nat->Prop}{f:Nat->Int}(h:TabR n R f){a b:Nat}(ha:a<=n)(hb:b<64):(E6 .and .u64 (shI .shr .u64 (f a) (b:Int)) 1==1)=true↔b<=n/\R a b:=by obtain⟨x,e,hx⟩:=h a ha;rw[e,bit64];grind
open Go.Proofs.Tryz
variable {N:Nat}
abbrev Bn0:List AV:=[.reg 0 0,.reg 1 0,.reg 2 0,.reg 3 0]
abbrev Aq8 (c:Int)(a:Sl Law)(b:Sl Qb)(y:PV):List Obj:=[.cells [pN c],.cells [.p (vSl 18 B3 a)],.cells [.p (vSl 2 A0 b)],.cells [.p y]]
structure KY (S:W9):Prop where
 attR:∀{a:Sl Law}{b y:Sl Qb},Qi S K6 [.p (vSl 18 B3 a),.p (vSl 2 A0 b)] [] (.p (vSl 2 A0 y)) [] []->Qi S N9 Bn0 (Aq8 0 a b I3) (.tup []) (Aq8 0 a b (vSl 2 A0 y)) [true,true,true,true]
 attP:∀{a:Sl Law}{b:Sl Qb}{c:Int},(S.F K6 [.p (vSl 18 B3 a),.p (vSl 2 A0 b)] [] λres o k=>res=.panic (.iface 251 (pI .i64 c))/\o=[]/\k=[])->Qi S N9 Bn0 (Aq8 0 a b I3) (.tup []) (Aq8 c a b I3) [true,true,true,true]
 tz:∀x:BitVec 64,YF S U4 [.p (pI .u64 (U x))] (.p (pI .i64 (Lib.ctz 64 x.toNat:Nat)))
 trim:∀s c:Str,s.length<1000000000000->c.length<1000000->(∀b∈c,b.toNat<128)->YF S Hd [.p (.str s),.p (.str c)] (.p (.str (Lib.trimS s c)))
 growS:∀(f:Nat->List PV) (n:Nat),n*8<=140737488355328->Qi S K3 [.p I3,.p (pI .i64 (n:Int))] [] (.vec 0) [.vec B1 2 0 f false] []
 join:∀(nn:Bool) (n:Nat) (g:Nat->List UInt8) (sep:List UInt8),n<=140737488355328->(Lib.join ((List.range n).map g) sep).length<=140737488355328 ->
  YF S Ek [.p (.sl nn 1 n λi=>[.str (g i)]),.p (.str sep)] (.p (.str (Lib.join ((List.range n).map g) sep)))
 indexByte:∀(s:List UInt8) (c:UInt8),YF S Z3 [.p (.str s),.p (.v (.int .u8 c.toNat))] (.p (.v (.int .i64 (Lib.indexByte s c))))
 fmtInt:∀n:Int,-9223372036854775808<=n->n<=9223372036854775807->YF S Z2 [.p (pI .i64 n),.p (pI .i64 10)] (.p (.str (Lib.itoa n)))
 copyCheck:∀(T:Nat) (u n:Nat) (f:Nat->List PV),T=109->Qi S U1 [.reg 0 0] [.blk [0,T,u] 1,.vec H8 1 n f false] (.tup []) [.blk [0,T,1] 1,.vec H8 1 n f false] [true,true]
 bstr:∀(T u n:Nat) (f:Nat->List PV) (s:List UInt8),T=109->s.length=n->(∀i,i<n->f i=[.v (.int .u8 (s.getD i 0).toNat)])->Qi S X5 [.reg 0 0] [.blk [0,T,u] 1,.vec H8 1 n f false] (.p (.str s)) [] []
def I4 (N:Nat)(x:Int):Option Int:=if 0<=x/\x<18446744073709551616 then some ((Lib.ctz 64 x.toNat:Nat):Int)else none
def Am (N:Nat)(s c:Str):Option Str:=if s.length<1000000000000/\c.length<1000000/\(c.all λb=>decide (b.toNat<128)) then some (Lib.trimS s c)else none
def K4 (N:Nat)(n:Int):Option (Sl Qb):=if 0<=n/\n*8<=140737488355328 then some (Sl.nil:Sl Qb)else none
section
variable {S:W9}(Z:H6 S Tryz.prog) (Y:KY S)
include Z Y
theorem Gd {x y:Int}(h:I4 N x=some y):Qi S U4 [.p (pI .u64 x)] [] (.p (pI .i64 y)) [] []:=by
 obtain⟨⟨a,h1⟩,h⟩:=B9 h;obtain rfl:=A6 h
 have:=Y.tz (BitVec.ofNat 64 x.toNat)
 have e:(BitVec.ofNat 64 x.toNat).toNat=x.toNat:=by rw[Ch1];omega
 have e2:U (BitVec.ofNat 64 x.toNat)=x:=by show ((BitVec.ofNat 64 x.toNat).toNat:Int)=x;rw[e];omega
 rw[e,e2]at this;exact this
theorem LN {s c:Str}{y:Str}(h:Am N s c=some y):Qi S Hd [.p (.str s),.p (.str c)] [] (.p (.str y)) [] []:=by obtain⟨⟨a,h1,d⟩,h⟩:=B9 h;obtain rfl:=A6 h;exact Y.trim s c a h1 λb hb=>by simpa using BU0.1 d b hb
theorem BX {n:Int}{y:Sl Qb}(h:K4 N n=some y):Qi S K3 [.p I3,.p (pI .i64 n)] [] (.vec 0) [.vec B1 2 y.n (λi=>A0 (y.g i)) false] []:=by
 obtain⟨⟨a,h1⟩,h⟩:=B9 h;obtain rfl:=A6 h
 have:=Y.growS (λi=>A0 default) n.toNat (by omega)
 rw[show ((n.toNat:Nat):Int)=n by omega]at this;exact this
def B2 (N:Nat)(s:Sl Qb):Option (Sl Qb):=if (0+s.n)*8<=140737488355328/\0+s.n<=140737488355328 then some s else none
theorem S4 {s y:Sl Qb}(h:B2 N s=some y):Qi S J1 [.p (vSl 2 A0 s)] [] (.vec 0) [.vec B1 2 y.n (λi=>A0 (y.g i)) true] []:=by
 unfold B2 at h;obtain⟨c1,h⟩:=B9 h;obtain rfl:=A6 h;refine A1 Z func153 ?_;refine ZB Z Jy 3 (k:=2) (n:=s.n) (f:=λi=>A0 (s.g i)) (λa=>?_) ?_
 .obtain⟨n,g⟩:=s;obtain rfl:n=0:=a;exact kO Z Jy [3700]
 exact kO Z (Qe Ow c1) [8000]
  (hle:=kl1 0 (Bu3 A0 s [pI .u32 0,pI .u32 0]))
def H7 (N:Nat)(s:Sl Ex):Option (Sl Ex):=if (0+s.n)*32<=140737488355328/\0+s.n<=140737488355328 then some s else none
theorem Bl {s y:Sl Qb}(h:B2 N s=some y):Qi S J1 [.p (vSl 2 A0 s)] [] (.p (vSl 2 A0 y)) [] []:=by
 unfold B2 at h;obtain⟨c1,h⟩:=B9 h;obtain rfl:=A6 h;refine A1 Z func153 ?_;refine ZB Z Jy 3 (k:=2) (n:=s.n) (f:=λi=>A0 (s.g i)) (λa=>?_) ?_
 .obtain⟨n,g⟩:=s;obtain rfl:n=0:=a;exact kO Z Jy []
 exact kO Z (Qe Ow c1) []
  (hle:=kl1 0 (Bu3 A0 s [pI .u32 0,pI .u32 0]))
theorem Dd {s y:Sl Ex}(h:H7 N s=some y):Qi S V9 [.p (vSl 6 Y7 s)] [] (.p (vSl 6 Y7 y)) [] []:=by
 unfold H7 at h;obtain⟨c1,h⟩:=B9 h;obtain rfl:=A6 h;refine A1 Z func154 ?_;refine ZB Z Jy 3 (k:=6) (n:=s.n) (f:=λi=>Y7 (s.g i)) (λa=>?_) ?_
 .obtain⟨n,g⟩:=s;obtain rfl:n=0:=a;exact kO Z Jy []
 exact kO Z (Qe Ow c1) []
  (hle:=kl1 0 (Bu3 Y7 s [pI .i64 0,pI .u32 0,pI .u32 0,pI .u32 0,pI .u32 0,pI .i64 0]))
end
end Go.AM
set_option maxRecDepth 100000
namespace Go.AM
open Go.Proofs.Tryz
open Go.Proofs
def AK4 (v:Value)(w:World):(Instr.typeAssert (.iface 251 v) 20 251 true).run Tryz.prog w=.ok (.tuple #[v,.bool true]) w:=by kernel_rfl
def Aq9 (p:Value)(w:World):CallsDIn Fence.wide 0 Tryz.prog X6 #[p] .returning w λe u' w'=>e=.returned (.tuple #[])/\u' = .returning/\w' = w:=by
 refine callsDIn_of_wpSIn func116 rfl (by simp[Fence.wide]) λc₀ cs a=>?_;apply wpSIn_seq;apply wpSIn_region;simp[wpOpsSIn,go_sem,recoverD,a,f116,Exit.thenS];refine wpSIn_of_wpIn rfl (wpIn_block (wpIn_seq (wpIn_region ?_)));simp[wpOpsIn,Oper.wpIn,Oper.semAt,Oper.uponIn,go_sem,Exit.then];refine wpIn_cond (t:=true) (by simp[Act.eval]) ?_;simp only[Hu];refine wpIn_region ?_;simp[wpOpsIn,Oper.wpIn,Oper.semAt,Oper.uponIn,go_sem,Exit.inBlock,bodyPostS,results];cases c₀
 simp_all
def Qj (p:Value)(c:Int)(older:List PanicEntry)(w w1:World)(a:(Instr.storeAt 38 p (.int .i64 c)).run Tryz.prog w=.ok () w1)(hn:∃b,p=.pointer (some b)) :CallsDIn Fence.wide 0 Tryz.prog X6 #[p] (.panicking ({ v:=.iface 251 (.int .i64 c),recovered:=false }::older)) w λe u' w'=>
  e=.returned (.tuple #[])/\u' = .panicking ({ v:=.iface 251 (.int .i64 c),recovered:=true }::older)/\w' = w1:=by
 obtain⟨b,rfl⟩:=hn;refine callsDIn_of_wpSIn func116 rfl (by simp[Fence.wide]) λc₀ cs d=>?_;apply wpSIn_seq;apply wpSIn_region;simp[wpOpsSIn,go_sem,recoverD,d,f116,Exit.thenS];refine wpSIn_of_wpIn rfl (wpIn_block (wpIn_seq (wpIn_region ?_)));simp[wpOpsIn,Oper.wpIn,Oper.semAt,Oper.uponIn,go_sem,Exit.then];refine wpIn_cond (t:=false) (by simp[Act.eval]) ?_;simp only[BT6,Ih];refine wpIn_seq (wpIn_region ?_);simp[wpOpsIn,Oper.wpIn,Oper.semAt,Oper.uponIn,go_sem,Exit.then,AK4];refine wpIn_cond (t:=true) (by simp[Act.eval]) ?_;simp only[Hu];refine wpIn_seq (wpIn_region ?_);simp[wpOpsIn,Oper.wpIn,Oper.semAt,Oper.uponIn,go_sem,Exit.then];refine wpIn_region ?_;simp[wpOpsIn,Oper.wpIn,Oper.semAt,Oper.uponIn,go_sem,a,Exit.inBlock,bodyPostS,results];simp[go_sem]at a;rw[a];simp[Result.andThen]
noncomputable def BH4:Code:=match Tryz.f115.body with
 |some (.seq _ c)=>c
 |_=>.skip
def BB9 {S:W9}(Z:H6 S Tryz.prog){a:Sl Law}{b y:Sl Qb}(c:Qi S K6 [.p (vSl 18 B3 a),.p (vSl 2 A0 b)] [] (.p (vSl 2 A0 y)) [] []) :KG S Tryz.prog (Vj S (λst=>N5 [0,1,2,3] st.Qg [0,1,2,3]=some (Aq8 0 a b (vSl 2 A0 y))) λ_ _=>False) (.code BH4 [] ⟨Uf Bn0,Qh (Aq8 0 a b I3)⟩):=by refine A8 Z [] Jy c ?_;exact K_upN Z Jy ⟨[],[(3,.cells [.p (vSl 2 A0 y)]),(2,.cells [.p (vSl 2 A0 b)]),(1,.cells [.p (vSl 18 B3 a)]),(0,.cells [pN 0])]⟩ (ids:=(Qc [0,1,2,3])) rfl
def AX4 {S:W9}(Z:H6 S Tryz.prog){a:Sl Law}{b:Sl Qb}{c:Int}(d:S.F K6 [.p (vSl 18 B3 a),.p (vSl 2 A0 b)] [] λres o k=>res=.panic (.iface 251 (pI .i64 c))/\o=[]/\k=[]) :KG S Tryz.prog (Vj S (λ_=>False) λx st=>x=.iface 251 (pI .i64 c)/\store Tryz.prog st.Qg 38 (.reg 0 0) (.p (pI .i64 c))=some ([],ins 0 (.cells [pN c]) st.Qg)/\N5 [0,1,2,3] (ins 0 (.cells [pN c]) st.Qg) [0,1,2,3]=some (Aq8 c a b I3)) (.code BH4 [] ⟨Uf Bn0,Qh (Aq8 0 a b I3)⟩):=by refine BB1 Z [] Jy d ?_;exact K_upP Z Jy ⟨rfl,by kernel_rfl,by kernel_rfl⟩
noncomputable def att1:Code:=match Tryz.f115.body with
 |some (.seq c _)=>c
 |_=>.skip
noncomputable def attOps:Array Oper:=match BH4 with
 |.region _ ops _=>ops
 |_=>#[]
def AB6:BH4=.region 1 attOps false:=by kernel_rfl
def BO2:attOps.toList.all (Ld 7 attOps.toList)=true:=by kernel_rfl
def Bn1:¬Tryz.f115.name = "runtime.NumGoroutine" := by decide +kernel
def AB7:Tryz.f115.body=some (.seq att1 BH4):=by kernel_rfl
def BC0 {C:Ctx}{vs:Array Value}{w:World}{rho:Nat->Value}{args:List AV}{objs:List Obj}{n:Nat}(Z:Sat C ⟨Uf args,Qh objs⟩ ⟨vs,[]⟩ w rho)(a:vs.size=args.length) :Sat C ⟨Uf args,Qh objs⟩ { tmps:=vs++Array.replicate n undef,defers:=[] } w rho:=by
 refine⟨Z.toSatE,λt=>?_,Z.pin,Z.marks⟩
 have:=Z.env t
 by_cases ht:t<vs.size
 .simpa[BT3,Ce3,ht]using this
 show Ud w _ _ _ _ (get (Uf args) t);rw[CW,BT0,BX2 (by omega)];exact .top _
def SD {R:St->Prop}{X:PV->St->Prop}{a:Sl Law}{b:Sl Qb}{objs' : List Obj}
 (a1:KG (HP Tryz.prog) Tryz.prog (Vj (HP Tryz.prog) R X) (.code BH4 [] ⟨Uf Bn0,Qh (Aq8 0 a b I3)⟩))
 (hR:∀st,R st->N5 [0,1,2,3] st.Qg [0,1,2,3]=some objs')
 (hX:∀x st,X x st->∃c regs',x=.iface 251 (pI .i64 c)/\store Tryz.prog st.Qg 38 (.reg 0 0) (.p (pI .i64 c))=some ([],regs')/\N5 [0,1,2,3] regs' [0,1,2,3]=some objs') :
 Qi (HP Tryz.prog) N9 Bn0 (Aq8 0 a b I3) (.tup []) objs' [true,true,true,true]:=by
 intro 𝒢 C w vs rho hG Z t;obtain⟨l⟩:=vs
 match l,t with
 |[v0,v1,v2,v3],t=>?_
 refine⟨.enter N9 #[v0,v1,v2,v3],w,by simp[callFunc,func115,AB7,Bn1],?_⟩;refine callsIn_of_wp_marks func115 AB7 Jy ?_;have a2:=BC0 (n:=Tryz.f115.ntmps-4) Z t;have a9:Tryz.f115.ntmps-4=3:=rfl;rw[a9]at a2;have b1:((#[v0,v1,v2,v3]:Array Value)++Array.replicate 3 undef).size=7:=rfl;have hw:KQ (HP Tryz.prog) Tryz.prog attOps.toList attOps.toList (Vj (HP Tryz.prog) R X) ⟨Uf Bn0,Qh (Aq8 0 a b I3)⟩:=by
  have:=a1.out
  rw[AB6]at this;simpa only[G,awp,kp,BT6,Ih]using this
 have a4:=Re (𝒢:=𝒢.fix C.rho0) (n:=7) (ro:=none) (ops:=attOps) BO2 attOps.toList 0 rfl (by simp) ⟨hG,rfl⟩ a2 b1 hw;have a5:=Ng [{ target:=.fn (.func X6) #[],args:=#[v0] }] _ _ _ a4;rw[Ch2]at a5;obtain⟨b0,a6,u⟩:∃b0,v0=.pointer (some ⟨b0,0,none⟩)/\rho 0=.pointer (some ⟨b0,0,none⟩):=by
  have h0:Ud w _ _ rho v0 (.reg 0 0):=Z.env 0;cases h0 with
  |reg _ _ b0 _ h=>exact⟨b0,rfl,h⟩
 have s:∀{C' : Ctx}{st' : St}{a' : Act}{w' : World}{rho' : Nat->Value},(𝒢.fix C.rho0).G C' -> Sat C' st' a' w' rho' -> N5 [0,1,2,3] st'.Qg [0,1,2,3]=some objs' ->
  LeavesInM Fence.wide 0 Tryz.prog f115 a'.tmps (λe w'=>∃C' r objs0 ks rho', 𝒢.G C' /\ (r=.ret (.tup [])/\objs0=objs' /\ ks=[true,true,true,true])/\SatE C' (Qh objs0) w' rho' /\
   Bh1 w' (Prv C'.X (A2 (Qh objs0)) rho') (Lv (A2 (Qh objs0))) rho' e r/\∀i:Nat,ks[i]? = some true->i<objs0.length/\rho' i=rho i) [] .returning w':=by
  intro C' st' a' w' rho' d f m;obtain⟨g1,g2,g3⟩:=Rf f (by decide) m;obtain⟨hl,hg⟩:=Bh m;refine⟨.tuple #[],by simp[results,f115],C', .ret (.tup []),objs',_,_,d.1,⟨rfl,rfl,rfl⟩,g1,⟨_,rfl,.tup _ _ rfl λi hi=>Hc hi (by simp)⟩,?_⟩;intro i hi;have y:i<4:=by
   have:=(BV1.1 hi).1
   simpa using this
  refine⟨by rw[hl];exact y,?_⟩;have e1:[0,1,2,3][i]? = some i:=by
   match i,y with
   |0,_=>rfl
   |1,_=>rfl
   |2,_=>rfl
   |3,_=>rfl
  obtain⟨o,_,ho,_⟩:=hg i i e1;show rho' ([0,1,2,3].getD i 0)=rho i;rw[ET e1,f.pin i (by omega) (by simp[Lv,ho]),d.2];refine (Z.pin i (by omega) ?_).symm;rw[Lv,F6]
  match i,y with
  |0,_=>rfl
  |1,_=>rfl
  |2,_=>rfl
  |3,_=>rfl
 generalize hQ:bodyPostM _ _ _ _ _=QQ;refine wpIn_seq ?_;simp only[att1,f115];refine wpIn_region ?_;simp[wpOpsIn,Oper.wpIn,Oper.semAt,Oper.uponIn,go_sem,Exit.then];subst hQ;rw[AB6];refine wpIn_mono (wpIn_region (F:=FW none) a5) ?_;rintro e a' w' ⟨a0,rfl,z⟩;cases e with
 |exit id=>obtain⟨_,_,_,_,_,_,h⟩:=z;exact h.elim
 |goto l=>obtain⟨_,_,_,_,_,_,h⟩:=z;exact h.elim
 |ret=>obtain⟨_,_,_,_,_,_,h⟩:=z;exact h.elim
 |outgrown=>exact z.elim
 |normal=>
  obtain⟨C',st',rho',d,f,a7,hu⟩:=z;obtain⟨st2,rho2,hR2,_,hs2⟩:=hu C' a0 w' rho' f;refine Ie (C:=C') (st:=st2) (rho:=rho2) (by simp) ?_ a0.defers a0 w' rfl rfl hs2;intro a3 w3 q ht;refine⟨by simp,.inr ⟨by simp[Fence.wide],_,_,X6,#[v0],rfl,by simp[go_sem],λ_ _=>trivial,?_⟩⟩;refine (Aq9 v0 w3).mono ?_;rintro e u' w4 ⟨rfl,rfl,rfl⟩
  have:=s d q (hR st2 hR2)
  rw[ht]at this;exact this
 |panic chain=>
  obtain⟨C',st',rho',v,x,rfl,d,f,a7,hv,hXx⟩:=z;obtain⟨c,regs',rfl,g,m⟩:=hX x st' hXx;obtain rfl:v=.iface 251 (.int .i64 c):=by
   cases hv with
   |iface _ _ _ h=>cases h;rfl
  refine Ie (C:=C') (st:=st') (rho:=rho') (by simp) ?_ a0.defers a0 w' rfl rfl f;intro a3 w3 q ht;have j:Lv (A2 st'.Qg) 0:=by
   cases hj:A2 st'.Qg 0 with
   |some o=>simp[Lv,hj]
   |none=>
    unfold store at g;split at g
    .simp[hj]at g
    cases g
  have hr0:rho' 0=.pointer (some ⟨b0,0,none⟩):=by rw[q.pin 0 (by omega) j,d.2,<- u];exact (Z.pin 0 (by omega) rfl).symm
  have hva:RS C' st' w3 rho' v0 (.reg 0 0):=by rw[a6];exact .reg 0 0 b0 j hr0
  obtain⟨w4,a8,hs4,_⟩:=QT q (vx:=.int .i64 c) hva (.p _ _ (.v _)) g Jy;refine⟨by simp,.inr ⟨by simp[Fence.wide],_,_,X6,#[v0],rfl,by simp[go_sem],λ_ _=>trivial,?_⟩⟩;refine (Qj v0 c [] w3 w4 a8 ⟨_,a6⟩).mono ?_;rintro e u' w5 ⟨rfl,rfl,rfl⟩
  have:=s d hs4 m
  rw[ht]at this;exact this
def Ar0 {a:Sl Law}{b y:Sl Qb}(c:Qi (HP Tryz.prog) K6 [.p (vSl 18 B3 a),.p (vSl 2 A0 b)] [] (.p (vSl 2 A0 y)) [] []) :Qi (HP Tryz.prog) N9 Bn0 (Aq8 0 a b I3) (.tup []) (Aq8 0 a b (vSl 2 A0 y)) [true,true,true,true]:=
 SD (BB9 (Ai7 Tryz.prog) c) (λst h=>h) (λx st h=>h.elim)
def XD {a:Sl Law}{b:Sl Qb}{c:Int}(d:(HP Tryz.prog).F K6 [.p (vSl 18 B3 a),.p (vSl 2 A0 b)] [] λres o k=>res=.panic (.iface 251 (pI .i64 c))/\o=[]/\k=[]) :Qi (HP Tryz.prog) N9 Bn0 (Aq8 0 a b I3) (.tup []) (Aq8 c a b I3) [true,true,true,true]:=
 SD (AX4 (Ai7 Tryz.prog) d) (λst h=>h.elim) (λx st h=>⟨c,_,h.1,h.2.1,h.2.2⟩)
variable {N:Nat}
open IntKind (wrap)
set_option maxRecDepth 10000
set_option maxHeartbeats 2000000
variable {S:W9}(Z:H6 S Tryz.prog) (Y:KY S)
include Z Y
def H4 (N:Nat)(a:Qb):Option Bool:= some (((E6 .and .u32 a.Plus a.Minus)==0)&&(decide ((E6 .or .u32 a.Plus a.Minus)<=16777215)))
theorem S8 {b:Qb}{y:Bool}(h:H4 N b=some y) :Qi S Nv [.p (.agg (A0 b))] [] (pB y) ([]) []:=by unfold H4 at h;refine A1 Z func141 ?_;refine kB Z (A3 Z) Jy Jy 7 (.n (.a ((E6 .and .u32 b.Plus b.Minus)==0)) (.a (decide ((E6 .or .u32 b.Plus b.Minus)<=16777215)))) ?_;cases h;exact kR Z
def O9 (N:Nat)(b:Qb)(a:Qb):Option Bool:= (H4 N b).bind λy1=>lt (λ(z1:Bool)=>some z1) λk1=>if y1 then (H4 N a).bind λy3=>if y3 then if ((E6 .andNot .u32 a.Plus b.Plus)==0) then k1 ((E6 .andNot .u32 a.Minus b.Minus)==0) else k1 false else k1 false else k1 false
theorem OB {c:Qb}{a:Qb}{y:Bool}(h:O9 N c a=some y) :Qi S Hz [.p (.agg (A0 c)),.p (.agg (A0 a))] [] (pB y) ([]) []:=by
 unfold O9 at h;refine A1 Z func246 ?_;refine kC Z h (S8 Z Y) (λy1 h=>?_);refine GN Z Jy (A3 Z) h 0 (λz1=>⟨[(4,pB z1)],[]⟩) (λM1 k1 b h=>?_) (λz1 h=>?_)
 .refine kG Z h (λh=>?_) (λh=>?_)
  .refine kC Z h (S8 Z Y) (λy3 h=>?_);refine kG Z h (λh=>?_) (λh=>?_)
   .refine kG Z h (λh=>?_) (λh=>?_)
    .exact b _ [] _ _ Jy h
    exact b _ [] _ _ Jy h
   exact b _ [] _ _ Jy h
  exact b _ [] _ _ Jy h
 cases h;exact kR Z
def Ge (N:Nat)(a:Qb):Option Int:= some (E6 .or .u32 a.Plus a.Minus)
theorem SF {a:Qb}{y:Int}(h:Ge N a=some y) :Qi S Ss [.p (.agg (A0 a))] [] (pU y) ([]) []:=by unfold Ge at h;refine A1 Z func256 ?_;cases h;exact kR Z
def DS (N:Nat)(c:Qb)(b:Qb)(a:Int):Option Qb:= some (⟨E6 .or .u32 (E6 .andNot .u32 c.Plus a) (E6 .and .u32 b.Plus a),E6 .or .u32 (E6 .andNot .u32 c.Minus a) (E6 .and .u32 b.Minus a)⟩:Qb)
theorem SH {c:Qb}{a:Qb}{b:Int}{y:Qb}(h:DS N c a b=some y) :Qi S Su [.p (.agg (A0 c)),.p (.agg (A0 a)),pU b] [] (.p (.agg (A0 y))) ([]) []:=by unfold DS at h;refine A1 Z func257 ?_;cases h;exact kR Z
def T2 (N:Nat)(c:Qb)(a:Int)(b:Qb):Option (Qb×Int):= (H4 N c).bind λy1=>lt (λ(z1:Bool)=>if z1 then some ((⟨0,0⟩:Qb),14) else lt (λ(z2:Bool)=>if z2 then some ((⟨0,0⟩:Qb),2) else (Ge N b).bind λy6=>(DS N c b (E6 .or .u32 a y6)).bind λy7=>some (y7,0)) λk2=>if (decide (16777215<a)) then k2 true else (Ge N b).bind λy5=>k2 ((E6 .and .u32 a y5) != 0)) λk1=>if (!y1) then k1 true else (H4 N b).bind λy3=>k1 (!y3)
theorem Uj {c:Qb}{b:Int}{a:Qb}{y:Qb×Int}(h:T2 N c b a=some y) :Qi S LK [.p (.agg (A0 c)),pU b,.p (.agg (A0 a))] [] (.tup [.p (.agg (A0 y.1)),pN y.2]) ([]) []:=by
 unfold T2 at h;refine A1 Z func248 ?_;refine D9 Z Jy 5 4000 [pI .u32 c.Plus,pI .u32 c.Minus] ?_;refine D9 Z Jy 6 6000 [pI .u32 a.Plus,pI .u32 a.Minus] ?_;obtain⟨y1,e1,h⟩:=A7 h;refine A8 Z [] Mn (S8 Z Y e1) ?_;refine GN Z Jy (A3 Z) h 0 (λz1=>⟨[(15,pB z1),(6,.reg 7000 0),(5,.p (.ptr [pI .u32 a.Plus,pI .u32 a.Minus])),(3,.p (.ptr [pI .u32 c.Plus,pI .u32 c.Minus])),(1,pU b)],[(7000,.cells [pU 0,pU 0])]⟩) (λM1 k1 d h=>?_) (λz1 h=>?_)
 .refine kG Z h (λh=>?_) (λh=>?_)
  .exact d _ [(7000,7000)] _ _ Jy h
  obtain⟨y3,e3,h⟩:=A7 h;refine A8 Z [] Mn (S8 Z Y e3) ?_;exact d _ [(7000,7000)] _ _ Jy h
 refine Ug Z h fun h=>?_;refine GN Z Jy (A3 Z) h 0 (λz2=>⟨[(25,pB z2),(6,.reg 7000 0),(5,.p (.ptr [pI .u32 a.Plus,pI .u32 a.Minus])),(3,.p (.ptr [pI .u32 c.Plus,pI .u32 c.Minus])),(1,pU b)],[(7000,.cells [pU 0,pU 0])]⟩) (λM2 k2 f h=>?_) (λz2 h=>?_)
 .refine kG Z h (λh=>?_) (λh=>?_)
  .exact f _ [(7000,7000)] _ _ Jy h
  obtain⟨y5,e5,h⟩:=A7 h;refine A8 Z [] Mn (SF Z Y e5) ?_;exact f _ [(7000,7000)] _ _ Jy h
 refine Ug Z h fun h=>?_;refine B5 Z Jy [0,1,3,4,6] ?_;obtain⟨y6,e6,h⟩:=A7 h;refine F7 (Qe (Qe Mn Mn) Mn) (SF Z Y e6) ?_;obtain⟨y7,e7,h⟩:=A7 h;refine F7 Jy (SH Z Y e7) ?_;refine C7 Jy ?_;cases h;exact kR Z
def Y8 (N:Nat)(c:Qb)(a:Qb)(b:Int):Option (Qb×Int):= (H4 N c).bind λy1=>lt (λ(z1:Bool)=>if z1 then some ((⟨0,0⟩:Qb),14) else if (decide (16777215<b)) then some ((⟨0,0⟩:Qb),2) else (DS N c a b).bind λy4=>some (y4,0)) λk1=>if (!y1) then k1 true else (H4 N a).bind λy3=>k1 (!y3)
theorem Ac7 {c:Qb}{a:Qb}{b:Int}{y:Qb×Int}(h:Y8 N c a b=some y) :Qi S PE [.p (.agg (A0 c)),.p (.agg (A0 a)),pU b] [] (.tup [.p (.agg (A0 y.1)),pN y.2]) ([]) []:=by
 unfold Y8 at h;refine A1 Z func249 ?_;refine kC Z h (S8 Z Y) (λy1 h=>?_);refine GN Z Jy (A3 Z) h 0 (λz1=>⟨[(15,pB z1),(6,.reg 7000 0),(4,.reg 5000 0),(3,.reg 4000 0),(2,pU b)],[(7000,.cells [pU 0,pU 0]),(5000,.cells [pU a.Plus,pU a.Minus]),(4000,.cells [pU c.Plus,pU c.Minus])]⟩) (λM1 k1 d h=>?_) (λz1 h=>?_)
 .refine kG Z h (λh=>?_) (λh=>?_)
  .exact d _ (Qc [4000,5000,7000]) _ _ Jy h
  refine kC Z h (S8 Z Y) (λy3 h=>?_);exact d _ (Qc [4000,5000,7000]) _ _ Jy h
 refine Ug Z h fun h=>?_;refine Ug Z h fun h=>?_;refine kC Z h (SH Z Y) (λy4 h=>?_);cases h;exact kR Z
def CY (N:Nat)(a:Qb):Option Bool:= some (((E6 .and .u32 a.Plus a.Minus)==0)&&((shI .shr .u32 (E6 .or .u32 a.Plus a.Minus) 24)==0))
theorem Ac8 {a:Qb}{y:Bool}(h:CY N a=some y) :Qi S Po [.p (.agg (A0 a))] [] (pB y) ([]) []:=by
 unfold CY at h;refine A1 Z func49 ?_;obtain⟨t1,c⟩:∃x:Bool,x=(((E6 .and .u32 a.Plus a.Minus)==0)&&((shI .shr .u32 (E6 .or .u32 a.Plus a.Minus) 24)==0)):=⟨_,rfl⟩;refine Zu Z Jy (A3 Z) 0 ⟨[(2,pB t1)],[]⟩ (λM1 d=>?_) ?_
 .refine FS Z Jy (b:=(E6 .and .u32 a.Plus a.Minus)==0) (λc2=>?_) (λc2=>?_)
  .exact d _ [] _ (by decide:(0:Int)<=24) (hle:=klR [(0,.eq (.bb ((shI .shr .u32 (E6 .or .u32 a.Plus a.Minus) 24)==0)) (.bb t1))] (al1 (by simp only[c,c2,Sd.ok,pm,Hu,Ih]) al0))
  exact d _ [] _ Jy (hle:=klR [(0,.eq (.bb false) (.bb t1))] (al1 (by simp only[c,c2,Sd.ok,pm,Hu,Ih]) al0))
 subst c;cases h;exact kR Z
def W0 (N:Nat)(a:Sl Qb):Option Int:= if (decide (32<(a.n:Int))) then some 11 else O7 N (λb (x1:Int)=>if (decide (x1<(a.n:Int))) then if ((0:Int)<=x1/\x1<(a.n:Int))then (CY N (a.g x1.toNat)).bind λy3=>if (!y3) then some 14 else b (wrap .i64 (x1+1)) else none else some 0) 0
theorem GR {a:Sl Qb}{y:Int}(h:W0 N a=some y) :Qi S Pl [.p (vSl 2 A0 a)] [] (pN y) ([]) []:=by
 unfold W0 at h;refine A1 Z func21 ?_;refine Ug Z h fun h=>?_;refine F1 Z Jy h (λx1=>⟨[(10,pN x1),(9,pN (a.n:Int)),(8,.p (vSl 2 A0 a))],[]⟩) (ids:=[]) (λ_ _ _ _ _ b x1 c h=>?_);apply kI Z h<;>intro h
 .obtain⟨c9,h⟩:=B9 h;obtain⟨y3,e3,h⟩:=A7 h;refine A8 Z [] (Qe c9 Mn) (Ac8 Z Y e3) ?_;refine Ug Z h fun h=>?_;exact c _ [] _ _ Jy h
 cases h;exact kR Z
def G6 (N:Nat)(a:Sl Qb)(b:Sl Qb):Option Bool:= if ((a.n:Int) != (b.n:Int)) then some false else O7 N (λc (x1:Int)=>if (decide (x1<(a.n:Int))) then if (((0:Int)<=x1/\x1<(a.n:Int))/\((0:Int)<=x1/\x1<(b.n:Int)))then if ((((a.g x1.toNat).Plus==(b.g x1.toNat).Plus)&&((a.g x1.toNat).Minus==(b.g x1.toNat).Minus)) != true) then some false else c (wrap .i64 (x1+1)) else none else some true) 0
theorem BG {a:Sl Qb}{b:Sl Qb}{y:Bool}(h:G6 N a b=some y) :Qi S R9 [.p (vSl 2 A0 a),.p (vSl 2 A0 b)] [] (pB y) ([]) []:=by
 unfold G6 at h;refine A1 Z func80 ?_;refine Ug Z h fun h=>?_;refine F1 Z Jy h (λx1=>⟨[(13,pN x1),(12,pN (a.n:Int)),(1,.p (vSl 2 A0 b)),(0,.p (vSl 2 A0 a))],[]⟩) (ids:=[]) (λ_ _ _ _ _ c x1 d h=>?_);apply kI Z h<;>intro h
 .refine B5 Z Jy [2,3,6,7] ?_;obtain⟨c9,h⟩:=B9 h;refine C7 (Qe (Qe (Qe (Qe c9.1 Mn) c9.2) Mn) (by decide +kernel:QK Tryz.prog B1=true)) ?_;refine Ug Z h fun h=>?_;exact d _ [] _ _ Jy h
 cases h;exact kR Z
def AK (N:Nat)(a:Sl Qb)(b:Sl Qb):Option Bool:= (G6 N a b).bind λy1=>some y1
theorem PI {a:Sl Qb}{b:Sl Qb}{y:Bool}(h:AK N a b=some y) :Qi S Pp [.p (vSl 2 A0 a),.p (vSl 2 A0 b)] [] (pB y) ([]) []:=by unfold AK at h;refine A1 Z func52 ?_;refine kC Z h (BG Z Y) (λy1 h=>?_);cases h;exact kR Z
def T3 (N:Nat)(a:Qb):Option Bool:= some (((E6 .and .u32 a.Plus a.Minus)==0)&&((shI .shr .u32 (E6 .or .u32 a.Plus a.Minus) 24)==0))
theorem GS {a:Qb}{y:Bool}(h:T3 N a=some y) :Qi S PC [.p (.agg (A0 a))] [] (pB y) ([]) []:=by
 unfold T3 at h;refine A1 Z func221 ?_;obtain⟨t1,c⟩:∃x:Bool,x=(((E6 .and .u32 a.Plus a.Minus)==0)&&((shI .shr .u32 (E6 .or .u32 a.Plus a.Minus) 24)==0)):=⟨_,rfl⟩;refine Zu Z Jy (A3 Z) 0 ⟨[(2,pB t1)],[]⟩ (λM1 d=>?_) ?_
 .refine FS Z Jy (b:=(E6 .and .u32 a.Plus a.Minus)==0) (λc2=>?_) (λc2=>?_)
  .exact d _ [] _ (by decide:(0:Int)<=24) (hle:=klR [(0,.eq (.bb ((shI .shr .u32 (E6 .or .u32 a.Plus a.Minus) 24)==0)) (.bb t1))] (al1 (by simp only[c,c2,Sd.ok,pm,Hu,Ih]) al0))
  exact d _ [] _ Jy (hle:=klR [(0,.eq (.bb false) (.bb t1))] (al1 (by simp only[c,c2,Sd.ok,pm,Hu,Ih]) al0))
 subst c;cases h;exact kR Z
def U5 (N:Nat)(b:Int):Option (Nat->Int):= Y4 N (λa (x1:Nat->Int) (x2:Int)=>if (decide (x2<(wrap .i64 (b+1)))) then if (((0:Int)<=x2/\((0:Int)<=x2/\x2<33))/\(0+x2.toNat*1)<33)then a (Vg x1 (0+x2.toNat*1) (shI .shl .u64 1 x2)) (wrap .i64 (x2+1)) else none else some x1) (λ_=>0) 0
theorem Gf {a:Int}{y:Nat->Int}(h:U5 N a=some y) :Qi S JP [pN a] [] (.p (.agg (cA 33 (pI .u64) y))) ([]) []:=by
 unfold U5 at h;refine A1 Z func303 ?_;refine G2 Z Jy h (λx1 x2=>⟨[(7,pN x2),(6,pN (wrap .i64 (a+1))),(3,.reg 4000 0),(2,.reg 3000 0)],[(4000,.arr 33 (λi=>pI .u64 (x1 i))),(3000,.arr 33 (λi=>pI .u64 ((λ_=>0) i)))]⟩) (ids:=(Qc [3000,4000])) (λ_ _ _ _ _ b x1 x2 d h=>?_) (hle:=kl2 2 3 (Bm4 33 (pI .u64 0)) (Bm4 33 (pI .u64 0)));apply kI Z h<;>intro h
 .obtain⟨c4,h⟩:=B9 h;exact d _ (Qc [3000,4000]) _ (Vg x1 (0+x2.toNat*1) (shI .shl .u64 1 x2)) (wrap .i64 (x2+1)) c4 h (hle:=klR [(2,.fn 33 33 (λi=>[(λi=>if i=(0+x2.toNat*1)then (pI .u64 (shI .shl .u64 1 x2))else (λi=>pI .u64 (x1 i)) i) i]) (λi=>[pI .u64 (Vg x1 (0+x2.toNat*1) (shI .shl .u64 1 x2) i)]))] (al1 ⟨rfl,BA5 (c:=pI .u64) (v:=x1) (x:=shI .shl .u64 1 x2) (λ_ _=>rfl) rfl⟩ al0))
 obtain rfl:=A6 h;exact P3 Z (Qe rfl (H3 _ _):(0:Nat)=0/\(EQ 33 (λi=>pI .u64 (x1 i))).length=33) ⟨[(2,.reg 3000 0)],[(3000,.arr 33 (λi=>pI .u64 (x1 i)))]⟩ [] (ids:=[(3000,3000)]) ⟨rfl,rfl,rfl⟩ (hle:=kl1 0 (Pf 33 (λi=>pI .u64 (x1 i))))
def Q7 (N:Nat)(p_x:Nat->Int)(b:Nat->Int):Option (Nat->Int):= Y4 N (λa (x1:Nat->Int) (x2:Int)=>if (decide (x2<33)) then if (((0:Int)<=x2/\x2<33)/\(0+x2.toNat*1)<33)then if (((((0:Int)<=x2/\x2<33)/\(0+x2.toNat*1)<33)/\((0:Int)<=x2/\x2<33))/\(0+x2.toNat*1)<33)then a (Vg x1 (0+x2.toNat*1) (E6 .or .u64 (x1 (0+x2.toNat*1)) (b (0+x2.toNat*1)))) (wrap .i64 (x2+1)) else none else none else some x1) p_x 0
theorem GT {p_x:Nat->Int}{a:Nat->Int}{y:Nat->Int}(h:Q7 N p_x a=some y) :Qi S GP [.reg 0 0,.reg 1 0] [.arr 33 (λi=>pI .u64 (p_x i)),.arr 33 (λi=>pI .u64 (a i))] (.tup []) ([.arr 33 (λi=>pI .u64 (y i)),.arr 33 (λi=>pI .u64 (a i))]) [true,true]:=by
 unfold Q7 at h;refine A1 Z func301 ?_;refine G2 Z Jy h (λx1 x2=>⟨[(7,pN x2),(6,.reg 1 0),(0,.reg 0 0)],[(1,.arr 33 (λi=>pI .u64 (a i))),(0,.arr 33 (λi=>pI .u64 (x1 i)))]⟩) (ids:=(Qc [0,1])) (λ_ _ _ _ _ b x1 x2 d h=>?_);apply kI Z h<;>intro h
 .refine FT Z Jy ?_;obtain⟨c8,h⟩:=B9 h;refine C7 c8 ?_;refine FT Z Jy ?_;obtain⟨c9,h⟩:=B9 h;refine C7 c9 ?_;exact d _ (Qc [0,1]) _ _ _ Jy h (hle:=klR [(2,.fn 33 33 (λi=>[(λi=>if i=(0+x2.toNat*1)then (pI .u64 (E6 .or .u64 (x1 (0+x2.toNat*1)) (a (0+x2.toNat*1))))else (λi=>pI .u64 (x1 i)) i) i]) (λi=>[pI .u64 (Vg x1 (0+x2.toNat*1) (E6 .or .u64 (x1 (0+x2.toNat*1)) (a (0+x2.toNat*1))) i)]))] (al1 ⟨rfl,BA5 (c:=pI .u64) (v:=x1) (x:=E6 .or .u64 (x1 (0+x2.toNat*1)) (a (0+x2.toNat*1))) (λ_ _=>rfl) rfl⟩ al0))
 obtain rfl:=A6 h;exact kO Z Jy [0,1]
def Bm (N:Nat)(b:Sl Qb)(a:Int):Option Int:= if ((decide (a<0))||(decide ((b.n:Int)<a))) then some 3 else some 0
theorem NJ {c:Sl Qb}{b:Int}{y:Int}(h:Bm N c b=some y) :Qi S NF [.p (vSl 2 A0 c),pN b] [] (pN y) ([]) []:=by
 unfold Bm at h;refine A1 Z func264 ?_;refine kB Z (A3 Z) Jy Jy 5 (.o (.a (decide (b<0))) (.a (decide ((c.n:Int)<b)))) ?_;refine Ug Z h fun h=>?_;cases h;exact kR Z
def BY (N:Nat)(a:Pat):Option Int:= if (if (a.Kind==0) then a.Kind==0 else (if (a.Kind==2) then a.Kind==2 else a.Kind==6)) then lt (λ(z1:Bool)=>if z1 then some 2 else (T3 N a.Is).bind λy1=>if (!y1) then some 14 else some 0) λk1=>if (((a.Is.Plus==0)&&(a.Is.Minus==0)) != true) then k1 true else if a.Not then k1 true else if (a.Min != 0) then k1 true else if (a.Max != 0) then k1 true else k1 (decide (0<(a.L.n:Int))) else if (a.Kind==1) then lt (λ(z2:Bool)=>if z2 then some 2 else (T3 N a.Is).bind λy2=>if (!y2) then some 14 else some 0) λk2=>if (((0==0)&&(0==0)) != true) then k2 true else if (a.Min != 0) then k2 true else if (a.Max != 0) then k2 true else k2 (decide (0<(a.L.n:Int))) else lt (λ(z3:Int×Int)=>if (((((((a.Is.Plus==0)&&(a.Is.Minus==0)) != true)||a.Not)||(z3.1 != 0))||(z3.2 != 0))||(decide (0<0))) then some 2 else (T3 N a.Is).bind λy3=>if (!y3) then some 14 else some 0) λk3=>if (if (a.Kind==3) then a.Kind==3 else a.Kind==4) then k3 (a.Min,a.Max) else if (a.Kind==5) then if (((((a.L.n:Int) != 1)||(decide (a.Min<0)))||(decide (32<a.Min)))||((a.Max != (-1))&&((decide (a.Max<a.Min))||(decide (32<a.Max))))) then some 2 else k3 (0,0) else some 2
theorem Uk {c:Pat}{y:Int}(h:BY N c=some y) :Qi S LJ [.p (.agg (B7 c))] [] (pN y) ([]) []:=by
 unfold BY at h;refine A1 Z func205 ?_;obtain⟨t1,f⟩:∃x:Bool,x=(if (c.Kind==0) then c.Kind==0 else (if (c.Kind==2) then c.Kind==2 else c.Kind==6)):=⟨_,rfl⟩;refine Zu Z Jy (A3 Z) 0 ⟨[(8,pB t1),(7,pN c.Kind),(3,.reg 4000 0),(1,.reg 2000 0)],[(4000,.cells [pN 0,pU c.Is.Plus,pU c.Is.Minus,pB c.Not,pN c.Min,pN c.Max,.p (.sl false 7 c.L.n (CA c))]),(2000,.cells ((B7 c).map .p))]⟩ (λM1 l=>?_) ?_
 .refine C6 Z Jy (b:=c.Kind==0) (λc3=>?_) (λc3=>?_)
  .exact l _ (Qc [2000,4000]) _ Jy (hle:=klR [(0,.eq (.bb (c.Kind==0)) (.bb t1))] (al1 (by simp only[f,c3,Sd.ok,pm,Hu,Ih]) al0))
  refine C6 Z Jy (b:=c.Kind==2) (λc4=>?_) (λc4=>?_)
  .exact l _ (Qc [2000,4000]) _ Jy (hle:=klR [(0,.eq (.bb (c.Kind==2)) (.bb t1))] (al1 (by simp only[f,c3,c4,Sd.ok,pm,Hu,Ih]) al0))
  exact l _ (Qc [2000,4000]) _ Jy (hle:=klR [(0,.eq (.bb (c.Kind==6)) (.bb t1))] (al1 (by simp only[f,c3,c4,Sd.ok,pm,Hu,Ih]) al0))
 subst f;apply kI Z h<;>intro h
 .refine GN Z (by decide +kernel:QK Tryz.prog B1=true) (A3 Z) h 0 (λz1=>⟨[(57,pB z1),(1,.reg 2000 0)],[(2000,.cells ((B7 c).map .p))]⟩) (λM3 k1 d h=>?_) (λz1 h=>?_)
  .refine kG Z h (λh=>?_) (λh=>?_)
   .exact d _ [(2000,2000)] _ _ Jy h
   refine kG Z h (λh=>?_) (λh=>?_)
   .exact d _ [(2000,2000)] _ _ Jy h
   refine kG Z h (λh=>?_) (λh=>?_)
   .exact d _ [(2000,2000)] _ _ Jy h
   refine kG Z h (λh=>?_) (λh=>?_)
   .exact d _ [(2000,2000)] _ _ Jy h
   refine I7 Z Jy 79 ⟨[(78,.p (vSl 7 B7 c.L)),(76,.p (.v (.bool false))),(1,.reg 2000 0)],[(2000,.cells ((B7 c).map .p))]⟩ (ids:=[(2000,2000)]) ?_ (hle:=klR [(0,.fn c.L.n c.L.n (CA c) (λi=>B7 (c.L.g i)))] (al1 ⟨rfl,P7 c⟩ al0));exact d _ [(2000,2000)] _ _ Jy h
  refine Ug Z h fun h=>?_;refine kC Z h (GS Z Y) (λy1 h=>?_);refine Ug Z h fun h=>?_;cases h;exact kR Z
 apply kI Z h<;>intro h
 .refine GN Z (by decide +kernel:QK Tryz.prog B1=true) (A3 Z) h 0 (λz2=>⟨[(57,pB z2),(1,.reg 2000 0)],[(2000,.cells ((B7 c).map .p))]⟩) (λM5 k2 j h=>?_) (λz2 h=>?_)
  .refine kG Z h (λh=>?_) (λh=>?_)
   .exact j _ [(2000,2000)] _ _ Jy h
   refine FS Z Jy (b:=false) (λc54=>?_) (λc54=>?_)
   .exact Bool.noConfusion ((rfl:false=false).symm.trans c54)
   refine kG Z h (λh=>?_) (λh=>?_)
   .exact j _ [(2000,2000)] _ _ Jy h
   refine kG Z h (λh=>?_) (λh=>?_)
   .exact j _ [(2000,2000)] _ _ Jy h
   refine I7 Z Jy 79 ⟨[(78,.p (vSl 7 B7 c.L)),(76,.p (.v (.bool false))),(1,.reg 2000 0)],[(2000,.cells ((B7 c).map .p))]⟩ (ids:=[(2000,2000)]) ?_ (hle:=klR [(0,.fn c.L.n c.L.n (CA c) (λi=>B7 (c.L.g i)))] (al1 ⟨rfl,P7 c⟩ al0));exact j _ [(2000,2000)] _ _ Jy h
  refine Ug Z h fun h=>?_;refine kC Z h (GS Z Y) (λy2 h=>?_);refine Ug Z h fun h=>?_;cases h;exact kR Z
 obtain⟨t4,m⟩:∃x:Bool,x=(if (c.Kind==3) then c.Kind==3 else c.Kind==4):=⟨_,rfl⟩;refine Zu Z Jy (A3 Z) 0 ⟨[(17,pB t4),(7,pN c.Kind),(3,.reg 4000 0),(1,.reg 2000 0)],[(4000,.cells [pN 0,pU c.Is.Plus,pU c.Is.Minus,pB c.Not,pN c.Min,pN c.Max,.p (.sl false 7 c.L.n (CA c))]),(2000,.cells ((B7 c).map .p))]⟩ (λM6 q=>?_) ?_
 .refine C6 Z Jy (b:=c.Kind==3) (λc60=>?_) (λc60=>?_)
  .exact q _ (Qc [2000,4000]) _ Jy (hle:=klR [(0,.eq (.bb (c.Kind==3)) (.bb t4))] (al1 (by simp only[m,c60,Sd.ok,pm,Hu,Ih]) al0))
  exact q _ (Qc [2000,4000]) _ Jy (hle:=klR [(0,.eq (.bb (c.Kind==4)) (.bb t4))] (al1 (by simp only[m,c60,Sd.ok,pm,Hu,Ih]) al0))
 subst m;refine GN Z Jy (A3 Z) h 0 (λz3=>⟨[(3,.reg 4000 0),(1,.reg 2000 0)],[(4000,.cells [pN 0,pU c.Is.Plus,pU c.Is.Minus,pB c.Not,pN z3.1,pN z3.2,.p I3]),(2000,.cells ((B7 c).map .p))]⟩) (λM7 k3 r h=>?_) (λz3 h=>?_)
 .apply kI Z h<;>intro h
  .exact r _ (Qc [2000,4000]) _ _ Jy h
  apply kI Z h<;>intro h
  .refine I7 Z Jy 25 ⟨[(24,.p (vSl 7 B7 c.L)),(3,.reg 4000 0),(1,.reg 2000 0)],[(4000,.cells [pN 0,pU c.Is.Plus,pU c.Is.Minus,pB c.Not,pN c.Min,pN c.Max,.p (.sl false 7 c.L.n (CA c))]),(2000,.cells ((B7 c).map .p))]⟩ (ids:=(Qc [2000,4000])) ?_ (hle:=klR [(0,.fn c.L.n c.L.n (CA c) (λi=>B7 (c.L.g i)))] (al1 ⟨rfl,P7 c⟩ al0));refine kB Z (A3 Z) Jy Jy 26 (.o (.o (.o (.a ((c.L.n:Int) != 1)) (.a (decide (c.Min<0)))) (.a (decide (32<c.Min)))) (.n (.a (c.Max != (-1))) (.o (.a (decide (c.Max<c.Min))) (.a (decide (32<c.Max)))))) ?_;refine Ug Z h fun h=>?_;exact r _ (Qc [2000,4000]) _ _ Jy h
  cases h;exact kR Z
 refine kB Z (A3 Z) (by decide +kernel:QK Tryz.prog B1=true) Jy 19 (.o (.o (.o (.o (.a (((c.Is.Plus==0)&&(c.Is.Minus==0)) != true)) (.a c.Not)) (.a (z3.1 != 0))) (.a (z3.2 != 0))) (.a (decide (0<0)))) ?_;refine Ug Z h fun h=>?_;refine kC Z h (GS Z Y) (λy3 h=>?_);refine Ug Z h fun h=>?_;cases h;exact kR Z
def Dp (rec:Pat->Int->Option Int)(N:Nat)(b:Pat)(a:Int):Option Int:= Y4 N (λc (x1:Int) (x2:Int)=>if ((decide (x2<(b.L.n:Int)))&&(decide (x1<=40))) then if ((0:Int)<=x2/\x2<(b.L.n:Int))then (rec (b.L.g x2.toNat) x1).bind λy3=>c y3 (wrap .i64 (x2+1)) else none else some x1) (wrap .i64 (a+1)) 0
def CG:Nat->Pat->Int->Option Int
 |0=>λ_ _=>none
 |N+1=>Dp (CG N) N
theorem Ac9 {rec:Pat->Int->Option Int}(d:∀{b:Pat}{c:Int}{y:Int},rec b c=some y->Qi S Ig [.p (.agg (B7 b)),pN c] [] (pN y) ([]) []){b:Pat}{c:Int}{y:Int}(h:Dp rec N b c=some y) :Qi S Ig [.p (.agg (B7 b)),pN c] [] (pN y) ([]) []:=by
 unfold Dp at h;refine A1 Z func57 ?_;refine G2 Z Jy h (λx1 x2=>⟨[(6,pN x2),(5,pN x1),(2,.reg 3000 0)],[(3000,.cells ((B7 b).map .p))]⟩) (ids:=[(3000,3000)]) (λ_ _ _ _ _ f x1 x2 j h=>?_);refine I7 Z Jy 12 ⟨[(11,.p (vSl 7 B7 b.L)),(9,pN x2),(6,pN x2),(5,pN x1),(2,.reg 3000 0)],[(3000,.cells ((B7 b).map .p))]⟩ (ids:=[(3000,3000)]) ?_ (hle:=klR [(0,.fn b.L.n b.L.n (CA b) (λi=>B7 (b.L.g i)))] (al1 ⟨rfl,P7 b⟩ al0));refine kB Z (A3 Z) Jy Jy 3 (.n (.a (decide (x2<(b.L.n:Int)))) (.a (decide (x1<=40)))) ?_;apply kI Z h<;>intro h
 .refine I7 Z Jy 23 ⟨[(22,pN x2),(21,.p (vSl 7 B7 b.L)),(6,pN x2),(5,pN x1),(2,.reg 3000 0)],[(3000,.cells ((B7 b).map .p))]⟩ (ids:=[(3000,3000)]) ?_ (hle:=klR [(1,.fn b.L.n b.L.n (CA b) (λi=>B7 (b.L.g i)))] (al1 ⟨rfl,P7 b⟩ al0));obtain⟨c6,h⟩:=B9 h;obtain⟨y3,e3,h⟩:=A7 h;refine A8 Z [] (Qe c6 Nt) (d e3) ?_;exact j _ [(3000,3000)] _ y3 _ Jy h
 cases h;exact kR Z
theorem Ar1 {b:Pat}{a:Int}{y:Int}(h:CG N b a=some y) :Qi S Ig [.p (.agg (B7 b)),pN a] [] (pN y) ([]) []:=by
 induction N generalizing b a y with
 |zero=>cases (show (none:Option Int)=some y from h)
 |succ N ih=>exact Ac9 Z Y (λe=>ih e) h
def DT (N:Nat)(a:Pat):Option Int:= (CG N a 0).bind λy1=>some y1
theorem OC {a:Pat}{y:Int}(h:DT N a=some y) :Qi S Vp [.p (.agg (B7 a))] [] (pN y) ([]) []:=by unfold DT at h;refine A1 Z func28 ?_;refine kC Z h (Ar1 Z Y) (λy1 h=>?_);cases h;exact kR Z
def AL (rec:Pat->Option Int)(N:Nat)(a:Pat):Option Int:= Y4 N (λb (x1:Int) (x2:Int)=>if (decide (x2<(a.L.n:Int))) then if ((0:Int)<=x2/\x2<(a.L.n:Int))then (rec (a.L.g x2.toNat)).bind λy3=>b (wrap .i64 (x1+y3)) (wrap .i64 (x2+1)) else none else some x1) ((if (a.Kind==5) then 1 else 0):Int) 0
def Bn:Nat->Pat->Option Int
 |0=>λ_=>none
 |N+1=>AL (Bn N) N
theorem Ul {rec:Pat->Option Int}(d:∀{a:Pat}{y:Int},rec a=some y->Qi S Fn [.p (.agg (B7 a))] [] (pN y) ([]) []){a:Pat}{y:Int}(h:AL rec N a=some y) :Qi S Fn [.p (.agg (B7 a))] [] (pN y) ([]) []:=by
 unfold AL at h;refine A1 Z func56 ?_;obtain⟨t1,c⟩:∃x:Int,x=((if (a.Kind==5) then 1 else 0):Int):=⟨_,rfl⟩;refine Zu Z Jy (A3 Z) 0 ⟨[(3,pN t1),(1,.reg 2000 0)],[(2000,.cells ((B7 a).map .p))]⟩ (λM1 f=>?_) ?_
 .refine C6 Z Jy (b:=a.Kind==5) (λc2=>?_) (λc2=>?_)
  .exact f _ [(2000,2000)] _ Jy (hle:=klR [(0,.eq (pI .i64 1) (pI .i64 t1))] (al1 (by simp only[c,c2,Sd.ok,pm,Hu,Ih]) al0))
  exact f _ [(2000,2000)] _ Jy (hle:=klR [(0,.eq (pI .i64 0) (pI .i64 t1))] (al1 (by simp only[c,c2,Sd.ok,pm,Hu,Ih]) al0))
 subst c;refine G2 Z Jy h (λx1 x2=>⟨[(4,pN x2),(3,pN x1),(1,.reg 2000 0)],[(2000,.cells ((B7 a).map .p))]⟩) (ids:=[(2000,2000)]) (λ_ _ _ _ _ j x1 x2 l h=>?_);refine I7 Z Jy 11 ⟨[(10,.p (vSl 7 B7 a.L)),(8,pN x2),(4,pN x2),(3,pN x1),(1,.reg 2000 0)],[(2000,.cells ((B7 a).map .p))]⟩ (ids:=[(2000,2000)]) ?_ (hle:=klR [(0,.fn a.L.n a.L.n (CA a) (λi=>B7 (a.L.g i)))] (al1 ⟨rfl,P7 a⟩ al0));apply kI Z h<;>intro h
 .refine I7 Z Jy 19 ⟨[(18,pN x2),(17,.p (vSl 7 B7 a.L)),(15,pN x1),(4,pN x2),(1,.reg 2000 0)],[(2000,.cells ((B7 a).map .p))]⟩ (ids:=[(2000,2000)]) ?_ (hle:=klR [(1,.fn a.L.n a.L.n (CA a) (λi=>B7 (a.L.g i)))] (al1 ⟨rfl,P7 a⟩ al0));obtain⟨c8,h⟩:=B9 h;obtain⟨y3,e3,h⟩:=A7 h;refine A8 Z [] (Qe c8 Nt) (d e3) ?_;exact l _ [(2000,2000)] _ _ _ Jy h
 cases h;exact kR Z
theorem XE {a:Pat}{y:Int}(h:Bn N a=some y) :Qi S Fn [.p (.agg (B7 a))] [] (pN y) ([]) []:=by
 induction N generalizing a y with
 |zero=>cases (show (none:Option Int)=some y from h)
 |succ N ih=>exact Ul Z Y (λe=>ih e) h
def Fw (N:Nat)(a:Sl Law):Option Int:= Y4 N (λc (x3:Int) (x4:Int)=>if ((decide (x4<(a.n:Int)))&&(decide (x4<=300))) then if (((0:Int)<=x4/\x4<(a.n:Int))/\((0:Int)<=x4/\x4<(a.n:Int)))then Y4 N (λb (x7:Int) (x8:Int)=>if (decide (x8<((Sl.of [(a.g x4.toNat).Left,(a.g x4.toNat).Right]:Sl Pat).n:Int))) then if ((0:Int)<=x8/\x8<((Sl.of [(a.g x4.toNat).Left,(a.g x4.toNat).Right]:Sl Pat).n:Int))then (DT N ((Sl.of [(a.g x4.toNat).Left,(a.g x4.toNat).Right]:Sl Pat).g x8.toNat)).bind λd=>if (decide (d<=40)) then (Bn N ((Sl.of [(a.g x4.toNat).Left,(a.g x4.toNat).Right]:Sl Pat).g x8.toNat)).bind λf=>b (wrap .i64 (x7+f)) (wrap .i64 (x8+1)) else b x7 (wrap .i64 (x8+1)) else none else c (if x3<x7 then x7 else x3) (wrap .i64 (x4+1))) 0 0 else none else some x3) 0 0
theorem AK5 {b:Sl Law}{y:Int}(h:Fw N b=some y) :Qi S Vo [.p (vSl 18 B3 b)] [] (pN y) ([]) []:=by
 unfold Fw at h;refine A1 Z func27 ?_;refine G2 Z Jy h (λx3 x4=>⟨[(4,pN x4),(3,pN x3),(0,.p (vSl 18 B3 b))],[]⟩) (ids:=[]) (λ_ _ _ _ _ d x3 x4 f h=>?_);refine kB Z (A3 Z) Jy Jy 3 (.n (.a (decide (x4<(b.n:Int)))) (.a (decide (x4<=300)))) ?_;apply kI Z h<;>intro h
 .refine B5 Z Jy [2,4,7,9] ?_;obtain⟨c24,h⟩:=B9 h;refine O8 (Qe (Qe (Qe c24.1 (by decide:(7:Nat)<=17)) c24.2) (by decide:(7:Nat)<=10)) (x:=.sl true 7 2 (H2 [pI .i64 0,pI .u32 0,pI .u32 0,.v (.bool false),pI .i64 0,pI .i64 0,I3] [(0,B7 (b.g x4.toNat).Left),(1,B7 (b.g x4.toNat).Right)])) ?_;refine C7 Jy ?_;refine G2 Z Jy h (λx7 x8=>⟨[(30,pN x8),(29,pN ((Sl.of [(b.g x4.toNat).Left,(b.g x4.toNat).Right]:Sl Pat).n:Int)),(28,.p (vSl 7 B7 (Sl.of [(b.g x4.toNat).Left,(b.g x4.toNat).Right]:Sl Pat))),(5,pN x7),(4,pN x4),(3,pN x3),(0,.p (vSl 18 B3 b))],[]⟩) (ids:=[]) (λ_ _ _ _ _ i x7 x8 c h=>?_) (hle:=kl1 2 (AP0 B7 ([(b.g x4.toNat).Left,(b.g x4.toNat).Right]:List Pat) [pI .i64 0,pI .u32 0,pI .u32 0,.v (.bool false),pI .i64 0,pI .i64 0,I3]));apply kI Z h<;>intro h
  .obtain⟨c32,h⟩:=B9 h;refine D9 Z (Qe c32 Nt) 34 8000 (B7 ((Sl.of [(b.g x4.toNat).Left,(b.g x4.toNat).Right]:Sl Pat).g x8.toNat)) ?_;obtain⟨j,e17,h⟩:=A7 h;refine A8 Z [] Nt (OC Z Y e17) ?_;apply kI Z h<;>intro h
   .obtain⟨l,e18,h⟩:=A7 h;refine A8 Z [] Nt (XE Z Y e18) ?_;exact c _ [] _ _ _ Jy h
   exact c _ [] _ x7 _ Jy h
  exact f _ [] _ _ _ Jy h
 cases h;exact kR Z
def V5 (N:Nat)(q0:Int):Option (List (Int)):= O7 N (λa (x1:Int)=>if (x1 != 0) then (I4 N x1).bind λy3=>if (0:Int)<=y3 then Dk y3 (a (E6 .andNot .u64 x1 (shI .shl .u64 1 y3))) else none else some []) q0
theorem EW {q0:Int}{L:List (Int)}(h:V5 N q0=some L) :FQ S EV [] [.reg 0 0] [.cells [.p (pI .u64 q0)]] (L.map (λ(x:Int)=>[pI .i64 x])):=by
 unfold V5 at h;refine Fm Z func271 ?_;refine DQ Z Jy h (λx1 L1=>⟨[(1,.reg 0 0),(0,.yf 1)],[(1,.yld (L1.map (λ(x:Int)=>[pI .i64 x])) true),(0,.cells [.p (pI .u64 x1)])]⟩) (ids:=(Qc [0,1])) (λ_ _ _ _ _ d x1 L1 f h=>?_);apply kI Z h<;>intro h
 .refine kC Z h (Gd Z Y) (λy3 h=>?_);refine FT Z Jy ?_;obtain⟨c10,h⟩:=B9 h;refine C7 c10 ?_;obtain⟨L4,rfl,c⟩:=Ou h;replace h:=c;refine DP Z Jy (ys:=(λ(x:Int)=>[pI .i64 x]) y3) (rest:=L4.map (λ(x:Int)=>[pI .i64 x])) ?_ ?_
  .refine C6 Z Jy (b:=false) (λc11=>?_) (λc11=>?_)
   .exact Bool.noConfusion ((rfl:false=false).symm.trans c11)
   exact f _ (Qc [0,1]) _ _ L4 Jy h
  refine C6 Z Jy (b:=true) (λc12=>?_) (λc12=>?_)
  .exact kO Z Jy (a:=.tup []) (objs:=[(.cells [.p (pI .u64 (E6 .andNot .u64 x1 (shI .shl .u64 1 y3)))]),.yld [] false]) [0,1] ⟨false,rfl,rfl,_,rfl⟩
  exact Bool.noConfusion (Ow.symm.trans c12)
 obtain rfl:=A6 h;exact kO Z Jy (a:=.tup []) (objs:=[(.cells [.p (pI .u64 x1)]),.yld [] true]) [0,1] ⟨true,rfl,rfl,_,rfl⟩
def BZ (N:Nat)(a:Int):Option (Int):= some a
theorem Hf {a:Int}{y:Int}(h:BZ N a=some y) :Qi S LL [.p (pI .u64 a)] [] (.clo EV [] [.reg 0 0]) ([.cells [.p (pI .u64 y)]]) []:=by unfold BZ at h;refine A1 Z func265 ?_;obtain rfl:=A6 h;exact kO Z Jy [2000]
def F9 (N:Nat)(p_x:Nat->Int)(c:Nat->Int):Option (Nat->Int):= Y4 N (λa (x3:Nat->Int) (x4:Int)=>if (decide (x4<33)) then if (((0:Int)<=x4/\x4<33)/\(0+x4.toNat*1)<33)then (BZ N (p_x (0+x4.toNat*1))).bind λy3=>(V5 N y3).bind λL3=>T9 L3 (λb (x7:Int) (z3:Nat->Int)=>if (((((((0:Int)<=x4/\x4<33)/\(0+x4.toNat*1)<33)/\((0:Int)<=x7/\x7<33))/\(0+x7.toNat*1)<33)/\((0:Int)<=x4/\x4<33))/\(0+x4.toNat*1)<33)then b (Vg z3 (0+x4.toNat*1) (E6 .or .u64 (z3 (0+x4.toNat*1)) (c (0+x7.toNat*1)))) else none) (λ(z3:Nat->Int)=>a z3 (wrap .i64 (x4+1))) x3 else none else some x3) (λ_=>0) 0
theorem X0 {p_x:Nat->Int}{b:Nat->Int}{y:Nat->Int}(h:F9 N p_x b=some y) :Qi S BD [.reg 0 0,.reg 1 0] [.arr 33 (λi=>pI .u64 (p_x i)),.arr 33 (λi=>pI .u64 (b i))] (.p (.agg (cA 33 (pI .u64) y))) ([.arr 33 (λi=>pI .u64 (p_x i)),.arr 33 (λi=>pI .u64 (b i))]) [true,true]:=by
 unfold F9 at h;refine A1 Z func304 ?_;refine G2 Z Jy h (λx3 x4=>⟨[(10,pN x4),(9,.reg 0 0),(5,.reg 6000 0),(4,.reg 5000 0),(3,.reg 4000 0)],[(6000,.arr 33 (λi=>pI .u64 (x3 i))),(5000,.arr 33 (λi=>pI .u64 ((λ_=>0) i))),(4000,.cells [.reg 1 0]),(1,.arr 33 (λi=>pI .u64 (b i))),(0,.arr 33 (λi=>pI .u64 (p_x i)))]⟩) (ids:=(Qc [0,1,4000,5000,6000])) (λ_ _ _ _ _ d x3 x4 f h=>?_) (hle:=kl2 1 2 (Bm4 33 (pI .u64 0)) (Bm4 33 (pI .u64 0)));apply kI Z h<;>intro h
 .refine I0 Z Jy [(2,.l [0]),(3,.l [0]),(4,.a [7000]),(5,.a [7000])] ?_;obtain⟨c12,h⟩:=B9 h;refine C7 c12 ?_;refine D9 Z Jy 16 7000 [pI .i64 x4] ?_;refine kC Z h (Hf Z Y) (λy3 h=>?_);obtain⟨L3,e6,h⟩:=A7 h;refine Js Z Jy [18000] [10,9,6,5,4,3] 905 (λz3=>⟨[(10,pN x4),(9,.reg 0 0),(6,.p (.ptr [pI .i64 x4])),(5,.reg 6000 0),(4,.reg 5000 0),(3,.reg 4000 0)],[(6000,.arr 33 (λi=>pI .u64 (z3 i))),(5000,.arr 33 (λi=>pI .u64 ((λ_=>0) i))),(4000,.cells [.reg 1 0]),(1,.arr 33 (λi=>pI .u64 (b i))),(0,.arr 33 (λi=>pI .u64 (p_x i)))]⟩) (idl:=(Qc [0,1,4000,5000,6000])) h (EW Z Y e6) (λ_=>by kernel_rfl) (λ_=>by kernel_rfl) (λ_=>by kernel_rfl) (λ_=>by kernel_rfl) (λx7 _ g z3 j h=>?_) (λz3 h=>?_)
  .refine Nc Z Jy ?_;refine I0 Z Jy [(0,.n),(1,.l [6000]),(2,.l [6000]),(3,.l [4000]),(6,.l [1]),(7,.l [1]),(9,.l [6000]),(10,.a [6000])] ?_;obtain⟨c15,h⟩:=B9 h;refine C7 c15 ?_;exact j _ (Qc [0,1,905,4000,5000,6000]) _ _ Jy h (hle:=klR [(0,.fn 33 33 (λi=>[(λi=>if i=(0+x4.toNat*1)then (pI .u64 (E6 .or .u64 (z3 (0+x4.toNat*1)) (b (0+x7.toNat*1))))else (λi=>pI .u64 (z3 i)) i) i]) (λi=>[pI .u64 (Vg z3 (0+x4.toNat*1) (E6 .or .u64 (z3 (0+x4.toNat*1)) (b (0+x7.toNat*1))) i)]))] (al1 ⟨rfl,BA5 (c:=pI .u64) (v:=z3) (x:=E6 .or .u64 (z3 (0+x4.toNat*1)) (b (0+x7.toNat*1))) (λ_ _=>rfl) rfl⟩ al0))
  exact f _ (Qc [0,1,4000,5000,6000]) _ z3 _ Jy h
 obtain rfl:=A6 h;exact P3 Z (Qe rfl (H3 _ _):(0:Nat)=0/\(EQ 33 (λi=>pI .u64 (x3 i))).length=33) ⟨[(4,.reg 5000 0)],[(5000,.arr 33 (λi=>pI .u64 (x3 i))),(1,.arr 33 (λi=>pI .u64 (b i))),(0,.arr 33 (λi=>pI .u64 (p_x i)))]⟩ [0,1] (ids:=(Qc [0,1,5000])) ⟨rfl,rfl,rfl⟩ (hle:=kl1 0 (Pf 33 (λi=>pI .u64 (x3 i))))
def N2 (N:Nat)(p_x:Nat->Int):Option (Nat->Int):= Y4 N (λa (x3:Nat->Int) (x4:Int)=>if (decide (x4<33)) then if (((0:Int)<=x4/\x4<33)/\(0+x4.toNat*1)<33)then (BZ N (p_x (0+x4.toNat*1))).bind λy3=>(V5 N y3).bind λL3=>T9 L3 (λb (x7:Int) (z3:Nat->Int)=>if (((((((0:Int)<=x4/\x4<33)/\(0+x4.toNat*1)<33)/\((0:Int)<=x7/\x7<33))/\(0+x7.toNat*1)<33)/\((0:Int)<=x4/\x4<33))/\(0+x4.toNat*1)<33)then b (Vg z3 (0+x4.toNat*1) (E6 .or .u64 (z3 (0+x4.toNat*1)) (p_x (0+x7.toNat*1)))) else none) (λ(z3:Nat->Int)=>a z3 (wrap .i64 (x4+1))) x3 else none else some x3) (λ_=>0) 0
theorem ED {p_x:Nat->Int}{y:Nat->Int}(h:N2 N p_x=some y) :Qi S BD [.reg 0 0,.reg 0 0] [.arr 33 (λi=>pI .u64 (p_x i))] (.p (.agg (cA 33 (pI .u64) y))) ([.arr 33 (λi=>pI .u64 (p_x i))]) [true]:=by
 unfold N2 at h;refine A1 Z func304 ?_;refine G2 Z Jy h (λx3 x4=>⟨[(10,pN x4),(9,.reg 0 0),(5,.reg 6000 0),(4,.reg 5000 0),(3,.reg 4000 0)],[(6000,.arr 33 (λi=>pI .u64 (x3 i))),(5000,.arr 33 (λi=>pI .u64 ((λ_=>0) i))),(4000,.cells [.reg 0 0]),(0,.arr 33 (λi=>pI .u64 (p_x i)))]⟩) (ids:=(Qc [0,4000,5000,6000])) (λ_ _ _ _ _ b x3 x4 d h=>?_) (hle:=kl2 1 2 (Bm4 33 (pI .u64 0)) (Bm4 33 (pI .u64 0)));apply kI Z h<;>intro h
 .refine I0 Z Jy [(2,.l [0]),(3,.l [0]),(4,.a [7000]),(5,.a [7000])] ?_;obtain⟨c12,h⟩:=B9 h;refine C7 c12 ?_;refine D9 Z Jy 16 7000 [pI .i64 x4] ?_;refine kC Z h (Hf Z Y) (λy3 h=>?_);obtain⟨L3,e6,h⟩:=A7 h;refine Js Z Jy [18000] [10,9,6,5,4,3] 905 (λz3=>⟨[(10,pN x4),(9,.reg 0 0),(6,.p (.ptr [pI .i64 x4])),(5,.reg 6000 0),(4,.reg 5000 0),(3,.reg 4000 0)],[(6000,.arr 33 (λi=>pI .u64 (z3 i))),(5000,.arr 33 (λi=>pI .u64 ((λ_=>0) i))),(4000,.cells [.reg 0 0]),(0,.arr 33 (λi=>pI .u64 (p_x i)))]⟩) (idl:=(Qc [0,4000,5000,6000])) h (EW Z Y e6) (λ_=>by kernel_rfl) (λ_=>by kernel_rfl) (λ_=>by kernel_rfl) (λ_=>by kernel_rfl) (λx7 _ f z3 g h=>?_) (λz3 h=>?_)
  .refine Nc Z Jy ?_;refine I0 Z Jy [(0,.n),(1,.l [6000]),(2,.l [6000]),(3,.l [4000]),(6,.l [0]),(7,.l [0]),(9,.l [6000]),(10,.a [6000])] ?_;obtain⟨c15,h⟩:=B9 h;refine C7 c15 ?_;exact g _ (Qc [0,905,4000,5000,6000]) _ _ Jy h (hle:=klR [(0,.fn 33 33 (λi=>[(λi=>if i=(0+x4.toNat*1)then (pI .u64 (E6 .or .u64 (z3 (0+x4.toNat*1)) (p_x (0+x7.toNat*1))))else (λi=>pI .u64 (z3 i)) i) i]) (λi=>[pI .u64 (Vg z3 (0+x4.toNat*1) (E6 .or .u64 (z3 (0+x4.toNat*1)) (p_x (0+x7.toNat*1))) i)]))] (al1 ⟨rfl,BA5 (c:=pI .u64) (v:=z3) (x:=E6 .or .u64 (z3 (0+x4.toNat*1)) (p_x (0+x7.toNat*1))) (λ_ _=>rfl) rfl⟩ al0))
  exact d _ (Qc [0,4000,5000,6000]) _ z3 _ Jy h
 obtain rfl:=A6 h;exact P3 Z (Qe rfl (H3 _ _):(0:Nat)=0/\(EQ 33 (λi=>pI .u64 (x3 i))).length=33) ⟨[(4,.reg 5000 0)],[(5000,.arr 33 (λi=>pI .u64 (x3 i))),(0,.arr 33 (λi=>pI .u64 (p_x i)))]⟩ [0] (ids:=(Qc [0,5000])) ⟨rfl,rfl,rfl⟩ (hle:=kl1 0 (Pf 33 (λi=>pI .u64 (x3 i))))
def H1 (N:Nat)(p_x:Nat->Int)(b:Int)(c:Int):Option (Nat->Int):= (U5 N c).bind λy1=>AT6 N (λa (x1:Int) (x2:Nat->Int) (x3:Nat->Int)=>if (decide (0<x1)) then if ((E6 .and .i64 x1 1)==1) then (F9 N x3 x2).bind λy8=>(N2 N x2).bind λy9=>a (shI .shr .i64 x1 1) y9 y8 else (N2 N x2).bind λd=>a (shI .shr .i64 x1 1) d x3 else some x3) b p_x y1
theorem AN {p_x:Nat->Int}{b:Int}{c:Int}{y:Nat->Int}(h:H1 N p_x b c=some y) :Qi S EB [.p (.agg (cA 33 (pI .u64) p_x)),pN b,pN c] [] (.p (.agg (cA 33 (pI .u64) y))) ([]) []:=by
 unfold H1 at h;refine A1 Z func297 ?_;refine kC Z h (Gf Z Y) (λy1 h=>?_);refine Nb Z (Qe rfl (H3 _ _):(0:Nat)=0/\(EQ 33 (λi=>pI .u64 (y1 i))).length=33) h (λx1 x2 x3=>⟨[(7,.reg 8000 0),(6,.reg 7000 0),(3,.reg 4000 0),(1,pN x1)],[(8000,.arr 33 (λi=>pI .u64 (x3 i))),(7000,.arr 33 (λi=>pI .u64 ((λ_=>0) i))),(4000,.arr 33 (λi=>pI .u64 (x2 i)))]⟩) (ids:=(Qc [4000,7000,8000])) (λ_ _ _ _ _ f x1 x2 x3 d h=>?_) (hle:=klR [(1,.fn 33 33 (λi=>[(λi=>(cA 33 (pI .u64) y1).getD i default) i]) (λi=>[pI .u64 (y1 i)])),(2,.fn 33 33 (λi=>[(λi=>(List.replicate 33 (pI .u64 0)).getD i default) i]) (λi=>[pI .u64 ((λ_=>0) i)])),(3,.fn 33 33 (λi=>[(λi=>(cA 33 (pI .u64) p_x).getD i default) i]) (λi=>[pI .u64 (p_x i)]))] (al1 ⟨rfl,Ej 33 (λi=>pI .u64 (y1 i))⟩ (al1 ⟨rfl,Ro (z:=pI .u64 0) rfl⟩ (al1 ⟨rfl,Ej 33 (λi=>pI .u64 (p_x i))⟩ al0))));apply kI Z h<;>intro h
 .apply kI Z h<;>intro h
  .obtain⟨y8,e8,h⟩:=A7 h;refine A8 Z [8000,4000] Jy (X0 Z Y e8) ?_;obtain⟨y9,e9,h⟩:=A7 h;refine A8 Z [4000] (Qe rfl (H3 _ _):(0:Nat)=0/\(EQ 33 (λi=>pI .u64 (y8 i))).length=33) (ED Z Y e9) ?_;exact d _ (Qc [4000,7000,8000]) _ (shI .shr .i64 x1 1) y9 y8 (Qe (Qe rfl (H3 _ _):(0:Nat)=0/\(EQ 33 (λi=>pI .u64 (y9 i))).length=33) (by decide:(0:Int)<=1)) h (hle:=kl2 1 3 (Pf 33 (λi=>pI .u64 (y8 i))) (Pf 33 (λi=>pI .u64 (y9 i))))
  obtain⟨a,e10,h⟩:=A7 h;refine A8 Z [4000] Jy (ED Z Y e10) ?_;exact d _ (Qc [4000,7000,8000]) _ (shI .shr .i64 x1 1) a x3 (Qe (Qe rfl (H3 _ _):(0:Nat)=0/\(EQ 33 (λi=>pI .u64 (a i))).length=33) (by decide:(0:Int)<=1)) h (hle:=kl1 3 (Pf 33 (λi=>pI .u64 (a i))))
 obtain rfl:=A6 h;exact P3 Z (Qe rfl (H3 _ _):(0:Nat)=0/\(EQ 33 (λi=>pI .u64 (x3 i))).length=33) ⟨[(6,.reg 7000 0)],[(7000,.arr 33 (λi=>pI .u64 (x3 i)))]⟩ [] (ids:=[(7000,7000)]) ⟨rfl,rfl,rfl⟩ (hle:=kl1 0 (Pf 33 (λi=>pI .u64 (x3 i))))
def AO (N:Nat)(p_x:AV9)(b:Sl Qb):Option (Nat->Int):= Y4 N (λa (x1:Nat->Int) (x2:Int)=>if (decide (x2<(b.n:Int))) then if ((0:Int)<=x2/\x2<(b.n:Int))then if ((((E6 .or .u32 (E6 .andNot .u32 p_x.is.Plus (b.g x2.toNat).Plus) (E6 .andNot .u32 p_x.is.Minus (b.g x2.toNat).Minus))==0)==p_x.not) != true) then if (((0:Int)<=(wrap .i64 (x2+1))/\((0:Int)<=x2/\x2<33))/\(0+x2.toNat*1)<33)then a (Vg x1 (0+x2.toNat*1) (shI .shl .u64 1 (wrap .i64 (x2+1)))) (wrap .i64 (x2+1)) else none else a x1 (wrap .i64 (x2+1)) else none else some x1) (λ_=>0) 0
theorem SI {p_x:AV9}{a:Sl Qb}{y:Nat->Int}(h:AO N p_x a=some y) :Qi S Gc [.p (.agg (AB2 p_x)),.p (vSl 2 A0 a)] [] (.p (.agg (cA 33 (pI .u64) y))) ([]) []:=by
 unfold AO at h;refine A1 Z func298 ?_;refine G2 Z Jy h (λx1 x2=>⟨[(9,pN x2),(8,pN (a.n:Int)),(7,.p (vSl 2 A0 a)),(4,.reg 5000 0),(2,.reg 3000 0)],[(5000,.arr 33 (λi=>pI .u64 (x1 i))),(3000,.cells ((AB2 p_x).map .p))]⟩) (ids:=(Qc [3000,5000])) (λ_ _ _ _ _ f x1 x2 d h=>?_) (hle:=kl1 3 (Bm4 33 (pI .u64 0)));apply kI Z h<;>intro h
 .obtain⟨c8,h⟩:=B9 h;refine C6 Z (Qe c8 Mn) (b:=(((E6 .or .u32 (E6 .andNot .u32 p_x.is.Plus (a.g x2.toNat).Plus) (E6 .andNot .u32 p_x.is.Minus (a.g x2.toNat).Minus))==0)==p_x.not) != true) (λc9=>?_) (λc9=>?_)
  .replace h:=itT c9 h;obtain⟨c10,h⟩:=B9 h;exact d _ (Qc [3000,5000]) _ (Vg x1 (0+x2.toNat*1) (shI .shl .u64 1 (wrap .i64 (x2+1)))) (wrap .i64 (x2+1)) c10 h (hle:=klR [(3,.fn 33 33 (λi=>[(λi=>if i=(0+x2.toNat*1)then (pI .u64 (shI .shl .u64 1 (wrap .i64 (x2+1))))else (λi=>pI .u64 (x1 i)) i) i]) (λi=>[pI .u64 (Vg x1 (0+x2.toNat*1) (shI .shl .u64 1 (wrap .i64 (x2+1))) i)]))] (al1 ⟨rfl,BA5 (c:=pI .u64) (v:=x1) (x:=shI .shl .u64 1 (wrap .i64 (x2+1))) (λ_ _=>rfl) rfl⟩ al0))
  replace h:=itF c9 h;exact d _ (Qc [3000,5000]) _ x1 _ Jy h
 obtain rfl:=A6 h;exact P3 Z (Qe rfl (H3 _ _):(0:Nat)=0/\(EQ 33 (λi=>pI .u64 (x1 i))).length=33) ⟨[(4,.reg 5000 0)],[(5000,.arr 33 (λi=>pI .u64 (x1 i)))]⟩ [] (ids:=[(5000,5000)]) ⟨rfl,rfl,rfl⟩ (hle:=kl1 0 (Pf 33 (λi=>pI .u64 (x1 i))))
def Ca (N:Nat)(p_x:BB6)(a:Sl Qb):Option (Nat->Int):= if p_x.end_ then if (((0:Int)<=(a.n:Int)/\((0:Int)<=(a.n:Int)/\(a.n:Int)<33))/\(0+(a.n:Int).toNat*1)<33)then some (Vg (λ_=>0) (0+(a.n:Int).toNat*1) (shI .shl .u64 1 (a.n:Int))) else none else if (((0:Int)<=0/\(0:Int)<33)/\(0+0*1)<33)then some (Vg (λ_=>0) (0+0*1) (shI .shl .u64 1 0)) else none
theorem Um {p_x:BB6}{a:Sl Qb}{y:Nat->Int}(h:Ca N p_x a=some y) :Qi S He [.p (.agg (BB7 p_x)),.p (vSl 2 A0 a)] [] (.p (.agg (cA 33 (pI .u64) y))) ([]) []:=by
 unfold Ca at h;refine A1 Z func299 ?_;apply kI Z h<;>intro h
 .obtain⟨c2,h⟩:=B9 h;obtain rfl:=A6 h;exact P3 Z (Qe (Qe (Qe c2.1.1 c2.1.2) c2.2) (Qe rfl (H3 _ _):(0:Nat)=0/\(EQ 33 (λi=>if i=(0+(a.n:Int).toNat*1)then (pI .u64 (shI .shl .u64 1 (a.n:Int)))else (λi=>(List.replicate 33 (pI .u64 0)).getD i default) i)).length=33)) ⟨[(4,.reg 5000 0)],[(5000,.arr 33 (λi=>pI .u64 (Vg (λ_=>0) (0+(a.n:Int).toNat*1) (shI .shl .u64 1 (a.n:Int)) i)))]⟩ [] (ids:=[(5000,5000)]) ⟨rfl,rfl,rfl⟩ (hle:=klR [(0,.fn 33 33 (λi=>[(λi=>(EQ 33 (λi=>if i=(0+(a.n:Int).toNat*1)then (pI .u64 (shI .shl .u64 1 (a.n:Int)))else (λi=>(List.replicate 33 (pI .u64 0)).getD i default) i)).getD i default) i]) (λi=>[pI .u64 (Vg (λ_=>0) (0+(a.n:Int).toNat*1) (shI .shl .u64 1 (a.n:Int)) i)]))] (al1 ⟨rfl,λi b=>(Ej 33 (λi=>if i=(0+(a.n:Int).toNat*1)then (pI .u64 (shI .shl .u64 1 (a.n:Int)))else (λi=>(List.replicate 33 (pI .u64 0)).getD i default) i) i b).trans (BA5 (c:=pI .u64) (v:=λ_=>0) (x:=shI .shl .u64 1 (a.n:Int)) (Ro (z:=pI .u64 0) rfl) rfl i b)⟩ al0))
 obtain⟨c3,h⟩:=B9 h;obtain rfl:=A6 h;exact P3 Z (Qe (Qe (Qe (by decide:(0:Int)<=0) c3.1) c3.2) (Qe rfl (H3 _ _):(0:Nat)=0/\(EQ 33 (λi=>if i=(0+0*1)then (pI .u64 (shI .shl .u64 1 0))else (λi=>(List.replicate 33 (pI .u64 0)).getD i default) i)).length=33)) ⟨[(4,.reg 5000 0)],[(5000,.arr 33 (λi=>pI .u64 (Vg (λ_=>0) (0+0*1) (shI .shl .u64 1 0) i)))]⟩ [] (ids:=[(5000,5000)]) ⟨rfl,rfl,rfl⟩ (hle:=klR [(0,.fn 33 33 (λi=>[(λi=>(EQ 33 (λi=>if i=(0+0*1)then (pI .u64 (shI .shl .u64 1 0))else (λi=>(List.replicate 33 (pI .u64 0)).getD i default) i)).getD i default) i]) (λi=>[pI .u64 (Vg (λ_=>0) (0+0*1) (shI .shl .u64 1 0) i)]))] (al1 ⟨rfl,λi b=>(Ej 33 (λi=>if i=(0+0*1)then (pI .u64 (shI .shl .u64 1 0))else (λi=>(List.replicate 33 (pI .u64 0)).getD i default) i) i b).trans (BA5 (c:=pI .u64) (v:=λ_=>0) (x:=shI .shl .u64 1 0) (Ro (z:=pI .u64 0) rfl) rfl i b)⟩ al0))
def Dq (rec:Part->(Sl Qb)->Option (Nat->Int))(N:Nat)(p_x:Pseq)(b:Sl Qb):Option (Nat->Int):= (U5 N (b.n:Int)).bind λy1=>Y4 N (λa (x1:Nat->Int) (x2:Int)=>if (decide (x2<(p_x.l.n:Int))) then if ((0:Int)<=x2/\x2<(p_x.l.n:Int))then (rec (p_x.l.g x2.toNat) b).bind λy6=>(F9 N x1 y6).bind λy7=>a y7 (wrap .i64 (x2+1)) else none else some x1) y1 0
theorem XF {rec:Part->(Sl Qb)->Option ((Nat->Int))}(b:∀{x:Part}{b0:(Sl Qb)}{y:(Nat->Int)},rec x b0=some y->BL8 S Tryz.prog (Jv x) "ablaut/pats.in" [(.p (vSl 2 A0 b0))] (.p (.agg (cA 33 (pI .u64) y)))){p_x:Pseq}{a:(Sl Qb)}{y:(Nat->Int)}(h:Dq rec N p_x a=some y) :Qi S Il [(.p (.agg (BO0 p_x))),(.p (vSl 2 A0 a))] [] (.p (.agg (cA 33 (pI .u64) y))) ([]) []:=by
 unfold Dq at h;refine A1 Z func305 ?_;refine kC Z h (Gf Z Y) (λy1 h=>?_);refine G2 Z (Qe rfl (H3 _ _):(0:Nat)=0/\(EQ 33 (λi=>pI .u64 (y1 i))).length=33) h (λx1 x2=>⟨[(15,(pN x2)),(14,(pN (p_x.l.n:Int))),(13,(.p (vSl 1 Ln p_x.l))),(5,(.reg 6000 0)),(4,(.reg 5000 0)),(1,(.p (vSl 2 A0 a)))],[(6000,(.arr 33 (λi=>pI .u64 (x1 i)))),(5000,(.arr 33 (λi=>pI .u64 ((λ_=>0) i))))]⟩) (ids:=(Qc [5000,6000])) (λ_ _ _ _ _ c x1 x2 d h=>?_) (hle:=(kl2 4 5 (Pf 33 (λi=>pI .u64 (y1 i))) (Bm4 33 (pI .u64 0))));apply kI Z h<;>intro h
 .obtain⟨c6,h⟩:=B9 h;obtain⟨y6,e6,h⟩:=A7 h;refine QB Z c6 (b e6) ?_;refine Na Z (Qe rfl (H3 _ _):(0:Nat)=0/\(EQ 33 (λi=>pI .u64 (y6 i))).length=33) ⟨[(15,(pN x2)),(14,(pN (p_x.l.n:Int))),(13,(.p (vSl 1 Ln p_x.l))),(8,(.reg 9000 0)),(5,(.reg 6000 0)),(4,(.reg 5000 0)),(1,(.p (vSl 2 A0 a)))],[(9000,(.arr 33 (λi=>pI .u64 (y6 i)))),(6000,(.arr 33 (λi=>pI .u64 (x1 i)))),(5000,(.arr 33 (λi=>pI .u64 ((λ_=>0) i))))]⟩ (ids:=(Qc [5000,6000,9000])) ?_ (hle:=(kl1 4 (Pf 33 (λi=>pI .u64 (y6 i)))));obtain⟨y7,e7,h⟩:=A7 h;refine A8 Z [6000,9000] Jy (X0 Z Y e7) ?_;exact d _ (Qc [5000,6000]) _ y7 (wrap .i64 (x2+1)) (Qe rfl (H3 _ _):(0:Nat)=0/\(EQ 33 (λi=>pI .u64 (y7 i))).length=33) h (hle:=kl1 4 (Pf 33 (λi=>pI .u64 (y7 i))))
 obtain rfl:=A6 h;exact P3 Z (Qe rfl (H3 _ _):(0:Nat)=0/\(EQ 33 (λi=>pI .u64 (x1 i))).length=33) ⟨[(4,(.reg 5000 0))],[(5000,(.arr 33 (λi=>pI .u64 (x1 i))))]⟩ [] (ids:=[(5000,5000)]) ⟨rfl,rfl,rfl⟩ (hle:=(kl1 0 (Pf 33 (λi=>pI .u64 (x1 i)))))
def Dr (rec:Part->(Sl Qb)->Option (Nat->Int))(N:Nat)(p_x:Palt)(b:Sl Qb):Option (Nat->Int):= Y4 N (λa (x1:Nat->Int) (x2:Int)=>if (decide (x2<(p_x.l.n:Int))) then if ((0:Int)<=x2/\x2<(p_x.l.n:Int))then (rec (p_x.l.g x2.toNat) b).bind λy5=>(Q7 N x1 y5).bind λy6=>a y6 (wrap .i64 (x2+1)) else none else some x1) (λ_=>0) 0
theorem XG {rec:Part->(Sl Qb)->Option ((Nat->Int))}(b:∀{x:Part}{b0:(Sl Qb)}{y:(Nat->Int)},rec x b0=some y->BL8 S Tryz.prog (Jv x) "ablaut/pats.in" [(.p (vSl 2 A0 b0))] (.p (.agg (cA 33 (pI .u64) y)))){p_x:Palt}{a:(Sl Qb)}{y:(Nat->Int)}(h:Dr rec N p_x a=some y) :Qi S Ij [(.p (.agg (BN7 p_x))),(.p (vSl 2 A0 a))] [] (.p (.agg (cA 33 (pI .u64) y))) ([]) []:=by
 unfold Dr at h;refine A1 Z func300 ?_;refine G2 Z Jy h (λx1 x2=>⟨[(11,(pN x2)),(10,(pN (p_x.l.n:Int))),(9,(.p (vSl 1 Ln p_x.l))),(4,(.reg 5000 0)),(1,(.p (vSl 2 A0 a)))],[(5000,(.arr 33 (λi=>pI .u64 (x1 i))))]⟩) (ids:=[(5000,5000)]) (λ_ _ _ _ _ c x1 x2 d h=>?_) (hle:=(kl1 4 (Bm4 33 (pI .u64 0))));apply kI Z h<;>intro h
 .obtain⟨c6,h⟩:=B9 h;obtain⟨y5,e5,h⟩:=A7 h;refine QB Z c6 (b e5) ?_;refine Na Z (Qe rfl (H3 _ _):(0:Nat)=0/\(EQ 33 (λi=>pI .u64 (y5 i))).length=33) ⟨[(11,(pN x2)),(10,(pN (p_x.l.n:Int))),(9,(.p (vSl 1 Ln p_x.l))),(7,(.reg 8000 0)),(4,(.reg 5000 0)),(1,(.p (vSl 2 A0 a)))],[(8000,(.arr 33 (λi=>pI .u64 (y5 i)))),(5000,(.arr 33 (λi=>pI .u64 (x1 i))))]⟩ (ids:=(Qc [5000,8000])) ?_ (hle:=(kl1 4 (Pf 33 (λi=>pI .u64 (y5 i)))));obtain⟨y6,e6,h⟩:=A7 h;refine A8 Z [5000,8000] Jy (GT Z Y e6) ?_;exact d _ [(5000,5000)] _ y6 _ Jy h
 obtain rfl:=A6 h;exact P3 Z (Qe rfl (H3 _ _):(0:Nat)=0/\(EQ 33 (λi=>pI .u64 (x1 i))).length=33) ⟨[(4,(.reg 5000 0))],[(5000,(.arr 33 (λi=>pI .u64 (x1 i))))]⟩ [] (ids:=[(5000,5000)]) ⟨rfl,rfl,rfl⟩ (hle:=(kl1 0 (Pf 33 (λi=>pI .u64 (x1 i)))))
def Ds (rec:Part->(Sl Qb)->Option (Nat->Int))(N:Nat)(p_x:BN8)(a:Sl Qb):Option (Nat->Int):= (rec p_x.of a).bind λy1=>(H1 N y1 p_x.min (a.n:Int)).bind λy2=>(U5 N (a.n:Int)).bind λy3=>(Q7 N y1 y3).bind λy4=>if (decide (p_x.max<0)) then (H1 N y4 (a.n:Int) (a.n:Int)).bind λy5=>(F9 N y2 y5).bind λy6=>some y6 else (H1 N y4 (wrap .i64 (p_x.max-p_x.min)) (a.n:Int)).bind λy7=>(F9 N y2 y7).bind λy8=>some y8
theorem XH {rec:Part->(Sl Qb)->Option ((Nat->Int))}(b:∀{x:Part}{b0:(Sl Qb)}{y:(Nat->Int)},rec x b0=some y->BL8 S Tryz.prog (Jv x) "ablaut/pats.in" [(.p (vSl 2 A0 b0))] (.p (.agg (cA 33 (pI .u64) y)))){p_x:BN8}{a:(Sl Qb)}{y:(Nat->Int)}(h:Ds rec N p_x a=some y) :Qi S Ik [(.p (.agg (BN9 p_x))),(.p (vSl 2 A0 a))] [] (.p (.agg (cA 33 (pI .u64) y))) ([]) []:=by
 unfold Ds at h;refine A1 Z func302 ?_;obtain⟨y1,e1,h⟩:=A7 h;refine QB Z Jy (b e1) ?_;refine Na Z (Qe rfl (H3 _ _):(0:Nat)=0/\(EQ 33 (λi=>pI .u64 (y1 i))).length=33) ⟨[(18,(pN (a.n:Int))),(16,(pN p_x.min)),(14,(.p (.agg (cA 33 (pI .u64) y1)))),(5,(.reg 6000 0)),(4,(.reg 5000 0)),(2,(.reg 3000 0)),(1,(.p (vSl 2 A0 a)))],[(6000,(.arr 33 (λi=>pI .u64 (y1 i)))),(5000,(.arr 33 (λi=>pI .u64 ((λ_=>0) i)))),(3000,(.cells [(.p (Jv p_x.of)),(pN p_x.min),(pN p_x.max)]))]⟩ (ids:=(Qc [3000,5000,6000])) ?_ (hle:=(klR [(2,.eq (.agg (EQ 33 (λi=>(cA 33 (pI .u64) y1).getD i default))) (.agg (cA 33 (pI .u64) y1))),(4,.fn 33 33 (λi=>[(λi=>(cA 33 (pI .u64) y1).getD i default) i]) (λi=>[pI .u64 (y1 i)])),(5,.fn 33 33 (λi=>[(λi=>(List.replicate 33 (pI .u64 0)).getD i default) i]) (λi=>[pI .u64 ((λ_=>0) i)]))] (al1 (congrArg PV.agg (AH5 (Ej 33 (λi=>pI .u64 (y1 i))))) (al1 ⟨rfl,(Ej 33 (λi=>pI .u64 (y1 i)))⟩ (al1 ⟨rfl,(Ro (z:=pI .u64 0) rfl)⟩ al0)))));refine kC Z h (AN Z Y) (λy2 h=>?_);obtain⟨y3,e3,h⟩:=A7 h;refine A8 Z [] (Qe (Qe rfl (H3 _ _):(0:Nat)=0/\(EQ 33 (λi=>pI .u64 (y2 i))).length=33) (Qe rfl (H3 _ _):(0:Nat)=0/\(EQ 33 (λi=>pI .u64 (y1 i))).length=33)) (Gf Z Y e3) ?_;refine Na Z (Qe rfl (H3 _ _):(0:Nat)=0/\(EQ 33 (λi=>pI .u64 (y3 i))).length=33) ⟨[(8,(.reg 9000 0)),(7,(.reg 8000 0)),(6,(.reg 7000 0)),(4,(.reg 5000 0)),(2,(.reg 3000 0)),(1,(.p (vSl 2 A0 a)))],[(9000,(.arr 33 (λi=>pI .u64 (y3 i)))),(8000,(.arr 33 (λi=>pI .u64 (y1 i)))),(7000,(.arr 33 (λi=>pI .u64 (y2 i)))),(5000,(.arr 33 (λi=>pI .u64 ((λ_=>0) i)))),(3000,(.cells [(.p (Jv p_x.of)),(pN p_x.min),(pN p_x.max)]))]⟩ (ids:=(Qc [3000,5000,7000,8000,9000])) ?_ (hle:=(klR [(1,.fn 33 33 (λi=>[(λi=>(cA 33 (pI .u64) y3).getD i default) i]) (λi=>[pI .u64 (y3 i)])),(2,.fn 33 33 (λi=>[(λi=>(cA 33 (pI .u64) y1).getD i default) i]) (λi=>[pI .u64 (y1 i)])),(3,.fn 33 33 (λi=>[(λi=>(cA 33 (pI .u64) y2).getD i default) i]) (λi=>[pI .u64 (y2 i)]))] (al1 ⟨rfl,(Ej 33 (λi=>pI .u64 (y3 i)))⟩ (al1 ⟨rfl,(Ej 33 (λi=>pI .u64 (y1 i)))⟩ (al1 ⟨rfl,(Ej 33 (λi=>pI .u64 (y2 i)))⟩ al0)))));obtain⟨y4,e4,h⟩:=A7 h;refine A8 Z [8000,9000] Jy (GT Z Y e4) ?_;apply kI Z h<;>intro h
 .refine kC Z h (AN Z Y) (λy5 h=>?_);refine Na Z (Qe rfl (H3 _ _):(0:Nat)=0/\(EQ 33 (λi=>pI .u64 (y5 i))).length=33) ⟨[(7,(.reg 8000 0)),(6,(.reg 7000 0)),(4,(.reg 5000 0))],[(8000,(.arr 33 (λi=>pI .u64 (y5 i)))),(7000,(.arr 33 (λi=>pI .u64 (y2 i)))),(5000,(.arr 33 (λi=>pI .u64 ((λ_=>0) i))))]⟩ (ids:=(Qc [5000,7000,8000])) ?_ (hle:=(kl1 0 (Pf 33 (λi=>pI .u64 (y5 i)))));obtain⟨y6,e6,h⟩:=A7 h;refine A8 Z [7000,8000] Jy (X0 Z Y e6) ?_;obtain rfl:=A6 h;exact P3 Z (Qe rfl (H3 _ _):(0:Nat)=0/\(EQ 33 (λi=>pI .u64 (y6 i))).length=33) ⟨[(4,(.reg 5000 0))],[(5000,(.arr 33 (λi=>pI .u64 (y6 i))))]⟩ [] (ids:=[(5000,5000)]) ⟨rfl,rfl,rfl⟩ (hle:=(kl1 0 (Pf 33 (λi=>pI .u64 (y6 i)))))
 refine kC Z h (AN Z Y) (λy7 h=>?_);refine Na Z (Qe rfl (H3 _ _):(0:Nat)=0/\(EQ 33 (λi=>pI .u64 (y7 i))).length=33) ⟨[(7,(.reg 8000 0)),(6,(.reg 7000 0)),(4,(.reg 5000 0))],[(8000,(.arr 33 (λi=>pI .u64 (y7 i)))),(7000,(.arr 33 (λi=>pI .u64 (y2 i)))),(5000,(.arr 33 (λi=>pI .u64 ((λ_=>0) i))))]⟩ (ids:=(Qc [5000,7000,8000])) ?_ (hle:=(kl1 0 (Pf 33 (λi=>pI .u64 (y7 i)))));obtain⟨y8,e8,h⟩:=A7 h;refine A8 Z [7000,8000] Jy (X0 Z Y e8) ?_;obtain rfl:=A6 h;exact P3 Z (Qe rfl (H3 _ _):(0:Nat)=0/\(EQ 33 (λi=>pI .u64 (y8 i))).length=33) ⟨[(4,(.reg 5000 0))],[(5000,(.arr 33 (λi=>pI .u64 (y8 i))))]⟩ [] (ids:=[(5000,5000)]) ⟨rfl,rfl,rfl⟩ (hle:=(kl1 0 (Pf 33 (λi=>pI .u64 (y8 i)))))
def Af (rec:Pat->Option Part)(N:Nat)(a:Pat):Option Part:= Y4 N (λb (x1:Sl Part) (x2:Int)=>if (decide (x2<(a.L.n:Int))) then if ((0:Int)<=x2/\x2<(a.L.n:Int))then (rec (a.L.g x2.toNat)).bind λy3=>if (Qd 16 (x1.n+(Sl.of [y3]:Sl Part).n))then b (x1.push y3) (wrap .i64 (x2+1)) else none else none else if (a.Kind==1) then some (Part.sound a.Is a.Not) else if (a.Kind==2) then some (Part.edge false) else if (a.Kind==6) then some (Part.edge true) else if (a.Kind==4) then some (Part.alt x1.n x1.g) else if (a.Kind==5) then if (((0:Int)<=0/\0<(x1.n:Int))/\0<x1.n)then some (Part.rep (x1.g 0) a.Min a.Max) else none else some (Part.seq x1.n x1.g)) (Sl.nil:Sl Part) 0
def Cb:Nat->Pat->Option Part
 |0=>λ_=>none
 |N+1=>Af (Cb N) N
theorem SJ {rec:Pat->Option Part}(b:∀{a:Pat}{y:Part},rec a=some y->Qi S El [.p (.agg (B7 a))] [] (.p (Jv y)) ([]) []){a:Pat}{y:Part}(h:Af rec N a=some y) :Qi S El [.p (.agg (B7 a))] [] (.p (Jv y)) ([]) []:=by
 unfold Af at h;refine A1 Z func270 ?_;refine D9 Z Jy 2 2000 (B7 a) ?_;refine I7 Z Jy 8 ⟨[(7,.p (vSl 7 B7 a.L)),(3,.p I3),(1,.p (.ptr (B7 a)))],[]⟩ (ids:=[]) ?_ (hle:=klR [(0,.fn a.L.n a.L.n (CA a) (λi=>B7 (a.L.g i)))] (al1 ⟨rfl,P7 a⟩ al0));refine G2 Z Jy h (λx1 x2=>⟨[(9,pN x2),(8,pN (a.L.n:Int)),(7,.p (vSl 7 B7 a.L)),(3,.vec 4500),(1,.p (.ptr (B7 a)))],[(4500,oV Aq6 1 Ln x1 false)]⟩) (ids:=[]) (λ_ _ _ _ _ c x1 x2 d h=>?_);apply kI Z h<;>intro h
 .obtain⟨c6,h⟩:=B9 h;refine D9 Z (Qe c6 Nt) 13 6000 (B7 (a.L.g x2.toNat)) ?_;obtain⟨y3,e3,h⟩:=A7 h;refine A8 Z [] Nt (b e3) ?_;obtain⟨c7,h⟩:=B9 h;exact d _ [(4500,18000)] _ (x1.push y3) (wrap .i64 (x2+1)) (Qe Ow c7) h (hle:=kl1 4 (R7 Ln x1 y3 [.v .nilIface]))
 apply kI Z h<;>intro h
 .obtain rfl:=A6 h;exact AU6 Z (by decide:(2:Nat)<=6) [] ⟨rfl,rfl,rfl⟩
 refine Ug Z h fun h=>?_;refine Ug Z h fun h=>?_;apply kI Z h<;>intro h
 .refine I7 Z Jy 40 ⟨[(39,.p (vSl 1 Ln x1))],[]⟩ (ids:=[]) ?_;cases h;exact kR Z
 apply kI Z h<;>intro h
 .refine B5 Z Jy [4,6] ?_;obtain⟨c13,h⟩:=B9 h;refine C7 c13 ?_;cases h;exact kR Z
 refine I7 Z Jy 54 ⟨[(53,.p (vSl 1 Ln x1))],[]⟩ (ids:=[]) ?_;cases h;exact kR Z
theorem Un {a:Pat}{y:Part}(h:Cb N a=some y) :Qi S El [.p (.agg (B7 a))] [] (.p (Jv y)) ([]) []:=by
 induction N generalizing a y with
 |zero=>cases (show (none:Option Part)=some y from h)
 |succ N ih=>exact SJ Z Y (λe=>ih e) h
def Cc:Nat->Part->Sl Qb->Option (Nat->Int)
 |0=>λ_ _=>none
 |N+1=>λp w=>match p with
  |.nil=>none
  |.sound x no=>AO N ⟨x,no⟩ w
  |.edge e=>Ca N ⟨e⟩ w
  |.seq n g=>Dq (Cc N) N ⟨⟨n,g⟩⟩ w
  |.alt n g=>Dr (Cc N) N ⟨⟨n,g⟩⟩ w
  |.rep o mn mx=>Ds (Cc N) N ⟨o,mn,mx⟩ w
theorem AX5 {N:Nat}{x:Part}{w:Sl Qb}{y:Nat->Int}(h:Cc N x w=some y):BL8 S Tryz.prog (Jv x) "ablaut/pats.in" [(.p (vSl 2 A0 w))] (.p (.agg (cA 33 (pI .u64) y))):=by
 induction N generalizing x w y with
 |zero=>cases h
 |succ N ih=>
  cases x with
  |nil=>cases h
  |sound s no=>exact⟨_,_,Gc,rfl,by kernel_rfl,SI Z Y (p_x:=⟨s,no⟩) h⟩
  |edge e=>exact⟨_,_,He,rfl,by kernel_rfl,Um Z Y (N:=N) (p_x:=⟨e⟩) h⟩
  |seq n g=>exact⟨_,_,Il,rfl,by kernel_rfl,XF Z Y (λe=>ih e) (p_x:=⟨⟨n,g⟩⟩) h⟩
  |alt n g=>exact⟨_,_,Ij,rfl,by kernel_rfl,XG Z Y (λe=>ih e) (p_x:=⟨⟨n,g⟩⟩) h⟩
  |rep o mn mx=>exact⟨_,_,Ik,rfl,by kernel_rfl,XH Z Y (λe=>ih e) (p_x:=⟨o,mn,mx⟩) h⟩
def X9 (N:Nat)(a:Qb):Option Bool:= (T3 N a).bind λy1=>some (!y1)
theorem SK {a:Qb}{y:Bool}(h:X9 N a=some y) :Qi S JM [.p (.agg (A0 a))] [] (pB y) ([]) []:=by unfold X9 at h;refine A1 Z func269 ?_;refine kC Z h (GS Z Y) (λy1 h=>?_);cases h;exact kR Z
def F8 (N:Nat)(a:Sl Qb)(c:Qb->Option Bool):Option Int:= O7 N (λb (x1:Int)=>if (decide (x1<(a.n:Int))) then if ((0:Int)<=x1/\x1<(a.n:Int))then (c (a.g x1.toNat)).bind λy3=>if y3 then some x1 else b (wrap .i64 (x1+1)) else none else some (-1)) 0
theorem Aw {a:Sl Qb}{c:Qb->Option Bool}{kp_f:Nat}(d:∀{a0:Qb}{b:Bool},c a0=some b->Qi S kp_f [.p (.agg (A0 a0))] [] (pB b) [] []){y:Int}(h:F8 N a c=some y) :Qi S O5 [.p (vSl 2 A0 a),.clo kp_f [] []] [] (pN y) ([]) []:=by
 unfold F8 at h;refine A1 Z func207 ?_;refine F1 Z Jy h (λx1=>⟨[(8,pN x1),(7,pN (a.n:Int)),(1,.clo kp_f [] []),(0,.p (vSl 2 A0 a))],[]⟩) (ids:=[]) (λ_ _ _ _ _ f x1 g h=>?_);apply kI Z h<;>intro h
 .obtain⟨c8,h⟩:=B9 h;obtain⟨y3,e3,h⟩:=A7 h;refine A8 Z [] (Qe c8 Mn) (d e3) ?_;refine Ug Z h fun h=>?_;exact g _ [] _ _ Jy h
 cases h;exact kR Z
def C5 (N:Nat)(a:Sl Qb)(b:Qb->Option Bool):Option Bool:= (F8 N a b).bind λy1=>some (decide (0<=y1))
theorem N7 {a:Sl Qb}{c:Qb->Option Bool}{kp_f:Nat}(d:∀{a0:Qb}{b:Bool},c a0=some b->Qi S kp_f [.p (.agg (A0 a0))] [] (pB b) [] []){y:Bool}(h:C5 N a c=some y) :Qi S N6 [.p (vSl 2 A0 a),.clo kp_f [] []] [] (pB y) ([]) []:=by unfold C5 at h;refine A1 Z func171 ?_;refine kC Z h (Aw Z Y (λe=>d e)) (λy1 h=>?_);cases h;exact kR Z
def E7 (N:Nat)(q0:Sl Pat):Option (List (Int×Pat)):= O7 N (λa (x1:Int)=>if (decide (0<=x1)) then if ((0:Int)<=x1/\x1<(q0.n:Int))then Dk (x1,q0.g x1.toNat) (a (wrap .i64 (x1-1))) else none else some []) (wrap .i64 ((q0.n:Int)-1))
theorem Bo {q0:Sl Pat}{L:List (Int×Pat)}(h:E7 N q0=some L) :FQ S I8 [] [.reg 0 0] [.cells [.p (vSl 7 B7 q0)]] (L.map (λ(x:Int×Pat)=>[pI .i64 x.1,(λx=>.agg (B7 x)) x.2])):=by
 unfold E7 at h;refine Fm Z func222 ?_;refine DQ Z Jy h (λx1 L1=>⟨[(3,pN x1),(1,.reg 0 0),(0,.yf 1)],[(1,.yld (L1.map (λ(x:Int×Pat)=>[pI .i64 x.1,(λx=>.agg (B7 x)) x.2])) true),(0,.cells [.p (vSl 7 B7 q0)])]⟩) (ids:=(Qc [0,1])) (λ_ _ _ _ _ d x1 L1 f h=>?_);apply kI Z h<;>intro h
 .obtain⟨c10,h⟩:=B9 h;obtain⟨L4,rfl,c⟩:=Ou h;replace h:=c;refine DP Z (Qe c10 Nt) (ys:=(λ(x:Int×Pat)=>[pI .i64 x.1,(λx=>.agg (B7 x)) x.2]) (x1,q0.g x1.toNat)) (rest:=L4.map (λ(x:Int×Pat)=>[pI .i64 x.1,(λx=>.agg (B7 x)) x.2])) ?_ ?_
  .refine C6 Z Jy (b:=false) (λc11=>?_) (λc11=>?_)
   .exact Bool.noConfusion ((rfl:false=false).symm.trans c11)
   exact f _ (Qc [0,1]) _ _ L4 Jy h
  refine C6 Z Jy (b:=true) (λc12=>?_) (λc12=>?_)
  .exact kO Z Jy (a:=.tup []) (objs:=[(.cells [.p (vSl 7 B7 q0)]),.yld [] false]) [0,1] ⟨false,rfl,rfl,_,rfl⟩
  exact Bool.noConfusion (Ow.symm.trans c12)
 obtain rfl:=A6 h;exact kO Z Jy (a:=.tup []) (objs:=[(.cells [.p (vSl 7 B7 q0)]),.yld [] true]) [0,1] ⟨true,rfl,rfl,_,rfl⟩
def K5 (N:Nat)(a:Sl Pat):Option (Sl Pat):= some a
theorem Cd {a:Sl Pat}{y:Sl Pat}(h:K5 N a=some y) :Qi S T1 [.p (vSl 7 B7 a)] [] (.clo I8 [] [.reg 0 0]) ([.cells [.p (vSl 7 B7 y)]]) []:=by unfold K5 at h;refine A1 Z func206 ?_;obtain rfl:=A6 h;exact kO Z Jy [2000]
def AP (N:Nat)(c:Pat):Option Int:= Y4 N (λa (x3:Sl Pat) (x4:Int)=>if (decide (0<(x3.n:Int))) then if (x4==40) then some 12 else if (((0:Int)<=(wrap .i64 ((x3.n:Int)-1))/\(wrap .i64 ((x3.n:Int)-1))<(x3.n:Int))/\(wrap .i64 ((x3.n:Int)-1)).toNat<x3.n)then if ((0:Int)<=(wrap .i64 ((x3.n:Int)-1))/\(wrap .i64 ((x3.n:Int)-1))<=(x3.n:Int))then (BY N (x3.g (wrap .i64 ((x3.n:Int)-1)).toNat)).bind λy5=>if (y5 != 0) then some y5 else if ((0:Int)<=(if 41<((x3.g (wrap .i64 ((x3.n:Int)-1)).toNat).L.n:Int)then 41 else ((x3.g (wrap .i64 ((x3.n:Int)-1)).toNat).L.n:Int))/\(if 41<((x3.g (wrap .i64 ((x3.n:Int)-1)).toNat).L.n:Int)then 41 else ((x3.g (wrap .i64 ((x3.n:Int)-1)).toNat).L.n:Int))<=((x3.g (wrap .i64 ((x3.n:Int)-1)).toNat).L.n:Int))then (K5 N ((x3.g (wrap .i64 ((x3.n:Int)-1)).toNat).L.take (if 41<((x3.g (wrap .i64 ((x3.n:Int)-1)).toNat).L.n:Int)then 41 else ((x3.g (wrap .i64 ((x3.n:Int)-1)).toNat).L.n:Int)).toNat)).bind λy6=>(E7 N y6).bind λL3=>T9 L3 (λb (x7:Int×Pat) (z3:Sl Pat)=>if (((Qd 64 (z3.n+(Sl.of [Pat.nil]:Sl Pat).n))/\((0:Int)<=(z3.n:Int)/\(z3.n:Int)<((z3.push Pat.nil).n:Int)))/\(z3.n:Int).toNat<(z3.push Pat.nil).n)then b ((z3.push Pat.nil).upd (z3.n:Int).toNat x7.2) else none) (λ(z3:Sl Pat)=>a z3 (wrap .i64 (x4+1))) (x3.take (wrap .i64 ((x3.n:Int)-1)).toNat) else none else none else none else some 0) (Sl.of [c]:Sl Pat) 0
theorem JQ {b:Pat}{y:Int}(h:AP N b=some y) :Qi S Pz [.p (.agg (B7 b))] [] (pN y) ([]) []:=by
 unfold AP at h;refine A1 Z func170 ?_;refine D9 Z Jy 2 2000 (B7 b) ?_;refine G2 Z (Qe Nt Ow) h (λx3 x4=>⟨[(4,pN x4),(3,.reg 4000 0)],[(4501,oV HB 7 B7 x3 false),(4000,.cells [.vec 4501])]⟩) (ids:=[(4000,4000),(4501,12000)]) (λ_ _ _ _ _ d x3 x4 j h=>?_) (hle:=kl1 1 (AP0 B7 ([b]:List Pat) [pI .i64 0,pI .u32 0,pI .u32 0,.v (.bool false),pI .i64 0,pI .i64 0,I3]));apply kI Z h<;>intro h
 .refine Ug Z h fun h=>?_;obtain⟨c21,h⟩:=B9 h;refine D9 Z (Qe (Qe c21.1 Nt) c21.2) 25 6000 (B7 (x3.g (wrap .i64 ((x3.n:Int)-1)).toNat)) ?_;obtain⟨c22,h⟩:=B9 h;refine BL9 Z c22 30 4501 (wrap .i64 ((x3.n:Int)-1)).toNat 4508 (e:=HB) (k:=7) (N:=x3.n) (f:=λi=>B7 (x3.g i)) (by have q:=c22;omega) ?_;obtain⟨y5,e7,h⟩:=A7 h;refine A8 Z [] Nt (Uk Z Y e7) ?_;refine Ug Z h fun h=>?_;refine I7 Z Jy 39 ⟨[(38,.p (vSl 7 B7 (x3.g (wrap .i64 ((x3.n:Int)-1)).toNat).L)),(36,.p (vSl 7 B7 (x3.g (wrap .i64 ((x3.n:Int)-1)).toNat).L)),(4,pN x4),(3,.reg 4000 0)],[(4508,.vec HB 7 (x3.take (wrap .i64 ((x3.n:Int)-1)).toNat).n (λi=>B7 ((x3.take (wrap .i64 ((x3.n:Int)-1)).toNat).g i)) false),(4000,.cells [.vec 4508])]⟩ (ids:=(Qc [4000,4508])) ?_ (hle:=klR [(0,.fn (x3.g (wrap .i64 ((x3.n:Int)-1)).toNat).L.n (x3.g (wrap .i64 ((x3.n:Int)-1)).toNat).L.n (CA (x3.g (wrap .i64 ((x3.n:Int)-1)).toNat)) (λi=>B7 ((x3.g (wrap .i64 ((x3.n:Int)-1)).toNat).L.g i))),(1,.fn (x3.g (wrap .i64 ((x3.n:Int)-1)).toNat).L.n (x3.g (wrap .i64 ((x3.n:Int)-1)).toNat).L.n (CA (x3.g (wrap .i64 ((x3.n:Int)-1)).toNat)) (λi=>B7 ((x3.g (wrap .i64 ((x3.n:Int)-1)).toNat).L.g i)))] (al1 ⟨rfl,P7 (x3.g (wrap .i64 ((x3.n:Int)-1)).toNat)⟩ (al1 ⟨rfl,P7 (x3.g (wrap .i64 ((x3.n:Int)-1)).toNat)⟩ al0)));obtain⟨c24,h⟩:=B9 h;obtain⟨y6,e8,h⟩:=A7 h;refine A8 Z [] c24 (Cd Z Y e8) ?_;obtain⟨L3,e9,h⟩:=A7 h;refine Js Z Jy [44000] [4,3] 905 (λz3=>⟨[(4,pN x4),(3,.reg 4000 0)],[(4500,oV HB 7 B7 z3 false),(4000,.cells [.vec 4500])]⟩) (idl:=[(4000,4000),(4500,4508)]) h (Bo Z Y e9) (λ_=>by kernel_rfl) (λ_=>by kernel_rfl) (λ_=>by kernel_rfl) (λ_=>by kernel_rfl) (λx7 _ m z3 o h=>?_) (λz3 h=>?_)
  .refine Nc Z Jy ?_;refine ZC Z Jy 10000 (B7 x7.2) ?_;refine I0 Z Jy [(0,.l [4000]),(1,.n),(2,.l [4500]),(4,.a [51000,4500]),(5,.l [51000]),(6,.a [51000]),(7,.a [4000])] ?_;refine O8 Nt (x:=.sl true 7 1 (H2 [pI .i64 0,pI .u32 0,pI .u32 0,.v (.bool false),pI .i64 0,pI .i64 0,I3] [(0,[pI .i64 0,pI .u32 0,pI .u32 0,.v (.bool false),pI .i64 0,pI .i64 0,I3])])) ?_;obtain⟨c27,h⟩:=B9 h;refine C7 (Qe (Qe c27.1.1 c27.1.2) (Qe (rfl:(7:Nat)=7) (Qe c27.2 Nt))) ?_;exact o _ [(905,905),(4000,4000),(4500,51000)] _ _ Jy h (hle:=klR [(0,.fn (z3.n+1) ((z3.push Pat.nil).upd (z3.n:Int).toNat x7.2).n (λl=>if l=(z3.n:Int).toNat then splice (DF z3.n (λi=>B7 (z3.g i)) (H2 [pI .i64 0,pI .u32 0,pI .u32 0,.v (.bool false),pI .i64 0,pI .i64 0,I3] [(0,[pI .i64 0,pI .u32 0,pI .u32 0,.v (.bool false),pI .i64 0,pI .i64 0,I3])]) l) 0 [pI .i64 x7.2.Kind,pI .u32 x7.2.Is.Plus,pI .u32 x7.2.Is.Minus,.bb x7.2.Not,pI .i64 x7.2.Min,pI .i64 x7.2.Max,.sl false 7 x7.2.L.n (CA x7.2)]else (DF z3.n (λi=>B7 (z3.g i)) (H2 [pI .i64 0,pI .u32 0,pI .u32 0,.v (.bool false),pI .i64 0,pI .i64 0,I3] [(0,[pI .i64 0,pI .u32 0,pI .u32 0,.v (.bool false),pI .i64 0,pI .i64 0,I3])])) l) (λi=>B7 (((z3.push Pat.nil).upd (z3.n:Int).toNat x7.2).g i)))] (al1 ⟨rfl,setH (c:=B7) (v:=z3.push Pat.nil) (x:=x7.2) (app1H (c:=B7) (v:=z3) (z:=Pat.nil) same rfl) (λ_=>by simp[DF,H2,splice])⟩ al0))
  exact j _ [(4000,4000),(4501,4500)] _ z3 _ Jy h
 cases h;exact kR Z
def Bp (N:Nat)(b:Pat)(a:Sl Qb):Option ((Nat->Int)×Int):= (AP N b).bind λy1=>if (y1 != 0) then some (λ_=>0,y1) else if (decide (32<(a.n:Int))) then some (λ_=>0,11) else (C5 N a (λ(u1:Qb)=>X9 N u1)).bind λy2=>if y2 then some (λ_=>0,14) else (Cb N b).bind λy3=>(Cc N y3 a).bind λy4=>some (y4,0)
theorem NK {a:Pat}{b:Sl Qb}{y:(Nat->Int)×Int}(h:Bp N a b=some y) :Qi S NE [.p (.agg (B7 a)),.p (vSl 2 A0 b)] [] (.tup [.p (.agg (cA 33 (pI .u64) y.1)),pN y.2]) ([]) []:=by
 unfold Bp at h;refine A1 Z func263 ?_;refine kC Z h (JQ Z Y) (λy1 h=>?_);apply kI Z h<;>intro h
 .obtain rfl:=A6 h;exact P3 Z (Qe rfl (H3 _ _):(0:Nat)=0/\(EQ 33 (λi=>pI .u64 ((λ_=>0) i))).length=33) ⟨[(5,pN y1),(4,.reg 5000 0)],[(5000,.arr 33 (λi=>pI .u64 ((λ_=>0) i)))]⟩ [] (ids:=[(5000,5000)]) ⟨rfl,rfl,rfl⟩ (hle:=kl1 1 (Pf 33 (λi=>pI .u64 ((λ_=>0) i))))
 apply kI Z h<;>intro h
 .obtain rfl:=A6 h;exact P3 Z (Qe rfl (H3 _ _):(0:Nat)=0/\(EQ 33 (λi=>pI .u64 ((λ_=>0) i))).length=33) ⟨[(5,pN 11),(4,.reg 5000 0)],[(5000,.arr 33 (λi=>pI .u64 ((λ_=>0) i)))]⟩ [] (ids:=[(5000,5000)]) ⟨rfl,rfl,rfl⟩ (hle:=kl1 1 (Pf 33 (λi=>pI .u64 ((λ_=>0) i))))
 refine kC Z h (N7 Z Y (λe=>SK Z Y e)) (λy2 h=>?_);apply kI Z h<;>intro h
 .obtain rfl:=A6 h;exact P3 Z (Qe rfl (H3 _ _):(0:Nat)=0/\(EQ 33 (λi=>pI .u64 ((λ_=>0) i))).length=33) ⟨[(5,pN 14),(4,.reg 5000 0)],[(5000,.arr 33 (λi=>pI .u64 ((λ_=>0) i)))]⟩ [] (ids:=[(5000,5000)]) ⟨rfl,rfl,rfl⟩ (hle:=kl1 1 (Pf 33 (λi=>pI .u64 ((λ_=>0) i))))
 refine kC Z h (Un Z Y) (λy3 h=>?_);obtain⟨y4,e4,h⟩:=A7 h;refine QB Z Jy (AX5 Z Y e4) ?_;obtain rfl:=A6 h;exact P3 Z (Qe rfl (H3 _ _):(0:Nat)=0/\(EQ 33 (λi=>pI .u64 (y4 i))).length=33) ⟨[(5,pN 0),(4,.reg 5000 0)],[(5000,.arr 33 (λi=>pI .u64 (y4 i)))]⟩ [] (ids:=[(5000,5000)]) ⟨rfl,rfl,rfl⟩ (hle:=kl1 1 (Pf 33 (λi=>pI .u64 (y4 i))))
def Dt (N:Nat)(d:Pat)(c:Sl Qb)(a:Int):Option ((Sl Int)×Int):= (Bp N d c).bind λy1=>lt (λ(z1:Int)=>if (z1 != 0) then some (Ox,z1) else Y4 N (λb (x2:Sl Int) (x3:Int)=>if (decide (x3<(wrap .i64 ((c.n:Int)+1)))) then if ((((0:Int)<=x3/\x3<33)/\(0+x3.toNat*1)<33)/\(0:Int)<=a)then if ((E6 .and .u64 (shI .shr .u64 (y1.1 (0+x3.toNat*1)) a) 1)==1) then if (Qd 8 (x2.n+(Sl.of [x3]:Sl Int).n))then b (x2.push x3) (wrap .i64 (x3+1)) else none else b x2 (wrap .i64 (x3+1)) else none else some (x2,0)) Ox 0) λk1=>if (y1.2==0) then (Bm N c a).bind λy3=>k1 y3 else k1 y1.2
theorem XJ {d:Pat}{c:Sl Qb}{a:Int}{y:(Sl Int)×Int}(h:Dt N d c a=some y) :Qi S ND [.p (.agg (B7 d)),.p (vSl 2 A0 c),pN a] [] (.tup [.vec 0,pN y.2]) ([oV D2 1 (cI .i64) y.1 true]) []:=by
 unfold Dt at h;refine A1 Z func254 ?_;refine kC Z h (NK Z Y) (λy1 h=>?_);refine GN Z (Qe rfl (H3 _ _):(0:Nat)=0/\(EQ 33 (λi=>pI .u64 (y1.1 i))).length=33) (A3 Z) h 0 (λz1=>⟨[(9,pN z1),(8,.reg 9000 0),(2,pN a),(1,.p (vSl 2 A0 c))],[(9000,.arr 33 (λi=>pI .u64 (y1.1 i)))]⟩) (λM1 k1 f h=>?_) (λz1 h=>?_)
 .apply kI Z h<;>intro h
  .refine kC Z h (NJ Z Y) (λy3 h=>?_);exact f _ [(9000,9000)] _ y3 Jy h (hle:=kl1 3 (Pf 33 (λi=>pI .u64 (y1.1 i))))
  exact f _ [(9000,9000)] _ _ Jy h (hle:=kl1 3 (Pf 33 (λi=>pI .u64 (y1.1 i))))
 apply kI Z h<;>intro h
 .obtain rfl:=A6 h;exact kO Z Jy [7700]
 refine G2 Z Jy h (λx2 x3=>⟨[(29,pN x3),(28,pN (wrap .i64 ((c.n:Int)+1))),(10,.vec 11500),(8,.reg 9000 0),(2,pN a)],[(11500,oV D2 1 (cI .i64) x2 false),(9000,.arr 33 (λi=>pI .u64 (y1.1 i)))]⟩) (ids:=[(9000,9000)]) (λ_ _ _ _ _ j x2 x3 g h=>?_);apply kI Z h<;>intro h
 .obtain⟨c12,h⟩:=B9 h;refine C6 Z c12 (b:=(E6 .and .u64 (shI .shr .u64 (y1.1 (0+x3.toNat*1)) a) 1)==1) (λc13=>?_) (λc13=>?_)
  .replace h:=itT c13 h;obtain⟨c14,h⟩:=B9 h;exact g _ [(9000,9000),(11500,43000)] _ (x2.push x3) (wrap .i64 (x3+1)) (Qe Ow c14) h (hle:=kl1 3 (R7 (cI .i64) x2 x3 [pI .i64 0]))
  replace h:=itF c13 h;exact g _ (Qc [9000,11500]) _ x2 _ Jy h
 obtain rfl:=A6 h;exact kO Z Jy [11500]
def J8 (N:Nat)(a:List (Int)):Option (Sl Int):= T9 a (λb (x1:Int) (z1:Sl Int)=>if (Qd 8 (z1.n+(Sl.of [x1]:Sl Int).n))then b (z1.push x1) else none) (λ(z1:Sl Int)=>some z1) Ox
theorem EE {b:List (Int)}{a:Int}{kp_seq:Nat}(fp_seq:∃fn,BS8[kp_seq]? = some fn/\fn.body.isSome=true/\(fn.name == "runtime.NumGoroutine")=false)(c:FQ S kp_seq [] [.reg 0 0] [(.cells [(.p (pI .u64 a))])] (b.map (λ(x:Int)=>[(pI .i64) x]))){y:(Sl Int)}(h:J8 N b=some y) :Qi S R5 [(.p I3),(.clo kp_seq [] [(.reg 0 0)])] [(.cells [(.p (pI .u64 a))])] (.vec 0) ([(oV D2 1 (cI .i64) y true)]) [false]:=by
 unfold J8 at h;refine A1 Z func174 ?_;refine QA Z Jy fp_seq [0] [2] 901 (λz1=>⟨[(2,(.reg 3000 0))],[(3500,(oV D2 1 (cI .i64) z1 false)),(3000,(.cells [(.vec 3500)]))]⟩) (idl:=[(3000,3000)]) h c (λ_=>by kernel_rfl) (λ_=>by kernel_rfl) (λ_=>by kernel_rfl) (λ_=>by kernel_rfl) (λx1 _ d z1 f h=>?_) (λz1 h=>?_)
 .refine Nc Z Jy ?_;obtain⟨c1,h⟩:=B9 h;exact f _ [(901,901),(3000,3000),(3500,12000)] _ (z1.push x1) (Qe Ow c1) h (hle:=kl1 0 (R7 (cI .i64) z1 x1 [(pI .i64 0)]))
 obtain rfl:=A6 h;exact kO Z Jy [3500]
def Q1 (N:Nat)(a:List (Int)):Option (Sl Int):= (J8 N a).bind λy1=>some y1
theorem JR {b:List (Int)}{a:Int}{kp_seq:Nat}(fp_seq:∃fn,BS8[kp_seq]? = some fn/\fn.body.isSome=true/\(fn.name == "runtime.NumGoroutine")=false)(c:FQ S kp_seq [] [.reg 0 0] [(.cells [(.p (pI .u64 a))])] (b.map (λ(x:Int)=>[(pI .i64) x]))){y:(Sl Int)}(h:Q1 N b=some y) :Qi S Bz [(.clo kp_seq [] [(.reg 0 0)])] [(.cells [(.p (pI .u64 a))])] (.vec 0) ([(oV D2 1 (cI .i64) y true)]) [false]:=by unfold Q1 at h;refine A1 Z func133 ?_;obtain⟨y1,e1,h⟩:=A7 h;refine A8 Z [0] Jy (EE Z Y fp_seq c e1) ?_;obtain rfl:=A6 h;exact kO Z Jy [5000]
def Gg (N:Nat)(c:Pat)(b:Sl Qb)(a:Int):Option ((Sl Int)×Int):= (Bp N c b).bind λy1=>lt (λ(z1:Int)=>if (z1 != 0) then some (Ox,z1) else if (((0:Int)<=a/\a<33)/\(0+a.toNat*1)<33)then (BZ N (y1.1 (0+a.toNat*1))).bind λy4=>(V5 N y4).bind λL1=>(Q1 N L1).bind λy5=>some (y5,0) else none) λk1=>if (y1.2==0) then (Bm N b a).bind λy3=>k1 y3 else k1 y1.2
theorem Ar2 {b:Pat}{c:Sl Qb}{a:Int}{y:(Sl Int)×Int}(h:Gg N b c a=some y) :Qi S Sr [.p (.agg (B7 b)),.p (vSl 2 A0 c),pN a] [] (.tup [.vec 0,pN y.2]) ([oV D2 1 (cI .i64) y.1 true]) []:=by
 unfold Gg at h;refine A1 Z func255 ?_;refine kC Z h (NK Z Y) (λy1 h=>?_);refine GN Z (Qe rfl (H3 _ _):(0:Nat)=0/\(EQ 33 (λi=>pI .u64 (y1.1 i))).length=33) (A3 Z) h 0 (λz1=>⟨[(9,pN z1),(8,.reg 9000 0),(2,pN a)],[(9000,.arr 33 (λi=>pI .u64 (y1.1 i)))]⟩) (λM1 k1 d h=>?_) (λz1 h=>?_)
 .apply kI Z h<;>intro h
  .refine kC Z h (NJ Z Y) (λy3 h=>?_);exact d _ [(9000,9000)] _ y3 Jy h (hle:=kl1 2 (Pf 33 (λi=>pI .u64 (y1.1 i))))
  exact d _ [(9000,9000)] _ _ Jy h (hle:=kl1 2 (Pf 33 (λi=>pI .u64 (y1.1 i))))
 apply kI Z h<;>intro h
 .obtain rfl:=A6 h;exact kO Z Jy [7700]
 obtain⟨c5,h⟩:=B9 h;obtain⟨y4,e4,h⟩:=A7 h;refine A8 Z [] c5 (Hf Z Y e4) ?_;obtain⟨L1,e5,h⟩:=A7 h;obtain⟨y5,e6,h⟩:=A7 h;refine A8 Z [28000] Jy (JR Z Y ⟨_,func271,by decide +kernel,by decide +kernel⟩ (EW Z Y e5) e6) ?_;obtain rfl:=A6 h;exact kO Z Jy [29000]
def DU (N:Nat)(a:Str):Option Bool:= lt (λ(z1:Bool)=>some z1) λk1=>if ((a==[]) != true) then if (decide ((a.length:Int)<=24)) then (Am N a [97,98,99,100,101,102,103,104,105,106,107,108,109,110,111,112,113,114,115,116,117,118,119,120,121,122,65,66,67,68,69,70,71,72,73,74,75,76,77,78,79,80,81,82,83,84,85,86,87,88,89,90,48,49,50,51,52,53,54,55,56,57,45]).bind λy2=>k1 ((y2==[]) != false) else k1 false else k1 false
theorem Ar3 {b:Str}{y:Bool}(h:DU N b=some y) :Qi S Sf [.p (.str b)] [] (pB y) ([]) []:=by
 unfold DU at h;refine A1 Z func169 ?_;refine GN Z Jy (A3 Z) h 0 (λz1=>⟨[(2,pB z1)],[]⟩) (λM1 k1 a h=>?_) (λz1 h=>?_)
 .refine kG Z h (λh=>?_) (λh=>?_)
  .refine kG Z h (λh=>?_) (λh=>?_)
   .refine kC Z h (LN Z Y) (λy2 h=>?_);exact a _ [] _ _ Jy h
   exact a _ [] _ _ Jy h
  exact a _ [] _ _ Jy h
 cases h;exact kR Z
def An (N:Nat)(p_x:Ex)(a:Int):Option Bool:= lt (λ(z1:Bool)=>if z1 then some false else if ((((E6 .andNot .u32 (E6 .or .u32 p_x.Clear p_x.Take) 16777215) != 0)||((E6 .and .u32 p_x.Clear (E6 .or .u32 p_x.Set.Plus p_x.Set.Minus)) != 0))||((E6 .and .u32 p_x.Take (E6 .or .u32 (E6 .or .u32 p_x.Set.Plus p_x.Set.Minus) p_x.Clear)) != 0)) then some false else if (p_x.Take==0) then some (p_x.Of==0) else some ((decide (0<=p_x.Of))&&(decide (p_x.Of<a)))) λk1=>if (decide (p_x.From<(-1))) then k1 true else if (decide (a<=p_x.From)) then k1 true else (H4 N p_x.Set).bind λy2=>k1 (!y2)
theorem AK6 {p_x:Ex}{b:Int}{y:Bool}(h:An N p_x b=some y) :Qi S Vy [.p (.agg (Y7 p_x)),pN b] [] (pB y) ([]) []:=by
 unfold An at h;refine A1 Z func167 ?_;refine GN Z Jy (A3 Z) h 0 (λz1=>⟨[(13,pB z1),(5,pU (E6 .or .u32 p_x.Set.Plus p_x.Set.Minus)),(2,.reg 3000 0),(1,pN b)],[(3000,.cells ((Y7 p_x).map .p))]⟩) (λM1 k1 c h=>?_) (λz1 h=>?_)
 .refine kG Z h (λh=>?_) (λh=>?_)
  .exact c _ [(3000,3000)] _ _ Jy h
  refine kG Z h (λh=>?_) (λh=>?_)
  .exact c _ [(3000,3000)] _ _ Jy h
  refine kC Z h (S8 Z Y) (λy2 h=>?_);exact c _ [(3000,3000)] _ _ Jy h
 refine Ug Z h fun h=>?_;refine kB Z (A3 Z) Jy Jy 16 (.o (.o (.a ((E6 .andNot .u32 (E6 .or .u32 p_x.Clear p_x.Take) 16777215) != 0)) (.a ((E6 .and .u32 p_x.Clear (E6 .or .u32 p_x.Set.Plus p_x.Set.Minus)) != 0))) (.a ((E6 .and .u32 p_x.Take (E6 .or .u32 (E6 .or .u32 p_x.Set.Plus p_x.Set.Minus) p_x.Clear)) != 0))) ?_;refine Ug Z h fun h=>?_;refine Ug Z h fun h=>?_;refine kB Z (A3 Z) Jy Jy 5 (.n (.a (decide (0<=p_x.Of))) (.a (decide (p_x.Of<b)))) ?_;cases h;exact kR Z
def Bq (N:Nat)(p_x:Ex)(q0:Int):Option Bool:= (An N p_x q0).bind λy1=>some (!y1)
theorem XK {p_x:Ex}{q0:Int}{y:Bool}(h:Bq N p_x q0=some y) :Qi S Ny [.p (.agg (Y7 p_x)),.reg 0 0] [.cells [pN q0]] (pB y) ([.cells [pN q0]]) [true]:=by unfold Bq at h;refine A1 Z func166 ?_;refine kC Z h (AK6 Z Y) (λy1 h=>?_);obtain rfl:=A6 h;exact kO Z Jy [0]
def Br (N:Nat)(a:Qb):Option Bool:= (H4 N a).bind λy1=>some (!y1)
theorem XL {a:Qb}{y:Bool}(h:Br N a=some y) :Qi S Nz [.p (.agg (A0 a))] [] (pB y) ([]) []:=by unfold Br at h;refine A1 Z func168 ?_;refine kC Z h (S8 Z Y) (λy1 h=>?_);cases h;exact kR Z
def G7 (N:Nat)(a:Sl Ex)(c:Ex->Option Bool):Option Int:= O7 N (λb (x1:Int)=>if (decide (x1<(a.n:Int))) then if ((0:Int)<=x1/\x1<(a.n:Int))then (c (a.g x1.toNat)).bind λy3=>if y3 then some x1 else b (wrap .i64 (x1+1)) else none else some (-1)) 0
theorem BH {c:Sl Ex}{d:Ex->Option Bool}{a:Int}{kp_f:Nat}(f:∀{a0:Ex}{b:Bool},d a0=some b->Qi S kp_f [.p (.agg (Y7 a0)),.reg 0 0] [.cells [pN a]] (pB b) [.cells [pN a]] [true]){y:Int}(h:G7 N c d=some y) :Qi S S3 [.p (vSl 6 Y7 c),.clo kp_f [] [.reg 0 0]] [.cells [pN a]] (pN y) ([.cells [pN a]]) [true]:=by
 unfold G7 at h;refine A1 Z func208 ?_;refine F1 Z Jy h (λx1=>⟨[(8,pN x1),(7,pN (c.n:Int)),(1,.clo kp_f [] [.reg 0 0]),(0,.p (vSl 6 Y7 c))],[(0,.cells [pN a])]⟩) (ids:=[(0,0)]) (λ_ _ _ _ _ g x1 i h=>?_);apply kI Z h<;>intro h
 .obtain⟨c8,h⟩:=B9 h;obtain⟨y3,e3,h⟩:=A7 h;refine A8 Z [0] (Qe c8 (by decide:(6:Nat)<=6)) (f e3) ?_;apply kI Z h<;>intro h
  .obtain rfl:=A6 h;exact kO Z Jy [0]
  exact i _ [(0,0)] _ _ Jy h
 obtain rfl:=A6 h;exact kO Z Jy [0]
def D6 (N:Nat)(a:Sl Ex)(b:Ex->Option Bool):Option Bool:= (G7 N a b).bind λy1=>some (decide (0<=y1))
theorem AA {c:Sl Ex}{d:Ex->Option Bool}{a:Int}{kp_f:Nat}(f:∀{a0:Ex}{b:Bool},d a0=some b->Qi S kp_f [.p (.agg (Y7 a0)),.reg 0 0] [.cells [pN a]] (pB b) [.cells [pN a]] [true]){y:Bool}(h:D6 N c d=some y) :Qi S P5 [.p (vSl 6 Y7 c),.clo kp_f [] [.reg 0 0]] [.cells [pN a]] (pB y) ([.cells [pN a]]) [true]:=by unfold D6 at h;refine A1 Z func172 ?_;obtain⟨y1,e1,h⟩:=A7 h;refine A8 Z [0] Jy (BH Z Y (λe=>f e) e1) ?_;obtain rfl:=A6 h;exact kO Z Jy [0]
def Z4 (N:Nat)(a:Law):Option Int:= (DU N a.Name).bind λy1=>if (!y1) then some 17 else (AP N a.Left).bind λy2=>if (y2 != 0) then some 17 else (AP N a.Right).bind λy3=>if (y3 != 0) then some 17 else if (decide (4<(a.If.n:Int))) then some 17 else if (decide (6<(a.Out.n:Int))) then some 17 else if ((wrap .i64 ((a.If.n:Int)+(a.Out.n:Int)))==0) then some 17 else if ((decide (a.Mode<1))||(decide (3<a.Mode))) then some 17 else (C5 N a.If (λ(u1:Qb)=>Br N u1)).bind λy4=>if y4 then some 17 else (D6 N a.Out (λ(u2:Ex)=>Bq N u2 (a.If.n:Int))).bind λy5=>if y5 then some 17 else some 0
theorem Ms {c:Law}{y:Int}(h:Z4 N c=some y) :Qi S Sa [.p (.agg (B3 c))] [] (pN y) ([]) []:=by
 unfold Z4 at h;refine A1 Z func127 ?_;refine kC Z h (Ar3 Z Y) (λy1 h=>?_);refine C6 Z Jy (b:=!y1) (λc1=>?_) (λc1=>?_)
 .replace h:=itT c1 h;refine C6 Z Jy (b:=!y1) (λc2=>?_) (λc2=>?_)
  .cases h;exact kR Z
  exact Bool.noConfusion (c1.symm.trans c2)
 replace h:=itF c1 h;refine kC Z h (JQ Z Y) (λy2 h=>?_);refine C6 Z Jy (b:=y2 != 0) (λc3=>?_) (λc3=>?_)
 .replace h:=itT c3 h;refine C6 Z Jy (b:=y2 != 0) (λc4=>?_) (λc4=>?_)
  .cases h;exact kR Z
  exact Bool.noConfusion (c3.symm.trans c4)
 replace h:=itF c3 h;refine kC Z h (JQ Z Y) (λy3 h=>?_);refine C6 Z Jy (b:=y3 != 0) (λc5=>?_) (λc5=>?_)
 .replace h:=itT c5 h;refine C6 Z Jy (b:=y3 != 0) (λc6=>?_) (λc6=>?_)
  .cases h;exact kR Z
  exact Bool.noConfusion (c5.symm.trans c6)
 replace h:=itF c5 h;refine C6 Z Jy (b:=decide (4<(c.If.n:Int))) (λc7=>?_) (λc7=>?_)
 .replace h:=itT c7 h;refine C6 Z Jy (b:=decide (4<(c.If.n:Int))) (λc8=>?_) (λc8=>?_)
  .cases h;exact kR Z
  exact Bool.noConfusion (c7.symm.trans c8)
 replace h:=itF c7 h;refine C6 Z Jy (b:=decide (6<(c.Out.n:Int))) (λc9=>?_) (λc9=>?_)
 .replace h:=itT c9 h;refine C6 Z Jy (b:=decide (6<(c.Out.n:Int))) (λc10=>?_) (λc10=>?_)
  .cases h;exact kR Z
  exact Bool.noConfusion (c9.symm.trans c10)
 replace h:=itF c9 h;refine C6 Z Jy (b:=(wrap .i64 ((c.If.n:Int)+(c.Out.n:Int)))==0) (λc11=>?_) (λc11=>?_)
 .replace h:=itT c11 h;refine C6 Z Jy (b:=(wrap .i64 ((c.If.n:Int)+(c.Out.n:Int)))==0) (λc12=>?_) (λc12=>?_)
  .cases h;exact kR Z
  exact Bool.noConfusion (c11.symm.trans c12)
 replace h:=itF c11 h;refine kB Z (A3 Z) Jy Jy 4 (.o (.a (decide (c.Mode<1))) (.a (decide (3<c.Mode)))) ?_;refine C6 Z Jy (b:=(decide (c.Mode<1))||(decide (3<c.Mode))) (λc13=>?_) (λc13=>?_)
 .replace h:=itT c13 h;refine C6 Z Jy (b:=(decide (c.Mode<1))||(decide (3<c.Mode))) (λc14=>?_) (λc14=>?_)
  .cases h;exact kR Z
  exact Bool.noConfusion (c13.symm.trans c14)
 replace h:=itF c13 h;refine kC Z h (N7 Z Y (λe=>XL Z Y e)) (λy4 h=>?_);refine C6 Z Jy (b:=y4) (λc15=>?_) (λc15=>?_)
 .replace h:=itT c15 h;refine C6 Z Jy (b:=y4) (λc16=>?_) (λc16=>?_)
  .cases h;exact kR Z
  exact Bool.noConfusion (c15.symm.trans c16)
 replace h:=itF c15 h;obtain⟨y5,e5,h⟩:=A7 h;refine A8 Z [4000] Jy (AA Z Y (λe=>XK Z Y e) e5) ?_;refine Ug Z h fun h=>?_;cases h;exact kR Z
def Im (N:Nat)(a:Law)(b:Sl Qb):Option Int:= (Z4 N a).bind λy1=>if (y1 != 0) then some y1 else (W0 N b).bind λy2=>some y2
theorem Ar4 {a:Law}{b:Sl Qb}{y:Int}(h:Im N a b=some y) :Qi S Sn [.p (.agg (B3 a)),.p (vSl 2 A0 b)] [] (pN y) ([]) []:=by
 unfold Im at h;refine A1 Z func227 ?_;refine kC Z h (Ms Z Y) (λy1 h=>?_);refine Ug Z h fun h=>?_;refine kC Z h (GR Z Y) (λy2 h=>?_);cases h;exact kR Z
def Ao (N:Nat)(a:Int)(q0:Law)(q1:Sl Qb):Option Bool:= (Dt N q0.Left q1 a).bind λy1=>if ((y1.1.n:Int)==0) then some false else (Gg N q0.Right q1 (wrap .i64 (a+(q0.If.n:Int)))).bind λy2=>some (decide (0<(y2.1.n:Int)))
theorem Uo {a:Int}{q0:Law}{q1:Sl Qb}{y:Bool}(h:Ao N a q0 q1=some y) :Qi S BW [pN a,.reg 0 0,.reg 1 0] [.cells ((B3 q0).map .p),.cells [.p (vSl 2 A0 q1)]] (pB y) ([.cells ((B3 q0).map .p),.cells [.p (vSl 2 A0 q1)]]) [true,true]:=by
 unfold Ao at h;refine A1 Z func253 ?_;refine kC Z h (XJ Z Y) (λy1 h=>?_);apply kI Z h<;>intro h
 .obtain rfl:=A6 h;exact kO Z Jy [0,1]
 refine kC Z h (Ar2 Z Y) (λy2 h=>?_);obtain rfl:=A6 h;exact kO Z Jy [0,1]
def JS (N:Nat)(a:Law)(b:Sl Qb):Option (Law×(Sl Qb)):= some (a,b)
theorem Ad0 {a:Law}{b:Sl Qb}{y:Law×(Sl Qb)}(h:JS N a b=some y) :Qi S PD [.p (.agg (B3 a)),.p (vSl 2 A0 b)] [] (.clo BW [] [.reg 0 0,.reg 1 0]) ([.cells ((B3 y.1).map .p),.cells [.p (vSl 2 A0 y.2)]]) []:=by unfold JS at h;refine A1 Z func245 ?_;obtain rfl:=A6 h;exact kO Z Jy [3000,4000]
def Ag (N:Nat)(a:Law)(b:Sl Qb):Option (Sl Qb):= Y4 N (λc (x1:Sl Qb) (x2:Int)=>if (decide (x2<(a.Out.n:Int))) then if ((0:Int)<=x2/\x2<(a.Out.n:Int))then if ((decide (0<=(a.Out.g x2.toNat).From))=true->((0:Int)<=(a.Out.g x2.toNat).From/\(a.Out.g x2.toNat).From<(b.n:Int)))then (T2 N (⟨(if (decide (0<=(a.Out.g x2.toNat).From)) then (b.g (a.Out.g x2.toNat).From.toNat).Plus else 0),(if (decide (0<=(a.Out.g x2.toNat).From)) then (b.g (a.Out.g x2.toNat).From.toNat).Minus else 0)⟩:Qb) (a.Out.g x2.toNat).Clear (a.Out.g x2.toNat).Set).bind λy5=>if ((a.Out.g x2.toNat).Take != 0) then if ((0:Int)<=(a.Out.g x2.toNat).Of/\(a.Out.g x2.toNat).Of<(b.n:Int))then (Y8 N y5.1 (b.g (a.Out.g x2.toNat).Of.toNat) (a.Out.g x2.toNat).Take).bind λy6=>if (Qd 8 (x1.n+(Sl.of [y6.1]:Sl Qb).n))then c (x1.push y6.1) (wrap .i64 (x2+1)) else none else none else if (Qd 8 (x1.n+(Sl.of [y5.1]:Sl Qb).n))then c (x1.push y5.1) (wrap .i64 (x2+1)) else none else none else none else some x1) (Sl.nil:Sl Qb) 0
theorem Ad1 {c:Law}{a:Sl Qb}{y:Sl Qb}(h:Ag N c a=some y) :Qi S Ab1 [.p (.agg (B3 c)),.p (vSl 2 A0 a)] [] (.p (vSl 2 A0 y)) ([]) []:=by
 unfold Ag at h;refine A1 Z func237 ?_;refine D9 Z Jy 4 3000 (B3 c) ?_;refine G2 Z Jy h (λx1 x2=>⟨[(12,pN x2),(11,pN (c.Out.n:Int)),(10,.p (vSl 6 Y7 c.Out)),(5,.vec 6500),(1,.p (vSl 2 A0 a))],[(6500,oV B1 2 A0 x1 false)]⟩) (ids:=[]) (λ_ _ _ _ _ l x1 x2 i h=>?_);apply kI Z h<;>intro h
 .obtain⟨c16,h⟩:=B9 h;refine D9 Z (Qe c16 (by decide:(6:Nat)<=6)) 8 8000 (Y7 (c.Out.g x2.toNat)) ?_;obtain⟨c18,h⟩:=B9 h;obtain⟨t5,d⟩:∃x:Int,x=(if (decide (0<=(c.Out.g x2.toNat).From)) then (a.g (c.Out.g x2.toNat).From.toNat).Plus else 0):=⟨_,rfl⟩;obtain⟨t6,f⟩:∃x:Int,x=(if (decide (0<=(c.Out.g x2.toNat).From)) then (a.g (c.Out.g x2.toNat).From.toNat).Minus else 0):=⟨_,rfl⟩;refine Zu Z Jy (A3 Z) 0 ⟨[(12,pN x2),(11,pN (c.Out.n:Int)),(10,.p (vSl 6 Y7 c.Out)),(8,.reg 9000 0),(7,.p (.ptr (Y7 (c.Out.g x2.toNat)))),(5,.vec 6500),(1,.p (vSl 2 A0 a))],[(9000,.cells [pU t5,pU t6]),(6500,oV B1 2 A0 x1 false)]⟩ (λM3 j=>?_) ?_
  .refine C6 Z Jy (b:=decide (0<=(c.Out.g x2.toNat).From)) (λc19=>?_) (λc19=>?_)
   .exact j _ (Qc [6500,9000]) _ (Qe (c18 c19) Mn) (hle:=klR [(5,.eq (pI .u32 (a.g (c.Out.g x2.toNat).From.toNat).Plus) (pI .u32 t5)),(6,.eq (pI .u32 (a.g (c.Out.g x2.toNat).From.toNat).Minus) (pI .u32 t6))] (al1 (by simp only[d,f,c19,Sd.ok,pm,Hu,Ih]) (al1 (by simp only[d,f,c19,Sd.ok,pm,Hu,Ih]) al0)))
   exact j _ (Qc [6500,9000]) _ Jy (hle:=klR [(5,.eq (pI .u32 0) (pI .u32 t5)),(6,.eq (pI .u32 0) (pI .u32 t6))] (al1 (by simp only[d,f,c19,Sd.ok,pm,Hu,Ih]) (al1 (by simp only[d,f,c19,Sd.ok,pm,Hu,Ih]) al0)))
  subst f;subst d;obtain⟨y5,e5,h⟩:=A7 h;refine A8 Z [] (by decide:(2:Nat)<=4) (Uj Z Y e5) ?_;apply kI Z h<;>intro h
  .refine B5 Z Jy [3,4,5,7,8] ?_;obtain⟨c21,h⟩:=B9 h;obtain⟨y6,e6,h⟩:=A7 h;refine F7 (Qe c21 Mn) (Ac7 Z Y e6) ?_;refine C7 Jy ?_;obtain⟨c22,h⟩:=B9 h;exact i _ [(6500,52000)] _ (x1.push y6.1) (wrap .i64 (x2+1)) (Qe Ow c22) h (hle:=kl1 4 (R7 A0 x1 y6.1 [pI .u32 0,pI .u32 0]))
  obtain⟨c23,h⟩:=B9 h;exact i _ [(6500,52000)] _ (x1.push y5.1) (wrap .i64 (x2+1)) (Qe Ow c23) h (hle:=kl1 4 (R7 A0 x1 y5.1 [pI .u32 0,pI .u32 0]))
 obtain rfl:=A6 h;exact kO Z Jy []
def B8 (N:Nat)(a:Sl (Sl Qb)):Option (Sl Qb):= Y4 N (λb (x1:Int) (x2:Int)=>if (decide (x2<(a.n:Int))) then if ((0:Int)<=x2/\x2<(a.n:Int))then if (decide ((wrap .i64 (x1+((a.g x2.toNat).n:Int)))<0)) then none else b (wrap .i64 (x1+((a.g x2.toNat).n:Int))) (wrap .i64 (x2+1)) else none else (K4 N x1).bind λy1=>Y4 N (λc (x3:Sl Qb) (x4:Int)=>if (decide (x4<(a.n:Int))) then if (((0:Int)<=x4/\x4<(a.n:Int))/\(Qd 8 (x3.n+(a.g x4.toNat).n)))then c (x3.app (a.g x4.toNat)) (wrap .i64 (x4+1)) else none else some x3) y1 0) 0 0
theorem Q8 {a:Sl (Sl Qb)}{y:Sl Qb}(h:B8 N a=some y) :Qi S Q6 [.p (vSl 1 (cL 2 A0) a)] [] (.vec 0) ([oV B1 2 A0 y true]) []:=by
 unfold B8 at h;refine A1 Z func236 ?_;refine G2 Z Jy h (λx1 x2=>⟨[(11,pN x2),(10,pN (a.n:Int)),(9,.p (vSl 1 (cL 2 A0) a)),(3,pN x1),(0,.p (vSl 1 (cL 2 A0) a))],[]⟩) (ids:=[]) (λ_ _ _ _ _ c x1 x2 d h=>?_);apply kI Z h<;>intro h
 .obtain⟨c8,h⟩:=B9 h;refine C6 Z c8 (b:=decide ((wrap .i64 (x1+((a.g x2.toNat).n:Int)))<0)) (λc9=>?_) (λc9=>?_)
  .replace h:=itT c9 h;cases h
  replace h:=itF c9 h;exact d _ [] _ _ _ Jy h
 refine kC Z h (BX Z Y) (λy1 h=>?_);refine G2 Z Jy h (λx3 x4=>⟨[(27,pN x4),(26,pN (a.n:Int)),(25,.p (vSl 1 (cL 2 A0) a)),(6,.vec 7500)],[(7500,oV B1 2 A0 x3 false)]⟩) (ids:=[(7500,25000)]) (λ_ _ _ _ _ f x3 x4 i h=>?_);apply kI Z h<;>intro h
 .obtain⟨c13,h⟩:=B9 h;exact i _ [(7500,34000)] _ (x3.app (a.g x4.toNat)) (wrap .i64 (x4+1)) c13 h (hle:=kl1 3 (appS A0 x3 (a.g x4.toNat)))
 obtain rfl:=A6 h;exact kO Z Jy [7500]
def Bs (N:Nat)(b:Law)(c:Sl Qb)(a:Int):Option (Sl Qb):= if (((0:Int)<=a/\a<=(c.n:Int))/\((0:Int)<=a/\a<=(wrap .i64 (a+(b.If.n:Int)))/\(wrap .i64 (a+(b.If.n:Int)))<=(c.n:Int)))then (Ag N b (c.sub a.toNat (wrap .i64 (a+(b.If.n:Int))).toNat)).bind λy1=>if ((0:Int)<=(wrap .i64 (a+(b.If.n:Int)))/\(wrap .i64 (a+(b.If.n:Int)))<=(c.n:Int))then (B8 N (Sl.of [c.take a.toNat,y1,c.drop (wrap .i64 (a+(b.If.n:Int))).toNat]:Sl (Sl Qb))).bind λy2=>some y2 else none else none
theorem NL {c:Law}{b:Sl Qb}{a:Int}{y:Sl Qb}(h:Bs N c b a=some y) :Qi S NB [.p (.agg (B3 c)),.p (vSl 2 A0 b),pN a] [] (.vec 0) ([oV B1 2 A0 y true]) []:=by unfold Bs at h;refine A1 Z func239 ?_;refine D9 Z Jy 6 4000 (B3 c) ?_;refine B5 Z Jy [3,8] ?_;obtain⟨c1,h⟩:=B9 h;obtain⟨y1,e1,h⟩:=A7 h;refine F7 (Qe (Qe c1.1 Ov) c1.2) (Ad1 Z Y e1) ?_;obtain⟨c2,h⟩:=B9 h;refine O8 c2 (x:=.sl true 1 3 (H2 [I3] [(0,cL 2 A0 (b.take a.toNat)),(1,cL 2 A0 y1),(2,cL 2 A0 (b.drop (wrap .i64 (a+(c.If.n:Int))).toNat))])) ?_;obtain⟨y2,e2,h⟩:=A7 h;refine IM [] Jy (Qi.le Z (args:=[.p (.sl true 1 3 (H2 [I3] [(0,cL 2 A0 (b.take a.toNat)),(1,cL 2 A0 y1),(2,cL 2 A0 (b.drop (wrap .i64 (a+(c.If.n:Int))).toNat))]))]) (by exact⟨ML rfl (λi d=>match i,d with|0,_=>rfl|1,_=>rfl|2,_=>rfl|_+3,d=>Hc d (by omega)),trivial⟩) (Q8 Z Y e2)) ?_;refine C7 Jy ?_;obtain rfl:=A6 h;exact kO Z Jy [27000]
def AQ (N:Nat)(q0:Law)(q1:Sl Qb)(q2:Int):Option (List (Int)):= (JS N q0 q1).bind λy1=>O7 N (λa (x2:Int)=>if (decide ((wrap .i64 (x2+(q0.If.n:Int)))<=(q1.n:Int))) then O7 N (λb (x4:Int)=>if (decide (x4<(q0.If.n:Int))) then if ((0:Int)<=x4/\x4<(q0.If.n:Int))then if ((0:Int)<=(wrap .i64 (x2+x4))/\(wrap .i64 (x2+x4))<(q1.n:Int))then (O9 N (q1.g (wrap .i64 (x2+x4)).toNat) (q0.If.g x4.toNat)).bind λc=>if (!c) then a (wrap .i64 (x2+1)) else b (wrap .i64 (x4+1)) else none else none else (Ao N x2 y1.1 y1.2).bind λd=>if d then Dk x2 (a (wrap .i64 (x2+1))) else a (wrap .i64 (x2+1))) 0 else some []) q2
theorem PJ {q0:Law}{q1:Sl Qb}{q2:Int}{L:List (Int)}(h:AQ N q0 q1 q2=some L) :FQ S JK [] [.reg 0 0,.reg 1 0,.reg 2 0] [.cells ((B3 q0).map .p),.cells [.p (vSl 2 A0 q1)],.cells [pN q2]] (L.map (λ(x:Int)=>[pI .i64 x])):=by
 unfold AQ at h;refine Fm Z func244 ?_;refine kC Z h (Ad0 Z Y) (λy1 h=>?_);refine DQ Z Jy h (λx2 L1=>⟨[(6,pN x2),(5,.clo BW [] [.reg 12000 0,.reg 12001 0]),(2,.reg 1 0),(1,.reg 0 0),(0,.yf 3)],[(12001,.cells [.p (vSl 2 A0 y1.2)]),(12000,.cells ((B3 y1.1).map .p)),(3,.yld (L1.map (λ(x:Int)=>[pI .i64 x])) true),(2,.cells [pN q2]),(1,.cells [.p (vSl 2 A0 q1)]),(0,.cells ((B3 q0).map .p))]⟩) (ids:=(Qc [0,1,2,3,12000,12001])) (λ_ _ _ _ _ f x2 L1 c h=>?_);apply kI Z h<;>intro h
 .refine DQ Z Jy h (λx4 L8=>⟨[(26,pN x4),(25,pN (q0.If.n:Int)),(24,.p (vSl 2 A0 q0.If)),(6,pN x2),(5,.clo BW [] [.reg 12000 0,.reg 12001 0]),(2,.reg 1 0),(1,.reg 0 0),(0,.yf 3)],[(12001,.cells [.p (vSl 2 A0 y1.2)]),(12000,.cells ((B3 y1.1).map .p)),(3,.yld (L8.map (λ(x:Int)=>[pI .i64 x])) true),(2,.cells [pN q2]),(1,.cells [.p (vSl 2 A0 q1)]),(0,.cells ((B3 q0).map .p))]⟩) (ids:=(Qc [0,1,2,3,12000,12001])) (λ_ _ _ _ _ i x4 L8 j h=>?_);apply kI Z h<;>intro h
  .obtain⟨c47,h⟩:=B9 h;refine ZC Z (Qe c47 Mn) 9000 [pI .u32 (q0.If.g x4.toNat).Plus,pI .u32 (q0.If.g x4.toNat).Minus] ?_;refine B5 Z Jy [4,5,6,7] ?_;obtain⟨c48,h⟩:=B9 h;obtain⟨l,e12,h⟩:=A7 h;refine F7 (Qe (Qe c48 Mn) Mn) (OB Z Y e12) ?_;refine C7 Jy ?_;apply kI Z h<;>intro h
   .exact c _ (Qc [0,1,2,3,12000,12001]) _ _ L8 Jy h
   exact j _ (Qc [0,1,2,3,12000,12001]) _ _ L8 Jy h
  obtain⟨m,e13,h⟩:=A7 h;refine A8 Z [12000,12001] Jy (Uo Z Y e13) ?_;refine kG Z h (λh=>?_) (λh=>?_)
  .obtain⟨L10,rfl,d⟩:=Ou h;replace h:=d;refine DP Z Jy (ys:=(λ(x:Int)=>[pI .i64 x]) x2) (rest:=L10.map (λ(x:Int)=>[pI .i64 x])) ?_ ?_
   .refine C6 Z Jy (b:=false) (λc53=>?_) (λc53=>?_)
    .exact Bool.noConfusion ((rfl:false=false).symm.trans c53)
    exact c _ (Qc [0,1,2,3,12000,12001]) _ _ L10 Jy h
   refine C6 Z Jy (b:=true) (λc54=>?_) (λc54=>?_)
   .exact kO Z Jy (a:=.tup []) (objs:=[(.cells ((B3 q0).map .p)),.cells [.p (vSl 2 A0 q1)],.cells [pN q2],.yld [] false]) [0,1,2,3] ⟨false,rfl,rfl,_,rfl⟩
   exact Bool.noConfusion (Ow.symm.trans c54)
  exact c _ (Qc [0,1,2,3,12000,12001]) _ _ L8 Jy h
 obtain rfl:=A6 h;exact kO Z Jy (a:=.tup []) (objs:=[(.cells ((B3 q0).map .p)),.cells [.p (vSl 2 A0 q1)],.cells [pN q2],.yld [] true]) [0,1,2,3] ⟨true,rfl,rfl,_,rfl⟩
def KJ (N:Nat)(b:Law)(c:Sl Qb)(a:Int):Option (Law×(Sl Qb)×Int):= some (b,c,a)
theorem VM {b:Law}{c:Sl Qb}{a:Int}{y:Law×(Sl Qb)×Int}(h:KJ N b c a=some y) :Qi S VC [.p (.agg (B3 b)),.p (vSl 2 A0 c),pN a] [] (.clo JK [] [.reg 0 0,.reg 1 0,.reg 2 0]) ([.cells ((B3 y.1).map .p),.cells [.p (vSl 2 A0 y.2.1)],.cells [pN y.2.2]]) []:=by unfold KJ at h;refine A1 Z func235 ?_;obtain rfl:=A6 h;exact kO Z Jy [4000,5000,6000]
def HC (N:Nat)(b:Law)(c:Sl Qb)(a:Int):Option Bool:= (KJ N b c a).bind λy1=>(AQ N y1.1 y1.2.1 y1.2.2).bind λL1=>T9 L1 (λd (x1:Int) (_:Unit)=>some (x1==a)) (λ(_:Unit)=>some false) ()
theorem Ad2 {b:Law}{c:Sl Qb}{a:Int}{y:Bool}(h:HC N b c a=some y) :Qi S Ab2 [.p (.agg (B3 b)),.p (vSl 2 A0 c),pN a] [] (pB y) ([]) []:=by
 unfold HC at h;refine A1 Z func238 ?_;refine kC Z h (VM Z Y) (λy1 h=>?_);obtain⟨L1,e2,h⟩:=A7 h;refine Js Z Jy [12000,12001,12002] [6,5] 901 (λ_=>⟨[(6,.reg 7000 0),(5,.reg 6000 0)],[(7000,.cells [.p (.v (.bool false))]),(6000,.cells [pN a])]⟩) (idl:=(Qc [6000,7000])) h (PJ Z Y e2) (λ_=>by kernel_rfl) (λ_=>by kernel_rfl) (λ_=>by kernel_rfl) (λ_=>by kernel_rfl) (λx1 _ d _ f h=>?_) (λ_ h=>?_)
 .refine Nc Z Jy ?_;refine WT Z Jy ⟨[(6,.reg 7000 0),(5,.reg 6000 0)],[(7000,.cells [pB (x1==a)]),(6000,.cells [pN a])]⟩ (ids:=(Qc [901,6000,7000])) ?_;cases h;exact kR Z
 cases h;exact kR Z
abbrev Ad3:=List (Int×Sl Qb)
abbrev AllS:=Sl Qb×Int×Int
def BS2 (N:Nat)(l:Law)(q2 q3:Int)(q0:Sl Qb)(a:AllS->Option Ad3)(x1:Int)(z1:AllS):Option Ad3:= if (decide (x1<z1.2.1)) then a (z1.1,z1.2.1,z1.2.2) else if (((0:Int)<=(wrap .i64 (x1+z1.2.2))/\(wrap .i64 (x1+z1.2.2))<=(z1.1.n:Int))/\((0:Int)<=x1/\x1<=(wrap .i64 (x1+q2))/\(wrap .i64 (x1+q2))<=(q0.n:Int)))then (Ag N l (q0.sub x1.toNat (wrap .i64 (x1+q2)).toNat)).bind λy6=>if ((0:Int)<=(wrap .i64 (x1+q2))/\(wrap .i64 (x1+q2))<=(q0.n:Int))then (B8 N (Sl.of [z1.1.take (wrap .i64 (x1+z1.2.2)).toNat,y6,q0.drop (wrap .i64 (x1+q2)).toNat]:Sl (Sl Qb))).bind λy7=>Dk (x1,y7) (a (y7,wrap .i64 (x1+(if q2<1 then 1 else q2)),wrap .i64 ((wrap .i64 (z1.2.2+q3))-q2))) else none else none
def BH5 (N:Nat)(l:Law)(q2 q3:Int)(a:Sl Qb->Int->Option Ad3)(x5:Sl Qb)(x6:Int):Option Ad3:= if (decide ((wrap .i64 (x6+q2))<=(x5.n:Int))) then (HC N l x5 x6).bind λc=>if (!c) then a x5 (wrap .i64 (x6+1)) else (Bs N l x5 x6).bind λb=>Dk (x6,b) (if (q2==0) then a b (wrap .i64 ((wrap .i64 (x6+q3))+1)) else a b (wrap .i64 (x6+q3))) else some []
def BO3 (N:Nat)(l:Law)(q2:Int)(a:Sl Qb->Int->Option Ad3)(x7:Sl Qb)(x8:Int):Option Ad3:= if (decide (0<=x8)) then (HC N l x7 x8).bind λc=>if (!c) then a x7 (wrap .i64 (x8-1)) else (Bs N l x7 x8).bind λb=>Dk (x8,b) (a b (wrap .i64 (x8-(if q2<1 then 1 else q2)))) else some []
def DV (N:Nat)(q0:Sl Qb)(q1:Law)(q2:Int)(q3:Int):Option (List (Int×(Sl Qb))):= if (q1.Mode==1) then (KJ N q1 q0 0).bind λy1=>(AQ N y1.1 y1.2.1 y1.2.2).bind λL1=>T9 L1 (BS2 N q1 q2 q3 q0) (λ(z1:(Sl Qb)×Int×Int)=>some []) (q0,0,0) else if (q1.Mode==2) then Y4 N (BH5 N q1 q2 q3) q0 0 else if (q1.Mode==3) then Y4 N (BO3 N q1 q2) q0 (wrap .i64 ((q0.n:Int)-q2)) else some []
theorem Ar5 {q0:Sl Qb}{q1:Law}{q2:Int}{q3:Int}{L:List (Int×(Sl Qb))}(h:DV N q0 q1 q2 q3=some L) :FQ S Mr [] [.reg 0 0,.reg 1 0,.reg 2 0,.reg 3 0] [.cells [.p (vSl 2 A0 q0)],.cells ((B3 q1).map .p),.cells [pN q2],.cells [pN q3]] (L.map (λ(x:Int×(Sl Qb))=>[pI .i64 x.1,vSl 2 A0 x.2])):=by
 unfold DV at h;refine Fm Z func234 ?_;apply kI Z h<;>intro h
 .refine kC Z h (VM Z Y) (λy1 h=>?_);obtain⟨L1,e2,h⟩:=A7 h;refine Bk7 Z Jy [20000,20001,20002] [8,7,6,5,4,3,2,1] 900 (λz1 L2=>⟨[(8,.reg 9000 0),(7,.reg 8000 0),(6,.reg 7000 0),(5,.reg 6000 0),(4,.reg 3 0),(3,.reg 2 0),(2,.reg 1 0),(1,.reg 0 0)],[(9000,.cells [pN z1.2.2]),(8000,.cells [pN z1.2.1]),(7000,.cells [.p (vSl 2 A0 z1.1)]),(6000,.cells [.yf 4]),(4,.yld (L2.map (λ(x:Int×(Sl Qb))=>[pI .i64 x.1,vSl 2 A0 x.2])) true),(3,.cells [pN q3]),(2,.cells [pN q2]),(1,.cells ((B3 q1).map .p)),(0,.cells [.p (vSl 2 A0 q0)])]⟩) (idl:=(Qc [0,1,2,3,4,6000,7000,8000,9000])) h (PJ Z Y e2) (λ_=>by kernel_rfl) (λ_ _=>by kernel_rfl) (λ_ _=>by kernel_rfl) (λ_ _=>by kernel_rfl) (λx1 _ r z1 L2 g h=>?_) (λz1 L2 h=>?_)
  .refine Nc Z Jy ?_;apply kI Z h<;>intro h
   .exact g _ (Qc [0,1,2,3,4,900,6000,7000,8000,9000]) _ _ L2 Jy h
   refine I0 Z Jy [(0,.l [7000]),(2,.l [9000]),(5,.l [1]),(6,.l [0]),(9,.l [2]),(12,.n),(13,.l [0]),(15,.l [2]),(20,.a [7000])] ?_;obtain⟨c13,h⟩:=B9 h;obtain⟨y6,e7,h⟩:=A7 h;refine F7 c13 (Ad1 Z Y e7) ?_;obtain⟨c14,h⟩:=B9 h;refine O8 c14 (x:=.sl true 1 3 (H2 [I3] [(0,cL 2 A0 (z1.1.take (wrap .i64 (x1+z1.2.2)).toNat)),(1,cL 2 A0 y6),(2,cL 2 A0 (q0.drop (wrap .i64 (x1+q2)).toNat))])) ?_;obtain⟨y7,e8,h⟩:=A7 h;refine IM [] Jy (Qi.le Z (args:=[.p (.sl true 1 3 (H2 [I3] [(0,cL 2 A0 (z1.1.take (wrap .i64 (x1+z1.2.2)).toNat)),(1,cL 2 A0 y6),(2,cL 2 A0 (q0.drop (wrap .i64 (x1+q2)).toNat))]))]) (by exact⟨ML rfl (λi s=>match i,s with|0,_=>rfl|1,_=>rfl|2,_=>rfl|_+3,s=>Hc s (by omega)),trivial⟩) (Q8 Z Y e8)) ?_;refine C7 Jy ?_;obtain⟨L5,rfl,j⟩:=Ou h;replace h:=j;refine DP Z Jy (ys:=(λ(x:Int×(Sl Qb))=>[pI .i64 x.1,vSl 2 A0 x.2]) (x1,y7)) (rest:=L5.map (λ(x:Int×(Sl Qb))=>[pI .i64 x.1,vSl 2 A0 x.2])) ?_ ?_
   .refine C6 Z Jy (b:=false) (λc15=>?_) (λc15=>?_)
    .exact Bool.noConfusion ((rfl:false=false).symm.trans c15)
    refine I0 Z Jy [(1,.l [2]),(4,.l [9000]),(5,.l [3]),(7,.l [2]),(9,.a [8000]),(10,.a [9000])] ?_;refine C7 Jy ?_;exact g _ (Qc [0,1,2,3,4,900,6000,7000,8000,9000]) _ _ L5 Jy h
   refine C6 Z Jy (b:=true) (λc16=>?_) (λc16=>?_)
   .refine WT Z Jy ⟨[(8,.reg 9000 0),(7,.reg 8000 0),(6,.reg 7000 0),(5,.reg 6000 0),(4,.reg 3 0),(3,.reg 2 0),(2,.reg 1 0),(1,.reg 0 0)],[(44000,oV B1 2 A0 y7 true),(9000,.cells [pN z1.2.2]),(8000,.cells [pN z1.2.1]),(7000,.cells [.vec 44000]),(6000,.cells [.yf 4]),(4,.yld [] false),(3,.cells [pN q3]),(2,.cells [pN q2]),(1,.cells ((B3 q1).map .p)),(0,.cells [.p (vSl 2 A0 q0)])]⟩ (ids:=(Qc [0,1,2,3,4,900,6000,7000,8000,9000,44000])) ?_;exact kO Z Jy (a:=.tup []) (objs:=[(.cells [.p (vSl 2 A0 q0)]),.cells ((B3 q1).map .p),.cells [pN q2],.cells [pN q3],.yld [] false]) [0,1,2,3,4] ⟨false,rfl,rfl,_,rfl⟩
   exact Bool.noConfusion (Ow.symm.trans c16)
  obtain rfl:=A6 h;exact kO Z Jy (a:=.tup []) (objs:=[(.cells [.p (vSl 2 A0 q0)]),.cells ((B3 q1).map .p),.cells [pN q2],.cells [pN q3],.yld [] true]) [0,1,2,3,4] ⟨true,rfl,rfl,_,rfl⟩
 apply kI Z h<;>intro h
 .refine WQ Z Jy h (λx5 x6 L6=>⟨[(10,pN x6),(6,.reg 7000 0),(5,.reg 6000 0),(4,.reg 3 0),(3,.reg 2 0),(2,.reg 1 0)],[(7000,.cells [.p (vSl 2 A0 x5)]),(6000,.cells [.yf 4]),(4,.yld (L6.map (λ(x:Int×(Sl Qb))=>[pI .i64 x.1,vSl 2 A0 x.2])) true),(3,.cells [pN q3]),(2,.cells [pN q2]),(1,.cells ((B3 q1).map .p)),(0,.cells [.p (vSl 2 A0 q0)])]⟩) (ids:=(Qc [0,1,2,3,4,6000,7000])) (λ_ _ _ _ _ t x5 x6 L6 c h=>?_);apply kI Z h<;>intro h
  .refine kC Z h (Ad2 Z Y) (λv h=>?_);apply kI Z h<;>intro h
   .exact c _ (Qc [0,1,2,3,4,6000,7000]) _ x5 _ L6 Jy h
   refine kC Z h (NL Z Y) (λd h=>?_);obtain⟨L9,rfl,m⟩:=Ou h;replace h:=m;refine DP Z Jy (ys:=(λ(x:Int×(Sl Qb))=>[pI .i64 x.1,vSl 2 A0 x.2]) (x6,d)) (rest:=L9.map (λ(x:Int×(Sl Qb))=>[pI .i64 x.1,vSl 2 A0 x.2])) ?_ ?_
   .refine C6 Z Jy (b:=false) (λc30=>?_) (λc30=>?_)
    .exact Bool.noConfusion ((rfl:false=false).symm.trans c30)
    apply kI Z h<;>intro h
    .exact c _ (Qc [0,1,2,3,4,6000,7000]) _ d _ L9 Jy h
    exact c _ (Qc [0,1,2,3,4,6000,7000]) _ d _ L9 Jy h
   refine C6 Z Jy (b:=true) (λc32=>?_) (λc32=>?_)
   .exact kO Z Jy (a:=.tup []) (objs:=[(.cells [.p (vSl 2 A0 q0)]),.cells ((B3 q1).map .p),.cells [pN q2],.cells [pN q3],.yld [] false]) [0,1,2,3,4] ⟨false,rfl,rfl,_,rfl⟩
   exact Bool.noConfusion (Ow.symm.trans c32)
  obtain rfl:=A6 h;exact kO Z Jy (a:=.tup []) (objs:=[(.cells [.p (vSl 2 A0 q0)]),.cells ((B3 q1).map .p),.cells [pN q2],.cells [pN q3],.yld [] true]) [0,1,2,3,4] ⟨true,rfl,rfl,_,rfl⟩
 apply kI Z h<;>intro h
 .refine WQ Z Jy h (λx7 x8 L10=>⟨[(11,pN x8),(6,.reg 7000 0),(5,.reg 6000 0),(3,.reg 2 0),(2,.reg 1 0)],[(7000,.cells [.p (vSl 2 A0 x7)]),(6000,.cells [.yf 4]),(4,.yld (L10.map (λ(x:Int×(Sl Qb))=>[pI .i64 x.1,vSl 2 A0 x.2])) true),(3,.cells [pN q3]),(2,.cells [pN q2]),(1,.cells ((B3 q1).map .p)),(0,.cells [.p (vSl 2 A0 q0)])]⟩) (ids:=(Qc [0,1,2,3,4,6000,7000])) (λ_ _ _ _ _ u x7 x8 L10 o h=>?_);apply kI Z h<;>intro h
  .refine kC Z h (Ad2 Z Y) (λw h=>?_);apply kI Z h<;>intro h
   .exact o _ (Qc [0,1,2,3,4,6000,7000]) _ x7 _ L10 Jy h
   refine kC Z h (NL Z Y) (λq h=>?_);obtain⟨L13,rfl,f⟩:=Ou h;replace h:=f;refine DP Z Jy (ys:=(λ(x:Int×(Sl Qb))=>[pI .i64 x.1,vSl 2 A0 x.2]) (x8,q)) (rest:=L13.map (λ(x:Int×(Sl Qb))=>[pI .i64 x.1,vSl 2 A0 x.2])) ?_ ?_
   .refine C6 Z Jy (b:=false) (λc44=>?_) (λc44=>?_)
    .exact Bool.noConfusion ((rfl:false=false).symm.trans c44)
    exact o _ (Qc [0,1,2,3,4,6000,7000]) _ q _ L13 Jy h
   refine C6 Z Jy (b:=true) (λc45=>?_) (λc45=>?_)
   .exact kO Z Jy (a:=.tup []) (objs:=[(.cells [.p (vSl 2 A0 q0)]),.cells ((B3 q1).map .p),.cells [pN q2],.cells [pN q3],.yld [] false]) [0,1,2,3,4] ⟨false,rfl,rfl,_,rfl⟩
   exact Bool.noConfusion (Ow.symm.trans c45)
  obtain rfl:=A6 h;exact kO Z Jy (a:=.tup []) (objs:=[(.cells [.p (vSl 2 A0 q0)]),.cells ((B3 q1).map .p),.cells [pN q2],.cells [pN q3],.yld [] true]) [0,1,2,3,4] ⟨true,rfl,rfl,_,rfl⟩
 obtain rfl:=A6 h;exact kO Z Jy (a:=.tup []) (objs:=[(.cells [.p (vSl 2 A0 q0)]),.cells ((B3 q1).map .p),.cells [pN q2],.cells [pN q3],.yld [] true]) [0,1,2,3,4] ⟨true,rfl,rfl,_,rfl⟩
def NM (N:Nat)(a:Law)(b:Sl Qb):Option ((Sl Qb)×Law×Int×Int):= some (b,a,(a.If.n:Int),(a.Out.n:Int))
theorem AX6 {b:Law}{c:Sl Qb}{y:(Sl Qb)×Law×Int×Int}(h:NM N b c=some y) :Qi S Ab0 [.p (.agg (B3 b)),.p (vSl 2 A0 c)] [] (.clo Mr [] [.reg 0 0,.reg 1 0,.reg 2 0,.reg 3 0]) ([.cells [.p (vSl 2 A0 y.1)],.cells ((B3 y.2.1).map .p),.cells [pN y.2.2.1],.cells [pN y.2.2.2]]) []:=by unfold NM at h;refine A1 Z func228 ?_;refine I0 Z Jy [(1,.l [3000]),(2,.n),(4,.l [3000]),(5,.n),(6,.a [6000]),(7,.a [7000]),(8,.a [6000]),(9,.a [7000])] ?_;refine C7 Jy ?_;obtain rfl:=A6 h;exact kO Z Jy [4000,3000,6000,7000]
def Gh (N:Nat)(b:Law)(c:Sl Qb):Option ((Sl Int)×(Sl (Sl Qb))×Int):= (Im N b c).bind λy1=>if (y1 != 0) then some (Ox,(Sl.nil:Sl (Sl Qb)),y1) else (NM N b c).bind λy2=>(DV N y2.1 y2.2.1 y2.2.2.1 y2.2.2.2).bind λL1=>T9 L1 (λa (x1:Int×(Sl Qb)) (z1:(Sl Int)×(Sl (Sl Qb)))=>if (decide (32<(x1.2.n:Int))) then some (Ox,(Sl.nil:Sl (Sl Qb)),11) else if (Qd 8 (z1.1.n+(Sl.of [x1.1]:Sl Int).n))then if (Qd 24 (z1.2.n+(Sl.of [x1.2]:Sl (Sl Qb)).n))then a (z1.1.push x1.1,z1.2.push x1.2) else none else none) (λ(z1:(Sl Int)×(Sl (Sl Qb)))=>some (z1.1,z1.2,0)) (Ox,(Sl.nil:Sl (Sl Qb)))
theorem Ar6 {b:Law}{c:Sl Qb}{y:(Sl Int)×(Sl (Sl Qb))×Int}(h:Gh N b c=some y) :Qi S Sj [.p (.agg (B3 b)),.p (vSl 2 A0 c)] [] (.tup [.vec 0,.vec 1,pN y.2.2]) ([oV D2 1 (cI .i64) y.1 true,oV E8 1 (cL 2 A0) y.2.1 true]) []:=by
 unfold Gh at h;refine A1 Z func214 ?_;refine D9 Z Jy 4 3000 (B3 b) ?_;obtain⟨y1,e1,h⟩:=A7 h;refine A8 Z [] Ov (Ar4 Z Y e1) ?_;apply kI Z h<;>intro h
 .obtain rfl:=A6 h;exact P3 Z Jy ⟨[(6,.reg 7000 0),(5,.reg 6000 0),(4,.reg 5000 0)],[(7000,.cells [pN y1]),(6701,.vec E8 1 (Sl.nil:Sl (Sl Qb)).n (λi=>cL 2 A0 ((Sl.nil:Sl (Sl Qb)).g i)) true),(6000,.cells [.vec 6701]),(5700,oV D2 1 (cI .i64) Ox true),(5000,.cells [.vec 5700])]⟩ [5700,6701] (ids:=(Qc [5000,6000,7000])) ⟨rfl,rfl,rfl⟩
 obtain⟨y2,e2,h⟩:=A7 h;refine A8 Z [] Ov (AX6 Z Y e2) ?_;obtain⟨L1,e3,h⟩:=A7 h;refine Js Z Jy [21000,21001,21002,21003] [9,8,6,5,4] 901 (λz1=>⟨[(9,.reg 10000 0),(8,.reg 9000 0),(6,.reg 7000 0),(5,.reg 6000 0),(4,.reg 5000 0)],[(10500,oV E8 1 (cL 2 A0) z1.2 false),(10000,.cells [.vec 10500]),(9500,oV D2 1 (cI .i64) z1.1 false),(9000,.cells [.vec 9500]),(7000,.cells [pN 0]),(6000,.cells [.p I3]),(5000,.cells [.p I3])]⟩) (idl:=(Qc [5000,6000,7000,9000,10000])) h (Ar5 Z Y e3) (λ_=>by kernel_rfl) (λ_=>by kernel_rfl) (λ_=>by kernel_rfl) (λ_=>by kernel_rfl) (λx1 _ d z1 f h=>?_) (λz1 h=>?_)
 .refine Nc Z Jy ?_;apply kI Z h<;>intro h
  .refine WT Z Jy ⟨[(9,.reg 10000 0),(8,.reg 9000 0),(6,.reg 7000 0),(5,.reg 6000 0),(4,.reg 5000 0)],[(10500,oV E8 1 (cL 2 A0) z1.2 false),(10000,.cells [.vec 10500]),(9500,oV D2 1 (cI .i64) z1.1 false),(9000,.cells [.vec 9500]),(7000,.cells [pN 11]),(6000,.cells [.p I3]),(5000,.cells [.p I3])]⟩ (ids:=(Qc [901,5000,6000,7000,9000,9500,10000,10500])) ?_;obtain rfl:=A6 h;exact P3 Z Jy ⟨[(6,.reg 7000 0),(5,.reg 6000 0),(4,.reg 5000 0)],[(7000,.cells [pN 11]),(6701,.vec E8 1 (Sl.nil:Sl (Sl Qb)).n (λi=>cL 2 A0 ((Sl.nil:Sl (Sl Qb)).g i)) true),(6000,.cells [.vec 6701]),(5700,oV D2 1 (cI .i64) Ox true),(5000,.cells [.vec 5700])]⟩ [5700,6701] (ids:=(Qc [5000,6000,7000])) ⟨rfl,rfl,rfl⟩
  refine I0 Z Jy [(0,.l [9000]),(3,.a [30000,9500]),(4,.l [10000]),(7,.a [34000,10500]),(8,.a [9000]),(9,.a [10000])] ?_;refine O8 Jy (x:=.sl true 1 1 (H2 [pI .i64 0] [(0,cI .i64 x1.1)])) ?_;obtain⟨c9,h⟩:=B9 h;refine O8 c9 (x:=.sl true 1 1 (H2 [I3] [(0,cL 2 A0 x1.2)])) ?_;obtain⟨c10,h⟩:=B9 h;refine C7 c10 ?_;exact f _ [(901,901),(5000,5000),(6000,6000),(7000,7000),(9000,9000),(9500,30000),(10000,10000),(10500,34000)] _ _ Jy h (hle:=kl2 0 1 (R7 (cL 2 A0) z1.2 x1.2 [I3]) (R7 (cI .i64) z1.1 x1.1 [pI .i64 0]))
 refine I0 Z Jy [(0,.l [9000]),(1,.l [10000]),(2,.a [5000]),(3,.a [6000]),(4,.a [7000])] ?_;refine C7 Jy ?_;obtain rfl:=A6 h;exact P3 Z Jy ⟨[(6,.reg 7000 0),(5,.reg 6000 0),(4,.reg 5000 0)],[(10500,oV E8 1 (cL 2 A0) z1.2 true),(9500,oV D2 1 (cI .i64) z1.1 true),(7000,.cells [pN 0]),(6000,.cells [.vec 10500]),(5000,.cells [.vec 9500])]⟩ [9500,10500] (ids:=(Qc [5000,6000,7000,9500,10500])) ⟨rfl,rfl,rfl⟩
def CH (N:Nat)(b:Law)(a:Sl Qb):Option ((Sl Qb)×Int):= (Gh N b a).bind λy1=>if (y1.2.2 != 0) then some ((Sl.nil:Sl Qb),y1.2.2) else if (decide (0<(y1.2.1.n:Int))) then if (((0:Int)<=(wrap .i64 ((y1.2.1.n:Int)-1))/\(wrap .i64 ((y1.2.1.n:Int)-1))<(y1.2.1.n:Int))/\(wrap .i64 ((y1.2.1.n:Int)-1)).toNat<y1.2.1.n)then some (y1.2.1.g (wrap .i64 ((y1.2.1.n:Int)-1)).toNat,0) else none else (B2 N a).bind λy2=>some (y2,0)
theorem Ar7 {a:Law}{b:Sl Qb}{y:(Sl Qb)×Int}(h:CH N a b=some y) :Qi S Sh [.p (.agg (B3 a)),.p (vSl 2 A0 b)] [] (.tup [.p (vSl 2 A0 y.1),pN y.2]) ([]) []:=by
 unfold CH at h;refine A1 Z func196 ?_;refine kC Z h (Ar6 Z Y) (λy1 h=>?_);apply kI Z h<;>intro h
 .obtain rfl:=A6 h;exact kO Z Jy []
 apply kI Z h<;>intro h
 .obtain⟨c3,h⟩:=B9 h;obtain rfl:=A6 h;exact AU6 Z c3 [] ⟨rfl,rfl,rfl⟩
 refine kC Z h (S4 Z Y) (λy2 h=>?_);obtain rfl:=A6 h;exact kO Z Jy []
def Cs (N:Nat)(a:Law):Option Bool:= (Z4 N a).bind λy1=>some (y1 != 0)
theorem Qk {a:Law}{y:Bool}(h:Cs N a=some y) :Qi S IV [.p (.agg (B3 a))] [] (pB y) ([]) []:=by unfold Cs at h;refine A1 Z func157 ?_;refine kC Z h (Ms Z Y) (λy1 h=>?_);cases h;exact kR Z
def F3 (N:Nat)(a:Sl Law)(c:Law->Option Bool):Option Int:= O7 N (λb (x1:Int)=>if (decide (x1<(a.n:Int))) then if ((0:Int)<=x1/\x1<(a.n:Int))then (c (a.g x1.toNat)).bind λy3=>if y3 then some x1 else b (wrap .i64 (x1+1)) else none else some (-1)) 0
theorem BI {a:Sl Law}{c:Law->Option Bool}{kp_f:Nat}(d:∀{a0:Law}{b:Bool},c a0=some b->Qi S kp_f [.p (.agg (B3 a0))] [] (pB b) [] []){y:Int}(h:F3 N a c=some y) :Qi S S2 [.p (vSl 18 B3 a),.clo kp_f [] []] [] (pN y) ([]) []:=by
 unfold F3 at h;refine A1 Z func194 ?_;refine F1 Z Jy h (λx1=>⟨[(8,pN x1),(7,pN (a.n:Int)),(1,.clo kp_f [] []),(0,.p (vSl 18 B3 a))],[]⟩) (ids:=[]) (λ_ _ _ _ _ f x1 g h=>?_);apply kI Z h<;>intro h
 .obtain⟨c8,h⟩:=B9 h;obtain⟨y3,e3,h⟩:=A7 h;refine A8 Z [] (Qe c8 Ov) (d e3) ?_;refine Ug Z h fun h=>?_;exact g _ [] _ _ Jy h
 cases h;exact kR Z
def D7 (N:Nat)(a:Sl Law)(b:Law->Option Bool):Option Bool:= (F3 N a b).bind λy1=>some (decide (0<=y1))
theorem AB {a:Sl Law}{c:Law->Option Bool}{kp_f:Nat}(d:∀{a0:Law}{b:Bool},c a0=some b->Qi S kp_f [.p (.agg (B3 a0))] [] (pB b) [] []){y:Bool}(h:D7 N a c=some y) :Qi S P4 [.p (vSl 18 B3 a),.clo kp_f [] []] [] (pB y) ([]) []:=by unfold D7 at h;refine A1 Z func156 ?_;refine kC Z h (BI Z Y (λe=>d e)) (λy1 h=>?_);cases h;exact kR Z
def Ce (N:Nat)(a:Sl Law):Option Int:= if (decide (64<(a.n:Int))) then some 12 else (D7 N a (λ(u1:Law)=>Cs N u1)).bind λy1=>if y1 then some 17 else some 0
theorem Up {a:Sl Law}{y:Int}(h:Ce N a=some y) :Qi S LB [.p (vSl 18 B3 a)] [] (pN y) ([]) []:=by
 unfold Ce at h;refine A1 Z func114 ?_;refine Ug Z h fun h=>?_;refine kC Z h (AB Z Y (λe=>Qk Z Y e)) (λy1 h=>?_);refine Ug Z h fun h=>?_;cases h;exact kR Z
def Ap (N:Nat)(b:Sl Law)(a:Sl (Sl Qb)):Option Int:= (Ce N b).bind λy1=>if (y1 != 0) then some y1 else if (decide (256<(a.n:Int))) then some 12 else O7 N (λc (x1:Int)=>if (decide (x1<(a.n:Int))) then if ((0:Int)<=x1/\x1<(a.n:Int))then (W0 N (a.g x1.toNat)).bind λy4=>if (y4 != 0) then some y4 else c (wrap .i64 (x1+1)) else none else some 0) 0
theorem Uq {b:Sl Law}{a:Sl (Sl Qb)}{y:Int}(h:Ap N b a=some y) :Qi S Lu [.p (vSl 18 B3 b),.p (vSl 1 (cL 2 A0) a)] [] (pN y) ([]) []:=by
 unfold Ap at h;refine A1 Z func78 ?_;refine kC Z h (Up Z Y) (λy1 h=>?_);refine Ug Z h fun h=>?_;refine Ug Z h fun h=>?_;refine F1 Z Jy h (λx1=>⟨[(19,pN x1),(18,pN (a.n:Int)),(17,.p (vSl 1 (cL 2 A0) a))],[]⟩) (ids:=[]) (λ_ _ _ _ _ c x1 d h=>?_);apply kI Z h<;>intro h
 .obtain⟨c10,h⟩:=B9 h;obtain⟨y4,e4,h⟩:=A7 h;refine A8 Z [] c10 (GR Z Y e4) ?_;refine Ug Z h fun h=>?_;exact d _ [] _ _ Jy h
 cases h;exact kR Z
def Bn2 (c:Int):Option PV:=if c=0 then none else some (.iface 251 (pI .i64 c))
def Ct (N:Nat)(c:Int)(q0:Sl Qb)(q1:Sl Law):Option (List (Int×(Sl Qb))):= (B2 N q0).bind λy1=>Dk (0,y1) (Y4 N (λa (x1:Sl Qb) (x2:Int)=>if (decide (x2<(q1.n:Int))) then if ((0:Int)<=x2/\x2<(q1.n:Int))then (CH N (q1.g x2.toNat) x1).bind λy4=>if (y4.2 != 0) then if y4.2=c then some []else none else Dk (wrap .i64 (x2+1),y4.1) (a y4.1 (wrap .i64 (x2+1))) else none else if c=0 then some []else none) y1 0)
theorem IY {q0:Sl Qb}{q1:Sl Law}{c:Int}{L:List (Int×(Sl Qb))}(h:Ct N c q0 q1=some L) :Rp S Ae [] [.reg 0 0,.reg 1 0] [.cells [.p (vSl 2 A0 q0)],.cells [.p (vSl 18 B3 q1)]] (L.map (λ(x:Int×(Sl Qb))=>[pI .i64 x.1,vSl 2 A0 x.2])) (Bn2 c):=by
 unfold Ct at h;refine AV1 Z func195 ?_;refine kC Z h (S4 Z Y) (λy1 h=>?_);obtain⟨L1,rfl,d⟩:=Ou h;replace h:=d;refine DP Z Jy (ys:=(λ(x:Int×(Sl Qb))=>[pI .i64 x.1,vSl 2 A0 x.2]) (0,y1)) (rest:=L1.map (λ(x:Int×(Sl Qb))=>[pI .i64 x.1,vSl 2 A0 x.2])) ?_ ?_
 .refine C6 Z Jy (b:=false) (λc1=>?_) (λc1=>?_)
  .exact Bool.noConfusion ((rfl:false=false).symm.trans c1)
  refine WQ Z Jy h (λx1 x2 L2=>⟨[(17,pN x2),(16,pN (q1.n:Int)),(15,.p (vSl 18 B3 q1)),(4,.p (vSl 2 A0 x1)),(0,.yf 2)],[(2,.yld (L2.map (λ(x:Int×(Sl Qb))=>[pI .i64 x.1,vSl 2 A0 x.2])) true),(1,.cells [.p (vSl 18 B3 q1)]),(0,.cells [.p (vSl 2 A0 q0)])]⟩) (ids:=(Qc [0,1,2])) (λ_ _ _ _ _ g x1 x2 L2 i h=>?_);apply kI Z h<;>intro h
  .obtain⟨c13,h⟩:=B9 h;obtain⟨y4,e4,h⟩:=A7 h;refine A8 Z [] (Qe c13 Ov) (Ar7 Z Y e4) ?_;refine C6 Z Jy (b:=y4.2 != 0) (λc14=>?_) (λc14=>?_)
   .replace h:=itT c14 h;obtain⟨c0,h⟩:=B9 h;obtain rfl:=A6 h;have j:Bn2 c=some (.iface 251 (pI .i64 y4.2)):=by
     have:¬y4.2=0:=by simpa using c14
     rw[<- c0];simp[Bn2,this]
    refine BA9 Z Jy (x:=.iface 251 (pI .i64 y4.2)) ?_;exact Bu1 Z Jy (x:=.iface 251 (pI .i64 y4.2)) (objs:=[(.cells [.p (vSl 2 A0 q0)]),.cells [.p (vSl 18 B3 q1)],.yld [] true]) [0,1,2] ⟨true,rfl,rfl,λ_=>by rw[j];rfl,λe=>nomatch e⟩
   replace h:=itF c14 h;obtain⟨L5,rfl,f⟩:=Ou h;replace h:=f;refine DP Z Jy (ys:=(λ(x:Int×(Sl Qb))=>[pI .i64 x.1,vSl 2 A0 x.2]) (wrap .i64 (x2+1),y4.1)) (rest:=L5.map (λ(x:Int×(Sl Qb))=>[pI .i64 x.1,vSl 2 A0 x.2])) ?_ ?_
   .refine C6 Z Jy (b:=false) (λc15=>?_) (λc15=>?_)
    .exact Bool.noConfusion ((rfl:false=false).symm.trans c15)
    exact i _ (Qc [0,1,2]) _ _ _ L5 Jy h
   refine C6 Z Jy (b:=true) (λc16=>?_) (λc16=>?_)
   .exact kO Z Jy (a:=.tup []) (objs:=[(.cells [.p (vSl 2 A0 q0)]),.cells [.p (vSl 18 B3 q1)],.yld [] false]) [0,1,2] ⟨false,rfl,rfl,λe=>(nomatch e),λ_=>⟨_,rfl⟩⟩
   exact Bool.noConfusion (Ow.symm.trans c16)
  obtain⟨c0,h⟩:=B9 h;obtain rfl:=A6 h;exact kO Z Jy (a:=.tup []) (objs:=[(.cells [.p (vSl 2 A0 q0)]),.cells [.p (vSl 18 B3 q1)],.yld [] true]) [0,1,2] ⟨true,rfl,rfl,λ_=>by subst c0;exact⟨_,rfl⟩,λe=>(nomatch e)⟩
 refine C6 Z Jy (b:=true) (λc17=>?_) (λc17=>?_)
 .exact kO Z Jy (a:=.tup []) (objs:=[(.cells [.p (vSl 2 A0 q0)]),.cells [.p (vSl 18 B3 q1)],.yld [] false]) [0,1,2] ⟨false,rfl,rfl,λe=>(nomatch e),λ_=>⟨_,rfl⟩⟩
 exact Bool.noConfusion (Ow.symm.trans c17)
def Em (N:Nat)(a:Sl Law)(b:Sl Qb):Option ((Sl Qb)×(Sl Law)):= some (b,a)
theorem LO {a:Sl Law}{b:Sl Qb}{y:(Sl Qb)×(Sl Law)}(h:Em N a b=some y) :Qi S LE [.p (vSl 18 B3 a),.p (vSl 2 A0 b)] [] (.clo Ae [] [.reg 0 0,.reg 1 0]) ([.cells [.p (vSl 2 A0 y.1)],.cells [.p (vSl 18 B3 y.2)]]) []:=by unfold Em at h;refine A1 Z func158 ?_;obtain rfl:=A6 h;exact kO Z Jy [4000,3000]
def K7 (N:Nat)(c:Int)(a:Sl Law)(d:Sl Qb):Option (Sl Qb):= (Em N a d).bind λy1=>(Ct N c y1.1 y1.2).bind λL1=>T9 L1 (λb (x1:Int×(Sl Qb)) (z1:Sl Qb)=>b x1.2) (λ(z1:Sl Qb)=>some z1) (Sl.nil:Sl Qb)
theorem OD {a:Sl Law}{b:Sl Qb}{y:Sl Qb}(h:K7 N 0 a b=some y) :Qi S K6 [.p (vSl 18 B3 a),.p (vSl 2 A0 b)] [] (.p (vSl 2 A0 y)) ([]) []:=by
 unfold K7 at h;refine A1 Z func117 ?_;refine kC Z h (LO Z Y) (λy1 h=>?_);obtain⟨L1,e2,h⟩:=A7 h;have f:Rp S Ae [] [.reg 0 0,.reg 1 0] [.cells [.p (vSl 2 A0 y1.1)],.cells [.p (vSl 18 B3 y1.2)]] (L1.map (λ(x:Int×(Sl Qb))=>[pI .i64 x.1,vSl 2 A0 x.2])) none:=IY Z Y e2;refine AB1 Z Jy [8000,8001] [4] 901 (λz1=>⟨[(4,.reg 5000 0)],[(5000,.cells [.p (vSl 2 A0 z1)])]⟩) (idl:=[(5000,5000)]) h f (λ_=>by kernel_rfl) (λ_=>by kernel_rfl) (λ_=>by kernel_rfl) (λ_=>by kernel_rfl) (λx1 _ c z1 d h=>?_) (λz1 h=>?_)
 .refine Nc Z Jy ?_;exact d _ (Qc [901,5000]) _ _ Jy h
 cases h;exact kR Z
theorem OE {c:Int}{a:Sl Law}{b:Sl Qb}{y:Sl Qb}(hc:c≠0)(h:K7 N c a b=some y) :S.F K6 [.p (vSl 18 B3 a),.p (vSl 2 A0 b)] [] λres o k=>res=.panic (.iface 251 (pI .i64 c))/\o=[]/\k=[]:=by
 unfold K7 at h;refine Bl7 Z func117 ?_;refine kC Z h (LO Z Y) (λy1 h=>?_);obtain⟨L1,e2,h⟩:=A7 h;have g:Rp S Ae [] [.reg 0 0,.reg 1 0] [.cells [.p (vSl 2 A0 y1.1)],.cells [.p (vSl 18 B3 y1.2)]] (L1.map (λ(x:Int×(Sl Qb))=>[pI .i64 x.1,vSl 2 A0 x.2])) (some (.iface 251 (pI .i64 c))):=by
  have:=IY Z Y e2
  simpa[Bn2,hc]using this
 refine AB1 Z Jy [8000,8001] [4] 901 (λz1=>⟨[(4,.reg 5000 0)],[(5000,.cells [.p (vSl 2 A0 z1)])]⟩) (idl:=[(5000,5000)]) h g (λ_=>by kernel_rfl) (λ_=>by kernel_rfl) (λ_=>by kernel_rfl) (λ_=>by kernel_rfl) (λx1 _ d z1 f h=>?_) (λz1 h=>?_)
 .refine Nc Z Jy ?_;exact f _ (Qc [901,5000]) _ _ Jy h
 exact Bu1 Z Jy (x:=.iface 251 (pI .i64 c)) (objs:=[]) [] ⟨rfl,rfl,rfl⟩
def Cu (N:Nat)(a:Sl Law)(b:Sl Qb):Option ((Sl Qb)×Bool):=
 match K7 N 0 a b with
 |some y=>some (y,true)
 |none=>(K7 N 11 a b).bind λ_=>some ((Sl.nil:Sl Qb),false)
theorem Ql {b:Sl Law}{c:Sl Qb}{y:(Sl Qb)×Bool}(h:Cu N b c=some y) :Qi S IO [.p (vSl 18 B3 b),.p (vSl 2 A0 c)] [] (.tup [.p (vSl 2 A0 y.1),pB y.2]) ([]) []:=by
 unfold Cu at h;refine A1 Z func79 ?_;rcases e:K7 N 0 b c with _|z
 .rw[e]at h;obtain⟨z,e1,h⟩:=A7 h;obtain rfl:=A6 h;refine A8 Z [7000,3000,4000,5000] Jy (Y.attP (OE Z Y (by decide) e1)) ?_;refine I0 Z Jy [(0,.l [5000]),(1,.l [7000]),(3,.a [5000])] ?_;refine C7 Jy ?_;exact P3 Z Jy ⟨[(5,pB false),(4,.reg 5000 0)],[(5000,.cells [.p (vSl 2 A0 Sl.nil)])]⟩ [] (ids:=[(5000,5000)]) ⟨rfl,rfl,rfl⟩
 rw[e]at h;obtain rfl:=A6 h;refine A8 Z [7000,3000,4000,5000] Jy (Y.attR (OD Z Y e)) ?_;refine I0 Z Jy [(0,.l [5000]),(1,.l [7000]),(3,.a [5000])] ?_;refine C7 Jy ?_;exact P3 Z Jy ⟨[(5,pB true),(4,.reg 5000 0)],[(5000,.cells [.p (vSl 2 A0 z)])]⟩ [] (ids:=[(5000,5000)]) ⟨rfl,rfl,rfl⟩
def U6 (N:Nat)(a:Sl Law)(b:Sl Qb):Option ((Sl Qb)×Int):= (Ap N a (Sl.of [b]:Sl (Sl Qb))).bind λy1=>if (y1 != 0) then some ((Sl.nil:Sl Qb),y1) else (Cu N a b).bind λy2=>if (!y2.2) then some ((Sl.nil:Sl Qb),11) else some (y2.1,0)
theorem JT {N:Nat}{a:Sl Law}{b:Sl Qb}{y:(Sl Qb)×Int}(h:U6 N a b=some y) :Qi S Jz [.p (vSl 18 B3 a),.p (vSl 2 A0 b)] [] (.tup [.p (vSl 2 A0 y.1),pN y.2]) ([]) []:=by
 unfold U6 at h;refine A1 Z Tryz.func51 ?_;refine Na Z Ow ⟨[(11,.vec 12000),(9,.p (vSl 18 B3 a)),(1,.p (vSl 2 A0 b)),(0,.p (vSl 18 B3 a))],[(12000,.vec E8 1 (Sl.of [b]:Sl (Sl Qb)).n (λi=>cL 2 A0 ((Sl.of [b]:Sl (Sl Qb)).g i)) false)]⟩ (ids:=[(12000,12000)]) ?_ (hle:=kl1 3 (AP0 (cL 2 A0) ([b]:List (Sl Qb)) [I3]));refine kC Z h (Uq Z Y) (λy1 h=>?_);apply kI Z h<;>intro h
 .obtain rfl:=A6 h;exact kO Z Jy []
 refine kC Z h (Ql Z Y) (λy2 h=>?_);apply kI Z h<;>intro h
 .obtain rfl:=A6 h;exact kO Z Jy []
 cases h;exact kR Z
end Go.AM
