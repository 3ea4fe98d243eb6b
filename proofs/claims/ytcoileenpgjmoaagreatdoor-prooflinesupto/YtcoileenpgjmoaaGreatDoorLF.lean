/- Part 6. -/
import Derived.Test.YtcoileenpgjmoaaGreatDoorLE
import Derived.Test.YtcoileenpgjmoaaGreatDoorLD
import Derived.RecoverIn
import Derived.Test.YtcoileenpgjmoaaGreatDoorProg
import Derived.Lib.SlTrimSet
import Derived.Lib.Join
import Derived.Lib.ItoaNum
import Derived.Lib.Bytealg
import Derived.TacticsInMore
set_option linter.defProp false
set_option linter.unusedSimpArgs false
set_option linter.unusedVariables false
set_option linter.unusedSectionVars false
namespace Go.AM
def Ki:=@And.intro
abbrev Kh(k n:Nat):Prop:=n*k<=140737488355328/\n<=140737488355328
def Kg(l:List Nat):List (Nat×Nat):=l.map fun a=>(a,a)
abbrev Iv:Sl Int:=Sl.nil
def Iu:true=true:=rfl
def Ip:(18:Nat)<=18:=by decide
def Im:(7:Nat)<=7:=by decide
def Hm:(2:Nat)<=2:=by decide
noncomputable abbrev Bh6:=Go.Proofs.Tryz.prog.funcs
def Bt7:=@Bool.eq_iff_iff
def BA9:=@BitVec.toNat_ofNat
def GU (D:List Deferred)(a:Act)(d:Option Tmp)(v:Value):(PU D a).put d v=PU D (a.put d v):=by cases d<;>rfl
def KV {F:Fence}{n:Nat}{P:Program}{ops:Array Oper}{Q:Exit->Act->World->Prop}(D:List Deferred):∀(l:List Nat) (a:Act) (w:World),wpOpsIn F n P ops Q l a w ->
 wpOpsIn F n P ops (λe a' w'=>∃a0,a' = PU D a0/\Q e a0 w') l (PU D a) w
 |[],a,w,h=>⟨a,rfl,h⟩
 |i::l,a,w,h=>by
  have ih:=KV (F:=F) (n:=n) (P:=P) (ops:=ops) (Q:=Q) D l;simp only[wpOpsIn]at h⊢;have e1:(PU D a).eval=a.eval:=by funext x;cases x<;>rfl
  have e2:(PU D a).tmps=a.tmps:=rfl;cases j:ops[i]? with
  |none=>simp only[j]at h⊢;exact ih a w h
  |some o=>
   simp only[j]at h⊢;rw[e2,e1];by_cases hw:Region.wanted o (yielded ops a.tmps)=true
   .rw[Ej hw]at h⊢;refine⟨by rw[e1];exact h.1,?_⟩;have b:=h.2;rw[e1];generalize (o.semAt F.round a.eval).run P w=r at b;unfold Oper.uponIn at b⊢;split at b
    .rw[GU];exact ih _ _ b
    .rw[GU];exact ih _ _ b
    .exact ih _ _ b |> λx=>by
      rename_i d w'
      have:({ (PU D a)with defers:=d::(PU D a).defers }:Act).put o.dst undef=PU D (({ a with defers:=d::a.defers }:Act).put o.dst undef):=by rw[<- GU];rfl
      rw[this];exact x
    .refine⟨b.1,b.2.mono ?_⟩;intro e w' f;cases e with
     |returned v=>have:=ih _ _ f;rw[<- GU]at this;exact this
     |panicked ch=>exact⟨a,rfl,f⟩
     |outgrown=>obtain⟨a1,w1,g⟩:=f;exact⟨PU D a1,w1,a1,rfl,g⟩
    .refine⟨b.1,λc cs m=>?_⟩;obtain⟨v,w',g1,g2⟩:=b.2 c cs m;exact⟨v,w',by have:=ih _ _ g1;rw[<- GU]at this;exact this,g2⟩
    .refine⟨b.1,b.2.mono ?_⟩;intro e w' f;cases e with
     |returned v=>have:=ih _ _ f;rw[<- GU]at this;exact this
     |panicked ch=>exact⟨a,rfl,f⟩
     |outgrown=>obtain⟨a1,w1,g⟩:=f;exact⟨PU D a1,w1,a1,rfl,g⟩
    .exact⟨a,rfl,b⟩
    exact b.elim
   rw[Er hw]at h⊢;rw[GU];exact⟨h.1,ih _ _ h.2⟩
section
variable {P:Program}{C:Ctx}{st:St}{rho:Nat->Value}
def GV {fn:Func}{R:Ending->World->Prop}{u:FrameMode}(c:u ≠ .run){tmps:Array Value}{D:List Deferred}(b:∀a w,Sat C st a w rho->a.tmps=tmps->LeavesInM Fence.wide 0 P fn tmps R D u w) :∀(ds:List Deferred) (a:Act) (w:World),a.defers=ds->a.tmps=tmps->Sat C st a w rho->LeavesInM Fence.wide 0 P fn tmps R (ds++D) u w
 |[],a,w,hd,ht,h=>b a w h ht
 |d::ds,a,w,hd,ht,h=>by obtain⟨r,w',h1,f,g⟩:=h.unmark hd;exact⟨c,.inl ⟨r,w',h1,f,GV c b ds { a with defers:=ds } w' rfl ht g⟩⟩
end
end Go.AM
namespace Go.AM
structure Jf where
 Plus:Int
 Minus:Int
 deriving Inhabited,DecidableEq
abbrev A0 (x:Jf):List PV:=[(pI .u32 x.Plus),pI .u32 x.Minus]
inductive Pat where
 |nil
 |mk (Kind:Int) (Is:Jf) (Not:Bool) (Min:Int) (Max:Int) (n:Nat) (g:Nat->Pat)
instance:Inhabited Pat:=⟨.nil⟩
def Pat.Kind:Pat->Int
 |.nil=>0
 |.mk x _ _ _ _ _ _=>x
def Pat.Is:Pat->Jf
 |.nil=>default
 |.mk _ x _ _ _ _ _=>x
def Pat.Not:Pat->Bool
 |.nil=>false
 |.mk _ _ x _ _ _ _=>x
def Pat.Min:Pat->Int
 |.nil=>0
 |.mk _ _ _ x _ _ _=>x
def Pat.Max:Pat->Int
 |.nil=>0
 |.mk _ _ _ _ x _ _=>x
def Pat.L:Pat->Sl Pat
 |.nil=>⟨0,λ_=>.nil⟩
 |.mk _ _ _ _ _ n g=>⟨n,g⟩
def EC:Pat->Nat->List PV
 |.nil=>λ_=>[]
 |.mk _ _ _ _ _ n g=>λi=>[(pI .i64 (g i).Kind),pI .u32 (g i).Is.Plus,pI .u32 (g i).Is.Minus,.bb (g i).Not,pI .i64 (g i).Min,pI .i64 (g i).Max,.sl false 7 (g i).L.n (EC (g i))]
abbrev D5 (x:Pat):List PV:=[(pI .i64 x.Kind),pI .u32 x.Is.Plus,pI .u32 x.Is.Minus,.bb x.Not,pI .i64 x.Min,pI .i64 x.Max,.sl false 7 x.L.n (EC x)]
def BY (x:Pat):∀i,i<x.L.n->EC x i=D5 (x.L.g i):=by
 cases x with
 |nil=>intro i a;exact Es (show i<0 from a) (by omega)
 |mk Kind Is Not Min Max n g=>exact λ_ _=>rfl
structure Ei where
 From:Int
 Clear:Int
 Set:Jf
 Take:Int
 Of:Int
 deriving Inhabited,DecidableEq
abbrev Ao (x:Ei):List PV:=[(pI .i64 x.From),pI .u32 x.Clear,pI .u32 x.Set.Plus,pI .u32 x.Set.Minus,pI .u32 x.Take,pI .i64 x.Of]
structure Law where
 Name:Str
 Left:Pat
 Right:Pat
 If:(Sl Jf)
 Out:(Sl Ei)
 Mode:Int
 deriving Inhabited
abbrev B4 (x:Law):List PV:=[(.str x.Name),pI .i64 x.Left.Kind,pI .u32 x.Left.Is.Plus,pI .u32 x.Left.Is.Minus,.bb x.Left.Not,pI .i64 x.Left.Min,pI .i64 x.Left.Max,.sl false 7 x.Left.L.n (EC x.Left),pI .i64 x.Right.Kind,pI .u32 x.Right.Is.Plus,pI .u32 x.Right.Is.Minus,.bb x.Right.Not,pI .i64 x.Right.Min,pI .i64 x.Right.Max,.sl false 7 x.Right.L.n (EC x.Right),vSl 2 A0 x.If,vSl 6 Ao x.Out,pI .i64 x.Mode]
structure Small where
 Parents:(Sl Int)
 Laws:(Sl Law)
 On:(Sl Int)
 deriving Inhabited
abbrev Ib (x:Small):List PV:=[(vSl 1 (cI .u8) x.Parents),vSl 18 B4 x.Laws,vSl 1 (cI .u16) x.On]
structure An5 where
 H:Small
 L:(Sl Int)
 deriving Inhabited
abbrev FD (x:An5):List PV:=[(vSl 1 (cI .u8) x.H.Parents),vSl 18 B4 x.H.Laws,vSl 1 (cI .u16) x.H.On,vSl 1 (cI .u32) x.L]
structure Node where
 No:Int
 Name:Str
 deriving Inhabited,DecidableEq
abbrev C6 (x:Node):List PV:=[(pI .i64 x.No),.str x.Name]
structure Nm where
 Tree:(Sl Node)
 Laws:(Sl Law)
 On:(Sl (Sl Int))
 deriving Inhabited
abbrev A7 (x:Nm):List PV:=[(vSl 2 C6 x.Tree),vSl 18 B4 x.Laws,vSl 1 (cL 1 (cI .i64)) x.On]
structure K5 where
 Symbol:Str
 S:Jf
 deriving Inhabited,DecidableEq
abbrev D7 (x:K5):List PV:=[(.str x.Symbol),pI .u32 x.S.Plus,pI .u32 x.S.Minus]
structure Jp where
 Text:Str
 Clear:Int
 Set:Jf
 deriving Inhabited,DecidableEq
abbrev V8 (x:Jp):List PV:=[(.str x.Text),pI .u32 x.Clear,pI .u32 x.Set.Plus,pI .u32 x.Set.Minus]
structure H3 where
 Has:Bool
 W:(Sl Jf)
 deriving Inhabited
abbrev F2 (x:H3):List PV:=[(.bb x.Has),vSl 2 A0 x.W]
structure Nr where
 Gloss:Str
 Nq:(Sl H3)
 deriving Inhabited
abbrev F3 (x:Nr):List PV:=[(.str x.Gloss),vSl 2 F2 x.Nq]
structure B2 where
 Feats:(Sl Str)
 Sounds:(Sl K5)
 Marks:(Sl Jp)
 Nm:Nm
 Nl:(Sl H3)
 Np:(Sl Nr)
 deriving Inhabited
abbrev B5 (x:B2):List PV:=[(vSl 1 cS x.Feats),vSl 3 D7 x.Sounds,vSl 4 V8 x.Marks,vSl 2 C6 x.Nm.Tree,vSl 18 B4 x.Nm.Laws,vSl 1 (cL 1 (cI .i64)) x.Nm.On,vSl 2 F2 x.Nl,vSl 2 F3 x.Np]
structure A5 where
 Nr:Int
 Nj:Int
 Kind:Int
 Cost:Int
 deriving Inhabited,DecidableEq
abbrev C0 (x:A5):List PV:=[(pI .i64 x.Nr),pI .i64 x.Nj,pI .i64 x.Kind,pI .i64 x.Cost]
structure FB where
 Node:Int
 Place:Int
 Nr:Int
 Nj:Int
 deriving Inhabited,DecidableEq
abbrev V4 (x:FB):List PV:=[(pI .i64 x.Node),pI .i64 x.Place,pI .i64 x.Nr,pI .i64 x.Nj]
structure Je where
 Bad:(Sl A5)
 Nn:(Sl FB)
 deriving Inhabited
abbrev OL (x:Je):List PV:=[(vSl 4 C0 x.Bad),vSl 4 V4 x.Nn]
structure B7 where
 a0:Int
 a1:Int
 deriving Inhabited,DecidableEq
abbrev D6 (x:B7):List PV:=[(pI .i64 x.a0),pI .i64 x.a1]
structure CE where
 entry:Int
 leaf:Int
 deriving Inhabited,DecidableEq
abbrev OM (x:CE):List PV:=[(pI .i64 x.entry),pI .i64 x.leaf]
inductive Part where
 |nil
 |sound (x:Jf) (no:Bool)
 |edge (e:Bool)
 |seq (n:Nat) (g:Nat->Part)
 |alt (n:Nat) (g:Nat->Part)
 |rep (o:Part) (mn mx:Int)
instance:Inhabited Part:=⟨.nil⟩
def Part.t:Part->Nat
 |.nil=>0
 |.sound _ _=>335
 |.edge _=>337
 |.seq _ _=>342
 |.alt _ _=>339
 |.rep _ _ _=>341
def Part.v:Part->PV
 |.nil=>.bb false
 |.sound x no=>.agg [pI .u32 x.Plus,pI .u32 x.Minus,.bb no]
 |.edge e=>.agg [.bb e]
 |.seq n g=>.agg [.sl false 1 n λi=>[.iface (g i).t (g i).v]]
 |.alt n g=>.agg [.sl false 1 n λi=>[.iface (g i).t (g i).v]]
 |.rep o mn mx=>.agg [.iface o.t o.v,pI .i64 mn,pI .i64 mx]
abbrev Ic (x:Part):PV:=.iface x.t x.v
abbrev Jq (x:Part):List PV:=[Ic x]
structure An6 where
 is:Jf
 not:Bool
 deriving Inhabited,DecidableEq
abbrev Zm (x:An6):List PV:=[(pI .u32 x.is.Plus),pI .u32 x.is.Minus,.bb x.not]
structure AR8 where
 end_:Bool
 deriving Inhabited,DecidableEq
abbrev AR9 (x:AR8):List PV:=[(.bb x.end_)]
structure Palt where
 l:(Sl Part)
 deriving Inhabited
abbrev Bc7 (x:Palt):List PV:=[(vSl 1 Jq x.l)]
structure Bc8 where
 of:Part
 min:Int
 max:Int
 deriving Inhabited
abbrev Bc9 (x:Bc8):List PV:=[(Ic x.of),pI .i64 x.min,pI .i64 x.max]
structure Pseq where
 l:(Sl Part)
 deriving Inhabited
abbrev Bd0 (x:Pseq):List PV:=[(vSl 1 Jq x.l)]
structure B1 where
 feats:(Sl Str)
 number:List (Str×Int)
 sounds:(Sl K5)
 symbols:List (Str×Int)
 values:List (Jf×Int)
 deriving Inhabited
abbrev G9 (a b:Jf):Bool:=((a.Plus==b.Plus)&&(a.Minus==b.Minus))
end Go.AM
namespace Go.AM
open Go.Proofs
abbrev Ed:Nat:=6
abbrev Id:Nat:=7
abbrev OO:Nat:=8
abbrev MB:Nat:=9
abbrev Jr:Nat:=10
abbrev KW:Nat:=11
abbrev MC:Nat:=12
abbrev MD:Nat:=13
abbrev ME:Nat:=14
abbrev RG:Nat:=16
abbrev RH:Nat:=17
abbrev KX:Nat:=18
abbrev MF:Nat:=19
abbrev Ie:Nat:=20
abbrev Ht:Nat:=21
abbrev OQ:Nat:=22
abbrev KY:Nat:=23
abbrev RI:Nat:=24
abbrev KZ:Nat:=25
abbrev MG:Nat:=26
abbrev La:Nat:=27
abbrev M4:Nat:=28
abbrev S3:Nat:=29
abbrev MH:Nat:=30
abbrev Ig:Nat:=31
abbrev Ih:Nat:=32
abbrev Lb:Nat:=33
abbrev OU:Nat:=34
abbrev Js:Nat:=35
abbrev Ii:Nat:=36
abbrev Jt:Nat:=37
abbrev Lc:Nat:=38
abbrev Ij:Nat:=39
abbrev Ju:Nat:=40
abbrev MI:Nat:=41
abbrev Ld:Nat:=42
abbrev BG:Nat:=43
abbrev Y4:Nat:=44
abbrev DB:Nat:=45
abbrev OX:Nat:=46
abbrev X6:Nat:=47
abbrev DL:Nat:=48
abbrev W0:Nat:=49
abbrev FG:Nat:=50
abbrev OY:Nat:=51
abbrev OZ:Nat:=52
abbrev MJ:Nat:=53
abbrev Lg:Nat:=54
abbrev Pa:Nat:=55
abbrev Jv:Nat:=56
abbrev Hu:Nat:=57
abbrev Gu:Nat:=58
abbrev MK:Nat:=59
abbrev De:Nat:=60
abbrev Lh:Nat:=61
abbrev Gv:Nat:=62
abbrev ML:Nat:=63
abbrev Jw:Nat:=64
abbrev Jx:Nat:=65
abbrev RJ:Nat:=66
abbrev Il:Nat:=67
abbrev EY:Nat:=68
abbrev Jy:Nat:=69
abbrev Hv:Nat:=70
abbrev Hw:Nat:=71
abbrev MM:Nat:=72
abbrev MN:Nat:=73
abbrev Li:Nat:=74
abbrev S4:Nat:=75
abbrev Pd:Nat:=81
abbrev Lj:Nat:=82
abbrev RK:Nat:=83
abbrev Lk:Nat:=84
abbrev Ll:Nat:=85
abbrev Pe:Nat:=86
abbrev MO:Nat:=87
abbrev N0:Nat:=88
abbrev O5:Nat:=89
abbrev Jz:Nat:=90
abbrev Hx:Nat:=91
abbrev JA:Nat:=92
abbrev Pf:Nat:=93
abbrev T9:Nat:=94
abbrev MP:Nat:=95
abbrev Cf:Nat:=96
abbrev Q0:Nat:=97
abbrev U0:Nat:=98
abbrev Fa:Nat:=99
abbrev Cg:Nat:=100
abbrev Hy:Nat:=101
abbrev FU:Nat:=102
abbrev S5:Nat:=103
abbrev BH:Nat:=104
abbrev JC:Nat:=105
abbrev MQ:Nat:=106
abbrev Io:Nat:=107
abbrev JD:Nat:=108
abbrev N4:Nat:=109
abbrev W1:Nat:=110
abbrev K6:Nat:=111
abbrev AO:Nat:=112
abbrev J3:Nat:=113
abbrev U1:Nat:=114
abbrev MR:Nat:=115
abbrev Iq:Nat:=116
abbrev RL:Nat:=127
abbrev RM:Nat:=128
abbrev FX:Nat:=129
abbrev JE:Nat:=130
abbrev R0:Nat:=131
abbrev O2:Nat:=132
abbrev Q2:Nat:=133
abbrev N8:Nat:=134
abbrev HA:Nat:=135
abbrev JF:Nat:=136
abbrev MS:Nat:=137
abbrev Bj:Nat:=138
abbrev VE:Nat:=139
abbrev Ap:Nat:=140
abbrev Ir:Nat:=141
abbrev Ci:Nat:=142
abbrev Bk:Nat:=143
abbrev DM:Nat:=144
abbrev N9:Nat:=145
abbrev HB:Nat:=146
abbrev S6:Nat:=147
abbrev O6:Nat:=148
abbrev HC:Nat:=149
abbrev JG:Nat:=150
abbrev Ln:Nat:=151
abbrev ED:Nat:=163
abbrev GW:Nat:=164
abbrev MT:Nat:=172
abbrev J1:Nat:=173
abbrev O8:Nat:=174
abbrev P8:Nat:=175
abbrev Kj:Nat:=176
abbrev Et:Nat:=177
abbrev Gw:Nat:=178
abbrev W2:Nat:=179
abbrev Bl:Nat:=180
abbrev DN:Nat:=181
abbrev X7:Nat:=182
abbrev CP:Nat:=183
abbrev Q3:Nat:=184
abbrev O9:Nat:=185
abbrev Q4:Nat:=186
abbrev Y8:Nat:=187
abbrev Pl:Nat:=188
abbrev S7:Nat:=190
abbrev Pm:Nat:=196
abbrev Pn:Nat:=199
abbrev VG:Nat:=200
abbrev Kl:Nat:=202
abbrev RN:Nat:=203
abbrev P4:Nat:=204
abbrev VH:Nat:=205
abbrev VJ:Nat:=206
abbrev Lo:Nat:=207
abbrev Iw:Nat:=208
abbrev MU:Nat:=209
abbrev Gx:Nat:=210
abbrev J8:Nat:=211
abbrev JH:Nat:=212
abbrev MV:Nat:=213
abbrev BK:Nat:=214
abbrev Lp:Nat:=215
abbrev Po:Nat:=216
abbrev Pp:Nat:=217
abbrev Pq:Nat:=218
abbrev Lq:Nat:=219
abbrev Lr:Nat:=220
abbrev JI:Nat:=221
abbrev Ix:Nat:=222
abbrev DC:Nat:=223
abbrev Ek:Nat:=224
abbrev DO:Nat:=243
abbrev Fe:Nat:=244
abbrev FY:Nat:=245
abbrev GY:Nat:=246
abbrev FI:Nat:=247
abbrev GZ:Nat:=248
abbrev Iz:Nat:=249
abbrev Bo:Nat:=250
abbrev Ha:Nat:=251
abbrev E4:Nat:=3
abbrev AK0:Nat:=4
abbrev H9:Nat:=5
abbrev F4:Nat:=9
abbrev DP:Nat:=23
abbrev XM:Nat:=26
abbrev Ad7:Nat:=29
abbrev FJ:Nat:=55
abbrev Ck:Nat:=57
abbrev Gy:Nat:=59
abbrev U7:Nat:=64
abbrev R9:Nat:=66
abbrev At:Nat:=68
abbrev O3:Nat:=83
abbrev Bp:Nat:=99
abbrev B6:Nat:=117
abbrev Gz:Nat:=134
abbrev H5:Nat:=137
abbrev D2:Nat:=145
abbrev Ao1:Nat:=186
abbrev D8:Nat:=197
abbrev Ad8:Nat:=253
abbrev XN:Nat:=330
end Go.AM
namespace Go.AM
open IntKind (wrap)
abbrev U (x:BitVec 64):Int:=(x.toNat:Int)
def Pv {n:Nat}(h:n<2 ^ 64):IntKind.u64.wrap (n:Int)=n:=by have h1:((n:Int) % (2 ^ 64:Int))=n:=Bo9 (by omega) (by omega);unfold wrap;simp only[IntKind.bits,IntKind.signed,h1,Br5,Bi5,Ev]
def Ao2 (x:BitVec 64):BitVec.ofInt 64 (U x)=x:=by
 apply Bp0;rw[BA5]
 have:=x.isLt
 show ((x.toNat:Int) % ((2 ^ 64:Nat):Int)).toNat=x.toNat;omega
def or64 (x y:BitVec 64):P2 .or .u64 (U x) (U y)=U (x ||| y):=by simp only[P2,IntKind.bits,Ao2];exact Pv (x ||| y).isLt
def AC7 (x y:BitVec 64):P2 .andNot .u64 (U x) (U y)=U (x &&& ~~~ y):=by simp only[P2,IntKind.bits,Ao2];exact Pv (x &&& ~~~ y).isLt
def AC8 (n:Nat)(h:n<64):shI .shl .u64 1 n=U (1#64 <<< n):=by
 simp only[shI,IntKind.bits,Int.toNat_natCast];rw[Br7 (by omega)];show wrap .u64 (1*2 ^ n)=((1#64 <<< n).toNat:Int);rw[BitVec.toNat_shiftLeft,Nat.shiftLeft_eq];have h1:(2:Nat) ^ n<2 ^ 64:=Nat.pow_lt_pow_right (by omega) h;have e:((1:Int)*2 ^ n)=((2 ^ n:Nat):Int):=by norm_cast;omega
 rw[e,Pv h1]
 norm_cast
 rw[Bq4]
 .simp
 simpa using h1
def AS0 {i:Nat}:(1#64).getLsbD i=decide (i=0):=by rw[BitVec.getLsbD_one];simp
def Ao3 {n i:Nat}(h:n<64)(a:i<64):(1#64 <<< n).getLsbD i=decide (i=n):=by rw[BitVec.getLsbD_shiftLeft,AS0,Bt7];simp only[Bi1,Bk1,decide_eq_true_eq,decide_eq_false_iff_not];omega
end Go.AM
namespace Go.AM
open Go.Proofs.Tryz
variable {N:Nat}
open Go.Proofs
abbrev AC9:List AV:=[.reg 0 0,.reg 1 0,.reg 2 0,.reg 3 0]
abbrev XO (c:Int)(a:Sl Law)(b:Sl Jf)(y:PV):List Obj:=[.cells [pN c],.cells [.p (vSl 18 B4 a)],.cells [.p (vSl 2 A0 b)],.cells [.p y]]
structure Km (S:U6):Prop where
 attR:∀{a:Sl Law}{b y:Sl Jf},Mb S K6 [.p (vSl 18 B4 a),.p (vSl 2 A0 b)] [] (.p (vSl 2 A0 y)) [] []->Mb S N4 AC9 (XO 0 a b C8) (.tup []) (XO 0 a b (vSl 2 A0 y)) [true,true,true,true]
 attP:∀{a:Sl Law}{b:Sl Jf}{c:Int},(S.F K6 [.p (vSl 18 B4 a),.p (vSl 2 A0 b)] [] λres o k=>res=.panic (.iface 261 (pI .i64 c))/\o=[]/\k=[])->Mb S N4 AC9 (XO 0 a b C8) (.tup []) (XO c a b C8) [true,true,true,true]
 tz:∀x:BitVec 64,Uq S S7 [.p (pI .u64 (U x))] (.p (pI .i64 (Lib.ctz 64 x.toNat:Nat)))
 trim:∀s c:Str,s.length<1000000000000->c.length<1000000->(∀b∈c,b.toNat<128)->Uq S FX [.p (.str s),.p (.str c)] (.p (.str (Lib.trimS s c)))
 growS:∀(f:Nat->List PV) (n:Nat),n*8<=140737488355328->Mb S J8 [.p C8,.p (pI .i64 (n:Int))] [] (.vec 0) [.vec B6 2 0 f false] []
 join:∀(nn:Bool) (n:Nat) (g:Nat->List UInt8) (sep:List UInt8),n<=140737488355328->(Lib.join ((List.range n).map g) sep).length<=140737488355328 ->
  Uq S DB [.p (.sl nn 1 n λi=>[.str (g i)]),.p (.str sep)] (.p (.str (Lib.join ((List.range n).map g) sep)))
 indexByte:∀(s:List UInt8) (c:UInt8),Uq S X7 [.p (.str s),.p (.v (.int .u8 c.toNat))] (.p (.v (.int .i64 (Lib.indexByte s c))))
 fmtInt:∀n:Int,-9223372036854775808<=n->n<=9223372036854775807->Uq S X6 [.p (pI .i64 n),.p (pI .i64 10)] (.p (.str (Lib.itoa n)))
 copyCheck:∀(T:Nat) (u n:Nat) (f:Nat->List PV),T=122->Mb S S4 [.reg 0 0] [.blk [0,T,u] 1,.vec H9 1 n f false] (.tup []) [.blk [0,T,1] 1,.vec H9 1 n f false] [true,true]
 bstr:∀(T u n:Nat) (f:Nat->List PV) (s:List UInt8),T=122->s.length=n->(∀i,i<n->f i=[.v (.int .u8 (s.getD i 0).toNat)])->Mb S W0 [.reg 0 0] [.blk [0,T,u] 1,.vec H9 1 n f false] (.p (.str s)) [] []
def I5 (N:Nat)(x:Int):Option Int:=if 0<=x/\x<18446744073709551616 then some ((Lib.ctz 64 x.toNat:Nat):Int)else none
def DE (N:Nat)(s c:Str):Option Str:=if s.length<1000000000000/\c.length<1000000/\(c.all λb=>decide (b.toNat<128)) then some (Lib.trimS s c)else none
def J9 (N:Nat)(n:Int):Option (Sl Jf):=if 0<=n/\n*8<=140737488355328 then some (Sl.nil:Sl Jf)else none
section
variable {S:U6}(Z:G6 S Tryz.prog) (Y:Km S)
include Z Y
theorem Ff {x y:Int}(h:I5 N x=some y):Mb S S7 [.p (pI .u64 x)] [] (.p (pI .i64 y)) [] []:=by
 obtain⟨⟨a,h1⟩,h⟩:=C9 h;obtain rfl:=B0 h
 have:=Y.tz (BitVec.ofNat 64 x.toNat)
 have e:(BitVec.ofNat 64 x.toNat).toNat=x.toNat:=by rw[BA9];omega
 have e2:U (BitVec.ofNat 64 x.toNat)=x:=by show ((BitVec.ofNat 64 x.toNat).toNat:Int)=x;rw[e];omega
 rw[e,e2]at this;exact this
theorem JJ {s c:Str}{y:Str}(h:DE N s c=some y):Mb S FX [.p (.str s),.p (.str c)] [] (.p (.str y)) [] []:=by obtain⟨⟨a,h1,d⟩,h⟩:=C9 h;obtain rfl:=B0 h;exact Y.trim s c a h1 λb hb=>by simpa using Bi8.1 d b hb
theorem BL {n:Int}{y:Sl Jf}(h:J9 N n=some y):Mb S J8 [.p C8,.p (pI .i64 n)] [] (.vec 0) [.vec B6 2 y.n (λi=>A0 (y.g i)) false] []:=by
 obtain⟨⟨a,h1⟩,h⟩:=C9 h;obtain rfl:=B0 h
 have:=Y.growS (λi=>A0 default) n.toNat (by omega)
 rw[show ((n.toNat:Nat):Int)=n by omega]at this;exact this
def A6 (N:Nat)(s:Sl Jf):Option (Sl Jf):=if (0+s.n)*8<=140737488355328/\0+s.n<=140737488355328 then some s else none
theorem Q5 {s y:Sl Jf}(h:A6 N s=some y):Mb S J3 [.p (vSl 2 A0 s)] [] (.vec 0) [.vec B6 2 y.n (λi=>A0 (y.g i)) true] []:=by
 unfold A6 at h;obtain⟨c1,h⟩:=C9 h;obtain rfl:=B0 h;refine A2 Z func113 ?_;refine Vf Z Fc 3 (k:=2) (n:=s.n) (f:=λi=>A0 (s.g i)) (λa=>?_) ?_
 .obtain⟨n,g⟩:=s;obtain rfl:n=0:=a;exact kO Z Fc [3700]
 exact kO Z (Ki Iu c1) [8000]
  (hle:=kl1 0 (AJ9 A0 s [pI .u32 0,pI .u32 0]))
def H6 (N:Nat)(s:Sl Ei):Option (Sl Ei):=if (0+s.n)*32<=140737488355328/\0+s.n<=140737488355328 then some s else none
theorem AR {s y:Sl Jf}(h:A6 N s=some y):Mb S J3 [.p (vSl 2 A0 s)] [] (.p (vSl 2 A0 y)) [] []:=by
 unfold A6 at h;obtain⟨c1,h⟩:=C9 h;obtain rfl:=B0 h;refine A2 Z func113 ?_;refine Vf Z Fc 3 (k:=2) (n:=s.n) (f:=λi=>A0 (s.g i)) (λa=>?_) ?_
 .obtain⟨n,g⟩:=s;obtain rfl:n=0:=a;exact kO Z Fc []
 exact kO Z (Ki Iu c1) []
  (hle:=kl1 0 (AJ9 A0 s [pI .u32 0,pI .u32 0]))
theorem CF {s y:Sl Ei}(h:H6 N s=some y):Mb S U1 [.p (vSl 6 Ao s)] [] (.p (vSl 6 Ao y)) [] []:=by
 unfold H6 at h;obtain⟨c1,h⟩:=C9 h;obtain rfl:=B0 h;refine A2 Z func114 ?_;refine Vf Z Fc 3 (k:=6) (n:=s.n) (f:=λi=>Ao (s.g i)) (λa=>?_) ?_
 .obtain⟨n,g⟩:=s;obtain rfl:n=0:=a;exact kO Z Fc []
 exact kO Z (Ki Iu c1) []
  (hle:=kl1 0 (AJ9 Ao s [pI .i64 0,pI .u32 0,pI .u32 0,pI .u32 0,pI .u32 0,pI .i64 0]))
end
end Go.AM
set_option maxRecDepth 100000
namespace Go.AM
open Go.Proofs.Tryz
open Go.Proofs
def Ad9 (v:Value)(w:World):(Instr.typeAssert (.iface 261 v) 20 261 true).run Tryz.prog w=.ok (.tuple #[v,.bool true]) w:=by kernel_rfl
def XP (p:Value)(w:World):CallsDIn Fence.wide 0 Tryz.prog W1 #[p] .returning w λe u' w'=>e=.returned (.tuple #[])/\u' = .returning/\w' = w:=by
 refine callsDIn_of_wpSIn func110 rfl (by simp[Fence.wide]) λc₀ cs a=>?_;apply wpSIn_seq;apply wpSIn_region;simp[wpOpsSIn,go_sem,recoverD,a,f110,Exit.thenS];refine wpSIn_of_wpIn rfl (wpIn_block (wpIn_seq (wpIn_region ?_)));simp[wpOpsIn,Oper.wpIn,Oper.semAt,Oper.uponIn,go_sem,Exit.then];refine wpIn_cond (t:=true) (by simp[Act.eval]) ?_;simp only[Eu];refine wpIn_region ?_;simp[wpOpsIn,Oper.wpIn,Oper.semAt,Oper.uponIn,go_sem,Exit.inBlock,bodyPostS,results];cases c₀
 simp_all
def Ns (p:Value)(c:Int)(older:List PanicEntry)(w w1:World)(a:(Instr.storeAt 49 p (.int .i64 c)).run Tryz.prog w=.ok () w1)(hn:∃b,p=.pointer (some b)) :CallsDIn Fence.wide 0 Tryz.prog W1 #[p] (.panicking ({ v:=.iface 261 (.int .i64 c),recovered:=false }::older)) w λe u' w'=>
  e=.returned (.tuple #[])/\u' = .panicking ({ v:=.iface 261 (.int .i64 c),recovered:=true }::older)/\w' = w1:=by
 obtain⟨b,rfl⟩:=hn;refine callsDIn_of_wpSIn func110 rfl (by simp[Fence.wide]) λc₀ cs d=>?_;apply wpSIn_seq;apply wpSIn_region;simp[wpOpsSIn,go_sem,recoverD,d,f110,Exit.thenS];refine wpSIn_of_wpIn rfl (wpIn_block (wpIn_seq (wpIn_region ?_)));simp[wpOpsIn,Oper.wpIn,Oper.semAt,Oper.uponIn,go_sem,Exit.then];refine wpIn_cond (t:=false) (by simp[Act.eval]) ?_;simp only[Bi5,Ev];refine wpIn_seq (wpIn_region ?_);simp[wpOpsIn,Oper.wpIn,Oper.semAt,Oper.uponIn,go_sem,Exit.then,Ad9];refine wpIn_cond (t:=true) (by simp[Act.eval]) ?_;simp only[Eu];refine wpIn_seq (wpIn_region ?_);simp[wpOpsIn,Oper.wpIn,Oper.semAt,Oper.uponIn,go_sem,Exit.then];refine wpIn_region ?_;simp[wpOpsIn,Oper.wpIn,Oper.semAt,Oper.uponIn,go_sem,a,Exit.inBlock,bodyPostS,results];simp[go_sem]at a;rw[a];simp[Result.andThen]
noncomputable def AW2:Code:=match Tryz.f109.body with
 |some (.seq _ c)=>c
 |_=>.skip
def AS1 {S:U6}(Z:G6 S Tryz.prog){a:Sl Law}{b y:Sl Jf}(c:Mb S K6 [.p (vSl 18 B4 a),.p (vSl 2 A0 b)] [] (.p (vSl 2 A0 y)) [] []) :KG S Tryz.prog (RE S (λst=>M9 [0,1,2,3] st.Ls [0,1,2,3]=some (XO 0 a b (vSl 2 A0 y))) λ_ _=>False) (.code AW2 [] ⟨Pg AC9,Ma (XO 0 a b C8)⟩):=by refine B3 Z [] Fc c ?_;exact K_upN Z Fc ⟨[],[(3,.cells [.p (vSl 2 A0 y)]),(2,.cells [.p (vSl 2 A0 b)]),(1,.cells [.p (vSl 18 B4 a)]),(0,.cells [pN 0])]⟩ (ids:=(Kg [0,1,2,3])) rfl
def Ao4 {S:U6}(Z:G6 S Tryz.prog){a:Sl Law}{b:Sl Jf}{c:Int}(d:S.F K6 [.p (vSl 18 B4 a),.p (vSl 2 A0 b)] [] λres o k=>res=.panic (.iface 261 (pI .i64 c))/\o=[]/\k=[]) :KG S Tryz.prog (RE S (λ_=>False) λx st=>x=.iface 261 (pI .i64 c)/\store Tryz.prog st.Ls 49 (.reg 0 0) (.p (pI .i64 c))=some ([],ins 0 (.cells [pN c]) st.Ls)/\M9 [0,1,2,3] (ins 0 (.cells [pN c]) st.Ls) [0,1,2,3]=some (XO c a b C8)) (.code AW2 [] ⟨Pg AC9,Ma (XO 0 a b C8)⟩):=by refine AR3 Z [] Fc d ?_;exact K_upP Z Fc ⟨rfl,by kernel_rfl,by kernel_rfl⟩
noncomputable def att1:Code:=match Tryz.f109.body with
 |some (.seq c _)=>c
 |_=>.skip
noncomputable def attOps:Array Oper:=match AW2 with
 |.region _ ops _=>ops
 |_=>#[]
def Zn:AW2=.region 1 attOps false:=by kernel_rfl
def Bd1:attOps.toList.all (Jh 7 attOps.toList)=true:=by kernel_rfl
def AD0:¬Tryz.f109.name = "runtime.NumGoroutine" := by decide +kernel
def Zo:Tryz.f109.body=some (.seq att1 AW2):=by kernel_rfl
def AS2 {C:Ctx}{vs:Array Value}{w:World}{rho:Nat->Value}{args:List AV}{objs:List Obj}{n:Nat}(Z:Sat C ⟨Pg args,Ma objs⟩ ⟨vs,[]⟩ w rho)(a:vs.size=args.length) :Sat C ⟨Pg args,Ma objs⟩ { tmps:=vs++Array.replicate n undef,defers:=[] } w rho:=by
 refine⟨Z.toSatE,λt=>?_,Z.pin,Z.marks⟩
 have:=Z.env t
 by_cases ht:t<vs.size
 .simpa[Bh7,Bp9,ht]using this
 show Pb w _ _ _ _ (get (Pg args) t);rw[AK,Bh8,Bm3 (by omega)];exact .top _
def Pw {R:St->Prop}{X:PV->St->Prop}{a:Sl Law}{b:Sl Jf}{objs' : List Obj}
 (a1:KG (Ge Tryz.prog) Tryz.prog (RE (Ge Tryz.prog) R X) (.code AW2 [] ⟨Pg AC9,Ma (XO 0 a b C8)⟩))
 (hR:∀st,R st->M9 [0,1,2,3] st.Ls [0,1,2,3]=some objs')
 (hX:∀x st,X x st->∃c regs',x=.iface 261 (pI .i64 c)/\store Tryz.prog st.Ls 49 (.reg 0 0) (.p (pI .i64 c))=some ([],regs')/\M9 [0,1,2,3] regs' [0,1,2,3]=some objs') :
 Mb (Ge Tryz.prog) N4 AC9 (XO 0 a b C8) (.tup []) objs' [true,true,true,true]:=by
 intro 𝒢 C w vs rho hG Z t;obtain⟨l⟩:=vs
 match l,t with
 |[v0,v1,v2,v3],t=>?_
 refine⟨.enter N4 #[v0,v1,v2,v3],w,by simp[callFunc,func109,Zo,AD0],?_⟩;refine callsIn_of_wp_marks func109 Zo Fc ?_;have a2:=AS2 (n:=Tryz.f109.ntmps-4) Z t;have a9:Tryz.f109.ntmps-4=3:=rfl;rw[a9]at a2;have b1:((#[v0,v1,v2,v3]:Array Value)++Array.replicate 3 undef).size=7:=rfl;have hw:Jc (Ge Tryz.prog) Tryz.prog attOps.toList attOps.toList (RE (Ge Tryz.prog) R X) ⟨Pg AC9,Ma (XO 0 a b C8)⟩:=by
  have:=a1.out
  rw[Zn]at this;simpa only[G,awp,kp,Bi5,Ev]using this
 have a4:=Ol (𝒢:=𝒢.fix C.rho0) (n:=7) (ro:=none) (ops:=attOps) Bd1 attOps.toList 0 rfl (by simp) ⟨hG,rfl⟩ a2 b1 hw;have a5:=KV [{ target:=.fn (.func W1) #[],args:=#[v0] }] _ _ _ a4;rw[Bw5]at a5;obtain⟨b0,a6,u⟩:∃b0,v0=.pointer (some ⟨b0,0,none⟩)/\rho 0=.pointer (some ⟨b0,0,none⟩):=by
  have h0:Pb w _ _ rho v0 (.reg 0 0):=Z.env 0;cases h0 with
  |reg _ _ b0 _ h=>exact⟨b0,rfl,h⟩
 have s:∀{C' : Ctx}{st' : St}{a' : Act}{w' : World}{rho' : Nat->Value},(𝒢.fix C.rho0).G C' -> Sat C' st' a' w' rho' -> M9 [0,1,2,3] st'.Ls [0,1,2,3]=some objs' ->
  LeavesInM Fence.wide 0 Tryz.prog f109 a'.tmps (λe w'=>∃C' r objs0 ks rho', 𝒢.G C' /\ (r=.ret (.tup [])/\objs0=objs' /\ ks=[true,true,true,true])/\SatE C' (Ma objs0) w' rho' /\
   Au2 w' (Prv C'.X (A1 (Ma objs0)) rho') (Lv (A1 (Ma objs0))) rho' e r/\∀i:Nat,ks[i]? = some true->i<objs0.length/\rho' i=rho i) [] .returning w':=by
  intro C' st' a' w' rho' d f m;obtain⟨g1,g2,g3⟩:=Om f (by decide) m;obtain⟨hl,hg⟩:=AL m;refine⟨.tuple #[],by simp[results,f109],C', .ret (.tup []),objs',_,_,d.1,⟨rfl,rfl,rfl⟩,g1,⟨_,rfl,.tup _ _ rfl λi hi=>Es hi (by simp)⟩,?_⟩;intro i hi;have y:i<4:=by
   have:=(Bj1.1 hi).1
   simpa using this
  refine⟨by rw[hl];exact y,?_⟩;have e1:[0,1,2,3][i]? = some i:=by
   match i,y with
   |0,_=>rfl
   |1,_=>rfl
   |2,_=>rfl
   |3,_=>rfl
  obtain⟨o,_,ho,_⟩:=hg i i e1;show rho' ([0,1,2,3].getD i 0)=rho i;rw[Eg e1,f.pin i (by omega) (by simp[Lv,ho]),d.2];refine (Z.pin i (by omega) ?_).symm;rw[Lv,E9]
  match i,y with
  |0,_=>rfl
  |1,_=>rfl
  |2,_=>rfl
  |3,_=>rfl
 generalize hQ:bodyPostM _ _ _ _ _=QQ;refine wpIn_seq ?_;simp only[att1,f109];refine wpIn_region ?_;simp[wpOpsIn,Oper.wpIn,Oper.semAt,Oper.uponIn,go_sem,Exit.then];subst hQ;rw[Zn];refine wpIn_mono (wpIn_region (F:=FW none) a5) ?_;rintro e a' w' ⟨a0,rfl,z⟩;cases e with
 |exit id=>obtain⟨_,_,_,_,_,_,h⟩:=z;exact h.elim
 |goto l=>obtain⟨_,_,_,_,_,_,h⟩:=z;exact h.elim
 |ret=>obtain⟨_,_,_,_,_,_,h⟩:=z;exact h.elim
 |outgrown=>exact z.elim
 |normal=>
  obtain⟨C',st',rho',d,f,a7,hu⟩:=z;obtain⟨st2,rho2,hR2,_,hs2⟩:=hu C' a0 w' rho' f;refine GV (C:=C') (st:=st2) (rho:=rho2) (by simp) ?_ a0.defers a0 w' rfl rfl hs2;intro a3 w3 q ht;refine⟨by simp,.inr ⟨by simp[Fence.wide],_,_,W1,#[v0],rfl,by simp[go_sem],λ_ _=>trivial,?_⟩⟩;refine (XP v0 w3).mono ?_;rintro e u' w4 ⟨rfl,rfl,rfl⟩
  have:=s d q (hR st2 hR2)
  rw[ht]at this;exact this
 |panic chain=>
  obtain⟨C',st',rho',v,x,rfl,d,f,a7,hv,hXx⟩:=z;obtain⟨c,regs',rfl,g,m⟩:=hX x st' hXx;obtain rfl:v=.iface 261 (.int .i64 c):=by
   cases hv with
   |iface _ _ _ h=>cases h;rfl
  refine GV (C:=C') (st:=st') (rho:=rho') (by simp) ?_ a0.defers a0 w' rfl rfl f;intro a3 w3 q ht;have j:Lv (A1 st'.Ls) 0:=by
   cases hj:A1 st'.Ls 0 with
   |some o=>simp[Lv,hj]
   |none=>
    unfold store at g;split at g
    .simp[hj]at g
    cases g
  have hr0:rho' 0=.pointer (some ⟨b0,0,none⟩):=by rw[q.pin 0 (by omega) j,d.2,<- u];exact (Z.pin 0 (by omega) rfl).symm
  have hva:RS C' st' w3 rho' v0 (.reg 0 0):=by rw[a6];exact .reg 0 0 b0 j hr0
  obtain⟨w4,a8,hs4,_⟩:=NV q (vx:=.int .i64 c) hva (.p _ _ (.v _)) g Fc;refine⟨by simp,.inr ⟨by simp[Fence.wide],_,_,W1,#[v0],rfl,by simp[go_sem],λ_ _=>trivial,?_⟩⟩;refine (Ns v0 c [] w3 w4 a8 ⟨_,a6⟩).mono ?_;rintro e u' w5 ⟨rfl,rfl,rfl⟩
  have:=s d hs4 m
  rw[ht]at this;exact this
def XQ {a:Sl Law}{b y:Sl Jf}(c:Mb (Ge Tryz.prog) K6 [.p (vSl 18 B4 a),.p (vSl 2 A0 b)] [] (.p (vSl 2 A0 y)) [] []) :Mb (Ge Tryz.prog) N4 AC9 (XO 0 a b C8) (.tup []) (XO 0 a b (vSl 2 A0 y)) [true,true,true,true]:=
 Pw (AS1 (good Tryz.prog) c) (λst h=>h) (λx st h=>h.elim)
def Tu {a:Sl Law}{b:Sl Jf}{c:Int}(d:(Ge Tryz.prog).F K6 [.p (vSl 18 B4 a),.p (vSl 2 A0 b)] [] λres o k=>res=.panic (.iface 261 (pI .i64 c))/\o=[]/\k=[]) :Mb (Ge Tryz.prog) N4 AC9 (XO 0 a b C8) (.tup []) (XO c a b C8) [true,true,true,true]:=
 Pw (Ao4 (good Tryz.prog) d) (λst h=>h.elim) (λx st h=>⟨c,_,h.1,h.2.1,h.2.2⟩)
end Go.AM
namespace Go.AM
open Go.Proofs.Tryz
variable {N:Nat}
open IntKind (wrap)
open Go.Proofs
set_option maxRecDepth 10000
set_option maxHeartbeats 2000000
variable {S:U6}(Z:G6 S Tryz.prog) (Y:Km S)
include Z Y
def H7 (N:Nat)(a:Jf):Option Bool:= some (((P2 .and .u32 a.Plus a.Minus)==0)&&(decide ((P2 .or .u32 a.Plus a.Minus)<=16777215)))
theorem Q8 {b:Jf}{y:Bool}(h:H7 N b=some y) :Mb S Ll [.p (.agg (A0 b))] [] (pB y) ([]) []:=by unfold H7 at h;refine A2 Z func85 ?_;refine kB Z (A4 Z) Fc Fc 7 (.n (.a ((P2 .and .u32 b.Plus b.Minus)==0)) (.a (decide ((P2 .or .u32 b.Plus b.Minus)<=16777215)))) ?_;cases h;exact kR Z
def S0 (N:Nat)(b:Jf)(a:Jf):Option Bool:= (H7 N b).bind λy1=>lt (λ(z1:Bool)=>some z1) λk1=>if y1 then (H7 N a).bind λy3=>if y3 then if ((P2 .andNot .u32 a.Plus b.Plus)==0) then k1 ((P2 .andNot .u32 a.Minus b.Minus)==0) else k1 false else k1 false else k1 false
theorem Me {c:Jf}{a:Jf}{y:Bool}(h:S0 N c a=some y) :Mb S Gx [.p (.agg (A0 c)),.p (.agg (A0 a))] [] (pB y) ([]) []:=by
 unfold S0 at h;refine A2 Z func210 ?_;refine kC Z h (Q8 Z Y) (λy1 h=>?_);refine Mz Z Fc (A4 Z) h 0 (λz1=>⟨[(4,pB z1)],[]⟩) (λM1 k1 b h=>?_) (λz1 h=>?_)
 .refine kG Z h (λh=>?_) (λh=>?_)
  .refine kC Z h (Q8 Z Y) (λy3 h=>?_);refine kG Z h (λh=>?_) (λh=>?_)
   .refine kG Z h (λh=>?_) (λh=>?_)
    .exact b _ [] _ ((P2 .andNot .u32 a.Minus c.Minus)==0) Fc h
    exact b _ [] _ false Fc h
   exact b _ [] _ false Fc h
  exact b _ [] _ false Fc h
 cases h;exact kR Z
def Fg (N:Nat)(a:Jf):Option Int:= some (P2 .or .u32 a.Plus a.Minus)
theorem Px {a:Jf}{y:Int}(h:Fg N a=some y) :Mb S Pp [.p (.agg (A0 a))] [] (pU y) ([]) []:=by unfold Fg at h;refine A2 Z func217 ?_;cases h;exact kR Z
def Dp (N:Nat)(c:Jf)(b:Jf)(a:Int):Option Jf:= some (⟨P2 .or .u32 (P2 .andNot .u32 c.Plus a) (P2 .and .u32 b.Plus a),P2 .or .u32 (P2 .andNot .u32 c.Minus a) (P2 .and .u32 b.Minus a)⟩:Jf)
theorem Py {c:Jf}{a:Jf}{b:Int}{y:Jf}(h:Dp N c a b=some y) :Mb S Pq [.p (.agg (A0 c)),.p (.agg (A0 a)),pU b] [] (.p (.agg (A0 y))) ([]) []:=by unfold Dp at h;refine A2 Z func218 ?_;cases h;exact kR Z
def Z6 (N:Nat)(c:Jf)(a:Int)(b:Jf):Option (Jf×Int):= (H7 N c).bind λy1=>lt (λ(z1:Bool)=>if z1 then some ((⟨0,0⟩:Jf),14) else lt (λ(z2:Bool)=>if z2 then some ((⟨0,0⟩:Jf),2) else (Fg N b).bind λy6=>(Dp N c b (P2 .or .u32 a y6)).bind λy7=>some (y7,0)) λk2=>if (decide (16777215<a)) then k2 true else (Fg N b).bind λy5=>k2 ((P2 .and .u32 a y5) != 0)) λk1=>if (!y1) then k1 true else (H7 N b).bind λy3=>k1 (!y3)
theorem QF {c:Jf}{a:Int}{b:Jf}{y:Jf×Int}(h:Z6 N c a b=some y) :Mb S JH [.p (.agg (A0 c)),pU a,.p (.agg (A0 b))] [] (.tup [.p (.agg (A0 y.1)),pN y.2]) ([]) []:=by
 unfold Z6 at h;refine A2 Z func212 ?_;refine F6 Z Fc 5 4000 [pI .u32 c.Plus,pI .u32 c.Minus] ?_;refine F6 Z Fc 6 6000 [pI .u32 b.Plus,pI .u32 b.Minus] ?_;obtain⟨y1,e1,h⟩:=A8 h;refine B3 Z [] Hm (Q8 Z Y e1) ?_;refine Mz Z Fc (A4 Z) h 0 (λz1=>⟨[(15,pB z1),(6,.reg 7000 0),(5,.p (.ptr [pI .u32 b.Plus,pI .u32 b.Minus])),(3,.p (.ptr [pI .u32 c.Plus,pI .u32 c.Minus])),(1,pU a)],[(7000,.cells [pU 0,pU 0])]⟩) (λM1 k1 d h=>?_) (λz1 h=>?_)
 .refine kG Z h (λh=>?_) (λh=>?_)
  .exact d _ [(7000,7000)] _ true Fc h
  obtain⟨y3,e3,h⟩:=A8 h;refine B3 Z [] Hm (Q8 Z Y e3) ?_;exact d _ [(7000,7000)] _ (!y3) Fc h
 apply kI Z h<;>intro h
 .cases h;exact kR Z
 refine Mz Z Fc (A4 Z) h 0 (λz2=>⟨[(25,pB z2),(6,.reg 7000 0),(5,.p (.ptr [pI .u32 b.Plus,pI .u32 b.Minus])),(3,.p (.ptr [pI .u32 c.Plus,pI .u32 c.Minus])),(1,pU a)],[(7000,.cells [pU 0,pU 0])]⟩) (λM2 k2 f h=>?_) (λz2 h=>?_)
 .refine kG Z h (λh=>?_) (λh=>?_)
  .exact f _ [(7000,7000)] _ true Fc h
  obtain⟨y5,e5,h⟩:=A8 h;refine B3 Z [] Hm (Px Z Y e5) ?_;exact f _ [(7000,7000)] _ ((P2 .and .u32 a y5) != 0) Fc h
 apply kI Z h<;>intro h
 .cases h;exact kR Z
 refine E3 Z Fc [0,1,3,4,6] ?_;obtain⟨y6,e6,h⟩:=A8 h;refine G3 (Ki (Ki Hm Hm) Hm) (Px Z Y e6) ?_;obtain⟨y7,e7,h⟩:=A8 h;refine G3 Fc (Py Z Y e7) ?_;refine C7 Fc ?_;cases h;exact kR Z
def Cx (N:Nat)(c:Jf)(a:Jf)(b:Int):Option (Jf×Int):= (H7 N c).bind λy1=>lt (λ(z1:Bool)=>if z1 then some ((⟨0,0⟩:Jf),14) else if (decide (16777215<b)) then some ((⟨0,0⟩:Jf),2) else (Dp N c a b).bind λy4=>some (y4,0)) λk1=>if (!y1) then k1 true else (H7 N a).bind λy3=>k1 (!y3)
theorem VN {c:Jf}{a:Jf}{b:Int}{y:Jf×Int}(h:Cx N c a b=some y) :Mb S MV [.p (.agg (A0 c)),.p (.agg (A0 a)),pU b] [] (.tup [.p (.agg (A0 y.1)),pN y.2]) ([]) []:=by
 unfold Cx at h;refine A2 Z func213 ?_;refine kC Z h (Q8 Z Y) (λy1 h=>?_);refine Mz Z Fc (A4 Z) h 0 (λz1=>⟨[(15,pB z1),(6,.reg 7000 0),(4,.reg 5000 0),(3,.reg 4000 0),(2,pU b)],[(7000,.cells [pU 0,pU 0]),(5000,.cells [pU a.Plus,pU a.Minus]),(4000,.cells [pU c.Plus,pU c.Minus])]⟩) (λM1 k1 d h=>?_) (λz1 h=>?_)
 .refine kG Z h (λh=>?_) (λh=>?_)
  .exact d _ (Kg [4000,5000,7000]) _ true Fc h
  refine kC Z h (Q8 Z Y) (λy3 h=>?_);exact d _ (Kg [4000,5000,7000]) _ (!y3) Fc h
 apply kI Z h<;>intro h
 .cases h;exact kR Z
 apply kI Z h<;>intro h
 .cases h;exact kR Z
 refine kC Z h (Py Z Y) (λy4 h=>?_);cases h;exact kR Z
def Cy (N:Nat)(a:Jf):Option Bool:= some (((P2 .and .u32 a.Plus a.Minus)==0)&&((shI .shr .u32 (P2 .or .u32 a.Plus a.Minus) 24)==0))
theorem VO {a:Jf}{y:Bool}(h:Cy N a=some y) :Mb S MM [.p (.agg (A0 a))] [] (pB y) ([]) []:=by
 unfold Cy at h;refine A2 Z func72 ?_;obtain⟨t1,c⟩:∃x:Bool,x=(((P2 .and .u32 a.Plus a.Minus)==0)&&((shI .shr .u32 (P2 .or .u32 a.Plus a.Minus) 24)==0)):=⟨_,rfl⟩;refine Xn Z Fc (A4 Z) 0 ⟨[(2,pB t1)],[]⟩ (λM1 d=>?_) ?_
 .refine GR Z Fc (b:=(P2 .and .u32 a.Plus a.Minus)==0) (λc2=>?_) (λc2=>?_)
  .exact d _ [] _ (by decide:(0:Int)<=24) (hle:=klR [(0,.eq (.bb ((shI .shr .u32 (P2 .or .u32 a.Plus a.Minus) 24)==0)) (.bb t1))] (al1 (by simp only[c,c2,Nj.ok,pm,Eu,Ev]) al0))
  exact d _ [] _ Fc (hle:=klR [(0,.eq (.bb false) (.bb t1))] (al1 (by simp only[c,c2,Nj.ok,pm,Eu,Ev]) al0))
 subst c;cases h;exact kR Z
def W9 (N:Nat)(a:Sl Jf):Option Int:= if (decide (32<(a.n:Int))) then some 11 else W8 N (λb (x1:Int)=>if (decide (x1<(a.n:Int))) then if ((0:Int)<=x1/\x1<(a.n:Int))then (Cy N (a.g x1.toNat)).bind λy3=>if (!y3) then some 14 else b (wrap .i64 (x1+1)) else none else some 0) 0
theorem DQ {a:Sl Jf}{y:Int}(h:W9 N a=some y) :Mb S MI [.p (vSl 2 A0 a)] [] (pN y) ([]) []:=by
 unfold W9 at h;refine A2 Z func41 ?_;apply kI Z h<;>intro h
 .cases h;exact kR Z
 refine P9 Z Fc h (λx1=>⟨[(10,pN x1),(9,pN (a.n:Int)),(8,.p (vSl 2 A0 a))],[]⟩) (ids:=[]) (λ_ _ _ _ _ b x1 c h=>?_);apply kI Z h<;>intro h
 .obtain⟨c9,h⟩:=C9 h;obtain⟨y3,e3,h⟩:=A8 h;refine B3 Z [] (Ki c9 Hm) (VO Z Y e3) ?_;apply kI Z h<;>intro h
  .cases h;exact kR Z
  exact c _ [] _ (wrap .i64 (x1+1)) Fc h
 cases h;exact kR Z
def E5 (N:Nat)(a:Sl Jf)(b:Sl Jf):Option Bool:= if ((a.n:Int) != (b.n:Int)) then some false else W8 N (λc (x1:Int)=>if (decide (x1<(a.n:Int))) then if (((0:Int)<=x1/\x1<(a.n:Int))/\((0:Int)<=x1/\x1<(b.n:Int)))then if ((((a.g x1.toNat).Plus==(b.g x1.toNat).Plus)&&((a.g x1.toNat).Minus==(b.g x1.toNat).Minus)) != true) then some false else c (wrap .i64 (x1+1)) else none else some true) 0
theorem Bq {a:Sl Jf}{b:Sl Jf}{y:Bool}(h:E5 N a b=some y) :Mb S Q0 [.p (vSl 2 A0 a),.p (vSl 2 A0 b)] [] (pB y) ([]) []:=by
 unfold E5 at h;refine A2 Z func97 ?_;apply kI Z h<;>intro h
 .cases h;exact kR Z
 refine P9 Z Fc h (λx1=>⟨[(13,pN x1),(12,pN (a.n:Int)),(1,.p (vSl 2 A0 b)),(0,.p (vSl 2 A0 a))],[]⟩) (ids:=[]) (λ_ _ _ _ _ c x1 d h=>?_);apply kI Z h<;>intro h
 .refine E3 Z Fc [2,3,6,7] ?_;obtain⟨c9,h⟩:=C9 h;refine C7 (Ki (Ki (Ki (Ki c9.1 Hm) c9.2) Hm) (by decide +kernel:QW Tryz.prog B6=true)) ?_;apply kI Z h<;>intro h
  .cases h;exact kR Z
  exact d _ [] _ (wrap .i64 (x1+1)) Fc h
 cases h;exact kR Z
def X0 (N:Nat)(a:Sl Jf)(b:Sl Jf):Option Bool:= (E5 N a b).bind λy1=>some y1
theorem MW {a:Sl Jf}{b:Sl Jf}{y:Bool}(h:X0 N a b=some y) :Mb S MK [.p (vSl 2 A0 a),.p (vSl 2 A0 b)] [] (pB y) ([]) []:=by unfold X0 at h;refine A2 Z func59 ?_;refine kC Z h (Bq Z Y) (λy1 h=>?_);cases h;exact kR Z
def R5 (N:Nat)(a:Jf):Option Bool:= some (((P2 .and .u32 a.Plus a.Minus)==0)&&((shI .shr .u32 (P2 .or .u32 a.Plus a.Minus) 24)==0))
theorem FK {a:Jf}{y:Bool}(h:R5 N a=some y) :Mb S MT [.p (.agg (A0 a))] [] (pB y) ([]) []:=by
 unfold R5 at h;refine A2 Z func172 ?_;obtain⟨t1,c⟩:∃x:Bool,x=(((P2 .and .u32 a.Plus a.Minus)==0)&&((shI .shr .u32 (P2 .or .u32 a.Plus a.Minus) 24)==0)):=⟨_,rfl⟩;refine Xn Z Fc (A4 Z) 0 ⟨[(2,pB t1)],[]⟩ (λM1 d=>?_) ?_
 .refine GR Z Fc (b:=(P2 .and .u32 a.Plus a.Minus)==0) (λc2=>?_) (λc2=>?_)
  .exact d _ [] _ (by decide:(0:Int)<=24) (hle:=klR [(0,.eq (.bb ((shI .shr .u32 (P2 .or .u32 a.Plus a.Minus) 24)==0)) (.bb t1))] (al1 (by simp only[c,c2,Nj.ok,pm,Eu,Ev]) al0))
  exact d _ [] _ Fc (hle:=klR [(0,.eq (.bb false) (.bb t1))] (al1 (by simp only[c,c2,Nj.ok,pm,Eu,Ev]) al0))
 subst c;cases h;exact kR Z
def S8 (N:Nat)(b:Int):Option (Nat->Int):= Bx N (λa (x1:Nat->Int) (x2:Int)=>if (decide (x2<(wrap .i64 (b+1)))) then if (((0:Int)<=x2/\((0:Int)<=x2/\x2<33))/\(0+x2.toNat*1)<33)then a (OG x1 (0+x2.toNat*1) (shI .shl .u64 1 x2)) (wrap .i64 (x2+1)) else none else some x1) (λ_=>0) 0
theorem Fh {a:Int}{y:Nat->Int}(h:S8 N a=some y) :Mb S Iz [pN a] [] (.p (.agg (cA 33 (pI .u64) y))) ([]) []:=by
 unfold S8 at h;refine A2 Z func249 ?_;refine I4 Z Fc h (λx1 x2=>⟨[(7,pN x2),(6,pN (wrap .i64 (a+1))),(3,.reg 4000 0),(2,.reg 3000 0)],[(4000,.arr 33 (λi=>pI .u64 (x1 i))),(3000,.arr 33 (λi=>pI .u64 ((λ_=>0) i)))]⟩) (ids:=(Kg [3000,4000])) (λ_ _ _ _ _ b x1 x2 d h=>?_) (hle:=kl2 2 3 (AC5 33 (pI .u64 0)) (AC5 33 (pI .u64 0)));apply kI Z h<;>intro h
 .obtain⟨c4,h⟩:=C9 h;exact d _ (Kg [3000,4000]) _ (OG x1 (0+x2.toNat*1) (shI .shl .u64 1 x2)) (wrap .i64 (x2+1)) c4 h (hle:=klR [(2,.fn 33 33 (λi=>[(λi=>if i=(0+x2.toNat*1)then (pI .u64 (shI .shl .u64 1 x2))else (λi=>pI .u64 (x1 i)) i) i]) (λi=>[pI .u64 (OG x1 (0+x2.toNat*1) (shI .shl .u64 1 x2) i)]))] (al1 ⟨rfl,AQ7 (c:=pI .u64) (v:=x1) (x:=shI .shl .u64 1 x2) (λ_ _=>rfl) rfl⟩ al0))
 obtain rfl:=B0 h;exact J7 Z (Ki rfl (G7 _ _):(0:Nat)=0/\(Ec 33 (λi=>pI .u64 (x1 i))).length=33) ⟨[(2,.reg 3000 0)],[(3000,.arr 33 (λi=>pI .u64 (x1 i)))]⟩ [] (ids:=[(3000,3000)]) ⟨rfl,rfl,rfl⟩ (hle:=kl1 0 (MA 33 (λi=>pI .u64 (x1 i))))
def P5 (N:Nat)(p_x:Nat->Int)(b:Nat->Int):Option (Nat->Int):= Bx N (λa (x1:Nat->Int) (x2:Int)=>if (decide (x2<33)) then if (((0:Int)<=x2/\x2<33)/\(0+x2.toNat*1)<33)then if (((((0:Int)<=x2/\x2<33)/\(0+x2.toNat*1)<33)/\((0:Int)<=x2/\x2<33))/\(0+x2.toNat*1)<33)then a (OG x1 (0+x2.toNat*1) (P2 .or .u64 (x1 (0+x2.toNat*1)) (b (0+x2.toNat*1)))) (wrap .i64 (x2+1)) else none else none else some x1) p_x 0
theorem FL {p_x:Nat->Int}{a:Nat->Int}{y:Nat->Int}(h:P5 N p_x a=some y) :Mb S FI [.reg 0 0,.reg 1 0] [.arr 33 (λi=>pI .u64 (p_x i)),.arr 33 (λi=>pI .u64 (a i))] (.tup []) ([.arr 33 (λi=>pI .u64 (y i)),.arr 33 (λi=>pI .u64 (a i))]) [true,true]:=by
 unfold P5 at h;refine A2 Z func247 ?_;refine I4 Z Fc h (λx1 x2=>⟨[(7,pN x2),(6,.reg 1 0),(0,.reg 0 0)],[(1,.arr 33 (λi=>pI .u64 (a i))),(0,.arr 33 (λi=>pI .u64 (x1 i)))]⟩) (ids:=(Kg [0,1])) (λ_ _ _ _ _ b x1 x2 d h=>?_);apply kI Z h<;>intro h
 .refine EW Z Fc ?_;obtain⟨c8,h⟩:=C9 h;refine C7 c8 ?_;refine EW Z Fc ?_;obtain⟨c9,h⟩:=C9 h;refine C7 c9 ?_;exact d _ (Kg [0,1]) _ (OG x1 (0+x2.toNat*1) (P2 .or .u64 (x1 (0+x2.toNat*1)) (a (0+x2.toNat*1)))) (wrap .i64 (x2+1)) Fc h (hle:=klR [(2,.fn 33 33 (λi=>[(λi=>if i=(0+x2.toNat*1)then (pI .u64 (P2 .or .u64 (x1 (0+x2.toNat*1)) (a (0+x2.toNat*1))))else (λi=>pI .u64 (x1 i)) i) i]) (λi=>[pI .u64 (OG x1 (0+x2.toNat*1) (P2 .or .u64 (x1 (0+x2.toNat*1)) (a (0+x2.toNat*1))) i)]))] (al1 ⟨rfl,AQ7 (c:=pI .u64) (v:=x1) (x:=P2 .or .u64 (x1 (0+x2.toNat*1)) (a (0+x2.toNat*1))) (λ_ _=>rfl) rfl⟩ al0))
 obtain rfl:=B0 h;exact kO Z Fc [0,1]
def AS (N:Nat)(b:Sl Jf)(a:Int):Option Int:= if ((decide (a<0))||(decide ((b.n:Int)<a))) then some 3 else some 0
theorem Lt {c:Sl Jf}{b:Int}{y:Int}(h:AS N c b=some y) :Mb S Lr [.p (vSl 2 A0 c),pN b] [] (pN y) ([]) []:=by
 unfold AS at h;refine A2 Z func220 ?_;refine kB Z (A4 Z) Fc Fc 5 (.o (.a (decide (b<0))) (.a (decide ((c.n:Int)<b)))) ?_;apply kI Z h<;>intro h
 .cases h;exact kR Z
 cases h;exact kR Z
def BM (N:Nat)(a:Pat):Option Int:= if (if (a.Kind==0) then a.Kind==0 else (if (a.Kind==2) then a.Kind==2 else a.Kind==6)) then lt (λ(z1:Bool)=>if z1 then some 2 else (R5 N a.Is).bind λy1=>if (!y1) then some 14 else some 0) λk1=>if (((a.Is.Plus==0)&&(a.Is.Minus==0)) != true) then k1 true else if a.Not then k1 true else if (a.Min != 0) then k1 true else if (a.Max != 0) then k1 true else k1 (decide (0<(a.L.n:Int))) else if (a.Kind==1) then lt (λ(z2:Bool)=>if z2 then some 2 else (R5 N a.Is).bind λy2=>if (!y2) then some 14 else some 0) λk2=>if (((0==0)&&(0==0)) != true) then k2 true else if (a.Min != 0) then k2 true else if (a.Max != 0) then k2 true else k2 (decide (0<(a.L.n:Int))) else lt (λ(z3:Int×Int)=>if (((((((a.Is.Plus==0)&&(a.Is.Minus==0)) != true)||a.Not)||(z3.1 != 0))||(z3.2 != 0))||(decide (0<0))) then some 2 else (R5 N a.Is).bind λy3=>if (!y3) then some 14 else some 0) λk3=>if (if (a.Kind==3) then a.Kind==3 else a.Kind==4) then k3 (a.Min,a.Max) else if (a.Kind==5) then if (((((a.L.n:Int) != 1)||(decide (a.Min<0)))||(decide (32<a.Min)))||((a.Max != (-1))&&((decide (a.Max<a.Min))||(decide (32<a.Max))))) then some 2 else k3 (0,0) else some 2
theorem QG {c:Pat}{y:Int}(h:BM N c=some y) :Mb S JE [.p (.agg (D5 c))] [] (pN y) ([]) []:=by
 unfold BM at h;refine A2 Z func130 ?_;obtain⟨t1,f⟩:∃x:Bool,x=(if (c.Kind==0) then c.Kind==0 else (if (c.Kind==2) then c.Kind==2 else c.Kind==6)):=⟨_,rfl⟩;refine Xn Z Fc (A4 Z) 0 ⟨[(8,pB t1),(7,pN c.Kind),(3,.reg 4000 0),(1,.reg 2000 0)],[(4000,.cells [pN 0,pU c.Is.Plus,pU c.Is.Minus,pB c.Not,pN c.Min,pN c.Max,.p (.sl false 7 c.L.n (EC c))]),(2000,.cells ((D5 c).map .p))]⟩ (λM1 l=>?_) ?_
 .refine D0 Z Fc (b:=c.Kind==0) (λc3=>?_) (λc3=>?_)
  .exact l _ (Kg [2000,4000]) _ Fc (hle:=klR [(0,.eq (.bb (c.Kind==0)) (.bb t1))] (al1 (by simp only[f,c3,Nj.ok,pm,Eu,Ev]) al0))
  refine D0 Z Fc (b:=c.Kind==2) (λc4=>?_) (λc4=>?_)
  .exact l _ (Kg [2000,4000]) _ Fc (hle:=klR [(0,.eq (.bb (c.Kind==2)) (.bb t1))] (al1 (by simp only[f,c3,c4,Nj.ok,pm,Eu,Ev]) al0))
  exact l _ (Kg [2000,4000]) _ Fc (hle:=klR [(0,.eq (.bb (c.Kind==6)) (.bb t1))] (al1 (by simp only[f,c3,c4,Nj.ok,pm,Eu,Ev]) al0))
 subst f;apply kI Z h<;>intro h
 .refine Mz Z (by decide +kernel:QW Tryz.prog B6=true) (A4 Z) h 0 (λz1=>⟨[(57,pB z1),(1,.reg 2000 0)],[(2000,.cells ((D5 c).map .p))]⟩) (λM3 k1 d h=>?_) (λz1 h=>?_)
  .refine kG Z h (λh=>?_) (λh=>?_)
   .exact d _ [(2000,2000)] _ true Fc h
   refine kG Z h (λh=>?_) (λh=>?_)
   .exact d _ [(2000,2000)] _ true Fc h
   refine kG Z h (λh=>?_) (λh=>?_)
   .exact d _ [(2000,2000)] _ true Fc h
   refine kG Z h (λh=>?_) (λh=>?_)
   .exact d _ [(2000,2000)] _ true Fc h
   refine O7 Z Fc 79 ⟨[(78,.p (vSl 7 D5 c.L)),(76,.p (.v (.bool false))),(1,.reg 2000 0)],[(2000,.cells ((D5 c).map .p))]⟩ (ids:=[(2000,2000)]) ?_ (hle:=klR [(0,.fn c.L.n c.L.n (EC c) (λi=>D5 (c.L.g i)))] (al1 ⟨rfl,BY c⟩ al0));exact d _ [(2000,2000)] _ (decide (0<(c.L.n:Int))) Fc h
  apply kI Z h<;>intro h
  .cases h;exact kR Z
  refine kC Z h (FK Z Y) (λy1 h=>?_);apply kI Z h<;>intro h
  .cases h;exact kR Z
  cases h;exact kR Z
 apply kI Z h<;>intro h
 .refine Mz Z (by decide +kernel:QW Tryz.prog B6=true) (A4 Z) h 0 (λz2=>⟨[(57,pB z2),(1,.reg 2000 0)],[(2000,.cells ((D5 c).map .p))]⟩) (λM5 k2 j h=>?_) (λz2 h=>?_)
  .refine kG Z h (λh=>?_) (λh=>?_)
   .exact j _ [(2000,2000)] _ true Fc h
   refine GR Z Fc (b:=false) (λc54=>?_) (λc54=>?_)
   .exact Bool.noConfusion ((rfl:false=false).symm.trans c54)
   refine kG Z h (λh=>?_) (λh=>?_)
   .exact j _ [(2000,2000)] _ true Fc h
   refine kG Z h (λh=>?_) (λh=>?_)
   .exact j _ [(2000,2000)] _ true Fc h
   refine O7 Z Fc 79 ⟨[(78,.p (vSl 7 D5 c.L)),(76,.p (.v (.bool false))),(1,.reg 2000 0)],[(2000,.cells ((D5 c).map .p))]⟩ (ids:=[(2000,2000)]) ?_ (hle:=klR [(0,.fn c.L.n c.L.n (EC c) (λi=>D5 (c.L.g i)))] (al1 ⟨rfl,BY c⟩ al0));exact j _ [(2000,2000)] _ (decide (0<(c.L.n:Int))) Fc h
  apply kI Z h<;>intro h
  .cases h;exact kR Z
  refine kC Z h (FK Z Y) (λy2 h=>?_);apply kI Z h<;>intro h
  .cases h;exact kR Z
  cases h;exact kR Z
 obtain⟨t4,m⟩:∃x:Bool,x=(if (c.Kind==3) then c.Kind==3 else c.Kind==4):=⟨_,rfl⟩;refine Xn Z Fc (A4 Z) 0 ⟨[(17,pB t4),(7,pN c.Kind),(3,.reg 4000 0),(1,.reg 2000 0)],[(4000,.cells [pN 0,pU c.Is.Plus,pU c.Is.Minus,pB c.Not,pN c.Min,pN c.Max,.p (.sl false 7 c.L.n (EC c))]),(2000,.cells ((D5 c).map .p))]⟩ (λM6 q=>?_) ?_
 .refine D0 Z Fc (b:=c.Kind==3) (λc60=>?_) (λc60=>?_)
  .exact q _ (Kg [2000,4000]) _ Fc (hle:=klR [(0,.eq (.bb (c.Kind==3)) (.bb t4))] (al1 (by simp only[m,c60,Nj.ok,pm,Eu,Ev]) al0))
  exact q _ (Kg [2000,4000]) _ Fc (hle:=klR [(0,.eq (.bb (c.Kind==4)) (.bb t4))] (al1 (by simp only[m,c60,Nj.ok,pm,Eu,Ev]) al0))
 subst m;refine Mz Z Fc (A4 Z) h 0 (λz3=>⟨[(3,.reg 4000 0),(1,.reg 2000 0)],[(4000,.cells [pN 0,pU c.Is.Plus,pU c.Is.Minus,pB c.Not,pN z3.1,pN z3.2,.p C8]),(2000,.cells ((D5 c).map .p))]⟩) (λM7 k3 r h=>?_) (λz3 h=>?_)
 .apply kI Z h<;>intro h
  .exact r _ (Kg [2000,4000]) _ (c.Min,c.Max) Fc h
  apply kI Z h<;>intro h
  .refine O7 Z Fc 25 ⟨[(24,.p (vSl 7 D5 c.L)),(3,.reg 4000 0),(1,.reg 2000 0)],[(4000,.cells [pN 0,pU c.Is.Plus,pU c.Is.Minus,pB c.Not,pN c.Min,pN c.Max,.p (.sl false 7 c.L.n (EC c))]),(2000,.cells ((D5 c).map .p))]⟩ (ids:=(Kg [2000,4000])) ?_ (hle:=klR [(0,.fn c.L.n c.L.n (EC c) (λi=>D5 (c.L.g i)))] (al1 ⟨rfl,BY c⟩ al0));refine kB Z (A4 Z) Fc Fc 26 (.o (.o (.o (.a ((c.L.n:Int) != 1)) (.a (decide (c.Min<0)))) (.a (decide (32<c.Min)))) (.n (.a (c.Max != (-1))) (.o (.a (decide (c.Max<c.Min))) (.a (decide (32<c.Max)))))) ?_;apply kI Z h<;>intro h
   .cases h;exact kR Z
   exact r _ (Kg [2000,4000]) _ (0,0) Fc h
  cases h;exact kR Z
 refine kB Z (A4 Z) (by decide +kernel:QW Tryz.prog B6=true) Fc 19 (.o (.o (.o (.o (.a (((c.Is.Plus==0)&&(c.Is.Minus==0)) != true)) (.a c.Not)) (.a (z3.1 != 0))) (.a (z3.2 != 0))) (.a (decide (0<0)))) ?_;apply kI Z h<;>intro h
 .cases h;exact kR Z
 refine kC Z h (FK Z Y) (λy3 h=>?_);apply kI Z h<;>intro h
 .cases h;exact kR Z
 cases h;exact kR Z
end Go.AM
namespace Go.AM
open Go.Proofs.Tryz
variable {N:Nat}
open IntKind (wrap)
open Go.Proofs
set_option maxRecDepth 10000
set_option maxHeartbeats 2000000
variable {S:U6}(Z:G6 S Tryz.prog) (Y:Km S)
include Z Y
def CQ (rec:Pat->Int->Option Int)(N:Nat)(b:Pat)(a:Int):Option Int:= Bx N (λc (x1:Int) (x2:Int)=>if ((decide (x2<(b.L.n:Int)))&&(decide (x1<=40))) then if ((0:Int)<=x2/\x2<(b.L.n:Int))then (rec (b.L.g x2.toNat) x1).bind λy3=>c y3 (wrap .i64 (x2+1)) else none else some x1) (wrap .i64 (a+1)) 0
def Cl:Nat->Pat->Int->Option Int
 |0=>λ_ _=>none
 |N+1=>CQ (Cl N) N
theorem VP {rec:Pat->Int->Option Int}(d:∀{b:Pat}{c:Int}{y:Int},rec b c=some y->Mb S GW [.p (.agg (D5 b)),pN c] [] (pN y) ([]) []){b:Pat}{c:Int}{y:Int}(h:CQ rec N b c=some y) :Mb S GW [.p (.agg (D5 b)),pN c] [] (pN y) ([]) []:=by
 unfold CQ at h;refine A2 Z func164 ?_;refine I4 Z Fc h (λx1 x2=>⟨[(6,pN x2),(5,pN x1),(2,.reg 3000 0)],[(3000,.cells ((D5 b).map .p))]⟩) (ids:=[(3000,3000)]) (λ_ _ _ _ _ f x1 x2 j h=>?_);refine O7 Z Fc 12 ⟨[(11,.p (vSl 7 D5 b.L)),(9,pN x2),(6,pN x2),(5,pN x1),(2,.reg 3000 0)],[(3000,.cells ((D5 b).map .p))]⟩ (ids:=[(3000,3000)]) ?_ (hle:=klR [(0,.fn b.L.n b.L.n (EC b) (λi=>D5 (b.L.g i)))] (al1 ⟨rfl,BY b⟩ al0));refine kB Z (A4 Z) Fc Fc 3 (.n (.a (decide (x2<(b.L.n:Int)))) (.a (decide (x1<=40)))) ?_;apply kI Z h<;>intro h
 .refine O7 Z Fc 23 ⟨[(22,pN x2),(21,.p (vSl 7 D5 b.L)),(6,pN x2),(5,pN x1),(2,.reg 3000 0)],[(3000,.cells ((D5 b).map .p))]⟩ (ids:=[(3000,3000)]) ?_ (hle:=klR [(1,.fn b.L.n b.L.n (EC b) (λi=>D5 (b.L.g i)))] (al1 ⟨rfl,BY b⟩ al0));obtain⟨c6,h⟩:=C9 h;obtain⟨y3,e3,h⟩:=A8 h;refine B3 Z [] (Ki c6 Im) (d e3) ?_;exact j _ [(3000,3000)] _ y3 (wrap .i64 (x2+1)) Fc h
 cases h;exact kR Z
theorem XR {b:Pat}{a:Int}{y:Int}(h:Cl N b a=some y) :Mb S GW [.p (.agg (D5 b)),pN a] [] (pN y) ([]) []:=by
 induction N generalizing b a y with
 |zero=>cases (show (none:Option Int)=some y from h)
 |succ N ih=>exact VP Z Y (λe=>ih e) h
def Dq (N:Nat)(a:Pat):Option Int:= (Cl N a 0).bind λy1=>some y1
theorem Mf {a:Pat}{y:Int}(h:Dq N a=some y) :Mb S RM [.p (.agg (D5 a))] [] (pN y) ([]) []:=by unfold Dq at h;refine A2 Z func128 ?_;refine kC Z h (XR Z Y) (λy1 h=>?_);cases h;exact kR Z
def Au (rec:Pat->Option Int)(N:Nat)(a:Pat):Option Int:= Bx N (λb (x1:Int) (x2:Int)=>if (decide (x2<(a.L.n:Int))) then if ((0:Int)<=x2/\x2<(a.L.n:Int))then (rec (a.L.g x2.toNat)).bind λy3=>b (wrap .i64 (x1+y3)) (wrap .i64 (x2+1)) else none else some x1) ((if (a.Kind==5) then 1 else 0):Int) 0
def AT:Nat->Pat->Option Int
 |0=>λ_=>none
 |N+1=>Au (AT N) N
theorem QH {rec:Pat->Option Int}(d:∀{a:Pat}{y:Int},rec a=some y->Mb S ED [.p (.agg (D5 a))] [] (pN y) ([]) []){a:Pat}{y:Int}(h:Au rec N a=some y) :Mb S ED [.p (.agg (D5 a))] [] (pN y) ([]) []:=by
 unfold Au at h;refine A2 Z func163 ?_;obtain⟨t1,c⟩:∃x:Int,x=((if (a.Kind==5) then 1 else 0):Int):=⟨_,rfl⟩;refine Xn Z Fc (A4 Z) 0 ⟨[(3,pN t1),(1,.reg 2000 0)],[(2000,.cells ((D5 a).map .p))]⟩ (λM1 f=>?_) ?_
 .refine D0 Z Fc (b:=a.Kind==5) (λc2=>?_) (λc2=>?_)
  .exact f _ [(2000,2000)] _ Fc (hle:=klR [(0,.eq (pI .i64 1) (pI .i64 t1))] (al1 (by simp only[c,c2,Nj.ok,pm,Eu,Ev]) al0))
  exact f _ [(2000,2000)] _ Fc (hle:=klR [(0,.eq (pI .i64 0) (pI .i64 t1))] (al1 (by simp only[c,c2,Nj.ok,pm,Eu,Ev]) al0))
 subst c;refine I4 Z Fc h (λx1 x2=>⟨[(4,pN x2),(3,pN x1),(1,.reg 2000 0)],[(2000,.cells ((D5 a).map .p))]⟩) (ids:=[(2000,2000)]) (λ_ _ _ _ _ j x1 x2 l h=>?_);refine O7 Z Fc 11 ⟨[(10,.p (vSl 7 D5 a.L)),(8,pN x2),(4,pN x2),(3,pN x1),(1,.reg 2000 0)],[(2000,.cells ((D5 a).map .p))]⟩ (ids:=[(2000,2000)]) ?_ (hle:=klR [(0,.fn a.L.n a.L.n (EC a) (λi=>D5 (a.L.g i)))] (al1 ⟨rfl,BY a⟩ al0));apply kI Z h<;>intro h
 .refine O7 Z Fc 19 ⟨[(18,pN x2),(17,.p (vSl 7 D5 a.L)),(15,pN x1),(4,pN x2),(1,.reg 2000 0)],[(2000,.cells ((D5 a).map .p))]⟩ (ids:=[(2000,2000)]) ?_ (hle:=klR [(1,.fn a.L.n a.L.n (EC a) (λi=>D5 (a.L.g i)))] (al1 ⟨rfl,BY a⟩ al0));obtain⟨c8,h⟩:=C9 h;obtain⟨y3,e3,h⟩:=A8 h;refine B3 Z [] (Ki c8 Im) (d e3) ?_;exact l _ [(2000,2000)] _ (wrap .i64 (x1+y3)) (wrap .i64 (x2+1)) Fc h
 cases h;exact kR Z
theorem Tv {a:Pat}{y:Int}(h:AT N a=some y) :Mb S ED [.p (.agg (D5 a))] [] (pN y) ([]) []:=by
 induction N generalizing a y with
 |zero=>cases (show (none:Option Int)=some y from h)
 |succ N ih=>exact QH Z Y (λe=>ih e) h
def EI (N:Nat)(a:Sl Law):Option Int:= Bx N (λc (x3:Int) (x4:Int)=>if ((decide (x4<(a.n:Int)))&&(decide (x4<=300))) then if (((0:Int)<=x4/\x4<(a.n:Int))/\((0:Int)<=x4/\x4<(a.n:Int)))then Bx N (λb (x7:Int) (x8:Int)=>if (decide (x8<((Sl.of [(a.g x4.toNat).Left,(a.g x4.toNat).Right]:Sl Pat).n:Int))) then if ((0:Int)<=x8/\x8<((Sl.of [(a.g x4.toNat).Left,(a.g x4.toNat).Right]:Sl Pat).n:Int))then (Dq N ((Sl.of [(a.g x4.toNat).Left,(a.g x4.toNat).Right]:Sl Pat).g x8.toNat)).bind λd=>if (decide (d<=40)) then (AT N ((Sl.of [(a.g x4.toNat).Left,(a.g x4.toNat).Right]:Sl Pat).g x8.toNat)).bind λf=>b (wrap .i64 (x7+f)) (wrap .i64 (x8+1)) else b x7 (wrap .i64 (x8+1)) else none else c (if x3<x7 then x7 else x3) (wrap .i64 (x4+1))) 0 0 else none else some x3) 0 0
theorem Ae0 {b:Sl Law}{y:Int}(h:EI N b=some y) :Mb S RL [.p (vSl 18 B4 b)] [] (pN y) ([]) []:=by
 unfold EI at h;refine A2 Z func127 ?_;refine I4 Z Fc h (λx3 x4=>⟨[(4,pN x4),(3,pN x3),(0,.p (vSl 18 B4 b))],[]⟩) (ids:=[]) (λ_ _ _ _ _ d x3 x4 f h=>?_);refine kB Z (A4 Z) Fc Fc 3 (.n (.a (decide (x4<(b.n:Int)))) (.a (decide (x4<=300)))) ?_;apply kI Z h<;>intro h
 .refine E3 Z Fc [2,4,7,9] ?_;obtain⟨c24,h⟩:=C9 h;refine N3 (Ki (Ki (Ki c24.1 (by decide:(7:Nat)<=17)) c24.2) (by decide:(7:Nat)<=10)) (x:=.sl true 7 2 (H2 [pI .i64 0,pI .u32 0,pI .u32 0,.v (.bool false),pI .i64 0,pI .i64 0,C8] [(0,D5 (b.g x4.toNat).Left),(1,D5 (b.g x4.toNat).Right)])) ?_;refine C7 Fc ?_;refine I4 Z Fc h (λx7 x8=>⟨[(30,pN x8),(29,pN ((Sl.of [(b.g x4.toNat).Left,(b.g x4.toNat).Right]:Sl Pat).n:Int)),(28,.p (vSl 7 D5 (Sl.of [(b.g x4.toNat).Left,(b.g x4.toNat).Right]:Sl Pat))),(5,pN x7),(4,pN x4),(3,pN x3),(0,.p (vSl 18 B4 b))],[]⟩) (ids:=[]) (λ_ _ _ _ _ i x7 x8 c h=>?_) (hle:=kl1 2 (Ac7 D5 ([(b.g x4.toNat).Left,(b.g x4.toNat).Right]:List Pat) [pI .i64 0,pI .u32 0,pI .u32 0,.v (.bool false),pI .i64 0,pI .i64 0,C8]));apply kI Z h<;>intro h
  .obtain⟨c32,h⟩:=C9 h;refine F6 Z (Ki c32 Im) 34 8000 (D5 ((Sl.of [(b.g x4.toNat).Left,(b.g x4.toNat).Right]:Sl Pat).g x8.toNat)) ?_;obtain⟨l,e17,h⟩:=A8 h;refine B3 Z [] Im (Mf Z Y e17) ?_;apply kI Z h<;>intro h
   .obtain⟨j,e18,h⟩:=A8 h;refine B3 Z [] Im (Tv Z Y e18) ?_;exact c _ [] _ (wrap .i64 (x7+j)) (wrap .i64 (x8+1)) Fc h
   exact c _ [] _ x7 (wrap .i64 (x8+1)) Fc h
  exact f _ [] _ (if x3<x7 then x7 else x3) (wrap .i64 (x4+1)) Fc h
 cases h;exact kR Z
end Go.AM
namespace Go.AM
open Go.Proofs.Tryz
variable {N:Nat}
open IntKind (wrap)
open Go.Proofs
set_option maxRecDepth 10000
set_option maxHeartbeats 2000000
variable {S:U6}(Z:G6 S Tryz.prog) (Y:Km S)
include Z Y
def T5 (N:Nat)(q0:Int):Option (List (Int)):= W8 N (λa (x1:Int)=>if (x1 != 0) then (I5 N x1).bind λy3=>if (0:Int)<=y3 then Ag y3 (a (P2 .andNot .u64 x1 (shI .shl .u64 1 y3))) else none else some []) q0
theorem El {q0:Int}{L:List (Int)}(h:T5 N q0=some L) :ET S Ek [] [.reg 0 0] [.cells [.p (pI .u64 q0)]] (L.map (λ(x:Int)=>[pI .i64 x])):=by
 unfold T5 at h;refine EB Z func224 ?_;refine Dl Z Fc h (λx1 L1=>⟨[(1,.reg 0 0),(0,.yf 1)],[(1,.yld (L1.map (λ(x:Int)=>[pI .i64 x])) true),(0,.cells [.p (pI .u64 x1)])]⟩) (ids:=(Kg [0,1])) (λ_ _ _ _ _ d x1 L1 f h=>?_);apply kI Z h<;>intro h
 .refine kC Z h (Ff Z Y) (λy3 h=>?_);refine EW Z Fc ?_;obtain⟨c10,h⟩:=C9 h;refine C7 c10 ?_;obtain⟨L4,rfl,c⟩:=LY h;replace h:=c;refine Dk Z Fc (ys:=(λ(x:Int)=>[pI .i64 x]) y3) (rest:=L4.map (λ(x:Int)=>[pI .i64 x])) ?_ ?_
  .refine D0 Z Fc (b:=false) (λc11=>?_) (λc11=>?_)
   .exact Bool.noConfusion ((rfl:false=false).symm.trans c11)
   exact f _ (Kg [0,1]) _ (P2 .andNot .u64 x1 (shI .shl .u64 1 y3)) L4 Fc h
  refine D0 Z Fc (b:=true) (λc12=>?_) (λc12=>?_)
  .exact kO Z Fc (a:=.tup []) (objs:=[(.cells [.p (pI .u64 (P2 .andNot .u64 x1 (shI .shl .u64 1 y3)))]),.yld [] false]) [0,1] ⟨false,rfl,rfl,_,rfl⟩
  exact Bool.noConfusion (Iu.symm.trans c12)
 obtain rfl:=B0 h;exact kO Z Fc (a:=.tup []) (objs:=[(.cells [.p (pI .u64 x1)]),.yld [] true]) [0,1] ⟨true,rfl,rfl,_,rfl⟩
def BN (N:Nat)(a:Int):Option (Int):= some a
theorem FZ {a:Int}{y:Int}(h:BN N a=some y) :Mb S JI [.p (pI .u64 a)] [] (.clo Ek [] [.reg 0 0]) ([.cells [.p (pI .u64 y)]]) []:=by unfold BN at h;refine A2 Z func221 ?_;obtain rfl:=B0 h;exact kO Z Fc [2000]
def F1 (N:Nat)(p_x:Nat->Int)(c:Nat->Int):Option (Nat->Int):= Bx N (λa (x3:Nat->Int) (x4:Int)=>if (decide (x4<33)) then if (((0:Int)<=x4/\x4<33)/\(0+x4.toNat*1)<33)then (BN N (p_x (0+x4.toNat*1))).bind λy3=>(T5 N y3).bind λL3=>T4 L3 (λb (x7:Int) (z3:Nat->Int)=>if (((((((0:Int)<=x4/\x4<33)/\(0+x4.toNat*1)<33)/\((0:Int)<=x7/\x7<33))/\(0+x7.toNat*1)<33)/\((0:Int)<=x4/\x4<33))/\(0+x4.toNat*1)<33)then b (OG z3 (0+x4.toNat*1) (P2 .or .u64 (z3 (0+x4.toNat*1)) (c (0+x7.toNat*1)))) else none) (λ(z3:Nat->Int)=>a z3 (wrap .i64 (x4+1))) x3 else none else some x3) (λ_=>0) 0
theorem V5 {p_x:Nat->Int}{b:Nat->Int}{y:Nat->Int}(h:F1 N p_x b=some y) :Mb S Bo [.reg 0 0,.reg 1 0] [.arr 33 (λi=>pI .u64 (p_x i)),.arr 33 (λi=>pI .u64 (b i))] (.p (.agg (cA 33 (pI .u64) y))) ([.arr 33 (λi=>pI .u64 (p_x i)),.arr 33 (λi=>pI .u64 (b i))]) [true,true]:=by
 unfold F1 at h;refine A2 Z func250 ?_;refine I4 Z Fc h (λx3 x4=>⟨[(10,pN x4),(9,.reg 0 0),(5,.reg 6000 0),(4,.reg 5000 0),(3,.reg 4000 0)],[(6000,.arr 33 (λi=>pI .u64 (x3 i))),(5000,.arr 33 (λi=>pI .u64 ((λ_=>0) i))),(4000,.cells [.reg 1 0]),(1,.arr 33 (λi=>pI .u64 (b i))),(0,.arr 33 (λi=>pI .u64 (p_x i)))]⟩) (ids:=(Kg [0,1,4000,5000,6000])) (λ_ _ _ _ _ d x3 x4 f h=>?_) (hle:=kl2 1 2 (AC5 33 (pI .u64 0)) (AC5 33 (pI .u64 0)));apply kI Z h<;>intro h
 .refine F7 Z Fc [(2,.l [0]),(3,.l [0]),(4,.a [7000]),(5,.a [7000])] ?_;obtain⟨c12,h⟩:=C9 h;refine C7 c12 ?_;refine F6 Z Fc 16 7000 [pI .i64 x4] ?_;refine kC Z h (FZ Z Y) (λy3 h=>?_);obtain⟨L3,e6,h⟩:=A8 h;refine GS Z Fc [18000] [10,9,6,5,4,3] 905 (λz3=>⟨[(10,pN x4),(9,.reg 0 0),(6,.p (.ptr [pI .i64 x4])),(5,.reg 6000 0),(4,.reg 5000 0),(3,.reg 4000 0)],[(6000,.arr 33 (λi=>pI .u64 (z3 i))),(5000,.arr 33 (λi=>pI .u64 ((λ_=>0) i))),(4000,.cells [.reg 1 0]),(1,.arr 33 (λi=>pI .u64 (b i))),(0,.arr 33 (λi=>pI .u64 (p_x i)))]⟩) (idl:=(Kg [0,1,4000,5000,6000])) h (El Z Y e6) (λ_=>by kernel_rfl) (λ_=>by kernel_rfl) (λ_=>by kernel_rfl) (λ_=>by kernel_rfl) (λx7 _ g z3 j h=>?_) (λz3 h=>?_)
  .refine Ke Z Fc ?_;refine F7 Z Fc [(0,.n),(1,.l [6000]),(2,.l [6000]),(3,.l [4000]),(6,.l [1]),(7,.l [1]),(9,.l [6000]),(10,.a [6000])] ?_;obtain⟨c15,h⟩:=C9 h;refine C7 c15 ?_;exact j _ (Kg [0,1,905,4000,5000,6000]) _ (OG z3 (0+x4.toNat*1) (P2 .or .u64 (z3 (0+x4.toNat*1)) (b (0+x7.toNat*1)))) Fc h (hle:=klR [(0,.fn 33 33 (λi=>[(λi=>if i=(0+x4.toNat*1)then (pI .u64 (P2 .or .u64 (z3 (0+x4.toNat*1)) (b (0+x7.toNat*1))))else (λi=>pI .u64 (z3 i)) i) i]) (λi=>[pI .u64 (OG z3 (0+x4.toNat*1) (P2 .or .u64 (z3 (0+x4.toNat*1)) (b (0+x7.toNat*1))) i)]))] (al1 ⟨rfl,AQ7 (c:=pI .u64) (v:=z3) (x:=P2 .or .u64 (z3 (0+x4.toNat*1)) (b (0+x7.toNat*1))) (λ_ _=>rfl) rfl⟩ al0))
  exact f _ (Kg [0,1,4000,5000,6000]) _ z3 (wrap .i64 (x4+1)) Fc h
 obtain rfl:=B0 h;exact J7 Z (Ki rfl (G7 _ _):(0:Nat)=0/\(Ec 33 (λi=>pI .u64 (x3 i))).length=33) ⟨[(4,.reg 5000 0)],[(5000,.arr 33 (λi=>pI .u64 (x3 i))),(1,.arr 33 (λi=>pI .u64 (b i))),(0,.arr 33 (λi=>pI .u64 (p_x i)))]⟩ [0,1] (ids:=(Kg [0,1,5000])) ⟨rfl,rfl,rfl⟩ (hle:=kl1 0 (MA 33 (λi=>pI .u64 (x3 i))))
def P0 (N:Nat)(p_x:Nat->Int):Option (Nat->Int):= Bx N (λa (x3:Nat->Int) (x4:Int)=>if (decide (x4<33)) then if (((0:Int)<=x4/\x4<33)/\(0+x4.toNat*1)<33)then (BN N (p_x (0+x4.toNat*1))).bind λy3=>(T5 N y3).bind λL3=>T4 L3 (λb (x7:Int) (z3:Nat->Int)=>if (((((((0:Int)<=x4/\x4<33)/\(0+x4.toNat*1)<33)/\((0:Int)<=x7/\x7<33))/\(0+x7.toNat*1)<33)/\((0:Int)<=x4/\x4<33))/\(0+x4.toNat*1)<33)then b (OG z3 (0+x4.toNat*1) (P2 .or .u64 (z3 (0+x4.toNat*1)) (p_x (0+x7.toNat*1)))) else none) (λ(z3:Nat->Int)=>a z3 (wrap .i64 (x4+1))) x3 else none else some x3) (λ_=>0) 0
theorem DR {p_x:Nat->Int}{y:Nat->Int}(h:P0 N p_x=some y) :Mb S Bo [.reg 0 0,.reg 0 0] [.arr 33 (λi=>pI .u64 (p_x i))] (.p (.agg (cA 33 (pI .u64) y))) ([.arr 33 (λi=>pI .u64 (p_x i))]) [true]:=by
 unfold P0 at h;refine A2 Z func250 ?_;refine I4 Z Fc h (λx3 x4=>⟨[(10,pN x4),(9,.reg 0 0),(5,.reg 6000 0),(4,.reg 5000 0),(3,.reg 4000 0)],[(6000,.arr 33 (λi=>pI .u64 (x3 i))),(5000,.arr 33 (λi=>pI .u64 ((λ_=>0) i))),(4000,.cells [.reg 0 0]),(0,.arr 33 (λi=>pI .u64 (p_x i)))]⟩) (ids:=(Kg [0,4000,5000,6000])) (λ_ _ _ _ _ b x3 x4 d h=>?_) (hle:=kl2 1 2 (AC5 33 (pI .u64 0)) (AC5 33 (pI .u64 0)));apply kI Z h<;>intro h
 .refine F7 Z Fc [(2,.l [0]),(3,.l [0]),(4,.a [7000]),(5,.a [7000])] ?_;obtain⟨c12,h⟩:=C9 h;refine C7 c12 ?_;refine F6 Z Fc 16 7000 [pI .i64 x4] ?_;refine kC Z h (FZ Z Y) (λy3 h=>?_);obtain⟨L3,e6,h⟩:=A8 h;refine GS Z Fc [18000] [10,9,6,5,4,3] 905 (λz3=>⟨[(10,pN x4),(9,.reg 0 0),(6,.p (.ptr [pI .i64 x4])),(5,.reg 6000 0),(4,.reg 5000 0),(3,.reg 4000 0)],[(6000,.arr 33 (λi=>pI .u64 (z3 i))),(5000,.arr 33 (λi=>pI .u64 ((λ_=>0) i))),(4000,.cells [.reg 0 0]),(0,.arr 33 (λi=>pI .u64 (p_x i)))]⟩) (idl:=(Kg [0,4000,5000,6000])) h (El Z Y e6) (λ_=>by kernel_rfl) (λ_=>by kernel_rfl) (λ_=>by kernel_rfl) (λ_=>by kernel_rfl) (λx7 _ f z3 g h=>?_) (λz3 h=>?_)
  .refine Ke Z Fc ?_;refine F7 Z Fc [(0,.n),(1,.l [6000]),(2,.l [6000]),(3,.l [4000]),(6,.l [0]),(7,.l [0]),(9,.l [6000]),(10,.a [6000])] ?_;obtain⟨c15,h⟩:=C9 h;refine C7 c15 ?_;exact g _ (Kg [0,905,4000,5000,6000]) _ (OG z3 (0+x4.toNat*1) (P2 .or .u64 (z3 (0+x4.toNat*1)) (p_x (0+x7.toNat*1)))) Fc h (hle:=klR [(0,.fn 33 33 (λi=>[(λi=>if i=(0+x4.toNat*1)then (pI .u64 (P2 .or .u64 (z3 (0+x4.toNat*1)) (p_x (0+x7.toNat*1))))else (λi=>pI .u64 (z3 i)) i) i]) (λi=>[pI .u64 (OG z3 (0+x4.toNat*1) (P2 .or .u64 (z3 (0+x4.toNat*1)) (p_x (0+x7.toNat*1))) i)]))] (al1 ⟨rfl,AQ7 (c:=pI .u64) (v:=z3) (x:=P2 .or .u64 (z3 (0+x4.toNat*1)) (p_x (0+x7.toNat*1))) (λ_ _=>rfl) rfl⟩ al0))
  exact d _ (Kg [0,4000,5000,6000]) _ z3 (wrap .i64 (x4+1)) Fc h
 obtain rfl:=B0 h;exact J7 Z (Ki rfl (G7 _ _):(0:Nat)=0/\(Ec 33 (λi=>pI .u64 (x3 i))).length=33) ⟨[(4,.reg 5000 0)],[(5000,.arr 33 (λi=>pI .u64 (x3 i))),(0,.arr 33 (λi=>pI .u64 (p_x i)))]⟩ [0] (ids:=(Kg [0,5000])) ⟨rfl,rfl,rfl⟩ (hle:=kl1 0 (MA 33 (λi=>pI .u64 (x3 i))))
def G4 (N:Nat)(p_x:Nat->Int)(b:Int)(c:Int):Option (Nat->Int):= (S8 N c).bind λy1=>Ay9 N (λa (x1:Int) (x2:Nat->Int) (x3:Nat->Int)=>if (decide (0<x1)) then if ((P2 .and .i64 x1 1)==1) then (F1 N x3 x2).bind λy8=>(P0 N x2).bind λy9=>a (shI .shr .i64 x1 1) y9 y8 else (P0 N x2).bind λd=>a (shI .shr .i64 x1 1) d x3 else some x3) b p_x y1
theorem Av {p_x:Nat->Int}{b:Int}{c:Int}{y:Nat->Int}(h:G4 N p_x b c=some y) :Mb S DO [.p (.agg (cA 33 (pI .u64) p_x)),pN b,pN c] [] (.p (.agg (cA 33 (pI .u64) y))) ([]) []:=by
 unfold G4 at h;refine A2 Z func243 ?_;refine kC Z h (Fh Z Y) (λy1 h=>?_);refine OC Z (Ki rfl (G7 _ _):(0:Nat)=0/\(Ec 33 (λi=>pI .u64 (y1 i))).length=33) h (λx1 x2 x3=>⟨[(7,.reg 8000 0),(6,.reg 7000 0),(3,.reg 4000 0),(1,pN x1)],[(8000,.arr 33 (λi=>pI .u64 (x3 i))),(7000,.arr 33 (λi=>pI .u64 ((λ_=>0) i))),(4000,.arr 33 (λi=>pI .u64 (x2 i)))]⟩) (ids:=(Kg [4000,7000,8000])) (λ_ _ _ _ _ f x1 x2 x3 d h=>?_) (hle:=klR [(1,.fn 33 33 (λi=>[(λi=>(cA 33 (pI .u64) y1).getD i default) i]) (λi=>[pI .u64 (y1 i)])),(2,.fn 33 33 (λi=>[(λi=>(List.replicate 33 (pI .u64 0)).getD i default) i]) (λi=>[pI .u64 ((λ_=>0) i)])),(3,.fn 33 33 (λi=>[(λi=>(cA 33 (pI .u64) p_x).getD i default) i]) (λi=>[pI .u64 (p_x i)]))] (al1 ⟨rfl,DA 33 (λi=>pI .u64 (y1 i))⟩ (al1 ⟨rfl,OF (z:=pI .u64 0) rfl⟩ (al1 ⟨rfl,DA 33 (λi=>pI .u64 (p_x i))⟩ al0))));apply kI Z h<;>intro h
 .apply kI Z h<;>intro h
  .obtain⟨y8,e8,h⟩:=A8 h;refine B3 Z [8000,4000] Fc (V5 Z Y e8) ?_;obtain⟨y9,e9,h⟩:=A8 h;refine B3 Z [4000] (Ki rfl (G7 _ _):(0:Nat)=0/\(Ec 33 (λi=>pI .u64 (y8 i))).length=33) (DR Z Y e9) ?_;exact d _ (Kg [4000,7000,8000]) _ (shI .shr .i64 x1 1) y9 y8 (Ki (Ki rfl (G7 _ _):(0:Nat)=0/\(Ec 33 (λi=>pI .u64 (y9 i))).length=33) (by decide:(0:Int)<=1)) h (hle:=kl2 1 3 (MA 33 (λi=>pI .u64 (y8 i))) (MA 33 (λi=>pI .u64 (y9 i))))
  obtain⟨a,e10,h⟩:=A8 h;refine B3 Z [4000] Fc (DR Z Y e10) ?_;exact d _ (Kg [4000,7000,8000]) _ (shI .shr .i64 x1 1) a x3 (Ki (Ki rfl (G7 _ _):(0:Nat)=0/\(Ec 33 (λi=>pI .u64 (a i))).length=33) (by decide:(0:Int)<=1)) h (hle:=kl1 3 (MA 33 (λi=>pI .u64 (a i))))
 obtain rfl:=B0 h;exact J7 Z (Ki rfl (G7 _ _):(0:Nat)=0/\(Ec 33 (λi=>pI .u64 (x3 i))).length=33) ⟨[(6,.reg 7000 0)],[(7000,.arr 33 (λi=>pI .u64 (x3 i)))]⟩ [] (ids:=[(7000,7000)]) ⟨rfl,rfl,rfl⟩ (hle:=kl1 0 (MA 33 (λi=>pI .u64 (x3 i))))
end Go.AM
namespace Go.AM
open Go.Proofs.Tryz
variable {N:Nat}
open IntKind (wrap)
open Go.Proofs
set_option maxRecDepth 10000
set_option maxHeartbeats 2000000
variable {S:U6}(Z:G6 S Tryz.prog) (Y:Km S)
include Z Y
def Aw (N:Nat)(p_x:An6)(b:Sl Jf):Option (Nat->Int):= Bx N (λa (x1:Nat->Int) (x2:Int)=>if (decide (x2<(b.n:Int))) then if ((0:Int)<=x2/\x2<(b.n:Int))then if ((((P2 .or .u32 (P2 .andNot .u32 p_x.is.Plus (b.g x2.toNat).Plus) (P2 .andNot .u32 p_x.is.Minus (b.g x2.toNat).Minus))==0)==p_x.not) != true) then if (((0:Int)<=(wrap .i64 (x2+1))/\((0:Int)<=x2/\x2<33))/\(0+x2.toNat*1)<33)then a (OG x1 (0+x2.toNat*1) (shI .shl .u64 1 (wrap .i64 (x2+1)))) (wrap .i64 (x2+1)) else none else a x1 (wrap .i64 (x2+1)) else none else some x1) (λ_=>0) 0
theorem Pz {p_x:An6}{a:Sl Jf}{y:Nat->Int}(h:Aw N p_x a=some y) :Mb S Fe [.p (.agg (Zm p_x)),.p (vSl 2 A0 a)] [] (.p (.agg (cA 33 (pI .u64) y))) ([]) []:=by
 unfold Aw at h;refine A2 Z func244 ?_;refine I4 Z Fc h (λx1 x2=>⟨[(9,pN x2),(8,pN (a.n:Int)),(7,.p (vSl 2 A0 a)),(4,.reg 5000 0),(2,.reg 3000 0)],[(5000,.arr 33 (λi=>pI .u64 (x1 i))),(3000,.cells ((Zm p_x).map .p))]⟩) (ids:=(Kg [3000,5000])) (λ_ _ _ _ _ f x1 x2 d h=>?_) (hle:=kl1 3 (AC5 33 (pI .u64 0)));apply kI Z h<;>intro h
 .obtain⟨c8,h⟩:=C9 h;refine D0 Z (Ki c8 Hm) (b:=(((P2 .or .u32 (P2 .andNot .u32 p_x.is.Plus (a.g x2.toNat).Plus) (P2 .andNot .u32 p_x.is.Minus (a.g x2.toNat).Minus))==0)==p_x.not) != true) (λc9=>?_) (λc9=>?_)
  .replace h:=itT c9 h;obtain⟨c10,h⟩:=C9 h;exact d _ (Kg [3000,5000]) _ (OG x1 (0+x2.toNat*1) (shI .shl .u64 1 (wrap .i64 (x2+1)))) (wrap .i64 (x2+1)) c10 h (hle:=klR [(3,.fn 33 33 (λi=>[(λi=>if i=(0+x2.toNat*1)then (pI .u64 (shI .shl .u64 1 (wrap .i64 (x2+1))))else (λi=>pI .u64 (x1 i)) i) i]) (λi=>[pI .u64 (OG x1 (0+x2.toNat*1) (shI .shl .u64 1 (wrap .i64 (x2+1))) i)]))] (al1 ⟨rfl,AQ7 (c:=pI .u64) (v:=x1) (x:=shI .shl .u64 1 (wrap .i64 (x2+1))) (λ_ _=>rfl) rfl⟩ al0))
  replace h:=itF c9 h;exact d _ (Kg [3000,5000]) _ x1 (wrap .i64 (x2+1)) Fc h
 obtain rfl:=B0 h;exact J7 Z (Ki rfl (G7 _ _):(0:Nat)=0/\(Ec 33 (λi=>pI .u64 (x1 i))).length=33) ⟨[(4,.reg 5000 0)],[(5000,.arr 33 (λi=>pI .u64 (x1 i)))]⟩ [] (ids:=[(5000,5000)]) ⟨rfl,rfl,rfl⟩ (hle:=kl1 0 (MA 33 (λi=>pI .u64 (x1 i))))
def BO (N:Nat)(p_x:AR8)(a:Sl Jf):Option (Nat->Int):= if p_x.end_ then if (((0:Int)<=(a.n:Int)/\((0:Int)<=(a.n:Int)/\(a.n:Int)<33))/\(0+(a.n:Int).toNat*1)<33)then some (OG (λ_=>0) (0+(a.n:Int).toNat*1) (shI .shl .u64 1 (a.n:Int))) else none else if (((0:Int)<=0/\(0:Int)<33)/\(0+0*1)<33)then some (OG (λ_=>0) (0+0*1) (shI .shl .u64 1 0)) else none
theorem QI {p_x:AR8}{a:Sl Jf}{y:Nat->Int}(h:BO N p_x a=some y) :Mb S FY [.p (.agg (AR9 p_x)),.p (vSl 2 A0 a)] [] (.p (.agg (cA 33 (pI .u64) y))) ([]) []:=by
 unfold BO at h;refine A2 Z func245 ?_;apply kI Z h<;>intro h
 .obtain⟨c2,h⟩:=C9 h;obtain rfl:=B0 h;exact J7 Z (Ki (Ki (Ki c2.1.1 c2.1.2) c2.2) (Ki rfl (G7 _ _):(0:Nat)=0/\(Ec 33 (λi=>if i=(0+(a.n:Int).toNat*1)then (pI .u64 (shI .shl .u64 1 (a.n:Int)))else (λi=>(List.replicate 33 (pI .u64 0)).getD i default) i)).length=33)) ⟨[(4,.reg 5000 0)],[(5000,.arr 33 (λi=>pI .u64 (OG (λ_=>0) (0+(a.n:Int).toNat*1) (shI .shl .u64 1 (a.n:Int)) i)))]⟩ [] (ids:=[(5000,5000)]) ⟨rfl,rfl,rfl⟩ (hle:=klR [(0,.fn 33 33 (λi=>[(λi=>(Ec 33 (λi=>if i=(0+(a.n:Int).toNat*1)then (pI .u64 (shI .shl .u64 1 (a.n:Int)))else (λi=>(List.replicate 33 (pI .u64 0)).getD i default) i)).getD i default) i]) (λi=>[pI .u64 (OG (λ_=>0) (0+(a.n:Int).toNat*1) (shI .shl .u64 1 (a.n:Int)) i)]))] (al1 ⟨rfl,λi b=>(DA 33 (λi=>if i=(0+(a.n:Int).toNat*1)then (pI .u64 (shI .shl .u64 1 (a.n:Int)))else (λi=>(List.replicate 33 (pI .u64 0)).getD i default) i) i b).trans (AQ7 (c:=pI .u64) (v:=λ_=>0) (x:=shI .shl .u64 1 (a.n:Int)) (OF (z:=pI .u64 0) rfl) rfl i b)⟩ al0))
 obtain⟨c3,h⟩:=C9 h;obtain rfl:=B0 h;exact J7 Z (Ki (Ki (Ki (by decide:(0:Int)<=0) c3.1) c3.2) (Ki rfl (G7 _ _):(0:Nat)=0/\(Ec 33 (λi=>if i=(0+0*1)then (pI .u64 (shI .shl .u64 1 0))else (λi=>(List.replicate 33 (pI .u64 0)).getD i default) i)).length=33)) ⟨[(4,.reg 5000 0)],[(5000,.arr 33 (λi=>pI .u64 (OG (λ_=>0) (0+0*1) (shI .shl .u64 1 0) i)))]⟩ [] (ids:=[(5000,5000)]) ⟨rfl,rfl,rfl⟩ (hle:=klR [(0,.fn 33 33 (λi=>[(λi=>(Ec 33 (λi=>if i=(0+0*1)then (pI .u64 (shI .shl .u64 1 0))else (λi=>(List.replicate 33 (pI .u64 0)).getD i default) i)).getD i default) i]) (λi=>[pI .u64 (OG (λ_=>0) (0+0*1) (shI .shl .u64 1 0) i)]))] (al1 ⟨rfl,λi b=>(DA 33 (λi=>if i=(0+0*1)then (pI .u64 (shI .shl .u64 1 0))else (λi=>(List.replicate 33 (pI .u64 0)).getD i default) i) i b).trans (AQ7 (c:=pI .u64) (v:=λ_=>0) (x:=shI .shl .u64 1 0) (OF (z:=pI .u64 0) rfl) rfl i b)⟩ al0))
def CR (rec:Part->(Sl Jf)->Option (Nat->Int))(N:Nat)(p_x:Pseq)(b:Sl Jf):Option (Nat->Int):= (S8 N (b.n:Int)).bind λy1=>Bx N (λa (x1:Nat->Int) (x2:Int)=>if (decide (x2<(p_x.l.n:Int))) then if ((0:Int)<=x2/\x2<(p_x.l.n:Int))then (rec (p_x.l.g x2.toNat) b).bind λy6=>(F1 N x1 y6).bind λy7=>a y7 (wrap .i64 (x2+1)) else none else some x1) y1 0
theorem Tw {rec:Part->(Sl Jf)->Option ((Nat->Int))}(b:∀{x:Part}{b0:(Sl Jf)}{y:(Nat->Int)},rec x b0=some y->Ba8 S Tryz.prog (Ic x) "ablaut/pats.in" [(.p (vSl 2 A0 b0))] (.p (.agg (cA 33 (pI .u64) y)))){p_x:Pseq}{a:(Sl Jf)}{y:(Nat->Int)}(h:CR rec N p_x a=some y) :Mb S Ha [(.p (.agg (Bd0 p_x))),(.p (vSl 2 A0 a))] [] (.p (.agg (cA 33 (pI .u64) y))) ([]) []:=by
 unfold CR at h;refine A2 Z func251 ?_;refine kC Z h (Fh Z Y) (λy1 h=>?_);refine I4 Z (Ki rfl (G7 _ _):(0:Nat)=0/\(Ec 33 (λi=>pI .u64 (y1 i))).length=33) h (λx1 x2=>⟨[(15,(pN x2)),(14,(pN (p_x.l.n:Int))),(13,(.p (vSl 1 Jq p_x.l))),(5,(.reg 6000 0)),(4,(.reg 5000 0)),(1,(.p (vSl 2 A0 a)))],[(6000,(.arr 33 (λi=>pI .u64 (x1 i)))),(5000,(.arr 33 (λi=>pI .u64 ((λ_=>0) i))))]⟩) (ids:=(Kg [5000,6000])) (λ_ _ _ _ _ c x1 x2 d h=>?_) (hle:=(kl2 4 5 (MA 33 (λi=>pI .u64 (y1 i))) (AC5 33 (pI .u64 0))));apply kI Z h<;>intro h
 .obtain⟨c6,h⟩:=C9 h;obtain⟨y6,e6,h⟩:=A8 h;refine NI Z c6 (b e6) ?_;refine KS Z (Ki rfl (G7 _ _):(0:Nat)=0/\(Ec 33 (λi=>pI .u64 (y6 i))).length=33) ⟨[(15,(pN x2)),(14,(pN (p_x.l.n:Int))),(13,(.p (vSl 1 Jq p_x.l))),(8,(.reg 9000 0)),(5,(.reg 6000 0)),(4,(.reg 5000 0)),(1,(.p (vSl 2 A0 a)))],[(9000,(.arr 33 (λi=>pI .u64 (y6 i)))),(6000,(.arr 33 (λi=>pI .u64 (x1 i)))),(5000,(.arr 33 (λi=>pI .u64 ((λ_=>0) i))))]⟩ (ids:=(Kg [5000,6000,9000])) ?_ (hle:=(kl1 4 (MA 33 (λi=>pI .u64 (y6 i)))));obtain⟨y7,e7,h⟩:=A8 h;refine B3 Z [6000,9000] Fc (V5 Z Y e7) ?_;exact d _ (Kg [5000,6000]) _ y7 (wrap .i64 (x2+1)) (Ki rfl (G7 _ _):(0:Nat)=0/\(Ec 33 (λi=>pI .u64 (y7 i))).length=33) h (hle:=kl1 4 (MA 33 (λi=>pI .u64 (y7 i))))
 obtain rfl:=B0 h;exact J7 Z (Ki rfl (G7 _ _):(0:Nat)=0/\(Ec 33 (λi=>pI .u64 (x1 i))).length=33) ⟨[(4,(.reg 5000 0))],[(5000,(.arr 33 (λi=>pI .u64 (x1 i))))]⟩ [] (ids:=[(5000,5000)]) ⟨rfl,rfl,rfl⟩ (hle:=(kl1 0 (MA 33 (λi=>pI .u64 (x1 i)))))
def CS (rec:Part->(Sl Jf)->Option (Nat->Int))(N:Nat)(p_x:Palt)(b:Sl Jf):Option (Nat->Int):= Bx N (λa (x1:Nat->Int) (x2:Int)=>if (decide (x2<(p_x.l.n:Int))) then if ((0:Int)<=x2/\x2<(p_x.l.n:Int))then (rec (p_x.l.g x2.toNat) b).bind λy5=>(P5 N x1 y5).bind λy6=>a y6 (wrap .i64 (x2+1)) else none else some x1) (λ_=>0) 0
theorem Tx {rec:Part->(Sl Jf)->Option ((Nat->Int))}(b:∀{x:Part}{b0:(Sl Jf)}{y:(Nat->Int)},rec x b0=some y->Ba8 S Tryz.prog (Ic x) "ablaut/pats.in" [(.p (vSl 2 A0 b0))] (.p (.agg (cA 33 (pI .u64) y)))){p_x:Palt}{a:(Sl Jf)}{y:(Nat->Int)}(h:CS rec N p_x a=some y) :Mb S GY [(.p (.agg (Bc7 p_x))),(.p (vSl 2 A0 a))] [] (.p (.agg (cA 33 (pI .u64) y))) ([]) []:=by
 unfold CS at h;refine A2 Z func246 ?_;refine I4 Z Fc h (λx1 x2=>⟨[(11,(pN x2)),(10,(pN (p_x.l.n:Int))),(9,(.p (vSl 1 Jq p_x.l))),(4,(.reg 5000 0)),(1,(.p (vSl 2 A0 a)))],[(5000,(.arr 33 (λi=>pI .u64 (x1 i))))]⟩) (ids:=[(5000,5000)]) (λ_ _ _ _ _ c x1 x2 d h=>?_) (hle:=(kl1 4 (AC5 33 (pI .u64 0))));apply kI Z h<;>intro h
 .obtain⟨c6,h⟩:=C9 h;obtain⟨y5,e5,h⟩:=A8 h;refine NI Z c6 (b e5) ?_;refine KS Z (Ki rfl (G7 _ _):(0:Nat)=0/\(Ec 33 (λi=>pI .u64 (y5 i))).length=33) ⟨[(11,(pN x2)),(10,(pN (p_x.l.n:Int))),(9,(.p (vSl 1 Jq p_x.l))),(7,(.reg 8000 0)),(4,(.reg 5000 0)),(1,(.p (vSl 2 A0 a)))],[(8000,(.arr 33 (λi=>pI .u64 (y5 i)))),(5000,(.arr 33 (λi=>pI .u64 (x1 i))))]⟩ (ids:=(Kg [5000,8000])) ?_ (hle:=(kl1 4 (MA 33 (λi=>pI .u64 (y5 i)))));obtain⟨y6,e6,h⟩:=A8 h;refine B3 Z [5000,8000] Fc (FL Z Y e6) ?_;exact d _ [(5000,5000)] _ y6 (wrap .i64 (x2+1)) Fc h
 obtain rfl:=B0 h;exact J7 Z (Ki rfl (G7 _ _):(0:Nat)=0/\(Ec 33 (λi=>pI .u64 (x1 i))).length=33) ⟨[(4,(.reg 5000 0))],[(5000,(.arr 33 (λi=>pI .u64 (x1 i))))]⟩ [] (ids:=[(5000,5000)]) ⟨rfl,rfl,rfl⟩ (hle:=(kl1 0 (MA 33 (λi=>pI .u64 (x1 i)))))
def CT (rec:Part->(Sl Jf)->Option (Nat->Int))(N:Nat)(p_x:Bc8)(a:Sl Jf):Option (Nat->Int):= (rec p_x.of a).bind λy1=>(G4 N y1 p_x.min (a.n:Int)).bind λy2=>(S8 N (a.n:Int)).bind λy3=>(P5 N y1 y3).bind λy4=>if (decide (p_x.max<0)) then (G4 N y4 (a.n:Int) (a.n:Int)).bind λy5=>(F1 N y2 y5).bind λy6=>some y6 else (G4 N y4 (wrap .i64 (p_x.max-p_x.min)) (a.n:Int)).bind λy7=>(F1 N y2 y7).bind λy8=>some y8
theorem Ty {rec:Part->(Sl Jf)->Option ((Nat->Int))}(b:∀{x:Part}{b0:(Sl Jf)}{y:(Nat->Int)},rec x b0=some y->Ba8 S Tryz.prog (Ic x) "ablaut/pats.in" [(.p (vSl 2 A0 b0))] (.p (.agg (cA 33 (pI .u64) y)))){p_x:Bc8}{a:(Sl Jf)}{y:(Nat->Int)}(h:CT rec N p_x a=some y) :Mb S GZ [(.p (.agg (Bc9 p_x))),(.p (vSl 2 A0 a))] [] (.p (.agg (cA 33 (pI .u64) y))) ([]) []:=by
 unfold CT at h;refine A2 Z func248 ?_;obtain⟨y1,e1,h⟩:=A8 h;refine NI Z Fc (b e1) ?_;refine KS Z (Ki rfl (G7 _ _):(0:Nat)=0/\(Ec 33 (λi=>pI .u64 (y1 i))).length=33) ⟨[(18,(pN (a.n:Int))),(16,(pN p_x.min)),(14,(.p (.agg (cA 33 (pI .u64) y1)))),(5,(.reg 6000 0)),(4,(.reg 5000 0)),(2,(.reg 3000 0)),(1,(.p (vSl 2 A0 a)))],[(6000,(.arr 33 (λi=>pI .u64 (y1 i)))),(5000,(.arr 33 (λi=>pI .u64 ((λ_=>0) i)))),(3000,(.cells [(.p (Ic p_x.of)),(pN p_x.min),(pN p_x.max)]))]⟩ (ids:=(Kg [3000,5000,6000])) ?_ (hle:=(klR [(2,.eq (.agg (Ec 33 (λi=>(cA 33 (pI .u64) y1).getD i default))) (.agg (cA 33 (pI .u64) y1))),(4,.fn 33 33 (λi=>[(λi=>(cA 33 (pI .u64) y1).getD i default) i]) (λi=>[pI .u64 (y1 i)])),(5,.fn 33 33 (λi=>[(λi=>(List.replicate 33 (pI .u64 0)).getD i default) i]) (λi=>[pI .u64 ((λ_=>0) i)]))] (al1 (congrArg PV.agg (Ac3 (DA 33 (λi=>pI .u64 (y1 i))))) (al1 ⟨rfl,(DA 33 (λi=>pI .u64 (y1 i)))⟩ (al1 ⟨rfl,(OF (z:=pI .u64 0) rfl)⟩ al0)))));refine kC Z h (Av Z Y) (λy2 h=>?_);obtain⟨y3,e3,h⟩:=A8 h;refine B3 Z [] (Ki (Ki rfl (G7 _ _):(0:Nat)=0/\(Ec 33 (λi=>pI .u64 (y2 i))).length=33) (Ki rfl (G7 _ _):(0:Nat)=0/\(Ec 33 (λi=>pI .u64 (y1 i))).length=33)) (Fh Z Y e3) ?_;refine KS Z (Ki rfl (G7 _ _):(0:Nat)=0/\(Ec 33 (λi=>pI .u64 (y3 i))).length=33) ⟨[(8,(.reg 9000 0)),(7,(.reg 8000 0)),(6,(.reg 7000 0)),(4,(.reg 5000 0)),(2,(.reg 3000 0)),(1,(.p (vSl 2 A0 a)))],[(9000,(.arr 33 (λi=>pI .u64 (y3 i)))),(8000,(.arr 33 (λi=>pI .u64 (y1 i)))),(7000,(.arr 33 (λi=>pI .u64 (y2 i)))),(5000,(.arr 33 (λi=>pI .u64 ((λ_=>0) i)))),(3000,(.cells [(.p (Ic p_x.of)),(pN p_x.min),(pN p_x.max)]))]⟩ (ids:=(Kg [3000,5000,7000,8000,9000])) ?_ (hle:=(klR [(1,.fn 33 33 (λi=>[(λi=>(cA 33 (pI .u64) y3).getD i default) i]) (λi=>[pI .u64 (y3 i)])),(2,.fn 33 33 (λi=>[(λi=>(cA 33 (pI .u64) y1).getD i default) i]) (λi=>[pI .u64 (y1 i)])),(3,.fn 33 33 (λi=>[(λi=>(cA 33 (pI .u64) y2).getD i default) i]) (λi=>[pI .u64 (y2 i)]))] (al1 ⟨rfl,(DA 33 (λi=>pI .u64 (y3 i)))⟩ (al1 ⟨rfl,(DA 33 (λi=>pI .u64 (y1 i)))⟩ (al1 ⟨rfl,(DA 33 (λi=>pI .u64 (y2 i)))⟩ al0)))));obtain⟨y4,e4,h⟩:=A8 h;refine B3 Z [8000,9000] Fc (FL Z Y e4) ?_;apply kI Z h<;>intro h
 .refine kC Z h (Av Z Y) (λy5 h=>?_);refine KS Z (Ki rfl (G7 _ _):(0:Nat)=0/\(Ec 33 (λi=>pI .u64 (y5 i))).length=33) ⟨[(7,(.reg 8000 0)),(6,(.reg 7000 0)),(4,(.reg 5000 0))],[(8000,(.arr 33 (λi=>pI .u64 (y5 i)))),(7000,(.arr 33 (λi=>pI .u64 (y2 i)))),(5000,(.arr 33 (λi=>pI .u64 ((λ_=>0) i))))]⟩ (ids:=(Kg [5000,7000,8000])) ?_ (hle:=(kl1 0 (MA 33 (λi=>pI .u64 (y5 i)))));obtain⟨y6,e6,h⟩:=A8 h;refine B3 Z [7000,8000] Fc (V5 Z Y e6) ?_;obtain rfl:=B0 h;exact J7 Z (Ki rfl (G7 _ _):(0:Nat)=0/\(Ec 33 (λi=>pI .u64 (y6 i))).length=33) ⟨[(4,(.reg 5000 0))],[(5000,(.arr 33 (λi=>pI .u64 (y6 i))))]⟩ [] (ids:=[(5000,5000)]) ⟨rfl,rfl,rfl⟩ (hle:=(kl1 0 (MA 33 (λi=>pI .u64 (y6 i)))))
 refine kC Z h (Av Z Y) (λy7 h=>?_);refine KS Z (Ki rfl (G7 _ _):(0:Nat)=0/\(Ec 33 (λi=>pI .u64 (y7 i))).length=33) ⟨[(7,(.reg 8000 0)),(6,(.reg 7000 0)),(4,(.reg 5000 0))],[(8000,(.arr 33 (λi=>pI .u64 (y7 i)))),(7000,(.arr 33 (λi=>pI .u64 (y2 i)))),(5000,(.arr 33 (λi=>pI .u64 ((λ_=>0) i))))]⟩ (ids:=(Kg [5000,7000,8000])) ?_ (hle:=(kl1 0 (MA 33 (λi=>pI .u64 (y7 i)))));obtain⟨y8,e8,h⟩:=A8 h;refine B3 Z [7000,8000] Fc (V5 Z Y e8) ?_;obtain rfl:=B0 h;exact J7 Z (Ki rfl (G7 _ _):(0:Nat)=0/\(Ec 33 (λi=>pI .u64 (y8 i))).length=33) ⟨[(4,(.reg 5000 0))],[(5000,(.arr 33 (λi=>pI .u64 (y8 i))))]⟩ [] (ids:=[(5000,5000)]) ⟨rfl,rfl,rfl⟩ (hle:=(kl1 0 (MA 33 (λi=>pI .u64 (y8 i)))))
def Y9 (rec:Pat->Option Part)(N:Nat)(a:Pat):Option Part:= Bx N (λb (x1:Sl Part) (x2:Int)=>if (decide (x2<(a.L.n:Int))) then if ((0:Int)<=x2/\x2<(a.L.n:Int))then (rec (a.L.g x2.toNat)).bind λy3=>if (Kh 16 (x1.n+(Sl.of [y3]:Sl Part).n))then b (x1.push y3) (wrap .i64 (x2+1)) else none else none else if (a.Kind==1) then some (Part.sound a.Is a.Not) else if (a.Kind==2) then some (Part.edge false) else if (a.Kind==6) then some (Part.edge true) else if (a.Kind==4) then some (Part.alt x1.n x1.g) else if (a.Kind==5) then if (((0:Int)<=0/\0<(x1.n:Int))/\0<x1.n)then some (Part.rep (x1.g 0) a.Min a.Max) else none else some (Part.seq x1.n x1.g)) (Sl.nil:Sl Part) 0
def BP:Nat->Pat->Option Part
 |0=>λ_=>none
 |N+1=>Y9 (BP N) N
theorem PA {rec:Pat->Option Part}(b:∀{a:Pat}{y:Part},rec a=some y->Mb S DC [.p (.agg (D5 a))] [] (.p (Ic y)) ([]) []){a:Pat}{y:Part}(h:Y9 rec N a=some y) :Mb S DC [.p (.agg (D5 a))] [] (.p (Ic y)) ([]) []:=by
 unfold Y9 at h;refine A2 Z func223 ?_;refine F6 Z Fc 2 2000 (D5 a) ?_;refine O7 Z Fc 8 ⟨[(7,.p (vSl 7 D5 a.L)),(3,.p C8),(1,.p (.ptr (D5 a)))],[]⟩ (ids:=[]) ?_ (hle:=klR [(0,.fn a.L.n a.L.n (EC a) (λi=>D5 (a.L.g i)))] (al1 ⟨rfl,BY a⟩ al0));refine I4 Z Fc h (λx1 x2=>⟨[(9,pN x2),(8,pN (a.L.n:Int)),(7,.p (vSl 7 D5 a.L)),(3,.vec 4500),(1,.p (.ptr (D5 a)))],[(4500,oV XN 1 Jq x1 false)]⟩) (ids:=[]) (λ_ _ _ _ _ c x1 x2 d h=>?_);apply kI Z h<;>intro h
 .obtain⟨c6,h⟩:=C9 h;refine F6 Z (Ki c6 Im) 13 6000 (D5 (a.L.g x2.toNat)) ?_;obtain⟨y3,e3,h⟩:=A8 h;refine B3 Z [] Im (b e3) ?_;obtain⟨c7,h⟩:=C9 h;exact d _ [(4500,18000)] _ (x1.push y3) (wrap .i64 (x2+1)) (Ki Iu c7) h (hle:=kl1 4 (X5 Jq x1 y3 [.v .nilIface]))
 apply kI Z h<;>intro h
 .obtain rfl:=B0 h;exact Am0 Z (by decide:(2:Nat)<=6) [] ⟨rfl,rfl,rfl⟩
 apply kI Z h<;>intro h
 .cases h;exact kR Z
 apply kI Z h<;>intro h
 .cases h;exact kR Z
 apply kI Z h<;>intro h
 .refine O7 Z Fc 40 ⟨[(39,.p (vSl 1 Jq x1))],[]⟩ (ids:=[]) ?_;cases h;exact kR Z
 apply kI Z h<;>intro h
 .refine E3 Z Fc [4,6] ?_;obtain⟨c13,h⟩:=C9 h;refine C7 c13 ?_;cases h;exact kR Z
 refine O7 Z Fc 54 ⟨[(53,.p (vSl 1 Jq x1))],[]⟩ (ids:=[]) ?_;cases h;exact kR Z
theorem QJ {a:Pat}{y:Part}(h:BP N a=some y) :Mb S DC [.p (.agg (D5 a))] [] (.p (Ic y)) ([]) []:=by
 induction N generalizing a y with
 |zero=>cases (show (none:Option Part)=some y from h)
 |succ N ih=>exact PA Z Y (λe=>ih e) h
end Go.AM
namespace Go.AM
open Go.Proofs
variable {S:U6}(Z:G6 S Tryz.prog) (Y:Km S)
include Z Y
def BQ:Nat->Part->Sl Jf->Option (Nat->Int)
 |0=>λ_ _=>none
 |N+1=>λp w=>match p with
  |.nil=>none
  |.sound x no=>Aw N ⟨x,no⟩ w
  |.edge e=>BO N ⟨e⟩ w
  |.seq n g=>CR (BQ N) N ⟨⟨n,g⟩⟩ w
  |.alt n g=>CS (BQ N) N ⟨⟨n,g⟩⟩ w
  |.rep o mn mx=>CT (BQ N) N ⟨o,mn,mx⟩ w
theorem Ao5 {N:Nat}{x:Part}{w:Sl Jf}{y:Nat->Int}(h:BQ N x w=some y):Ba8 S Tryz.prog (Ic x) "ablaut/pats.in" [(.p (vSl 2 A0 w))] (.p (.agg (cA 33 (pI .u64) y))):=by
 induction N generalizing x w y with
 |zero=>cases h
 |succ N ih=>
  cases x with
  |nil=>cases h
  |sound s no=>exact⟨_,_,Fe,rfl,by kernel_rfl,Pz Z Y (p_x:=⟨s,no⟩) h⟩
  |edge e=>exact⟨_,_,FY,rfl,by kernel_rfl,QI Z Y (N:=N) (p_x:=⟨e⟩) h⟩
  |seq n g=>exact⟨_,_,Ha,rfl,by kernel_rfl,Tw Z Y (λe=>ih e) (p_x:=⟨⟨n,g⟩⟩) h⟩
  |alt n g=>exact⟨_,_,GY,rfl,by kernel_rfl,Tx Z Y (λe=>ih e) (p_x:=⟨⟨n,g⟩⟩) h⟩
  |rep o mn mx=>exact⟨_,_,GZ,rfl,by kernel_rfl,Ty Z Y (λe=>ih e) (p_x:=⟨o,mn,mx⟩) h⟩
end Go.AM
namespace Go.AM
open Go.Proofs.Tryz
variable {N:Nat}
open IntKind (wrap)
open Go.Proofs
set_option maxRecDepth 10000
set_option maxHeartbeats 2000000
variable {S:U6}(Z:G6 S Tryz.prog) (Y:Km S)
include Z Y
def W3 (N:Nat)(a:Jf):Option Bool:= (R5 N a).bind λy1=>some (!y1)
theorem PB {a:Jf}{y:Bool}(h:W3 N a=some y) :Mb S Ix [.p (.agg (A0 a))] [] (pB y) ([]) []:=by unfold W3 at h;refine A2 Z func222 ?_;refine kC Z h (FK Z Y) (λy1 h=>?_);cases h;exact kR Z
def F0 (N:Nat)(a:Sl Jf)(c:Jf->Option Bool):Option Int:= W8 N (λb (x1:Int)=>if (decide (x1<(a.n:Int))) then if ((0:Int)<=x1/\x1<(a.n:Int))then (c (a.g x1.toNat)).bind λy3=>if y3 then some x1 else b (wrap .i64 (x1+1)) else none else some (-1)) 0
theorem Ad {a:Sl Jf}{c:Jf->Option Bool}{kp_f:Nat}(d:∀{a0:Jf}{b:Bool},c a0=some b->Mb S kp_f [.p (.agg (A0 a0))] [] (pB b) [] []){y:Int}(h:F0 N a c=some y) :Mb S O2 [.p (vSl 2 A0 a),.clo kp_f [] []] [] (pN y) ([]) []:=by
 unfold F0 at h;refine A2 Z func132 ?_;refine P9 Z Fc h (λx1=>⟨[(8,pN x1),(7,pN (a.n:Int)),(1,.clo kp_f [] []),(0,.p (vSl 2 A0 a))],[]⟩) (ids:=[]) (λ_ _ _ _ _ f x1 g h=>?_);apply kI Z h<;>intro h
 .obtain⟨c8,h⟩:=C9 h;obtain⟨y3,e3,h⟩:=A8 h;refine B3 Z [] (Ki c8 Hm) (d e3) ?_;apply kI Z h<;>intro h
  .cases h;exact kR Z
  exact g _ [] _ (wrap .i64 (x1+1)) Fc h
 cases h;exact kR Z
def B8 (N:Nat)(a:Sl Jf)(b:Jf->Option Bool):Option Bool:= (F0 N a b).bind λy1=>some (decide (0<=y1))
theorem N1 {a:Sl Jf}{c:Jf->Option Bool}{kp_f:Nat}(d:∀{a0:Jf}{b:Bool},c a0=some b->Mb S kp_f [.p (.agg (A0 a0))] [] (pB b) [] []){y:Bool}(h:B8 N a c=some y) :Mb S N0 [.p (vSl 2 A0 a),.clo kp_f [] []] [] (pB y) ([]) []:=by unfold B8 at h;refine A2 Z func88 ?_;refine kC Z h (Ad Z Y (λe=>d e)) (λy1 h=>?_);cases h;exact kR Z
def E1 (N:Nat)(q0:Sl Pat):Option (List (Int×Pat)):= W8 N (λa (x1:Int)=>if (decide (0<=x1)) then if ((0:Int)<=x1/\x1<(q0.n:Int))then Ag (x1,q0.g x1.toNat) (a (wrap .i64 (x1-1))) else none else some []) (wrap .i64 ((q0.n:Int)-1))
theorem AU {q0:Sl Pat}{L:List (Int×Pat)}(h:E1 N q0=some L) :ET S J1 [] [.reg 0 0] [.cells [.p (vSl 7 D5 q0)]] (L.map (λ(x:Int×Pat)=>[pI .i64 x.1,(λx=>.agg (D5 x)) x.2])):=by
 unfold E1 at h;refine EB Z func173 ?_;refine Dl Z Fc h (λx1 L1=>⟨[(3,pN x1),(1,.reg 0 0),(0,.yf 1)],[(1,.yld (L1.map (λ(x:Int×Pat)=>[pI .i64 x.1,(λx=>.agg (D5 x)) x.2])) true),(0,.cells [.p (vSl 7 D5 q0)])]⟩) (ids:=(Kg [0,1])) (λ_ _ _ _ _ d x1 L1 f h=>?_);apply kI Z h<;>intro h
 .obtain⟨c10,h⟩:=C9 h;obtain⟨L4,rfl,c⟩:=LY h;replace h:=c;refine Dk Z (Ki c10 Im) (ys:=(λ(x:Int×Pat)=>[pI .i64 x.1,(λx=>.agg (D5 x)) x.2]) (x1,q0.g x1.toNat)) (rest:=L4.map (λ(x:Int×Pat)=>[pI .i64 x.1,(λx=>.agg (D5 x)) x.2])) ?_ ?_
  .refine D0 Z Fc (b:=false) (λc11=>?_) (λc11=>?_)
   .exact Bool.noConfusion ((rfl:false=false).symm.trans c11)
   exact f _ (Kg [0,1]) _ (wrap .i64 (x1-1)) L4 Fc h
  refine D0 Z Fc (b:=true) (λc12=>?_) (λc12=>?_)
  .exact kO Z Fc (a:=.tup []) (objs:=[(.cells [.p (vSl 7 D5 q0)]),.yld [] false]) [0,1] ⟨false,rfl,rfl,_,rfl⟩
  exact Bool.noConfusion (Iu.symm.trans c12)
 obtain rfl:=B0 h;exact kO Z Fc (a:=.tup []) (objs:=[(.cells [.p (vSl 7 D5 q0)]),.yld [] true]) [0,1] ⟨true,rfl,rfl,_,rfl⟩
def K0 (N:Nat)(a:Sl Pat):Option (Sl Pat):= some a
theorem BR {a:Sl Pat}{y:Sl Pat}(h:K0 N a=some y) :Mb S R0 [.p (vSl 7 D5 a)] [] (.clo J1 [] [.reg 0 0]) ([.cells [.p (vSl 7 D5 y)]]) []:=by unfold K0 at h;refine A2 Z func131 ?_;obtain rfl:=B0 h;exact kO Z Fc [2000]
def Ax (N:Nat)(c:Pat):Option Int:= Bx N (λa (x3:Sl Pat) (x4:Int)=>if (decide (0<(x3.n:Int))) then if (x4==40) then some 12 else if (((0:Int)<=(wrap .i64 ((x3.n:Int)-1))/\(wrap .i64 ((x3.n:Int)-1))<(x3.n:Int))/\(wrap .i64 ((x3.n:Int)-1)).toNat<x3.n)then if ((0:Int)<=(wrap .i64 ((x3.n:Int)-1))/\(wrap .i64 ((x3.n:Int)-1))<=(x3.n:Int))then (BM N (x3.g (wrap .i64 ((x3.n:Int)-1)).toNat)).bind λy5=>if (y5 != 0) then some y5 else if ((0:Int)<=(if 41<((x3.g (wrap .i64 ((x3.n:Int)-1)).toNat).L.n:Int)then 41 else ((x3.g (wrap .i64 ((x3.n:Int)-1)).toNat).L.n:Int))/\(if 41<((x3.g (wrap .i64 ((x3.n:Int)-1)).toNat).L.n:Int)then 41 else ((x3.g (wrap .i64 ((x3.n:Int)-1)).toNat).L.n:Int))<=((x3.g (wrap .i64 ((x3.n:Int)-1)).toNat).L.n:Int))then (K0 N ((x3.g (wrap .i64 ((x3.n:Int)-1)).toNat).L.take (if 41<((x3.g (wrap .i64 ((x3.n:Int)-1)).toNat).L.n:Int)then 41 else ((x3.g (wrap .i64 ((x3.n:Int)-1)).toNat).L.n:Int)).toNat)).bind λy6=>(E1 N y6).bind λL3=>T4 L3 (λb (x7:Int×Pat) (z3:Sl Pat)=>if (((Kh 64 (z3.n+(Sl.of [Pat.nil]:Sl Pat).n))/\((0:Int)<=(z3.n:Int)/\(z3.n:Int)<((z3.push Pat.nil).n:Int)))/\(z3.n:Int).toNat<(z3.push Pat.nil).n)then b ((z3.push Pat.nil).upd (z3.n:Int).toNat x7.2) else none) (λ(z3:Sl Pat)=>a z3 (wrap .i64 (x4+1))) (x3.take (wrap .i64 ((x3.n:Int)-1)).toNat) else none else none else none else some 0) (Sl.of [c]:Sl Pat) 0
theorem IA {b:Pat}{y:Int}(h:Ax N b=some y) :Mb S MO [.p (.agg (D5 b))] [] (pN y) ([]) []:=by
 unfold Ax at h;refine A2 Z func87 ?_;refine F6 Z Fc 2 2000 (D5 b) ?_;refine I4 Z (Ki Im Iu) h (λx3 x4=>⟨[(4,pN x4),(3,.reg 4000 0)],[(4501,oV Gz 7 D5 x3 false),(4000,.cells [.vec 4501])]⟩) (ids:=[(4000,4000),(4501,12000)]) (λ_ _ _ _ _ d x3 x4 j h=>?_) (hle:=kl1 1 (Ac7 D5 ([b]:List Pat) [pI .i64 0,pI .u32 0,pI .u32 0,.v (.bool false),pI .i64 0,pI .i64 0,C8]));apply kI Z h<;>intro h
 .apply kI Z h<;>intro h
  .cases h;exact kR Z
  obtain⟨c21,h⟩:=C9 h;refine F6 Z (Ki (Ki c21.1 Im) c21.2) 25 6000 (D5 (x3.g (wrap .i64 ((x3.n:Int)-1)).toNat)) ?_;obtain⟨c22,h⟩:=C9 h;refine Ba9 Z c22 30 4501 (wrap .i64 ((x3.n:Int)-1)).toNat 4508 (e:=Gz) (k:=7) (N:=x3.n) (f:=λi=>D5 (x3.g i)) (by have q:=c22;omega) ?_;obtain⟨y5,e7,h⟩:=A8 h;refine B3 Z [] Im (QG Z Y e7) ?_;apply kI Z h<;>intro h
  .cases h;exact kR Z
  refine O7 Z Fc 39 ⟨[(38,.p (vSl 7 D5 (x3.g (wrap .i64 ((x3.n:Int)-1)).toNat).L)),(36,.p (vSl 7 D5 (x3.g (wrap .i64 ((x3.n:Int)-1)).toNat).L)),(4,pN x4),(3,.reg 4000 0)],[(4508,.vec Gz 7 (x3.take (wrap .i64 ((x3.n:Int)-1)).toNat).n (λi=>D5 ((x3.take (wrap .i64 ((x3.n:Int)-1)).toNat).g i)) false),(4000,.cells [.vec 4508])]⟩ (ids:=(Kg [4000,4508])) ?_ (hle:=klR [(0,.fn (x3.g (wrap .i64 ((x3.n:Int)-1)).toNat).L.n (x3.g (wrap .i64 ((x3.n:Int)-1)).toNat).L.n (EC (x3.g (wrap .i64 ((x3.n:Int)-1)).toNat)) (λi=>D5 ((x3.g (wrap .i64 ((x3.n:Int)-1)).toNat).L.g i))),(1,.fn (x3.g (wrap .i64 ((x3.n:Int)-1)).toNat).L.n (x3.g (wrap .i64 ((x3.n:Int)-1)).toNat).L.n (EC (x3.g (wrap .i64 ((x3.n:Int)-1)).toNat)) (λi=>D5 ((x3.g (wrap .i64 ((x3.n:Int)-1)).toNat).L.g i)))] (al1 ⟨rfl,BY (x3.g (wrap .i64 ((x3.n:Int)-1)).toNat)⟩ (al1 ⟨rfl,BY (x3.g (wrap .i64 ((x3.n:Int)-1)).toNat)⟩ al0)));obtain⟨c24,h⟩:=C9 h;obtain⟨y6,e8,h⟩:=A8 h;refine B3 Z [] c24 (BR Z Y e8) ?_;obtain⟨L3,e9,h⟩:=A8 h;refine GS Z Fc [44000] [4,3] 905 (λz3=>⟨[(4,pN x4),(3,.reg 4000 0)],[(4500,oV Gz 7 D5 z3 false),(4000,.cells [.vec 4500])]⟩) (idl:=[(4000,4000),(4500,4508)]) h (AU Z Y e9) (λ_=>by kernel_rfl) (λ_=>by kernel_rfl) (λ_=>by kernel_rfl) (λ_=>by kernel_rfl) (λx7 _ m z3 o h=>?_) (λz3 h=>?_)
  .refine Ke Z Fc ?_;refine Qg Z Fc 10000 (D5 x7.2) ?_;refine F7 Z Fc [(0,.l [4000]),(1,.n),(2,.l [4500]),(4,.a [51000,4500]),(5,.l [51000]),(6,.a [51000]),(7,.a [4000])] ?_;refine N3 Im (x:=.sl true 7 1 (H2 [pI .i64 0,pI .u32 0,pI .u32 0,.v (.bool false),pI .i64 0,pI .i64 0,C8] [(0,[pI .i64 0,pI .u32 0,pI .u32 0,.v (.bool false),pI .i64 0,pI .i64 0,C8])])) ?_;obtain⟨c27,h⟩:=C9 h;refine C7 (Ki (Ki c27.1.1 c27.1.2) (Ki (rfl:(7:Nat)=7) (Ki c27.2 Im))) ?_;exact o _ [(905,905),(4000,4000),(4500,51000)] _ ((z3.push Pat.nil).upd (z3.n:Int).toNat x7.2) Fc h (hle:=klR [(0,.fn (z3.n+1) ((z3.push Pat.nil).upd (z3.n:Int).toNat x7.2).n (λl=>if l=(z3.n:Int).toNat then splice (Gf z3.n (λi=>D5 (z3.g i)) (H2 [pI .i64 0,pI .u32 0,pI .u32 0,.v (.bool false),pI .i64 0,pI .i64 0,C8] [(0,[pI .i64 0,pI .u32 0,pI .u32 0,.v (.bool false),pI .i64 0,pI .i64 0,C8])]) l) 0 [pI .i64 x7.2.Kind,pI .u32 x7.2.Is.Plus,pI .u32 x7.2.Is.Minus,.bb x7.2.Not,pI .i64 x7.2.Min,pI .i64 x7.2.Max,.sl false 7 x7.2.L.n (EC x7.2)]else (Gf z3.n (λi=>D5 (z3.g i)) (H2 [pI .i64 0,pI .u32 0,pI .u32 0,.v (.bool false),pI .i64 0,pI .i64 0,C8] [(0,[pI .i64 0,pI .u32 0,pI .u32 0,.v (.bool false),pI .i64 0,pI .i64 0,C8])])) l) (λi=>D5 (((z3.push Pat.nil).upd (z3.n:Int).toNat x7.2).g i)))] (al1 ⟨rfl,setH (c:=D5) (v:=z3.push Pat.nil) (x:=x7.2) (app1H (c:=D5) (v:=z3) (z:=Pat.nil) same rfl) (λ_=>by simp[Gf,H2,splice])⟩ al0))
  exact j _ [(4000,4000),(4501,4500)] _ z3 (wrap .i64 (x4+1)) Fc h
 cases h;exact kR Z
def AW (N:Nat)(b:Pat)(a:Sl Jf):Option ((Nat->Int)×Int):= (Ax N b).bind λy1=>if (y1 != 0) then some (λ_=>0,y1) else if (decide (32<(a.n:Int))) then some (λ_=>0,11) else (B8 N a (λ(u1:Jf)=>W3 N u1)).bind λy2=>if y2 then some (λ_=>0,14) else (BP N b).bind λy3=>(BQ N y3 a).bind λy4=>some (y4,0)
theorem Lu {a:Pat}{b:Sl Jf}{y:(Nat->Int)×Int}(h:AW N a b=some y) :Mb S Lq [.p (.agg (D5 a)),.p (vSl 2 A0 b)] [] (.tup [.p (.agg (cA 33 (pI .u64) y.1)),pN y.2]) ([]) []:=by
 unfold AW at h;refine A2 Z func219 ?_;refine kC Z h (IA Z Y) (λy1 h=>?_);apply kI Z h<;>intro h
 .obtain rfl:=B0 h;exact J7 Z (Ki rfl (G7 _ _):(0:Nat)=0/\(Ec 33 (λi=>pI .u64 ((λ_=>0) i))).length=33) ⟨[(5,pN y1),(4,.reg 5000 0)],[(5000,.arr 33 (λi=>pI .u64 ((λ_=>0) i)))]⟩ [] (ids:=[(5000,5000)]) ⟨rfl,rfl,rfl⟩ (hle:=kl1 1 (MA 33 (λi=>pI .u64 ((λ_=>0) i))))
 apply kI Z h<;>intro h
 .obtain rfl:=B0 h;exact J7 Z (Ki rfl (G7 _ _):(0:Nat)=0/\(Ec 33 (λi=>pI .u64 ((λ_=>0) i))).length=33) ⟨[(5,pN 11),(4,.reg 5000 0)],[(5000,.arr 33 (λi=>pI .u64 ((λ_=>0) i)))]⟩ [] (ids:=[(5000,5000)]) ⟨rfl,rfl,rfl⟩ (hle:=kl1 1 (MA 33 (λi=>pI .u64 ((λ_=>0) i))))
 refine kC Z h (N1 Z Y (λe=>PB Z Y e)) (λy2 h=>?_);apply kI Z h<;>intro h
 .obtain rfl:=B0 h;exact J7 Z (Ki rfl (G7 _ _):(0:Nat)=0/\(Ec 33 (λi=>pI .u64 ((λ_=>0) i))).length=33) ⟨[(5,pN 14),(4,.reg 5000 0)],[(5000,.arr 33 (λi=>pI .u64 ((λ_=>0) i)))]⟩ [] (ids:=[(5000,5000)]) ⟨rfl,rfl,rfl⟩ (hle:=kl1 1 (MA 33 (λi=>pI .u64 ((λ_=>0) i))))
 refine kC Z h (QJ Z Y) (λy3 h=>?_);obtain⟨y4,e4,h⟩:=A8 h;refine NI Z Fc (Ao5 Z Y e4) ?_;obtain rfl:=B0 h;exact J7 Z (Ki rfl (G7 _ _):(0:Nat)=0/\(Ec 33 (λi=>pI .u64 (y4 i))).length=33) ⟨[(5,pN 0),(4,.reg 5000 0)],[(5000,.arr 33 (λi=>pI .u64 (y4 i)))]⟩ [] (ids:=[(5000,5000)]) ⟨rfl,rfl,rfl⟩ (hle:=kl1 1 (MA 33 (λi=>pI .u64 (y4 i))))
def CU (N:Nat)(d:Pat)(c:Sl Jf)(a:Int):Option ((Sl Int)×Int):= (AW N d c).bind λy1=>lt (λ(z1:Int)=>if (z1 != 0) then some (Iv,z1) else Bx N (λb (x2:Sl Int) (x3:Int)=>if (decide (x3<(wrap .i64 ((c.n:Int)+1)))) then if ((((0:Int)<=x3/\x3<33)/\(0+x3.toNat*1)<33)/\(0:Int)<=a)then if ((P2 .and .u64 (shI .shr .u64 (y1.1 (0+x3.toNat*1)) a) 1)==1) then if (Kh 8 (x2.n+(Sl.of [x3]:Sl Int).n))then b (x2.push x3) (wrap .i64 (x3+1)) else none else b x2 (wrap .i64 (x3+1)) else none else some (x2,0)) Iv 0) λk1=>if (y1.2==0) then (AS N c a).bind λy3=>k1 y3 else k1 y1.2
theorem Tz {d:Pat}{c:Sl Jf}{a:Int}{y:(Sl Int)×Int}(h:CU N d c a=some y) :Mb S Lp [.p (.agg (D5 d)),.p (vSl 2 A0 c),pN a] [] (.tup [.vec 0,pN y.2]) ([oV E4 1 (cI .i64) y.1 true]) []:=by
 unfold CU at h;refine A2 Z func215 ?_;refine kC Z h (Lu Z Y) (λy1 h=>?_);refine Mz Z (Ki rfl (G7 _ _):(0:Nat)=0/\(Ec 33 (λi=>pI .u64 (y1.1 i))).length=33) (A4 Z) h 0 (λz1=>⟨[(9,pN z1),(8,.reg 9000 0),(2,pN a),(1,.p (vSl 2 A0 c))],[(9000,.arr 33 (λi=>pI .u64 (y1.1 i)))]⟩) (λM1 k1 f h=>?_) (λz1 h=>?_)
 .apply kI Z h<;>intro h
  .refine kC Z h (Lt Z Y) (λy3 h=>?_);exact f _ [(9000,9000)] _ y3 Fc h (hle:=kl1 3 (MA 33 (λi=>pI .u64 (y1.1 i))))
  exact f _ [(9000,9000)] _ y1.2 Fc h (hle:=kl1 3 (MA 33 (λi=>pI .u64 (y1.1 i))))
 apply kI Z h<;>intro h
 .obtain rfl:=B0 h;exact kO Z Fc [7700]
 refine I4 Z Fc h (λx2 x3=>⟨[(29,pN x3),(28,pN (wrap .i64 ((c.n:Int)+1))),(10,.vec 11500),(8,.reg 9000 0),(2,pN a)],[(11500,oV E4 1 (cI .i64) x2 false),(9000,.arr 33 (λi=>pI .u64 (y1.1 i)))]⟩) (ids:=[(9000,9000)]) (λ_ _ _ _ _ j x2 x3 g h=>?_);apply kI Z h<;>intro h
 .obtain⟨c12,h⟩:=C9 h;refine D0 Z c12 (b:=(P2 .and .u64 (shI .shr .u64 (y1.1 (0+x3.toNat*1)) a) 1)==1) (λc13=>?_) (λc13=>?_)
  .replace h:=itT c13 h;obtain⟨c14,h⟩:=C9 h;exact g _ [(9000,9000),(11500,43000)] _ (x2.push x3) (wrap .i64 (x3+1)) (Ki Iu c14) h (hle:=kl1 3 (X5 (cI .i64) x2 x3 [pI .i64 0]))
  replace h:=itF c13 h;exact g _ (Kg [9000,11500]) _ x2 (wrap .i64 (x3+1)) Fc h
 obtain rfl:=B0 h;exact kO Z Fc [11500]
def J6 (N:Nat)(a:List (Int)):Option (Sl Int):= T4 a (λb (x1:Int) (z1:Sl Int)=>if (Kh 8 (z1.n+(Sl.of [x1]:Sl Int).n))then b (z1.push x1) else none) (λ(z1:Sl Int)=>some z1) Iv
theorem DS {b:List (Int)}{a:Int}{kp_seq:Nat}(fp_seq:∃fn,Bh6[kp_seq]? = some fn/\fn.body.isSome=true/\(fn.name == "runtime.NumGoroutine")=false)(c:ET S kp_seq [] [.reg 0 0] [(.cells [(.p (pI .u64 a))])] (b.map (λ(x:Int)=>[(pI .i64) x]))){y:(Sl Int)}(h:J6 N b=some y) :Mb S P8 [(.p C8),(.clo kp_seq [] [(.reg 0 0)])] [(.cells [(.p (pI .u64 a))])] (.vec 0) ([(oV E4 1 (cI .i64) y true)]) [false]:=by
 unfold J6 at h;refine A2 Z func175 ?_;refine NG Z Fc fp_seq [0] [2] 901 (λz1=>⟨[(2,(.reg 3000 0))],[(3500,(oV E4 1 (cI .i64) z1 false)),(3000,(.cells [(.vec 3500)]))]⟩) (idl:=[(3000,3000)]) h c (λ_=>by kernel_rfl) (λ_=>by kernel_rfl) (λ_=>by kernel_rfl) (λ_=>by kernel_rfl) (λx1 _ d z1 f h=>?_) (λz1 h=>?_)
 .refine Ke Z Fc ?_;obtain⟨c1,h⟩:=C9 h;exact f _ [(901,901),(3000,3000),(3500,12000)] _ (z1.push x1) (Ki Iu c1) h (hle:=kl1 0 (X5 (cI .i64) z1 x1 [(pI .i64 0)]))
 obtain rfl:=B0 h;exact kO Z Fc [3500]
def P1 (N:Nat)(a:List (Int)):Option (Sl Int):= (J6 N a).bind λy1=>some y1
theorem IB {b:List (Int)}{a:Int}{kp_seq:Nat}(fp_seq:∃fn,Bh6[kp_seq]? = some fn/\fn.body.isSome=true/\(fn.name == "runtime.NumGoroutine")=false)(c:ET S kp_seq [] [.reg 0 0] [(.cells [(.p (pI .u64 a))])] (b.map (λ(x:Int)=>[(pI .i64) x]))){y:(Sl Int)}(h:P1 N b=some y) :Mb S Bj [(.clo kp_seq [] [(.reg 0 0)])] [(.cells [(.p (pI .u64 a))])] (.vec 0) ([(oV E4 1 (cI .i64) y true)]) [false]:=by unfold P1 at h;refine A2 Z func138 ?_;obtain⟨y1,e1,h⟩:=A8 h;refine B3 Z [0] Fc (DS Z Y fp_seq c e1) ?_;obtain rfl:=B0 h;exact kO Z Fc [5000]
def Fi (N:Nat)(c:Pat)(b:Sl Jf)(a:Int):Option ((Sl Int)×Int):= (AW N c b).bind λy1=>lt (λ(z1:Int)=>if (z1 != 0) then some (Iv,z1) else if (((0:Int)<=a/\a<33)/\(0+a.toNat*1)<33)then (BN N (y1.1 (0+a.toNat*1))).bind λy4=>(T5 N y4).bind λL1=>(P1 N L1).bind λy5=>some (y5,0) else none) λk1=>if (y1.2==0) then (AS N b a).bind λy3=>k1 y3 else k1 y1.2
theorem XS {b:Pat}{c:Sl Jf}{a:Int}{y:(Sl Int)×Int}(h:Fi N b c a=some y) :Mb S Po [.p (.agg (D5 b)),.p (vSl 2 A0 c),pN a] [] (.tup [.vec 0,pN y.2]) ([oV E4 1 (cI .i64) y.1 true]) []:=by
 unfold Fi at h;refine A2 Z func216 ?_;refine kC Z h (Lu Z Y) (λy1 h=>?_);refine Mz Z (Ki rfl (G7 _ _):(0:Nat)=0/\(Ec 33 (λi=>pI .u64 (y1.1 i))).length=33) (A4 Z) h 0 (λz1=>⟨[(9,pN z1),(8,.reg 9000 0),(2,pN a)],[(9000,.arr 33 (λi=>pI .u64 (y1.1 i)))]⟩) (λM1 k1 d h=>?_) (λz1 h=>?_)
 .apply kI Z h<;>intro h
  .refine kC Z h (Lt Z Y) (λy3 h=>?_);exact d _ [(9000,9000)] _ y3 Fc h (hle:=kl1 2 (MA 33 (λi=>pI .u64 (y1.1 i))))
  exact d _ [(9000,9000)] _ y1.2 Fc h (hle:=kl1 2 (MA 33 (λi=>pI .u64 (y1.1 i))))
 apply kI Z h<;>intro h
 .obtain rfl:=B0 h;exact kO Z Fc [7700]
 obtain⟨c5,h⟩:=C9 h;obtain⟨y4,e4,h⟩:=A8 h;refine B3 Z [] c5 (FZ Z Y e4) ?_;obtain⟨L1,e5,h⟩:=A8 h;obtain⟨y5,e6,h⟩:=A8 h;refine B3 Z [28000] Fc (IB Z Y ⟨_,func224,by decide +kernel,by decide +kernel⟩ (El Z Y e5) e6) ?_;obtain rfl:=B0 h;exact kO Z Fc [29000]
end Go.AM
namespace Go.AM
open Go.Proofs.Tryz
variable {N:Nat}
open IntKind (wrap)
open Go.Proofs
set_option maxRecDepth 10000
set_option maxHeartbeats 2000000
variable {S:U6}(Z:G6 S Tryz.prog) (Y:Km S)
include Z Y
def Dr (N:Nat)(a:Str):Option Bool:= lt (λ(z1:Bool)=>some z1) λk1=>if ((a==[]) != true) then if (decide ((a.length:Int)<=24)) then (DE N a [97,98,99,100,101,102,103,104,105,106,107,108,109,110,111,112,113,114,115,116,117,118,119,120,121,122,65,66,67,68,69,70,71,72,73,74,75,76,77,78,79,80,81,82,83,84,85,86,87,88,89,90,48,49,50,51,52,53,54,55,56,57,45]).bind λy2=>k1 ((y2==[]) != false) else k1 false else k1 false
theorem XT {b:Str}{y:Bool}(h:Dr N b=some y) :Mb S Pe [.p (.str b)] [] (pB y) ([]) []:=by
 unfold Dr at h;refine A2 Z func86 ?_;refine Mz Z Fc (A4 Z) h 0 (λz1=>⟨[(2,pB z1)],[]⟩) (λM1 k1 a h=>?_) (λz1 h=>?_)
 .refine kG Z h (λh=>?_) (λh=>?_)
  .refine kG Z h (λh=>?_) (λh=>?_)
   .refine kC Z h (JJ Z Y) (λy2 h=>?_);exact a _ [] _ ((y2==[]) != false) Fc h
   exact a _ [] _ false Fc h
  exact a _ [] _ false Fc h
 cases h;exact kR Z
def AX (N:Nat)(p_x:Ei)(a:Int):Option Bool:= lt (λ(z1:Bool)=>if z1 then some false else if ((((P2 .andNot .u32 (P2 .or .u32 p_x.Clear p_x.Take) 16777215) != 0)||((P2 .and .u32 p_x.Clear (P2 .or .u32 p_x.Set.Plus p_x.Set.Minus)) != 0))||((P2 .and .u32 p_x.Take (P2 .or .u32 (P2 .or .u32 p_x.Set.Plus p_x.Set.Minus) p_x.Clear)) != 0)) then some false else if (p_x.Take==0) then some (p_x.Of==0) else some ((decide (0<=p_x.Of))&&(decide (p_x.Of<a)))) λk1=>if (decide (p_x.From<(-1))) then k1 true else if (decide (a<=p_x.From)) then k1 true else (H7 N p_x.Set).bind λy2=>k1 (!y2)
theorem Ae1 {p_x:Ei}{b:Int}{y:Bool}(h:AX N p_x b=some y) :Mb S RK [.p (.agg (Ao p_x)),pN b] [] (pB y) ([]) []:=by
 unfold AX at h;refine A2 Z func83 ?_;refine Mz Z Fc (A4 Z) h 0 (λz1=>⟨[(13,pB z1),(5,pU (P2 .or .u32 p_x.Set.Plus p_x.Set.Minus)),(2,.reg 3000 0),(1,pN b)],[(3000,.cells ((Ao p_x).map .p))]⟩) (λM1 k1 c h=>?_) (λz1 h=>?_)
 .refine kG Z h (λh=>?_) (λh=>?_)
  .exact c _ [(3000,3000)] _ true Fc h
  refine kG Z h (λh=>?_) (λh=>?_)
  .exact c _ [(3000,3000)] _ true Fc h
  refine kC Z h (Q8 Z Y) (λy2 h=>?_);exact c _ [(3000,3000)] _ (!y2) Fc h
 apply kI Z h<;>intro h
 .cases h;exact kR Z
 refine kB Z (A4 Z) Fc Fc 16 (.o (.o (.a ((P2 .andNot .u32 (P2 .or .u32 p_x.Clear p_x.Take) 16777215) != 0)) (.a ((P2 .and .u32 p_x.Clear (P2 .or .u32 p_x.Set.Plus p_x.Set.Minus)) != 0))) (.a ((P2 .and .u32 p_x.Take (P2 .or .u32 (P2 .or .u32 p_x.Set.Plus p_x.Set.Minus) p_x.Clear)) != 0))) ?_;apply kI Z h<;>intro h
 .cases h;exact kR Z
 apply kI Z h<;>intro h
 .cases h;exact kR Z
 refine kB Z (A4 Z) Fc Fc 5 (.n (.a (decide (0<=p_x.Of))) (.a (decide (p_x.Of<b)))) ?_;cases h;exact kR Z
def AY (N:Nat)(p_x:Ei)(q0:Int):Option Bool:= (AX N p_x q0).bind λy1=>some (!y1)
theorem TA {p_x:Ei}{q0:Int}{y:Bool}(h:AY N p_x q0=some y) :Mb S Lj [.p (.agg (Ao p_x)),.reg 0 0] [.cells [pN q0]] (pB y) ([.cells [pN q0]]) [true]:=by unfold AY at h;refine A2 Z func82 ?_;refine kC Z h (Ae1 Z Y) (λy1 h=>?_);obtain rfl:=B0 h;exact kO Z Fc [0]
def AZ (N:Nat)(a:Jf):Option Bool:= (H7 N a).bind λy1=>some (!y1)
theorem TB {a:Jf}{y:Bool}(h:AZ N a=some y) :Mb S Lk [.p (.agg (A0 a))] [] (pB y) ([]) []:=by unfold AZ at h;refine A2 Z func84 ?_;refine kC Z h (Q8 Z Y) (λy1 h=>?_);cases h;exact kR Z
def F8 (N:Nat)(a:Sl Ei)(c:Ei->Option Bool):Option Int:= W8 N (λb (x1:Int)=>if (decide (x1<(a.n:Int))) then if ((0:Int)<=x1/\x1<(a.n:Int))then (c (a.g x1.toNat)).bind λy3=>if y3 then some x1 else b (wrap .i64 (x1+1)) else none else some (-1)) 0
theorem Br {c:Sl Ei}{d:Ei->Option Bool}{a:Int}{kp_f:Nat}(f:∀{a0:Ei}{b:Bool},d a0=some b->Mb S kp_f [.p (.agg (Ao a0)),.reg 0 0] [.cells [pN a]] (pB b) [.cells [pN a]] [true]){y:Int}(h:F8 N c d=some y) :Mb S Q2 [.p (vSl 6 Ao c),.clo kp_f [] [.reg 0 0]] [.cells [pN a]] (pN y) ([.cells [pN a]]) [true]:=by
 unfold F8 at h;refine A2 Z func133 ?_;refine P9 Z Fc h (λx1=>⟨[(8,pN x1),(7,pN (c.n:Int)),(1,.clo kp_f [] [.reg 0 0]),(0,.p (vSl 6 Ao c))],[(0,.cells [pN a])]⟩) (ids:=[(0,0)]) (λ_ _ _ _ _ g x1 i h=>?_);apply kI Z h<;>intro h
 .obtain⟨c8,h⟩:=C9 h;obtain⟨y3,e3,h⟩:=A8 h;refine B3 Z [0] (Ki c8 (by decide:(6:Nat)<=6)) (f e3) ?_;apply kI Z h<;>intro h
  .obtain rfl:=B0 h;exact kO Z Fc [0]
  exact i _ [(0,0)] _ (wrap .i64 (x1+1)) Fc h
 obtain rfl:=B0 h;exact kO Z Fc [0]
def D3 (N:Nat)(a:Sl Ei)(b:Ei->Option Bool):Option Bool:= (F8 N a b).bind λy1=>some (decide (0<=y1))
theorem Aj {c:Sl Ei}{d:Ei->Option Bool}{a:Int}{kp_f:Nat}(f:∀{a0:Ei}{b:Bool},d a0=some b->Mb S kp_f [.p (.agg (Ao a0)),.reg 0 0] [.cells [pN a]] (pB b) [.cells [pN a]] [true]){y:Bool}(h:D3 N c d=some y) :Mb S O5 [.p (vSl 6 Ao c),.clo kp_f [] [.reg 0 0]] [.cells [pN a]] (pB y) ([.cells [pN a]]) [true]:=by unfold D3 at h;refine A2 Z func89 ?_;obtain⟨y1,e1,h⟩:=A8 h;refine B3 Z [0] Fc (Br Z Y (λe=>f e) e1) ?_;obtain rfl:=B0 h;exact kO Z Fc [0]
def Ay (N:Nat)(a:Law):Option Int:= (Dr N a.Name).bind λy1=>if (!y1) then some 17 else (Ax N a.Left).bind λy2=>if (y2 != 0) then some 17 else (Ax N a.Right).bind λy3=>if (y3 != 0) then some 17 else if (decide (4<(a.If.n:Int))) then some 17 else if (decide (6<(a.Out.n:Int))) then some 17 else if ((wrap .i64 ((a.If.n:Int)+(a.Out.n:Int)))==0) then some 17 else if ((decide (a.Mode<1))||(decide (3<a.Mode))) then some 17 else (B8 N a.If (λ(u1:Jf)=>AZ N u1)).bind λy4=>if y4 then some 17 else (D3 N a.Out (λ(u2:Ei)=>AY N u2 (a.If.n:Int))).bind λy5=>if y5 then some 17 else some 0
theorem Hb {c:Law}{y:Int}(h:Ay N c=some y) :Mb S OZ [.p (.agg (B4 c))] [] (pN y) ([]) []:=by
 unfold Ay at h;refine A2 Z func52 ?_;refine kC Z h (XT Z Y) (λy1 h=>?_);refine D0 Z Fc (b:=!y1) (λc1=>?_) (λc1=>?_)
 .replace h:=itT c1 h;refine D0 Z Fc (b:=!y1) (λc2=>?_) (λc2=>?_)
  .cases h;exact kR Z
  exact Bool.noConfusion (c1.symm.trans c2)
 replace h:=itF c1 h;refine kC Z h (IA Z Y) (λy2 h=>?_);refine D0 Z Fc (b:=y2 != 0) (λc3=>?_) (λc3=>?_)
 .replace h:=itT c3 h;refine D0 Z Fc (b:=y2 != 0) (λc4=>?_) (λc4=>?_)
  .cases h;exact kR Z
  exact Bool.noConfusion (c3.symm.trans c4)
 replace h:=itF c3 h;refine kC Z h (IA Z Y) (λy3 h=>?_);refine D0 Z Fc (b:=y3 != 0) (λc5=>?_) (λc5=>?_)
 .replace h:=itT c5 h;refine D0 Z Fc (b:=y3 != 0) (λc6=>?_) (λc6=>?_)
  .cases h;exact kR Z
  exact Bool.noConfusion (c5.symm.trans c6)
 replace h:=itF c5 h;refine D0 Z Fc (b:=decide (4<(c.If.n:Int))) (λc7=>?_) (λc7=>?_)
 .replace h:=itT c7 h;refine D0 Z Fc (b:=decide (4<(c.If.n:Int))) (λc8=>?_) (λc8=>?_)
  .cases h;exact kR Z
  exact Bool.noConfusion (c7.symm.trans c8)
 replace h:=itF c7 h;refine D0 Z Fc (b:=decide (6<(c.Out.n:Int))) (λc9=>?_) (λc9=>?_)
 .replace h:=itT c9 h;refine D0 Z Fc (b:=decide (6<(c.Out.n:Int))) (λc10=>?_) (λc10=>?_)
  .cases h;exact kR Z
  exact Bool.noConfusion (c9.symm.trans c10)
 replace h:=itF c9 h;refine D0 Z Fc (b:=(wrap .i64 ((c.If.n:Int)+(c.Out.n:Int)))==0) (λc11=>?_) (λc11=>?_)
 .replace h:=itT c11 h;refine D0 Z Fc (b:=(wrap .i64 ((c.If.n:Int)+(c.Out.n:Int)))==0) (λc12=>?_) (λc12=>?_)
  .cases h;exact kR Z
  exact Bool.noConfusion (c11.symm.trans c12)
 replace h:=itF c11 h;refine kB Z (A4 Z) Fc Fc 4 (.o (.a (decide (c.Mode<1))) (.a (decide (3<c.Mode)))) ?_;refine D0 Z Fc (b:=(decide (c.Mode<1))||(decide (3<c.Mode))) (λc13=>?_) (λc13=>?_)
 .replace h:=itT c13 h;refine D0 Z Fc (b:=(decide (c.Mode<1))||(decide (3<c.Mode))) (λc14=>?_) (λc14=>?_)
  .cases h;exact kR Z
  exact Bool.noConfusion (c13.symm.trans c14)
 replace h:=itF c13 h;refine kC Z h (N1 Z Y (λe=>TB Z Y e)) (λy4 h=>?_);refine D0 Z Fc (b:=y4) (λc15=>?_) (λc15=>?_)
 .replace h:=itT c15 h;refine D0 Z Fc (b:=y4) (λc16=>?_) (λc16=>?_)
  .cases h;exact kR Z
  exact Bool.noConfusion (c15.symm.trans c16)
 replace h:=itF c15 h;obtain⟨y5,e5,h⟩:=A8 h;refine B3 Z [4000] Fc (Aj Z Y (λe=>TA Z Y e) e5) ?_;apply kI Z h<;>intro h
 .cases h;exact kR Z
 cases h;exact kR Z
def Fj (N:Nat)(a:Law)(b:Sl Jf):Option Int:= (Ay N a).bind λy1=>if (y1 != 0) then some y1 else (W9 N b).bind λy2=>some y2
theorem XU {a:Law}{b:Sl Jf}{y:Int}(h:Fj N a b=some y) :Mb S Pn [.p (.agg (B4 a)),.p (vSl 2 A0 b)] [] (pN y) ([]) []:=by
 unfold Fj at h;refine A2 Z func199 ?_;refine kC Z h (Hb Z Y) (λy1 h=>?_);apply kI Z h<;>intro h
 .cases h;exact kR Z
 refine kC Z h (DQ Z Y) (λy2 h=>?_);cases h;exact kR Z
def Z7 (N:Nat)(a:Int)(q0:Law)(q1:Sl Jf):Option Bool:= (CU N q0.Left q1 a).bind λy1=>if ((y1.1.n:Int)==0) then some false else (Fi N q0.Right q1 (wrap .i64 (a+(q0.If.n:Int)))).bind λy2=>some (decide (0<(y2.1.n:Int)))
theorem QK {a:Int}{q0:Law}{q1:Sl Jf}{y:Bool}(h:Z7 N a q0 q1=some y) :Mb S BK [pN a,.reg 0 0,.reg 1 0] [.cells ((B4 q0).map .p),.cells [.p (vSl 2 A0 q1)]] (pB y) ([.cells ((B4 q0).map .p),.cells [.p (vSl 2 A0 q1)]]) [true,true]:=by
 unfold Z7 at h;refine A2 Z func214 ?_;refine kC Z h (Tz Z Y) (λy1 h=>?_);apply kI Z h<;>intro h
 .obtain rfl:=B0 h;exact kO Z Fc [0,1]
 refine kC Z h (XS Z Y) (λy2 h=>?_);obtain rfl:=B0 h;exact kO Z Fc [0,1]
def IC (N:Nat)(a:Law)(b:Sl Jf):Option (Law×(Sl Jf)):= some (a,b)
theorem VQ {a:Law}{b:Sl Jf}{y:Law×(Sl Jf)}(h:IC N a b=some y) :Mb S MU [.p (.agg (B4 a)),.p (vSl 2 A0 b)] [] (.clo BK [] [.reg 0 0,.reg 1 0]) ([.cells ((B4 y.1).map .p),.cells [.p (vSl 2 A0 y.2)]]) []:=by unfold IC at h;refine A2 Z func209 ?_;obtain rfl:=B0 h;exact kO Z Fc [3000,4000]
def DT (N:Nat)(a:Law)(b:Sl Jf):Option (Sl Jf):= Bx N (λc (x1:Sl Jf) (x2:Int)=>if (decide (x2<(a.Out.n:Int))) then if ((0:Int)<=x2/\x2<(a.Out.n:Int))then if ((decide (0<=(a.Out.g x2.toNat).From))=true->((0:Int)<=(a.Out.g x2.toNat).From/\(a.Out.g x2.toNat).From<(b.n:Int)))then (Z6 N (⟨(if (decide (0<=(a.Out.g x2.toNat).From)) then (b.g (a.Out.g x2.toNat).From.toNat).Plus else 0),(if (decide (0<=(a.Out.g x2.toNat).From)) then (b.g (a.Out.g x2.toNat).From.toNat).Minus else 0)⟩:Jf) (a.Out.g x2.toNat).Clear (a.Out.g x2.toNat).Set).bind λy5=>if ((a.Out.g x2.toNat).Take != 0) then if ((0:Int)<=(a.Out.g x2.toNat).Of/\(a.Out.g x2.toNat).Of<(b.n:Int))then (Cx N y5.1 (b.g (a.Out.g x2.toNat).Of.toNat) (a.Out.g x2.toNat).Take).bind λy6=>if (Kh 8 (x1.n+(Sl.of [y6.1]:Sl Jf).n))then c (x1.push y6.1) (wrap .i64 (x2+1)) else none else none else if (Kh 8 (x1.n+(Sl.of [y5.1]:Sl Jf).n))then c (x1.push y5.1) (wrap .i64 (x2+1)) else none else none else none else some x1) (Sl.nil:Sl Jf) 0
theorem VR {c:Law}{a:Sl Jf}{y:Sl Jf}(h:DT N c a=some y) :Mb S VH [.p (.agg (B4 c)),.p (vSl 2 A0 a)] [] (.p (vSl 2 A0 y)) ([]) []:=by
 unfold DT at h;refine A2 Z func205 ?_;refine F6 Z Fc 4 3000 (B4 c) ?_;refine I4 Z Fc h (λx1 x2=>⟨[(12,pN x2),(11,pN (c.Out.n:Int)),(10,.p (vSl 6 Ao c.Out)),(5,.vec 6500),(1,.p (vSl 2 A0 a))],[(6500,oV B6 2 A0 x1 false)]⟩) (ids:=[]) (λ_ _ _ _ _ l x1 x2 i h=>?_);apply kI Z h<;>intro h
 .obtain⟨c16,h⟩:=C9 h;refine F6 Z (Ki c16 (by decide:(6:Nat)<=6)) 8 8000 (Ao (c.Out.g x2.toNat)) ?_;obtain⟨c18,h⟩:=C9 h;obtain⟨t5,d⟩:∃x:Int,x=(if (decide (0<=(c.Out.g x2.toNat).From)) then (a.g (c.Out.g x2.toNat).From.toNat).Plus else 0):=⟨_,rfl⟩;obtain⟨t6,f⟩:∃x:Int,x=(if (decide (0<=(c.Out.g x2.toNat).From)) then (a.g (c.Out.g x2.toNat).From.toNat).Minus else 0):=⟨_,rfl⟩;refine Xn Z Fc (A4 Z) 0 ⟨[(12,pN x2),(11,pN (c.Out.n:Int)),(10,.p (vSl 6 Ao c.Out)),(8,.reg 9000 0),(7,.p (.ptr (Ao (c.Out.g x2.toNat)))),(5,.vec 6500),(1,.p (vSl 2 A0 a))],[(9000,.cells [pU t5,pU t6]),(6500,oV B6 2 A0 x1 false)]⟩ (λM3 j=>?_) ?_
  .refine D0 Z Fc (b:=decide (0<=(c.Out.g x2.toNat).From)) (λc19=>?_) (λc19=>?_)
   .exact j _ (Kg [6500,9000]) _ (Ki (c18 c19) Hm) (hle:=klR [(5,.eq (pI .u32 (a.g (c.Out.g x2.toNat).From.toNat).Plus) (pI .u32 t5)),(6,.eq (pI .u32 (a.g (c.Out.g x2.toNat).From.toNat).Minus) (pI .u32 t6))] (al1 (by simp only[d,f,c19,Nj.ok,pm,Eu,Ev]) (al1 (by simp only[d,f,c19,Nj.ok,pm,Eu,Ev]) al0)))
   exact j _ (Kg [6500,9000]) _ Fc (hle:=klR [(5,.eq (pI .u32 0) (pI .u32 t5)),(6,.eq (pI .u32 0) (pI .u32 t6))] (al1 (by simp only[d,f,c19,Nj.ok,pm,Eu,Ev]) (al1 (by simp only[d,f,c19,Nj.ok,pm,Eu,Ev]) al0)))
  subst f;subst d;obtain⟨y5,e5,h⟩:=A8 h;refine B3 Z [] (by decide:(2:Nat)<=4) (QF Z Y e5) ?_;apply kI Z h<;>intro h
  .refine E3 Z Fc [3,4,5,7,8] ?_;obtain⟨c21,h⟩:=C9 h;obtain⟨y6,e6,h⟩:=A8 h;refine G3 (Ki c21 Hm) (VN Z Y e6) ?_;refine C7 Fc ?_;obtain⟨c22,h⟩:=C9 h;exact i _ [(6500,52000)] _ (x1.push y6.1) (wrap .i64 (x2+1)) (Ki Iu c22) h (hle:=kl1 4 (X5 A0 x1 y6.1 [pI .u32 0,pI .u32 0]))
  obtain⟨c23,h⟩:=C9 h;exact i _ [(6500,52000)] _ (x1.push y5.1) (wrap .i64 (x2+1)) (Ki Iu c23) h (hle:=kl1 4 (X5 A0 x1 y5.1 [pI .u32 0,pI .u32 0]))
 obtain rfl:=B0 h;exact kO Z Fc []
def A9 (N:Nat)(a:Sl (Sl Jf)):Option (Sl Jf):= Bx N (λb (x1:Int) (x2:Int)=>if (decide (x2<(a.n:Int))) then if ((0:Int)<=x2/\x2<(a.n:Int))then if (decide ((wrap .i64 (x1+((a.g x2.toNat).n:Int)))<0)) then none else b (wrap .i64 (x1+((a.g x2.toNat).n:Int))) (wrap .i64 (x2+1)) else none else (J9 N x1).bind λy1=>Bx N (λc (x3:Sl Jf) (x4:Int)=>if (decide (x4<(a.n:Int))) then if (((0:Int)<=x4/\x4<(a.n:Int))/\(Kh 8 (x3.n+(a.g x4.toNat).n)))then c (x3.app (a.g x4.toNat)) (wrap .i64 (x4+1)) else none else some x3) y1 0) 0 0
theorem P6 {a:Sl (Sl Jf)}{y:Sl Jf}(h:A9 N a=some y) :Mb S P4 [.p (vSl 1 (cL 2 A0) a)] [] (.vec 0) ([oV B6 2 A0 y true]) []:=by
 unfold A9 at h;refine A2 Z func204 ?_;refine I4 Z Fc h (λx1 x2=>⟨[(11,pN x2),(10,pN (a.n:Int)),(9,.p (vSl 1 (cL 2 A0) a)),(3,pN x1),(0,.p (vSl 1 (cL 2 A0) a))],[]⟩) (ids:=[]) (λ_ _ _ _ _ c x1 x2 d h=>?_);apply kI Z h<;>intro h
 .obtain⟨c8,h⟩:=C9 h;refine D0 Z c8 (b:=decide ((wrap .i64 (x1+((a.g x2.toNat).n:Int)))<0)) (λc9=>?_) (λc9=>?_)
  .replace h:=itT c9 h;cases h
  replace h:=itF c9 h;exact d _ [] _ (wrap .i64 (x1+((a.g x2.toNat).n:Int))) (wrap .i64 (x2+1)) Fc h
 refine kC Z h (BL Z Y) (λy1 h=>?_);refine I4 Z Fc h (λx3 x4=>⟨[(27,pN x4),(26,pN (a.n:Int)),(25,.p (vSl 1 (cL 2 A0) a)),(6,.vec 7500)],[(7500,oV B6 2 A0 x3 false)]⟩) (ids:=[(7500,25000)]) (λ_ _ _ _ _ f x3 x4 i h=>?_);apply kI Z h<;>intro h
 .obtain⟨c13,h⟩:=C9 h;exact i _ [(7500,34000)] _ (x3.app (a.g x4.toNat)) (wrap .i64 (x4+1)) c13 h (hle:=kl1 3 (appS A0 x3 (a.g x4.toNat)))
 obtain rfl:=B0 h;exact kO Z Fc [7500]
def U2 (N:Nat)(b:Law)(c:Sl Jf)(a:Int):Option (Sl Jf):= if (((0:Int)<=a/\a<=(c.n:Int))/\((0:Int)<=a/\a<=(wrap .i64 (a+(b.If.n:Int)))/\(wrap .i64 (a+(b.If.n:Int)))<=(c.n:Int)))then (DT N b (c.sub a.toNat (wrap .i64 (a+(b.If.n:Int))).toNat)).bind λy1=>if ((0:Int)<=(wrap .i64 (a+(b.If.n:Int)))/\(wrap .i64 (a+(b.If.n:Int)))<=(c.n:Int))then (A9 N (Sl.of [c.take a.toNat,y1,c.drop (wrap .i64 (a+(b.If.n:Int))).toNat]:Sl (Sl Jf))).bind λy2=>some y2 else none else none
theorem Lw {c:Law}{b:Sl Jf}{a:Int}{y:Sl Jf}(h:U2 N c b a=some y) :Mb S Lo [.p (.agg (B4 c)),.p (vSl 2 A0 b),pN a] [] (.vec 0) ([oV B6 2 A0 y true]) []:=by unfold U2 at h;refine A2 Z func207 ?_;refine F6 Z Fc 6 4000 (B4 c) ?_;refine E3 Z Fc [3,8] ?_;obtain⟨c1,h⟩:=C9 h;obtain⟨y1,e1,h⟩:=A8 h;refine G3 (Ki (Ki c1.1 Ip) c1.2) (VR Z Y e1) ?_;obtain⟨c2,h⟩:=C9 h;refine N3 c2 (x:=.sl true 1 3 (H2 [C8] [(0,cL 2 A0 (b.take a.toNat)),(1,cL 2 A0 y1),(2,cL 2 A0 (b.drop (wrap .i64 (a+(c.If.n:Int))).toNat))])) ?_;obtain⟨y2,e2,h⟩:=A8 h;refine OD [] Fc (Mb.le Z (args:=[.p (.sl true 1 3 (H2 [C8] [(0,cL 2 A0 (b.take a.toNat)),(1,cL 2 A0 y1),(2,cL 2 A0 (b.drop (wrap .i64 (a+(c.If.n:Int))).toNat))]))]) (by exact⟨KC rfl (λi d=>match i,d with|0,_=>rfl|1,_=>rfl|2,_=>rfl|_+3,d=>Es d (by omega)),trivial⟩) (P6 Z Y e2)) ?_;refine C7 Fc ?_;obtain rfl:=B0 h;exact kO Z Fc [27000]
def Az (N:Nat)(q0:Law)(q1:Sl Jf)(q2:Int):Option (List (Int)):= (IC N q0 q1).bind λy1=>W8 N (λa (x2:Int)=>if (decide ((wrap .i64 (x2+(q0.If.n:Int)))<=(q1.n:Int))) then W8 N (λb (x4:Int)=>if (decide (x4<(q0.If.n:Int))) then if ((0:Int)<=x4/\x4<(q0.If.n:Int))then if ((0:Int)<=(wrap .i64 (x2+x4))/\(wrap .i64 (x2+x4))<(q1.n:Int))then (S0 N (q1.g (wrap .i64 (x2+x4)).toNat) (q0.If.g x4.toNat)).bind λc=>if (!c) then a (wrap .i64 (x2+1)) else b (wrap .i64 (x4+1)) else none else none else (Z7 N x2 y1.1 y1.2).bind λd=>if d then Ag x2 (a (wrap .i64 (x2+1))) else a (wrap .i64 (x2+1))) 0 else some []) q2
theorem MX {q0:Law}{q1:Sl Jf}{q2:Int}{L:List (Int)}(h:Az N q0 q1 q2=some L) :ET S Iw [] [.reg 0 0,.reg 1 0,.reg 2 0] [.cells ((B4 q0).map .p),.cells [.p (vSl 2 A0 q1)],.cells [pN q2]] (L.map (λ(x:Int)=>[pI .i64 x])):=by
 unfold Az at h;refine EB Z func208 ?_;refine kC Z h (VQ Z Y) (λy1 h=>?_);refine Dl Z Fc h (λx2 L1=>⟨[(6,pN x2),(5,.clo BK [] [.reg 12000 0,.reg 12001 0]),(2,.reg 1 0),(1,.reg 0 0),(0,.yf 3)],[(12001,.cells [.p (vSl 2 A0 y1.2)]),(12000,.cells ((B4 y1.1).map .p)),(3,.yld (L1.map (λ(x:Int)=>[pI .i64 x])) true),(2,.cells [pN q2]),(1,.cells [.p (vSl 2 A0 q1)]),(0,.cells ((B4 q0).map .p))]⟩) (ids:=(Kg [0,1,2,3,12000,12001])) (λ_ _ _ _ _ f x2 L1 c h=>?_);apply kI Z h<;>intro h
 .refine Dl Z Fc h (λx4 L8=>⟨[(26,pN x4),(25,pN (q0.If.n:Int)),(24,.p (vSl 2 A0 q0.If)),(6,pN x2),(5,.clo BK [] [.reg 12000 0,.reg 12001 0]),(2,.reg 1 0),(1,.reg 0 0),(0,.yf 3)],[(12001,.cells [.p (vSl 2 A0 y1.2)]),(12000,.cells ((B4 y1.1).map .p)),(3,.yld (L8.map (λ(x:Int)=>[pI .i64 x])) true),(2,.cells [pN q2]),(1,.cells [.p (vSl 2 A0 q1)]),(0,.cells ((B4 q0).map .p))]⟩) (ids:=(Kg [0,1,2,3,12000,12001])) (λ_ _ _ _ _ i x4 L8 j h=>?_);apply kI Z h<;>intro h
  .obtain⟨c47,h⟩:=C9 h;refine Qg Z (Ki c47 Hm) 9000 [pI .u32 (q0.If.g x4.toNat).Plus,pI .u32 (q0.If.g x4.toNat).Minus] ?_;refine E3 Z Fc [4,5,6,7] ?_;obtain⟨c48,h⟩:=C9 h;obtain⟨l,e12,h⟩:=A8 h;refine G3 (Ki (Ki c48 Hm) Hm) (Me Z Y e12) ?_;refine C7 Fc ?_;apply kI Z h<;>intro h
   .exact c _ (Kg [0,1,2,3,12000,12001]) _ (wrap .i64 (x2+1)) L8 Fc h
   exact j _ (Kg [0,1,2,3,12000,12001]) _ (wrap .i64 (x4+1)) L8 Fc h
  obtain⟨m,e13,h⟩:=A8 h;refine B3 Z [12000,12001] Fc (QK Z Y e13) ?_;refine kG Z h (λh=>?_) (λh=>?_)
  .obtain⟨L10,rfl,d⟩:=LY h;replace h:=d;refine Dk Z Fc (ys:=(λ(x:Int)=>[pI .i64 x]) x2) (rest:=L10.map (λ(x:Int)=>[pI .i64 x])) ?_ ?_
   .refine D0 Z Fc (b:=false) (λc53=>?_) (λc53=>?_)
    .exact Bool.noConfusion ((rfl:false=false).symm.trans c53)
    exact c _ (Kg [0,1,2,3,12000,12001]) _ (wrap .i64 (x2+1)) L10 Fc h
   refine D0 Z Fc (b:=true) (λc54=>?_) (λc54=>?_)
   .exact kO Z Fc (a:=.tup []) (objs:=[(.cells ((B4 q0).map .p)),.cells [.p (vSl 2 A0 q1)],.cells [pN q2],.yld [] false]) [0,1,2,3] ⟨false,rfl,rfl,_,rfl⟩
   exact Bool.noConfusion (Iu.symm.trans c54)
  exact c _ (Kg [0,1,2,3,12000,12001]) _ (wrap .i64 (x2+1)) L8 Fc h
 obtain rfl:=B0 h;exact kO Z Fc (a:=.tup []) (objs:=[(.cells ((B4 q0).map .p)),.cells [.p (vSl 2 A0 q1)],.cells [pN q2],.yld [] true]) [0,1,2,3] ⟨true,rfl,rfl,_,rfl⟩
def IX (N:Nat)(b:Law)(c:Sl Jf)(a:Int):Option (Law×(Sl Jf)×Int):= some (b,c,a)
theorem RO {b:Law}{c:Sl Jf}{a:Int}{y:Law×(Sl Jf)×Int}(h:IX N b c a=some y) :Mb S RN [.p (.agg (B4 b)),.p (vSl 2 A0 c),pN a] [] (.clo Iw [] [.reg 0 0,.reg 1 0,.reg 2 0]) ([.cells ((B4 y.1).map .p),.cells [.p (vSl 2 A0 y.2.1)],.cells [pN y.2.2]]) []:=by unfold IX at h;refine A2 Z func203 ?_;obtain rfl:=B0 h;exact kO Z Fc [4000,5000,6000]
def DU (N:Nat)(b:Law)(c:Sl Jf)(a:Int):Option Bool:= (IX N b c a).bind λy1=>(Az N y1.1 y1.2.1 y1.2.2).bind λL1=>T4 L1 (λd (x1:Int) (_:Unit)=>some (x1==a)) (λ(_:Unit)=>some false) ()
theorem VT {b:Law}{c:Sl Jf}{a:Int}{y:Bool}(h:DU N b c a=some y) :Mb S VJ [.p (.agg (B4 b)),.p (vSl 2 A0 c),pN a] [] (pB y) ([]) []:=by
 unfold DU at h;refine A2 Z func206 ?_;refine kC Z h (RO Z Y) (λy1 h=>?_);obtain⟨L1,e2,h⟩:=A8 h;refine GS Z Fc [12000,12001,12002] [6,5] 901 (λ_=>⟨[(6,.reg 7000 0),(5,.reg 6000 0)],[(7000,.cells [.p (.v (.bool false))]),(6000,.cells [pN a])]⟩) (idl:=(Kg [6000,7000])) h (MX Z Y e2) (λ_=>by kernel_rfl) (λ_=>by kernel_rfl) (λ_=>by kernel_rfl) (λ_=>by kernel_rfl) (λx1 _ d _ f h=>?_) (λ_ h=>?_)
 .refine Ke Z Fc ?_;refine NH Z Fc ⟨[(6,.reg 7000 0),(5,.reg 6000 0)],[(7000,.cells [pB (x1==a)]),(6000,.cells [pN a])]⟩ (ids:=(Kg [901,6000,7000])) ?_;cases h;exact kR Z
 cases h;exact kR Z
def Ds (N:Nat)(q0:Sl Jf)(q1:Law)(q2:Int)(q3:Int):Option (List (Int×(Sl Jf))):= if (q1.Mode==1) then (IX N q1 q0 0).bind λy1=>(Az N y1.1 y1.2.1 y1.2.2).bind λL1=>T4 L1 (λb (x1:Int) (z1:(Sl Jf)×Int×Int)=>if (decide (x1<z1.2.1)) then b (z1.1,z1.2.1,z1.2.2) else if (((0:Int)<=(wrap .i64 (x1+z1.2.2))/\(wrap .i64 (x1+z1.2.2))<=(z1.1.n:Int))/\((0:Int)<=x1/\x1<=(wrap .i64 (x1+q2))/\(wrap .i64 (x1+q2))<=(q0.n:Int)))then (DT N q1 (q0.sub x1.toNat (wrap .i64 (x1+q2)).toNat)).bind λy6=>if ((0:Int)<=(wrap .i64 (x1+q2))/\(wrap .i64 (x1+q2))<=(q0.n:Int))then (A9 N (Sl.of [z1.1.take (wrap .i64 (x1+z1.2.2)).toNat,y6,q0.drop (wrap .i64 (x1+q2)).toNat]:Sl (Sl Jf))).bind λy7=>Ag (x1,y7) (b (y7,wrap .i64 (x1+(if q2<1 then 1 else q2)),wrap .i64 ((wrap .i64 (z1.2.2+q3))-q2))) else none else none) (λ(z1:(Sl Jf)×Int×Int)=>some []) (q0,0,0) else if (q1.Mode==2) then Bx N (λa (x5:Sl Jf) (x6:Int)=>if (decide ((wrap .i64 (x6+q2))<=(x5.n:Int))) then (DU N q1 x5 x6).bind λg=>if (!g) then a x5 (wrap .i64 (x6+1)) else (U2 N q1 x5 x6).bind λd=>Ag (x6,d) (if (q2==0) then a d (wrap .i64 ((wrap .i64 (x6+q3))+1)) else a d (wrap .i64 (x6+q3))) else some []) q0 0 else if (q1.Mode==3) then Bx N (λc (x7:Sl Jf) (x8:Int)=>if (decide (0<=x8)) then (DU N q1 x7 x8).bind λi=>if (!i) then c x7 (wrap .i64 (x8-1)) else (U2 N q1 x7 x8).bind λf=>Ag (x8,f) (c f (wrap .i64 (x8-(if q2<1 then 1 else q2)))) else some []) q0 (wrap .i64 ((q0.n:Int)-q2)) else some []
theorem XV {q0:Sl Jf}{q1:Law}{q2:Int}{q3:Int}{L:List (Int×(Sl Jf))}(h:Ds N q0 q1 q2 q3=some L) :ET S Kl [] [.reg 0 0,.reg 1 0,.reg 2 0,.reg 3 0] [.cells [.p (vSl 2 A0 q0)],.cells ((B4 q1).map .p),.cells [pN q2],.cells [pN q3]] (L.map (λ(x:Int×(Sl Jf))=>[pI .i64 x.1,vSl 2 A0 x.2])):=by
 unfold Ds at h;refine EB Z func202 ?_;apply kI Z h<;>intro h
 .refine kC Z h (RO Z Y) (λy1 h=>?_);obtain⟨L1,e2,h⟩:=A8 h;refine AA9 Z Fc [20000,20001,20002] [8,7,6,5,4,3,2,1] 900 (λz1 L2=>⟨[(8,.reg 9000 0),(7,.reg 8000 0),(6,.reg 7000 0),(5,.reg 6000 0),(4,.reg 3 0),(3,.reg 2 0),(2,.reg 1 0),(1,.reg 0 0)],[(9000,.cells [pN z1.2.2]),(8000,.cells [pN z1.2.1]),(7000,.cells [.p (vSl 2 A0 z1.1)]),(6000,.cells [.yf 4]),(4,.yld (L2.map (λ(x:Int×(Sl Jf))=>[pI .i64 x.1,vSl 2 A0 x.2])) true),(3,.cells [pN q3]),(2,.cells [pN q2]),(1,.cells ((B4 q1).map .p)),(0,.cells [.p (vSl 2 A0 q0)])]⟩) (idl:=(Kg [0,1,2,3,4,6000,7000,8000,9000])) h (MX Z Y e2) (λ_=>by kernel_rfl) (λ_ _=>by kernel_rfl) (λ_ _=>by kernel_rfl) (λ_ _=>by kernel_rfl) (λx1 _ r z1 L2 g h=>?_) (λz1 L2 h=>?_)
  .refine Ke Z Fc ?_;apply kI Z h<;>intro h
   .exact g _ (Kg [0,1,2,3,4,900,6000,7000,8000,9000]) _ (z1.1,z1.2.1,z1.2.2) L2 Fc h
   refine F7 Z Fc [(0,.l [7000]),(2,.l [9000]),(5,.l [1]),(6,.l [0]),(9,.l [2]),(12,.n),(13,.l [0]),(15,.l [2]),(20,.a [7000])] ?_;obtain⟨c13,h⟩:=C9 h;obtain⟨y6,e7,h⟩:=A8 h;refine G3 c13 (VR Z Y e7) ?_;obtain⟨c14,h⟩:=C9 h;refine N3 c14 (x:=.sl true 1 3 (H2 [C8] [(0,cL 2 A0 (z1.1.take (wrap .i64 (x1+z1.2.2)).toNat)),(1,cL 2 A0 y6),(2,cL 2 A0 (q0.drop (wrap .i64 (x1+q2)).toNat))])) ?_;obtain⟨y7,e8,h⟩:=A8 h;refine OD [] Fc (Mb.le Z (args:=[.p (.sl true 1 3 (H2 [C8] [(0,cL 2 A0 (z1.1.take (wrap .i64 (x1+z1.2.2)).toNat)),(1,cL 2 A0 y6),(2,cL 2 A0 (q0.drop (wrap .i64 (x1+q2)).toNat))]))]) (by exact⟨KC rfl (λi s=>match i,s with|0,_=>rfl|1,_=>rfl|2,_=>rfl|_+3,s=>Es s (by omega)),trivial⟩) (P6 Z Y e8)) ?_;refine C7 Fc ?_;obtain⟨L5,rfl,j⟩:=LY h;replace h:=j;refine Dk Z Fc (ys:=(λ(x:Int×(Sl Jf))=>[pI .i64 x.1,vSl 2 A0 x.2]) (x1,y7)) (rest:=L5.map (λ(x:Int×(Sl Jf))=>[pI .i64 x.1,vSl 2 A0 x.2])) ?_ ?_
   .refine D0 Z Fc (b:=false) (λc15=>?_) (λc15=>?_)
    .exact Bool.noConfusion ((rfl:false=false).symm.trans c15)
    refine F7 Z Fc [(1,.l [2]),(4,.l [9000]),(5,.l [3]),(7,.l [2]),(9,.a [8000]),(10,.a [9000])] ?_;refine C7 Fc ?_;exact g _ (Kg [0,1,2,3,4,900,6000,7000,8000,9000]) _ (y7,wrap .i64 (x1+(if q2<1 then 1 else q2)),wrap .i64 ((wrap .i64 (z1.2.2+q3))-q2)) L5 Fc h
   refine D0 Z Fc (b:=true) (λc16=>?_) (λc16=>?_)
   .refine NH Z Fc ⟨[(8,.reg 9000 0),(7,.reg 8000 0),(6,.reg 7000 0),(5,.reg 6000 0),(4,.reg 3 0),(3,.reg 2 0),(2,.reg 1 0),(1,.reg 0 0)],[(44000,oV B6 2 A0 y7 true),(9000,.cells [pN z1.2.2]),(8000,.cells [pN z1.2.1]),(7000,.cells [.vec 44000]),(6000,.cells [.yf 4]),(4,.yld [] false),(3,.cells [pN q3]),(2,.cells [pN q2]),(1,.cells ((B4 q1).map .p)),(0,.cells [.p (vSl 2 A0 q0)])]⟩ (ids:=(Kg [0,1,2,3,4,900,6000,7000,8000,9000,44000])) ?_;exact kO Z Fc (a:=.tup []) (objs:=[(.cells [.p (vSl 2 A0 q0)]),.cells ((B4 q1).map .p),.cells [pN q2],.cells [pN q3],.yld [] false]) [0,1,2,3,4] ⟨false,rfl,rfl,_,rfl⟩
   exact Bool.noConfusion (Iu.symm.trans c16)
  obtain rfl:=B0 h;exact kO Z Fc (a:=.tup []) (objs:=[(.cells [.p (vSl 2 A0 q0)]),.cells ((B4 q1).map .p),.cells [pN q2],.cells [pN q3],.yld [] true]) [0,1,2,3,4] ⟨true,rfl,rfl,_,rfl⟩
 apply kI Z h<;>intro h
 .refine SQ Z Fc h (λx5 x6 L6=>⟨[(10,pN x6),(6,.reg 7000 0),(5,.reg 6000 0),(4,.reg 3 0),(3,.reg 2 0),(2,.reg 1 0)],[(7000,.cells [.p (vSl 2 A0 x5)]),(6000,.cells [.yf 4]),(4,.yld (L6.map (λ(x:Int×(Sl Jf))=>[pI .i64 x.1,vSl 2 A0 x.2])) true),(3,.cells [pN q3]),(2,.cells [pN q2]),(1,.cells ((B4 q1).map .p)),(0,.cells [.p (vSl 2 A0 q0)])]⟩) (ids:=(Kg [0,1,2,3,4,6000,7000])) (λ_ _ _ _ _ t x5 x6 L6 c h=>?_);apply kI Z h<;>intro h
  .refine kC Z h (VT Z Y) (λv h=>?_);apply kI Z h<;>intro h
   .exact c _ (Kg [0,1,2,3,4,6000,7000]) _ x5 (wrap .i64 (x6+1)) L6 Fc h
   refine kC Z h (Lw Z Y) (λd h=>?_);obtain⟨L9,rfl,m⟩:=LY h;replace h:=m;refine Dk Z Fc (ys:=(λ(x:Int×(Sl Jf))=>[pI .i64 x.1,vSl 2 A0 x.2]) (x6,d)) (rest:=L9.map (λ(x:Int×(Sl Jf))=>[pI .i64 x.1,vSl 2 A0 x.2])) ?_ ?_
   .refine D0 Z Fc (b:=false) (λc30=>?_) (λc30=>?_)
    .exact Bool.noConfusion ((rfl:false=false).symm.trans c30)
    apply kI Z h<;>intro h
    .exact c _ (Kg [0,1,2,3,4,6000,7000]) _ d (wrap .i64 ((wrap .i64 (x6+q3))+1)) L9 Fc h
    exact c _ (Kg [0,1,2,3,4,6000,7000]) _ d (wrap .i64 (x6+q3)) L9 Fc h
   refine D0 Z Fc (b:=true) (λc32=>?_) (λc32=>?_)
   .exact kO Z Fc (a:=.tup []) (objs:=[(.cells [.p (vSl 2 A0 q0)]),.cells ((B4 q1).map .p),.cells [pN q2],.cells [pN q3],.yld [] false]) [0,1,2,3,4] ⟨false,rfl,rfl,_,rfl⟩
   exact Bool.noConfusion (Iu.symm.trans c32)
  obtain rfl:=B0 h;exact kO Z Fc (a:=.tup []) (objs:=[(.cells [.p (vSl 2 A0 q0)]),.cells ((B4 q1).map .p),.cells [pN q2],.cells [pN q3],.yld [] true]) [0,1,2,3,4] ⟨true,rfl,rfl,_,rfl⟩
 apply kI Z h<;>intro h
 .refine SQ Z Fc h (λx7 x8 L10=>⟨[(11,pN x8),(6,.reg 7000 0),(5,.reg 6000 0),(3,.reg 2 0),(2,.reg 1 0)],[(7000,.cells [.p (vSl 2 A0 x7)]),(6000,.cells [.yf 4]),(4,.yld (L10.map (λ(x:Int×(Sl Jf))=>[pI .i64 x.1,vSl 2 A0 x.2])) true),(3,.cells [pN q3]),(2,.cells [pN q2]),(1,.cells ((B4 q1).map .p)),(0,.cells [.p (vSl 2 A0 q0)])]⟩) (ids:=(Kg [0,1,2,3,4,6000,7000])) (λ_ _ _ _ _ u x7 x8 L10 o h=>?_);apply kI Z h<;>intro h
  .refine kC Z h (VT Z Y) (λw h=>?_);apply kI Z h<;>intro h
   .exact o _ (Kg [0,1,2,3,4,6000,7000]) _ x7 (wrap .i64 (x8-1)) L10 Fc h
   refine kC Z h (Lw Z Y) (λq h=>?_);obtain⟨L13,rfl,f⟩:=LY h;replace h:=f;refine Dk Z Fc (ys:=(λ(x:Int×(Sl Jf))=>[pI .i64 x.1,vSl 2 A0 x.2]) (x8,q)) (rest:=L13.map (λ(x:Int×(Sl Jf))=>[pI .i64 x.1,vSl 2 A0 x.2])) ?_ ?_
   .refine D0 Z Fc (b:=false) (λc44=>?_) (λc44=>?_)
    .exact Bool.noConfusion ((rfl:false=false).symm.trans c44)
    exact o _ (Kg [0,1,2,3,4,6000,7000]) _ q (wrap .i64 (x8-(if q2<1 then 1 else q2))) L13 Fc h
   refine D0 Z Fc (b:=true) (λc45=>?_) (λc45=>?_)
   .exact kO Z Fc (a:=.tup []) (objs:=[(.cells [.p (vSl 2 A0 q0)]),.cells ((B4 q1).map .p),.cells [pN q2],.cells [pN q3],.yld [] false]) [0,1,2,3,4] ⟨false,rfl,rfl,_,rfl⟩
   exact Bool.noConfusion (Iu.symm.trans c45)
  obtain rfl:=B0 h;exact kO Z Fc (a:=.tup []) (objs:=[(.cells [.p (vSl 2 A0 q0)]),.cells ((B4 q1).map .p),.cells [pN q2],.cells [pN q3],.yld [] true]) [0,1,2,3,4] ⟨true,rfl,rfl,_,rfl⟩
 obtain rfl:=B0 h;exact kO Z Fc (a:=.tup []) (objs:=[(.cells [.p (vSl 2 A0 q0)]),.cells ((B4 q1).map .p),.cells [pN q2],.cells [pN q3],.yld [] true]) [0,1,2,3,4] ⟨true,rfl,rfl,_,rfl⟩
def Lx (N:Nat)(a:Law)(b:Sl Jf):Option ((Sl Jf)×Law×Int×Int):= some (b,a,(a.If.n:Int),(a.Out.n:Int))
theorem Ao6 {b:Law}{c:Sl Jf}{y:(Sl Jf)×Law×Int×Int}(h:Lx N b c=some y) :Mb S VG [.p (.agg (B4 b)),.p (vSl 2 A0 c)] [] (.clo Kl [] [.reg 0 0,.reg 1 0,.reg 2 0,.reg 3 0]) ([.cells [.p (vSl 2 A0 y.1)],.cells ((B4 y.2.1).map .p),.cells [pN y.2.2.1],.cells [pN y.2.2.2]]) []:=by unfold Lx at h;refine A2 Z func200 ?_;refine F7 Z Fc [(1,.l [3000]),(2,.n),(4,.l [3000]),(5,.n),(6,.a [6000]),(7,.a [7000]),(8,.a [6000]),(9,.a [7000])] ?_;refine C7 Fc ?_;obtain rfl:=B0 h;exact kO Z Fc [4000,3000,6000,7000]
def Fk (N:Nat)(b:Law)(c:Sl Jf):Option ((Sl Int)×(Sl (Sl Jf))×Int):= (Fj N b c).bind λy1=>if (y1 != 0) then some (Iv,(Sl.nil:Sl (Sl Jf)),y1) else (Lx N b c).bind λy2=>(Ds N y2.1 y2.2.1 y2.2.2.1 y2.2.2.2).bind λL1=>T4 L1 (λa (x1:Int×(Sl Jf)) (z1:(Sl Int)×(Sl (Sl Jf)))=>if (decide (32<(x1.2.n:Int))) then some (Iv,(Sl.nil:Sl (Sl Jf)),11) else if (Kh 8 (z1.1.n+(Sl.of [x1.1]:Sl Int).n))then if (Kh 24 (z1.2.n+(Sl.of [x1.2]:Sl (Sl Jf)).n))then a (z1.1.push x1.1,z1.2.push x1.2) else none else none) (λ(z1:(Sl Int)×(Sl (Sl Jf)))=>some (z1.1,z1.2,0)) (Iv,(Sl.nil:Sl (Sl Jf)))
theorem XW {b:Law}{c:Sl Jf}{y:(Sl Int)×(Sl (Sl Jf))×Int}(h:Fk N b c=some y) :Mb S Pm [.p (.agg (B4 b)),.p (vSl 2 A0 c)] [] (.tup [.vec 0,.vec 1,pN y.2.2]) ([oV E4 1 (cI .i64) y.1 true,oV U7 1 (cL 2 A0) y.2.1 true]) []:=by
 unfold Fk at h;refine A2 Z func196 ?_;refine F6 Z Fc 4 3000 (B4 b) ?_;obtain⟨y1,e1,h⟩:=A8 h;refine B3 Z [] Ip (XU Z Y e1) ?_;apply kI Z h<;>intro h
 .obtain rfl:=B0 h;exact J7 Z Fc ⟨[(6,.reg 7000 0),(5,.reg 6000 0),(4,.reg 5000 0)],[(7000,.cells [pN y1]),(6701,.vec U7 1 (Sl.nil:Sl (Sl Jf)).n (λi=>cL 2 A0 ((Sl.nil:Sl (Sl Jf)).g i)) true),(6000,.cells [.vec 6701]),(5700,oV E4 1 (cI .i64) Iv true),(5000,.cells [.vec 5700])]⟩ [5700,6701] (ids:=(Kg [5000,6000,7000])) ⟨rfl,rfl,rfl⟩
 obtain⟨y2,e2,h⟩:=A8 h;refine B3 Z [] Ip (Ao6 Z Y e2) ?_;obtain⟨L1,e3,h⟩:=A8 h;refine GS Z Fc [21000,21001,21002,21003] [9,8,6,5,4] 901 (λz1=>⟨[(9,.reg 10000 0),(8,.reg 9000 0),(6,.reg 7000 0),(5,.reg 6000 0),(4,.reg 5000 0)],[(10500,oV U7 1 (cL 2 A0) z1.2 false),(10000,.cells [.vec 10500]),(9500,oV E4 1 (cI .i64) z1.1 false),(9000,.cells [.vec 9500]),(7000,.cells [pN 0]),(6000,.cells [.p C8]),(5000,.cells [.p C8])]⟩) (idl:=(Kg [5000,6000,7000,9000,10000])) h (XV Z Y e3) (λ_=>by kernel_rfl) (λ_=>by kernel_rfl) (λ_=>by kernel_rfl) (λ_=>by kernel_rfl) (λx1 _ d z1 f h=>?_) (λz1 h=>?_)
 .refine Ke Z Fc ?_;apply kI Z h<;>intro h
  .refine NH Z Fc ⟨[(9,.reg 10000 0),(8,.reg 9000 0),(6,.reg 7000 0),(5,.reg 6000 0),(4,.reg 5000 0)],[(10500,oV U7 1 (cL 2 A0) z1.2 false),(10000,.cells [.vec 10500]),(9500,oV E4 1 (cI .i64) z1.1 false),(9000,.cells [.vec 9500]),(7000,.cells [pN 11]),(6000,.cells [.p C8]),(5000,.cells [.p C8])]⟩ (ids:=(Kg [901,5000,6000,7000,9000,9500,10000,10500])) ?_;obtain rfl:=B0 h;exact J7 Z Fc ⟨[(6,.reg 7000 0),(5,.reg 6000 0),(4,.reg 5000 0)],[(7000,.cells [pN 11]),(6701,.vec U7 1 (Sl.nil:Sl (Sl Jf)).n (λi=>cL 2 A0 ((Sl.nil:Sl (Sl Jf)).g i)) true),(6000,.cells [.vec 6701]),(5700,oV E4 1 (cI .i64) Iv true),(5000,.cells [.vec 5700])]⟩ [5700,6701] (ids:=(Kg [5000,6000,7000])) ⟨rfl,rfl,rfl⟩
  refine F7 Z Fc [(0,.l [9000]),(3,.a [30000,9500]),(4,.l [10000]),(7,.a [34000,10500]),(8,.a [9000]),(9,.a [10000])] ?_;refine N3 Fc (x:=.sl true 1 1 (H2 [pI .i64 0] [(0,cI .i64 x1.1)])) ?_;obtain⟨c9,h⟩:=C9 h;refine N3 c9 (x:=.sl true 1 1 (H2 [C8] [(0,cL 2 A0 x1.2)])) ?_;obtain⟨c10,h⟩:=C9 h;refine C7 c10 ?_;exact f _ [(901,901),(5000,5000),(6000,6000),(7000,7000),(9000,9000),(9500,30000),(10000,10000),(10500,34000)] _ (z1.1.push x1.1,z1.2.push x1.2) Fc h (hle:=kl2 0 1 (X5 (cL 2 A0) z1.2 x1.2 [C8]) (X5 (cI .i64) z1.1 x1.1 [pI .i64 0]))
 refine F7 Z Fc [(0,.l [9000]),(1,.l [10000]),(2,.a [5000]),(3,.a [6000]),(4,.a [7000])] ?_;refine C7 Fc ?_;obtain rfl:=B0 h;exact J7 Z Fc ⟨[(6,.reg 7000 0),(5,.reg 6000 0),(4,.reg 5000 0)],[(10500,oV U7 1 (cL 2 A0) z1.2 true),(9500,oV E4 1 (cI .i64) z1.1 true),(7000,.cells [pN 0]),(6000,.cells [.vec 10500]),(5000,.cells [.vec 9500])]⟩ [9500,10500] (ids:=(Kg [5000,6000,7000,9500,10500])) ⟨rfl,rfl,rfl⟩
def Cm (N:Nat)(b:Law)(a:Sl Jf):Option ((Sl Jf)×Int):= (Fk N b a).bind λy1=>if (y1.2.2 != 0) then some ((Sl.nil:Sl Jf),y1.2.2) else if (decide (0<(y1.2.1.n:Int))) then if (((0:Int)<=(wrap .i64 ((y1.2.1.n:Int)-1))/\(wrap .i64 ((y1.2.1.n:Int)-1))<(y1.2.1.n:Int))/\(wrap .i64 ((y1.2.1.n:Int)-1)).toNat<y1.2.1.n)then some (y1.2.1.g (wrap .i64 ((y1.2.1.n:Int)-1)).toNat,0) else none else (A6 N a).bind λy2=>some (y2,0)
theorem XX {a:Law}{b:Sl Jf}{y:(Sl Jf)×Int}(h:Cm N a b=some y) :Mb S Pl [.p (.agg (B4 a)),.p (vSl 2 A0 b)] [] (.tup [.p (vSl 2 A0 y.1),pN y.2]) ([]) []:=by
 unfold Cm at h;refine A2 Z func188 ?_;refine kC Z h (XW Z Y) (λy1 h=>?_);apply kI Z h<;>intro h
 .obtain rfl:=B0 h;exact kO Z Fc []
 apply kI Z h<;>intro h
 .obtain⟨c3,h⟩:=C9 h;obtain rfl:=B0 h;exact Am0 Z c3 [] ⟨rfl,rfl,rfl⟩
 refine kC Z h (Q5 Z Y) (λy2 h=>?_);obtain rfl:=B0 h;exact kO Z Fc []
end Go.AM
namespace Go.AM
open Go.Proofs.Tryz
variable {N:Nat}
open IntKind (wrap)
open Go.Proofs
set_option maxRecDepth 10000
set_option maxHeartbeats 2000000
variable {S:U6}(Z:G6 S Tryz.prog) (Y:Km S)
include Z Y
def T6 (N:Nat)(a:Law):Option Bool:= (Ay N a).bind λy1=>some (y1 != 0)
theorem Nt {a:Law}{y:Bool}(h:T6 N a=some y) :Mb S HC [.p (.agg (B4 a))] [] (pB y) ([]) []:=by unfold T6 at h;refine A2 Z func149 ?_;refine kC Z h (Hb Z Y) (λy1 h=>?_);cases h;exact kR Z
def F9 (N:Nat)(a:Sl Law)(c:Law->Option Bool):Option Int:= W8 N (λb (x1:Int)=>if (decide (x1<(a.n:Int))) then if ((0:Int)<=x1/\x1<(a.n:Int))then (c (a.g x1.toNat)).bind λy3=>if y3 then some x1 else b (wrap .i64 (x1+1)) else none else some (-1)) 0
theorem Bs {a:Sl Law}{c:Law->Option Bool}{kp_f:Nat}(d:∀{a0:Law}{b:Bool},c a0=some b->Mb S kp_f [.p (.agg (B4 a0))] [] (pB b) [] []){y:Int}(h:F9 N a c=some y) :Mb S Q4 [.p (vSl 18 B4 a),.clo kp_f [] []] [] (pN y) ([]) []:=by
 unfold F9 at h;refine A2 Z func186 ?_;refine P9 Z Fc h (λx1=>⟨[(8,pN x1),(7,pN (a.n:Int)),(1,.clo kp_f [] []),(0,.p (vSl 18 B4 a))],[]⟩) (ids:=[]) (λ_ _ _ _ _ f x1 g h=>?_);apply kI Z h<;>intro h
 .obtain⟨c8,h⟩:=C9 h;obtain⟨y3,e3,h⟩:=A8 h;refine B3 Z [] (Ki c8 Ip) (d e3) ?_;apply kI Z h<;>intro h
  .cases h;exact kR Z
  exact g _ [] _ (wrap .i64 (x1+1)) Fc h
 cases h;exact kR Z
def D4 (N:Nat)(a:Sl Law)(b:Law->Option Bool):Option Bool:= (F9 N a b).bind λy1=>some (decide (0<=y1))
theorem Ak {a:Sl Law}{c:Law->Option Bool}{kp_f:Nat}(d:∀{a0:Law}{b:Bool},c a0=some b->Mb S kp_f [.p (.agg (B4 a0))] [] (pB b) [] []){y:Bool}(h:D4 N a c=some y) :Mb S O6 [.p (vSl 18 B4 a),.clo kp_f [] []] [] (pB y) ([]) []:=by unfold D4 at h;refine A2 Z func148 ?_;refine kC Z h (Bs Z Y (λe=>d e)) (λy1 h=>?_);cases h;exact kR Z
def BS (N:Nat)(a:Sl Law):Option Int:= if (decide (64<(a.n:Int))) then some 12 else (D4 N a (λ(u1:Law)=>T6 N u1)).bind λy1=>if y1 then some 17 else some 0
theorem QL {a:Sl Law}{y:Int}(h:BS N a=some y) :Mb S JD [.p (vSl 18 B4 a)] [] (pN y) ([]) []:=by
 unfold BS at h;refine A2 Z func108 ?_;apply kI Z h<;>intro h
 .cases h;exact kR Z
 refine kC Z h (Ak Z Y (λe=>Nt Z Y e)) (λy1 h=>?_);apply kI Z h<;>intro h
 .cases h;exact kR Z
 cases h;exact kR Z
def BU (N:Nat)(b:Sl Law)(a:Sl (Sl Jf)):Option Int:= (BS N b).bind λy1=>if (y1 != 0) then some y1 else if (decide (256<(a.n:Int))) then some 12 else W8 N (λc (x1:Int)=>if (decide (x1<(a.n:Int))) then if ((0:Int)<=x1/\x1<(a.n:Int))then (W9 N (a.g x1.toNat)).bind λy4=>if (y4 != 0) then some y4 else c (wrap .i64 (x1+1)) else none else some 0) 0
theorem QM {b:Sl Law}{a:Sl (Sl Jf)}{y:Int}(h:BU N b a=some y) :Mb S Jy [.p (vSl 18 B4 b),.p (vSl 1 (cL 2 A0) a)] [] (pN y) ([]) []:=by
 unfold BU at h;refine A2 Z func69 ?_;refine kC Z h (QL Z Y) (λy1 h=>?_);apply kI Z h<;>intro h
 .cases h;exact kR Z
 apply kI Z h<;>intro h
 .cases h;exact kR Z
 refine P9 Z Fc h (λx1=>⟨[(19,pN x1),(18,pN (a.n:Int)),(17,.p (vSl 1 (cL 2 A0) a))],[]⟩) (ids:=[]) (λ_ _ _ _ _ c x1 d h=>?_);apply kI Z h<;>intro h
 .obtain⟨c10,h⟩:=C9 h;obtain⟨y4,e4,h⟩:=A8 h;refine B3 Z [] c10 (DQ Z Y e4) ?_;apply kI Z h<;>intro h
  .cases h;exact kR Z
  exact d _ [] _ (wrap .i64 (x1+1)) Fc h
 cases h;exact kR Z
end Go.AM
namespace Go.AM
open Go.Proofs.Tryz
variable {N:Nat}
open IntKind (wrap)
open Go.Proofs
set_option maxRecDepth 10000
set_option maxHeartbeats 2000000
variable {S:U6}(Z:G6 S Tryz.prog) (Y:Km S)
include Z Y
def AD1 (c:Int):Option PV:=if c=0 then none else some (.iface 261 (pI .i64 c))
def BZ (N:Nat)(c:Int)(q0:Sl Jf)(q1:Sl Law):Option (List (Int×(Sl Jf))):= (A6 N q0).bind λy1=>Ag (0,y1) (Bx N (λa (x1:Sl Jf) (x2:Int)=>if (decide (x2<(q1.n:Int))) then if ((0:Int)<=x2/\x2<(q1.n:Int))then (Cm N (q1.g x2.toNat) x1).bind λy4=>if (y4.2 != 0) then if y4.2=c then some []else none else Ag (wrap .i64 (x2+1),y4.1) (a y4.1 (wrap .i64 (x2+1))) else none else if c=0 then some []else none) y1 0)
theorem HE {q0:Sl Jf}{q1:Sl Law}{c:Int}{L:List (Int×(Sl Jf))}(h:BZ N c q0 q1=some L) :OH S Y8 [] [.reg 0 0,.reg 1 0] [.cells [.p (vSl 2 A0 q0)],.cells [.p (vSl 18 B4 q1)]] (L.map (λ(x:Int×(Sl Jf))=>[pI .i64 x.1,vSl 2 A0 x.2])) (AD1 c):=by
 unfold BZ at h;refine Am5 Z func187 ?_;refine kC Z h (Q5 Z Y) (λy1 h=>?_);obtain⟨L1,rfl,d⟩:=LY h;replace h:=d;refine Dk Z Fc (ys:=(λ(x:Int×(Sl Jf))=>[pI .i64 x.1,vSl 2 A0 x.2]) (0,y1)) (rest:=L1.map (λ(x:Int×(Sl Jf))=>[pI .i64 x.1,vSl 2 A0 x.2])) ?_ ?_
 .refine D0 Z Fc (b:=false) (λc1=>?_) (λc1=>?_)
  .exact Bool.noConfusion ((rfl:false=false).symm.trans c1)
  refine SQ Z Fc h (λx1 x2 L2=>⟨[(17,pN x2),(16,pN (q1.n:Int)),(15,.p (vSl 18 B4 q1)),(4,.p (vSl 2 A0 x1)),(0,.yf 2)],[(2,.yld (L2.map (λ(x:Int×(Sl Jf))=>[pI .i64 x.1,vSl 2 A0 x.2])) true),(1,.cells [.p (vSl 18 B4 q1)]),(0,.cells [.p (vSl 2 A0 q0)])]⟩) (ids:=(Kg [0,1,2])) (λ_ _ _ _ _ g x1 x2 L2 i h=>?_);apply kI Z h<;>intro h
  .obtain⟨c13,h⟩:=C9 h;obtain⟨y4,e4,h⟩:=A8 h;refine B3 Z [] (Ki c13 Ip) (XX Z Y e4) ?_;refine D0 Z Fc (b:=y4.2 != 0) (λc14=>?_) (λc14=>?_)
   .replace h:=itT c14 h;obtain⟨c0,h⟩:=C9 h;obtain rfl:=B0 h;have j:AD1 c=some (.iface 261 (pI .i64 y4.2)):=by
     have:¬y4.2=0:=by simpa using c14
     rw[<- c0];simp[AD1,this]
    refine AR1 Z Fc (x:=.iface 261 (pI .i64 y4.2)) ?_;exact AJ7 Z Fc (x:=.iface 261 (pI .i64 y4.2)) (objs:=[(.cells [.p (vSl 2 A0 q0)]),.cells [.p (vSl 18 B4 q1)],.yld [] true]) [0,1,2] ⟨true,rfl,rfl,λ_=>by rw[j];rfl,λe=>nomatch e⟩
   replace h:=itF c14 h;obtain⟨L5,rfl,f⟩:=LY h;replace h:=f;refine Dk Z Fc (ys:=(λ(x:Int×(Sl Jf))=>[pI .i64 x.1,vSl 2 A0 x.2]) (wrap .i64 (x2+1),y4.1)) (rest:=L5.map (λ(x:Int×(Sl Jf))=>[pI .i64 x.1,vSl 2 A0 x.2])) ?_ ?_
   .refine D0 Z Fc (b:=false) (λc15=>?_) (λc15=>?_)
    .exact Bool.noConfusion ((rfl:false=false).symm.trans c15)
    exact i _ (Kg [0,1,2]) _ y4.1 (wrap .i64 (x2+1)) L5 Fc h
   refine D0 Z Fc (b:=true) (λc16=>?_) (λc16=>?_)
   .exact kO Z Fc (a:=.tup []) (objs:=[(.cells [.p (vSl 2 A0 q0)]),.cells [.p (vSl 18 B4 q1)],.yld [] false]) [0,1,2] ⟨false,rfl,rfl,λe=>(nomatch e),λ_=>⟨_,rfl⟩⟩
   exact Bool.noConfusion (Iu.symm.trans c16)
  obtain⟨c0,h⟩:=C9 h;obtain rfl:=B0 h;exact kO Z Fc (a:=.tup []) (objs:=[(.cells [.p (vSl 2 A0 q0)]),.cells [.p (vSl 18 B4 q1)],.yld [] true]) [0,1,2] ⟨true,rfl,rfl,λ_=>by subst c0;exact⟨_,rfl⟩,λe=>(nomatch e)⟩
 refine D0 Z Fc (b:=true) (λc17=>?_) (λc17=>?_)
 .exact kO Z Fc (a:=.tup []) (objs:=[(.cells [.p (vSl 2 A0 q0)]),.cells [.p (vSl 18 B4 q1)],.yld [] false]) [0,1,2] ⟨false,rfl,rfl,λe=>(nomatch e),λ_=>⟨_,rfl⟩⟩
 exact Bool.noConfusion (Iu.symm.trans c17)
def DF (N:Nat)(a:Sl Law)(b:Sl Jf):Option ((Sl Jf)×(Sl Law)):= some (b,a)
theorem JK {a:Sl Law}{b:Sl Jf}{y:(Sl Jf)×(Sl Law)}(h:DF N a b=some y) :Mb S JG [.p (vSl 18 B4 a),.p (vSl 2 A0 b)] [] (.clo Y8 [] [.reg 0 0,.reg 1 0]) ([.cells [.p (vSl 2 A0 y.1)],.cells [.p (vSl 18 B4 y.2)]]) []:=by unfold DF at h;refine A2 Z func150 ?_;obtain rfl:=B0 h;exact kO Z Fc [4000,3000]
def K7 (N:Nat)(c:Int)(a:Sl Law)(d:Sl Jf):Option (Sl Jf):= (DF N a d).bind λy1=>(BZ N c y1.1 y1.2).bind λL1=>T4 L1 (λb (x1:Int×(Sl Jf)) (z1:Sl Jf)=>b x1.2) (λ(z1:Sl Jf)=>some z1) (Sl.nil:Sl Jf)
theorem Mg {a:Sl Law}{b:Sl Jf}{y:Sl Jf}(h:K7 N 0 a b=some y) :Mb S K6 [.p (vSl 18 B4 a),.p (vSl 2 A0 b)] [] (.p (vSl 2 A0 y)) ([]) []:=by
 unfold K7 at h;refine A2 Z func111 ?_;refine kC Z h (JK Z Y) (λy1 h=>?_);obtain⟨L1,e2,h⟩:=A8 h;have f:OH S Y8 [] [.reg 0 0,.reg 1 0] [.cells [.p (vSl 2 A0 y1.1)],.cells [.p (vSl 18 B4 y1.2)]] (L1.map (λ(x:Int×(Sl Jf))=>[pI .i64 x.1,vSl 2 A0 x.2])) none:=HE Z Y e2;refine Zl Z Fc [8000,8001] [4] 901 (λz1=>⟨[(4,.reg 5000 0)],[(5000,.cells [.p (vSl 2 A0 z1)])]⟩) (idl:=[(5000,5000)]) h f (λ_=>by kernel_rfl) (λ_=>by kernel_rfl) (λ_=>by kernel_rfl) (λ_=>by kernel_rfl) (λx1 _ c z1 d h=>?_) (λz1 h=>?_)
 .refine Ke Z Fc ?_;exact d _ (Kg [901,5000]) _ x1.2 Fc h
 cases h;exact kR Z
theorem Mh {c:Int}{a:Sl Law}{b:Sl Jf}{y:Sl Jf}(hc:c≠0)(h:K7 N c a b=some y) :S.F K6 [.p (vSl 18 B4 a),.p (vSl 2 A0 b)] [] λres o k=>res=.panic (.iface 261 (pI .i64 c))/\o=[]/\k=[]:=by
 unfold K7 at h;refine AB8 Z func111 ?_;refine kC Z h (JK Z Y) (λy1 h=>?_);obtain⟨L1,e2,h⟩:=A8 h;have g:OH S Y8 [] [.reg 0 0,.reg 1 0] [.cells [.p (vSl 2 A0 y1.1)],.cells [.p (vSl 18 B4 y1.2)]] (L1.map (λ(x:Int×(Sl Jf))=>[pI .i64 x.1,vSl 2 A0 x.2])) (some (.iface 261 (pI .i64 c))):=by
  have:=HE Z Y e2
  simpa[AD1,hc]using this
 refine Zl Z Fc [8000,8001] [4] 901 (λz1=>⟨[(4,.reg 5000 0)],[(5000,.cells [.p (vSl 2 A0 z1)])]⟩) (idl:=[(5000,5000)]) h g (λ_=>by kernel_rfl) (λ_=>by kernel_rfl) (λ_=>by kernel_rfl) (λ_=>by kernel_rfl) (λx1 _ d z1 f h=>?_) (λz1 h=>?_)
 .refine Ke Z Fc ?_;exact f _ (Kg [901,5000]) _ x1.2 Fc h
 exact AJ7 Z Fc (x:=.iface 261 (pI .i64 c)) (objs:=[]) [] ⟨rfl,rfl,rfl⟩
def Ca (N:Nat)(a:Sl Law)(b:Sl Jf):Option ((Sl Jf)×Bool):=
 match K7 N 0 a b with
 |some y=>some (y,true)
 |none=>(K7 N 11 a b).bind λ_=>some ((Sl.nil:Sl Jf),false)
theorem Nu {b:Sl Law}{c:Sl Jf}{y:(Sl Jf)×Bool}(h:Ca N b c=some y) :Mb S Hv [.p (vSl 18 B4 b),.p (vSl 2 A0 c)] [] (.tup [.p (vSl 2 A0 y.1),pB y.2]) ([]) []:=by
 unfold Ca at h;refine A2 Z func70 ?_;rcases e:K7 N 0 b c with _|z
 .rw[e]at h;obtain⟨z,e1,h⟩:=A8 h;obtain rfl:=B0 h;refine B3 Z [7000,3000,4000,5000] Fc (Y.attP (Mh Z Y (by decide) e1)) ?_;refine F7 Z Fc [(0,.l [5000]),(1,.l [7000]),(3,.a [5000])] ?_;refine C7 Fc ?_;exact J7 Z Fc ⟨[(5,pB false),(4,.reg 5000 0)],[(5000,.cells [.p (vSl 2 A0 Sl.nil)])]⟩ [] (ids:=[(5000,5000)]) ⟨rfl,rfl,rfl⟩
 rw[e]at h;obtain rfl:=B0 h;refine B3 Z [7000,3000,4000,5000] Fc (Y.attR (Mg Z Y e)) ?_;refine F7 Z Fc [(0,.l [5000]),(1,.l [7000]),(3,.a [5000])] ?_;refine C7 Fc ?_;exact J7 Z Fc ⟨[(5,pB true),(4,.reg 5000 0)],[(5000,.cells [.p (vSl 2 A0 z)])]⟩ [] (ids:=[(5000,5000)]) ⟨rfl,rfl,rfl⟩
end Go.AM
namespace Go.AM
open Go.Proofs
set_option maxRecDepth 10000
set_option maxHeartbeats 2000000
variable {S:U6}(Z:G6 S Tryz.prog) (Y:Km S)
include Z Y
def S9 (N:Nat)(a:Sl Law)(b:Sl Jf):Option ((Sl Jf)×Int):= (BU N a (Sl.of [b]:Sl (Sl Jf))).bind λy1=>if (y1 != 0) then some ((Sl.nil:Sl Jf),y1) else (Ca N a b).bind λy2=>if (!y2.2) then some ((Sl.nil:Sl Jf),11) else some (y2.1,0)
theorem Fl {N:Nat}{a:Sl Law}{b:Sl Jf}{y:(Sl Jf)×Int}(h:S9 N a b=some y) :Mb S Ij [.p (vSl 18 B4 a),.p (vSl 2 A0 b)] [] (.tup [.p (vSl 2 A0 y.1),pN y.2]) ([]) []:=by
 unfold S9 at h;refine A2 Z Tryz.func39 ?_;refine KS Z Iu ⟨[(11,.vec 12000),(9,.p (vSl 18 B4 a)),(1,.p (vSl 2 A0 b)),(0,.p (vSl 18 B4 a))],[(12000,.vec U7 1 (Sl.of [b]:Sl (Sl Jf)).n (λi=>cL 2 A0 ((Sl.of [b]:Sl (Sl Jf)).g i)) false)]⟩ (ids:=[(12000,12000)]) ?_ (hle:=kl1 3 (Ac7 (cL 2 A0) ([b]:List (Sl Jf)) [C8]));refine kC Z h (QM Z Y) (λy1 h=>?_);apply kI Z h<;>intro h
 .obtain rfl:=B0 h;exact kO Z Fc []
 refine kC Z h (Nu Z Y) (λy2 h=>?_);apply kI Z h<;>intro h
 .obtain rfl:=B0 h;exact kO Z Fc []
 cases h;exact kR Z
end Go.AM
