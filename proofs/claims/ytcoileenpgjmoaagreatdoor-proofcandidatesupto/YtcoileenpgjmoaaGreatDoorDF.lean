/- Part 6. -/
import Derived.Test.YtcoileenpgjmoaaGreatDoorDE
import Derived.Test.YtcoileenpgjmoaaGreatDoorDD
import Derived.RecoverIn
import Derived.Test.YtcoileenpgjmoaaGreatDoorProg
import Derived.Lib.SlTrimSet
import Derived.Lib.Join
import Derived.Lib.ItoaNum
import Derived.Lib.Bytealg
import Derived.TacticsInMore
set_option linter.defProp false
set_option linter.unusedSimpArgs false
set_option linter.unusedVariables false
set_option linter.unusedSectionVars false
namespace Go.AM
def Kf:=@And.intro
abbrev Ke(k n:Nat):Prop:=n*k<=140737488355328/\n<=140737488355328
def Jy(l:List Nat):List (Nat×Nat):=l.map fun a=>(a,a)
abbrev Ir:Sl Int:=Sl.nil
def Iq:true=true:=rfl
def Im:(18:Nat)<=18:=by decide
def Ik:(7:Nat)<=7:=by decide
def Gp:(2:Nat)<=2:=by decide
noncomputable abbrev Bf6:=Go.Proofs.Tryz.prog.funcs
def Br5:=@Bool.eq_iff_iff
def Bz4:=@BitVec.toNat_ofNat
theorem GR (D:List Deferred)(a:Act)(d:Option Tmp)(v:Value):(PR D a).put d v=PR D (a.put d v):=by cases d<;>rfl
theorem KT {F:Fence}{n:Nat}{P:Program}{ops:Array Oper}{Q:Exit->Act->World->Prop}(D:List Deferred):∀(l:List Nat) (a:Act) (w:World),wpOpsIn F n P ops Q l a w ->
 wpOpsIn F n P ops (λe a' w'=>∃a0,a' = PR D a0/\Q e a0 w') l (PR D a) w
 |[],a,w,h=>⟨a,rfl,h⟩
 |i::l,a,w,h=>by
  have ih:=KT (F:=F) (n:=n) (P:=P) (ops:=ops) (Q:=Q) D l;simp only[wpOpsIn]at h⊢;have e1:(PR D a).eval=a.eval:=by funext x;cases x<;>rfl
  have e2:(PR D a).tmps=a.tmps:=rfl;cases j:ops[i]? with
  |none=>simp only[j]at h⊢;exact ih a w h
  |some o=>
   simp only[j]at h⊢;rw[e2,e1];by_cases hw:Region.wanted o (yielded ops a.tmps)=true
   .rw[Ej hw]at h⊢;refine⟨by rw[e1];exact h.1,?_⟩;have b:=h.2;rw[e1];generalize (o.semAt F.round a.eval).run P w=r at b;unfold Oper.uponIn at b⊢;split at b
    .rw[GR];exact ih _ _ b
    .rw[GR];exact ih _ _ b
    .exact ih _ _ b |> λx=>by
      rename_i d w'
      have:({ (PR D a)with defers:=d::(PR D a).defers }:Act).put o.dst undef=PR D (({ a with defers:=d::a.defers }:Act).put o.dst undef):=by rw[<- GR];rfl
      rw[this];exact x
    .refine⟨b.1,b.2.mono ?_⟩;intro e w' f;cases e with
     |returned v=>have:=ih _ _ f;rw[<- GR]at this;exact this
     |panicked ch=>exact⟨a,rfl,f⟩
     |outgrown=>obtain⟨a1,w1,g⟩:=f;exact⟨PR D a1,w1,a1,rfl,g⟩
    .refine⟨b.1,λc cs m=>?_⟩;obtain⟨v,w',g1,g2⟩:=b.2 c cs m;exact⟨v,w',by have:=ih _ _ g1;rw[<- GR]at this;exact this,g2⟩
    .refine⟨b.1,b.2.mono ?_⟩;intro e w' f;cases e with
     |returned v=>have:=ih _ _ f;rw[<- GR]at this;exact this
     |panicked ch=>exact⟨a,rfl,f⟩
     |outgrown=>obtain⟨a1,w1,g⟩:=f;exact⟨PR D a1,w1,a1,rfl,g⟩
    .exact⟨a,rfl,b⟩
    exact b.elim
   rw[Er hw]at h⊢;rw[GR];exact⟨h.1,ih _ _ h.2⟩
section
variable {P:Program}{C:Ctx}{st:St}{rho:Nat->Value}
theorem GS {fn:Func}{R:Ending->World->Prop}{u:FrameMode}(c:u ≠ .run){tmps:Array Value}{D:List Deferred}(b:∀a w,Sat C st a w rho->a.tmps=tmps->LeavesInM Fence.wide 0 P fn tmps R D u w) :∀(ds:List Deferred) (a:Act) (w:World),a.defers=ds->a.tmps=tmps->Sat C st a w rho->LeavesInM Fence.wide 0 P fn tmps R (ds++D) u w
 |[],a,w,hd,ht,h=>b a w h ht
 |d::ds,a,w,hd,ht,h=>by obtain⟨r,w',h1,f,g⟩:=h.unmark hd;exact⟨c,.inl ⟨r,w',h1,f,GS c b ds { a with defers:=ds } w' rfl ht g⟩⟩
end
end Go.AM
namespace Go.AM
structure Jb where
 Plus:Int
 Minus:Int
 deriving Inhabited,DecidableEq
abbrev A0 (x:Jb):List PV:=[(pI .u32 x.Plus),pI .u32 x.Minus]
inductive Pat where
 |nil
 |mk (Kind:Int) (Is:Jb) (Not:Bool) (Min:Int) (Max:Int) (n:Nat) (g:Nat->Pat)
instance:Inhabited Pat:=⟨.nil⟩
def Pat.Kind:Pat->Int
 |.nil=>0
 |.mk x _ _ _ _ _ _=>x
def Pat.Is:Pat->Jb
 |.nil=>default
 |.mk _ x _ _ _ _ _=>x
def Pat.Not:Pat->Bool
 |.nil=>false
 |.mk _ _ x _ _ _ _=>x
def Pat.Min:Pat->Int
 |.nil=>0
 |.mk _ _ _ x _ _ _=>x
def Pat.Max:Pat->Int
 |.nil=>0
 |.mk _ _ _ _ x _ _=>x
def Pat.L:Pat->Sl Pat
 |.nil=>⟨0,λ_=>.nil⟩
 |.mk _ _ _ _ _ n g=>⟨n,g⟩
def EC:Pat->Nat->List PV
 |.nil=>λ_=>[]
 |.mk _ _ _ _ _ n g=>λi=>[(pI .i64 (g i).Kind),pI .u32 (g i).Is.Plus,pI .u32 (g i).Is.Minus,.bb (g i).Not,pI .i64 (g i).Min,pI .i64 (g i).Max,.sl false 7 (g i).L.n (EC (g i))]
abbrev D6 (x:Pat):List PV:=[(pI .i64 x.Kind),pI .u32 x.Is.Plus,pI .u32 x.Is.Minus,.bb x.Not,pI .i64 x.Min,pI .i64 x.Max,.sl false 7 x.L.n (EC x)]
def Cb (x:Pat):∀i,i<x.L.n->EC x i=D6 (x.L.g i):=by
 cases x with
 |nil=>intro i a;exact Es (show i<0 from a) (by omega)
 |mk Kind Is Not Min Max n g=>exact λ_ _=>rfl
structure Ei where
 From:Int
 Clear:Int
 Set:Jb
 Take:Int
 Of:Int
 deriving Inhabited,DecidableEq
abbrev Aq (x:Ei):List PV:=[(pI .i64 x.From),pI .u32 x.Clear,pI .u32 x.Set.Plus,pI .u32 x.Set.Minus,pI .u32 x.Take,pI .i64 x.Of]
structure Law where
 Name:Str
 Left:Pat
 Right:Pat
 If:(Sl Jb)
 Out:(Sl Ei)
 Mode:Int
 deriving Inhabited
abbrev B3 (x:Law):List PV:=[(.str x.Name),pI .i64 x.Left.Kind,pI .u32 x.Left.Is.Plus,pI .u32 x.Left.Is.Minus,.bb x.Left.Not,pI .i64 x.Left.Min,pI .i64 x.Left.Max,.sl false 7 x.Left.L.n (EC x.Left),pI .i64 x.Right.Kind,pI .u32 x.Right.Is.Plus,pI .u32 x.Right.Is.Minus,.bb x.Right.Not,pI .i64 x.Right.Min,pI .i64 x.Right.Max,.sl false 7 x.Right.L.n (EC x.Right),vSl 2 A0 x.If,vSl 6 Aq x.Out,pI .i64 x.Mode]
structure Small where
 Parents:(Sl Int)
 Laws:(Sl Law)
 On:(Sl Int)
 deriving Inhabited
abbrev Ia (x:Small):List PV:=[(vSl 1 (cI .u8) x.Parents),vSl 18 B3 x.Laws,vSl 1 (cI .u16) x.On]
structure Am6 where
 H:Small
 L:(Sl Int)
 deriving Inhabited
abbrev FD (x:Am6):List PV:=[(vSl 1 (cI .u8) x.H.Parents),vSl 18 B3 x.H.Laws,vSl 1 (cI .u16) x.H.On,vSl 1 (cI .u32) x.L]
structure Node where
 Parent:Int
 Name:Str
 deriving Inhabited,DecidableEq
abbrev C4 (x:Node):List PV:=[(pI .i64 x.Parent),.str x.Name]
structure History where
 Tree:(Sl Node)
 Laws:(Sl Law)
 On:(Sl (Sl Int))
 deriving Inhabited
abbrev A6 (x:History):List PV:=[(vSl 2 C4 x.Tree),vSl 18 B3 x.Laws,vSl 1 (cL 1 (cI .i64)) x.On]
structure K4 where
 Symbol:Str
 S:Jb
 deriving Inhabited,DecidableEq
abbrev D7 (x:K4):List PV:=[(.str x.Symbol),pI .u32 x.S.Plus,pI .u32 x.S.Minus]
structure Jm where
 Text:Str
 Clear:Int
 Set:Jb
 deriving Inhabited,DecidableEq
abbrev V4 (x:Jm):List PV:=[(.str x.Text),pI .u32 x.Clear,pI .u32 x.Set.Plus,pI .u32 x.Set.Minus]
structure F3 where
 Has:Bool
 W:(Sl Jb)
 deriving Inhabited
abbrev E4 (x:F3):List PV:=[(.bb x.Has),vSl 2 A0 x.W]
structure Entry where
 Gloss:Str
 Forms:(Sl F3)
 deriving Inhabited
abbrev F4 (x:Entry):List PV:=[(.str x.Gloss),vSl 2 E4 x.Forms]
structure B9 where
 Feats:(Sl Str)
 Sounds:(Sl K4)
 Marks:(Sl Jm)
 History:History
 Protos:(Sl F3)
 Entries:(Sl Entry)
 deriving Inhabited
abbrev B2 (x:B9):List PV:=[(vSl 1 cS x.Feats),vSl 3 D7 x.Sounds,vSl 4 V4 x.Marks,vSl 2 C4 x.History.Tree,vSl 18 B3 x.History.Laws,vSl 1 (cL 1 (cI .i64)) x.History.On,vSl 2 E4 x.Protos,vSl 2 F4 x.Entries]
structure A8 where
 Entry:Int
 Leaf:Int
 Kind:Int
 Cost:Int
 deriving Inhabited,DecidableEq
abbrev C5 (x:A8):List PV:=[(pI .i64 x.Entry),pI .i64 x.Leaf,pI .i64 x.Kind,pI .i64 x.Cost]
structure IT where
 Node:Int
 Place:Int
 Entry:Int
 Leaf:Int
 deriving Inhabited,DecidableEq
abbrev V9 (x:IT):List PV:=[(pI .i64 x.Node),pI .i64 x.Place,pI .i64 x.Entry,pI .i64 x.Leaf]
structure KU where
 Bad:(Sl A8)
 Swaps:(Sl IT)
 deriving Inhabited
abbrev OI (x:KU):List PV:=[(vSl 4 C5 x.Bad),vSl 4 V9 x.Swaps]
structure B7 where
 a0:Int
 a1:Int
 deriving Inhabited,DecidableEq
abbrev D8 (x:B7):List PV:=[(pI .i64 x.a0),pI .i64 x.a1]
structure CF where
 entry:Int
 leaf:Int
 deriving Inhabited,DecidableEq
abbrev OJ (x:CF):List PV:=[(pI .i64 x.entry),pI .i64 x.leaf]
inductive Part where
 |nil
 |sound (x:Jb) (no:Bool)
 |edge (e:Bool)
 |seq (n:Nat) (g:Nat->Part)
 |alt (n:Nat) (g:Nat->Part)
 |rep (o:Part) (mn mx:Int)
instance:Inhabited Part:=⟨.nil⟩
def Part.t:Part->Nat
 |.nil=>0
 |.sound _ _=>335
 |.edge _=>337
 |.seq _ _=>342
 |.alt _ _=>339
 |.rep _ _ _=>341
def Part.v:Part->PV
 |.nil=>.bb false
 |.sound x no=>.agg [pI .u32 x.Plus,pI .u32 x.Minus,.bb no]
 |.edge e=>.agg [.bb e]
 |.seq n g=>.agg [.sl false 1 n λi=>[.iface (g i).t (g i).v]]
 |.alt n g=>.agg [.sl false 1 n λi=>[.iface (g i).t (g i).v]]
 |.rep o mn mx=>.agg [.iface o.t o.v,pI .i64 mn,pI .i64 mx]
abbrev Ib (x:Part):PV:=.iface x.t x.v
abbrev Jn (x:Part):List PV:=[Ib x]
structure Am7 where
 is:Jb
 not:Bool
 deriving Inhabited,DecidableEq
abbrev Zl (x:Am7):List PV:=[(pI .u32 x.is.Plus),pI .u32 x.is.Minus,.bb x.not]
structure AQ6 where
 end_:Bool
 deriving Inhabited,DecidableEq
abbrev AQ7 (x:AQ6):List PV:=[(.bb x.end_)]
structure Palt where
 l:(Sl Part)
 deriving Inhabited
abbrev Ba6 (x:Palt):List PV:=[(vSl 1 Jn x.l)]
structure Ba7 where
 of:Part
 min:Int
 max:Int
 deriving Inhabited
abbrev Ba8 (x:Ba7):List PV:=[(Ib x.of),pI .i64 x.min,pI .i64 x.max]
structure Pseq where
 l:(Sl Part)
 deriving Inhabited
abbrev Ba9 (x:Pseq):List PV:=[(vSl 1 Jn x.l)]
structure B1 where
 feats:(Sl Str)
 number:List (Str×Int)
 sounds:(Sl K4)
 symbols:List (Str×Int)
 values:List (Jb×Int)
 deriving Inhabited
abbrev H1 (a b:Jb):Bool:=((a.Plus==b.Plus)&&(a.Minus==b.Minus))
end Go.AM
namespace Go.AM
open Go.Proofs
abbrev Am:Nat:=5
abbrev Ic:Nat:=7
abbrev OL:Nat:=8
abbrev My:Nat:=9
abbrev Jo:Nat:=10
abbrev KV:Nat:=11
abbrev Mz:Nat:=12
abbrev MA:Nat:=13
abbrev MB:Nat:=14
abbrev Rw:Nat:=16
abbrev Rx:Nat:=17
abbrev KW:Nat:=18
abbrev MC:Nat:=19
abbrev Hr:Nat:=21
abbrev OM:Nat:=22
abbrev KX:Nat:=23
abbrev RA:Nat:=24
abbrev KY:Nat:=25
abbrev MD:Nat:=26
abbrev KZ:Nat:=27
abbrev M4:Nat:=28
abbrev S2:Nat:=29
abbrev ME:Nat:=30
abbrev Id:Nat:=31
abbrev Ie:Nat:=32
abbrev La:Nat:=33
abbrev OP:Nat:=34
abbrev Jp:Nat:=35
abbrev Ig:Nat:=36
abbrev Jq:Nat:=37
abbrev Lb:Nat:=38
abbrev Ih:Nat:=39
abbrev Jr:Nat:=40
abbrev MF:Nat:=41
abbrev Lc:Nat:=42
abbrev BJ:Nat:=43
abbrev Y5:Nat:=44
abbrev Dz:Nat:=45
abbrev OT:Nat:=46
abbrev X6:Nat:=47
abbrev DK:Nat:=48
abbrev W1:Nat:=49
abbrev OU:Nat:=51
abbrev OV:Nat:=52
abbrev MG:Nat:=53
abbrev Ld:Nat:=54
abbrev OW:Nat:=55
abbrev Js:Nat:=56
abbrev Hs:Nat:=57
abbrev Gq:Nat:=58
abbrev MH:Nat:=59
abbrev Dd:Nat:=60
abbrev Lf:Nat:=61
abbrev Gr:Nat:=62
abbrev MI:Nat:=63
abbrev Jt:Nat:=64
abbrev Ju:Nat:=65
abbrev RB:Nat:=66
abbrev Ij:Nat:=67
abbrev EZ:Nat:=68
abbrev Jv:Nat:=69
abbrev Ht:Nat:=70
abbrev Hu:Nat:=71
abbrev MJ:Nat:=72
abbrev MK:Nat:=73
abbrev Lg:Nat:=74
abbrev S3:Nat:=75
abbrev OZ:Nat:=81
abbrev Lh:Nat:=82
abbrev RC:Nat:=83
abbrev Li:Nat:=84
abbrev Lj:Nat:=85
abbrev Pa:Nat:=86
abbrev ML:Nat:=87
abbrev N0:Nat:=88
abbrev O5:Nat:=89
abbrev Jw:Nat:=90
abbrev Hv:Nat:=91
abbrev Jx:Nat:=92
abbrev Pb:Nat:=93
abbrev T7:Nat:=94
abbrev MM:Nat:=95
abbrev Ci:Nat:=96
abbrev Q1:Nat:=97
abbrev T8:Nat:=98
abbrev Fb:Nat:=99
abbrev Cj:Nat:=100
abbrev Hw:Nat:=101
abbrev FS:Nat:=102
abbrev S4:Nat:=103
abbrev BK:Nat:=104
abbrev Jz:Nat:=105
abbrev MN:Nat:=106
abbrev Il:Nat:=107
abbrev JA:Nat:=108
abbrev N4:Nat:=109
abbrev W2:Nat:=110
abbrev K5:Nat:=111
abbrev AQ:Nat:=112
abbrev J1:Nat:=113
abbrev T9:Nat:=114
abbrev MO:Nat:=115
abbrev Io:Nat:=116
abbrev RD:Nat:=127
abbrev RE:Nat:=128
abbrev FU:Nat:=129
abbrev JB:Nat:=130
abbrev R0:Nat:=131
abbrev O1:Nat:=132
abbrev Q3:Nat:=133
abbrev N6:Nat:=134
abbrev Hy:Nat:=135
abbrev JC:Nat:=136
abbrev MP:Nat:=137
abbrev Bm:Nat:=138
abbrev Vz:Nat:=139
abbrev Ar:Nat:=140
abbrev Ip:Nat:=141
abbrev Cl:Nat:=142
abbrev Bn:Nat:=143
abbrev DL:Nat:=144
abbrev N7:Nat:=145
abbrev Hz:Nat:=146
abbrev S5:Nat:=147
abbrev O6:Nat:=148
abbrev HA:Nat:=149
abbrev JD:Nat:=150
abbrev Ll:Nat:=151
abbrev ED:Nat:=163
abbrev GT:Nat:=164
abbrev MQ:Nat:=172
abbrev J0:Nat:=173
abbrev O8:Nat:=174
abbrev P9:Nat:=175
abbrev Kh:Nat:=176
abbrev Et:Nat:=177
abbrev Gs:Nat:=178
abbrev W3:Nat:=179
abbrev Bo:Nat:=180
abbrev DM:Nat:=181
abbrev X7:Nat:=182
abbrev CO:Nat:=183
abbrev Q4:Nat:=184
abbrev O9:Nat:=185
abbrev Q5:Nat:=186
abbrev Y9:Nat:=187
abbrev Pg:Nat:=188
abbrev S6:Nat:=190
abbrev Ph:Nat:=196
abbrev Pj:Nat:=199
abbrev VB:Nat:=200
abbrev Kj:Nat:=202
abbrev RF:Nat:=203
abbrev P3:Nat:=204
abbrev VC:Nat:=205
abbrev VD:Nat:=206
abbrev Lm:Nat:=207
abbrev Iu:Nat:=208
abbrev MR:Nat:=209
abbrev Gt:Nat:=210
abbrev J7:Nat:=211
abbrev JE:Nat:=212
abbrev MS:Nat:=213
abbrev BN:Nat:=214
abbrev Ln:Nat:=215
abbrev Pk:Nat:=216
abbrev Pl:Nat:=217
abbrev Pm:Nat:=218
abbrev Lo:Nat:=219
abbrev Lp:Nat:=220
abbrev JF:Nat:=221
abbrev Iv:Nat:=222
abbrev DA:Nat:=223
abbrev Ek:Nat:=224
abbrev DN:Nat:=243
abbrev Ff:Nat:=244
abbrev FV:Nat:=245
abbrev GV:Nat:=246
abbrev FH:Nat:=247
abbrev GW:Nat:=248
abbrev Ix:Nat:=249
abbrev Br:Nat:=250
abbrev GX:Nat:=251
abbrev D9:Nat:=3
abbrev AI4:Nat:=4
abbrev H9:Nat:=5
abbrev F7:Nat:=9
abbrev DO:Nat:=23
abbrev XG:Nat:=26
abbrev Ad0:Nat:=29
abbrev FI:Nat:=55
abbrev Cn:Nat:=57
abbrev Gu:Nat:=59
abbrev I7:Nat:=64
abbrev P4:Nat:=66
abbrev Av:Nat:=68
abbrev O3:Nat:=83
abbrev Bs:Nat:=99
abbrev B5:Nat:=117
abbrev Gv:Nat:=134
abbrev H5:Nat:=137
abbrev D3:Nat:=145
abbrev An2:Nat:=186
abbrev E1:Nat:=197
abbrev Ad1:Nat:=253
abbrev XH:Nat:=330
end Go.AM
namespace Go.AM
open IntKind (wrap)
abbrev U (x:BitVec 64):Int:=(x.toNat:Int)
def Pq {n:Nat}(h:n<2 ^ 64):IntKind.u64.wrap (n:Int)=n:=by have h1:((n:Int) % (2 ^ 64:Int))=n:=Bm7 (by omega) (by omega);unfold wrap;simp only[IntKind.bits,IntKind.signed,h1,Bp5,Bg3,Ev]
def An3 (x:BitVec 64):BitVec.ofInt 64 (U x)=x:=by
 apply Bm8;rw[Bz1]
 have:=x.isLt
 show ((x.toNat:Int) % ((2 ^ 64:Nat):Int)).toNat=x.toNat;omega
def or64 (x y:BitVec 64):P2 .or .u64 (U x) (U y)=U (x ||| y):=by simp only[P2,IntKind.bits,An3];exact Pq (x ||| y).isLt
def AB4 (x y:BitVec 64):P2 .andNot .u64 (U x) (U y)=U (x &&& ~~~ y):=by simp only[P2,IntKind.bits,An3];exact Pq (x &&& ~~~ y).isLt
def AB5 (n:Nat)(h:n<64):shI .shl .u64 1 n=U (1#64 <<< n):=by
 simp only[shI,IntKind.bits,Int.toNat_natCast];rw[Bp7 (by omega)];show wrap .u64 (1*2 ^ n)=((1#64 <<< n).toNat:Int);rw[BitVec.toNat_shiftLeft,Nat.shiftLeft_eq];have h1:(2:Nat) ^ n<2 ^ 64:=Nat.pow_lt_pow_right (by omega) h;have e:((1:Int)*2 ^ n)=((2 ^ n:Nat):Int):=by norm_cast;omega
 rw[e,Pq h1]
 norm_cast
 rw[Bo4]
 .simp
 simpa using h1
def AQ8 {i:Nat}:(1#64).getLsbD i=decide (i=0):=by rw[BitVec.getLsbD_one];simp
def An4 {n i:Nat}(h:n<64)(a:i<64):(1#64 <<< n).getLsbD i=decide (i=n):=by rw[BitVec.getLsbD_shiftLeft,AQ8,Br5];simp only[Bg0,Bh6,decide_eq_true_eq,decide_eq_false_iff_not];omega
end Go.AM
namespace Go.AM
open Go.Proofs.Tryz
variable {N:Nat}
open Go.Proofs
abbrev AB6:List AV:=[.reg 0 0,.reg 1 0,.reg 2 0,.reg 3 0]
abbrev XJ (c:Int)(a:Sl Law)(b:Sl Jb)(y:PV):List Obj:=[.cells [pN c],.cells [.p (vSl 18 B3 a)],.cells [.p (vSl 2 A0 b)],.cells [.p y]]
structure Kk (S:V2):Prop where
 attR:∀{a:Sl Law}{b y:Sl Jb},FunO S K5 [.p (vSl 18 B3 a),.p (vSl 2 A0 b)] [] (.p (vSl 2 A0 y)) [] []->FunO S N4 AB6 (XJ 0 a b C7) (.tup []) (XJ 0 a b (vSl 2 A0 y)) [true,true,true,true]
 attP:∀{a:Sl Law}{b:Sl Jb}{c:Int},(S.F K5 [.p (vSl 18 B3 a),.p (vSl 2 A0 b)] [] λres o k=>res=.panic (.iface 261 (pI .i64 c))/\o=[]/\k=[])->FunO S N4 AB6 (XJ 0 a b C7) (.tup []) (XJ c a b C7) [true,true,true,true]
 tz:∀x:BitVec 64,Uj S S6 [.p (pI .u64 (U x))] (.p (pI .i64 (Lib.ctz 64 x.toNat:Nat)))
 trim:∀s c:Str,s.length<1000000000000->c.length<1000000->(∀b∈c,b.toNat<128)->Uj S FU [.p (.str s),.p (.str c)] (.p (.str (Lib.trimS s c)))
 growS:∀(f:Nat->List PV) (n:Nat),n*8<=140737488355328->FunO S J7 [.p C7,.p (pI .i64 (n:Int))] [] (.vec 0) [.vec B5 2 0 f false] []
 join:∀(nn:Bool) (n:Nat) (g:Nat->List UInt8) (sep:List UInt8),n<=140737488355328->(Lib.join ((List.range n).map g) sep).length<=140737488355328 ->
  Uj S Dz [.p (.sl nn 1 n λi=>[.str (g i)]),.p (.str sep)] (.p (.str (Lib.join ((List.range n).map g) sep)))
 indexByte:∀(s:List UInt8) (c:UInt8),Uj S X7 [.p (.str s),.p (.v (.int .u8 c.toNat))] (.p (.v (.int .i64 (Lib.indexByte s c))))
 fmtInt:∀n:Int,-9223372036854775808<=n->n<=9223372036854775807->Uj S X6 [.p (pI .i64 n),.p (pI .i64 10)] (.p (.str (Lib.itoa n)))
 copyCheck:∀(T:Nat) (u n:Nat) (f:Nat->List PV),T=122->FunO S S3 [.reg 0 0] [.blk [0,T,u] 1,.vec H9 1 n f false] (.tup []) [.blk [0,T,1] 1,.vec H9 1 n f false] [true,true]
 bstr:∀(T u n:Nat) (f:Nat->List PV) (s:List UInt8),T=122->s.length=n->(∀i,i<n->f i=[.v (.int .u8 (s.getD i 0).toNat)])->FunO S W1 [.reg 0 0] [.blk [0,T,u] 1,.vec H9 1 n f false] (.p (.str s)) [] []
def I4 (N:Nat)(x:Int):Option Int:=if 0<=x/\x<18446744073709551616 then some ((Lib.ctz 64 x.toNat:Nat):Int)else none
def DB (N:Nat)(s c:Str):Option Str:=if s.length<1000000000000/\c.length<1000000/\(c.all λb=>decide (b.toNat<128)) then some (Lib.trimS s c)else none
def J8 (N:Nat)(n:Int):Option (Sl Jb):=if 0<=n/\n*8<=140737488355328 then some (Sl.nil:Sl Jb)else none
section
variable {S:V2}(Z:G7 S Tryz.prog) (Y:Kk S)
include Z Y
theorem Fg {x y:Int}(h:I4 N x=some y):FunO S S6 [.p (pI .u64 x)] [] (.p (pI .i64 y)) [] []:=by
 obtain⟨⟨a,h1⟩,h⟩:=C9 h;obtain rfl:=B0 h
 have:=Y.tz (BitVec.ofNat 64 x.toNat)
 have e:(BitVec.ofNat 64 x.toNat).toNat=x.toNat:=by rw[Bz4];omega
 have e2:U (BitVec.ofNat 64 x.toNat)=x:=by show ((BitVec.ofNat 64 x.toNat).toNat:Int)=x;rw[e];omega
 rw[e,e2]at this;exact this
theorem JG {s c:Str}{y:Str}(h:DB N s c=some y):FunO S FU [.p (.str s),.p (.str c)] [] (.p (.str y)) [] []:=by obtain⟨⟨a,h1,d⟩,h⟩:=C9 h;obtain rfl:=B0 h;exact Y.trim s c a h1 λb hb=>by simpa using Bg7.1 d b hb
theorem BO {n:Int}{y:Sl Jb}(h:J8 N n=some y):FunO S J7 [.p C7,.p (pI .i64 n)] [] (.vec 0) [.vec B5 2 y.n (λi=>A0 (y.g i)) false] []:=by
 obtain⟨⟨a,h1⟩,h⟩:=C9 h;obtain rfl:=B0 h
 have:=Y.growS (λi=>A0 default) n.toNat (by omega)
 rw[show ((n.toNat:Nat):Int)=n by omega]at this;exact this
def A5 (N:Nat)(s:Sl Jb):Option (Sl Jb):=if (0+s.n)*8<=140737488355328/\0+s.n<=140737488355328 then some s else none
theorem Q6 {s y:Sl Jb}(h:A5 N s=some y):FunO S J1 [.p (vSl 2 A0 s)] [] (.vec 0) [.vec B5 2 y.n (λi=>A0 (y.g i)) true] []:=by
 unfold A5 at h;obtain⟨c1,h⟩:=C9 h;obtain rfl:=B0 h;refine A2 Z func113 ?_;refine UZ Z Fc 3 (k:=2) (n:=s.n) (f:=λi=>A0 (s.g i)) (λa=>?_) ?_
 .obtain⟨n,g⟩:=s;obtain rfl:n=0:=a;exact kO Z Fc [3700]
 exact kO Z (Kf Iq c1) [8000]
  (hle:=kl1 0 (AI3 A0 s [pI .u32 0,pI .u32 0]))
def H6 (N:Nat)(s:Sl Ei):Option (Sl Ei):=if (0+s.n)*32<=140737488355328/\0+s.n<=140737488355328 then some s else none
theorem AT {s y:Sl Jb}(h:A5 N s=some y):FunO S J1 [.p (vSl 2 A0 s)] [] (.p (vSl 2 A0 y)) [] []:=by
 unfold A5 at h;obtain⟨c1,h⟩:=C9 h;obtain rfl:=B0 h;refine A2 Z func113 ?_;refine UZ Z Fc 3 (k:=2) (n:=s.n) (f:=λi=>A0 (s.g i)) (λa=>?_) ?_
 .obtain⟨n,g⟩:=s;obtain rfl:n=0:=a;exact kO Z Fc []
 exact kO Z (Kf Iq c1) []
  (hle:=kl1 0 (AI3 A0 s [pI .u32 0,pI .u32 0]))
theorem CD {s y:Sl Ei}(h:H6 N s=some y):FunO S T9 [.p (vSl 6 Aq s)] [] (.p (vSl 6 Aq y)) [] []:=by
 unfold H6 at h;obtain⟨c1,h⟩:=C9 h;obtain rfl:=B0 h;refine A2 Z func114 ?_;refine UZ Z Fc 3 (k:=6) (n:=s.n) (f:=λi=>Aq (s.g i)) (λa=>?_) ?_
 .obtain⟨n,g⟩:=s;obtain rfl:n=0:=a;exact kO Z Fc []
 exact kO Z (Kf Iq c1) []
  (hle:=kl1 0 (AI3 Aq s [pI .i64 0,pI .u32 0,pI .u32 0,pI .u32 0,pI .u32 0,pI .i64 0]))
end
end Go.AM
set_option maxRecDepth 100000
namespace Go.AM
open Go.Proofs.Tryz
open Go.Proofs
def Ad2 (v:Value)(w:World):(Instr.typeAssert (.iface 261 v) 20 261 true).run Tryz.prog w=.ok (.tuple #[v,.bool true]) w:=by kernel_rfl
def XK (p:Value)(w:World):CallsDIn Fence.wide 0 Tryz.prog W2 #[p] .returning w λe u' w'=>e=.returned (.tuple #[])/\u' = .returning/\w' = w:=by
 refine callsDIn_of_wpSIn func110 rfl (by simp[Fence.wide]) λc₀ cs a=>?_;apply wpSIn_seq;apply wpSIn_region;simp[wpOpsSIn,go_sem,recoverD,a,f110,Exit.thenS];refine wpSIn_of_wpIn rfl (wpIn_block (wpIn_seq (wpIn_region ?_)));simp[wpOpsIn,Oper.wpIn,Oper.semAt,Oper.uponIn,go_sem,Exit.then];refine wpIn_cond (t:=true) (by simp[Act.eval]) ?_;simp only[Eu];refine wpIn_region ?_;simp[wpOpsIn,Oper.wpIn,Oper.semAt,Oper.uponIn,go_sem,Exit.inBlock,bodyPostS,results];cases c₀
 simp_all
def Nn (p:Value)(c:Int)(older:List PanicEntry)(w w1:World)(a:(Instr.storeAt 49 p (.int .i64 c)).run Tryz.prog w=.ok () w1)(hn:∃b,p=.pointer (some b)) :CallsDIn Fence.wide 0 Tryz.prog W2 #[p] (.panicking ({ v:=.iface 261 (.int .i64 c),recovered:=false }::older)) w λe u' w'=>
  e=.returned (.tuple #[])/\u' = .panicking ({ v:=.iface 261 (.int .i64 c),recovered:=true }::older)/\w' = w1:=by
 obtain⟨b,rfl⟩:=hn;refine callsDIn_of_wpSIn func110 rfl (by simp[Fence.wide]) λc₀ cs d=>?_;apply wpSIn_seq;apply wpSIn_region;simp[wpOpsSIn,go_sem,recoverD,d,f110,Exit.thenS];refine wpSIn_of_wpIn rfl (wpIn_block (wpIn_seq (wpIn_region ?_)));simp[wpOpsIn,Oper.wpIn,Oper.semAt,Oper.uponIn,go_sem,Exit.then];refine wpIn_cond (t:=false) (by simp[Act.eval]) ?_;simp only[Bg3,Ev];refine wpIn_seq (wpIn_region ?_);simp[wpOpsIn,Oper.wpIn,Oper.semAt,Oper.uponIn,go_sem,Exit.then,Ad2];refine wpIn_cond (t:=true) (by simp[Act.eval]) ?_;simp only[Eu];refine wpIn_seq (wpIn_region ?_);simp[wpOpsIn,Oper.wpIn,Oper.semAt,Oper.uponIn,go_sem,Exit.then];refine wpIn_region ?_;simp[wpOpsIn,Oper.wpIn,Oper.semAt,Oper.uponIn,go_sem,a,Exit.inBlock,bodyPostS,results];simp[go_sem]at a;rw[a];simp[Result.andThen]
noncomputable def AU3:Code:=match Tryz.f109.body with
 |some (.seq _ c)=>c
 |_=>.skip
def AQ9 {S:V2}(Z:G7 S Tryz.prog){a:Sl Law}{b y:Sl Jb}(c:FunO S K5 [.p (vSl 18 B3 a),.p (vSl 2 A0 b)] [] (.p (vSl 2 A0 y)) [] []) :KG S Tryz.prog (Ru S (λst=>M9 [0,1,2,3] st.regs [0,1,2,3]=some (XJ 0 a b (vSl 2 A0 y))) λ_ _=>False) (.code AU3 [] ⟨argEnv AB6,objRegs (XJ 0 a b C7)⟩):=by refine B4 Z [] Fc c ?_;exact K_upN Z Fc ⟨[],[(3,.cells [.p (vSl 2 A0 y)]),(2,.cells [.p (vSl 2 A0 b)]),(1,.cells [.p (vSl 18 B3 a)]),(0,.cells [pN 0])]⟩ (ids:=(Jy [0,1,2,3])) rfl
def An5 {S:V2}(Z:G7 S Tryz.prog){a:Sl Law}{b:Sl Jb}{c:Int}(d:S.F K5 [.p (vSl 18 B3 a),.p (vSl 2 A0 b)] [] λres o k=>res=.panic (.iface 261 (pI .i64 c))/\o=[]/\k=[]) :KG S Tryz.prog (Ru S (λ_=>False) λx st=>x=.iface 261 (pI .i64 c)/\store Tryz.prog st.regs 49 (.reg 0 0) (.p (pI .i64 c))=some ([],ins 0 (.cells [pN c]) st.regs)/\M9 [0,1,2,3] (ins 0 (.cells [pN c]) st.regs) [0,1,2,3]=some (XJ c a b C7)) (.code AU3 [] ⟨argEnv AB6,objRegs (XJ 0 a b C7)⟩):=by refine AQ1 Z [] Fc d ?_;exact K_upP Z Fc ⟨rfl,by kernel_rfl,by kernel_rfl⟩
noncomputable def att1:Code:=match Tryz.f109.body with
 |some (.seq c _)=>c
 |_=>.skip
noncomputable def attOps:Array Oper:=match AU3 with
 |.region _ ops _=>ops
 |_=>#[]
def Zm:AU3=.region 1 attOps false:=by kernel_rfl
def Bb0:attOps.toList.all (Je 7 attOps.toList)=true:=by kernel_rfl
def AB7:¬Tryz.f109.name = "runtime.NumGoroutine" := by decide +kernel
def Zn:Tryz.f109.body=some (.seq att1 AU3):=by kernel_rfl
def AR0 {C:Ctx}{vs:Array Value}{w:World}{rho:Nat->Value}{args:List AV}{objs:List Obj}{n:Nat}(Z:Sat C ⟨argEnv args,objRegs objs⟩ ⟨vs,[]⟩ w rho)(a:vs.size=args.length) :Sat C ⟨argEnv args,objRegs objs⟩ { tmps:=vs++Array.replicate n undef,defers:=[] } w rho:=by
 refine⟨Z.toSatE,λt=>?_,Z.pin,Z.marks⟩
 have:=Z.env t
 by_cases ht:t<vs.size
 .simpa[Bf5,Bo0,ht]using this
 show RepA w _ _ _ _ (get (argEnv args) t);rw[AN,Bf7,Bj8 (by omega)];exact .top _
def Ps {R:St->Prop}{X:PV->St->Prop}{a:Sl Law}{b:Sl Jb}{objs' : List Obj}
 (a1:KG (Gb Tryz.prog) Tryz.prog (Ru (Gb Tryz.prog) R X) (.code AU3 [] ⟨argEnv AB6,objRegs (XJ 0 a b C7)⟩))
 (hR:∀st,R st->M9 [0,1,2,3] st.regs [0,1,2,3]=some objs')
 (hX:∀x st,X x st->∃c regs',x=.iface 261 (pI .i64 c)/\store Tryz.prog st.regs 49 (.reg 0 0) (.p (pI .i64 c))=some ([],regs')/\M9 [0,1,2,3] regs' [0,1,2,3]=some objs') :
 FunO (Gb Tryz.prog) N4 AB6 (XJ 0 a b C7) (.tup []) objs' [true,true,true,true]:=by
 intro 𝒢 C w vs rho hG Z t;obtain⟨l⟩:=vs
 match l,t with
 |[v0,v1,v2,v3],t=>?_
 refine⟨.enter N4 #[v0,v1,v2,v3],w,by simp[callFunc,func109,Zn,AB7],?_⟩;refine callsIn_of_wp_marks func109 Zn Fc ?_;have a2:=AR0 (n:=Tryz.f109.ntmps-4) Z t;have a9:Tryz.f109.ntmps-4=3:=rfl;rw[a9]at a2;have b1:((#[v0,v1,v2,v3]:Array Value)++Array.replicate 3 undef).size=7:=rfl;have hw:IZ (Gb Tryz.prog) Tryz.prog attOps.toList attOps.toList (Ru (Gb Tryz.prog) R X) ⟨argEnv AB6,objRegs (XJ 0 a b C7)⟩:=by
  have:=a1.out
  rw[Zm]at this;simpa only[G,awp,kp,Bg3,Ev]using this
 have a4:=Oj (𝒢:=𝒢.fix C.rho0) (n:=7) (ro:=none) (ops:=attOps) Bb0 attOps.toList 0 rfl (by simp) ⟨hG,rfl⟩ a2 b1 hw;have a5:=KT [{ target:=.fn (.func W2) #[],args:=#[v0] }] _ _ _ a4;rw[Bv1]at a5;obtain⟨b0,a6,u⟩:∃b0,v0=.pointer (some ⟨b0,0,none⟩)/\rho 0=.pointer (some ⟨b0,0,none⟩):=by
  have h0:RepA w _ _ rho v0 (.reg 0 0):=Z.env 0;cases h0 with
  |reg _ _ b0 _ h=>exact⟨b0,rfl,h⟩
 have s:∀{C' : Ctx}{st' : St}{a' : Act}{w' : World}{rho' : Nat->Value},(𝒢.fix C.rho0).G C' -> Sat C' st' a' w' rho' -> M9 [0,1,2,3] st'.regs [0,1,2,3]=some objs' ->
  LeavesInM Fence.wide 0 Tryz.prog f109 a'.tmps (λe w'=>∃C' r objs0 ks rho', 𝒢.G C' /\ (r=.ret (.tup [])/\objs0=objs' /\ ks=[true,true,true,true])/\SatE C' (objRegs objs0) w' rho' /\
   As9 w' (Prv C'.X (A1 (objRegs objs0)) rho') (Lv (A1 (objRegs objs0))) rho' e r/\∀i:Nat,ks[i]? = some true->i<objs0.length/\rho' i=rho i) [] .returning w':=by
  intro C' st' a' w' rho' d f m;obtain⟨g1,g2,g3⟩:=Ok f (by decide) m;obtain⟨hl,hg⟩:=AO m;refine⟨.tuple #[],by simp[results,f109],C', .ret (.tup []),objs',_,_,d.1,⟨rfl,rfl,rfl⟩,g1,⟨_,rfl,.tup _ _ rfl λi hi=>Es hi (by simp)⟩,?_⟩;intro i hi;have y:i<4:=by
   have:=(Bg9.1 hi).1
   simpa using this
  refine⟨by rw[hl];exact y,?_⟩;have e1:[0,1,2,3][i]? = some i:=by
   match i,y with
   |0,_=>rfl
   |1,_=>rfl
   |2,_=>rfl
   |3,_=>rfl
  obtain⟨o,_,ho,_⟩:=hg i i e1;show rho' ([0,1,2,3].getD i 0)=rho i;rw[Eg e1,f.pin i (by omega) (by simp[Lv,ho]),d.2];refine (Z.pin i (by omega) ?_).symm;rw[Lv,F0]
  match i,y with
  |0,_=>rfl
  |1,_=>rfl
  |2,_=>rfl
  |3,_=>rfl
 generalize hQ:bodyPostM _ _ _ _ _=QQ;refine wpIn_seq ?_;simp only[att1,f109];refine wpIn_region ?_;simp[wpOpsIn,Oper.wpIn,Oper.semAt,Oper.uponIn,go_sem,Exit.then];subst hQ;rw[Zm];refine wpIn_mono (wpIn_region (F:=FW none) a5) ?_;rintro e a' w' ⟨a0,rfl,z⟩;cases e with
 |exit id=>obtain⟨_,_,_,_,_,_,h⟩:=z;exact h.elim
 |goto l=>obtain⟨_,_,_,_,_,_,h⟩:=z;exact h.elim
 |ret=>obtain⟨_,_,_,_,_,_,h⟩:=z;exact h.elim
 |outgrown=>exact z.elim
 |normal=>
  obtain⟨C',st',rho',d,f,a7,hu⟩:=z;obtain⟨st2,rho2,hR2,_,hs2⟩:=hu C' a0 w' rho' f;refine GS (C:=C') (st:=st2) (rho:=rho2) (by simp) ?_ a0.defers a0 w' rfl rfl hs2;intro a3 w3 q ht;refine⟨by simp,.inr ⟨by simp[Fence.wide],_,_,W2,#[v0],rfl,by simp[go_sem],λ_ _=>trivial,?_⟩⟩;refine (XK v0 w3).mono ?_;rintro e u' w4 ⟨rfl,rfl,rfl⟩
  have:=s d q (hR st2 hR2)
  rw[ht]at this;exact this
 |panic chain=>
  obtain⟨C',st',rho',v,x,rfl,d,f,a7,hv,hXx⟩:=z;obtain⟨c,regs',rfl,g,m⟩:=hX x st' hXx;obtain rfl:v=.iface 261 (.int .i64 c):=by
   cases hv with
   |iface _ _ _ h=>cases h;rfl
  refine GS (C:=C') (st:=st') (rho:=rho') (by simp) ?_ a0.defers a0 w' rfl rfl f;intro a3 w3 q ht;have j:Lv (A1 st'.regs) 0:=by
   cases hj:A1 st'.regs 0 with
   |some o=>simp[Lv,hj]
   |none=>
    unfold store at g;split at g
    .simp[hj]at g
    cases g
  have hr0:rho' 0=.pointer (some ⟨b0,0,none⟩):=by rw[q.pin 0 (by omega) j,d.2,<- u];exact (Z.pin 0 (by omega) rfl).symm
  have hva:RS C' st' w3 rho' v0 (.reg 0 0):=by rw[a6];exact .reg 0 0 b0 j hr0
  obtain⟨w4,a8,hs4,_⟩:=NT q (vx:=.int .i64 c) hva (.p _ _ (.v _)) g Fc;refine⟨by simp,.inr ⟨by simp[Fence.wide],_,_,W2,#[v0],rfl,by simp[go_sem],λ_ _=>trivial,?_⟩⟩;refine (Nn v0 c [] w3 w4 a8 ⟨_,a6⟩).mono ?_;rintro e u' w5 ⟨rfl,rfl,rfl⟩
  have:=s d hs4 m
  rw[ht]at this;exact this
def XL {a:Sl Law}{b y:Sl Jb}(c:FunO (Gb Tryz.prog) K5 [.p (vSl 18 B3 a),.p (vSl 2 A0 b)] [] (.p (vSl 2 A0 y)) [] []) :FunO (Gb Tryz.prog) N4 AB6 (XJ 0 a b C7) (.tup []) (XJ 0 a b (vSl 2 A0 y)) [true,true,true,true]:=
 Ps (AQ9 (good Tryz.prog) c) (λst h=>h) (λx st h=>h.elim)
def Tn {a:Sl Law}{b:Sl Jb}{c:Int}(d:(Gb Tryz.prog).F K5 [.p (vSl 18 B3 a),.p (vSl 2 A0 b)] [] λres o k=>res=.panic (.iface 261 (pI .i64 c))/\o=[]/\k=[]) :FunO (Gb Tryz.prog) N4 AB6 (XJ 0 a b C7) (.tup []) (XJ c a b C7) [true,true,true,true]:=
 Ps (An5 (good Tryz.prog) d) (λst h=>h.elim) (λx st h=>⟨c,_,h.1,h.2.1,h.2.2⟩)
end Go.AM
namespace Go.AM
open Go.Proofs.Tryz
variable {N:Nat}
open IntKind (wrap)
open Go.Proofs
set_option maxRecDepth 10000
set_option maxHeartbeats 2000000
variable {S:V2}(Z:G7 S Tryz.prog) (Y:Kk S)
include Z Y
def H7 (N:Nat)(a:Jb):Option Bool:= some (((P2 .and .u32 a.Plus a.Minus)==0)&&(decide ((P2 .or .u32 a.Plus a.Minus)<=16777215)))
theorem Q9 {b:Jb}{y:Bool}(h:H7 N b=some y) :FunO S Lj [.p (.agg (A0 b))] [] (pB y) ([]) []:=by unfold H7 at h;refine A2 Z func85 ?_;refine kB Z (A4 Z) Fc Fc 7 (.n (.a ((P2 .and .u32 b.Plus b.Minus)==0)) (.a (decide ((P2 .or .u32 b.Plus b.Minus)<=16777215)))) ?_;cases h;exact kR Z
def R9 (N:Nat)(b:Jb)(a:Jb):Option Bool:= (H7 N b).bind λy1=>lt (λ(z1:Bool)=>some z1) λk1=>if y1 then (H7 N a).bind λy3=>if y3 then if ((P2 .andNot .u32 a.Plus b.Plus)==0) then k1 ((P2 .andNot .u32 a.Minus b.Minus)==0) else k1 false else k1 false else k1 false
theorem LZ {c:Jb}{a:Jb}{y:Bool}(h:R9 N c a=some y) :FunO S Gt [.p (.agg (A0 c)),.p (.agg (A0 a))] [] (pB y) ([]) []:=by
 unfold R9 at h;refine A2 Z func210 ?_;refine kC Z h (Q9 Z Y) (λy1 h=>?_);refine Mv Z Fc (A4 Z) h 0 (λz1=>⟨[(4,pB z1)],[]⟩) (λM1 k1 b h=>?_) (λz1 h=>?_)
 .refine kG Z h (λh=>?_) (λh=>?_)
  .refine kC Z h (Q9 Z Y) (λy3 h=>?_);refine kG Z h (λh=>?_) (λh=>?_)
   .refine kG Z h (λh=>?_) (λh=>?_)
    .exact b _ [] _ ((P2 .andNot .u32 a.Minus c.Minus)==0) Fc h
    exact b _ [] _ false Fc h
   exact b _ [] _ false Fc h
  exact b _ [] _ false Fc h
 cases h;exact kR Z
def Fh (N:Nat)(a:Jb):Option Int:= some (P2 .or .u32 a.Plus a.Minus)
theorem Pt {a:Jb}{y:Int}(h:Fh N a=some y) :FunO S Pl [.p (.agg (A0 a))] [] (pU y) ([]) []:=by unfold Fh at h;refine A2 Z func217 ?_;cases h;exact kR Z
def Dm (N:Nat)(c:Jb)(b:Jb)(a:Int):Option Jb:= some (⟨P2 .or .u32 (P2 .andNot .u32 c.Plus a) (P2 .and .u32 b.Plus a),P2 .or .u32 (P2 .andNot .u32 c.Minus a) (P2 .and .u32 b.Minus a)⟩:Jb)
theorem Pu {c:Jb}{a:Jb}{b:Int}{y:Jb}(h:Dm N c a b=some y) :FunO S Pm [.p (.agg (A0 c)),.p (.agg (A0 a)),pU b] [] (.p (.agg (A0 y))) ([]) []:=by unfold Dm at h;refine A2 Z func218 ?_;cases h;exact kR Z
def Z7 (N:Nat)(c:Jb)(a:Int)(b:Jb):Option (Jb×Int):= (H7 N c).bind λy1=>lt (λ(z1:Bool)=>if z1 then some ((⟨0,0⟩:Jb),14) else lt (λ(z2:Bool)=>if z2 then some ((⟨0,0⟩:Jb),2) else (Fh N b).bind λy6=>(Dm N c b (P2 .or .u32 a y6)).bind λy7=>some (y7,0)) λk2=>if (decide (16777215<a)) then k2 true else (Fh N b).bind λy5=>k2 ((P2 .and .u32 a y5) != 0)) λk1=>if (!y1) then k1 true else (H7 N b).bind λy3=>k1 (!y3)
theorem Qy {c:Jb}{a:Int}{b:Jb}{y:Jb×Int}(h:Z7 N c a b=some y) :FunO S JE [.p (.agg (A0 c)),pU a,.p (.agg (A0 b))] [] (.tup [.p (.agg (A0 y.1)),pN y.2]) ([]) []:=by
 unfold Z7 at h;refine A2 Z func212 ?_;refine F8 Z Fc 5 4000 [pI .u32 c.Plus,pI .u32 c.Minus] ?_;refine F8 Z Fc 6 6000 [pI .u32 b.Plus,pI .u32 b.Minus] ?_;obtain⟨y1,e1,h⟩:=A7 h;refine B4 Z [] Gp (Q9 Z Y e1) ?_;refine Mv Z Fc (A4 Z) h 0 (λz1=>⟨[(15,pB z1),(6,.reg 7000 0),(5,.p (.ptr [pI .u32 b.Plus,pI .u32 b.Minus])),(3,.p (.ptr [pI .u32 c.Plus,pI .u32 c.Minus])),(1,pU a)],[(7000,.cells [pU 0,pU 0])]⟩) (λM1 k1 d h=>?_) (λz1 h=>?_)
 .refine kG Z h (λh=>?_) (λh=>?_)
  .exact d _ [(7000,7000)] _ true Fc h
  obtain⟨y3,e3,h⟩:=A7 h;refine B4 Z [] Gp (Q9 Z Y e3) ?_;exact d _ [(7000,7000)] _ (!y3) Fc h
 apply kI Z h<;>intro h
 .cases h;exact kR Z
 refine Mv Z Fc (A4 Z) h 0 (λz2=>⟨[(25,pB z2),(6,.reg 7000 0),(5,.p (.ptr [pI .u32 b.Plus,pI .u32 b.Minus])),(3,.p (.ptr [pI .u32 c.Plus,pI .u32 c.Minus])),(1,pU a)],[(7000,.cells [pU 0,pU 0])]⟩) (λM2 k2 f h=>?_) (λz2 h=>?_)
 .refine kG Z h (λh=>?_) (λh=>?_)
  .exact f _ [(7000,7000)] _ true Fc h
  obtain⟨y5,e5,h⟩:=A7 h;refine B4 Z [] Gp (Pt Z Y e5) ?_;exact f _ [(7000,7000)] _ ((P2 .and .u32 a y5) != 0) Fc h
 apply kI Z h<;>intro h
 .cases h;exact kR Z
 refine E5 Z Fc [0,1,3,4,6] ?_;obtain⟨y6,e6,h⟩:=A7 h;refine G4 (Kf (Kf Gp Gp) Gp) (Pt Z Y e6) ?_;obtain⟨y7,e7,h⟩:=A7 h;refine G4 Fc (Pu Z Y e7) ?_;refine D2 Fc ?_;cases h;exact kR Z
def Cz (N:Nat)(c:Jb)(a:Jb)(b:Int):Option (Jb×Int):= (H7 N c).bind λy1=>lt (λ(z1:Bool)=>if z1 then some ((⟨0,0⟩:Jb),14) else if (decide (16777215<b)) then some ((⟨0,0⟩:Jb),2) else (Dm N c a b).bind λy4=>some (y4,0)) λk1=>if (!y1) then k1 true else (H7 N a).bind λy3=>k1 (!y3)
theorem VH {c:Jb}{a:Jb}{b:Int}{y:Jb×Int}(h:Cz N c a b=some y) :FunO S MS [.p (.agg (A0 c)),.p (.agg (A0 a)),pU b] [] (.tup [.p (.agg (A0 y.1)),pN y.2]) ([]) []:=by
 unfold Cz at h;refine A2 Z func213 ?_;refine kC Z h (Q9 Z Y) (λy1 h=>?_);refine Mv Z Fc (A4 Z) h 0 (λz1=>⟨[(15,pB z1),(6,.reg 7000 0),(4,.reg 5000 0),(3,.reg 4000 0),(2,pU b)],[(7000,.cells [pU 0,pU 0]),(5000,.cells [pU a.Plus,pU a.Minus]),(4000,.cells [pU c.Plus,pU c.Minus])]⟩) (λM1 k1 d h=>?_) (λz1 h=>?_)
 .refine kG Z h (λh=>?_) (λh=>?_)
  .exact d _ (Jy [4000,5000,7000]) _ true Fc h
  refine kC Z h (Q9 Z Y) (λy3 h=>?_);exact d _ (Jy [4000,5000,7000]) _ (!y3) Fc h
 apply kI Z h<;>intro h
 .cases h;exact kR Z
 apply kI Z h<;>intro h
 .cases h;exact kR Z
 refine kC Z h (Pu Z Y) (λy4 h=>?_);cases h;exact kR Z
def CA (N:Nat)(a:Jb):Option Bool:= some (((P2 .and .u32 a.Plus a.Minus)==0)&&((shI .shr .u32 (P2 .or .u32 a.Plus a.Minus) 24)==0))
theorem VJ {a:Jb}{y:Bool}(h:CA N a=some y) :FunO S MJ [.p (.agg (A0 a))] [] (pB y) ([]) []:=by
 unfold CA at h;refine A2 Z func72 ?_;obtain⟨t1,c⟩:∃x:Bool,x=(((P2 .and .u32 a.Plus a.Minus)==0)&&((shI .shr .u32 (P2 .or .u32 a.Plus a.Minus) 24)==0)):=⟨_,rfl⟩;refine Xi Z Fc (A4 Z) 0 ⟨[(2,pB t1)],[]⟩ (λM1 d=>?_) ?_
 .refine GO Z Fc (b:=(P2 .and .u32 a.Plus a.Minus)==0) (λc2=>?_) (λc2=>?_)
  .exact d _ [] _ (by decide:(0:Int)<=24) (hle:=klR [(0,.eq (.bb ((shI .shr .u32 (P2 .or .u32 a.Plus a.Minus) 24)==0)) (.bb t1))] (al1 (by simp only[c,c2,Leaf.ok,pm,Eu,Ev]) al0))
  exact d _ [] _ Fc (hle:=klR [(0,.eq (.bb false) (.bb t1))] (al1 (by simp only[c,c2,Leaf.ok,pm,Eu,Ev]) al0))
 subst c;cases h;exact kR Z
def W8 (N:Nat)(a:Sl Jb):Option Int:= if (decide (32<(a.n:Int))) then some 11 else X4 N (λb (x1:Int)=>if (decide (x1<(a.n:Int))) then if ((0:Int)<=x1/\x1<(a.n:Int))then (CA N (a.g x1.toNat)).bind λy3=>if (!y3) then some 14 else b (wrap .i64 (x1+1)) else none else some 0) 0
theorem DP {a:Sl Jb}{y:Int}(h:W8 N a=some y) :FunO S MF [.p (vSl 2 A0 a)] [] (pN y) ([]) []:=by
 unfold W8 at h;refine A2 Z func41 ?_;apply kI Z h<;>intro h
 .cases h;exact kR Z
 refine Q0 Z Fc h (λx1=>⟨[(10,pN x1),(9,pN (a.n:Int)),(8,.p (vSl 2 A0 a))],[]⟩) (ids:=[]) (λ_ _ _ _ _ b x1 c h=>?_);apply kI Z h<;>intro h
 .obtain⟨c9,h⟩:=C9 h;obtain⟨y3,e3,h⟩:=A7 h;refine B4 Z [] (Kf c9 Gp) (VJ Z Y e3) ?_;apply kI Z h<;>intro h
  .cases h;exact kR Z
  exact c _ [] _ (wrap .i64 (x1+1)) Fc h
 cases h;exact kR Z
def E6 (N:Nat)(a:Sl Jb)(b:Sl Jb):Option Bool:= if ((a.n:Int) != (b.n:Int)) then some false else X4 N (λc (x1:Int)=>if (decide (x1<(a.n:Int))) then if (((0:Int)<=x1/\x1<(a.n:Int))/\((0:Int)<=x1/\x1<(b.n:Int)))then if ((((a.g x1.toNat).Plus==(b.g x1.toNat).Plus)&&((a.g x1.toNat).Minus==(b.g x1.toNat).Minus)) != true) then some false else c (wrap .i64 (x1+1)) else none else some true) 0
theorem Bt {a:Sl Jb}{b:Sl Jb}{y:Bool}(h:E6 N a b=some y) :FunO S Q1 [.p (vSl 2 A0 a),.p (vSl 2 A0 b)] [] (pB y) ([]) []:=by
 unfold E6 at h;refine A2 Z func97 ?_;apply kI Z h<;>intro h
 .cases h;exact kR Z
 refine Q0 Z Fc h (λx1=>⟨[(13,pN x1),(12,pN (a.n:Int)),(1,.p (vSl 2 A0 b)),(0,.p (vSl 2 A0 a))],[]⟩) (ids:=[]) (λ_ _ _ _ _ c x1 d h=>?_);apply kI Z h<;>intro h
 .refine E5 Z Fc [2,3,6,7] ?_;obtain⟨c9,h⟩:=C9 h;refine D2 (Kf (Kf (Kf (Kf c9.1 Gp) c9.2) Gp) (by decide +kernel:QN Tryz.prog B5=true)) ?_;apply kI Z h<;>intro h
  .cases h;exact kR Z
  exact d _ [] _ (wrap .i64 (x1+1)) Fc h
 cases h;exact kR Z
def R5 (N:Nat)(a:Sl Jb)(b:Sl Jb):Option Bool:= (E6 N a b).bind λy1=>some y1
theorem MT {a:Sl Jb}{b:Sl Jb}{y:Bool}(h:R5 N a b=some y) :FunO S MH [.p (vSl 2 A0 a),.p (vSl 2 A0 b)] [] (pB y) ([]) []:=by unfold R5 at h;refine A2 Z func59 ?_;refine kC Z h (Bt Z Y) (λy1 h=>?_);cases h;exact kR Z
def R6 (N:Nat)(a:Jb):Option Bool:= some (((P2 .and .u32 a.Plus a.Minus)==0)&&((shI .shr .u32 (P2 .or .u32 a.Plus a.Minus) 24)==0))
theorem FJ {a:Jb}{y:Bool}(h:R6 N a=some y) :FunO S MQ [.p (.agg (A0 a))] [] (pB y) ([]) []:=by
 unfold R6 at h;refine A2 Z func172 ?_;obtain⟨t1,c⟩:∃x:Bool,x=(((P2 .and .u32 a.Plus a.Minus)==0)&&((shI .shr .u32 (P2 .or .u32 a.Plus a.Minus) 24)==0)):=⟨_,rfl⟩;refine Xi Z Fc (A4 Z) 0 ⟨[(2,pB t1)],[]⟩ (λM1 d=>?_) ?_
 .refine GO Z Fc (b:=(P2 .and .u32 a.Plus a.Minus)==0) (λc2=>?_) (λc2=>?_)
  .exact d _ [] _ (by decide:(0:Int)<=24) (hle:=klR [(0,.eq (.bb ((shI .shr .u32 (P2 .or .u32 a.Plus a.Minus) 24)==0)) (.bb t1))] (al1 (by simp only[c,c2,Leaf.ok,pm,Eu,Ev]) al0))
  exact d _ [] _ Fc (hle:=klR [(0,.eq (.bb false) (.bb t1))] (al1 (by simp only[c,c2,Leaf.ok,pm,Eu,Ev]) al0))
 subst c;cases h;exact kR Z
def S7 (N:Nat)(b:Int):Option (Nat->Int):= BA N (λa (x1:Nat->Int) (x2:Int)=>if (decide (x2<(wrap .i64 (b+1)))) then if (((0:Int)<=x2/\((0:Int)<=x2/\x2<33))/\(0+x2.toNat*1)<33)then a (OD x1 (0+x2.toNat*1) (shI .shl .u64 1 x2)) (wrap .i64 (x2+1)) else none else some x1) (λ_=>0) 0
theorem Fi {a:Int}{y:Nat->Int}(h:S7 N a=some y) :FunO S Ix [pN a] [] (.p (.agg (cA 33 (pI .u64) y))) ([]) []:=by
 unfold S7 at h;refine A2 Z func249 ?_;refine H4 Z Fc h (λx1 x2=>⟨[(7,pN x2),(6,pN (wrap .i64 (a+1))),(3,.reg 4000 0),(2,.reg 3000 0)],[(4000,.arr 33 (λi=>pI .u64 (x1 i))),(3000,.arr 33 (λi=>pI .u64 ((λ_=>0) i)))]⟩) (ids:=(Jy [3000,4000])) (λ_ _ _ _ _ b x1 x2 d h=>?_) (hle:=kl2 2 3 (AB2 33 (pI .u64 0)) (AB2 33 (pI .u64 0)));apply kI Z h<;>intro h
 .obtain⟨c4,h⟩:=C9 h;exact d _ (Jy [3000,4000]) _ (OD x1 (0+x2.toNat*1) (shI .shl .u64 1 x2)) (wrap .i64 (x2+1)) c4 h (hle:=klR [(2,.fn 33 33 (λi=>[(λi=>if i=(0+x2.toNat*1)then (pI .u64 (shI .shl .u64 1 x2))else (λi=>pI .u64 (x1 i)) i) i]) (λi=>[pI .u64 (OD x1 (0+x2.toNat*1) (shI .shl .u64 1 x2) i)]))] (al1 ⟨rfl,AP5 (c:=pI .u64) (v:=x1) (x:=shI .shl .u64 1 x2) (λ_ _=>rfl) rfl⟩ al0))
 obtain rfl:=B0 h;exact J6 Z (Kf rfl (G8 _ _):(0:Nat)=0/\(Ed 33 (λi=>pI .u64 (x1 i))).length=33) ⟨[(2,.reg 3000 0)],[(3000,.arr 33 (λi=>pI .u64 (x1 i)))]⟩ [] (ids:=[(3000,3000)]) ⟨rfl,rfl,rfl⟩ (hle:=kl1 0 (Mx 33 (λi=>pI .u64 (x1 i))))
def P5 (N:Nat)(p_x:Nat->Int)(b:Nat->Int):Option (Nat->Int):= BA N (λa (x1:Nat->Int) (x2:Int)=>if (decide (x2<33)) then if (((0:Int)<=x2/\x2<33)/\(0+x2.toNat*1)<33)then if (((((0:Int)<=x2/\x2<33)/\(0+x2.toNat*1)<33)/\((0:Int)<=x2/\x2<33))/\(0+x2.toNat*1)<33)then a (OD x1 (0+x2.toNat*1) (P2 .or .u64 (x1 (0+x2.toNat*1)) (b (0+x2.toNat*1)))) (wrap .i64 (x2+1)) else none else none else some x1) p_x 0
theorem FK {p_x:Nat->Int}{a:Nat->Int}{y:Nat->Int}(h:P5 N p_x a=some y) :FunO S FH [.reg 0 0,.reg 1 0] [.arr 33 (λi=>pI .u64 (p_x i)),.arr 33 (λi=>pI .u64 (a i))] (.tup []) ([.arr 33 (λi=>pI .u64 (y i)),.arr 33 (λi=>pI .u64 (a i))]) [true,true]:=by
 unfold P5 at h;refine A2 Z func247 ?_;refine H4 Z Fc h (λx1 x2=>⟨[(7,pN x2),(6,.reg 1 0),(0,.reg 0 0)],[(1,.arr 33 (λi=>pI .u64 (a i))),(0,.arr 33 (λi=>pI .u64 (x1 i)))]⟩) (ids:=(Jy [0,1])) (λ_ _ _ _ _ b x1 x2 d h=>?_);apply kI Z h<;>intro h
 .refine EX Z Fc ?_;obtain⟨c8,h⟩:=C9 h;refine D2 c8 ?_;refine EX Z Fc ?_;obtain⟨c9,h⟩:=C9 h;refine D2 c9 ?_;exact d _ (Jy [0,1]) _ (OD x1 (0+x2.toNat*1) (P2 .or .u64 (x1 (0+x2.toNat*1)) (a (0+x2.toNat*1)))) (wrap .i64 (x2+1)) Fc h (hle:=klR [(2,.fn 33 33 (λi=>[(λi=>if i=(0+x2.toNat*1)then (pI .u64 (P2 .or .u64 (x1 (0+x2.toNat*1)) (a (0+x2.toNat*1))))else (λi=>pI .u64 (x1 i)) i) i]) (λi=>[pI .u64 (OD x1 (0+x2.toNat*1) (P2 .or .u64 (x1 (0+x2.toNat*1)) (a (0+x2.toNat*1))) i)]))] (al1 ⟨rfl,AP5 (c:=pI .u64) (v:=x1) (x:=P2 .or .u64 (x1 (0+x2.toNat*1)) (a (0+x2.toNat*1))) (λ_ _=>rfl) rfl⟩ al0))
 obtain rfl:=B0 h;exact kO Z Fc [0,1]
def AU (N:Nat)(b:Sl Jb)(a:Int):Option Int:= if ((decide (a<0))||(decide ((b.n:Int)<a))) then some 3 else some 0
theorem Lr {c:Sl Jb}{b:Int}{y:Int}(h:AU N c b=some y) :FunO S Lp [.p (vSl 2 A0 c),pN b] [] (pN y) ([]) []:=by
 unfold AU at h;refine A2 Z func220 ?_;refine kB Z (A4 Z) Fc Fc 5 (.o (.a (decide (b<0))) (.a (decide ((c.n:Int)<b)))) ?_;apply kI Z h<;>intro h
 .cases h;exact kR Z
 cases h;exact kR Z
def BP (N:Nat)(a:Pat):Option Int:= if (if (a.Kind==0) then a.Kind==0 else (if (a.Kind==2) then a.Kind==2 else a.Kind==6)) then lt (λ(z1:Bool)=>if z1 then some 2 else (R6 N a.Is).bind λy1=>if (!y1) then some 14 else some 0) λk1=>if (((a.Is.Plus==0)&&(a.Is.Minus==0)) != true) then k1 true else if a.Not then k1 true else if (a.Min != 0) then k1 true else if (a.Max != 0) then k1 true else k1 (decide (0<(a.L.n:Int))) else if (a.Kind==1) then lt (λ(z2:Bool)=>if z2 then some 2 else (R6 N a.Is).bind λy2=>if (!y2) then some 14 else some 0) λk2=>if (((0==0)&&(0==0)) != true) then k2 true else if (a.Min != 0) then k2 true else if (a.Max != 0) then k2 true else k2 (decide (0<(a.L.n:Int))) else lt (λ(z3:Int×Int)=>if (((((((a.Is.Plus==0)&&(a.Is.Minus==0)) != true)||a.Not)||(z3.1 != 0))||(z3.2 != 0))||(decide (0<0))) then some 2 else (R6 N a.Is).bind λy3=>if (!y3) then some 14 else some 0) λk3=>if (if (a.Kind==3) then a.Kind==3 else a.Kind==4) then k3 (a.Min,a.Max) else if (a.Kind==5) then if (((((a.L.n:Int) != 1)||(decide (a.Min<0)))||(decide (32<a.Min)))||((a.Max != (-1))&&((decide (a.Max<a.Min))||(decide (32<a.Max))))) then some 2 else k3 (0,0) else some 2
theorem Qz {c:Pat}{y:Int}(h:BP N c=some y) :FunO S JB [.p (.agg (D6 c))] [] (pN y) ([]) []:=by
 unfold BP at h;refine A2 Z func130 ?_;obtain⟨t1,f⟩:∃x:Bool,x=(if (c.Kind==0) then c.Kind==0 else (if (c.Kind==2) then c.Kind==2 else c.Kind==6)):=⟨_,rfl⟩;refine Xi Z Fc (A4 Z) 0 ⟨[(8,pB t1),(7,pN c.Kind),(3,.reg 4000 0),(1,.reg 2000 0)],[(4000,.cells [pN 0,pU c.Is.Plus,pU c.Is.Minus,pB c.Not,pN c.Min,pN c.Max,.p (.sl false 7 c.L.n (EC c))]),(2000,.cells ((D6 c).map .p))]⟩ (λM1 l=>?_) ?_
 .refine C8 Z Fc (b:=c.Kind==0) (λc3=>?_) (λc3=>?_)
  .exact l _ (Jy [2000,4000]) _ Fc (hle:=klR [(0,.eq (.bb (c.Kind==0)) (.bb t1))] (al1 (by simp only[f,c3,Leaf.ok,pm,Eu,Ev]) al0))
  refine C8 Z Fc (b:=c.Kind==2) (λc4=>?_) (λc4=>?_)
  .exact l _ (Jy [2000,4000]) _ Fc (hle:=klR [(0,.eq (.bb (c.Kind==2)) (.bb t1))] (al1 (by simp only[f,c3,c4,Leaf.ok,pm,Eu,Ev]) al0))
  exact l _ (Jy [2000,4000]) _ Fc (hle:=klR [(0,.eq (.bb (c.Kind==6)) (.bb t1))] (al1 (by simp only[f,c3,c4,Leaf.ok,pm,Eu,Ev]) al0))
 subst f;apply kI Z h<;>intro h
 .refine Mv Z (by decide +kernel:QN Tryz.prog B5=true) (A4 Z) h 0 (λz1=>⟨[(57,pB z1),(1,.reg 2000 0)],[(2000,.cells ((D6 c).map .p))]⟩) (λM3 k1 d h=>?_) (λz1 h=>?_)
  .refine kG Z h (λh=>?_) (λh=>?_)
   .exact d _ [(2000,2000)] _ true Fc h
   refine kG Z h (λh=>?_) (λh=>?_)
   .exact d _ [(2000,2000)] _ true Fc h
   refine kG Z h (λh=>?_) (λh=>?_)
   .exact d _ [(2000,2000)] _ true Fc h
   refine kG Z h (λh=>?_) (λh=>?_)
   .exact d _ [(2000,2000)] _ true Fc h
   refine N8 Z Fc 79 ⟨[(78,.p (vSl 7 D6 c.L)),(76,.p (.v (.bool false))),(1,.reg 2000 0)],[(2000,.cells ((D6 c).map .p))]⟩ (ids:=[(2000,2000)]) ?_ (hle:=klR [(0,.fn c.L.n c.L.n (EC c) (λi=>D6 (c.L.g i)))] (al1 ⟨rfl,Cb c⟩ al0));exact d _ [(2000,2000)] _ (decide (0<(c.L.n:Int))) Fc h
  apply kI Z h<;>intro h
  .cases h;exact kR Z
  refine kC Z h (FJ Z Y) (λy1 h=>?_);apply kI Z h<;>intro h
  .cases h;exact kR Z
  cases h;exact kR Z
 apply kI Z h<;>intro h
 .refine Mv Z (by decide +kernel:QN Tryz.prog B5=true) (A4 Z) h 0 (λz2=>⟨[(57,pB z2),(1,.reg 2000 0)],[(2000,.cells ((D6 c).map .p))]⟩) (λM5 k2 j h=>?_) (λz2 h=>?_)
  .refine kG Z h (λh=>?_) (λh=>?_)
   .exact j _ [(2000,2000)] _ true Fc h
   refine GO Z Fc (b:=false) (λc54=>?_) (λc54=>?_)
   .exact Bool.noConfusion ((rfl:false=false).symm.trans c54)
   refine kG Z h (λh=>?_) (λh=>?_)
   .exact j _ [(2000,2000)] _ true Fc h
   refine kG Z h (λh=>?_) (λh=>?_)
   .exact j _ [(2000,2000)] _ true Fc h
   refine N8 Z Fc 79 ⟨[(78,.p (vSl 7 D6 c.L)),(76,.p (.v (.bool false))),(1,.reg 2000 0)],[(2000,.cells ((D6 c).map .p))]⟩ (ids:=[(2000,2000)]) ?_ (hle:=klR [(0,.fn c.L.n c.L.n (EC c) (λi=>D6 (c.L.g i)))] (al1 ⟨rfl,Cb c⟩ al0));exact j _ [(2000,2000)] _ (decide (0<(c.L.n:Int))) Fc h
  apply kI Z h<;>intro h
  .cases h;exact kR Z
  refine kC Z h (FJ Z Y) (λy2 h=>?_);apply kI Z h<;>intro h
  .cases h;exact kR Z
  cases h;exact kR Z
 obtain⟨t4,m⟩:∃x:Bool,x=(if (c.Kind==3) then c.Kind==3 else c.Kind==4):=⟨_,rfl⟩;refine Xi Z Fc (A4 Z) 0 ⟨[(17,pB t4),(7,pN c.Kind),(3,.reg 4000 0),(1,.reg 2000 0)],[(4000,.cells [pN 0,pU c.Is.Plus,pU c.Is.Minus,pB c.Not,pN c.Min,pN c.Max,.p (.sl false 7 c.L.n (EC c))]),(2000,.cells ((D6 c).map .p))]⟩ (λM6 q=>?_) ?_
 .refine C8 Z Fc (b:=c.Kind==3) (λc60=>?_) (λc60=>?_)
  .exact q _ (Jy [2000,4000]) _ Fc (hle:=klR [(0,.eq (.bb (c.Kind==3)) (.bb t4))] (al1 (by simp only[m,c60,Leaf.ok,pm,Eu,Ev]) al0))
  exact q _ (Jy [2000,4000]) _ Fc (hle:=klR [(0,.eq (.bb (c.Kind==4)) (.bb t4))] (al1 (by simp only[m,c60,Leaf.ok,pm,Eu,Ev]) al0))
 subst m;refine Mv Z Fc (A4 Z) h 0 (λz3=>⟨[(3,.reg 4000 0),(1,.reg 2000 0)],[(4000,.cells [pN 0,pU c.Is.Plus,pU c.Is.Minus,pB c.Not,pN z3.1,pN z3.2,.p C7]),(2000,.cells ((D6 c).map .p))]⟩) (λM7 k3 r h=>?_) (λz3 h=>?_)
 .apply kI Z h<;>intro h
  .exact r _ (Jy [2000,4000]) _ (c.Min,c.Max) Fc h
  apply kI Z h<;>intro h
  .refine N8 Z Fc 25 ⟨[(24,.p (vSl 7 D6 c.L)),(3,.reg 4000 0),(1,.reg 2000 0)],[(4000,.cells [pN 0,pU c.Is.Plus,pU c.Is.Minus,pB c.Not,pN c.Min,pN c.Max,.p (.sl false 7 c.L.n (EC c))]),(2000,.cells ((D6 c).map .p))]⟩ (ids:=(Jy [2000,4000])) ?_ (hle:=klR [(0,.fn c.L.n c.L.n (EC c) (λi=>D6 (c.L.g i)))] (al1 ⟨rfl,Cb c⟩ al0));refine kB Z (A4 Z) Fc Fc 26 (.o (.o (.o (.a ((c.L.n:Int) != 1)) (.a (decide (c.Min<0)))) (.a (decide (32<c.Min)))) (.n (.a (c.Max != (-1))) (.o (.a (decide (c.Max<c.Min))) (.a (decide (32<c.Max)))))) ?_;apply kI Z h<;>intro h
   .cases h;exact kR Z
   exact r _ (Jy [2000,4000]) _ (0,0) Fc h
  cases h;exact kR Z
 refine kB Z (A4 Z) (by decide +kernel:QN Tryz.prog B5=true) Fc 19 (.o (.o (.o (.o (.a (((c.Is.Plus==0)&&(c.Is.Minus==0)) != true)) (.a c.Not)) (.a (z3.1 != 0))) (.a (z3.2 != 0))) (.a (decide (0<0)))) ?_;apply kI Z h<;>intro h
 .cases h;exact kR Z
 refine kC Z h (FJ Z Y) (λy3 h=>?_);apply kI Z h<;>intro h
 .cases h;exact kR Z
 cases h;exact kR Z
end Go.AM
namespace Go.AM
open Go.Proofs.Tryz
variable {N:Nat}
open IntKind (wrap)
open Go.Proofs
set_option maxRecDepth 10000
set_option maxHeartbeats 2000000
variable {S:V2}(Z:G7 S Tryz.prog) (Y:Kk S)
include Z Y
def CP (rec:Pat->Int->Option Int)(N:Nat)(b:Pat)(a:Int):Option Int:= BA N (λc (x1:Int) (x2:Int)=>if ((decide (x2<(b.L.n:Int)))&&(decide (x1<=40))) then if ((0:Int)<=x2/\x2<(b.L.n:Int))then (rec (b.L.g x2.toNat) x1).bind λy3=>c y3 (wrap .i64 (x2+1)) else none else some x1) (wrap .i64 (a+1)) 0
def Co:Nat->Pat->Int->Option Int
 |0=>λ_ _=>none
 |N+1=>CP (Co N) N
theorem VK {rec:Pat->Int->Option Int}(d:∀{b:Pat}{c:Int}{y:Int},rec b c=some y->FunO S GT [.p (.agg (D6 b)),pN c] [] (pN y) ([]) []){b:Pat}{c:Int}{y:Int}(h:CP rec N b c=some y) :FunO S GT [.p (.agg (D6 b)),pN c] [] (pN y) ([]) []:=by
 unfold CP at h;refine A2 Z func164 ?_;refine H4 Z Fc h (λx1 x2=>⟨[(6,pN x2),(5,pN x1),(2,.reg 3000 0)],[(3000,.cells ((D6 b).map .p))]⟩) (ids:=[(3000,3000)]) (λ_ _ _ _ _ f x1 x2 j h=>?_);refine N8 Z Fc 12 ⟨[(11,.p (vSl 7 D6 b.L)),(9,pN x2),(6,pN x2),(5,pN x1),(2,.reg 3000 0)],[(3000,.cells ((D6 b).map .p))]⟩ (ids:=[(3000,3000)]) ?_ (hle:=klR [(0,.fn b.L.n b.L.n (EC b) (λi=>D6 (b.L.g i)))] (al1 ⟨rfl,Cb b⟩ al0));refine kB Z (A4 Z) Fc Fc 3 (.n (.a (decide (x2<(b.L.n:Int)))) (.a (decide (x1<=40)))) ?_;apply kI Z h<;>intro h
 .refine N8 Z Fc 23 ⟨[(22,pN x2),(21,.p (vSl 7 D6 b.L)),(6,pN x2),(5,pN x1),(2,.reg 3000 0)],[(3000,.cells ((D6 b).map .p))]⟩ (ids:=[(3000,3000)]) ?_ (hle:=klR [(1,.fn b.L.n b.L.n (EC b) (λi=>D6 (b.L.g i)))] (al1 ⟨rfl,Cb b⟩ al0));obtain⟨c6,h⟩:=C9 h;obtain⟨y3,e3,h⟩:=A7 h;refine B4 Z [] (Kf c6 Ik) (d e3) ?_;exact j _ [(3000,3000)] _ y3 (wrap .i64 (x2+1)) Fc h
 cases h;exact kR Z
theorem XM {b:Pat}{a:Int}{y:Int}(h:Co N b a=some y) :FunO S GT [.p (.agg (D6 b)),pN a] [] (pN y) ([]) []:=by
 induction N generalizing b a y with
 |zero=>cases (show (none:Option Int)=some y from h)
 |succ N ih=>exact VK Z Y (λe=>ih e) h
def Dn (N:Nat)(a:Pat):Option Int:= (Co N a 0).bind λy1=>some y1
theorem Ma {a:Pat}{y:Int}(h:Dn N a=some y) :FunO S RE [.p (.agg (D6 a))] [] (pN y) ([]) []:=by unfold Dn at h;refine A2 Z func128 ?_;refine kC Z h (XM Z Y) (λy1 h=>?_);cases h;exact kR Z
def Aw (rec:Pat->Option Int)(N:Nat)(a:Pat):Option Int:= BA N (λb (x1:Int) (x2:Int)=>if (decide (x2<(a.L.n:Int))) then if ((0:Int)<=x2/\x2<(a.L.n:Int))then (rec (a.L.g x2.toNat)).bind λy3=>b (wrap .i64 (x1+y3)) (wrap .i64 (x2+1)) else none else some x1) ((if (a.Kind==5) then 1 else 0):Int) 0
def AW:Nat->Pat->Option Int
 |0=>λ_=>none
 |N+1=>Aw (AW N) N
theorem QA {rec:Pat->Option Int}(d:∀{a:Pat}{y:Int},rec a=some y->FunO S ED [.p (.agg (D6 a))] [] (pN y) ([]) []){a:Pat}{y:Int}(h:Aw rec N a=some y) :FunO S ED [.p (.agg (D6 a))] [] (pN y) ([]) []:=by
 unfold Aw at h;refine A2 Z func163 ?_;obtain⟨t1,c⟩:∃x:Int,x=((if (a.Kind==5) then 1 else 0):Int):=⟨_,rfl⟩;refine Xi Z Fc (A4 Z) 0 ⟨[(3,pN t1),(1,.reg 2000 0)],[(2000,.cells ((D6 a).map .p))]⟩ (λM1 f=>?_) ?_
 .refine C8 Z Fc (b:=a.Kind==5) (λc2=>?_) (λc2=>?_)
  .exact f _ [(2000,2000)] _ Fc (hle:=klR [(0,.eq (pI .i64 1) (pI .i64 t1))] (al1 (by simp only[c,c2,Leaf.ok,pm,Eu,Ev]) al0))
  exact f _ [(2000,2000)] _ Fc (hle:=klR [(0,.eq (pI .i64 0) (pI .i64 t1))] (al1 (by simp only[c,c2,Leaf.ok,pm,Eu,Ev]) al0))
 subst c;refine H4 Z Fc h (λx1 x2=>⟨[(4,pN x2),(3,pN x1),(1,.reg 2000 0)],[(2000,.cells ((D6 a).map .p))]⟩) (ids:=[(2000,2000)]) (λ_ _ _ _ _ j x1 x2 l h=>?_);refine N8 Z Fc 11 ⟨[(10,.p (vSl 7 D6 a.L)),(8,pN x2),(4,pN x2),(3,pN x1),(1,.reg 2000 0)],[(2000,.cells ((D6 a).map .p))]⟩ (ids:=[(2000,2000)]) ?_ (hle:=klR [(0,.fn a.L.n a.L.n (EC a) (λi=>D6 (a.L.g i)))] (al1 ⟨rfl,Cb a⟩ al0));apply kI Z h<;>intro h
 .refine N8 Z Fc 19 ⟨[(18,pN x2),(17,.p (vSl 7 D6 a.L)),(15,pN x1),(4,pN x2),(1,.reg 2000 0)],[(2000,.cells ((D6 a).map .p))]⟩ (ids:=[(2000,2000)]) ?_ (hle:=klR [(1,.fn a.L.n a.L.n (EC a) (λi=>D6 (a.L.g i)))] (al1 ⟨rfl,Cb a⟩ al0));obtain⟨c8,h⟩:=C9 h;obtain⟨y3,e3,h⟩:=A7 h;refine B4 Z [] (Kf c8 Ik) (d e3) ?_;exact l _ [(2000,2000)] _ (wrap .i64 (x1+y3)) (wrap .i64 (x2+1)) Fc h
 cases h;exact kR Z
theorem To {a:Pat}{y:Int}(h:AW N a=some y) :FunO S ED [.p (.agg (D6 a))] [] (pN y) ([]) []:=by
 induction N generalizing a y with
 |zero=>cases (show (none:Option Int)=some y from h)
 |succ N ih=>exact QA Z Y (λe=>ih e) h
def EI (N:Nat)(a:Sl Law):Option Int:= BA N (λc (x3:Int) (x4:Int)=>if ((decide (x4<(a.n:Int)))&&(decide (x4<=300))) then if (((0:Int)<=x4/\x4<(a.n:Int))/\((0:Int)<=x4/\x4<(a.n:Int)))then BA N (λb (x7:Int) (x8:Int)=>if (decide (x8<((Sl.of [(a.g x4.toNat).Left,(a.g x4.toNat).Right]:Sl Pat).n:Int))) then if ((0:Int)<=x8/\x8<((Sl.of [(a.g x4.toNat).Left,(a.g x4.toNat).Right]:Sl Pat).n:Int))then (Dn N ((Sl.of [(a.g x4.toNat).Left,(a.g x4.toNat).Right]:Sl Pat).g x8.toNat)).bind λd=>if (decide (d<=40)) then (AW N ((Sl.of [(a.g x4.toNat).Left,(a.g x4.toNat).Right]:Sl Pat).g x8.toNat)).bind λf=>b (wrap .i64 (x7+f)) (wrap .i64 (x8+1)) else b x7 (wrap .i64 (x8+1)) else none else c (if x3<x7 then x7 else x3) (wrap .i64 (x4+1))) 0 0 else none else some x3) 0 0
theorem Ad3 {b:Sl Law}{y:Int}(h:EI N b=some y) :FunO S RD [.p (vSl 18 B3 b)] [] (pN y) ([]) []:=by
 unfold EI at h;refine A2 Z func127 ?_;refine H4 Z Fc h (λx3 x4=>⟨[(4,pN x4),(3,pN x3),(0,.p (vSl 18 B3 b))],[]⟩) (ids:=[]) (λ_ _ _ _ _ d x3 x4 f h=>?_);refine kB Z (A4 Z) Fc Fc 3 (.n (.a (decide (x4<(b.n:Int)))) (.a (decide (x4<=300)))) ?_;apply kI Z h<;>intro h
 .refine E5 Z Fc [2,4,7,9] ?_;obtain⟨c24,h⟩:=C9 h;refine N3 (Kf (Kf (Kf c24.1 (by decide:(7:Nat)<=17)) c24.2) (by decide:(7:Nat)<=10)) (x:=.sl true 7 2 (G9 [pI .i64 0,pI .u32 0,pI .u32 0,.v (.bool false),pI .i64 0,pI .i64 0,C7] [(0,D6 (b.g x4.toNat).Left),(1,D6 (b.g x4.toNat).Right)])) ?_;refine D2 Fc ?_;refine H4 Z Fc h (λx7 x8=>⟨[(30,pN x8),(29,pN ((Sl.of [(b.g x4.toNat).Left,(b.g x4.toNat).Right]:Sl Pat).n:Int)),(28,.p (vSl 7 D6 (Sl.of [(b.g x4.toNat).Left,(b.g x4.toNat).Right]:Sl Pat))),(5,pN x7),(4,pN x4),(3,pN x3),(0,.p (vSl 18 B3 b))],[]⟩) (ids:=[]) (λ_ _ _ _ _ i x7 x8 c h=>?_) (hle:=kl1 2 (Ac0 D6 ([(b.g x4.toNat).Left,(b.g x4.toNat).Right]:List Pat) [pI .i64 0,pI .u32 0,pI .u32 0,.v (.bool false),pI .i64 0,pI .i64 0,C7]));apply kI Z h<;>intro h
  .obtain⟨c32,h⟩:=C9 h;refine F8 Z (Kf c32 Ik) 34 8000 (D6 ((Sl.of [(b.g x4.toNat).Left,(b.g x4.toNat).Right]:Sl Pat).g x8.toNat)) ?_;obtain⟨l,e17,h⟩:=A7 h;refine B4 Z [] Ik (Ma Z Y e17) ?_;apply kI Z h<;>intro h
   .obtain⟨j,e18,h⟩:=A7 h;refine B4 Z [] Ik (To Z Y e18) ?_;exact c _ [] _ (wrap .i64 (x7+j)) (wrap .i64 (x8+1)) Fc h
   exact c _ [] _ x7 (wrap .i64 (x8+1)) Fc h
  exact f _ [] _ (if x3<x7 then x7 else x3) (wrap .i64 (x4+1)) Fc h
 cases h;exact kR Z
end Go.AM
namespace Go.AM
open Go.Proofs.Tryz
variable {N:Nat}
open IntKind (wrap)
open Go.Proofs
set_option maxRecDepth 10000
set_option maxHeartbeats 2000000
variable {S:V2}(Z:G7 S Tryz.prog) (Y:Kk S)
include Z Y
def T3 (N:Nat)(q0:Int):Option (List (Int)):= X4 N (λa (x1:Int)=>if (x1 != 0) then (I4 N x1).bind λy3=>if (0:Int)<=y3 then Ah y3 (a (P2 .andNot .u64 x1 (shI .shl .u64 1 y3))) else none else some []) q0
theorem El {q0:Int}{L:List (Int)}(h:T3 N q0=some L) :EU S Ek [] [.reg 0 0] [.cells [.p (pI .u64 q0)]] (L.map (λ(x:Int)=>[pI .i64 x])):=by
 unfold T3 at h;refine EB Z func224 ?_;refine Dk Z Fc h (λx1 L1=>⟨[(1,.reg 0 0),(0,.yf 1)],[(1,.yld (L1.map (λ(x:Int)=>[pI .i64 x])) true),(0,.cells [.p (pI .u64 x1)])]⟩) (ids:=(Jy [0,1])) (λ_ _ _ _ _ d x1 L1 f h=>?_);apply kI Z h<;>intro h
 .refine kC Z h (Fg Z Y) (λy3 h=>?_);refine EX Z Fc ?_;obtain⟨c10,h⟩:=C9 h;refine D2 c10 ?_;obtain⟨L4,rfl,c⟩:=LS h;replace h:=c;refine Dj Z Fc (ys:=(λ(x:Int)=>[pI .i64 x]) y3) (rest:=L4.map (λ(x:Int)=>[pI .i64 x])) ?_ ?_
  .refine C8 Z Fc (b:=false) (λc11=>?_) (λc11=>?_)
   .exact Bool.noConfusion ((rfl:false=false).symm.trans c11)
   exact f _ (Jy [0,1]) _ (P2 .andNot .u64 x1 (shI .shl .u64 1 y3)) L4 Fc h
  refine C8 Z Fc (b:=true) (λc12=>?_) (λc12=>?_)
  .exact kO Z Fc (a:=.tup []) (objs:=[(.cells [.p (pI .u64 (P2 .andNot .u64 x1 (shI .shl .u64 1 y3)))]),.yld [] false]) [0,1] ⟨false,rfl,rfl,_,rfl⟩
  exact Bool.noConfusion (Iq.symm.trans c12)
 obtain rfl:=B0 h;exact kO Z Fc (a:=.tup []) (objs:=[(.cells [.p (pI .u64 x1)]),.yld [] true]) [0,1] ⟨true,rfl,rfl,_,rfl⟩
def BQ (N:Nat)(a:Int):Option (Int):= some a
theorem FX {a:Int}{y:Int}(h:BQ N a=some y) :FunO S JF [.p (pI .u64 a)] [] (.clo Ek [] [.reg 0 0]) ([.cells [.p (pI .u64 y)]]) []:=by unfold BQ at h;refine A2 Z func221 ?_;obtain rfl:=B0 h;exact kO Z Fc [2000]
def F2 (N:Nat)(p_x:Nat->Int)(c:Nat->Int):Option (Nat->Int):= BA N (λa (x3:Nat->Int) (x4:Int)=>if (decide (x4<33)) then if (((0:Int)<=x4/\x4<33)/\(0+x4.toNat*1)<33)then (BQ N (p_x (0+x4.toNat*1))).bind λy3=>(T3 N y3).bind λL3=>T1 L3 (λb (x7:Int) (z3:Nat->Int)=>if (((((((0:Int)<=x4/\x4<33)/\(0+x4.toNat*1)<33)/\((0:Int)<=x7/\x7<33))/\(0+x7.toNat*1)<33)/\((0:Int)<=x4/\x4<33))/\(0+x4.toNat*1)<33)then b (OD z3 (0+x4.toNat*1) (P2 .or .u64 (z3 (0+x4.toNat*1)) (c (0+x7.toNat*1)))) else none) (λ(z3:Nat->Int)=>a z3 (wrap .i64 (x4+1))) x3 else none else some x3) (λ_=>0) 0
theorem V6 {p_x:Nat->Int}{b:Nat->Int}{y:Nat->Int}(h:F2 N p_x b=some y) :FunO S Br [.reg 0 0,.reg 1 0] [.arr 33 (λi=>pI .u64 (p_x i)),.arr 33 (λi=>pI .u64 (b i))] (.p (.agg (cA 33 (pI .u64) y))) ([.arr 33 (λi=>pI .u64 (p_x i)),.arr 33 (λi=>pI .u64 (b i))]) [true,true]:=by
 unfold F2 at h;refine A2 Z func250 ?_;refine H4 Z Fc h (λx3 x4=>⟨[(10,pN x4),(9,.reg 0 0),(5,.reg 6000 0),(4,.reg 5000 0),(3,.reg 4000 0)],[(6000,.arr 33 (λi=>pI .u64 (x3 i))),(5000,.arr 33 (λi=>pI .u64 ((λ_=>0) i))),(4000,.cells [.reg 1 0]),(1,.arr 33 (λi=>pI .u64 (b i))),(0,.arr 33 (λi=>pI .u64 (p_x i)))]⟩) (ids:=(Jy [0,1,4000,5000,6000])) (λ_ _ _ _ _ d x3 x4 f h=>?_) (hle:=kl2 1 2 (AB2 33 (pI .u64 0)) (AB2 33 (pI .u64 0)));apply kI Z h<;>intro h
 .refine F6 Z Fc [(2,.l [0]),(3,.l [0]),(4,.a [7000]),(5,.a [7000])] ?_;obtain⟨c12,h⟩:=C9 h;refine D2 c12 ?_;refine F8 Z Fc 16 7000 [pI .i64 x4] ?_;refine kC Z h (FX Z Y) (λy3 h=>?_);obtain⟨L3,e6,h⟩:=A7 h;refine GP Z Fc [18000] [10,9,6,5,4,3] 905 (λz3=>⟨[(10,pN x4),(9,.reg 0 0),(6,.p (.ptr [pI .i64 x4])),(5,.reg 6000 0),(4,.reg 5000 0),(3,.reg 4000 0)],[(6000,.arr 33 (λi=>pI .u64 (z3 i))),(5000,.arr 33 (λi=>pI .u64 ((λ_=>0) i))),(4000,.cells [.reg 1 0]),(1,.arr 33 (λi=>pI .u64 (b i))),(0,.arr 33 (λi=>pI .u64 (p_x i)))]⟩) (idl:=(Jy [0,1,4000,5000,6000])) h (El Z Y e6) (λ_=>by kernel_rfl) (λ_=>by kernel_rfl) (λ_=>by kernel_rfl) (λ_=>by kernel_rfl) (λx7 _ g z3 j h=>?_) (λz3 h=>?_)
  .refine Kc Z Fc ?_;refine F6 Z Fc [(0,.n),(1,.l [6000]),(2,.l [6000]),(3,.l [4000]),(6,.l [1]),(7,.l [1]),(9,.l [6000]),(10,.a [6000])] ?_;obtain⟨c15,h⟩:=C9 h;refine D2 c15 ?_;exact j _ (Jy [0,1,905,4000,5000,6000]) _ (OD z3 (0+x4.toNat*1) (P2 .or .u64 (z3 (0+x4.toNat*1)) (b (0+x7.toNat*1)))) Fc h (hle:=klR [(0,.fn 33 33 (λi=>[(λi=>if i=(0+x4.toNat*1)then (pI .u64 (P2 .or .u64 (z3 (0+x4.toNat*1)) (b (0+x7.toNat*1))))else (λi=>pI .u64 (z3 i)) i) i]) (λi=>[pI .u64 (OD z3 (0+x4.toNat*1) (P2 .or .u64 (z3 (0+x4.toNat*1)) (b (0+x7.toNat*1))) i)]))] (al1 ⟨rfl,AP5 (c:=pI .u64) (v:=z3) (x:=P2 .or .u64 (z3 (0+x4.toNat*1)) (b (0+x7.toNat*1))) (λ_ _=>rfl) rfl⟩ al0))
  exact f _ (Jy [0,1,4000,5000,6000]) _ z3 (wrap .i64 (x4+1)) Fc h
 obtain rfl:=B0 h;exact J6 Z (Kf rfl (G8 _ _):(0:Nat)=0/\(Ed 33 (λi=>pI .u64 (x3 i))).length=33) ⟨[(4,.reg 5000 0)],[(5000,.arr 33 (λi=>pI .u64 (x3 i))),(1,.arr 33 (λi=>pI .u64 (b i))),(0,.arr 33 (λi=>pI .u64 (p_x i)))]⟩ [0,1] (ids:=(Jy [0,1,5000])) ⟨rfl,rfl,rfl⟩ (hle:=kl1 0 (Mx 33 (λi=>pI .u64 (x3 i))))
def P0 (N:Nat)(p_x:Nat->Int):Option (Nat->Int):= BA N (λa (x3:Nat->Int) (x4:Int)=>if (decide (x4<33)) then if (((0:Int)<=x4/\x4<33)/\(0+x4.toNat*1)<33)then (BQ N (p_x (0+x4.toNat*1))).bind λy3=>(T3 N y3).bind λL3=>T1 L3 (λb (x7:Int) (z3:Nat->Int)=>if (((((((0:Int)<=x4/\x4<33)/\(0+x4.toNat*1)<33)/\((0:Int)<=x7/\x7<33))/\(0+x7.toNat*1)<33)/\((0:Int)<=x4/\x4<33))/\(0+x4.toNat*1)<33)then b (OD z3 (0+x4.toNat*1) (P2 .or .u64 (z3 (0+x4.toNat*1)) (p_x (0+x7.toNat*1)))) else none) (λ(z3:Nat->Int)=>a z3 (wrap .i64 (x4+1))) x3 else none else some x3) (λ_=>0) 0
theorem DQ {p_x:Nat->Int}{y:Nat->Int}(h:P0 N p_x=some y) :FunO S Br [.reg 0 0,.reg 0 0] [.arr 33 (λi=>pI .u64 (p_x i))] (.p (.agg (cA 33 (pI .u64) y))) ([.arr 33 (λi=>pI .u64 (p_x i))]) [true]:=by
 unfold P0 at h;refine A2 Z func250 ?_;refine H4 Z Fc h (λx3 x4=>⟨[(10,pN x4),(9,.reg 0 0),(5,.reg 6000 0),(4,.reg 5000 0),(3,.reg 4000 0)],[(6000,.arr 33 (λi=>pI .u64 (x3 i))),(5000,.arr 33 (λi=>pI .u64 ((λ_=>0) i))),(4000,.cells [.reg 0 0]),(0,.arr 33 (λi=>pI .u64 (p_x i)))]⟩) (ids:=(Jy [0,4000,5000,6000])) (λ_ _ _ _ _ b x3 x4 d h=>?_) (hle:=kl2 1 2 (AB2 33 (pI .u64 0)) (AB2 33 (pI .u64 0)));apply kI Z h<;>intro h
 .refine F6 Z Fc [(2,.l [0]),(3,.l [0]),(4,.a [7000]),(5,.a [7000])] ?_;obtain⟨c12,h⟩:=C9 h;refine D2 c12 ?_;refine F8 Z Fc 16 7000 [pI .i64 x4] ?_;refine kC Z h (FX Z Y) (λy3 h=>?_);obtain⟨L3,e6,h⟩:=A7 h;refine GP Z Fc [18000] [10,9,6,5,4,3] 905 (λz3=>⟨[(10,pN x4),(9,.reg 0 0),(6,.p (.ptr [pI .i64 x4])),(5,.reg 6000 0),(4,.reg 5000 0),(3,.reg 4000 0)],[(6000,.arr 33 (λi=>pI .u64 (z3 i))),(5000,.arr 33 (λi=>pI .u64 ((λ_=>0) i))),(4000,.cells [.reg 0 0]),(0,.arr 33 (λi=>pI .u64 (p_x i)))]⟩) (idl:=(Jy [0,4000,5000,6000])) h (El Z Y e6) (λ_=>by kernel_rfl) (λ_=>by kernel_rfl) (λ_=>by kernel_rfl) (λ_=>by kernel_rfl) (λx7 _ f z3 g h=>?_) (λz3 h=>?_)
  .refine Kc Z Fc ?_;refine F6 Z Fc [(0,.n),(1,.l [6000]),(2,.l [6000]),(3,.l [4000]),(6,.l [0]),(7,.l [0]),(9,.l [6000]),(10,.a [6000])] ?_;obtain⟨c15,h⟩:=C9 h;refine D2 c15 ?_;exact g _ (Jy [0,905,4000,5000,6000]) _ (OD z3 (0+x4.toNat*1) (P2 .or .u64 (z3 (0+x4.toNat*1)) (p_x (0+x7.toNat*1)))) Fc h (hle:=klR [(0,.fn 33 33 (λi=>[(λi=>if i=(0+x4.toNat*1)then (pI .u64 (P2 .or .u64 (z3 (0+x4.toNat*1)) (p_x (0+x7.toNat*1))))else (λi=>pI .u64 (z3 i)) i) i]) (λi=>[pI .u64 (OD z3 (0+x4.toNat*1) (P2 .or .u64 (z3 (0+x4.toNat*1)) (p_x (0+x7.toNat*1))) i)]))] (al1 ⟨rfl,AP5 (c:=pI .u64) (v:=z3) (x:=P2 .or .u64 (z3 (0+x4.toNat*1)) (p_x (0+x7.toNat*1))) (λ_ _=>rfl) rfl⟩ al0))
  exact d _ (Jy [0,4000,5000,6000]) _ z3 (wrap .i64 (x4+1)) Fc h
 obtain rfl:=B0 h;exact J6 Z (Kf rfl (G8 _ _):(0:Nat)=0/\(Ed 33 (λi=>pI .u64 (x3 i))).length=33) ⟨[(4,.reg 5000 0)],[(5000,.arr 33 (λi=>pI .u64 (x3 i))),(0,.arr 33 (λi=>pI .u64 (p_x i)))]⟩ [0] (ids:=(Jy [0,5000])) ⟨rfl,rfl,rfl⟩ (hle:=kl1 0 (Mx 33 (λi=>pI .u64 (x3 i))))
def G5 (N:Nat)(p_x:Nat->Int)(b:Int)(c:Int):Option (Nat->Int):= (S7 N c).bind λy1=>At0 N (λa (x1:Int) (x2:Nat->Int) (x3:Nat->Int)=>if (decide (0<x1)) then if ((P2 .and .i64 x1 1)==1) then (F2 N x3 x2).bind λy8=>(P0 N x2).bind λy9=>a (shI .shr .i64 x1 1) y9 y8 else (P0 N x2).bind λd=>a (shI .shr .i64 x1 1) d x3 else some x3) b p_x y1
theorem Ax {p_x:Nat->Int}{b:Int}{c:Int}{y:Nat->Int}(h:G5 N p_x b c=some y) :FunO S DN [.p (.agg (cA 33 (pI .u64) p_x)),pN b,pN c] [] (.p (.agg (cA 33 (pI .u64) y))) ([]) []:=by
 unfold G5 at h;refine A2 Z func243 ?_;refine kC Z h (Fi Z Y) (λy1 h=>?_);refine Mw Z (Kf rfl (G8 _ _):(0:Nat)=0/\(Ed 33 (λi=>pI .u64 (y1 i))).length=33) h (λx1 x2 x3=>⟨[(7,.reg 8000 0),(6,.reg 7000 0),(3,.reg 4000 0),(1,pN x1)],[(8000,.arr 33 (λi=>pI .u64 (x3 i))),(7000,.arr 33 (λi=>pI .u64 ((λ_=>0) i))),(4000,.arr 33 (λi=>pI .u64 (x2 i)))]⟩) (ids:=(Jy [4000,7000,8000])) (λ_ _ _ _ _ f x1 x2 x3 d h=>?_) (hle:=klR [(1,.fn 33 33 (λi=>[(λi=>(cA 33 (pI .u64) y1).getD i default) i]) (λi=>[pI .u64 (y1 i)])),(2,.fn 33 33 (λi=>[(λi=>(List.replicate 33 (pI .u64 0)).getD i default) i]) (λi=>[pI .u64 ((λ_=>0) i)])),(3,.fn 33 33 (λi=>[(λi=>(cA 33 (pI .u64) p_x).getD i default) i]) (λi=>[pI .u64 (p_x i)]))] (al1 ⟨rfl,Dy 33 (λi=>pI .u64 (y1 i))⟩ (al1 ⟨rfl,OC (z:=pI .u64 0) rfl⟩ (al1 ⟨rfl,Dy 33 (λi=>pI .u64 (p_x i))⟩ al0))));apply kI Z h<;>intro h
 .apply kI Z h<;>intro h
  .obtain⟨y8,e8,h⟩:=A7 h;refine B4 Z [8000,4000] Fc (V6 Z Y e8) ?_;obtain⟨y9,e9,h⟩:=A7 h;refine B4 Z [4000] (Kf rfl (G8 _ _):(0:Nat)=0/\(Ed 33 (λi=>pI .u64 (y8 i))).length=33) (DQ Z Y e9) ?_;exact d _ (Jy [4000,7000,8000]) _ (shI .shr .i64 x1 1) y9 y8 (Kf (Kf rfl (G8 _ _):(0:Nat)=0/\(Ed 33 (λi=>pI .u64 (y9 i))).length=33) (by decide:(0:Int)<=1)) h (hle:=kl2 1 3 (Mx 33 (λi=>pI .u64 (y8 i))) (Mx 33 (λi=>pI .u64 (y9 i))))
  obtain⟨a,e10,h⟩:=A7 h;refine B4 Z [4000] Fc (DQ Z Y e10) ?_;exact d _ (Jy [4000,7000,8000]) _ (shI .shr .i64 x1 1) a x3 (Kf (Kf rfl (G8 _ _):(0:Nat)=0/\(Ed 33 (λi=>pI .u64 (a i))).length=33) (by decide:(0:Int)<=1)) h (hle:=kl1 3 (Mx 33 (λi=>pI .u64 (a i))))
 obtain rfl:=B0 h;exact J6 Z (Kf rfl (G8 _ _):(0:Nat)=0/\(Ed 33 (λi=>pI .u64 (x3 i))).length=33) ⟨[(6,.reg 7000 0)],[(7000,.arr 33 (λi=>pI .u64 (x3 i)))]⟩ [] (ids:=[(7000,7000)]) ⟨rfl,rfl,rfl⟩ (hle:=kl1 0 (Mx 33 (λi=>pI .u64 (x3 i))))
end Go.AM
namespace Go.AM
open Go.Proofs.Tryz
variable {N:Nat}
open IntKind (wrap)
open Go.Proofs
set_option maxRecDepth 10000
set_option maxHeartbeats 2000000
variable {S:V2}(Z:G7 S Tryz.prog) (Y:Kk S)
include Z Y
def Ay (N:Nat)(p_x:Am7)(b:Sl Jb):Option (Nat->Int):= BA N (λa (x1:Nat->Int) (x2:Int)=>if (decide (x2<(b.n:Int))) then if ((0:Int)<=x2/\x2<(b.n:Int))then if ((((P2 .or .u32 (P2 .andNot .u32 p_x.is.Plus (b.g x2.toNat).Plus) (P2 .andNot .u32 p_x.is.Minus (b.g x2.toNat).Minus))==0)==p_x.not) != true) then if (((0:Int)<=(wrap .i64 (x2+1))/\((0:Int)<=x2/\x2<33))/\(0+x2.toNat*1)<33)then a (OD x1 (0+x2.toNat*1) (shI .shl .u64 1 (wrap .i64 (x2+1)))) (wrap .i64 (x2+1)) else none else a x1 (wrap .i64 (x2+1)) else none else some x1) (λ_=>0) 0
theorem Pv {p_x:Am7}{a:Sl Jb}{y:Nat->Int}(h:Ay N p_x a=some y) :FunO S Ff [.p (.agg (Zl p_x)),.p (vSl 2 A0 a)] [] (.p (.agg (cA 33 (pI .u64) y))) ([]) []:=by
 unfold Ay at h;refine A2 Z func244 ?_;refine H4 Z Fc h (λx1 x2=>⟨[(9,pN x2),(8,pN (a.n:Int)),(7,.p (vSl 2 A0 a)),(4,.reg 5000 0),(2,.reg 3000 0)],[(5000,.arr 33 (λi=>pI .u64 (x1 i))),(3000,.cells ((Zl p_x).map .p))]⟩) (ids:=(Jy [3000,5000])) (λ_ _ _ _ _ f x1 x2 d h=>?_) (hle:=kl1 3 (AB2 33 (pI .u64 0)));apply kI Z h<;>intro h
 .obtain⟨c8,h⟩:=C9 h;refine C8 Z (Kf c8 Gp) (b:=(((P2 .or .u32 (P2 .andNot .u32 p_x.is.Plus (a.g x2.toNat).Plus) (P2 .andNot .u32 p_x.is.Minus (a.g x2.toNat).Minus))==0)==p_x.not) != true) (λc9=>?_) (λc9=>?_)
  .replace h:=itT c9 h;obtain⟨c10,h⟩:=C9 h;exact d _ (Jy [3000,5000]) _ (OD x1 (0+x2.toNat*1) (shI .shl .u64 1 (wrap .i64 (x2+1)))) (wrap .i64 (x2+1)) c10 h (hle:=klR [(3,.fn 33 33 (λi=>[(λi=>if i=(0+x2.toNat*1)then (pI .u64 (shI .shl .u64 1 (wrap .i64 (x2+1))))else (λi=>pI .u64 (x1 i)) i) i]) (λi=>[pI .u64 (OD x1 (0+x2.toNat*1) (shI .shl .u64 1 (wrap .i64 (x2+1))) i)]))] (al1 ⟨rfl,AP5 (c:=pI .u64) (v:=x1) (x:=shI .shl .u64 1 (wrap .i64 (x2+1))) (λ_ _=>rfl) rfl⟩ al0))
  replace h:=itF c9 h;exact d _ (Jy [3000,5000]) _ x1 (wrap .i64 (x2+1)) Fc h
 obtain rfl:=B0 h;exact J6 Z (Kf rfl (G8 _ _):(0:Nat)=0/\(Ed 33 (λi=>pI .u64 (x1 i))).length=33) ⟨[(4,.reg 5000 0)],[(5000,.arr 33 (λi=>pI .u64 (x1 i)))]⟩ [] (ids:=[(5000,5000)]) ⟨rfl,rfl,rfl⟩ (hle:=kl1 0 (Mx 33 (λi=>pI .u64 (x1 i))))
def BR (N:Nat)(p_x:AQ6)(a:Sl Jb):Option (Nat->Int):= if p_x.end_ then if (((0:Int)<=(a.n:Int)/\((0:Int)<=(a.n:Int)/\(a.n:Int)<33))/\(0+(a.n:Int).toNat*1)<33)then some (OD (λ_=>0) (0+(a.n:Int).toNat*1) (shI .shl .u64 1 (a.n:Int))) else none else if (((0:Int)<=0/\(0:Int)<33)/\(0+0*1)<33)then some (OD (λ_=>0) (0+0*1) (shI .shl .u64 1 0)) else none
theorem QB {p_x:AQ6}{a:Sl Jb}{y:Nat->Int}(h:BR N p_x a=some y) :FunO S FV [.p (.agg (AQ7 p_x)),.p (vSl 2 A0 a)] [] (.p (.agg (cA 33 (pI .u64) y))) ([]) []:=by
 unfold BR at h;refine A2 Z func245 ?_;apply kI Z h<;>intro h
 .obtain⟨c2,h⟩:=C9 h;obtain rfl:=B0 h;exact J6 Z (Kf (Kf (Kf c2.1.1 c2.1.2) c2.2) (Kf rfl (G8 _ _):(0:Nat)=0/\(Ed 33 (λi=>if i=(0+(a.n:Int).toNat*1)then (pI .u64 (shI .shl .u64 1 (a.n:Int)))else (λi=>(List.replicate 33 (pI .u64 0)).getD i default) i)).length=33)) ⟨[(4,.reg 5000 0)],[(5000,.arr 33 (λi=>pI .u64 (OD (λ_=>0) (0+(a.n:Int).toNat*1) (shI .shl .u64 1 (a.n:Int)) i)))]⟩ [] (ids:=[(5000,5000)]) ⟨rfl,rfl,rfl⟩ (hle:=klR [(0,.fn 33 33 (λi=>[(λi=>(Ed 33 (λi=>if i=(0+(a.n:Int).toNat*1)then (pI .u64 (shI .shl .u64 1 (a.n:Int)))else (λi=>(List.replicate 33 (pI .u64 0)).getD i default) i)).getD i default) i]) (λi=>[pI .u64 (OD (λ_=>0) (0+(a.n:Int).toNat*1) (shI .shl .u64 1 (a.n:Int)) i)]))] (al1 ⟨rfl,λi b=>(Dy 33 (λi=>if i=(0+(a.n:Int).toNat*1)then (pI .u64 (shI .shl .u64 1 (a.n:Int)))else (λi=>(List.replicate 33 (pI .u64 0)).getD i default) i) i b).trans (AP5 (c:=pI .u64) (v:=λ_=>0) (x:=shI .shl .u64 1 (a.n:Int)) (OC (z:=pI .u64 0) rfl) rfl i b)⟩ al0))
 obtain⟨c3,h⟩:=C9 h;obtain rfl:=B0 h;exact J6 Z (Kf (Kf (Kf (by decide:(0:Int)<=0) c3.1) c3.2) (Kf rfl (G8 _ _):(0:Nat)=0/\(Ed 33 (λi=>if i=(0+0*1)then (pI .u64 (shI .shl .u64 1 0))else (λi=>(List.replicate 33 (pI .u64 0)).getD i default) i)).length=33)) ⟨[(4,.reg 5000 0)],[(5000,.arr 33 (λi=>pI .u64 (OD (λ_=>0) (0+0*1) (shI .shl .u64 1 0) i)))]⟩ [] (ids:=[(5000,5000)]) ⟨rfl,rfl,rfl⟩ (hle:=klR [(0,.fn 33 33 (λi=>[(λi=>(Ed 33 (λi=>if i=(0+0*1)then (pI .u64 (shI .shl .u64 1 0))else (λi=>(List.replicate 33 (pI .u64 0)).getD i default) i)).getD i default) i]) (λi=>[pI .u64 (OD (λ_=>0) (0+0*1) (shI .shl .u64 1 0) i)]))] (al1 ⟨rfl,λi b=>(Dy 33 (λi=>if i=(0+0*1)then (pI .u64 (shI .shl .u64 1 0))else (λi=>(List.replicate 33 (pI .u64 0)).getD i default) i) i b).trans (AP5 (c:=pI .u64) (v:=λ_=>0) (x:=shI .shl .u64 1 0) (OC (z:=pI .u64 0) rfl) rfl i b)⟩ al0))
def CQ (rec:Part->(Sl Jb)->Option (Nat->Int))(N:Nat)(p_x:Pseq)(b:Sl Jb):Option (Nat->Int):= (S7 N (b.n:Int)).bind λy1=>BA N (λa (x1:Nat->Int) (x2:Int)=>if (decide (x2<(p_x.l.n:Int))) then if ((0:Int)<=x2/\x2<(p_x.l.n:Int))then (rec (p_x.l.g x2.toNat) b).bind λy6=>(F2 N x1 y6).bind λy7=>a y7 (wrap .i64 (x2+1)) else none else some x1) y1 0
theorem Tp {rec:Part->(Sl Jb)->Option ((Nat->Int))}(b:∀{x:Part}{b0:(Sl Jb)}{y:(Nat->Int)},rec x b0=some y->AY7 S Tryz.prog (Ib x) "ablaut/pats.in" [(.p (vSl 2 A0 b0))] (.p (.agg (cA 33 (pI .u64) y)))){p_x:Pseq}{a:(Sl Jb)}{y:(Nat->Int)}(h:CQ rec N p_x a=some y) :FunO S GX [(.p (.agg (Ba9 p_x))),(.p (vSl 2 A0 a))] [] (.p (.agg (cA 33 (pI .u64) y))) ([]) []:=by
 unfold CQ at h;refine A2 Z func251 ?_;refine kC Z h (Fi Z Y) (λy1 h=>?_);refine H4 Z (Kf rfl (G8 _ _):(0:Nat)=0/\(Ed 33 (λi=>pI .u64 (y1 i))).length=33) h (λx1 x2=>⟨[(15,(pN x2)),(14,(pN (p_x.l.n:Int))),(13,(.p (vSl 1 Jn p_x.l))),(5,(.reg 6000 0)),(4,(.reg 5000 0)),(1,(.p (vSl 2 A0 a)))],[(6000,(.arr 33 (λi=>pI .u64 (x1 i)))),(5000,(.arr 33 (λi=>pI .u64 ((λ_=>0) i))))]⟩) (ids:=(Jy [5000,6000])) (λ_ _ _ _ _ c x1 x2 d h=>?_) (hle:=(kl2 4 5 (Mx 33 (λi=>pI .u64 (y1 i))) (AB2 33 (pI .u64 0))));apply kI Z h<;>intro h
 .obtain⟨c6,h⟩:=C9 h;obtain⟨y6,e6,h⟩:=A7 h;refine NF Z c6 (b e6) ?_;refine KQ Z (Kf rfl (G8 _ _):(0:Nat)=0/\(Ed 33 (λi=>pI .u64 (y6 i))).length=33) ⟨[(15,(pN x2)),(14,(pN (p_x.l.n:Int))),(13,(.p (vSl 1 Jn p_x.l))),(8,(.reg 9000 0)),(5,(.reg 6000 0)),(4,(.reg 5000 0)),(1,(.p (vSl 2 A0 a)))],[(9000,(.arr 33 (λi=>pI .u64 (y6 i)))),(6000,(.arr 33 (λi=>pI .u64 (x1 i)))),(5000,(.arr 33 (λi=>pI .u64 ((λ_=>0) i))))]⟩ (ids:=(Jy [5000,6000,9000])) ?_ (hle:=(kl1 4 (Mx 33 (λi=>pI .u64 (y6 i)))));obtain⟨y7,e7,h⟩:=A7 h;refine B4 Z [6000,9000] Fc (V6 Z Y e7) ?_;exact d _ (Jy [5000,6000]) _ y7 (wrap .i64 (x2+1)) (Kf rfl (G8 _ _):(0:Nat)=0/\(Ed 33 (λi=>pI .u64 (y7 i))).length=33) h (hle:=kl1 4 (Mx 33 (λi=>pI .u64 (y7 i))))
 obtain rfl:=B0 h;exact J6 Z (Kf rfl (G8 _ _):(0:Nat)=0/\(Ed 33 (λi=>pI .u64 (x1 i))).length=33) ⟨[(4,(.reg 5000 0))],[(5000,(.arr 33 (λi=>pI .u64 (x1 i))))]⟩ [] (ids:=[(5000,5000)]) ⟨rfl,rfl,rfl⟩ (hle:=(kl1 0 (Mx 33 (λi=>pI .u64 (x1 i)))))
def CR (rec:Part->(Sl Jb)->Option (Nat->Int))(N:Nat)(p_x:Palt)(b:Sl Jb):Option (Nat->Int):= BA N (λa (x1:Nat->Int) (x2:Int)=>if (decide (x2<(p_x.l.n:Int))) then if ((0:Int)<=x2/\x2<(p_x.l.n:Int))then (rec (p_x.l.g x2.toNat) b).bind λy5=>(P5 N x1 y5).bind λy6=>a y6 (wrap .i64 (x2+1)) else none else some x1) (λ_=>0) 0
theorem Tq {rec:Part->(Sl Jb)->Option ((Nat->Int))}(b:∀{x:Part}{b0:(Sl Jb)}{y:(Nat->Int)},rec x b0=some y->AY7 S Tryz.prog (Ib x) "ablaut/pats.in" [(.p (vSl 2 A0 b0))] (.p (.agg (cA 33 (pI .u64) y)))){p_x:Palt}{a:(Sl Jb)}{y:(Nat->Int)}(h:CR rec N p_x a=some y) :FunO S GV [(.p (.agg (Ba6 p_x))),(.p (vSl 2 A0 a))] [] (.p (.agg (cA 33 (pI .u64) y))) ([]) []:=by
 unfold CR at h;refine A2 Z func246 ?_;refine H4 Z Fc h (λx1 x2=>⟨[(11,(pN x2)),(10,(pN (p_x.l.n:Int))),(9,(.p (vSl 1 Jn p_x.l))),(4,(.reg 5000 0)),(1,(.p (vSl 2 A0 a)))],[(5000,(.arr 33 (λi=>pI .u64 (x1 i))))]⟩) (ids:=[(5000,5000)]) (λ_ _ _ _ _ c x1 x2 d h=>?_) (hle:=(kl1 4 (AB2 33 (pI .u64 0))));apply kI Z h<;>intro h
 .obtain⟨c6,h⟩:=C9 h;obtain⟨y5,e5,h⟩:=A7 h;refine NF Z c6 (b e5) ?_;refine KQ Z (Kf rfl (G8 _ _):(0:Nat)=0/\(Ed 33 (λi=>pI .u64 (y5 i))).length=33) ⟨[(11,(pN x2)),(10,(pN (p_x.l.n:Int))),(9,(.p (vSl 1 Jn p_x.l))),(7,(.reg 8000 0)),(4,(.reg 5000 0)),(1,(.p (vSl 2 A0 a)))],[(8000,(.arr 33 (λi=>pI .u64 (y5 i)))),(5000,(.arr 33 (λi=>pI .u64 (x1 i))))]⟩ (ids:=(Jy [5000,8000])) ?_ (hle:=(kl1 4 (Mx 33 (λi=>pI .u64 (y5 i)))));obtain⟨y6,e6,h⟩:=A7 h;refine B4 Z [5000,8000] Fc (FK Z Y e6) ?_;exact d _ [(5000,5000)] _ y6 (wrap .i64 (x2+1)) Fc h
 obtain rfl:=B0 h;exact J6 Z (Kf rfl (G8 _ _):(0:Nat)=0/\(Ed 33 (λi=>pI .u64 (x1 i))).length=33) ⟨[(4,(.reg 5000 0))],[(5000,(.arr 33 (λi=>pI .u64 (x1 i))))]⟩ [] (ids:=[(5000,5000)]) ⟨rfl,rfl,rfl⟩ (hle:=(kl1 0 (Mx 33 (λi=>pI .u64 (x1 i)))))
def CS (rec:Part->(Sl Jb)->Option (Nat->Int))(N:Nat)(p_x:Ba7)(a:Sl Jb):Option (Nat->Int):= (rec p_x.of a).bind λy1=>(G5 N y1 p_x.min (a.n:Int)).bind λy2=>(S7 N (a.n:Int)).bind λy3=>(P5 N y1 y3).bind λy4=>if (decide (p_x.max<0)) then (G5 N y4 (a.n:Int) (a.n:Int)).bind λy5=>(F2 N y2 y5).bind λy6=>some y6 else (G5 N y4 (wrap .i64 (p_x.max-p_x.min)) (a.n:Int)).bind λy7=>(F2 N y2 y7).bind λy8=>some y8
theorem Tr {rec:Part->(Sl Jb)->Option ((Nat->Int))}(b:∀{x:Part}{b0:(Sl Jb)}{y:(Nat->Int)},rec x b0=some y->AY7 S Tryz.prog (Ib x) "ablaut/pats.in" [(.p (vSl 2 A0 b0))] (.p (.agg (cA 33 (pI .u64) y)))){p_x:Ba7}{a:(Sl Jb)}{y:(Nat->Int)}(h:CS rec N p_x a=some y) :FunO S GW [(.p (.agg (Ba8 p_x))),(.p (vSl 2 A0 a))] [] (.p (.agg (cA 33 (pI .u64) y))) ([]) []:=by
 unfold CS at h;refine A2 Z func248 ?_;obtain⟨y1,e1,h⟩:=A7 h;refine NF Z Fc (b e1) ?_;refine KQ Z (Kf rfl (G8 _ _):(0:Nat)=0/\(Ed 33 (λi=>pI .u64 (y1 i))).length=33) ⟨[(18,(pN (a.n:Int))),(16,(pN p_x.min)),(14,(.p (.agg (cA 33 (pI .u64) y1)))),(5,(.reg 6000 0)),(4,(.reg 5000 0)),(2,(.reg 3000 0)),(1,(.p (vSl 2 A0 a)))],[(6000,(.arr 33 (λi=>pI .u64 (y1 i)))),(5000,(.arr 33 (λi=>pI .u64 ((λ_=>0) i)))),(3000,(.cells [(.p (Ib p_x.of)),(pN p_x.min),(pN p_x.max)]))]⟩ (ids:=(Jy [3000,5000,6000])) ?_ (hle:=(klR [(2,.eq (.agg (Ed 33 (λi=>(cA 33 (pI .u64) y1).getD i default))) (.agg (cA 33 (pI .u64) y1))),(4,.fn 33 33 (λi=>[(λi=>(cA 33 (pI .u64) y1).getD i default) i]) (λi=>[pI .u64 (y1 i)])),(5,.fn 33 33 (λi=>[(λi=>(List.replicate 33 (pI .u64 0)).getD i default) i]) (λi=>[pI .u64 ((λ_=>0) i)]))] (al1 (congrArg PV.agg (Ab6 (Dy 33 (λi=>pI .u64 (y1 i))))) (al1 ⟨rfl,(Dy 33 (λi=>pI .u64 (y1 i)))⟩ (al1 ⟨rfl,(OC (z:=pI .u64 0) rfl)⟩ al0)))));refine kC Z h (Ax Z Y) (λy2 h=>?_);obtain⟨y3,e3,h⟩:=A7 h;refine B4 Z [] (Kf (Kf rfl (G8 _ _):(0:Nat)=0/\(Ed 33 (λi=>pI .u64 (y2 i))).length=33) (Kf rfl (G8 _ _):(0:Nat)=0/\(Ed 33 (λi=>pI .u64 (y1 i))).length=33)) (Fi Z Y e3) ?_;refine KQ Z (Kf rfl (G8 _ _):(0:Nat)=0/\(Ed 33 (λi=>pI .u64 (y3 i))).length=33) ⟨[(8,(.reg 9000 0)),(7,(.reg 8000 0)),(6,(.reg 7000 0)),(4,(.reg 5000 0)),(2,(.reg 3000 0)),(1,(.p (vSl 2 A0 a)))],[(9000,(.arr 33 (λi=>pI .u64 (y3 i)))),(8000,(.arr 33 (λi=>pI .u64 (y1 i)))),(7000,(.arr 33 (λi=>pI .u64 (y2 i)))),(5000,(.arr 33 (λi=>pI .u64 ((λ_=>0) i)))),(3000,(.cells [(.p (Ib p_x.of)),(pN p_x.min),(pN p_x.max)]))]⟩ (ids:=(Jy [3000,5000,7000,8000,9000])) ?_ (hle:=(klR [(1,.fn 33 33 (λi=>[(λi=>(cA 33 (pI .u64) y3).getD i default) i]) (λi=>[pI .u64 (y3 i)])),(2,.fn 33 33 (λi=>[(λi=>(cA 33 (pI .u64) y1).getD i default) i]) (λi=>[pI .u64 (y1 i)])),(3,.fn 33 33 (λi=>[(λi=>(cA 33 (pI .u64) y2).getD i default) i]) (λi=>[pI .u64 (y2 i)]))] (al1 ⟨rfl,(Dy 33 (λi=>pI .u64 (y3 i)))⟩ (al1 ⟨rfl,(Dy 33 (λi=>pI .u64 (y1 i)))⟩ (al1 ⟨rfl,(Dy 33 (λi=>pI .u64 (y2 i)))⟩ al0)))));obtain⟨y4,e4,h⟩:=A7 h;refine B4 Z [8000,9000] Fc (FK Z Y e4) ?_;apply kI Z h<;>intro h
 .refine kC Z h (Ax Z Y) (λy5 h=>?_);refine KQ Z (Kf rfl (G8 _ _):(0:Nat)=0/\(Ed 33 (λi=>pI .u64 (y5 i))).length=33) ⟨[(7,(.reg 8000 0)),(6,(.reg 7000 0)),(4,(.reg 5000 0))],[(8000,(.arr 33 (λi=>pI .u64 (y5 i)))),(7000,(.arr 33 (λi=>pI .u64 (y2 i)))),(5000,(.arr 33 (λi=>pI .u64 ((λ_=>0) i))))]⟩ (ids:=(Jy [5000,7000,8000])) ?_ (hle:=(kl1 0 (Mx 33 (λi=>pI .u64 (y5 i)))));obtain⟨y6,e6,h⟩:=A7 h;refine B4 Z [7000,8000] Fc (V6 Z Y e6) ?_;obtain rfl:=B0 h;exact J6 Z (Kf rfl (G8 _ _):(0:Nat)=0/\(Ed 33 (λi=>pI .u64 (y6 i))).length=33) ⟨[(4,(.reg 5000 0))],[(5000,(.arr 33 (λi=>pI .u64 (y6 i))))]⟩ [] (ids:=[(5000,5000)]) ⟨rfl,rfl,rfl⟩ (hle:=(kl1 0 (Mx 33 (λi=>pI .u64 (y6 i)))))
 refine kC Z h (Ax Z Y) (λy7 h=>?_);refine KQ Z (Kf rfl (G8 _ _):(0:Nat)=0/\(Ed 33 (λi=>pI .u64 (y7 i))).length=33) ⟨[(7,(.reg 8000 0)),(6,(.reg 7000 0)),(4,(.reg 5000 0))],[(8000,(.arr 33 (λi=>pI .u64 (y7 i)))),(7000,(.arr 33 (λi=>pI .u64 (y2 i)))),(5000,(.arr 33 (λi=>pI .u64 ((λ_=>0) i))))]⟩ (ids:=(Jy [5000,7000,8000])) ?_ (hle:=(kl1 0 (Mx 33 (λi=>pI .u64 (y7 i)))));obtain⟨y8,e8,h⟩:=A7 h;refine B4 Z [7000,8000] Fc (V6 Z Y e8) ?_;obtain rfl:=B0 h;exact J6 Z (Kf rfl (G8 _ _):(0:Nat)=0/\(Ed 33 (λi=>pI .u64 (y8 i))).length=33) ⟨[(4,(.reg 5000 0))],[(5000,(.arr 33 (λi=>pI .u64 (y8 i))))]⟩ [] (ids:=[(5000,5000)]) ⟨rfl,rfl,rfl⟩ (hle:=(kl1 0 (Mx 33 (λi=>pI .u64 (y8 i)))))
def Z0 (rec:Pat->Option Part)(N:Nat)(a:Pat):Option Part:= BA N (λb (x1:Sl Part) (x2:Int)=>if (decide (x2<(a.L.n:Int))) then if ((0:Int)<=x2/\x2<(a.L.n:Int))then (rec (a.L.g x2.toNat)).bind λy3=>if (Ke 16 (x1.n+(Sl.of [y3]:Sl Part).n))then b (x1.push y3) (wrap .i64 (x2+1)) else none else none else if (a.Kind==1) then some (Part.sound a.Is a.Not) else if (a.Kind==2) then some (Part.edge false) else if (a.Kind==6) then some (Part.edge true) else if (a.Kind==4) then some (Part.alt x1.n x1.g) else if (a.Kind==5) then if (((0:Int)<=0/\0<(x1.n:Int))/\0<x1.n)then some (Part.rep (x1.g 0) a.Min a.Max) else none else some (Part.seq x1.n x1.g)) (Sl.nil:Sl Part) 0
def BS:Nat->Pat->Option Part
 |0=>λ_=>none
 |N+1=>Z0 (BS N) N
theorem Pw {rec:Pat->Option Part}(b:∀{a:Pat}{y:Part},rec a=some y->FunO S DA [.p (.agg (D6 a))] [] (.p (Ib y)) ([]) []){a:Pat}{y:Part}(h:Z0 rec N a=some y) :FunO S DA [.p (.agg (D6 a))] [] (.p (Ib y)) ([]) []:=by
 unfold Z0 at h;refine A2 Z func223 ?_;refine F8 Z Fc 2 2000 (D6 a) ?_;refine N8 Z Fc 8 ⟨[(7,.p (vSl 7 D6 a.L)),(3,.p C7),(1,.p (.ptr (D6 a)))],[]⟩ (ids:=[]) ?_ (hle:=klR [(0,.fn a.L.n a.L.n (EC a) (λi=>D6 (a.L.g i)))] (al1 ⟨rfl,Cb a⟩ al0));refine H4 Z Fc h (λx1 x2=>⟨[(9,pN x2),(8,pN (a.L.n:Int)),(7,.p (vSl 7 D6 a.L)),(3,.vec 4500),(1,.p (.ptr (D6 a)))],[(4500,oV XH 1 Jn x1 false)]⟩) (ids:=[]) (λ_ _ _ _ _ c x1 x2 d h=>?_);apply kI Z h<;>intro h
 .obtain⟨c6,h⟩:=C9 h;refine F8 Z (Kf c6 Ik) 13 6000 (D6 (a.L.g x2.toNat)) ?_;obtain⟨y3,e3,h⟩:=A7 h;refine B4 Z [] Ik (b e3) ?_;obtain⟨c7,h⟩:=C9 h;exact d _ [(4500,18000)] _ (x1.push y3) (wrap .i64 (x2+1)) (Kf Iq c7) h (hle:=kl1 4 (X5 Jn x1 y3 [.v .nilIface]))
 apply kI Z h<;>intro h
 .obtain rfl:=B0 h;exact Al1 Z (by decide:(2:Nat)<=6) [] ⟨rfl,rfl,rfl⟩
 apply kI Z h<;>intro h
 .cases h;exact kR Z
 apply kI Z h<;>intro h
 .cases h;exact kR Z
 apply kI Z h<;>intro h
 .refine N8 Z Fc 40 ⟨[(39,.p (vSl 1 Jn x1))],[]⟩ (ids:=[]) ?_;cases h;exact kR Z
 apply kI Z h<;>intro h
 .refine E5 Z Fc [4,6] ?_;obtain⟨c13,h⟩:=C9 h;refine D2 c13 ?_;cases h;exact kR Z
 refine N8 Z Fc 54 ⟨[(53,.p (vSl 1 Jn x1))],[]⟩ (ids:=[]) ?_;cases h;exact kR Z
theorem QC {a:Pat}{y:Part}(h:BS N a=some y) :FunO S DA [.p (.agg (D6 a))] [] (.p (Ib y)) ([]) []:=by
 induction N generalizing a y with
 |zero=>cases (show (none:Option Part)=some y from h)
 |succ N ih=>exact Pw Z Y (λe=>ih e) h
end Go.AM
namespace Go.AM
open Go.Proofs
variable {S:V2}(Z:G7 S Tryz.prog) (Y:Kk S)
include Z Y
def BU:Nat->Part->Sl Jb->Option (Nat->Int)
 |0=>λ_ _=>none
 |N+1=>λp w=>match p with
  |.nil=>none
  |.sound x no=>Ay N ⟨x,no⟩ w
  |.edge e=>BR N ⟨e⟩ w
  |.seq n g=>CQ (BU N) N ⟨⟨n,g⟩⟩ w
  |.alt n g=>CR (BU N) N ⟨⟨n,g⟩⟩ w
  |.rep o mn mx=>CS (BU N) N ⟨o,mn,mx⟩ w
theorem An6 {N:Nat}{x:Part}{w:Sl Jb}{y:Nat->Int}(h:BU N x w=some y):AY7 S Tryz.prog (Ib x) "ablaut/pats.in" [(.p (vSl 2 A0 w))] (.p (.agg (cA 33 (pI .u64) y))):=by
 induction N generalizing x w y with
 |zero=>cases h
 |succ N ih=>
  cases x with
  |nil=>cases h
  |sound s no=>exact⟨_,_,Ff,rfl,by kernel_rfl,Pv Z Y (p_x:=⟨s,no⟩) h⟩
  |edge e=>exact⟨_,_,FV,rfl,by kernel_rfl,QB Z Y (N:=N) (p_x:=⟨e⟩) h⟩
  |seq n g=>exact⟨_,_,GX,rfl,by kernel_rfl,Tp Z Y (λe=>ih e) (p_x:=⟨⟨n,g⟩⟩) h⟩
  |alt n g=>exact⟨_,_,GV,rfl,by kernel_rfl,Tq Z Y (λe=>ih e) (p_x:=⟨⟨n,g⟩⟩) h⟩
  |rep o mn mx=>exact⟨_,_,GW,rfl,by kernel_rfl,Tr Z Y (λe=>ih e) (p_x:=⟨o,mn,mx⟩) h⟩
end Go.AM
namespace Go.AM
open Go.Proofs.Tryz
variable {N:Nat}
open IntKind (wrap)
open Go.Proofs
set_option maxRecDepth 10000
set_option maxHeartbeats 2000000
variable {S:V2}(Z:G7 S Tryz.prog) (Y:Kk S)
include Z Y
def W4 (N:Nat)(a:Jb):Option Bool:= (R6 N a).bind λy1=>some (!y1)
theorem Px {a:Jb}{y:Bool}(h:W4 N a=some y) :FunO S Iv [.p (.agg (A0 a))] [] (pB y) ([]) []:=by unfold W4 at h;refine A2 Z func222 ?_;refine kC Z h (FJ Z Y) (λy1 h=>?_);cases h;exact kR Z
def F1 (N:Nat)(a:Sl Jb)(c:Jb->Option Bool):Option Int:= X4 N (λb (x1:Int)=>if (decide (x1<(a.n:Int))) then if ((0:Int)<=x1/\x1<(a.n:Int))then (c (a.g x1.toNat)).bind λy3=>if y3 then some x1 else b (wrap .i64 (x1+1)) else none else some (-1)) 0
theorem Ae {a:Sl Jb}{c:Jb->Option Bool}{kp_f:Nat}(d:∀{a0:Jb}{b:Bool},c a0=some b->FunO S kp_f [.p (.agg (A0 a0))] [] (pB b) [] []){y:Int}(h:F1 N a c=some y) :FunO S O1 [.p (vSl 2 A0 a),.clo kp_f [] []] [] (pN y) ([]) []:=by
 unfold F1 at h;refine A2 Z func132 ?_;refine Q0 Z Fc h (λx1=>⟨[(8,pN x1),(7,pN (a.n:Int)),(1,.clo kp_f [] []),(0,.p (vSl 2 A0 a))],[]⟩) (ids:=[]) (λ_ _ _ _ _ f x1 g h=>?_);apply kI Z h<;>intro h
 .obtain⟨c8,h⟩:=C9 h;obtain⟨y3,e3,h⟩:=A7 h;refine B4 Z [] (Kf c8 Gp) (d e3) ?_;apply kI Z h<;>intro h
  .cases h;exact kR Z
  exact g _ [] _ (wrap .i64 (x1+1)) Fc h
 cases h;exact kR Z
def B6 (N:Nat)(a:Sl Jb)(b:Jb->Option Bool):Option Bool:= (F1 N a b).bind λy1=>some (decide (0<=y1))
theorem N1 {a:Sl Jb}{c:Jb->Option Bool}{kp_f:Nat}(d:∀{a0:Jb}{b:Bool},c a0=some b->FunO S kp_f [.p (.agg (A0 a0))] [] (pB b) [] []){y:Bool}(h:B6 N a c=some y) :FunO S N0 [.p (vSl 2 A0 a),.clo kp_f [] []] [] (pB y) ([]) []:=by unfold B6 at h;refine A2 Z func88 ?_;refine kC Z h (Ae Z Y (λe=>d e)) (λy1 h=>?_);cases h;exact kR Z
def E3 (N:Nat)(q0:Sl Pat):Option (List (Int×Pat)):= X4 N (λa (x1:Int)=>if (decide (0<=x1)) then if ((0:Int)<=x1/\x1<(q0.n:Int))then Ah (x1,q0.g x1.toNat) (a (wrap .i64 (x1-1))) else none else some []) (wrap .i64 ((q0.n:Int)-1))
theorem AX {q0:Sl Pat}{L:List (Int×Pat)}(h:E3 N q0=some L) :EU S J0 [] [.reg 0 0] [.cells [.p (vSl 7 D6 q0)]] (L.map (λ(x:Int×Pat)=>[pI .i64 x.1,(λx=>.agg (D6 x)) x.2])):=by
 unfold E3 at h;refine EB Z func173 ?_;refine Dk Z Fc h (λx1 L1=>⟨[(3,pN x1),(1,.reg 0 0),(0,.yf 1)],[(1,.yld (L1.map (λ(x:Int×Pat)=>[pI .i64 x.1,(λx=>.agg (D6 x)) x.2])) true),(0,.cells [.p (vSl 7 D6 q0)])]⟩) (ids:=(Jy [0,1])) (λ_ _ _ _ _ d x1 L1 f h=>?_);apply kI Z h<;>intro h
 .obtain⟨c10,h⟩:=C9 h;obtain⟨L4,rfl,c⟩:=LS h;replace h:=c;refine Dj Z (Kf c10 Ik) (ys:=(λ(x:Int×Pat)=>[pI .i64 x.1,(λx=>.agg (D6 x)) x.2]) (x1,q0.g x1.toNat)) (rest:=L4.map (λ(x:Int×Pat)=>[pI .i64 x.1,(λx=>.agg (D6 x)) x.2])) ?_ ?_
  .refine C8 Z Fc (b:=false) (λc11=>?_) (λc11=>?_)
   .exact Bool.noConfusion ((rfl:false=false).symm.trans c11)
   exact f _ (Jy [0,1]) _ (wrap .i64 (x1-1)) L4 Fc h
  refine C8 Z Fc (b:=true) (λc12=>?_) (λc12=>?_)
  .exact kO Z Fc (a:=.tup []) (objs:=[(.cells [.p (vSl 7 D6 q0)]),.yld [] false]) [0,1] ⟨false,rfl,rfl,_,rfl⟩
  exact Bool.noConfusion (Iq.symm.trans c12)
 obtain rfl:=B0 h;exact kO Z Fc (a:=.tup []) (objs:=[(.cells [.p (vSl 7 D6 q0)]),.yld [] true]) [0,1] ⟨true,rfl,rfl,_,rfl⟩
def J9 (N:Nat)(a:Sl Pat):Option (Sl Pat):= some a
theorem BV {a:Sl Pat}{y:Sl Pat}(h:J9 N a=some y) :FunO S R0 [.p (vSl 7 D6 a)] [] (.clo J0 [] [.reg 0 0]) ([.cells [.p (vSl 7 D6 y)]]) []:=by unfold J9 at h;refine A2 Z func131 ?_;obtain rfl:=B0 h;exact kO Z Fc [2000]
def Az (N:Nat)(c:Pat):Option Int:= BA N (λa (x3:Sl Pat) (x4:Int)=>if (decide (0<(x3.n:Int))) then if (x4==40) then some 12 else if (((0:Int)<=(wrap .i64 ((x3.n:Int)-1))/\(wrap .i64 ((x3.n:Int)-1))<(x3.n:Int))/\(wrap .i64 ((x3.n:Int)-1)).toNat<x3.n)then if ((0:Int)<=(wrap .i64 ((x3.n:Int)-1))/\(wrap .i64 ((x3.n:Int)-1))<=(x3.n:Int))then (BP N (x3.g (wrap .i64 ((x3.n:Int)-1)).toNat)).bind λy5=>if (y5 != 0) then some y5 else if ((0:Int)<=(if 41<((x3.g (wrap .i64 ((x3.n:Int)-1)).toNat).L.n:Int)then 41 else ((x3.g (wrap .i64 ((x3.n:Int)-1)).toNat).L.n:Int))/\(if 41<((x3.g (wrap .i64 ((x3.n:Int)-1)).toNat).L.n:Int)then 41 else ((x3.g (wrap .i64 ((x3.n:Int)-1)).toNat).L.n:Int))<=((x3.g (wrap .i64 ((x3.n:Int)-1)).toNat).L.n:Int))then (J9 N ((x3.g (wrap .i64 ((x3.n:Int)-1)).toNat).L.take (if 41<((x3.g (wrap .i64 ((x3.n:Int)-1)).toNat).L.n:Int)then 41 else ((x3.g (wrap .i64 ((x3.n:Int)-1)).toNat).L.n:Int)).toNat)).bind λy6=>(E3 N y6).bind λL3=>T1 L3 (λb (x7:Int×Pat) (z3:Sl Pat)=>if (((Ke 64 (z3.n+(Sl.of [Pat.nil]:Sl Pat).n))/\((0:Int)<=(z3.n:Int)/\(z3.n:Int)<((z3.push Pat.nil).n:Int)))/\(z3.n:Int).toNat<(z3.push Pat.nil).n)then b ((z3.push Pat.nil).upd (z3.n:Int).toNat x7.2) else none) (λ(z3:Sl Pat)=>a z3 (wrap .i64 (x4+1))) (x3.take (wrap .i64 ((x3.n:Int)-1)).toNat) else none else none else none else some 0) (Sl.of [c]:Sl Pat) 0
theorem Iy {b:Pat}{y:Int}(h:Az N b=some y) :FunO S ML [.p (.agg (D6 b))] [] (pN y) ([]) []:=by
 unfold Az at h;refine A2 Z func87 ?_;refine F8 Z Fc 2 2000 (D6 b) ?_;refine H4 Z (Kf Ik Iq) h (λx3 x4=>⟨[(4,pN x4),(3,.reg 4000 0)],[(4501,oV Gv 7 D6 x3 false),(4000,.cells [.vec 4501])]⟩) (ids:=[(4000,4000),(4501,12000)]) (λ_ _ _ _ _ d x3 x4 j h=>?_) (hle:=kl1 1 (Ac0 D6 ([b]:List Pat) [pI .i64 0,pI .u32 0,pI .u32 0,.v (.bool false),pI .i64 0,pI .i64 0,C7]));apply kI Z h<;>intro h
 .apply kI Z h<;>intro h
  .cases h;exact kR Z
  obtain⟨c21,h⟩:=C9 h;refine F8 Z (Kf (Kf c21.1 Ik) c21.2) 25 6000 (D6 (x3.g (wrap .i64 ((x3.n:Int)-1)).toNat)) ?_;obtain⟨c22,h⟩:=C9 h;refine AY8 Z c22 30 4501 (wrap .i64 ((x3.n:Int)-1)).toNat 4508 (e:=Gv) (k:=7) (N:=x3.n) (f:=λi=>D6 (x3.g i)) (by have q:=c22;omega) ?_;obtain⟨y5,e7,h⟩:=A7 h;refine B4 Z [] Ik (Qz Z Y e7) ?_;apply kI Z h<;>intro h
  .cases h;exact kR Z
  refine N8 Z Fc 39 ⟨[(38,.p (vSl 7 D6 (x3.g (wrap .i64 ((x3.n:Int)-1)).toNat).L)),(36,.p (vSl 7 D6 (x3.g (wrap .i64 ((x3.n:Int)-1)).toNat).L)),(4,pN x4),(3,.reg 4000 0)],[(4508,.vec Gv 7 (x3.take (wrap .i64 ((x3.n:Int)-1)).toNat).n (λi=>D6 ((x3.take (wrap .i64 ((x3.n:Int)-1)).toNat).g i)) false),(4000,.cells [.vec 4508])]⟩ (ids:=(Jy [4000,4508])) ?_ (hle:=klR [(0,.fn (x3.g (wrap .i64 ((x3.n:Int)-1)).toNat).L.n (x3.g (wrap .i64 ((x3.n:Int)-1)).toNat).L.n (EC (x3.g (wrap .i64 ((x3.n:Int)-1)).toNat)) (λi=>D6 ((x3.g (wrap .i64 ((x3.n:Int)-1)).toNat).L.g i))),(1,.fn (x3.g (wrap .i64 ((x3.n:Int)-1)).toNat).L.n (x3.g (wrap .i64 ((x3.n:Int)-1)).toNat).L.n (EC (x3.g (wrap .i64 ((x3.n:Int)-1)).toNat)) (λi=>D6 ((x3.g (wrap .i64 ((x3.n:Int)-1)).toNat).L.g i)))] (al1 ⟨rfl,Cb (x3.g (wrap .i64 ((x3.n:Int)-1)).toNat)⟩ (al1 ⟨rfl,Cb (x3.g (wrap .i64 ((x3.n:Int)-1)).toNat)⟩ al0)));obtain⟨c24,h⟩:=C9 h;obtain⟨y6,e8,h⟩:=A7 h;refine B4 Z [] c24 (BV Z Y e8) ?_;obtain⟨L3,e9,h⟩:=A7 h;refine GP Z Fc [44000] [4,3] 905 (λz3=>⟨[(4,pN x4),(3,.reg 4000 0)],[(4500,oV Gv 7 D6 z3 false),(4000,.cells [.vec 4500])]⟩) (idl:=[(4000,4000),(4500,4508)]) h (AX Z Y e9) (λ_=>by kernel_rfl) (λ_=>by kernel_rfl) (λ_=>by kernel_rfl) (λ_=>by kernel_rfl) (λx7 _ m z3 o h=>?_) (λz3 h=>?_)
  .refine Kc Z Fc ?_;refine Va Z Fc 10000 (D6 x7.2) ?_;refine F6 Z Fc [(0,.l [4000]),(1,.n),(2,.l [4500]),(4,.a [51000,4500]),(5,.l [51000]),(6,.a [51000]),(7,.a [4000])] ?_;refine N3 Ik (x:=.sl true 7 1 (G9 [pI .i64 0,pI .u32 0,pI .u32 0,.v (.bool false),pI .i64 0,pI .i64 0,C7] [(0,[pI .i64 0,pI .u32 0,pI .u32 0,.v (.bool false),pI .i64 0,pI .i64 0,C7])])) ?_;obtain⟨c27,h⟩:=C9 h;refine D2 (Kf (Kf c27.1.1 c27.1.2) (Kf (rfl:(7:Nat)=7) (Kf c27.2 Ik))) ?_;exact o _ [(905,905),(4000,4000),(4500,51000)] _ ((z3.push Pat.nil).upd (z3.n:Int).toNat x7.2) Fc h (hle:=klR [(0,.fn (z3.n+1) ((z3.push Pat.nil).upd (z3.n:Int).toNat x7.2).n (λl=>if l=(z3.n:Int).toNat then splice (Fy z3.n (λi=>D6 (z3.g i)) (G9 [pI .i64 0,pI .u32 0,pI .u32 0,.v (.bool false),pI .i64 0,pI .i64 0,C7] [(0,[pI .i64 0,pI .u32 0,pI .u32 0,.v (.bool false),pI .i64 0,pI .i64 0,C7])]) l) 0 [pI .i64 x7.2.Kind,pI .u32 x7.2.Is.Plus,pI .u32 x7.2.Is.Minus,.bb x7.2.Not,pI .i64 x7.2.Min,pI .i64 x7.2.Max,.sl false 7 x7.2.L.n (EC x7.2)]else (Fy z3.n (λi=>D6 (z3.g i)) (G9 [pI .i64 0,pI .u32 0,pI .u32 0,.v (.bool false),pI .i64 0,pI .i64 0,C7] [(0,[pI .i64 0,pI .u32 0,pI .u32 0,.v (.bool false),pI .i64 0,pI .i64 0,C7])])) l) (λi=>D6 (((z3.push Pat.nil).upd (z3.n:Int).toNat x7.2).g i)))] (al1 ⟨rfl,setH (c:=D6) (v:=z3.push Pat.nil) (x:=x7.2) (app1H (c:=D6) (v:=z3) (z:=Pat.nil) same rfl) (λ_=>by simp[Fy,G9,splice])⟩ al0))
  exact j _ [(4000,4000),(4501,4500)] _ z3 (wrap .i64 (x4+1)) Fc h
 cases h;exact kR Z
def AY (N:Nat)(b:Pat)(a:Sl Jb):Option ((Nat->Int)×Int):= (Az N b).bind λy1=>if (y1 != 0) then some (λ_=>0,y1) else if (decide (32<(a.n:Int))) then some (λ_=>0,11) else (B6 N a (λ(u1:Jb)=>W4 N u1)).bind λy2=>if y2 then some (λ_=>0,14) else (BS N b).bind λy3=>(BU N y3 a).bind λy4=>some (y4,0)
theorem Ls {a:Pat}{b:Sl Jb}{y:(Nat->Int)×Int}(h:AY N a b=some y) :FunO S Lo [.p (.agg (D6 a)),.p (vSl 2 A0 b)] [] (.tup [.p (.agg (cA 33 (pI .u64) y.1)),pN y.2]) ([]) []:=by
 unfold AY at h;refine A2 Z func219 ?_;refine kC Z h (Iy Z Y) (λy1 h=>?_);apply kI Z h<;>intro h
 .obtain rfl:=B0 h;exact J6 Z (Kf rfl (G8 _ _):(0:Nat)=0/\(Ed 33 (λi=>pI .u64 ((λ_=>0) i))).length=33) ⟨[(5,pN y1),(4,.reg 5000 0)],[(5000,.arr 33 (λi=>pI .u64 ((λ_=>0) i)))]⟩ [] (ids:=[(5000,5000)]) ⟨rfl,rfl,rfl⟩ (hle:=kl1 1 (Mx 33 (λi=>pI .u64 ((λ_=>0) i))))
 apply kI Z h<;>intro h
 .obtain rfl:=B0 h;exact J6 Z (Kf rfl (G8 _ _):(0:Nat)=0/\(Ed 33 (λi=>pI .u64 ((λ_=>0) i))).length=33) ⟨[(5,pN 11),(4,.reg 5000 0)],[(5000,.arr 33 (λi=>pI .u64 ((λ_=>0) i)))]⟩ [] (ids:=[(5000,5000)]) ⟨rfl,rfl,rfl⟩ (hle:=kl1 1 (Mx 33 (λi=>pI .u64 ((λ_=>0) i))))
 refine kC Z h (N1 Z Y (λe=>Px Z Y e)) (λy2 h=>?_);apply kI Z h<;>intro h
 .obtain rfl:=B0 h;exact J6 Z (Kf rfl (G8 _ _):(0:Nat)=0/\(Ed 33 (λi=>pI .u64 ((λ_=>0) i))).length=33) ⟨[(5,pN 14),(4,.reg 5000 0)],[(5000,.arr 33 (λi=>pI .u64 ((λ_=>0) i)))]⟩ [] (ids:=[(5000,5000)]) ⟨rfl,rfl,rfl⟩ (hle:=kl1 1 (Mx 33 (λi=>pI .u64 ((λ_=>0) i))))
 refine kC Z h (QC Z Y) (λy3 h=>?_);obtain⟨y4,e4,h⟩:=A7 h;refine NF Z Fc (An6 Z Y e4) ?_;obtain rfl:=B0 h;exact J6 Z (Kf rfl (G8 _ _):(0:Nat)=0/\(Ed 33 (λi=>pI .u64 (y4 i))).length=33) ⟨[(5,pN 0),(4,.reg 5000 0)],[(5000,.arr 33 (λi=>pI .u64 (y4 i)))]⟩ [] (ids:=[(5000,5000)]) ⟨rfl,rfl,rfl⟩ (hle:=kl1 1 (Mx 33 (λi=>pI .u64 (y4 i))))
def CT (N:Nat)(d:Pat)(c:Sl Jb)(a:Int):Option ((Sl Int)×Int):= (AY N d c).bind λy1=>lt (λ(z1:Int)=>if (z1 != 0) then some (Ir,z1) else BA N (λb (x2:Sl Int) (x3:Int)=>if (decide (x3<(wrap .i64 ((c.n:Int)+1)))) then if ((((0:Int)<=x3/\x3<33)/\(0+x3.toNat*1)<33)/\(0:Int)<=a)then if ((P2 .and .u64 (shI .shr .u64 (y1.1 (0+x3.toNat*1)) a) 1)==1) then if (Ke 8 (x2.n+(Sl.of [x3]:Sl Int).n))then b (x2.push x3) (wrap .i64 (x3+1)) else none else b x2 (wrap .i64 (x3+1)) else none else some (x2,0)) Ir 0) λk1=>if (y1.2==0) then (AU N c a).bind λy3=>k1 y3 else k1 y1.2
theorem Ts {d:Pat}{c:Sl Jb}{a:Int}{y:(Sl Int)×Int}(h:CT N d c a=some y) :FunO S Ln [.p (.agg (D6 d)),.p (vSl 2 A0 c),pN a] [] (.tup [.vec 0,pN y.2]) ([oV D9 1 (cI .i64) y.1 true]) []:=by
 unfold CT at h;refine A2 Z func215 ?_;refine kC Z h (Ls Z Y) (λy1 h=>?_);refine Mv Z (Kf rfl (G8 _ _):(0:Nat)=0/\(Ed 33 (λi=>pI .u64 (y1.1 i))).length=33) (A4 Z) h 0 (λz1=>⟨[(9,pN z1),(8,.reg 9000 0),(2,pN a),(1,.p (vSl 2 A0 c))],[(9000,.arr 33 (λi=>pI .u64 (y1.1 i)))]⟩) (λM1 k1 f h=>?_) (λz1 h=>?_)
 .apply kI Z h<;>intro h
  .refine kC Z h (Lr Z Y) (λy3 h=>?_);exact f _ [(9000,9000)] _ y3 Fc h (hle:=kl1 3 (Mx 33 (λi=>pI .u64 (y1.1 i))))
  exact f _ [(9000,9000)] _ y1.2 Fc h (hle:=kl1 3 (Mx 33 (λi=>pI .u64 (y1.1 i))))
 apply kI Z h<;>intro h
 .obtain rfl:=B0 h;exact kO Z Fc [7700]
 refine H4 Z Fc h (λx2 x3=>⟨[(29,pN x3),(28,pN (wrap .i64 ((c.n:Int)+1))),(10,.vec 11500),(8,.reg 9000 0),(2,pN a)],[(11500,oV D9 1 (cI .i64) x2 false),(9000,.arr 33 (λi=>pI .u64 (y1.1 i)))]⟩) (ids:=[(9000,9000)]) (λ_ _ _ _ _ j x2 x3 g h=>?_);apply kI Z h<;>intro h
 .obtain⟨c12,h⟩:=C9 h;refine C8 Z c12 (b:=(P2 .and .u64 (shI .shr .u64 (y1.1 (0+x3.toNat*1)) a) 1)==1) (λc13=>?_) (λc13=>?_)
  .replace h:=itT c13 h;obtain⟨c14,h⟩:=C9 h;exact g _ [(9000,9000),(11500,43000)] _ (x2.push x3) (wrap .i64 (x3+1)) (Kf Iq c14) h (hle:=kl1 3 (X5 (cI .i64) x2 x3 [pI .i64 0]))
  replace h:=itF c13 h;exact g _ (Jy [9000,11500]) _ x2 (wrap .i64 (x3+1)) Fc h
 obtain rfl:=B0 h;exact kO Z Fc [11500]
def J4 (N:Nat)(a:List (Int)):Option (Sl Int):= T1 a (λb (x1:Int) (z1:Sl Int)=>if (Ke 8 (z1.n+(Sl.of [x1]:Sl Int).n))then b (z1.push x1) else none) (λ(z1:Sl Int)=>some z1) Ir
theorem DR {b:List (Int)}{a:Int}{kp_seq:Nat}(fp_seq:∃fn,Bf6[kp_seq]? = some fn/\fn.body.isSome=true/\(fn.name == "runtime.NumGoroutine")=false)(c:EU S kp_seq [] [.reg 0 0] [(.cells [(.p (pI .u64 a))])] (b.map (λ(x:Int)=>[(pI .i64) x]))){y:(Sl Int)}(h:J4 N b=some y) :FunO S P9 [(.p C7),(.clo kp_seq [] [(.reg 0 0)])] [(.cells [(.p (pI .u64 a))])] (.vec 0) ([(oV D9 1 (cI .i64) y true)]) [false]:=by
 unfold J4 at h;refine A2 Z func175 ?_;refine ND Z Fc fp_seq [0] [2] 901 (λz1=>⟨[(2,(.reg 3000 0))],[(3500,(oV D9 1 (cI .i64) z1 false)),(3000,(.cells [(.vec 3500)]))]⟩) (idl:=[(3000,3000)]) h c (λ_=>by kernel_rfl) (λ_=>by kernel_rfl) (λ_=>by kernel_rfl) (λ_=>by kernel_rfl) (λx1 _ d z1 f h=>?_) (λz1 h=>?_)
 .refine Kc Z Fc ?_;obtain⟨c1,h⟩:=C9 h;exact f _ [(901,901),(3000,3000),(3500,12000)] _ (z1.push x1) (Kf Iq c1) h (hle:=kl1 0 (X5 (cI .i64) z1 x1 [(pI .i64 0)]))
 obtain rfl:=B0 h;exact kO Z Fc [3500]
def P1 (N:Nat)(a:List (Int)):Option (Sl Int):= (J4 N a).bind λy1=>some y1
theorem Iz {b:List (Int)}{a:Int}{kp_seq:Nat}(fp_seq:∃fn,Bf6[kp_seq]? = some fn/\fn.body.isSome=true/\(fn.name == "runtime.NumGoroutine")=false)(c:EU S kp_seq [] [.reg 0 0] [(.cells [(.p (pI .u64 a))])] (b.map (λ(x:Int)=>[(pI .i64) x]))){y:(Sl Int)}(h:P1 N b=some y) :FunO S Bm [(.clo kp_seq [] [(.reg 0 0)])] [(.cells [(.p (pI .u64 a))])] (.vec 0) ([(oV D9 1 (cI .i64) y true)]) [false]:=by unfold P1 at h;refine A2 Z func138 ?_;obtain⟨y1,e1,h⟩:=A7 h;refine B4 Z [0] Fc (DR Z Y fp_seq c e1) ?_;obtain rfl:=B0 h;exact kO Z Fc [5000]
def Fj (N:Nat)(c:Pat)(b:Sl Jb)(a:Int):Option ((Sl Int)×Int):= (AY N c b).bind λy1=>lt (λ(z1:Int)=>if (z1 != 0) then some (Ir,z1) else if (((0:Int)<=a/\a<33)/\(0+a.toNat*1)<33)then (BQ N (y1.1 (0+a.toNat*1))).bind λy4=>(T3 N y4).bind λL1=>(P1 N L1).bind λy5=>some (y5,0) else none) λk1=>if (y1.2==0) then (AU N b a).bind λy3=>k1 y3 else k1 y1.2
theorem XN {b:Pat}{c:Sl Jb}{a:Int}{y:(Sl Int)×Int}(h:Fj N b c a=some y) :FunO S Pk [.p (.agg (D6 b)),.p (vSl 2 A0 c),pN a] [] (.tup [.vec 0,pN y.2]) ([oV D9 1 (cI .i64) y.1 true]) []:=by
 unfold Fj at h;refine A2 Z func216 ?_;refine kC Z h (Ls Z Y) (λy1 h=>?_);refine Mv Z (Kf rfl (G8 _ _):(0:Nat)=0/\(Ed 33 (λi=>pI .u64 (y1.1 i))).length=33) (A4 Z) h 0 (λz1=>⟨[(9,pN z1),(8,.reg 9000 0),(2,pN a)],[(9000,.arr 33 (λi=>pI .u64 (y1.1 i)))]⟩) (λM1 k1 d h=>?_) (λz1 h=>?_)
 .apply kI Z h<;>intro h
  .refine kC Z h (Lr Z Y) (λy3 h=>?_);exact d _ [(9000,9000)] _ y3 Fc h (hle:=kl1 2 (Mx 33 (λi=>pI .u64 (y1.1 i))))
  exact d _ [(9000,9000)] _ y1.2 Fc h (hle:=kl1 2 (Mx 33 (λi=>pI .u64 (y1.1 i))))
 apply kI Z h<;>intro h
 .obtain rfl:=B0 h;exact kO Z Fc [7700]
 obtain⟨c5,h⟩:=C9 h;obtain⟨y4,e4,h⟩:=A7 h;refine B4 Z [] c5 (FX Z Y e4) ?_;obtain⟨L1,e5,h⟩:=A7 h;obtain⟨y5,e6,h⟩:=A7 h;refine B4 Z [28000] Fc (Iz Z Y ⟨_,func224,by decide +kernel,by decide +kernel⟩ (El Z Y e5) e6) ?_;obtain rfl:=B0 h;exact kO Z Fc [29000]
end Go.AM
namespace Go.AM
open Go.Proofs.Tryz
variable {N:Nat}
open IntKind (wrap)
open Go.Proofs
set_option maxRecDepth 10000
set_option maxHeartbeats 2000000
variable {S:V2}(Z:G7 S Tryz.prog) (Y:Kk S)
include Z Y
def Dp (N:Nat)(a:Str):Option Bool:= lt (λ(z1:Bool)=>some z1) λk1=>if ((a==[]) != true) then if (decide ((a.length:Int)<=24)) then (DB N a [97,98,99,100,101,102,103,104,105,106,107,108,109,110,111,112,113,114,115,116,117,118,119,120,121,122,65,66,67,68,69,70,71,72,73,74,75,76,77,78,79,80,81,82,83,84,85,86,87,88,89,90,48,49,50,51,52,53,54,55,56,57,45]).bind λy2=>k1 ((y2==[]) != false) else k1 false else k1 false
theorem XO {b:Str}{y:Bool}(h:Dp N b=some y) :FunO S Pa [.p (.str b)] [] (pB y) ([]) []:=by
 unfold Dp at h;refine A2 Z func86 ?_;refine Mv Z Fc (A4 Z) h 0 (λz1=>⟨[(2,pB z1)],[]⟩) (λM1 k1 a h=>?_) (λz1 h=>?_)
 .refine kG Z h (λh=>?_) (λh=>?_)
  .refine kG Z h (λh=>?_) (λh=>?_)
   .refine kC Z h (JG Z Y) (λy2 h=>?_);exact a _ [] _ ((y2==[]) != false) Fc h
   exact a _ [] _ false Fc h
  exact a _ [] _ false Fc h
 cases h;exact kR Z
def AZ (N:Nat)(p_x:Ei)(a:Int):Option Bool:= lt (λ(z1:Bool)=>if z1 then some false else if ((((P2 .andNot .u32 (P2 .or .u32 p_x.Clear p_x.Take) 16777215) != 0)||((P2 .and .u32 p_x.Clear (P2 .or .u32 p_x.Set.Plus p_x.Set.Minus)) != 0))||((P2 .and .u32 p_x.Take (P2 .or .u32 (P2 .or .u32 p_x.Set.Plus p_x.Set.Minus) p_x.Clear)) != 0)) then some false else if (p_x.Take==0) then some (p_x.Of==0) else some ((decide (0<=p_x.Of))&&(decide (p_x.Of<a)))) λk1=>if (decide (p_x.From<(-1))) then k1 true else if (decide (a<=p_x.From)) then k1 true else (H7 N p_x.Set).bind λy2=>k1 (!y2)
theorem Ad4 {p_x:Ei}{b:Int}{y:Bool}(h:AZ N p_x b=some y) :FunO S RC [.p (.agg (Aq p_x)),pN b] [] (pB y) ([]) []:=by
 unfold AZ at h;refine A2 Z func83 ?_;refine Mv Z Fc (A4 Z) h 0 (λz1=>⟨[(13,pB z1),(5,pU (P2 .or .u32 p_x.Set.Plus p_x.Set.Minus)),(2,.reg 3000 0),(1,pN b)],[(3000,.cells ((Aq p_x).map .p))]⟩) (λM1 k1 c h=>?_) (λz1 h=>?_)
 .refine kG Z h (λh=>?_) (λh=>?_)
  .exact c _ [(3000,3000)] _ true Fc h
  refine kG Z h (λh=>?_) (λh=>?_)
  .exact c _ [(3000,3000)] _ true Fc h
  refine kC Z h (Q9 Z Y) (λy2 h=>?_);exact c _ [(3000,3000)] _ (!y2) Fc h
 apply kI Z h<;>intro h
 .cases h;exact kR Z
 refine kB Z (A4 Z) Fc Fc 16 (.o (.o (.a ((P2 .andNot .u32 (P2 .or .u32 p_x.Clear p_x.Take) 16777215) != 0)) (.a ((P2 .and .u32 p_x.Clear (P2 .or .u32 p_x.Set.Plus p_x.Set.Minus)) != 0))) (.a ((P2 .and .u32 p_x.Take (P2 .or .u32 (P2 .or .u32 p_x.Set.Plus p_x.Set.Minus) p_x.Clear)) != 0))) ?_;apply kI Z h<;>intro h
 .cases h;exact kR Z
 apply kI Z h<;>intro h
 .cases h;exact kR Z
 refine kB Z (A4 Z) Fc Fc 5 (.n (.a (decide (0<=p_x.Of))) (.a (decide (p_x.Of<b)))) ?_;cases h;exact kR Z
def Ba (N:Nat)(p_x:Ei)(q0:Int):Option Bool:= (AZ N p_x q0).bind λy1=>some (!y1)
theorem Tt {p_x:Ei}{q0:Int}{y:Bool}(h:Ba N p_x q0=some y) :FunO S Lh [.p (.agg (Aq p_x)),.reg 0 0] [.cells [pN q0]] (pB y) ([.cells [pN q0]]) [true]:=by unfold Ba at h;refine A2 Z func82 ?_;refine kC Z h (Ad4 Z Y) (λy1 h=>?_);obtain rfl:=B0 h;exact kO Z Fc [0]
def Bb (N:Nat)(a:Jb):Option Bool:= (H7 N a).bind λy1=>some (!y1)
theorem Tu {a:Jb}{y:Bool}(h:Bb N a=some y) :FunO S Li [.p (.agg (A0 a))] [] (pB y) ([]) []:=by unfold Bb at h;refine A2 Z func84 ?_;refine kC Z h (Q9 Z Y) (λy1 h=>?_);cases h;exact kR Z
def F9 (N:Nat)(a:Sl Ei)(c:Ei->Option Bool):Option Int:= X4 N (λb (x1:Int)=>if (decide (x1<(a.n:Int))) then if ((0:Int)<=x1/\x1<(a.n:Int))then (c (a.g x1.toNat)).bind λy3=>if y3 then some x1 else b (wrap .i64 (x1+1)) else none else some (-1)) 0
theorem Bu {c:Sl Ei}{d:Ei->Option Bool}{a:Int}{kp_f:Nat}(f:∀{a0:Ei}{b:Bool},d a0=some b->FunO S kp_f [.p (.agg (Aq a0)),.reg 0 0] [.cells [pN a]] (pB b) [.cells [pN a]] [true]){y:Int}(h:F9 N c d=some y) :FunO S Q3 [.p (vSl 6 Aq c),.clo kp_f [] [.reg 0 0]] [.cells [pN a]] (pN y) ([.cells [pN a]]) [true]:=by
 unfold F9 at h;refine A2 Z func133 ?_;refine Q0 Z Fc h (λx1=>⟨[(8,pN x1),(7,pN (c.n:Int)),(1,.clo kp_f [] [.reg 0 0]),(0,.p (vSl 6 Aq c))],[(0,.cells [pN a])]⟩) (ids:=[(0,0)]) (λ_ _ _ _ _ g x1 i h=>?_);apply kI Z h<;>intro h
 .obtain⟨c8,h⟩:=C9 h;obtain⟨y3,e3,h⟩:=A7 h;refine B4 Z [0] (Kf c8 (by decide:(6:Nat)<=6)) (f e3) ?_;apply kI Z h<;>intro h
  .obtain rfl:=B0 h;exact kO Z Fc [0]
  exact i _ [(0,0)] _ (wrap .i64 (x1+1)) Fc h
 obtain rfl:=B0 h;exact kO Z Fc [0]
def D4 (N:Nat)(a:Sl Ei)(b:Ei->Option Bool):Option Bool:= (F9 N a b).bind λy1=>some (decide (0<=y1))
theorem Ak {c:Sl Ei}{d:Ei->Option Bool}{a:Int}{kp_f:Nat}(f:∀{a0:Ei}{b:Bool},d a0=some b->FunO S kp_f [.p (.agg (Aq a0)),.reg 0 0] [.cells [pN a]] (pB b) [.cells [pN a]] [true]){y:Bool}(h:D4 N c d=some y) :FunO S O5 [.p (vSl 6 Aq c),.clo kp_f [] [.reg 0 0]] [.cells [pN a]] (pB y) ([.cells [pN a]]) [true]:=by unfold D4 at h;refine A2 Z func89 ?_;obtain⟨y1,e1,h⟩:=A7 h;refine B4 Z [0] Fc (Bu Z Y (λe=>f e) e1) ?_;obtain rfl:=B0 h;exact kO Z Fc [0]
def AA (N:Nat)(a:Law):Option Int:= (Dp N a.Name).bind λy1=>if (!y1) then some 17 else (Az N a.Left).bind λy2=>if (y2 != 0) then some 17 else (Az N a.Right).bind λy3=>if (y3 != 0) then some 17 else if (decide (4<(a.If.n:Int))) then some 17 else if (decide (6<(a.Out.n:Int))) then some 17 else if ((wrap .i64 ((a.If.n:Int)+(a.Out.n:Int)))==0) then some 17 else if ((decide (a.Mode<1))||(decide (3<a.Mode))) then some 17 else (B6 N a.If (λ(u1:Jb)=>Bb N u1)).bind λy4=>if y4 then some 17 else (D4 N a.Out (λ(u2:Ei)=>Ba N u2 (a.If.n:Int))).bind λy5=>if y5 then some 17 else some 0
theorem GY {c:Law}{y:Int}(h:AA N c=some y) :FunO S OV [.p (.agg (B3 c))] [] (pN y) ([]) []:=by
 unfold AA at h;refine A2 Z func52 ?_;refine kC Z h (XO Z Y) (λy1 h=>?_);refine C8 Z Fc (b:=!y1) (λc1=>?_) (λc1=>?_)
 .replace h:=itT c1 h;refine C8 Z Fc (b:=!y1) (λc2=>?_) (λc2=>?_)
  .cases h;exact kR Z
  exact Bool.noConfusion (c1.symm.trans c2)
 replace h:=itF c1 h;refine kC Z h (Iy Z Y) (λy2 h=>?_);refine C8 Z Fc (b:=y2 != 0) (λc3=>?_) (λc3=>?_)
 .replace h:=itT c3 h;refine C8 Z Fc (b:=y2 != 0) (λc4=>?_) (λc4=>?_)
  .cases h;exact kR Z
  exact Bool.noConfusion (c3.symm.trans c4)
 replace h:=itF c3 h;refine kC Z h (Iy Z Y) (λy3 h=>?_);refine C8 Z Fc (b:=y3 != 0) (λc5=>?_) (λc5=>?_)
 .replace h:=itT c5 h;refine C8 Z Fc (b:=y3 != 0) (λc6=>?_) (λc6=>?_)
  .cases h;exact kR Z
  exact Bool.noConfusion (c5.symm.trans c6)
 replace h:=itF c5 h;refine C8 Z Fc (b:=decide (4<(c.If.n:Int))) (λc7=>?_) (λc7=>?_)
 .replace h:=itT c7 h;refine C8 Z Fc (b:=decide (4<(c.If.n:Int))) (λc8=>?_) (λc8=>?_)
  .cases h;exact kR Z
  exact Bool.noConfusion (c7.symm.trans c8)
 replace h:=itF c7 h;refine C8 Z Fc (b:=decide (6<(c.Out.n:Int))) (λc9=>?_) (λc9=>?_)
 .replace h:=itT c9 h;refine C8 Z Fc (b:=decide (6<(c.Out.n:Int))) (λc10=>?_) (λc10=>?_)
  .cases h;exact kR Z
  exact Bool.noConfusion (c9.symm.trans c10)
 replace h:=itF c9 h;refine C8 Z Fc (b:=(wrap .i64 ((c.If.n:Int)+(c.Out.n:Int)))==0) (λc11=>?_) (λc11=>?_)
 .replace h:=itT c11 h;refine C8 Z Fc (b:=(wrap .i64 ((c.If.n:Int)+(c.Out.n:Int)))==0) (λc12=>?_) (λc12=>?_)
  .cases h;exact kR Z
  exact Bool.noConfusion (c11.symm.trans c12)
 replace h:=itF c11 h;refine kB Z (A4 Z) Fc Fc 4 (.o (.a (decide (c.Mode<1))) (.a (decide (3<c.Mode)))) ?_;refine C8 Z Fc (b:=(decide (c.Mode<1))||(decide (3<c.Mode))) (λc13=>?_) (λc13=>?_)
 .replace h:=itT c13 h;refine C8 Z Fc (b:=(decide (c.Mode<1))||(decide (3<c.Mode))) (λc14=>?_) (λc14=>?_)
  .cases h;exact kR Z
  exact Bool.noConfusion (c13.symm.trans c14)
 replace h:=itF c13 h;refine kC Z h (N1 Z Y (λe=>Tu Z Y e)) (λy4 h=>?_);refine C8 Z Fc (b:=y4) (λc15=>?_) (λc15=>?_)
 .replace h:=itT c15 h;refine C8 Z Fc (b:=y4) (λc16=>?_) (λc16=>?_)
  .cases h;exact kR Z
  exact Bool.noConfusion (c15.symm.trans c16)
 replace h:=itF c15 h;obtain⟨y5,e5,h⟩:=A7 h;refine B4 Z [4000] Fc (Ak Z Y (λe=>Tt Z Y e) e5) ?_;apply kI Z h<;>intro h
 .cases h;exact kR Z
 cases h;exact kR Z
def Fk (N:Nat)(a:Law)(b:Sl Jb):Option Int:= (AA N a).bind λy1=>if (y1 != 0) then some y1 else (W8 N b).bind λy2=>some y2
theorem XP {a:Law}{b:Sl Jb}{y:Int}(h:Fk N a b=some y) :FunO S Pj [.p (.agg (B3 a)),.p (vSl 2 A0 b)] [] (pN y) ([]) []:=by
 unfold Fk at h;refine A2 Z func199 ?_;refine kC Z h (GY Z Y) (λy1 h=>?_);apply kI Z h<;>intro h
 .cases h;exact kR Z
 refine kC Z h (DP Z Y) (λy2 h=>?_);cases h;exact kR Z
def Z8 (N:Nat)(a:Int)(q0:Law)(q1:Sl Jb):Option Bool:= (CT N q0.Left q1 a).bind λy1=>if ((y1.1.n:Int)==0) then some false else (Fj N q0.Right q1 (wrap .i64 (a+(q0.If.n:Int)))).bind λy2=>some (decide (0<(y2.1.n:Int)))
theorem QD {a:Int}{q0:Law}{q1:Sl Jb}{y:Bool}(h:Z8 N a q0 q1=some y) :FunO S BN [pN a,.reg 0 0,.reg 1 0] [.cells ((B3 q0).map .p),.cells [.p (vSl 2 A0 q1)]] (pB y) ([.cells ((B3 q0).map .p),.cells [.p (vSl 2 A0 q1)]]) [true,true]:=by
 unfold Z8 at h;refine A2 Z func214 ?_;refine kC Z h (Ts Z Y) (λy1 h=>?_);apply kI Z h<;>intro h
 .obtain rfl:=B0 h;exact kO Z Fc [0,1]
 refine kC Z h (XN Z Y) (λy2 h=>?_);obtain rfl:=B0 h;exact kO Z Fc [0,1]
def IA (N:Nat)(a:Law)(b:Sl Jb):Option (Law×(Sl Jb)):= some (a,b)
theorem VL {a:Law}{b:Sl Jb}{y:Law×(Sl Jb)}(h:IA N a b=some y) :FunO S MR [.p (.agg (B3 a)),.p (vSl 2 A0 b)] [] (.clo BN [] [.reg 0 0,.reg 1 0]) ([.cells ((B3 y.1).map .p),.cells [.p (vSl 2 A0 y.2)]]) []:=by unfold IA at h;refine A2 Z func209 ?_;obtain rfl:=B0 h;exact kO Z Fc [3000,4000]
def DS (N:Nat)(a:Law)(b:Sl Jb):Option (Sl Jb):= BA N (λc (x1:Sl Jb) (x2:Int)=>if (decide (x2<(a.Out.n:Int))) then if ((0:Int)<=x2/\x2<(a.Out.n:Int))then if ((decide (0<=(a.Out.g x2.toNat).From))=true->((0:Int)<=(a.Out.g x2.toNat).From/\(a.Out.g x2.toNat).From<(b.n:Int)))then (Z7 N (⟨(if (decide (0<=(a.Out.g x2.toNat).From)) then (b.g (a.Out.g x2.toNat).From.toNat).Plus else 0),(if (decide (0<=(a.Out.g x2.toNat).From)) then (b.g (a.Out.g x2.toNat).From.toNat).Minus else 0)⟩:Jb) (a.Out.g x2.toNat).Clear (a.Out.g x2.toNat).Set).bind λy5=>if ((a.Out.g x2.toNat).Take != 0) then if ((0:Int)<=(a.Out.g x2.toNat).Of/\(a.Out.g x2.toNat).Of<(b.n:Int))then (Cz N y5.1 (b.g (a.Out.g x2.toNat).Of.toNat) (a.Out.g x2.toNat).Take).bind λy6=>if (Ke 8 (x1.n+(Sl.of [y6.1]:Sl Jb).n))then c (x1.push y6.1) (wrap .i64 (x2+1)) else none else none else if (Ke 8 (x1.n+(Sl.of [y5.1]:Sl Jb).n))then c (x1.push y5.1) (wrap .i64 (x2+1)) else none else none else none else some x1) (Sl.nil:Sl Jb) 0
theorem VM {c:Law}{a:Sl Jb}{y:Sl Jb}(h:DS N c a=some y) :FunO S VC [.p (.agg (B3 c)),.p (vSl 2 A0 a)] [] (.p (vSl 2 A0 y)) ([]) []:=by
 unfold DS at h;refine A2 Z func205 ?_;refine F8 Z Fc 4 3000 (B3 c) ?_;refine H4 Z Fc h (λx1 x2=>⟨[(12,pN x2),(11,pN (c.Out.n:Int)),(10,.p (vSl 6 Aq c.Out)),(5,.vec 6500),(1,.p (vSl 2 A0 a))],[(6500,oV B5 2 A0 x1 false)]⟩) (ids:=[]) (λ_ _ _ _ _ l x1 x2 i h=>?_);apply kI Z h<;>intro h
 .obtain⟨c16,h⟩:=C9 h;refine F8 Z (Kf c16 (by decide:(6:Nat)<=6)) 8 8000 (Aq (c.Out.g x2.toNat)) ?_;obtain⟨c18,h⟩:=C9 h;obtain⟨t5,d⟩:∃x:Int,x=(if (decide (0<=(c.Out.g x2.toNat).From)) then (a.g (c.Out.g x2.toNat).From.toNat).Plus else 0):=⟨_,rfl⟩;obtain⟨t6,f⟩:∃x:Int,x=(if (decide (0<=(c.Out.g x2.toNat).From)) then (a.g (c.Out.g x2.toNat).From.toNat).Minus else 0):=⟨_,rfl⟩;refine Xi Z Fc (A4 Z) 0 ⟨[(12,pN x2),(11,pN (c.Out.n:Int)),(10,.p (vSl 6 Aq c.Out)),(8,.reg 9000 0),(7,.p (.ptr (Aq (c.Out.g x2.toNat)))),(5,.vec 6500),(1,.p (vSl 2 A0 a))],[(9000,.cells [pU t5,pU t6]),(6500,oV B5 2 A0 x1 false)]⟩ (λM3 j=>?_) ?_
  .refine C8 Z Fc (b:=decide (0<=(c.Out.g x2.toNat).From)) (λc19=>?_) (λc19=>?_)
   .exact j _ (Jy [6500,9000]) _ (Kf (c18 c19) Gp) (hle:=klR [(5,.eq (pI .u32 (a.g (c.Out.g x2.toNat).From.toNat).Plus) (pI .u32 t5)),(6,.eq (pI .u32 (a.g (c.Out.g x2.toNat).From.toNat).Minus) (pI .u32 t6))] (al1 (by simp only[d,f,c19,Leaf.ok,pm,Eu,Ev]) (al1 (by simp only[d,f,c19,Leaf.ok,pm,Eu,Ev]) al0)))
   exact j _ (Jy [6500,9000]) _ Fc (hle:=klR [(5,.eq (pI .u32 0) (pI .u32 t5)),(6,.eq (pI .u32 0) (pI .u32 t6))] (al1 (by simp only[d,f,c19,Leaf.ok,pm,Eu,Ev]) (al1 (by simp only[d,f,c19,Leaf.ok,pm,Eu,Ev]) al0)))
  subst f;subst d;obtain⟨y5,e5,h⟩:=A7 h;refine B4 Z [] (by decide:(2:Nat)<=4) (Qy Z Y e5) ?_;apply kI Z h<;>intro h
  .refine E5 Z Fc [3,4,5,7,8] ?_;obtain⟨c21,h⟩:=C9 h;obtain⟨y6,e6,h⟩:=A7 h;refine G4 (Kf c21 Gp) (VH Z Y e6) ?_;refine D2 Fc ?_;obtain⟨c22,h⟩:=C9 h;exact i _ [(6500,52000)] _ (x1.push y6.1) (wrap .i64 (x2+1)) (Kf Iq c22) h (hle:=kl1 4 (X5 A0 x1 y6.1 [pI .u32 0,pI .u32 0]))
  obtain⟨c23,h⟩:=C9 h;exact i _ [(6500,52000)] _ (x1.push y5.1) (wrap .i64 (x2+1)) (Kf Iq c23) h (hle:=kl1 4 (X5 A0 x1 y5.1 [pI .u32 0,pI .u32 0]))
 obtain rfl:=B0 h;exact kO Z Fc []
def A9 (N:Nat)(a:Sl (Sl Jb)):Option (Sl Jb):= BA N (λb (x1:Int) (x2:Int)=>if (decide (x2<(a.n:Int))) then if ((0:Int)<=x2/\x2<(a.n:Int))then if (decide ((wrap .i64 (x1+((a.g x2.toNat).n:Int)))<0)) then none else b (wrap .i64 (x1+((a.g x2.toNat).n:Int))) (wrap .i64 (x2+1)) else none else (J8 N x1).bind λy1=>BA N (λc (x3:Sl Jb) (x4:Int)=>if (decide (x4<(a.n:Int))) then if (((0:Int)<=x4/\x4<(a.n:Int))/\(Ke 8 (x3.n+(a.g x4.toNat).n)))then c (x3.app (a.g x4.toNat)) (wrap .i64 (x4+1)) else none else some x3) y1 0) 0 0
theorem P6 {a:Sl (Sl Jb)}{y:Sl Jb}(h:A9 N a=some y) :FunO S P3 [.p (vSl 1 (cL 2 A0) a)] [] (.vec 0) ([oV B5 2 A0 y true]) []:=by
 unfold A9 at h;refine A2 Z func204 ?_;refine H4 Z Fc h (λx1 x2=>⟨[(11,pN x2),(10,pN (a.n:Int)),(9,.p (vSl 1 (cL 2 A0) a)),(3,pN x1),(0,.p (vSl 1 (cL 2 A0) a))],[]⟩) (ids:=[]) (λ_ _ _ _ _ c x1 x2 d h=>?_);apply kI Z h<;>intro h
 .obtain⟨c8,h⟩:=C9 h;refine C8 Z c8 (b:=decide ((wrap .i64 (x1+((a.g x2.toNat).n:Int)))<0)) (λc9=>?_) (λc9=>?_)
  .replace h:=itT c9 h;cases h
  replace h:=itF c9 h;exact d _ [] _ (wrap .i64 (x1+((a.g x2.toNat).n:Int))) (wrap .i64 (x2+1)) Fc h
 refine kC Z h (BO Z Y) (λy1 h=>?_);refine H4 Z Fc h (λx3 x4=>⟨[(27,pN x4),(26,pN (a.n:Int)),(25,.p (vSl 1 (cL 2 A0) a)),(6,.vec 7500)],[(7500,oV B5 2 A0 x3 false)]⟩) (ids:=[(7500,25000)]) (λ_ _ _ _ _ f x3 x4 i h=>?_);apply kI Z h<;>intro h
 .obtain⟨c13,h⟩:=C9 h;exact i _ [(7500,34000)] _ (x3.app (a.g x4.toNat)) (wrap .i64 (x4+1)) c13 h (hle:=kl1 3 (appS A0 x3 (a.g x4.toNat)))
 obtain rfl:=B0 h;exact kO Z Fc [7500]
def U0 (N:Nat)(b:Law)(c:Sl Jb)(a:Int):Option (Sl Jb):= if (((0:Int)<=a/\a<=(c.n:Int))/\((0:Int)<=a/\a<=(wrap .i64 (a+(b.If.n:Int)))/\(wrap .i64 (a+(b.If.n:Int)))<=(c.n:Int)))then (DS N b (c.sub a.toNat (wrap .i64 (a+(b.If.n:Int))).toNat)).bind λy1=>if ((0:Int)<=(wrap .i64 (a+(b.If.n:Int)))/\(wrap .i64 (a+(b.If.n:Int)))<=(c.n:Int))then (A9 N (Sl.of [c.take a.toNat,y1,c.drop (wrap .i64 (a+(b.If.n:Int))).toNat]:Sl (Sl Jb))).bind λy2=>some y2 else none else none
theorem Lt {c:Law}{b:Sl Jb}{a:Int}{y:Sl Jb}(h:U0 N c b a=some y) :FunO S Lm [.p (.agg (B3 c)),.p (vSl 2 A0 b),pN a] [] (.vec 0) ([oV B5 2 A0 y true]) []:=by unfold U0 at h;refine A2 Z func207 ?_;refine F8 Z Fc 6 4000 (B3 c) ?_;refine E5 Z Fc [3,8] ?_;obtain⟨c1,h⟩:=C9 h;obtain⟨y1,e1,h⟩:=A7 h;refine G4 (Kf (Kf c1.1 Im) c1.2) (VM Z Y e1) ?_;obtain⟨c2,h⟩:=C9 h;refine N3 c2 (x:=.sl true 1 3 (G9 [C7] [(0,cL 2 A0 (b.take a.toNat)),(1,cL 2 A0 y1),(2,cL 2 A0 (b.drop (wrap .i64 (a+(c.If.n:Int))).toNat))])) ?_;obtain⟨y2,e2,h⟩:=A7 h;refine OA [] Fc (FunO.le Z (args:=[.p (.sl true 1 3 (G9 [C7] [(0,cL 2 A0 (b.take a.toNat)),(1,cL 2 A0 y1),(2,cL 2 A0 (b.drop (wrap .i64 (a+(c.If.n:Int))).toNat))]))]) (by exact⟨KA rfl (λi d=>match i,d with|0,_=>rfl|1,_=>rfl|2,_=>rfl|_+3,d=>Es d (by omega)),trivial⟩) (P6 Z Y e2)) ?_;refine D2 Fc ?_;obtain rfl:=B0 h;exact kO Z Fc [27000]
def AB (N:Nat)(q0:Law)(q1:Sl Jb)(q2:Int):Option (List (Int)):= (IA N q0 q1).bind λy1=>X4 N (λa (x2:Int)=>if (decide ((wrap .i64 (x2+(q0.If.n:Int)))<=(q1.n:Int))) then X4 N (λb (x4:Int)=>if (decide (x4<(q0.If.n:Int))) then if ((0:Int)<=x4/\x4<(q0.If.n:Int))then if ((0:Int)<=(wrap .i64 (x2+x4))/\(wrap .i64 (x2+x4))<(q1.n:Int))then (R9 N (q1.g (wrap .i64 (x2+x4)).toNat) (q0.If.g x4.toNat)).bind λc=>if (!c) then a (wrap .i64 (x2+1)) else b (wrap .i64 (x4+1)) else none else none else (Z8 N x2 y1.1 y1.2).bind λd=>if d then Ah x2 (a (wrap .i64 (x2+1))) else a (wrap .i64 (x2+1))) 0 else some []) q2
theorem MU {q0:Law}{q1:Sl Jb}{q2:Int}{L:List (Int)}(h:AB N q0 q1 q2=some L) :EU S Iu [] [.reg 0 0,.reg 1 0,.reg 2 0] [.cells ((B3 q0).map .p),.cells [.p (vSl 2 A0 q1)],.cells [pN q2]] (L.map (λ(x:Int)=>[pI .i64 x])):=by
 unfold AB at h;refine EB Z func208 ?_;refine kC Z h (VL Z Y) (λy1 h=>?_);refine Dk Z Fc h (λx2 L1=>⟨[(6,pN x2),(5,.clo BN [] [.reg 12000 0,.reg 12001 0]),(2,.reg 1 0),(1,.reg 0 0),(0,.yf 3)],[(12001,.cells [.p (vSl 2 A0 y1.2)]),(12000,.cells ((B3 y1.1).map .p)),(3,.yld (L1.map (λ(x:Int)=>[pI .i64 x])) true),(2,.cells [pN q2]),(1,.cells [.p (vSl 2 A0 q1)]),(0,.cells ((B3 q0).map .p))]⟩) (ids:=(Jy [0,1,2,3,12000,12001])) (λ_ _ _ _ _ f x2 L1 c h=>?_);apply kI Z h<;>intro h
 .refine Dk Z Fc h (λx4 L8=>⟨[(26,pN x4),(25,pN (q0.If.n:Int)),(24,.p (vSl 2 A0 q0.If)),(6,pN x2),(5,.clo BN [] [.reg 12000 0,.reg 12001 0]),(2,.reg 1 0),(1,.reg 0 0),(0,.yf 3)],[(12001,.cells [.p (vSl 2 A0 y1.2)]),(12000,.cells ((B3 y1.1).map .p)),(3,.yld (L8.map (λ(x:Int)=>[pI .i64 x])) true),(2,.cells [pN q2]),(1,.cells [.p (vSl 2 A0 q1)]),(0,.cells ((B3 q0).map .p))]⟩) (ids:=(Jy [0,1,2,3,12000,12001])) (λ_ _ _ _ _ i x4 L8 j h=>?_);apply kI Z h<;>intro h
  .obtain⟨c47,h⟩:=C9 h;refine Va Z (Kf c47 Gp) 9000 [pI .u32 (q0.If.g x4.toNat).Plus,pI .u32 (q0.If.g x4.toNat).Minus] ?_;refine E5 Z Fc [4,5,6,7] ?_;obtain⟨c48,h⟩:=C9 h;obtain⟨l,e12,h⟩:=A7 h;refine G4 (Kf (Kf c48 Gp) Gp) (LZ Z Y e12) ?_;refine D2 Fc ?_;apply kI Z h<;>intro h
   .exact c _ (Jy [0,1,2,3,12000,12001]) _ (wrap .i64 (x2+1)) L8 Fc h
   exact j _ (Jy [0,1,2,3,12000,12001]) _ (wrap .i64 (x4+1)) L8 Fc h
  obtain⟨m,e13,h⟩:=A7 h;refine B4 Z [12000,12001] Fc (QD Z Y e13) ?_;refine kG Z h (λh=>?_) (λh=>?_)
  .obtain⟨L10,rfl,d⟩:=LS h;replace h:=d;refine Dj Z Fc (ys:=(λ(x:Int)=>[pI .i64 x]) x2) (rest:=L10.map (λ(x:Int)=>[pI .i64 x])) ?_ ?_
   .refine C8 Z Fc (b:=false) (λc53=>?_) (λc53=>?_)
    .exact Bool.noConfusion ((rfl:false=false).symm.trans c53)
    exact c _ (Jy [0,1,2,3,12000,12001]) _ (wrap .i64 (x2+1)) L10 Fc h
   refine C8 Z Fc (b:=true) (λc54=>?_) (λc54=>?_)
   .exact kO Z Fc (a:=.tup []) (objs:=[(.cells ((B3 q0).map .p)),.cells [.p (vSl 2 A0 q1)],.cells [pN q2],.yld [] false]) [0,1,2,3] ⟨false,rfl,rfl,_,rfl⟩
   exact Bool.noConfusion (Iq.symm.trans c54)
  exact c _ (Jy [0,1,2,3,12000,12001]) _ (wrap .i64 (x2+1)) L8 Fc h
 obtain rfl:=B0 h;exact kO Z Fc (a:=.tup []) (objs:=[(.cells ((B3 q0).map .p)),.cells [.p (vSl 2 A0 q1)],.cells [pN q2],.yld [] true]) [0,1,2,3] ⟨true,rfl,rfl,_,rfl⟩
def IU (N:Nat)(b:Law)(c:Sl Jb)(a:Int):Option (Law×(Sl Jb)×Int):= some (b,c,a)
theorem RG {b:Law}{c:Sl Jb}{a:Int}{y:Law×(Sl Jb)×Int}(h:IU N b c a=some y) :FunO S RF [.p (.agg (B3 b)),.p (vSl 2 A0 c),pN a] [] (.clo Iu [] [.reg 0 0,.reg 1 0,.reg 2 0]) ([.cells ((B3 y.1).map .p),.cells [.p (vSl 2 A0 y.2.1)],.cells [pN y.2.2]]) []:=by unfold IU at h;refine A2 Z func203 ?_;obtain rfl:=B0 h;exact kO Z Fc [4000,5000,6000]
def DT (N:Nat)(b:Law)(c:Sl Jb)(a:Int):Option Bool:= (IU N b c a).bind λy1=>(AB N y1.1 y1.2.1 y1.2.2).bind λL1=>T1 L1 (λd (x1:Int) (_:Unit)=>some (x1==a)) (λ(_:Unit)=>some false) ()
theorem VN {b:Law}{c:Sl Jb}{a:Int}{y:Bool}(h:DT N b c a=some y) :FunO S VD [.p (.agg (B3 b)),.p (vSl 2 A0 c),pN a] [] (pB y) ([]) []:=by
 unfold DT at h;refine A2 Z func206 ?_;refine kC Z h (RG Z Y) (λy1 h=>?_);obtain⟨L1,e2,h⟩:=A7 h;refine GP Z Fc [12000,12001,12002] [6,5] 901 (λ_=>⟨[(6,.reg 7000 0),(5,.reg 6000 0)],[(7000,.cells [.p (.v (.bool false))]),(6000,.cells [pN a])]⟩) (idl:=(Jy [6000,7000])) h (MU Z Y e2) (λ_=>by kernel_rfl) (λ_=>by kernel_rfl) (λ_=>by kernel_rfl) (λ_=>by kernel_rfl) (λx1 _ d _ f h=>?_) (λ_ h=>?_)
 .refine Kc Z Fc ?_;refine NE Z Fc ⟨[(6,.reg 7000 0),(5,.reg 6000 0)],[(7000,.cells [pB (x1==a)]),(6000,.cells [pN a])]⟩ (ids:=(Jy [901,6000,7000])) ?_;cases h;exact kR Z
 cases h;exact kR Z
def Dq (N:Nat)(q0:Sl Jb)(q1:Law)(q2:Int)(q3:Int):Option (List (Int×(Sl Jb))):= if (q1.Mode==1) then (IU N q1 q0 0).bind λy1=>(AB N y1.1 y1.2.1 y1.2.2).bind λL1=>T1 L1 (λb (x1:Int) (z1:(Sl Jb)×Int×Int)=>if (decide (x1<z1.2.1)) then b (z1.1,z1.2.1,z1.2.2) else if (((0:Int)<=(wrap .i64 (x1+z1.2.2))/\(wrap .i64 (x1+z1.2.2))<=(z1.1.n:Int))/\((0:Int)<=x1/\x1<=(wrap .i64 (x1+q2))/\(wrap .i64 (x1+q2))<=(q0.n:Int)))then (DS N q1 (q0.sub x1.toNat (wrap .i64 (x1+q2)).toNat)).bind λy6=>if ((0:Int)<=(wrap .i64 (x1+q2))/\(wrap .i64 (x1+q2))<=(q0.n:Int))then (A9 N (Sl.of [z1.1.take (wrap .i64 (x1+z1.2.2)).toNat,y6,q0.drop (wrap .i64 (x1+q2)).toNat]:Sl (Sl Jb))).bind λy7=>Ah (x1,y7) (b (y7,wrap .i64 (x1+(if q2<1 then 1 else q2)),wrap .i64 ((wrap .i64 (z1.2.2+q3))-q2))) else none else none) (λ(z1:(Sl Jb)×Int×Int)=>some []) (q0,0,0) else if (q1.Mode==2) then BA N (λa (x5:Sl Jb) (x6:Int)=>if (decide ((wrap .i64 (x6+q2))<=(x5.n:Int))) then (DT N q1 x5 x6).bind λg=>if (!g) then a x5 (wrap .i64 (x6+1)) else (U0 N q1 x5 x6).bind λd=>Ah (x6,d) (if (q2==0) then a d (wrap .i64 ((wrap .i64 (x6+q3))+1)) else a d (wrap .i64 (x6+q3))) else some []) q0 0 else if (q1.Mode==3) then BA N (λc (x7:Sl Jb) (x8:Int)=>if (decide (0<=x8)) then (DT N q1 x7 x8).bind λi=>if (!i) then c x7 (wrap .i64 (x8-1)) else (U0 N q1 x7 x8).bind λf=>Ah (x8,f) (c f (wrap .i64 (x8-(if q2<1 then 1 else q2)))) else some []) q0 (wrap .i64 ((q0.n:Int)-q2)) else some []
theorem XQ {q0:Sl Jb}{q1:Law}{q2:Int}{q3:Int}{L:List (Int×(Sl Jb))}(h:Dq N q0 q1 q2 q3=some L) :EU S Kj [] [.reg 0 0,.reg 1 0,.reg 2 0,.reg 3 0] [.cells [.p (vSl 2 A0 q0)],.cells ((B3 q1).map .p),.cells [pN q2],.cells [pN q3]] (L.map (λ(x:Int×(Sl Jb))=>[pI .i64 x.1,vSl 2 A0 x.2])):=by
 unfold Dq at h;refine EB Z func202 ?_;apply kI Z h<;>intro h
 .refine kC Z h (RG Z Y) (λy1 h=>?_);obtain⟨L1,e2,h⟩:=A7 h;refine Az6 Z Fc [20000,20001,20002] [8,7,6,5,4,3,2,1] 900 (λz1 L2=>⟨[(8,.reg 9000 0),(7,.reg 8000 0),(6,.reg 7000 0),(5,.reg 6000 0),(4,.reg 3 0),(3,.reg 2 0),(2,.reg 1 0),(1,.reg 0 0)],[(9000,.cells [pN z1.2.2]),(8000,.cells [pN z1.2.1]),(7000,.cells [.p (vSl 2 A0 z1.1)]),(6000,.cells [.yf 4]),(4,.yld (L2.map (λ(x:Int×(Sl Jb))=>[pI .i64 x.1,vSl 2 A0 x.2])) true),(3,.cells [pN q3]),(2,.cells [pN q2]),(1,.cells ((B3 q1).map .p)),(0,.cells [.p (vSl 2 A0 q0)])]⟩) (idl:=(Jy [0,1,2,3,4,6000,7000,8000,9000])) h (MU Z Y e2) (λ_=>by kernel_rfl) (λ_ _=>by kernel_rfl) (λ_ _=>by kernel_rfl) (λ_ _=>by kernel_rfl) (λx1 _ r z1 L2 g h=>?_) (λz1 L2 h=>?_)
  .refine Kc Z Fc ?_;apply kI Z h<;>intro h
   .exact g _ (Jy [0,1,2,3,4,900,6000,7000,8000,9000]) _ (z1.1,z1.2.1,z1.2.2) L2 Fc h
   refine F6 Z Fc [(0,.l [7000]),(2,.l [9000]),(5,.l [1]),(6,.l [0]),(9,.l [2]),(12,.n),(13,.l [0]),(15,.l [2]),(20,.a [7000])] ?_;obtain⟨c13,h⟩:=C9 h;obtain⟨y6,e7,h⟩:=A7 h;refine G4 c13 (VM Z Y e7) ?_;obtain⟨c14,h⟩:=C9 h;refine N3 c14 (x:=.sl true 1 3 (G9 [C7] [(0,cL 2 A0 (z1.1.take (wrap .i64 (x1+z1.2.2)).toNat)),(1,cL 2 A0 y6),(2,cL 2 A0 (q0.drop (wrap .i64 (x1+q2)).toNat))])) ?_;obtain⟨y7,e8,h⟩:=A7 h;refine OA [] Fc (FunO.le Z (args:=[.p (.sl true 1 3 (G9 [C7] [(0,cL 2 A0 (z1.1.take (wrap .i64 (x1+z1.2.2)).toNat)),(1,cL 2 A0 y6),(2,cL 2 A0 (q0.drop (wrap .i64 (x1+q2)).toNat))]))]) (by exact⟨KA rfl (λi s=>match i,s with|0,_=>rfl|1,_=>rfl|2,_=>rfl|_+3,s=>Es s (by omega)),trivial⟩) (P6 Z Y e8)) ?_;refine D2 Fc ?_;obtain⟨L5,rfl,j⟩:=LS h;replace h:=j;refine Dj Z Fc (ys:=(λ(x:Int×(Sl Jb))=>[pI .i64 x.1,vSl 2 A0 x.2]) (x1,y7)) (rest:=L5.map (λ(x:Int×(Sl Jb))=>[pI .i64 x.1,vSl 2 A0 x.2])) ?_ ?_
   .refine C8 Z Fc (b:=false) (λc15=>?_) (λc15=>?_)
    .exact Bool.noConfusion ((rfl:false=false).symm.trans c15)
    refine F6 Z Fc [(1,.l [2]),(4,.l [9000]),(5,.l [3]),(7,.l [2]),(9,.a [8000]),(10,.a [9000])] ?_;refine D2 Fc ?_;exact g _ (Jy [0,1,2,3,4,900,6000,7000,8000,9000]) _ (y7,wrap .i64 (x1+(if q2<1 then 1 else q2)),wrap .i64 ((wrap .i64 (z1.2.2+q3))-q2)) L5 Fc h
   refine C8 Z Fc (b:=true) (λc16=>?_) (λc16=>?_)
   .refine NE Z Fc ⟨[(8,.reg 9000 0),(7,.reg 8000 0),(6,.reg 7000 0),(5,.reg 6000 0),(4,.reg 3 0),(3,.reg 2 0),(2,.reg 1 0),(1,.reg 0 0)],[(44000,oV B5 2 A0 y7 true),(9000,.cells [pN z1.2.2]),(8000,.cells [pN z1.2.1]),(7000,.cells [.vec 44000]),(6000,.cells [.yf 4]),(4,.yld [] false),(3,.cells [pN q3]),(2,.cells [pN q2]),(1,.cells ((B3 q1).map .p)),(0,.cells [.p (vSl 2 A0 q0)])]⟩ (ids:=(Jy [0,1,2,3,4,900,6000,7000,8000,9000,44000])) ?_;exact kO Z Fc (a:=.tup []) (objs:=[(.cells [.p (vSl 2 A0 q0)]),.cells ((B3 q1).map .p),.cells [pN q2],.cells [pN q3],.yld [] false]) [0,1,2,3,4] ⟨false,rfl,rfl,_,rfl⟩
   exact Bool.noConfusion (Iq.symm.trans c16)
  obtain rfl:=B0 h;exact kO Z Fc (a:=.tup []) (objs:=[(.cells [.p (vSl 2 A0 q0)]),.cells ((B3 q1).map .p),.cells [pN q2],.cells [pN q3],.yld [] true]) [0,1,2,3,4] ⟨true,rfl,rfl,_,rfl⟩
 apply kI Z h<;>intro h
 .refine SJ Z Fc h (λx5 x6 L6=>⟨[(10,pN x6),(6,.reg 7000 0),(5,.reg 6000 0),(4,.reg 3 0),(3,.reg 2 0),(2,.reg 1 0)],[(7000,.cells [.p (vSl 2 A0 x5)]),(6000,.cells [.yf 4]),(4,.yld (L6.map (λ(x:Int×(Sl Jb))=>[pI .i64 x.1,vSl 2 A0 x.2])) true),(3,.cells [pN q3]),(2,.cells [pN q2]),(1,.cells ((B3 q1).map .p)),(0,.cells [.p (vSl 2 A0 q0)])]⟩) (ids:=(Jy [0,1,2,3,4,6000,7000])) (λ_ _ _ _ _ t x5 x6 L6 c h=>?_);apply kI Z h<;>intro h
  .refine kC Z h (VN Z Y) (λv h=>?_);apply kI Z h<;>intro h
   .exact c _ (Jy [0,1,2,3,4,6000,7000]) _ x5 (wrap .i64 (x6+1)) L6 Fc h
   refine kC Z h (Lt Z Y) (λd h=>?_);obtain⟨L9,rfl,m⟩:=LS h;replace h:=m;refine Dj Z Fc (ys:=(λ(x:Int×(Sl Jb))=>[pI .i64 x.1,vSl 2 A0 x.2]) (x6,d)) (rest:=L9.map (λ(x:Int×(Sl Jb))=>[pI .i64 x.1,vSl 2 A0 x.2])) ?_ ?_
   .refine C8 Z Fc (b:=false) (λc30=>?_) (λc30=>?_)
    .exact Bool.noConfusion ((rfl:false=false).symm.trans c30)
    apply kI Z h<;>intro h
    .exact c _ (Jy [0,1,2,3,4,6000,7000]) _ d (wrap .i64 ((wrap .i64 (x6+q3))+1)) L9 Fc h
    exact c _ (Jy [0,1,2,3,4,6000,7000]) _ d (wrap .i64 (x6+q3)) L9 Fc h
   refine C8 Z Fc (b:=true) (λc32=>?_) (λc32=>?_)
   .exact kO Z Fc (a:=.tup []) (objs:=[(.cells [.p (vSl 2 A0 q0)]),.cells ((B3 q1).map .p),.cells [pN q2],.cells [pN q3],.yld [] false]) [0,1,2,3,4] ⟨false,rfl,rfl,_,rfl⟩
   exact Bool.noConfusion (Iq.symm.trans c32)
  obtain rfl:=B0 h;exact kO Z Fc (a:=.tup []) (objs:=[(.cells [.p (vSl 2 A0 q0)]),.cells ((B3 q1).map .p),.cells [pN q2],.cells [pN q3],.yld [] true]) [0,1,2,3,4] ⟨true,rfl,rfl,_,rfl⟩
 apply kI Z h<;>intro h
 .refine SJ Z Fc h (λx7 x8 L10=>⟨[(11,pN x8),(6,.reg 7000 0),(5,.reg 6000 0),(3,.reg 2 0),(2,.reg 1 0)],[(7000,.cells [.p (vSl 2 A0 x7)]),(6000,.cells [.yf 4]),(4,.yld (L10.map (λ(x:Int×(Sl Jb))=>[pI .i64 x.1,vSl 2 A0 x.2])) true),(3,.cells [pN q3]),(2,.cells [pN q2]),(1,.cells ((B3 q1).map .p)),(0,.cells [.p (vSl 2 A0 q0)])]⟩) (ids:=(Jy [0,1,2,3,4,6000,7000])) (λ_ _ _ _ _ u x7 x8 L10 o h=>?_);apply kI Z h<;>intro h
  .refine kC Z h (VN Z Y) (λw h=>?_);apply kI Z h<;>intro h
   .exact o _ (Jy [0,1,2,3,4,6000,7000]) _ x7 (wrap .i64 (x8-1)) L10 Fc h
   refine kC Z h (Lt Z Y) (λq h=>?_);obtain⟨L13,rfl,f⟩:=LS h;replace h:=f;refine Dj Z Fc (ys:=(λ(x:Int×(Sl Jb))=>[pI .i64 x.1,vSl 2 A0 x.2]) (x8,q)) (rest:=L13.map (λ(x:Int×(Sl Jb))=>[pI .i64 x.1,vSl 2 A0 x.2])) ?_ ?_
   .refine C8 Z Fc (b:=false) (λc44=>?_) (λc44=>?_)
    .exact Bool.noConfusion ((rfl:false=false).symm.trans c44)
    exact o _ (Jy [0,1,2,3,4,6000,7000]) _ q (wrap .i64 (x8-(if q2<1 then 1 else q2))) L13 Fc h
   refine C8 Z Fc (b:=true) (λc45=>?_) (λc45=>?_)
   .exact kO Z Fc (a:=.tup []) (objs:=[(.cells [.p (vSl 2 A0 q0)]),.cells ((B3 q1).map .p),.cells [pN q2],.cells [pN q3],.yld [] false]) [0,1,2,3,4] ⟨false,rfl,rfl,_,rfl⟩
   exact Bool.noConfusion (Iq.symm.trans c45)
  obtain rfl:=B0 h;exact kO Z Fc (a:=.tup []) (objs:=[(.cells [.p (vSl 2 A0 q0)]),.cells ((B3 q1).map .p),.cells [pN q2],.cells [pN q3],.yld [] true]) [0,1,2,3,4] ⟨true,rfl,rfl,_,rfl⟩
 obtain rfl:=B0 h;exact kO Z Fc (a:=.tup []) (objs:=[(.cells [.p (vSl 2 A0 q0)]),.cells ((B3 q1).map .p),.cells [pN q2],.cells [pN q3],.yld [] true]) [0,1,2,3,4] ⟨true,rfl,rfl,_,rfl⟩
def Lu (N:Nat)(a:Law)(b:Sl Jb):Option ((Sl Jb)×Law×Int×Int):= some (b,a,(a.If.n:Int),(a.Out.n:Int))
theorem An7 {b:Law}{c:Sl Jb}{y:(Sl Jb)×Law×Int×Int}(h:Lu N b c=some y) :FunO S VB [.p (.agg (B3 b)),.p (vSl 2 A0 c)] [] (.clo Kj [] [.reg 0 0,.reg 1 0,.reg 2 0,.reg 3 0]) ([.cells [.p (vSl 2 A0 y.1)],.cells ((B3 y.2.1).map .p),.cells [pN y.2.2.1],.cells [pN y.2.2.2]]) []:=by unfold Lu at h;refine A2 Z func200 ?_;refine F6 Z Fc [(1,.l [3000]),(2,.n),(4,.l [3000]),(5,.n),(6,.a [6000]),(7,.a [7000]),(8,.a [6000]),(9,.a [7000])] ?_;refine D2 Fc ?_;obtain rfl:=B0 h;exact kO Z Fc [4000,3000,6000,7000]
def Fl (N:Nat)(b:Law)(c:Sl Jb):Option ((Sl Int)×(Sl (Sl Jb))×Int):= (Fk N b c).bind λy1=>if (y1 != 0) then some (Ir,(Sl.nil:Sl (Sl Jb)),y1) else (Lu N b c).bind λy2=>(Dq N y2.1 y2.2.1 y2.2.2.1 y2.2.2.2).bind λL1=>T1 L1 (λa (x1:Int×(Sl Jb)) (z1:(Sl Int)×(Sl (Sl Jb)))=>if (decide (32<(x1.2.n:Int))) then some (Ir,(Sl.nil:Sl (Sl Jb)),11) else if (Ke 8 (z1.1.n+(Sl.of [x1.1]:Sl Int).n))then if (Ke 24 (z1.2.n+(Sl.of [x1.2]:Sl (Sl Jb)).n))then a (z1.1.push x1.1,z1.2.push x1.2) else none else none) (λ(z1:(Sl Int)×(Sl (Sl Jb)))=>some (z1.1,z1.2,0)) (Ir,(Sl.nil:Sl (Sl Jb)))
theorem XR {b:Law}{c:Sl Jb}{y:(Sl Int)×(Sl (Sl Jb))×Int}(h:Fl N b c=some y) :FunO S Ph [.p (.agg (B3 b)),.p (vSl 2 A0 c)] [] (.tup [.vec 0,.vec 1,pN y.2.2]) ([oV D9 1 (cI .i64) y.1 true,oV I7 1 (cL 2 A0) y.2.1 true]) []:=by
 unfold Fl at h;refine A2 Z func196 ?_;refine F8 Z Fc 4 3000 (B3 b) ?_;obtain⟨y1,e1,h⟩:=A7 h;refine B4 Z [] Im (XP Z Y e1) ?_;apply kI Z h<;>intro h
 .obtain rfl:=B0 h;exact J6 Z Fc ⟨[(6,.reg 7000 0),(5,.reg 6000 0),(4,.reg 5000 0)],[(7000,.cells [pN y1]),(6701,.vec I7 1 (Sl.nil:Sl (Sl Jb)).n (λi=>cL 2 A0 ((Sl.nil:Sl (Sl Jb)).g i)) true),(6000,.cells [.vec 6701]),(5700,oV D9 1 (cI .i64) Ir true),(5000,.cells [.vec 5700])]⟩ [5700,6701] (ids:=(Jy [5000,6000,7000])) ⟨rfl,rfl,rfl⟩
 obtain⟨y2,e2,h⟩:=A7 h;refine B4 Z [] Im (An7 Z Y e2) ?_;obtain⟨L1,e3,h⟩:=A7 h;refine GP Z Fc [21000,21001,21002,21003] [9,8,6,5,4] 901 (λz1=>⟨[(9,.reg 10000 0),(8,.reg 9000 0),(6,.reg 7000 0),(5,.reg 6000 0),(4,.reg 5000 0)],[(10500,oV I7 1 (cL 2 A0) z1.2 false),(10000,.cells [.vec 10500]),(9500,oV D9 1 (cI .i64) z1.1 false),(9000,.cells [.vec 9500]),(7000,.cells [pN 0]),(6000,.cells [.p C7]),(5000,.cells [.p C7])]⟩) (idl:=(Jy [5000,6000,7000,9000,10000])) h (XQ Z Y e3) (λ_=>by kernel_rfl) (λ_=>by kernel_rfl) (λ_=>by kernel_rfl) (λ_=>by kernel_rfl) (λx1 _ d z1 f h=>?_) (λz1 h=>?_)
 .refine Kc Z Fc ?_;apply kI Z h<;>intro h
  .refine NE Z Fc ⟨[(9,.reg 10000 0),(8,.reg 9000 0),(6,.reg 7000 0),(5,.reg 6000 0),(4,.reg 5000 0)],[(10500,oV I7 1 (cL 2 A0) z1.2 false),(10000,.cells [.vec 10500]),(9500,oV D9 1 (cI .i64) z1.1 false),(9000,.cells [.vec 9500]),(7000,.cells [pN 11]),(6000,.cells [.p C7]),(5000,.cells [.p C7])]⟩ (ids:=(Jy [901,5000,6000,7000,9000,9500,10000,10500])) ?_;obtain rfl:=B0 h;exact J6 Z Fc ⟨[(6,.reg 7000 0),(5,.reg 6000 0),(4,.reg 5000 0)],[(7000,.cells [pN 11]),(6701,.vec I7 1 (Sl.nil:Sl (Sl Jb)).n (λi=>cL 2 A0 ((Sl.nil:Sl (Sl Jb)).g i)) true),(6000,.cells [.vec 6701]),(5700,oV D9 1 (cI .i64) Ir true),(5000,.cells [.vec 5700])]⟩ [5700,6701] (ids:=(Jy [5000,6000,7000])) ⟨rfl,rfl,rfl⟩
  refine F6 Z Fc [(0,.l [9000]),(3,.a [30000,9500]),(4,.l [10000]),(7,.a [34000,10500]),(8,.a [9000]),(9,.a [10000])] ?_;refine N3 Fc (x:=.sl true 1 1 (G9 [pI .i64 0] [(0,cI .i64 x1.1)])) ?_;obtain⟨c9,h⟩:=C9 h;refine N3 c9 (x:=.sl true 1 1 (G9 [C7] [(0,cL 2 A0 x1.2)])) ?_;obtain⟨c10,h⟩:=C9 h;refine D2 c10 ?_;exact f _ [(901,901),(5000,5000),(6000,6000),(7000,7000),(9000,9000),(9500,30000),(10000,10000),(10500,34000)] _ (z1.1.push x1.1,z1.2.push x1.2) Fc h (hle:=kl2 0 1 (X5 (cL 2 A0) z1.2 x1.2 [C7]) (X5 (cI .i64) z1.1 x1.1 [pI .i64 0]))
 refine F6 Z Fc [(0,.l [9000]),(1,.l [10000]),(2,.a [5000]),(3,.a [6000]),(4,.a [7000])] ?_;refine D2 Fc ?_;obtain rfl:=B0 h;exact J6 Z Fc ⟨[(6,.reg 7000 0),(5,.reg 6000 0),(4,.reg 5000 0)],[(10500,oV I7 1 (cL 2 A0) z1.2 true),(9500,oV D9 1 (cI .i64) z1.1 true),(7000,.cells [pN 0]),(6000,.cells [.vec 10500]),(5000,.cells [.vec 9500])]⟩ [9500,10500] (ids:=(Jy [5000,6000,7000,9500,10500])) ⟨rfl,rfl,rfl⟩
def Cp (N:Nat)(b:Law)(a:Sl Jb):Option ((Sl Jb)×Int):= (Fl N b a).bind λy1=>if (y1.2.2 != 0) then some ((Sl.nil:Sl Jb),y1.2.2) else if (decide (0<(y1.2.1.n:Int))) then if (((0:Int)<=(wrap .i64 ((y1.2.1.n:Int)-1))/\(wrap .i64 ((y1.2.1.n:Int)-1))<(y1.2.1.n:Int))/\(wrap .i64 ((y1.2.1.n:Int)-1)).toNat<y1.2.1.n)then some (y1.2.1.g (wrap .i64 ((y1.2.1.n:Int)-1)).toNat,0) else none else (A5 N a).bind λy2=>some (y2,0)
theorem XS {a:Law}{b:Sl Jb}{y:(Sl Jb)×Int}(h:Cp N a b=some y) :FunO S Pg [.p (.agg (B3 a)),.p (vSl 2 A0 b)] [] (.tup [.p (vSl 2 A0 y.1),pN y.2]) ([]) []:=by
 unfold Cp at h;refine A2 Z func188 ?_;refine kC Z h (XR Z Y) (λy1 h=>?_);apply kI Z h<;>intro h
 .obtain rfl:=B0 h;exact kO Z Fc []
 apply kI Z h<;>intro h
 .obtain⟨c3,h⟩:=C9 h;obtain rfl:=B0 h;exact Al1 Z c3 [] ⟨rfl,rfl,rfl⟩
 refine kC Z h (Q6 Z Y) (λy2 h=>?_);obtain rfl:=B0 h;exact kO Z Fc []
end Go.AM
namespace Go.AM
open Go.Proofs.Tryz
variable {N:Nat}
open IntKind (wrap)
open Go.Proofs
set_option maxRecDepth 10000
set_option maxHeartbeats 2000000
variable {S:V2}(Z:G7 S Tryz.prog) (Y:Kk S)
include Z Y
def T4 (N:Nat)(a:Law):Option Bool:= (AA N a).bind λy1=>some (y1 != 0)
theorem No {a:Law}{y:Bool}(h:T4 N a=some y) :FunO S HA [.p (.agg (B3 a))] [] (pB y) ([]) []:=by unfold T4 at h;refine A2 Z func149 ?_;refine kC Z h (GY Z Y) (λy1 h=>?_);cases h;exact kR Z
def G0 (N:Nat)(a:Sl Law)(c:Law->Option Bool):Option Int:= X4 N (λb (x1:Int)=>if (decide (x1<(a.n:Int))) then if ((0:Int)<=x1/\x1<(a.n:Int))then (c (a.g x1.toNat)).bind λy3=>if y3 then some x1 else b (wrap .i64 (x1+1)) else none else some (-1)) 0
theorem Bv {a:Sl Law}{c:Law->Option Bool}{kp_f:Nat}(d:∀{a0:Law}{b:Bool},c a0=some b->FunO S kp_f [.p (.agg (B3 a0))] [] (pB b) [] []){y:Int}(h:G0 N a c=some y) :FunO S Q5 [.p (vSl 18 B3 a),.clo kp_f [] []] [] (pN y) ([]) []:=by
 unfold G0 at h;refine A2 Z func186 ?_;refine Q0 Z Fc h (λx1=>⟨[(8,pN x1),(7,pN (a.n:Int)),(1,.clo kp_f [] []),(0,.p (vSl 18 B3 a))],[]⟩) (ids:=[]) (λ_ _ _ _ _ f x1 g h=>?_);apply kI Z h<;>intro h
 .obtain⟨c8,h⟩:=C9 h;obtain⟨y3,e3,h⟩:=A7 h;refine B4 Z [] (Kf c8 Im) (d e3) ?_;apply kI Z h<;>intro h
  .cases h;exact kR Z
  exact g _ [] _ (wrap .i64 (x1+1)) Fc h
 cases h;exact kR Z
def D5 (N:Nat)(a:Sl Law)(b:Law->Option Bool):Option Bool:= (G0 N a b).bind λy1=>some (decide (0<=y1))
theorem Al {a:Sl Law}{c:Law->Option Bool}{kp_f:Nat}(d:∀{a0:Law}{b:Bool},c a0=some b->FunO S kp_f [.p (.agg (B3 a0))] [] (pB b) [] []){y:Bool}(h:D5 N a c=some y) :FunO S O6 [.p (vSl 18 B3 a),.clo kp_f [] []] [] (pB y) ([]) []:=by unfold D5 at h;refine A2 Z func148 ?_;refine kC Z h (Bv Z Y (λe=>d e)) (λy1 h=>?_);cases h;exact kR Z
def BW (N:Nat)(a:Sl Law):Option Int:= if (decide (64<(a.n:Int))) then some 12 else (D5 N a (λ(u1:Law)=>T4 N u1)).bind λy1=>if y1 then some 17 else some 0
theorem QE {a:Sl Law}{y:Int}(h:BW N a=some y) :FunO S JA [.p (vSl 18 B3 a)] [] (pN y) ([]) []:=by
 unfold BW at h;refine A2 Z func108 ?_;apply kI Z h<;>intro h
 .cases h;exact kR Z
 refine kC Z h (Al Z Y (λe=>No Z Y e)) (λy1 h=>?_);apply kI Z h<;>intro h
 .cases h;exact kR Z
 cases h;exact kR Z
def BX (N:Nat)(b:Sl Law)(a:Sl (Sl Jb)):Option Int:= (BW N b).bind λy1=>if (y1 != 0) then some y1 else if (decide (256<(a.n:Int))) then some 12 else X4 N (λc (x1:Int)=>if (decide (x1<(a.n:Int))) then if ((0:Int)<=x1/\x1<(a.n:Int))then (W8 N (a.g x1.toNat)).bind λy4=>if (y4 != 0) then some y4 else c (wrap .i64 (x1+1)) else none else some 0) 0
theorem QF {b:Sl Law}{a:Sl (Sl Jb)}{y:Int}(h:BX N b a=some y) :FunO S Jv [.p (vSl 18 B3 b),.p (vSl 1 (cL 2 A0) a)] [] (pN y) ([]) []:=by
 unfold BX at h;refine A2 Z func69 ?_;refine kC Z h (QE Z Y) (λy1 h=>?_);apply kI Z h<;>intro h
 .cases h;exact kR Z
 apply kI Z h<;>intro h
 .cases h;exact kR Z
 refine Q0 Z Fc h (λx1=>⟨[(19,pN x1),(18,pN (a.n:Int)),(17,.p (vSl 1 (cL 2 A0) a))],[]⟩) (ids:=[]) (λ_ _ _ _ _ c x1 d h=>?_);apply kI Z h<;>intro h
 .obtain⟨c10,h⟩:=C9 h;obtain⟨y4,e4,h⟩:=A7 h;refine B4 Z [] c10 (DP Z Y e4) ?_;apply kI Z h<;>intro h
  .cases h;exact kR Z
  exact d _ [] _ (wrap .i64 (x1+1)) Fc h
 cases h;exact kR Z
end Go.AM
namespace Go.AM
open Go.Proofs.Tryz
variable {N:Nat}
open IntKind (wrap)
open Go.Proofs
set_option maxRecDepth 10000
set_option maxHeartbeats 2000000
variable {S:V2}(Z:G7 S Tryz.prog) (Y:Kk S)
include Z Y
def AB8 (c:Int):Option PV:=if c=0 then none else some (.iface 261 (pI .i64 c))
def Cc (N:Nat)(c:Int)(q0:Sl Jb)(q1:Sl Law):Option (List (Int×(Sl Jb))):= (A5 N q0).bind λy1=>Ah (0,y1) (BA N (λa (x1:Sl Jb) (x2:Int)=>if (decide (x2<(q1.n:Int))) then if ((0:Int)<=x2/\x2<(q1.n:Int))then (Cp N (q1.g x2.toNat) x1).bind λy4=>if (y4.2 != 0) then if y4.2=c then some []else none else Ah (wrap .i64 (x2+1),y4.1) (a y4.1 (wrap .i64 (x2+1))) else none else if c=0 then some []else none) y1 0)
theorem HC {q0:Sl Jb}{q1:Sl Law}{c:Int}{L:List (Int×(Sl Jb))}(h:Cc N c q0 q1=some L) :OE S Y9 [] [.reg 0 0,.reg 1 0] [.cells [.p (vSl 2 A0 q0)],.cells [.p (vSl 18 B3 q1)]] (L.map (λ(x:Int×(Sl Jb))=>[pI .i64 x.1,vSl 2 A0 x.2])) (AB8 c):=by
 unfold Cc at h;refine Al6 Z func187 ?_;refine kC Z h (Q6 Z Y) (λy1 h=>?_);obtain⟨L1,rfl,d⟩:=LS h;replace h:=d;refine Dj Z Fc (ys:=(λ(x:Int×(Sl Jb))=>[pI .i64 x.1,vSl 2 A0 x.2]) (0,y1)) (rest:=L1.map (λ(x:Int×(Sl Jb))=>[pI .i64 x.1,vSl 2 A0 x.2])) ?_ ?_
 .refine C8 Z Fc (b:=false) (λc1=>?_) (λc1=>?_)
  .exact Bool.noConfusion ((rfl:false=false).symm.trans c1)
  refine SJ Z Fc h (λx1 x2 L2=>⟨[(17,pN x2),(16,pN (q1.n:Int)),(15,.p (vSl 18 B3 q1)),(4,.p (vSl 2 A0 x1)),(0,.yf 2)],[(2,.yld (L2.map (λ(x:Int×(Sl Jb))=>[pI .i64 x.1,vSl 2 A0 x.2])) true),(1,.cells [.p (vSl 18 B3 q1)]),(0,.cells [.p (vSl 2 A0 q0)])]⟩) (ids:=(Jy [0,1,2])) (λ_ _ _ _ _ g x1 x2 L2 i h=>?_);apply kI Z h<;>intro h
  .obtain⟨c13,h⟩:=C9 h;obtain⟨y4,e4,h⟩:=A7 h;refine B4 Z [] (Kf c13 Im) (XS Z Y e4) ?_;refine C8 Z Fc (b:=y4.2 != 0) (λc14=>?_) (λc14=>?_)
   .replace h:=itT c14 h;obtain⟨c0,h⟩:=C9 h;obtain rfl:=B0 h;have j:AB8 c=some (.iface 261 (pI .i64 y4.2)):=by
     have:¬y4.2=0:=by simpa using c14
     rw[<- c0];simp[AB8,this]
    refine AP9 Z Fc (x:=.iface 261 (pI .i64 y4.2)) ?_;exact AI1 Z Fc (x:=.iface 261 (pI .i64 y4.2)) (objs:=[(.cells [.p (vSl 2 A0 q0)]),.cells [.p (vSl 18 B3 q1)],.yld [] true]) [0,1,2] ⟨true,rfl,rfl,λ_=>by rw[j];rfl,λe=>nomatch e⟩
   replace h:=itF c14 h;obtain⟨L5,rfl,f⟩:=LS h;replace h:=f;refine Dj Z Fc (ys:=(λ(x:Int×(Sl Jb))=>[pI .i64 x.1,vSl 2 A0 x.2]) (wrap .i64 (x2+1),y4.1)) (rest:=L5.map (λ(x:Int×(Sl Jb))=>[pI .i64 x.1,vSl 2 A0 x.2])) ?_ ?_
   .refine C8 Z Fc (b:=false) (λc15=>?_) (λc15=>?_)
    .exact Bool.noConfusion ((rfl:false=false).symm.trans c15)
    exact i _ (Jy [0,1,2]) _ y4.1 (wrap .i64 (x2+1)) L5 Fc h
   refine C8 Z Fc (b:=true) (λc16=>?_) (λc16=>?_)
   .exact kO Z Fc (a:=.tup []) (objs:=[(.cells [.p (vSl 2 A0 q0)]),.cells [.p (vSl 18 B3 q1)],.yld [] false]) [0,1,2] ⟨false,rfl,rfl,λe=>(nomatch e),λ_=>⟨_,rfl⟩⟩
   exact Bool.noConfusion (Iq.symm.trans c16)
  obtain⟨c0,h⟩:=C9 h;obtain rfl:=B0 h;exact kO Z Fc (a:=.tup []) (objs:=[(.cells [.p (vSl 2 A0 q0)]),.cells [.p (vSl 18 B3 q1)],.yld [] true]) [0,1,2] ⟨true,rfl,rfl,λ_=>by subst c0;exact⟨_,rfl⟩,λe=>(nomatch e)⟩
 refine C8 Z Fc (b:=true) (λc17=>?_) (λc17=>?_)
 .exact kO Z Fc (a:=.tup []) (objs:=[(.cells [.p (vSl 2 A0 q0)]),.cells [.p (vSl 18 B3 q1)],.yld [] false]) [0,1,2] ⟨false,rfl,rfl,λe=>(nomatch e),λ_=>⟨_,rfl⟩⟩
 exact Bool.noConfusion (Iq.symm.trans c17)
def DC (N:Nat)(a:Sl Law)(b:Sl Jb):Option ((Sl Jb)×(Sl Law)):= some (b,a)
theorem JH {a:Sl Law}{b:Sl Jb}{y:(Sl Jb)×(Sl Law)}(h:DC N a b=some y) :FunO S JD [.p (vSl 18 B3 a),.p (vSl 2 A0 b)] [] (.clo Y9 [] [.reg 0 0,.reg 1 0]) ([.cells [.p (vSl 2 A0 y.1)],.cells [.p (vSl 18 B3 y.2)]]) []:=by unfold DC at h;refine A2 Z func150 ?_;obtain rfl:=B0 h;exact kO Z Fc [4000,3000]
def K6 (N:Nat)(c:Int)(a:Sl Law)(d:Sl Jb):Option (Sl Jb):= (DC N a d).bind λy1=>(Cc N c y1.1 y1.2).bind λL1=>T1 L1 (λb (x1:Int×(Sl Jb)) (z1:Sl Jb)=>b x1.2) (λ(z1:Sl Jb)=>some z1) (Sl.nil:Sl Jb)
theorem Mb {a:Sl Law}{b:Sl Jb}{y:Sl Jb}(h:K6 N 0 a b=some y) :FunO S K5 [.p (vSl 18 B3 a),.p (vSl 2 A0 b)] [] (.p (vSl 2 A0 y)) ([]) []:=by
 unfold K6 at h;refine A2 Z func111 ?_;refine kC Z h (JH Z Y) (λy1 h=>?_);obtain⟨L1,e2,h⟩:=A7 h;have f:OE S Y9 [] [.reg 0 0,.reg 1 0] [.cells [.p (vSl 2 A0 y1.1)],.cells [.p (vSl 18 B3 y1.2)]] (L1.map (λ(x:Int×(Sl Jb))=>[pI .i64 x.1,vSl 2 A0 x.2])) none:=HC Z Y e2;refine Zk Z Fc [8000,8001] [4] 901 (λz1=>⟨[(4,.reg 5000 0)],[(5000,.cells [.p (vSl 2 A0 z1)])]⟩) (idl:=[(5000,5000)]) h f (λ_=>by kernel_rfl) (λ_=>by kernel_rfl) (λ_=>by kernel_rfl) (λ_=>by kernel_rfl) (λx1 _ c z1 d h=>?_) (λz1 h=>?_)
 .refine Kc Z Fc ?_;exact d _ (Jy [901,5000]) _ x1.2 Fc h
 cases h;exact kR Z
theorem Mc {c:Int}{a:Sl Law}{b:Sl Jb}{y:Sl Jb}(hc:c≠0)(h:K6 N c a b=some y) :S.F K5 [.p (vSl 18 B3 a),.p (vSl 2 A0 b)] [] λres o k=>res=.panic (.iface 261 (pI .i64 c))/\o=[]/\k=[]:=by
 unfold K6 at h;refine AA5 Z func111 ?_;refine kC Z h (JH Z Y) (λy1 h=>?_);obtain⟨L1,e2,h⟩:=A7 h;have g:OE S Y9 [] [.reg 0 0,.reg 1 0] [.cells [.p (vSl 2 A0 y1.1)],.cells [.p (vSl 18 B3 y1.2)]] (L1.map (λ(x:Int×(Sl Jb))=>[pI .i64 x.1,vSl 2 A0 x.2])) (some (.iface 261 (pI .i64 c))):=by
  have:=HC Z Y e2
  simpa[AB8,hc]using this
 refine Zk Z Fc [8000,8001] [4] 901 (λz1=>⟨[(4,.reg 5000 0)],[(5000,.cells [.p (vSl 2 A0 z1)])]⟩) (idl:=[(5000,5000)]) h g (λ_=>by kernel_rfl) (λ_=>by kernel_rfl) (λ_=>by kernel_rfl) (λ_=>by kernel_rfl) (λx1 _ d z1 f h=>?_) (λz1 h=>?_)
 .refine Kc Z Fc ?_;exact f _ (Jy [901,5000]) _ x1.2 Fc h
 exact AI1 Z Fc (x:=.iface 261 (pI .i64 c)) (objs:=[]) [] ⟨rfl,rfl,rfl⟩
def Cd (N:Nat)(a:Sl Law)(b:Sl Jb):Option ((Sl Jb)×Bool):=
 match K6 N 0 a b with
 |some y=>some (y,true)
 |none=>(K6 N 11 a b).bind λ_=>some ((Sl.nil:Sl Jb),false)
theorem Np {b:Sl Law}{c:Sl Jb}{y:(Sl Jb)×Bool}(h:Cd N b c=some y) :FunO S Ht [.p (vSl 18 B3 b),.p (vSl 2 A0 c)] [] (.tup [.p (vSl 2 A0 y.1),pB y.2]) ([]) []:=by
 unfold Cd at h;refine A2 Z func70 ?_;rcases e:K6 N 0 b c with _|z
 .rw[e]at h;obtain⟨z,e1,h⟩:=A7 h;obtain rfl:=B0 h;refine B4 Z [7000,3000,4000,5000] Fc (Y.attP (Mc Z Y (by decide) e1)) ?_;refine F6 Z Fc [(0,.l [5000]),(1,.l [7000]),(3,.a [5000])] ?_;refine D2 Fc ?_;exact J6 Z Fc ⟨[(5,pB false),(4,.reg 5000 0)],[(5000,.cells [.p (vSl 2 A0 Sl.nil)])]⟩ [] (ids:=[(5000,5000)]) ⟨rfl,rfl,rfl⟩
 rw[e]at h;obtain rfl:=B0 h;refine B4 Z [7000,3000,4000,5000] Fc (Y.attR (Mb Z Y e)) ?_;refine F6 Z Fc [(0,.l [5000]),(1,.l [7000]),(3,.a [5000])] ?_;refine D2 Fc ?_;exact J6 Z Fc ⟨[(5,pB true),(4,.reg 5000 0)],[(5000,.cells [.p (vSl 2 A0 z)])]⟩ [] (ids:=[(5000,5000)]) ⟨rfl,rfl,rfl⟩
end Go.AM
namespace Go.AM
open Go.Proofs
set_option maxRecDepth 10000
set_option maxHeartbeats 2000000
variable {S:V2}(Z:G7 S Tryz.prog) (Y:Kk S)
include Z Y
def K0 (N:Nat)(a:Sl Law)(b:Sl Jb):Option ((Sl Jb)×Int):= (BX N a (Sl.of [b]:Sl (Sl Jb))).bind λy1=>if (y1 != 0) then some ((Sl.nil:Sl Jb),y1) else (Cd N a b).bind λy2=>if (!y2.2) then some ((Sl.nil:Sl Jb),11) else some (y2.1,0)
theorem Fm {N:Nat}{a:Sl Law}{b:Sl Jb}{y:(Sl Jb)×Int}(h:K0 N a b=some y) :FunO S Ih [.p (vSl 18 B3 a),.p (vSl 2 A0 b)] [] (.tup [.p (vSl 2 A0 y.1),pN y.2]) ([]) []:=by
 unfold K0 at h;refine A2 Z Tryz.func39 ?_;refine KQ Z Iq ⟨[(11,.vec 12000),(9,.p (vSl 18 B3 a)),(1,.p (vSl 2 A0 b)),(0,.p (vSl 18 B3 a))],[(12000,.vec I7 1 (Sl.of [b]:Sl (Sl Jb)).n (λi=>cL 2 A0 ((Sl.of [b]:Sl (Sl Jb)).g i)) false)]⟩ (ids:=[(12000,12000)]) ?_ (hle:=kl1 3 (Ac0 (cL 2 A0) ([b]:List (Sl Jb)) [C7]));refine kC Z h (QF Z Y) (λy1 h=>?_);apply kI Z h<;>intro h
 .obtain rfl:=B0 h;exact kO Z Fc []
 refine kC Z h (Np Z Y) (λy2 h=>?_);apply kI Z h<;>intro h
 .obtain rfl:=B0 h;exact kO Z Fc []
 cases h;exact kR Z
end Go.AM
