/- Part 6. -/
import Derived.Test.YtcoileenpgjmoaaGreatDoorEE
import Derived.Test.YtcoileenpgjmoaaGreatDoorED
import Derived.RecoverIn
import Derived.Test.YtcoileenpgjmoaaGreatDoorProg
import Derived.Lib.SlTrimSet
import Derived.Lib.Join
import Derived.Lib.ItoaNum
import Derived.Lib.Bytealg
import Derived.TacticsInMore
set_option linter.defProp false
set_option linter.unusedSimpArgs false
set_option linter.unusedVariables false
set_option linter.unusedSectionVars false
namespace Go.AM
def Kn:=@And.intro
abbrev Kl(k n:Nat):Prop:=n*k<=140737488355328/\n<=140737488355328
def Kk(l:List Nat):List (Nat×Nat):=l.map fun a=>(a,a)
abbrev Iy:Sl Int:=Sl.nil
def Ix:true=true:=rfl
def Iu:(18:Nat)<=18:=by decide
def Iq:(7:Nat)<=7:=by decide
def Gt:(2:Nat)<=2:=by decide
noncomputable abbrev Bg6:=Go.Proofs.Tryz.prog.funcs
def Bs6:=@Bool.eq_iff_iff
def BA4:=@BitVec.toNat_ofNat
def GX (D:List Deferred)(a:Act)(d:Option Tmp)(v:Value):(Qe D a).put d v=Qe D (a.put d v):=by cases d<;>rfl
def KZ {F:Fence}{n:Nat}{P:Program}{ops:Array Oper}{Q:Exit->Act->World->Prop}(D:List Deferred):∀(l:List Nat) (a:Act) (w:World),wpOpsIn F n P ops Q l a w ->
 wpOpsIn F n P ops (λe a' w'=>∃a0,a' = Qe D a0/\Q e a0 w') l (Qe D a) w
 |[],a,w,h=>⟨a,rfl,h⟩
 |i::l,a,w,h=>by
  have ih:=KZ (F:=F) (n:=n) (P:=P) (ops:=ops) (Q:=Q) D l;simp only[wpOpsIn]at h⊢;have e1:(Qe D a).eval=a.eval:=by funext x;cases x<;>rfl
  have e2:(Qe D a).tmps=a.tmps:=rfl;cases j:ops[i]? with
  |none=>simp only[j]at h⊢;exact ih a w h
  |some o=>
   simp only[j]at h⊢;rw[e2,e1];by_cases hw:Region.wanted o (yielded ops a.tmps)=true
   .rw[Ek hw]at h⊢;refine⟨by rw[e1];exact h.1,?_⟩;have b:=h.2;rw[e1];generalize (o.semAt F.round a.eval).run P w=r at b;unfold Oper.uponIn at b⊢;split at b
    .rw[GX];exact ih _ _ b
    .rw[GX];exact ih _ _ b
    .exact ih _ _ b |> λx=>by
      rename_i d w'
      have:({ (Qe D a)with defers:=d::(Qe D a).defers }:Act).put o.dst undef=Qe D (({ a with defers:=d::a.defers }:Act).put o.dst undef):=by rw[<- GX];rfl
      rw[this];exact x
    .refine⟨b.1,b.2.mono ?_⟩;intro e w' f;cases e with
     |returned v=>have:=ih _ _ f;rw[<- GX]at this;exact this
     |panicked ch=>exact⟨a,rfl,f⟩
     |outgrown=>obtain⟨a1,w1,g⟩:=f;exact⟨Qe D a1,w1,a1,rfl,g⟩
    .refine⟨b.1,λc cs m=>?_⟩;obtain⟨v,w',g1,g2⟩:=b.2 c cs m;exact⟨v,w',by have:=ih _ _ g1;rw[<- GX]at this;exact this,g2⟩
    .refine⟨b.1,b.2.mono ?_⟩;intro e w' f;cases e with
     |returned v=>have:=ih _ _ f;rw[<- GX]at this;exact this
     |panicked ch=>exact⟨a,rfl,f⟩
     |outgrown=>obtain⟨a1,w1,g⟩:=f;exact⟨Qe D a1,w1,a1,rfl,g⟩
    .exact⟨a,rfl,b⟩
    exact b.elim
   rw[Et hw]at h⊢;rw[GX];exact⟨h.1,ih _ _ h.2⟩
section
variable {P:Program}{C:Ctx}{st:St}{rho:Nat->Value}
def GY {fn:Func}{R:Ending->World->Prop}{u:FrameMode}(c:u ≠ .run){tmps:Array Value}{D:List Deferred}(b:∀a w,Sat C st a w rho->a.tmps=tmps->LeavesInM Fence.wide 0 P fn tmps R D u w) :∀(ds:List Deferred) (a:Act) (w:World),a.defers=ds->a.tmps=tmps->Sat C st a w rho->LeavesInM Fence.wide 0 P fn tmps R (ds++D) u w
 |[],a,w,hd,ht,h=>b a w h ht
 |d::ds,a,w,hd,ht,h=>by obtain⟨r,w',h1,f,g⟩:=h.unmark hd;exact⟨c,.inl ⟨r,w',h1,f,GY c b ds { a with defers:=ds } w' rfl ht g⟩⟩
end
end Go.AM
namespace Go.AM
structure Kj where
 Plus:Int
 Minus:Int
 deriving Inhabited,DecidableEq
abbrev A0 (x:Kj):List PV:=[(pI .u32 x.Plus),pI .u32 x.Minus]
inductive Pat where
 |nil
 |mk (Kind:Int) (Is:Kj) (Not:Bool) (Min:Int) (Max:Int) (n:Nat) (g:Nat->Pat)
instance:Inhabited Pat:=⟨.nil⟩
def Pat.Kind:Pat->Int
 |.nil=>0
 |.mk x _ _ _ _ _ _=>x
def Pat.Is:Pat->Kj
 |.nil=>default
 |.mk _ x _ _ _ _ _=>x
def Pat.Not:Pat->Bool
 |.nil=>false
 |.mk _ _ x _ _ _ _=>x
def Pat.Min:Pat->Int
 |.nil=>0
 |.mk _ _ _ x _ _ _=>x
def Pat.Max:Pat->Int
 |.nil=>0
 |.mk _ _ _ _ x _ _=>x
def Pat.L:Pat->Sl Pat
 |.nil=>⟨0,λ_=>.nil⟩
 |.mk _ _ _ _ _ n g=>⟨n,g⟩
def ED:Pat->Nat->List PV
 |.nil=>λ_=>[]
 |.mk _ _ _ _ _ n g=>λi=>[(pI .i64 (g i).Kind),pI .u32 (g i).Is.Plus,pI .u32 (g i).Is.Minus,.bb (g i).Not,pI .i64 (g i).Min,pI .i64 (g i).Max,.sl false 7 (g i).L.n (ED (g i))]
abbrev D4 (x:Pat):List PV:=[(pI .i64 x.Kind),pI .u32 x.Is.Plus,pI .u32 x.Is.Minus,.bb x.Not,pI .i64 x.Min,pI .i64 x.Max,.sl false 7 x.L.n (ED x)]
def Cb (x:Pat):∀i,i<x.L.n->ED x i=D4 (x.L.g i):=by
 cases x with
 |nil=>intro i a;exact Eu (show i<0 from a) (by omega)
 |mk Kind Is Not Min Max n g=>exact λ_ _=>rfl
structure Ej where
 From:Int
 Clear:Int
 Set:Kj
 Take:Int
 Of:Int
 deriving Inhabited,DecidableEq
abbrev Au (x:Ej):List PV:=[(pI .i64 x.From),pI .u32 x.Clear,pI .u32 x.Set.Plus,pI .u32 x.Set.Minus,pI .u32 x.Take,pI .i64 x.Of]
structure Law where
 Name:Str
 Left:Pat
 Right:Pat
 If:(Sl Kj)
 Out:(Sl Ej)
 Mode:Int
 deriving Inhabited
abbrev B5 (x:Law):List PV:=[(.str x.Name),pI .i64 x.Left.Kind,pI .u32 x.Left.Is.Plus,pI .u32 x.Left.Is.Minus,.bb x.Left.Not,pI .i64 x.Left.Min,pI .i64 x.Left.Max,.sl false 7 x.Left.L.n (ED x.Left),pI .i64 x.Right.Kind,pI .u32 x.Right.Is.Plus,pI .u32 x.Right.Is.Minus,.bb x.Right.Not,pI .i64 x.Right.Min,pI .i64 x.Right.Max,.sl false 7 x.Right.L.n (ED x.Right),vSl 2 A0 x.If,vSl 6 Au x.Out,pI .i64 x.Mode]
structure Small where
 Parents:(Sl Int)
 Laws:(Sl Law)
 On:(Sl Int)
 deriving Inhabited
abbrev Ig (x:Small):List PV:=[(vSl 1 (cI .u8) x.Parents),vSl 18 B5 x.Laws,vSl 1 (cI .u16) x.On]
structure An9 where
 H:Small
 L:(Sl Int)
 deriving Inhabited
abbrev FF (x:An9):List PV:=[(vSl 1 (cI .u8) x.H.Parents),vSl 18 B5 x.H.Laws,vSl 1 (cI .u16) x.H.On,vSl 1 (cI .u32) x.L]
structure Node where
 Nu:Int
 Name:Str
 deriving Inhabited,DecidableEq
abbrev C5 (x:Node):List PV:=[(pI .i64 x.Nu),.str x.Name]
structure Ns where
 Tree:(Sl Node)
 Laws:(Sl Law)
 On:(Sl (Sl Int))
 deriving Inhabited
abbrev B0 (x:Ns):List PV:=[(vSl 2 C5 x.Tree),vSl 18 B5 x.Laws,vSl 1 (cL 1 (cI .i64)) x.On]
structure K3 where
 Symbol:Str
 S:Kj
 deriving Inhabited,DecidableEq
abbrev D6 (x:K3):List PV:=[(.str x.Symbol),pI .u32 x.S.Plus,pI .u32 x.S.Minus]
structure Jq where
 Text:Str
 Clear:Int
 Set:Kj
 deriving Inhabited,DecidableEq
abbrev V8 (x:Jq):List PV:=[(.str x.Text),pI .u32 x.Clear,pI .u32 x.Set.Plus,pI .u32 x.Set.Minus]
structure G8 where
 Has:Bool
 W:(Sl Kj)
 deriving Inhabited
abbrev F3 (x:G8):List PV:=[(.bb x.Has),vSl 2 A0 x.W]
structure Pb where
 Gloss:Str
 Nw:(Sl G8)
 deriving Inhabited
abbrev F4 (x:Pb):List PV:=[(.str x.Gloss),vSl 2 F3 x.Nw]
structure C0 where
 Feats:(Sl Str)
 Sounds:(Sl K3)
 Marks:(Sl Jq)
 Ns:Ns
 Nr:(Sl G8)
 Nv:(Sl Pb)
 deriving Inhabited
abbrev A7 (x:C0):List PV:=[(vSl 1 cS x.Feats),vSl 3 D6 x.Sounds,vSl 4 V8 x.Marks,vSl 2 C5 x.Ns.Tree,vSl 18 B5 x.Ns.Laws,vSl 1 (cL 1 (cI .i64)) x.Ns.On,vSl 2 F3 x.Nr,vSl 2 F4 x.Nv]
structure A4 where
 Pb:Int
 Np:Int
 Kind:Int
 Cost:Int
 deriving Inhabited,DecidableEq
abbrev A5 (x:A4):List PV:=[(pI .i64 x.Pb),pI .i64 x.Np,pI .i64 x.Kind,pI .i64 x.Cost]
structure GH where
 Node:Int
 Place:Int
 Pb:Int
 Np:Int
 deriving Inhabited,DecidableEq
abbrev P2 (x:GH):List PV:=[(pI .i64 x.Node),pI .i64 x.Place,pI .i64 x.Pb,pI .i64 x.Np]
structure Gs where
 Bad:(Sl A4)
 Nt:(Sl GH)
 deriving Inhabited
abbrev OR (x:Gs):List PV:=[(vSl 4 A5 x.Bad),vSl 4 P2 x.Nt]
structure A2_int where
 a0:Int
 a1:Int
 deriving Inhabited,DecidableEq
abbrev D5 (x:A2_int):List PV:=[(pI .i64 x.a0),pI .i64 x.a1]
structure CD where
 entry:Int
 leaf:Int
 deriving Inhabited,DecidableEq
abbrev OT (x:CD):List PV:=[(pI .i64 x.entry),pI .i64 x.leaf]
inductive Part where
 |nil
 |sound (x:Kj) (no:Bool)
 |edge (e:Bool)
 |seq (n:Nat) (g:Nat->Part)
 |alt (n:Nat) (g:Nat->Part)
 |rep (o:Part) (mn mx:Int)
instance:Inhabited Part:=⟨.nil⟩
def Part.t:Part->Nat
 |.nil=>0
 |.sound _ _=>335
 |.edge _=>337
 |.seq _ _=>342
 |.alt _ _=>339
 |.rep _ _ _=>341
def Part.v:Part->PV
 |.nil=>.bb false
 |.sound x no=>.agg [pI .u32 x.Plus,pI .u32 x.Minus,.bb no]
 |.edge e=>.agg [.bb e]
 |.seq n g=>.agg [.sl false 1 n λi=>[.iface (g i).t (g i).v]]
 |.alt n g=>.agg [.sl false 1 n λi=>[.iface (g i).t (g i).v]]
 |.rep o mn mx=>.agg [.iface o.t o.v,pI .i64 mn,pI .i64 mx]
abbrev Ih (x:Part):PV:=.iface x.t x.v
abbrev Jr (x:Part):List PV:=[Ih x]
structure Ao0 where
 is:Kj
 not:Bool
 deriving Inhabited,DecidableEq
abbrev Zv (x:Ao0):List PV:=[(pI .u32 x.is.Plus),pI .u32 x.is.Minus,.bb x.not]
structure AR8 where
 end_:Bool
 deriving Inhabited,DecidableEq
abbrev AR9 (x:AR8):List PV:=[(.bb x.end_)]
structure Palt where
 l:(Sl Part)
 deriving Inhabited
abbrev Bb9 (x:Palt):List PV:=[(vSl 1 Jr x.l)]
structure Bc0 where
 of:Part
 min:Int
 max:Int
 deriving Inhabited
abbrev Bc1 (x:Bc0):List PV:=[(Ih x.of),pI .i64 x.min,pI .i64 x.max]
structure Pseq where
 l:(Sl Part)
 deriving Inhabited
abbrev Bc2 (x:Pseq):List PV:=[(vSl 1 Jr x.l)]
structure B3 where
 feats:(Sl Str)
 number:List (Str×Int)
 sounds:(Sl K3)
 symbols:List (Str×Int)
 values:List (Kj×Int)
 deriving Inhabited
abbrev H0 (a b:Kj):Bool:=((a.Plus==b.Plus)&&(a.Minus==b.Minus))
end Go.AM
namespace Go.AM
open Go.Proofs
abbrev Ap:Nat:=4
abbrev Ii:Nat:=7
abbrev OV:Nat:=8
abbrev ME:Nat:=9
abbrev Js:Nat:=10
abbrev La:Nat:=11
abbrev MF:Nat:=12
abbrev MG:Nat:=13
abbrev MH:Nat:=14
abbrev OW:Nat:=15
abbrev RJ:Nat:=16
abbrev RK:Nat:=17
abbrev Lb:Nat:=18
abbrev MI:Nat:=19
abbrev Hx:Nat:=21
abbrev OX:Nat:=22
abbrev Lc:Nat:=23
abbrev RL:Nat:=24
abbrev Ld:Nat:=25
abbrev MJ:Nat:=26
abbrev Lf:Nat:=27
abbrev L7:Nat:=28
abbrev S4:Nat:=29
abbrev MK:Nat:=30
abbrev Ij:Nat:=31
abbrev Ik:Nat:=32
abbrev Lg:Nat:=33
abbrev Pa:Nat:=34
abbrev Jt:Nat:=35
abbrev Il:Nat:=36
abbrev Ju:Nat:=37
abbrev Lh:Nat:=38
abbrev Im:Nat:=39
abbrev Jv:Nat:=40
abbrev ML:Nat:=41
abbrev Li:Nat:=42
abbrev BJ:Nat:=43
abbrev Y7:Nat:=44
abbrev DB:Nat:=45
abbrev Pd:Nat:=46
abbrev X7:Nat:=47
abbrev DM:Nat:=48
abbrev W0:Nat:=49
abbrev Pe:Nat:=51
abbrev Pf:Nat:=52
abbrev MM:Nat:=53
abbrev Lj:Nat:=54
abbrev Pg:Nat:=55
abbrev Jw:Nat:=56
abbrev Hy:Nat:=57
abbrev Gu:Nat:=58
abbrev MN:Nat:=59
abbrev De:Nat:=60
abbrev Lk:Nat:=61
abbrev Gv:Nat:=62
abbrev MO:Nat:=63
abbrev Jx:Nat:=64
abbrev Jy:Nat:=65
abbrev RM:Nat:=66
abbrev Ip:Nat:=67
abbrev Fb:Nat:=68
abbrev Jz:Nat:=69
abbrev Hz:Nat:=70
abbrev HA:Nat:=71
abbrev MP:Nat:=72
abbrev MQ:Nat:=73
abbrev Ll:Nat:=74
abbrev S5:Nat:=75
abbrev Pk:Nat:=81
abbrev Lm:Nat:=82
abbrev RN:Nat:=83
abbrev Ln:Nat:=84
abbrev Lo:Nat:=85
abbrev Pl:Nat:=86
abbrev MR:Nat:=87
abbrev M9:Nat:=88
abbrev O3:Nat:=89
abbrev JA:Nat:=90
abbrev HB:Nat:=91
abbrev JB:Nat:=92
abbrev Pm:Nat:=93
abbrev T6:Nat:=94
abbrev MS:Nat:=95
abbrev Ch:Nat:=96
abbrev P9:Nat:=97
abbrev T7:Nat:=98
abbrev Fd:Nat:=99
abbrev Ci:Nat:=100
abbrev HC:Nat:=101
abbrev FU:Nat:=102
abbrev S6:Nat:=103
abbrev BK:Nat:=104
abbrev JD:Nat:=105
abbrev MT:Nat:=106
abbrev Ir:Nat:=107
abbrev JE:Nat:=108
abbrev N3:Nat:=109
abbrev W1:Nat:=110
abbrev K4:Nat:=111
abbrev AS:Nat:=112
abbrev J1:Nat:=113
abbrev T8:Nat:=114
abbrev MU:Nat:=115
abbrev Iv:Nat:=116
abbrev RO:Nat:=127
abbrev RQ:Nat:=128
abbrev FX:Nat:=129
abbrev JF:Nat:=130
abbrev R0:Nat:=131
abbrev O0:Nat:=132
abbrev Q1:Nat:=133
abbrev N6:Nat:=134
abbrev HE:Nat:=135
abbrev JG:Nat:=136
abbrev MV:Nat:=137
abbrev Bn:Nat:=138
abbrev VL:Nat:=139
abbrev Av:Nat:=140
abbrev Iw:Nat:=141
abbrev Ck:Nat:=142
abbrev Bo:Nat:=143
abbrev DN:Nat:=144
abbrev N7:Nat:=145
abbrev HF:Nat:=146
abbrev S7:Nat:=147
abbrev O4:Nat:=148
abbrev HG:Nat:=149
abbrev JH:Nat:=150
abbrev Lq:Nat:=151
abbrev EE:Nat:=163
abbrev GZ:Nat:=164
abbrev MW:Nat:=172
abbrev I9:Nat:=173
abbrev O5:Nat:=174
abbrev P7:Nat:=175
abbrev Km:Nat:=176
abbrev Ev:Nat:=177
abbrev Gw:Nat:=178
abbrev W2:Nat:=179
abbrev Bp:Nat:=180
abbrev DO:Nat:=181
abbrev X8:Nat:=182
abbrev CM:Nat:=183
abbrev Q2:Nat:=184
abbrev O6:Nat:=185
abbrev Q3:Nat:=186
abbrev Z1:Nat:=187
abbrev Ps:Nat:=188
abbrev S8:Nat:=190
abbrev Pt:Nat:=196
abbrev Pu:Nat:=199
abbrev VN:Nat:=200
abbrev Ko:Nat:=202
abbrev RR:Nat:=203
abbrev P3:Nat:=204
abbrev VO:Nat:=205
abbrev VP:Nat:=206
abbrev Lr:Nat:=207
abbrev Iz:Nat:=208
abbrev MX:Nat:=209
abbrev Gx:Nat:=210
abbrev J7:Nat:=211
abbrev JI:Nat:=212
abbrev MY:Nat:=213
abbrev BN:Nat:=214
abbrev Ls:Nat:=215
abbrev Pv:Nat:=216
abbrev Pw:Nat:=217
abbrev Px:Nat:=218
abbrev Lt:Nat:=219
abbrev Lu:Nat:=220
abbrev JJ:Nat:=221
abbrev IA:Nat:=222
abbrev DC:Nat:=223
abbrev El:Nat:=224
abbrev DP:Nat:=243
abbrev Fh:Nat:=244
abbrev FY:Nat:=245
abbrev Hb:Nat:=246
abbrev FJ:Nat:=247
abbrev Hc:Nat:=248
abbrev IC:Nat:=249
abbrev Bs:Nat:=250
abbrev Hd:Nat:=251
abbrev E1:Nat:=3
abbrev AJ7:Nat:=4
abbrev H6:Nat:=5
abbrev F5:Nat:=9
abbrev DQ:Nat:=23
abbrev XQ:Nat:=26
abbrev Ae2:Nat:=29
abbrev FK:Nat:=55
abbrev Cm:Nat:=57
abbrev Gy:Nat:=59
abbrev U7:Nat:=64
abbrev R9:Nat:=66
abbrev I2:Nat:=68
abbrev O1:Nat:=83
abbrev Bt:Nat:=99
abbrev B6:Nat:=117
abbrev Gz:Nat:=134
abbrev H3:Nat:=137
abbrev D1:Nat:=145
abbrev Ao5:Nat:=186
abbrev D7:Nat:=197
abbrev Ae3:Nat:=253
abbrev XR:Nat:=330
end Go.AM
namespace Go.AM
open IntKind (wrap)
abbrev U (x:BitVec 64):Int:=(x.toNat:Int)
def PB {n:Nat}(h:n<2 ^ 64):IntKind.u64.wrap (n:Int)=n:=by have h1:((n:Int) % (2 ^ 64:Int))=n:=Bn6 (by omega) (by omega);unfold wrap;simp only[IntKind.bits,IntKind.signed,h1,Bq6,Bh3,Ex]
def Ao6 (x:BitVec 64):BitVec.ofInt 64 (U x)=x:=by
 apply Bn7;rw[BA1]
 have:=x.isLt
 show ((x.toNat:Int) % ((2 ^ 64:Nat):Int)).toNat=x.toNat;omega
def or64 (x y:BitVec 64):P0 .or .u64 (U x) (U y)=U (x ||| y):=by simp only[P0,IntKind.bits,Ao6];exact PB (x ||| y).isLt
def AC6 (x y:BitVec 64):P0 .andNot .u64 (U x) (U y)=U (x &&& ~~~ y):=by simp only[P0,IntKind.bits,Ao6];exact PB (x &&& ~~~ y).isLt
def AC7 (n:Nat)(h:n<64):shI .shl .u64 1 n=U (1#64 <<< n):=by
 simp only[shI,IntKind.bits,Int.toNat_natCast];rw[Bq8 (by omega)];show wrap .u64 (1*2 ^ n)=((1#64 <<< n).toNat:Int);rw[BitVec.toNat_shiftLeft,Nat.shiftLeft_eq];have h1:(2:Nat) ^ n<2 ^ 64:=Nat.pow_lt_pow_right (by omega) h;have e:((1:Int)*2 ^ n)=((2 ^ n:Nat):Int):=by norm_cast;omega
 rw[e,PB h1]
 norm_cast
 rw[Bp7]
 .simp
 simpa using h1
def AS0 {i:Nat}:(1#64).getLsbD i=decide (i=0):=by rw[BitVec.getLsbD_one];simp
def Ao7 {n i:Nat}(h:n<64)(a:i<64):(1#64 <<< n).getLsbD i=decide (i=n):=by rw[BitVec.getLsbD_shiftLeft,AS0,Bs6];simp only[Bh0,Bi7,decide_eq_true_eq,decide_eq_false_iff_not];omega
end Go.AM
namespace Go.AM
open Go.Proofs.Tryz
variable {N:Nat}
open Go.Proofs
abbrev AC8:List AV:=[.reg 0 0,.reg 1 0,.reg 2 0,.reg 3 0]
abbrev XS (c:Int)(a:Sl Law)(b:Sl Kj)(y:PV):List Obj:=[.cells [pN c],.cells [.p (vSl 18 B5 a)],.cells [.p (vSl 2 A0 b)],.cells [.p y]]
structure JK (S:U5):Prop where
 attR:∀{a:Sl Law}{b y:Sl Kj},Me S K4 [.p (vSl 18 B5 a),.p (vSl 2 A0 b)] [] (.p (vSl 2 A0 y)) [] []->Me S N3 AC8 (XS 0 a b C6) (.tup []) (XS 0 a b (vSl 2 A0 y)) [true,true,true,true]
 attP:∀{a:Sl Law}{b:Sl Kj}{c:Int},(S.F K4 [.p (vSl 18 B5 a),.p (vSl 2 A0 b)] [] λres o k=>res=.panic (.iface 261 (pI .i64 c))/\o=[]/\k=[])->Me S N3 AC8 (XS 0 a b C6) (.tup []) (XS c a b C6) [true,true,true,true]
 tz:∀x:BitVec 64,Uu S S8 [.p (pI .u64 (U x))] (.p (pI .i64 (Lib.ctz 64 x.toNat:Nat)))
 trim:∀s c:Str,s.length<1000000000000->c.length<1000000->(∀b∈c,b.toNat<128)->Uu S FX [.p (.str s),.p (.str c)] (.p (.str (Lib.trimS s c)))
 growS:∀(f:Nat->List PV) (n:Nat),n*8<=140737488355328->Me S J7 [.p C6,.p (pI .i64 (n:Int))] [] (.vec 0) [.vec B6 2 0 f false] []
 join:∀(nn:Bool) (n:Nat) (g:Nat->List UInt8) (sep:List UInt8),n<=140737488355328->(Lib.join ((List.range n).map g) sep).length<=140737488355328 ->
  Uu S DB [.p (.sl nn 1 n λi=>[.str (g i)]),.p (.str sep)] (.p (.str (Lib.join ((List.range n).map g) sep)))
 indexByte:∀(s:List UInt8) (c:UInt8),Uu S X8 [.p (.str s),.p (.v (.int .u8 c.toNat))] (.p (.v (.int .i64 (Lib.indexByte s c))))
 fmtInt:∀n:Int,-9223372036854775808<=n->n<=9223372036854775807->Uu S X7 [.p (pI .i64 n),.p (pI .i64 10)] (.p (.str (Lib.itoa n)))
 copyCheck:∀(T:Nat) (u n:Nat) (f:Nat->List PV),T=122->Me S S5 [.reg 0 0] [.blk [0,T,u] 1,.vec H6 1 n f false] (.tup []) [.blk [0,T,1] 1,.vec H6 1 n f false] [true,true]
 bstr:∀(T u n:Nat) (f:Nat->List PV) (s:List UInt8),T=122->s.length=n->(∀i,i<n->f i=[.v (.int .u8 (s.getD i 0).toNat)])->Me S W0 [.reg 0 0] [.blk [0,T,u] 1,.vec H6 1 n f false] (.p (.str s)) [] []
def I3 (N:Nat)(x:Int):Option Int:=if 0<=x/\x<18446744073709551616 then some ((Lib.ctz 64 x.toNat:Nat):Int)else none
def DE (N:Nat)(s c:Str):Option Str:=if s.length<1000000000000/\c.length<1000000/\(c.all λb=>decide (b.toNat<128)) then some (Lib.trimS s c)else none
def J8 (N:Nat)(n:Int):Option (Sl Kj):=if 0<=n/\n*8<=140737488355328 then some (Sl.nil:Sl Kj)else none
section
variable {S:U5}(Z:G6 S Tryz.prog) (Y:JK S)
include Z Y
theorem Fi {x y:Int}(h:I3 N x=some y):Me S S8 [.p (pI .u64 x)] [] (.p (pI .i64 y)) [] []:=by
 obtain⟨⟨a,h1⟩,h⟩:=C8 h;obtain rfl:=B2 h
 have:=Y.tz (BitVec.ofNat 64 x.toNat)
 have e:(BitVec.ofNat 64 x.toNat).toNat=x.toNat:=by rw[BA4];omega
 have e2:U (BitVec.ofNat 64 x.toNat)=x:=by show ((BitVec.ofNat 64 x.toNat).toNat:Int)=x;rw[e];omega
 rw[e,e2]at this;exact this
theorem JL {s c:Str}{y:Str}(h:DE N s c=some y):Me S FX [.p (.str s),.p (.str c)] [] (.p (.str y)) [] []:=by obtain⟨⟨a,h1,d⟩,h⟩:=C8 h;obtain rfl:=B2 h;exact Y.trim s c a h1 λb hb=>by simpa using Bh7.1 d b hb
theorem BO {n:Int}{y:Sl Kj}(h:J8 N n=some y):Me S J7 [.p C6,.p (pI .i64 n)] [] (.vec 0) [.vec B6 2 y.n (λi=>A0 (y.g i)) false] []:=by
 obtain⟨⟨a,h1⟩,h⟩:=C8 h;obtain rfl:=B2 h
 have:=Y.growS (λi=>A0 default) n.toNat (by omega)
 rw[show ((n.toNat:Nat):Int)=n by omega]at this;exact this
def A8 (N:Nat)(s:Sl Kj):Option (Sl Kj):=if (0+s.n)*8<=140737488355328/\0+s.n<=140737488355328 then some s else none
theorem Q4 {s y:Sl Kj}(h:A8 N s=some y):Me S J1 [.p (vSl 2 A0 s)] [] (.vec 0) [.vec B6 2 y.n (λi=>A0 (y.g i)) true] []:=by
 unfold A8 at h;obtain⟨c1,h⟩:=C8 h;obtain rfl:=B2 h;refine A2 Z func113 ?_;refine Vk Z Fe 3 (k:=2) (n:=s.n) (f:=λi=>A0 (s.g i)) (λa=>?_) ?_
 .obtain⟨n,g⟩:=s;obtain rfl:n=0:=a;exact kO Z Fe [3700]
 exact kO Z (Kn Ix c1) [8000]
  (hle:=kl1 0 (AJ6 A0 s [pI .u32 0,pI .u32 0]))
def H4 (N:Nat)(s:Sl Ej):Option (Sl Ej):=if (0+s.n)*32<=140737488355328/\0+s.n<=140737488355328 then some s else none
theorem AW {s y:Sl Kj}(h:A8 N s=some y):Me S J1 [.p (vSl 2 A0 s)] [] (.p (vSl 2 A0 y)) [] []:=by
 unfold A8 at h;obtain⟨c1,h⟩:=C8 h;obtain rfl:=B2 h;refine A2 Z func113 ?_;refine Vk Z Fe 3 (k:=2) (n:=s.n) (f:=λi=>A0 (s.g i)) (λa=>?_) ?_
 .obtain⟨n,g⟩:=s;obtain rfl:n=0:=a;exact kO Z Fe []
 exact kO Z (Kn Ix c1) []
  (hle:=kl1 0 (AJ6 A0 s [pI .u32 0,pI .u32 0]))
theorem CB {s y:Sl Ej}(h:H4 N s=some y):Me S T8 [.p (vSl 6 Au s)] [] (.p (vSl 6 Au y)) [] []:=by
 unfold H4 at h;obtain⟨c1,h⟩:=C8 h;obtain rfl:=B2 h;refine A2 Z func114 ?_;refine Vk Z Fe 3 (k:=6) (n:=s.n) (f:=λi=>Au (s.g i)) (λa=>?_) ?_
 .obtain⟨n,g⟩:=s;obtain rfl:n=0:=a;exact kO Z Fe []
 exact kO Z (Kn Ix c1) []
  (hle:=kl1 0 (AJ6 Au s [pI .i64 0,pI .u32 0,pI .u32 0,pI .u32 0,pI .u32 0,pI .i64 0]))
end
end Go.AM
set_option maxRecDepth 100000
namespace Go.AM
open Go.Proofs.Tryz
open Go.Proofs
def Ae4 (v:Value)(w:World):(Instr.typeAssert (.iface 261 v) 20 261 true).run Tryz.prog w=.ok (.tuple #[v,.bool true]) w:=by kernel_rfl
def XT (p:Value)(w:World):CallsDIn Fence.wide 0 Tryz.prog W1 #[p] .returning w λe u' w'=>e=.returned (.tuple #[])/\u' = .returning/\w' = w:=by
 refine callsDIn_of_wpSIn func110 rfl (by simp[Fence.wide]) λc₀ cs a=>?_;apply wpSIn_seq;apply wpSIn_region;simp[wpOpsSIn,go_sem,recoverD,a,f110,Exit.thenS];refine wpSIn_of_wpIn rfl (wpIn_block (wpIn_seq (wpIn_region ?_)));simp[wpOpsIn,Oper.wpIn,Oper.semAt,Oper.uponIn,go_sem,Exit.then];refine wpIn_cond (t:=true) (by simp[Act.eval]) ?_;simp only[Ew];refine wpIn_region ?_;simp[wpOpsIn,Oper.wpIn,Oper.semAt,Oper.uponIn,go_sem,Exit.inBlock,bodyPostS,results];cases c₀
 simp_all
def Nx (p:Value)(c:Int)(older:List PanicEntry)(w w1:World)(a:(Instr.storeAt 49 p (.int .i64 c)).run Tryz.prog w=.ok () w1)(hn:∃b,p=.pointer (some b)) :CallsDIn Fence.wide 0 Tryz.prog W1 #[p] (.panicking ({ v:=.iface 261 (.int .i64 c),recovered:=false }::older)) w λe u' w'=>
  e=.returned (.tuple #[])/\u' = .panicking ({ v:=.iface 261 (.int .i64 c),recovered:=true }::older)/\w' = w1:=by
 obtain⟨b,rfl⟩:=hn;refine callsDIn_of_wpSIn func110 rfl (by simp[Fence.wide]) λc₀ cs d=>?_;apply wpSIn_seq;apply wpSIn_region;simp[wpOpsSIn,go_sem,recoverD,d,f110,Exit.thenS];refine wpSIn_of_wpIn rfl (wpIn_block (wpIn_seq (wpIn_region ?_)));simp[wpOpsIn,Oper.wpIn,Oper.semAt,Oper.uponIn,go_sem,Exit.then];refine wpIn_cond (t:=false) (by simp[Act.eval]) ?_;simp only[Bh3,Ex];refine wpIn_seq (wpIn_region ?_);simp[wpOpsIn,Oper.wpIn,Oper.semAt,Oper.uponIn,go_sem,Exit.then,Ae4];refine wpIn_cond (t:=true) (by simp[Act.eval]) ?_;simp only[Ew];refine wpIn_seq (wpIn_region ?_);simp[wpOpsIn,Oper.wpIn,Oper.semAt,Oper.uponIn,go_sem,Exit.then];refine wpIn_region ?_;simp[wpOpsIn,Oper.wpIn,Oper.semAt,Oper.uponIn,go_sem,a,Exit.inBlock,bodyPostS,results];simp[go_sem]at a;rw[a];simp[Result.andThen]
noncomputable def AV6:Code:=match Tryz.f109.body with
 |some (.seq _ c)=>c
 |_=>.skip
def AS1 {S:U5}(Z:G6 S Tryz.prog){a:Sl Law}{b y:Sl Kj}(c:Me S K4 [.p (vSl 18 B5 a),.p (vSl 2 A0 b)] [] (.p (vSl 2 A0 y)) [] []) :KG S Tryz.prog (RH S (λst=>M8 [0,1,2,3] st.Mc [0,1,2,3]=some (XS 0 a b (vSl 2 A0 y))) λ_ _=>False) (.code AV6 [] ⟨Pj AC8,Md (XS 0 a b C6)⟩):=by refine B4 Z [] Fe c ?_;exact K_upN Z Fe ⟨[],[(3,.cells [.p (vSl 2 A0 y)]),(2,.cells [.p (vSl 2 A0 b)]),(1,.cells [.p (vSl 18 B5 a)]),(0,.cells [pN 0])]⟩ (ids:=(Kk [0,1,2,3])) rfl
def Ao8 {S:U5}(Z:G6 S Tryz.prog){a:Sl Law}{b:Sl Kj}{c:Int}(d:S.F K4 [.p (vSl 18 B5 a),.p (vSl 2 A0 b)] [] λres o k=>res=.panic (.iface 261 (pI .i64 c))/\o=[]/\k=[]) :KG S Tryz.prog (RH S (λ_=>False) λx st=>x=.iface 261 (pI .i64 c)/\store Tryz.prog st.Mc 49 (.reg 0 0) (.p (pI .i64 c))=some ([],ins 0 (.cells [pN c]) st.Mc)/\M8 [0,1,2,3] (ins 0 (.cells [pN c]) st.Mc) [0,1,2,3]=some (XS c a b C6)) (.code AV6 [] ⟨Pj AC8,Md (XS 0 a b C6)⟩):=by refine AR3 Z [] Fe d ?_;exact K_upP Z Fe ⟨rfl,by kernel_rfl,by kernel_rfl⟩
noncomputable def att1:Code:=match Tryz.f109.body with
 |some (.seq c _)=>c
 |_=>.skip
noncomputable def attOps:Array Oper:=match AV6 with
 |.region _ ops _=>ops
 |_=>#[]
def Zw:AV6=.region 1 attOps false:=by kernel_rfl
def Bc3:attOps.toList.all (Ji 7 attOps.toList)=true:=by kernel_rfl
def AC9:¬Tryz.f109.name = "runtime.NumGoroutine" := by decide +kernel
def Zx:Tryz.f109.body=some (.seq att1 AV6):=by kernel_rfl
def AS2 {C:Ctx}{vs:Array Value}{w:World}{rho:Nat->Value}{args:List AV}{objs:List Obj}{n:Nat}(Z:Sat C ⟨Pj args,Md objs⟩ ⟨vs,[]⟩ w rho)(a:vs.size=args.length) :Sat C ⟨Pj args,Md objs⟩ { tmps:=vs++Array.replicate n undef,defers:=[] } w rho:=by
 refine⟨Z.toSatE,λt=>?_,Z.pin,Z.marks⟩
 have:=Z.env t
 by_cases ht:t<vs.size
 .simpa[Bg5,Bp1,ht]using this
 show Pc w _ _ _ _ (get (Pj args) t);rw[AP,Bg7,Bk8 (by omega)];exact .top _
def PC {R:St->Prop}{X:PV->St->Prop}{a:Sl Law}{b:Sl Kj}{objs' : List Obj}
 (a1:KG (Ge Tryz.prog) Tryz.prog (RH (Ge Tryz.prog) R X) (.code AV6 [] ⟨Pj AC8,Md (XS 0 a b C6)⟩))
 (hR:∀st,R st->M8 [0,1,2,3] st.Mc [0,1,2,3]=some objs')
 (hX:∀x st,X x st->∃c regs',x=.iface 261 (pI .i64 c)/\store Tryz.prog st.Mc 49 (.reg 0 0) (.p (pI .i64 c))=some ([],regs')/\M8 [0,1,2,3] regs' [0,1,2,3]=some objs') :
 Me (Ge Tryz.prog) N3 AC8 (XS 0 a b C6) (.tup []) objs' [true,true,true,true]:=by
 intro 𝒢 C w vs rho hG Z t;obtain⟨l⟩:=vs
 match l,t with
 |[v0,v1,v2,v3],t=>?_
 refine⟨.enter N3 #[v0,v1,v2,v3],w,by simp[callFunc,func109,Zx,AC9],?_⟩;refine callsIn_of_wp_marks func109 Zx Fe ?_;have a2:=AS2 (n:=Tryz.f109.ntmps-4) Z t;have a9:Tryz.f109.ntmps-4=3:=rfl;rw[a9]at a2;have b1:((#[v0,v1,v2,v3]:Array Value)++Array.replicate 3 undef).size=7:=rfl;have hw:Jd (Ge Tryz.prog) Tryz.prog attOps.toList attOps.toList (RH (Ge Tryz.prog) R X) ⟨Pj AC8,Md (XS 0 a b C6)⟩:=by
  have:=a1.out
  rw[Zw]at this;simpa only[G,awp,kp,Bh3,Ex]using this
 have a4:=Ov (𝒢:=𝒢.fix C.rho0) (n:=7) (ro:=none) (ops:=attOps) Bc3 attOps.toList 0 rfl (by simp) ⟨hG,rfl⟩ a2 b1 hw;have a5:=KZ [{ target:=.fn (.func W1) #[],args:=#[v0] }] _ _ _ a4;rw[Bw0]at a5;obtain⟨b0,a6,u⟩:∃b0,v0=.pointer (some ⟨b0,0,none⟩)/\rho 0=.pointer (some ⟨b0,0,none⟩):=by
  have h0:Pc w _ _ rho v0 (.reg 0 0):=Z.env 0;cases h0 with
  |reg _ _ b0 _ h=>exact⟨b0,rfl,h⟩
 have s:∀{C' : Ctx}{st' : St}{a' : Act}{w' : World}{rho' : Nat->Value},(𝒢.fix C.rho0).G C' -> Sat C' st' a' w' rho' -> M8 [0,1,2,3] st'.Mc [0,1,2,3]=some objs' ->
  LeavesInM Fence.wide 0 Tryz.prog f109 a'.tmps (λe w'=>∃C' r objs0 ks rho', 𝒢.G C' /\ (r=.ret (.tup [])/\objs0=objs' /\ ks=[true,true,true,true])/\SatE C' (Md objs0) w' rho' /\
   Au1 w' (Prv C'.X (A1 (Md objs0)) rho') (Lv (A1 (Md objs0))) rho' e r/\∀i:Nat,ks[i]? = some true->i<objs0.length/\rho' i=rho i) [] .returning w':=by
  intro C' st' a' w' rho' d f m;obtain⟨g1,g2,g3⟩:=Ow f (by decide) m;obtain⟨hl,hg⟩:=AQ m;refine⟨.tuple #[],by simp[results,f109],C', .ret (.tup []),objs',_,_,d.1,⟨rfl,rfl,rfl⟩,g1,⟨_,rfl,.tup _ _ rfl λi hi=>Eu hi (by simp)⟩,?_⟩;intro i hi;have y:i<4:=by
   have:=(Bh9.1 hi).1
   simpa using this
  refine⟨by rw[hl];exact y,?_⟩;have e1:[0,1,2,3][i]? = some i:=by
   match i,y with
   |0,_=>rfl
   |1,_=>rfl
   |2,_=>rfl
   |3,_=>rfl
  obtain⟨o,_,ho,_⟩:=hg i i e1;show rho' ([0,1,2,3].getD i 0)=rho i;rw[Ei e1,f.pin i (by omega) (by simp[Lv,ho]),d.2];refine (Z.pin i (by omega) ?_).symm;rw[Lv,E9]
  match i,y with
  |0,_=>rfl
  |1,_=>rfl
  |2,_=>rfl
  |3,_=>rfl
 generalize hQ:bodyPostM _ _ _ _ _=QQ;refine wpIn_seq ?_;simp only[att1,f109];refine wpIn_region ?_;simp[wpOpsIn,Oper.wpIn,Oper.semAt,Oper.uponIn,go_sem,Exit.then];subst hQ;rw[Zw];refine wpIn_mono (wpIn_region (F:=FW none) a5) ?_;rintro e a' w' ⟨a0,rfl,z⟩;cases e with
 |exit id=>obtain⟨_,_,_,_,_,_,h⟩:=z;exact h.elim
 |goto l=>obtain⟨_,_,_,_,_,_,h⟩:=z;exact h.elim
 |ret=>obtain⟨_,_,_,_,_,_,h⟩:=z;exact h.elim
 |outgrown=>exact z.elim
 |normal=>
  obtain⟨C',st',rho',d,f,a7,hu⟩:=z;obtain⟨st2,rho2,hR2,_,hs2⟩:=hu C' a0 w' rho' f;refine GY (C:=C') (st:=st2) (rho:=rho2) (by simp) ?_ a0.defers a0 w' rfl rfl hs2;intro a3 w3 q ht;refine⟨by simp,.inr ⟨by simp[Fence.wide],_,_,W1,#[v0],rfl,by simp[go_sem],λ_ _=>trivial,?_⟩⟩;refine (XT v0 w3).mono ?_;rintro e u' w4 ⟨rfl,rfl,rfl⟩
  have:=s d q (hR st2 hR2)
  rw[ht]at this;exact this
 |panic chain=>
  obtain⟨C',st',rho',v,x,rfl,d,f,a7,hv,hXx⟩:=z;obtain⟨c,regs',rfl,g,m⟩:=hX x st' hXx;obtain rfl:v=.iface 261 (.int .i64 c):=by
   cases hv with
   |iface _ _ _ h=>cases h;rfl
  refine GY (C:=C') (st:=st') (rho:=rho') (by simp) ?_ a0.defers a0 w' rfl rfl f;intro a3 w3 q ht;have j:Lv (A1 st'.Mc) 0:=by
   cases hj:A1 st'.Mc 0 with
   |some o=>simp[Lv,hj]
   |none=>
    unfold store at g;split at g
    .simp[hj]at g
    cases g
  have hr0:rho' 0=.pointer (some ⟨b0,0,none⟩):=by rw[q.pin 0 (by omega) j,d.2,<- u];exact (Z.pin 0 (by omega) rfl).symm
  have hva:RS C' st' w3 rho' v0 (.reg 0 0):=by rw[a6];exact .reg 0 0 b0 j hr0
  obtain⟨w4,a8,hs4,_⟩:=Oc q (vx:=.int .i64 c) hva (.p _ _ (.v _)) g Fe;refine⟨by simp,.inr ⟨by simp[Fence.wide],_,_,W1,#[v0],rfl,by simp[go_sem],λ_ _=>trivial,?_⟩⟩;refine (Nx v0 c [] w3 w4 a8 ⟨_,a6⟩).mono ?_;rintro e u' w5 ⟨rfl,rfl,rfl⟩
  have:=s d hs4 m
  rw[ht]at this;exact this
def XU {a:Sl Law}{b y:Sl Kj}(c:Me (Ge Tryz.prog) K4 [.p (vSl 18 B5 a),.p (vSl 2 A0 b)] [] (.p (vSl 2 A0 y)) [] []) :Me (Ge Tryz.prog) N3 AC8 (XS 0 a b C6) (.tup []) (XS 0 a b (vSl 2 A0 y)) [true,true,true,true]:=
 PC (AS1 (AL6 Tryz.prog) c) (λst h=>h) (λx st h=>h.elim)
def Tx {a:Sl Law}{b:Sl Kj}{c:Int}(d:(Ge Tryz.prog).F K4 [.p (vSl 18 B5 a),.p (vSl 2 A0 b)] [] λres o k=>res=.panic (.iface 261 (pI .i64 c))/\o=[]/\k=[]) :Me (Ge Tryz.prog) N3 AC8 (XS 0 a b C6) (.tup []) (XS c a b C6) [true,true,true,true]:=
 PC (Ao8 (AL6 Tryz.prog) d) (λst h=>h.elim) (λx st h=>⟨c,_,h.1,h.2.1,h.2.2⟩)
end Go.AM
namespace Go.AM
open Go.Proofs.Tryz
variable {N:Nat}
open IntKind (wrap)
open Go.Proofs
set_option maxRecDepth 10000
set_option maxHeartbeats 2000000
variable {S:U5}(Z:G6 S Tryz.prog) (Y:JK S)
include Z Y
def H5 (N:Nat)(a:Kj):Option Bool:= some (((P0 .and .u32 a.Plus a.Minus)==0)&&(decide ((P0 .or .u32 a.Plus a.Minus)<=16777215)))
theorem Q7 {b:Kj}{y:Bool}(h:H5 N b=some y) :Me S Lo [.p (.agg (A0 b))] [] (pB y) ([]) []:=by unfold H5 at h;refine A2 Z func85 ?_;refine kB Z (A6 Z) Fe Fe 7 (.n (.a ((P0 .and .u32 b.Plus b.Minus)==0)) (.a (decide ((P0 .or .u32 b.Plus b.Minus)<=16777215)))) ?_;cases h;exact kR Z
def S0 (N:Nat)(b:Kj)(a:Kj):Option Bool:= (H5 N b).bind λy1=>lt (λ(z1:Bool)=>some z1) λk1=>if y1 then (H5 N a).bind λy3=>if y3 then if ((P0 .andNot .u32 a.Plus b.Plus)==0) then k1 ((P0 .andNot .u32 a.Minus b.Minus)==0) else k1 false else k1 false else k1 false
theorem Mg {c:Kj}{a:Kj}{y:Bool}(h:S0 N c a=some y) :Me S Gx [.p (.agg (A0 c)),.p (.agg (A0 a))] [] (pB y) ([]) []:=by
 unfold S0 at h;refine A2 Z func210 ?_;refine kC Z h (Q7 Z Y) (λy1 h=>?_);refine Kz Z Fe (A6 Z) h 0 (λz1=>⟨[(4,pB z1)],[]⟩) (λM1 k1 b h=>?_) (λz1 h=>?_)
 .refine kG Z h (λh=>?_) (λh=>?_)
  .refine kC Z h (Q7 Z Y) (λy3 h=>?_);refine kG Z h (λh=>?_) (λh=>?_)
   .refine kG Z h (λh=>?_) (λh=>?_)
    .exact b _ [] _ ((P0 .andNot .u32 a.Minus c.Minus)==0) Fe h
    exact b _ [] _ false Fe h
   exact b _ [] _ false Fe h
  exact b _ [] _ false Fe h
 cases h;exact kR Z
def Fj (N:Nat)(a:Kj):Option Int:= some (P0 .or .u32 a.Plus a.Minus)
theorem PD {a:Kj}{y:Int}(h:Fj N a=some y) :Me S Pw [.p (.agg (A0 a))] [] (pU y) ([]) []:=by unfold Fj at h;refine A2 Z func217 ?_;cases h;exact kR Z
def Dp (N:Nat)(c:Kj)(b:Kj)(a:Int):Option Kj:= some (⟨P0 .or .u32 (P0 .andNot .u32 c.Plus a) (P0 .and .u32 b.Plus a),P0 .or .u32 (P0 .andNot .u32 c.Minus a) (P0 .and .u32 b.Minus a)⟩:Kj)
theorem PE {c:Kj}{a:Kj}{b:Int}{y:Kj}(h:Dp N c a b=some y) :Me S Px [.p (.agg (A0 c)),.p (.agg (A0 a)),pU b] [] (.p (.agg (A0 y))) ([]) []:=by unfold Dp at h;refine A2 Z func218 ?_;cases h;exact kR Z
def Z9 (N:Nat)(c:Kj)(a:Int)(b:Kj):Option (Kj×Int):= (H5 N c).bind λy1=>lt (λ(z1:Bool)=>if z1 then some ((⟨0,0⟩:Kj),14) else lt (λ(z2:Bool)=>if z2 then some ((⟨0,0⟩:Kj),2) else (Fj N b).bind λy6=>(Dp N c b (P0 .or .u32 a y6)).bind λy7=>some (y7,0)) λk2=>if (decide (16777215<a)) then k2 true else (Fj N b).bind λy5=>k2 ((P0 .and .u32 a y5) != 0)) λk1=>if (!y1) then k1 true else (H5 N b).bind λy3=>k1 (!y3)
theorem QK {c:Kj}{a:Int}{b:Kj}{y:Kj×Int}(h:Z9 N c a b=some y) :Me S JI [.p (.agg (A0 c)),pU a,.p (.agg (A0 b))] [] (.tup [.p (.agg (A0 y.1)),pN y.2]) ([]) []:=by
 unfold Z9 at h;refine A2 Z func212 ?_;refine F6 Z Fe 5 4000 [pI .u32 c.Plus,pI .u32 c.Minus] ?_;refine F6 Z Fe 6 6000 [pI .u32 b.Plus,pI .u32 b.Minus] ?_;obtain⟨y1,e1,h⟩:=A9 h;refine B4 Z [] Gt (Q7 Z Y e1) ?_;refine Kz Z Fe (A6 Z) h 0 (λz1=>⟨[(15,pB z1),(6,.reg 7000 0),(5,.p (.ptr [pI .u32 b.Plus,pI .u32 b.Minus])),(3,.p (.ptr [pI .u32 c.Plus,pI .u32 c.Minus])),(1,pU a)],[(7000,.cells [pU 0,pU 0])]⟩) (λM1 k1 d h=>?_) (λz1 h=>?_)
 .refine kG Z h (λh=>?_) (λh=>?_)
  .exact d _ [(7000,7000)] _ true Fe h
  obtain⟨y3,e3,h⟩:=A9 h;refine B4 Z [] Gt (Q7 Z Y e3) ?_;exact d _ [(7000,7000)] _ (!y3) Fe h
 apply kI Z h<;>intro h
 .cases h;exact kR Z
 refine Kz Z Fe (A6 Z) h 0 (λz2=>⟨[(25,pB z2),(6,.reg 7000 0),(5,.p (.ptr [pI .u32 b.Plus,pI .u32 b.Minus])),(3,.p (.ptr [pI .u32 c.Plus,pI .u32 c.Minus])),(1,pU a)],[(7000,.cells [pU 0,pU 0])]⟩) (λM2 k2 f h=>?_) (λz2 h=>?_)
 .refine kG Z h (λh=>?_) (λh=>?_)
  .exact f _ [(7000,7000)] _ true Fe h
  obtain⟨y5,e5,h⟩:=A9 h;refine B4 Z [] Gt (PD Z Y e5) ?_;exact f _ [(7000,7000)] _ ((P0 .and .u32 a y5) != 0) Fe h
 apply kI Z h<;>intro h
 .cases h;exact kR Z
 refine E2 Z Fe [0,1,3,4,6] ?_;obtain⟨y6,e6,h⟩:=A9 h;refine G3 (Kn (Kn Gt Gt) Gt) (PD Z Y e6) ?_;obtain⟨y7,e7,h⟩:=A9 h;refine G3 Fe (PE Z Y e7) ?_;refine D0 Fe ?_;cases h;exact kR Z
def Cx (N:Nat)(c:Kj)(a:Kj)(b:Int):Option (Kj×Int):= (H5 N c).bind λy1=>lt (λ(z1:Bool)=>if z1 then some ((⟨0,0⟩:Kj),14) else if (decide (16777215<b)) then some ((⟨0,0⟩:Kj),2) else (Dp N c a b).bind λy4=>some (y4,0)) λk1=>if (!y1) then k1 true else (H5 N a).bind λy3=>k1 (!y3)
theorem VU {c:Kj}{a:Kj}{b:Int}{y:Kj×Int}(h:Cx N c a b=some y) :Me S MY [.p (.agg (A0 c)),.p (.agg (A0 a)),pU b] [] (.tup [.p (.agg (A0 y.1)),pN y.2]) ([]) []:=by
 unfold Cx at h;refine A2 Z func213 ?_;refine kC Z h (Q7 Z Y) (λy1 h=>?_);refine Kz Z Fe (A6 Z) h 0 (λz1=>⟨[(15,pB z1),(6,.reg 7000 0),(4,.reg 5000 0),(3,.reg 4000 0),(2,pU b)],[(7000,.cells [pU 0,pU 0]),(5000,.cells [pU a.Plus,pU a.Minus]),(4000,.cells [pU c.Plus,pU c.Minus])]⟩) (λM1 k1 d h=>?_) (λz1 h=>?_)
 .refine kG Z h (λh=>?_) (λh=>?_)
  .exact d _ (Kk [4000,5000,7000]) _ true Fe h
  refine kC Z h (Q7 Z Y) (λy3 h=>?_);exact d _ (Kk [4000,5000,7000]) _ (!y3) Fe h
 apply kI Z h<;>intro h
 .cases h;exact kR Z
 apply kI Z h<;>intro h
 .cases h;exact kR Z
 refine kC Z h (PE Z Y) (λy4 h=>?_);cases h;exact kR Z
def Cy (N:Nat)(a:Kj):Option Bool:= some (((P0 .and .u32 a.Plus a.Minus)==0)&&((shI .shr .u32 (P0 .or .u32 a.Plus a.Minus) 24)==0))
theorem VV {a:Kj}{y:Bool}(h:Cy N a=some y) :Me S MP [.p (.agg (A0 a))] [] (pB y) ([]) []:=by
 unfold Cy at h;refine A2 Z func72 ?_;obtain⟨t1,c⟩:∃x:Bool,x=(((P0 .and .u32 a.Plus a.Minus)==0)&&((shI .shr .u32 (P0 .or .u32 a.Plus a.Minus) 24)==0)):=⟨_,rfl⟩;refine Vd Z Fe (A6 Z) 0 ⟨[(2,pB t1)],[]⟩ (λM1 d=>?_) ?_
 .refine GU Z Fe (b:=(P0 .and .u32 a.Plus a.Minus)==0) (λc2=>?_) (λc2=>?_)
  .exact d _ [] _ (by decide:(0:Int)<=24) (hle:=klR [(0,.eq (.bb ((shI .shr .u32 (P0 .or .u32 a.Plus a.Minus) 24)==0)) (.bb t1))] (al1 (by simp only[c,c2,Np.ok,pm,Ew,Ex]) al0))
  exact d _ [] _ Fe (hle:=klR [(0,.eq (.bb false) (.bb t1))] (al1 (by simp only[c,c2,Np.ok,pm,Ew,Ex]) al0))
 subst c;cases h;exact kR Z
def W8 (N:Nat)(a:Sl Kj):Option Int:= if (decide (32<(a.n:Int))) then some 11 else X5 N (λb (x1:Int)=>if (decide (x1<(a.n:Int))) then if ((0:Int)<=x1/\x1<(a.n:Int))then (Cy N (a.g x1.toNat)).bind λy3=>if (!y3) then some 14 else b (wrap .i64 (x1+1)) else none else some 0) 0
theorem DR {a:Sl Kj}{y:Int}(h:W8 N a=some y) :Me S ML [.p (vSl 2 A0 a)] [] (pN y) ([]) []:=by
 unfold W8 at h;refine A2 Z func41 ?_;apply kI Z h<;>intro h
 .cases h;exact kR Z
 refine P8 Z Fe h (λx1=>⟨[(10,pN x1),(9,pN (a.n:Int)),(8,.p (vSl 2 A0 a))],[]⟩) (ids:=[]) (λ_ _ _ _ _ b x1 c h=>?_);apply kI Z h<;>intro h
 .obtain⟨c9,h⟩:=C8 h;obtain⟨y3,e3,h⟩:=A9 h;refine B4 Z [] (Kn c9 Gt) (VV Z Y e3) ?_;apply kI Z h<;>intro h
  .cases h;exact kR Z
  exact c _ [] _ (wrap .i64 (x1+1)) Fe h
 cases h;exact kR Z
def E5 (N:Nat)(a:Sl Kj)(b:Sl Kj):Option Bool:= if ((a.n:Int) != (b.n:Int)) then some false else X5 N (λc (x1:Int)=>if (decide (x1<(a.n:Int))) then if (((0:Int)<=x1/\x1<(a.n:Int))/\((0:Int)<=x1/\x1<(b.n:Int)))then if ((((a.g x1.toNat).Plus==(b.g x1.toNat).Plus)&&((a.g x1.toNat).Minus==(b.g x1.toNat).Minus)) != true) then some false else c (wrap .i64 (x1+1)) else none else some true) 0
theorem Bu {a:Sl Kj}{b:Sl Kj}{y:Bool}(h:E5 N a b=some y) :Me S P9 [.p (vSl 2 A0 a),.p (vSl 2 A0 b)] [] (pB y) ([]) []:=by
 unfold E5 at h;refine A2 Z func97 ?_;apply kI Z h<;>intro h
 .cases h;exact kR Z
 refine P8 Z Fe h (λx1=>⟨[(13,pN x1),(12,pN (a.n:Int)),(1,.p (vSl 2 A0 b)),(0,.p (vSl 2 A0 a))],[]⟩) (ids:=[]) (λ_ _ _ _ _ c x1 d h=>?_);apply kI Z h<;>intro h
 .refine E2 Z Fe [2,3,6,7] ?_;obtain⟨c9,h⟩:=C8 h;refine D0 (Kn (Kn (Kn (Kn c9.1 Gt) c9.2) Gt) (by decide +kernel:Qd Tryz.prog B6=true)) ?_;apply kI Z h<;>intro h
  .cases h;exact kR Z
  exact d _ [] _ (wrap .i64 (x1+1)) Fe h
 cases h;exact kR Z
def O7 (N:Nat)(a:Sl Kj)(b:Sl Kj):Option Bool:= (E5 N a b).bind λy1=>some y1
theorem MZ {a:Sl Kj}{b:Sl Kj}{y:Bool}(h:O7 N a b=some y) :Me S MN [.p (vSl 2 A0 a),.p (vSl 2 A0 b)] [] (pB y) ([]) []:=by unfold O7 at h;refine A2 Z func59 ?_;refine kC Z h (Bu Z Y) (λy1 h=>?_);cases h;exact kR Z
def R5 (N:Nat)(a:Kj):Option Bool:= some (((P0 .and .u32 a.Plus a.Minus)==0)&&((shI .shr .u32 (P0 .or .u32 a.Plus a.Minus) 24)==0))
theorem FL {a:Kj}{y:Bool}(h:R5 N a=some y) :Me S MW [.p (.agg (A0 a))] [] (pB y) ([]) []:=by
 unfold R5 at h;refine A2 Z func172 ?_;obtain⟨t1,c⟩:∃x:Bool,x=(((P0 .and .u32 a.Plus a.Minus)==0)&&((shI .shr .u32 (P0 .or .u32 a.Plus a.Minus) 24)==0)):=⟨_,rfl⟩;refine Vd Z Fe (A6 Z) 0 ⟨[(2,pB t1)],[]⟩ (λM1 d=>?_) ?_
 .refine GU Z Fe (b:=(P0 .and .u32 a.Plus a.Minus)==0) (λc2=>?_) (λc2=>?_)
  .exact d _ [] _ (by decide:(0:Int)<=24) (hle:=klR [(0,.eq (.bb ((shI .shr .u32 (P0 .or .u32 a.Plus a.Minus) 24)==0)) (.bb t1))] (al1 (by simp only[c,c2,Np.ok,pm,Ew,Ex]) al0))
  exact d _ [] _ Fe (hle:=klR [(0,.eq (.bb false) (.bb t1))] (al1 (by simp only[c,c2,Np.ok,pm,Ew,Ex]) al0))
 subst c;cases h;exact kR Z
def S9 (N:Nat)(b:Int):Option (Nat->Int):= Ca N (λa (x1:Nat->Int) (x2:Int)=>if (decide (x2<(wrap .i64 (b+1)))) then if (((0:Int)<=x2/\((0:Int)<=x2/\x2<33))/\(0+x2.toNat*1)<33)then a (OM x1 (0+x2.toNat*1) (shI .shl .u64 1 x2)) (wrap .i64 (x2+1)) else none else some x1) (λ_=>0) 0
theorem Fk {a:Int}{y:Nat->Int}(h:S9 N a=some y) :Me S IC [pN a] [] (.p (.agg (cA 33 (pI .u64) y))) ([]) []:=by
 unfold S9 at h;refine A2 Z func249 ?_;refine I1 Z Fe h (λx1 x2=>⟨[(7,pN x2),(6,pN (wrap .i64 (a+1))),(3,.reg 4000 0),(2,.reg 3000 0)],[(4000,.arr 33 (λi=>pI .u64 (x1 i))),(3000,.arr 33 (λi=>pI .u64 ((λ_=>0) i)))]⟩) (ids:=(Kk [3000,4000])) (λ_ _ _ _ _ b x1 x2 d h=>?_) (hle:=kl2 2 3 (AC4 33 (pI .u64 0)) (AC4 33 (pI .u64 0)));apply kI Z h<;>intro h
 .obtain⟨c4,h⟩:=C8 h;exact d _ (Kk [3000,4000]) _ (OM x1 (0+x2.toNat*1) (shI .shl .u64 1 x2)) (wrap .i64 (x2+1)) c4 h (hle:=klR [(2,.fn 33 33 (λi=>[(λi=>if i=(0+x2.toNat*1)then (pI .u64 (shI .shl .u64 1 x2))else (λi=>pI .u64 (x1 i)) i) i]) (λi=>[pI .u64 (OM x1 (0+x2.toNat*1) (shI .shl .u64 1 x2) i)]))] (al1 ⟨rfl,AQ7 (c:=pI .u64) (v:=x1) (x:=shI .shl .u64 1 x2) (λ_ _=>rfl) rfl⟩ al0))
 obtain rfl:=B2 h;exact J6 Z (Kn rfl (G7 _ _):(0:Nat)=0/\(Ef 33 (λi=>pI .u64 (x1 i))).length=33) ⟨[(2,.reg 3000 0)],[(3000,.arr 33 (λi=>pI .u64 (x1 i)))]⟩ [] (ids:=[(3000,3000)]) ⟨rfl,rfl,rfl⟩ (hle:=kl1 0 (MD 33 (λi=>pI .u64 (x1 i))))
def P4 (N:Nat)(p_x:Nat->Int)(b:Nat->Int):Option (Nat->Int):= Ca N (λa (x1:Nat->Int) (x2:Int)=>if (decide (x2<33)) then if (((0:Int)<=x2/\x2<33)/\(0+x2.toNat*1)<33)then if (((((0:Int)<=x2/\x2<33)/\(0+x2.toNat*1)<33)/\((0:Int)<=x2/\x2<33))/\(0+x2.toNat*1)<33)then a (OM x1 (0+x2.toNat*1) (P0 .or .u64 (x1 (0+x2.toNat*1)) (b (0+x2.toNat*1)))) (wrap .i64 (x2+1)) else none else none else some x1) p_x 0
theorem FM {p_x:Nat->Int}{a:Nat->Int}{y:Nat->Int}(h:P4 N p_x a=some y) :Me S FJ [.reg 0 0,.reg 1 0] [.arr 33 (λi=>pI .u64 (p_x i)),.arr 33 (λi=>pI .u64 (a i))] (.tup []) ([.arr 33 (λi=>pI .u64 (y i)),.arr 33 (λi=>pI .u64 (a i))]) [true,true]:=by
 unfold P4 at h;refine A2 Z func247 ?_;refine I1 Z Fe h (λx1 x2=>⟨[(7,pN x2),(6,.reg 1 0),(0,.reg 0 0)],[(1,.arr 33 (λi=>pI .u64 (a i))),(0,.arr 33 (λi=>pI .u64 (x1 i)))]⟩) (ids:=(Kk [0,1])) (λ_ _ _ _ _ b x1 x2 d h=>?_);apply kI Z h<;>intro h
 .refine EZ Z Fe ?_;obtain⟨c8,h⟩:=C8 h;refine D0 c8 ?_;refine EZ Z Fe ?_;obtain⟨c9,h⟩:=C8 h;refine D0 c9 ?_;exact d _ (Kk [0,1]) _ (OM x1 (0+x2.toNat*1) (P0 .or .u64 (x1 (0+x2.toNat*1)) (a (0+x2.toNat*1)))) (wrap .i64 (x2+1)) Fe h (hle:=klR [(2,.fn 33 33 (λi=>[(λi=>if i=(0+x2.toNat*1)then (pI .u64 (P0 .or .u64 (x1 (0+x2.toNat*1)) (a (0+x2.toNat*1))))else (λi=>pI .u64 (x1 i)) i) i]) (λi=>[pI .u64 (OM x1 (0+x2.toNat*1) (P0 .or .u64 (x1 (0+x2.toNat*1)) (a (0+x2.toNat*1))) i)]))] (al1 ⟨rfl,AQ7 (c:=pI .u64) (v:=x1) (x:=P0 .or .u64 (x1 (0+x2.toNat*1)) (a (0+x2.toNat*1))) (λ_ _=>rfl) rfl⟩ al0))
 obtain rfl:=B2 h;exact kO Z Fe [0,1]
def AX (N:Nat)(b:Sl Kj)(a:Int):Option Int:= if ((decide (a<0))||(decide ((b.n:Int)<a))) then some 3 else some 0
theorem Lx {c:Sl Kj}{b:Int}{y:Int}(h:AX N c b=some y) :Me S Lu [.p (vSl 2 A0 c),pN b] [] (pN y) ([]) []:=by
 unfold AX at h;refine A2 Z func220 ?_;refine kB Z (A6 Z) Fe Fe 5 (.o (.a (decide (b<0))) (.a (decide ((c.n:Int)<b)))) ?_;apply kI Z h<;>intro h
 .cases h;exact kR Z
 cases h;exact kR Z
def BP (N:Nat)(a:Pat):Option Int:= if (if (a.Kind==0) then a.Kind==0 else (if (a.Kind==2) then a.Kind==2 else a.Kind==6)) then lt (λ(z1:Bool)=>if z1 then some 2 else (R5 N a.Is).bind λy1=>if (!y1) then some 14 else some 0) λk1=>if (((a.Is.Plus==0)&&(a.Is.Minus==0)) != true) then k1 true else if a.Not then k1 true else if (a.Min != 0) then k1 true else if (a.Max != 0) then k1 true else k1 (decide (0<(a.L.n:Int))) else if (a.Kind==1) then lt (λ(z2:Bool)=>if z2 then some 2 else (R5 N a.Is).bind λy2=>if (!y2) then some 14 else some 0) λk2=>if (((0==0)&&(0==0)) != true) then k2 true else if (a.Min != 0) then k2 true else if (a.Max != 0) then k2 true else k2 (decide (0<(a.L.n:Int))) else lt (λ(z3:Int×Int)=>if (((((((a.Is.Plus==0)&&(a.Is.Minus==0)) != true)||a.Not)||(z3.1 != 0))||(z3.2 != 0))||(decide (0<0))) then some 2 else (R5 N a.Is).bind λy3=>if (!y3) then some 14 else some 0) λk3=>if (if (a.Kind==3) then a.Kind==3 else a.Kind==4) then k3 (a.Min,a.Max) else if (a.Kind==5) then if (((((a.L.n:Int) != 1)||(decide (a.Min<0)))||(decide (32<a.Min)))||((a.Max != (-1))&&((decide (a.Max<a.Min))||(decide (32<a.Max))))) then some 2 else k3 (0,0) else some 2
theorem QL {c:Pat}{y:Int}(h:BP N c=some y) :Me S JF [.p (.agg (D4 c))] [] (pN y) ([]) []:=by
 unfold BP at h;refine A2 Z func130 ?_;obtain⟨t1,f⟩:∃x:Bool,x=(if (c.Kind==0) then c.Kind==0 else (if (c.Kind==2) then c.Kind==2 else c.Kind==6)):=⟨_,rfl⟩;refine Vd Z Fe (A6 Z) 0 ⟨[(8,pB t1),(7,pN c.Kind),(3,.reg 4000 0),(1,.reg 2000 0)],[(4000,.cells [pN 0,pU c.Is.Plus,pU c.Is.Minus,pB c.Not,pN c.Min,pN c.Max,.p (.sl false 7 c.L.n (ED c))]),(2000,.cells ((D4 c).map .p))]⟩ (λM1 l=>?_) ?_
 .refine C7 Z Fe (b:=c.Kind==0) (λc3=>?_) (λc3=>?_)
  .exact l _ (Kk [2000,4000]) _ Fe (hle:=klR [(0,.eq (.bb (c.Kind==0)) (.bb t1))] (al1 (by simp only[f,c3,Np.ok,pm,Ew,Ex]) al0))
  refine C7 Z Fe (b:=c.Kind==2) (λc4=>?_) (λc4=>?_)
  .exact l _ (Kk [2000,4000]) _ Fe (hle:=klR [(0,.eq (.bb (c.Kind==2)) (.bb t1))] (al1 (by simp only[f,c3,c4,Np.ok,pm,Ew,Ex]) al0))
  exact l _ (Kk [2000,4000]) _ Fe (hle:=klR [(0,.eq (.bb (c.Kind==6)) (.bb t1))] (al1 (by simp only[f,c3,c4,Np.ok,pm,Ew,Ex]) al0))
 subst f;apply kI Z h<;>intro h
 .refine Kz Z (by decide +kernel:Qd Tryz.prog B6=true) (A6 Z) h 0 (λz1=>⟨[(57,pB z1),(1,.reg 2000 0)],[(2000,.cells ((D4 c).map .p))]⟩) (λM3 k1 d h=>?_) (λz1 h=>?_)
  .refine kG Z h (λh=>?_) (λh=>?_)
   .exact d _ [(2000,2000)] _ true Fe h
   refine kG Z h (λh=>?_) (λh=>?_)
   .exact d _ [(2000,2000)] _ true Fe h
   refine kG Z h (λh=>?_) (λh=>?_)
   .exact d _ [(2000,2000)] _ true Fe h
   refine kG Z h (λh=>?_) (λh=>?_)
   .exact d _ [(2000,2000)] _ true Fe h
   refine N2 Z Fe 79 ⟨[(78,.p (vSl 7 D4 c.L)),(76,.p (.v (.bool false))),(1,.reg 2000 0)],[(2000,.cells ((D4 c).map .p))]⟩ (ids:=[(2000,2000)]) ?_ (hle:=klR [(0,.fn c.L.n c.L.n (ED c) (λi=>D4 (c.L.g i)))] (al1 ⟨rfl,Cb c⟩ al0));exact d _ [(2000,2000)] _ (decide (0<(c.L.n:Int))) Fe h
  apply kI Z h<;>intro h
  .cases h;exact kR Z
  refine kC Z h (FL Z Y) (λy1 h=>?_);apply kI Z h<;>intro h
  .cases h;exact kR Z
  cases h;exact kR Z
 apply kI Z h<;>intro h
 .refine Kz Z (by decide +kernel:Qd Tryz.prog B6=true) (A6 Z) h 0 (λz2=>⟨[(57,pB z2),(1,.reg 2000 0)],[(2000,.cells ((D4 c).map .p))]⟩) (λM5 k2 j h=>?_) (λz2 h=>?_)
  .refine kG Z h (λh=>?_) (λh=>?_)
   .exact j _ [(2000,2000)] _ true Fe h
   refine GU Z Fe (b:=false) (λc54=>?_) (λc54=>?_)
   .exact Bool.noConfusion ((rfl:false=false).symm.trans c54)
   refine kG Z h (λh=>?_) (λh=>?_)
   .exact j _ [(2000,2000)] _ true Fe h
   refine kG Z h (λh=>?_) (λh=>?_)
   .exact j _ [(2000,2000)] _ true Fe h
   refine N2 Z Fe 79 ⟨[(78,.p (vSl 7 D4 c.L)),(76,.p (.v (.bool false))),(1,.reg 2000 0)],[(2000,.cells ((D4 c).map .p))]⟩ (ids:=[(2000,2000)]) ?_ (hle:=klR [(0,.fn c.L.n c.L.n (ED c) (λi=>D4 (c.L.g i)))] (al1 ⟨rfl,Cb c⟩ al0));exact j _ [(2000,2000)] _ (decide (0<(c.L.n:Int))) Fe h
  apply kI Z h<;>intro h
  .cases h;exact kR Z
  refine kC Z h (FL Z Y) (λy2 h=>?_);apply kI Z h<;>intro h
  .cases h;exact kR Z
  cases h;exact kR Z
 obtain⟨t4,m⟩:∃x:Bool,x=(if (c.Kind==3) then c.Kind==3 else c.Kind==4):=⟨_,rfl⟩;refine Vd Z Fe (A6 Z) 0 ⟨[(17,pB t4),(7,pN c.Kind),(3,.reg 4000 0),(1,.reg 2000 0)],[(4000,.cells [pN 0,pU c.Is.Plus,pU c.Is.Minus,pB c.Not,pN c.Min,pN c.Max,.p (.sl false 7 c.L.n (ED c))]),(2000,.cells ((D4 c).map .p))]⟩ (λM6 q=>?_) ?_
 .refine C7 Z Fe (b:=c.Kind==3) (λc60=>?_) (λc60=>?_)
  .exact q _ (Kk [2000,4000]) _ Fe (hle:=klR [(0,.eq (.bb (c.Kind==3)) (.bb t4))] (al1 (by simp only[m,c60,Np.ok,pm,Ew,Ex]) al0))
  exact q _ (Kk [2000,4000]) _ Fe (hle:=klR [(0,.eq (.bb (c.Kind==4)) (.bb t4))] (al1 (by simp only[m,c60,Np.ok,pm,Ew,Ex]) al0))
 subst m;refine Kz Z Fe (A6 Z) h 0 (λz3=>⟨[(3,.reg 4000 0),(1,.reg 2000 0)],[(4000,.cells [pN 0,pU c.Is.Plus,pU c.Is.Minus,pB c.Not,pN z3.1,pN z3.2,.p C6]),(2000,.cells ((D4 c).map .p))]⟩) (λM7 k3 r h=>?_) (λz3 h=>?_)
 .apply kI Z h<;>intro h
  .exact r _ (Kk [2000,4000]) _ (c.Min,c.Max) Fe h
  apply kI Z h<;>intro h
  .refine N2 Z Fe 25 ⟨[(24,.p (vSl 7 D4 c.L)),(3,.reg 4000 0),(1,.reg 2000 0)],[(4000,.cells [pN 0,pU c.Is.Plus,pU c.Is.Minus,pB c.Not,pN c.Min,pN c.Max,.p (.sl false 7 c.L.n (ED c))]),(2000,.cells ((D4 c).map .p))]⟩ (ids:=(Kk [2000,4000])) ?_ (hle:=klR [(0,.fn c.L.n c.L.n (ED c) (λi=>D4 (c.L.g i)))] (al1 ⟨rfl,Cb c⟩ al0));refine kB Z (A6 Z) Fe Fe 26 (.o (.o (.o (.a ((c.L.n:Int) != 1)) (.a (decide (c.Min<0)))) (.a (decide (32<c.Min)))) (.n (.a (c.Max != (-1))) (.o (.a (decide (c.Max<c.Min))) (.a (decide (32<c.Max)))))) ?_;apply kI Z h<;>intro h
   .cases h;exact kR Z
   exact r _ (Kk [2000,4000]) _ (0,0) Fe h
  cases h;exact kR Z
 refine kB Z (A6 Z) (by decide +kernel:Qd Tryz.prog B6=true) Fe 19 (.o (.o (.o (.o (.a (((c.Is.Plus==0)&&(c.Is.Minus==0)) != true)) (.a c.Not)) (.a (z3.1 != 0))) (.a (z3.2 != 0))) (.a (decide (0<0)))) ?_;apply kI Z h<;>intro h
 .cases h;exact kR Z
 refine kC Z h (FL Z Y) (λy3 h=>?_);apply kI Z h<;>intro h
 .cases h;exact kR Z
 cases h;exact kR Z
end Go.AM
namespace Go.AM
open Go.Proofs.Tryz
variable {N:Nat}
open IntKind (wrap)
open Go.Proofs
set_option maxRecDepth 10000
set_option maxHeartbeats 2000000
variable {S:U5}(Z:G6 S Tryz.prog) (Y:JK S)
include Z Y
def CN (rec:Pat->Int->Option Int)(N:Nat)(b:Pat)(a:Int):Option Int:= Ca N (λc (x1:Int) (x2:Int)=>if ((decide (x2<(b.L.n:Int)))&&(decide (x1<=40))) then if ((0:Int)<=x2/\x2<(b.L.n:Int))then (rec (b.L.g x2.toNat) x1).bind λy3=>c y3 (wrap .i64 (x2+1)) else none else some x1) (wrap .i64 (a+1)) 0
def Cn:Nat->Pat->Int->Option Int
 |0=>λ_ _=>none
 |N+1=>CN (Cn N) N
theorem VW {rec:Pat->Int->Option Int}(d:∀{b:Pat}{c:Int}{y:Int},rec b c=some y->Me S GZ [.p (.agg (D4 b)),pN c] [] (pN y) ([]) []){b:Pat}{c:Int}{y:Int}(h:CN rec N b c=some y) :Me S GZ [.p (.agg (D4 b)),pN c] [] (pN y) ([]) []:=by
 unfold CN at h;refine A2 Z func164 ?_;refine I1 Z Fe h (λx1 x2=>⟨[(6,pN x2),(5,pN x1),(2,.reg 3000 0)],[(3000,.cells ((D4 b).map .p))]⟩) (ids:=[(3000,3000)]) (λ_ _ _ _ _ f x1 x2 j h=>?_);refine N2 Z Fe 12 ⟨[(11,.p (vSl 7 D4 b.L)),(9,pN x2),(6,pN x2),(5,pN x1),(2,.reg 3000 0)],[(3000,.cells ((D4 b).map .p))]⟩ (ids:=[(3000,3000)]) ?_ (hle:=klR [(0,.fn b.L.n b.L.n (ED b) (λi=>D4 (b.L.g i)))] (al1 ⟨rfl,Cb b⟩ al0));refine kB Z (A6 Z) Fe Fe 3 (.n (.a (decide (x2<(b.L.n:Int)))) (.a (decide (x1<=40)))) ?_;apply kI Z h<;>intro h
 .refine N2 Z Fe 23 ⟨[(22,pN x2),(21,.p (vSl 7 D4 b.L)),(6,pN x2),(5,pN x1),(2,.reg 3000 0)],[(3000,.cells ((D4 b).map .p))]⟩ (ids:=[(3000,3000)]) ?_ (hle:=klR [(1,.fn b.L.n b.L.n (ED b) (λi=>D4 (b.L.g i)))] (al1 ⟨rfl,Cb b⟩ al0));obtain⟨c6,h⟩:=C8 h;obtain⟨y3,e3,h⟩:=A9 h;refine B4 Z [] (Kn c6 Iq) (d e3) ?_;exact j _ [(3000,3000)] _ y3 (wrap .i64 (x2+1)) Fe h
 cases h;exact kR Z
theorem XV {b:Pat}{a:Int}{y:Int}(h:Cn N b a=some y) :Me S GZ [.p (.agg (D4 b)),pN a] [] (pN y) ([]) []:=by
 induction N generalizing b a y with
 |zero=>cases (show (none:Option Int)=some y from h)
 |succ N ih=>exact VW Z Y (λe=>ih e) h
def Dq (N:Nat)(a:Pat):Option Int:= (Cn N a 0).bind λy1=>some y1
theorem Mh {a:Pat}{y:Int}(h:Dq N a=some y) :Me S RQ [.p (.agg (D4 a))] [] (pN y) ([]) []:=by unfold Dq at h;refine A2 Z func128 ?_;refine kC Z h (XV Z Y) (λy1 h=>?_);cases h;exact kR Z
def Ay (rec:Pat->Option Int)(N:Nat)(a:Pat):Option Int:= Ca N (λb (x1:Int) (x2:Int)=>if (decide (x2<(a.L.n:Int))) then if ((0:Int)<=x2/\x2<(a.L.n:Int))then (rec (a.L.g x2.toNat)).bind λy3=>b (wrap .i64 (x1+y3)) (wrap .i64 (x2+1)) else none else some x1) ((if (a.Kind==5) then 1 else 0):Int) 0
def AY:Nat->Pat->Option Int
 |0=>λ_=>none
 |N+1=>Ay (AY N) N
theorem QM {rec:Pat->Option Int}(d:∀{a:Pat}{y:Int},rec a=some y->Me S EE [.p (.agg (D4 a))] [] (pN y) ([]) []){a:Pat}{y:Int}(h:Ay rec N a=some y) :Me S EE [.p (.agg (D4 a))] [] (pN y) ([]) []:=by
 unfold Ay at h;refine A2 Z func163 ?_;obtain⟨t1,c⟩:∃x:Int,x=((if (a.Kind==5) then 1 else 0):Int):=⟨_,rfl⟩;refine Vd Z Fe (A6 Z) 0 ⟨[(3,pN t1),(1,.reg 2000 0)],[(2000,.cells ((D4 a).map .p))]⟩ (λM1 f=>?_) ?_
 .refine C7 Z Fe (b:=a.Kind==5) (λc2=>?_) (λc2=>?_)
  .exact f _ [(2000,2000)] _ Fe (hle:=klR [(0,.eq (pI .i64 1) (pI .i64 t1))] (al1 (by simp only[c,c2,Np.ok,pm,Ew,Ex]) al0))
  exact f _ [(2000,2000)] _ Fe (hle:=klR [(0,.eq (pI .i64 0) (pI .i64 t1))] (al1 (by simp only[c,c2,Np.ok,pm,Ew,Ex]) al0))
 subst c;refine I1 Z Fe h (λx1 x2=>⟨[(4,pN x2),(3,pN x1),(1,.reg 2000 0)],[(2000,.cells ((D4 a).map .p))]⟩) (ids:=[(2000,2000)]) (λ_ _ _ _ _ j x1 x2 l h=>?_);refine N2 Z Fe 11 ⟨[(10,.p (vSl 7 D4 a.L)),(8,pN x2),(4,pN x2),(3,pN x1),(1,.reg 2000 0)],[(2000,.cells ((D4 a).map .p))]⟩ (ids:=[(2000,2000)]) ?_ (hle:=klR [(0,.fn a.L.n a.L.n (ED a) (λi=>D4 (a.L.g i)))] (al1 ⟨rfl,Cb a⟩ al0));apply kI Z h<;>intro h
 .refine N2 Z Fe 19 ⟨[(18,pN x2),(17,.p (vSl 7 D4 a.L)),(15,pN x1),(4,pN x2),(1,.reg 2000 0)],[(2000,.cells ((D4 a).map .p))]⟩ (ids:=[(2000,2000)]) ?_ (hle:=klR [(1,.fn a.L.n a.L.n (ED a) (λi=>D4 (a.L.g i)))] (al1 ⟨rfl,Cb a⟩ al0));obtain⟨c8,h⟩:=C8 h;obtain⟨y3,e3,h⟩:=A9 h;refine B4 Z [] (Kn c8 Iq) (d e3) ?_;exact l _ [(2000,2000)] _ (wrap .i64 (x1+y3)) (wrap .i64 (x2+1)) Fe h
 cases h;exact kR Z
theorem Ty {a:Pat}{y:Int}(h:AY N a=some y) :Me S EE [.p (.agg (D4 a))] [] (pN y) ([]) []:=by
 induction N generalizing a y with
 |zero=>cases (show (none:Option Int)=some y from h)
 |succ N ih=>exact QM Z Y (λe=>ih e) h
def EL (N:Nat)(a:Sl Law):Option Int:= Ca N (λc (x3:Int) (x4:Int)=>if ((decide (x4<(a.n:Int)))&&(decide (x4<=300))) then if (((0:Int)<=x4/\x4<(a.n:Int))/\((0:Int)<=x4/\x4<(a.n:Int)))then Ca N (λb (x7:Int) (x8:Int)=>if (decide (x8<((Sl.of [(a.g x4.toNat).Left,(a.g x4.toNat).Right]:Sl Pat).n:Int))) then if ((0:Int)<=x8/\x8<((Sl.of [(a.g x4.toNat).Left,(a.g x4.toNat).Right]:Sl Pat).n:Int))then (Dq N ((Sl.of [(a.g x4.toNat).Left,(a.g x4.toNat).Right]:Sl Pat).g x8.toNat)).bind λd=>if (decide (d<=40)) then (AY N ((Sl.of [(a.g x4.toNat).Left,(a.g x4.toNat).Right]:Sl Pat).g x8.toNat)).bind λf=>b (wrap .i64 (x7+f)) (wrap .i64 (x8+1)) else b x7 (wrap .i64 (x8+1)) else none else c (if x3<x7 then x7 else x3) (wrap .i64 (x4+1))) 0 0 else none else some x3) 0 0
theorem Ae5 {b:Sl Law}{y:Int}(h:EL N b=some y) :Me S RO [.p (vSl 18 B5 b)] [] (pN y) ([]) []:=by
 unfold EL at h;refine A2 Z func127 ?_;refine I1 Z Fe h (λx3 x4=>⟨[(4,pN x4),(3,pN x3),(0,.p (vSl 18 B5 b))],[]⟩) (ids:=[]) (λ_ _ _ _ _ d x3 x4 f h=>?_);refine kB Z (A6 Z) Fe Fe 3 (.n (.a (decide (x4<(b.n:Int)))) (.a (decide (x4<=300)))) ?_;apply kI Z h<;>intro h
 .refine E2 Z Fe [2,4,7,9] ?_;obtain⟨c24,h⟩:=C8 h;refine M4 (Kn (Kn (Kn c24.1 (by decide:(7:Nat)<=17)) c24.2) (by decide:(7:Nat)<=10)) (x:=.sl true 7 2 (G2 [pI .i64 0,pI .u32 0,pI .u32 0,.v (.bool false),pI .i64 0,pI .i64 0,C6] [(0,D4 (b.g x4.toNat).Left),(1,D4 (b.g x4.toNat).Right)])) ?_;refine D0 Fe ?_;refine I1 Z Fe h (λx7 x8=>⟨[(30,pN x8),(29,pN ((Sl.of [(b.g x4.toNat).Left,(b.g x4.toNat).Right]:Sl Pat).n:Int)),(28,.p (vSl 7 D4 (Sl.of [(b.g x4.toNat).Left,(b.g x4.toNat).Right]:Sl Pat))),(5,pN x7),(4,pN x4),(3,pN x3),(0,.p (vSl 18 B5 b))],[]⟩) (ids:=[]) (λ_ _ _ _ _ i x7 x8 c h=>?_) (hle:=kl1 2 (Ad2 D4 ([(b.g x4.toNat).Left,(b.g x4.toNat).Right]:List Pat) [pI .i64 0,pI .u32 0,pI .u32 0,.v (.bool false),pI .i64 0,pI .i64 0,C6]));apply kI Z h<;>intro h
  .obtain⟨c32,h⟩:=C8 h;refine F6 Z (Kn c32 Iq) 34 8000 (D4 ((Sl.of [(b.g x4.toNat).Left,(b.g x4.toNat).Right]:Sl Pat).g x8.toNat)) ?_;obtain⟨l,e17,h⟩:=A9 h;refine B4 Z [] Iq (Mh Z Y e17) ?_;apply kI Z h<;>intro h
   .obtain⟨j,e18,h⟩:=A9 h;refine B4 Z [] Iq (Ty Z Y e18) ?_;exact c _ [] _ (wrap .i64 (x7+j)) (wrap .i64 (x8+1)) Fe h
   exact c _ [] _ x7 (wrap .i64 (x8+1)) Fe h
  exact f _ [] _ (if x3<x7 then x7 else x3) (wrap .i64 (x4+1)) Fe h
 cases h;exact kR Z
end Go.AM
namespace Go.AM
open Go.Proofs.Tryz
variable {N:Nat}
open IntKind (wrap)
open Go.Proofs
set_option maxRecDepth 10000
set_option maxHeartbeats 2000000
variable {S:U5}(Z:G6 S Tryz.prog) (Y:JK S)
include Z Y
def T3 (N:Nat)(q0:Int):Option (List (Int)):= X5 N (λa (x1:Int)=>if (x1 != 0) then (I3 N x1).bind λy3=>if (0:Int)<=y3 then Ak y3 (a (P0 .andNot .u64 x1 (shI .shl .u64 1 y3))) else none else some []) q0
theorem Em {q0:Int}{L:List (Int)}(h:T3 N q0=some L) :EW S El [] [.reg 0 0] [.cells [.p (pI .u64 q0)]] (L.map (λ(x:Int)=>[pI .i64 x])):=by
 unfold T3 at h;refine EC Z func224 ?_;refine Dl Z Fe h (λx1 L1=>⟨[(1,.reg 0 0),(0,.yf 1)],[(1,.yld (L1.map (λ(x:Int)=>[pI .i64 x])) true),(0,.cells [.p (pI .u64 x1)])]⟩) (ids:=(Kk [0,1])) (λ_ _ _ _ _ d x1 L1 f h=>?_);apply kI Z h<;>intro h
 .refine kC Z h (Fi Z Y) (λy3 h=>?_);refine EZ Z Fe ?_;obtain⟨c10,h⟩:=C8 h;refine D0 c10 ?_;obtain⟨L4,rfl,c⟩:=Ma h;replace h:=c;refine Dk Z Fe (ys:=(λ(x:Int)=>[pI .i64 x]) y3) (rest:=L4.map (λ(x:Int)=>[pI .i64 x])) ?_ ?_
  .refine C7 Z Fe (b:=false) (λc11=>?_) (λc11=>?_)
   .exact Bool.noConfusion ((rfl:false=false).symm.trans c11)
   exact f _ (Kk [0,1]) _ (P0 .andNot .u64 x1 (shI .shl .u64 1 y3)) L4 Fe h
  refine C7 Z Fe (b:=true) (λc12=>?_) (λc12=>?_)
  .exact kO Z Fe (a:=.tup []) (objs:=[(.cells [.p (pI .u64 (P0 .andNot .u64 x1 (shI .shl .u64 1 y3)))]),.yld [] false]) [0,1] ⟨false,rfl,rfl,_,rfl⟩
  exact Bool.noConfusion (Ix.symm.trans c12)
 obtain rfl:=B2 h;exact kO Z Fe (a:=.tup []) (objs:=[(.cells [.p (pI .u64 x1)]),.yld [] true]) [0,1] ⟨true,rfl,rfl,_,rfl⟩
def BQ (N:Nat)(a:Int):Option (Int):= some a
theorem FZ {a:Int}{y:Int}(h:BQ N a=some y) :Me S JJ [.p (pI .u64 a)] [] (.clo El [] [.reg 0 0]) ([.cells [.p (pI .u64 y)]]) []:=by unfold BQ at h;refine A2 Z func221 ?_;obtain rfl:=B2 h;exact kO Z Fe [2000]
def F1 (N:Nat)(p_x:Nat->Int)(c:Nat->Int):Option (Nat->Int):= Ca N (λa (x3:Nat->Int) (x4:Int)=>if (decide (x4<33)) then if (((0:Int)<=x4/\x4<33)/\(0+x4.toNat*1)<33)then (BQ N (p_x (0+x4.toNat*1))).bind λy3=>(T3 N y3).bind λL3=>T2 L3 (λb (x7:Int) (z3:Nat->Int)=>if (((((((0:Int)<=x4/\x4<33)/\(0+x4.toNat*1)<33)/\((0:Int)<=x7/\x7<33))/\(0+x7.toNat*1)<33)/\((0:Int)<=x4/\x4<33))/\(0+x4.toNat*1)<33)then b (OM z3 (0+x4.toNat*1) (P0 .or .u64 (z3 (0+x4.toNat*1)) (c (0+x7.toNat*1)))) else none) (λ(z3:Nat->Int)=>a z3 (wrap .i64 (x4+1))) x3 else none else some x3) (λ_=>0) 0
theorem V5 {p_x:Nat->Int}{b:Nat->Int}{y:Nat->Int}(h:F1 N p_x b=some y) :Me S Bs [.reg 0 0,.reg 1 0] [.arr 33 (λi=>pI .u64 (p_x i)),.arr 33 (λi=>pI .u64 (b i))] (.p (.agg (cA 33 (pI .u64) y))) ([.arr 33 (λi=>pI .u64 (p_x i)),.arr 33 (λi=>pI .u64 (b i))]) [true,true]:=by
 unfold F1 at h;refine A2 Z func250 ?_;refine I1 Z Fe h (λx3 x4=>⟨[(10,pN x4),(9,.reg 0 0),(5,.reg 6000 0),(4,.reg 5000 0),(3,.reg 4000 0)],[(6000,.arr 33 (λi=>pI .u64 (x3 i))),(5000,.arr 33 (λi=>pI .u64 ((λ_=>0) i))),(4000,.cells [.reg 1 0]),(1,.arr 33 (λi=>pI .u64 (b i))),(0,.arr 33 (λi=>pI .u64 (p_x i)))]⟩) (ids:=(Kk [0,1,4000,5000,6000])) (λ_ _ _ _ _ d x3 x4 f h=>?_) (hle:=kl2 1 2 (AC4 33 (pI .u64 0)) (AC4 33 (pI .u64 0)));apply kI Z h<;>intro h
 .refine F2 Z Fe [(2,.l [0]),(3,.l [0]),(4,.a [7000]),(5,.a [7000])] ?_;obtain⟨c12,h⟩:=C8 h;refine D0 c12 ?_;refine F6 Z Fe 16 7000 [pI .i64 x4] ?_;refine kC Z h (FZ Z Y) (λy3 h=>?_);obtain⟨L3,e6,h⟩:=A9 h;refine GV Z Fe [18000] [10,9,6,5,4,3] 905 (λz3=>⟨[(10,pN x4),(9,.reg 0 0),(6,.p (.ptr [pI .i64 x4])),(5,.reg 6000 0),(4,.reg 5000 0),(3,.reg 4000 0)],[(6000,.arr 33 (λi=>pI .u64 (z3 i))),(5000,.arr 33 (λi=>pI .u64 ((λ_=>0) i))),(4000,.cells [.reg 1 0]),(1,.arr 33 (λi=>pI .u64 (b i))),(0,.arr 33 (λi=>pI .u64 (p_x i)))]⟩) (idl:=(Kk [0,1,4000,5000,6000])) h (Em Z Y e6) (λ_=>by kernel_rfl) (λ_=>by kernel_rfl) (λ_=>by kernel_rfl) (λ_=>by kernel_rfl) (λx7 _ g z3 j h=>?_) (λz3 h=>?_)
  .refine Kh Z Fe ?_;refine F2 Z Fe [(0,.n),(1,.l [6000]),(2,.l [6000]),(3,.l [4000]),(6,.l [1]),(7,.l [1]),(9,.l [6000]),(10,.a [6000])] ?_;obtain⟨c15,h⟩:=C8 h;refine D0 c15 ?_;exact j _ (Kk [0,1,905,4000,5000,6000]) _ (OM z3 (0+x4.toNat*1) (P0 .or .u64 (z3 (0+x4.toNat*1)) (b (0+x7.toNat*1)))) Fe h (hle:=klR [(0,.fn 33 33 (λi=>[(λi=>if i=(0+x4.toNat*1)then (pI .u64 (P0 .or .u64 (z3 (0+x4.toNat*1)) (b (0+x7.toNat*1))))else (λi=>pI .u64 (z3 i)) i) i]) (λi=>[pI .u64 (OM z3 (0+x4.toNat*1) (P0 .or .u64 (z3 (0+x4.toNat*1)) (b (0+x7.toNat*1))) i)]))] (al1 ⟨rfl,AQ7 (c:=pI .u64) (v:=z3) (x:=P0 .or .u64 (z3 (0+x4.toNat*1)) (b (0+x7.toNat*1))) (λ_ _=>rfl) rfl⟩ al0))
  exact f _ (Kk [0,1,4000,5000,6000]) _ z3 (wrap .i64 (x4+1)) Fe h
 obtain rfl:=B2 h;exact J6 Z (Kn rfl (G7 _ _):(0:Nat)=0/\(Ef 33 (λi=>pI .u64 (x3 i))).length=33) ⟨[(4,.reg 5000 0)],[(5000,.arr 33 (λi=>pI .u64 (x3 i))),(1,.arr 33 (λi=>pI .u64 (b i))),(0,.arr 33 (λi=>pI .u64 (p_x i)))]⟩ [0,1] (ids:=(Kk [0,1,5000])) ⟨rfl,rfl,rfl⟩ (hle:=kl1 0 (MD 33 (λi=>pI .u64 (x3 i))))
def O8 (N:Nat)(p_x:Nat->Int):Option (Nat->Int):= Ca N (λa (x3:Nat->Int) (x4:Int)=>if (decide (x4<33)) then if (((0:Int)<=x4/\x4<33)/\(0+x4.toNat*1)<33)then (BQ N (p_x (0+x4.toNat*1))).bind λy3=>(T3 N y3).bind λL3=>T2 L3 (λb (x7:Int) (z3:Nat->Int)=>if (((((((0:Int)<=x4/\x4<33)/\(0+x4.toNat*1)<33)/\((0:Int)<=x7/\x7<33))/\(0+x7.toNat*1)<33)/\((0:Int)<=x4/\x4<33))/\(0+x4.toNat*1)<33)then b (OM z3 (0+x4.toNat*1) (P0 .or .u64 (z3 (0+x4.toNat*1)) (p_x (0+x7.toNat*1)))) else none) (λ(z3:Nat->Int)=>a z3 (wrap .i64 (x4+1))) x3 else none else some x3) (λ_=>0) 0
theorem DS {p_x:Nat->Int}{y:Nat->Int}(h:O8 N p_x=some y) :Me S Bs [.reg 0 0,.reg 0 0] [.arr 33 (λi=>pI .u64 (p_x i))] (.p (.agg (cA 33 (pI .u64) y))) ([.arr 33 (λi=>pI .u64 (p_x i))]) [true]:=by
 unfold O8 at h;refine A2 Z func250 ?_;refine I1 Z Fe h (λx3 x4=>⟨[(10,pN x4),(9,.reg 0 0),(5,.reg 6000 0),(4,.reg 5000 0),(3,.reg 4000 0)],[(6000,.arr 33 (λi=>pI .u64 (x3 i))),(5000,.arr 33 (λi=>pI .u64 ((λ_=>0) i))),(4000,.cells [.reg 0 0]),(0,.arr 33 (λi=>pI .u64 (p_x i)))]⟩) (ids:=(Kk [0,4000,5000,6000])) (λ_ _ _ _ _ b x3 x4 d h=>?_) (hle:=kl2 1 2 (AC4 33 (pI .u64 0)) (AC4 33 (pI .u64 0)));apply kI Z h<;>intro h
 .refine F2 Z Fe [(2,.l [0]),(3,.l [0]),(4,.a [7000]),(5,.a [7000])] ?_;obtain⟨c12,h⟩:=C8 h;refine D0 c12 ?_;refine F6 Z Fe 16 7000 [pI .i64 x4] ?_;refine kC Z h (FZ Z Y) (λy3 h=>?_);obtain⟨L3,e6,h⟩:=A9 h;refine GV Z Fe [18000] [10,9,6,5,4,3] 905 (λz3=>⟨[(10,pN x4),(9,.reg 0 0),(6,.p (.ptr [pI .i64 x4])),(5,.reg 6000 0),(4,.reg 5000 0),(3,.reg 4000 0)],[(6000,.arr 33 (λi=>pI .u64 (z3 i))),(5000,.arr 33 (λi=>pI .u64 ((λ_=>0) i))),(4000,.cells [.reg 0 0]),(0,.arr 33 (λi=>pI .u64 (p_x i)))]⟩) (idl:=(Kk [0,4000,5000,6000])) h (Em Z Y e6) (λ_=>by kernel_rfl) (λ_=>by kernel_rfl) (λ_=>by kernel_rfl) (λ_=>by kernel_rfl) (λx7 _ f z3 g h=>?_) (λz3 h=>?_)
  .refine Kh Z Fe ?_;refine F2 Z Fe [(0,.n),(1,.l [6000]),(2,.l [6000]),(3,.l [4000]),(6,.l [0]),(7,.l [0]),(9,.l [6000]),(10,.a [6000])] ?_;obtain⟨c15,h⟩:=C8 h;refine D0 c15 ?_;exact g _ (Kk [0,905,4000,5000,6000]) _ (OM z3 (0+x4.toNat*1) (P0 .or .u64 (z3 (0+x4.toNat*1)) (p_x (0+x7.toNat*1)))) Fe h (hle:=klR [(0,.fn 33 33 (λi=>[(λi=>if i=(0+x4.toNat*1)then (pI .u64 (P0 .or .u64 (z3 (0+x4.toNat*1)) (p_x (0+x7.toNat*1))))else (λi=>pI .u64 (z3 i)) i) i]) (λi=>[pI .u64 (OM z3 (0+x4.toNat*1) (P0 .or .u64 (z3 (0+x4.toNat*1)) (p_x (0+x7.toNat*1))) i)]))] (al1 ⟨rfl,AQ7 (c:=pI .u64) (v:=z3) (x:=P0 .or .u64 (z3 (0+x4.toNat*1)) (p_x (0+x7.toNat*1))) (λ_ _=>rfl) rfl⟩ al0))
  exact d _ (Kk [0,4000,5000,6000]) _ z3 (wrap .i64 (x4+1)) Fe h
 obtain rfl:=B2 h;exact J6 Z (Kn rfl (G7 _ _):(0:Nat)=0/\(Ef 33 (λi=>pI .u64 (x3 i))).length=33) ⟨[(4,.reg 5000 0)],[(5000,.arr 33 (λi=>pI .u64 (x3 i))),(0,.arr 33 (λi=>pI .u64 (p_x i)))]⟩ [0] (ids:=(Kk [0,5000])) ⟨rfl,rfl,rfl⟩ (hle:=kl1 0 (MD 33 (λi=>pI .u64 (x3 i))))
def G4 (N:Nat)(p_x:Nat->Int)(b:Int)(c:Int):Option (Nat->Int):= (S9 N c).bind λy1=>Al7 N (λa (x1:Int) (x2:Nat->Int) (x3:Nat->Int)=>if (decide (0<x1)) then if ((P0 .and .i64 x1 1)==1) then (F1 N x3 x2).bind λy8=>(O8 N x2).bind λy9=>a (shI .shr .i64 x1 1) y9 y8 else (O8 N x2).bind λd=>a (shI .shr .i64 x1 1) d x3 else some x3) b p_x y1
theorem Az {p_x:Nat->Int}{b:Int}{c:Int}{y:Nat->Int}(h:G4 N p_x b c=some y) :Me S DP [.p (.agg (cA 33 (pI .u64) p_x)),pN b,pN c] [] (.p (.agg (cA 33 (pI .u64) y))) ([]) []:=by
 unfold G4 at h;refine A2 Z func243 ?_;refine kC Z h (Fk Z Y) (λy1 h=>?_);refine KW Z (Kn rfl (G7 _ _):(0:Nat)=0/\(Ef 33 (λi=>pI .u64 (y1 i))).length=33) h (λx1 x2 x3=>⟨[(7,.reg 8000 0),(6,.reg 7000 0),(3,.reg 4000 0),(1,pN x1)],[(8000,.arr 33 (λi=>pI .u64 (x3 i))),(7000,.arr 33 (λi=>pI .u64 ((λ_=>0) i))),(4000,.arr 33 (λi=>pI .u64 (x2 i)))]⟩) (ids:=(Kk [4000,7000,8000])) (λ_ _ _ _ _ f x1 x2 x3 d h=>?_) (hle:=klR [(1,.fn 33 33 (λi=>[(λi=>(cA 33 (pI .u64) y1).getD i default) i]) (λi=>[pI .u64 (y1 i)])),(2,.fn 33 33 (λi=>[(λi=>(List.replicate 33 (pI .u64 0)).getD i default) i]) (λi=>[pI .u64 ((λ_=>0) i)])),(3,.fn 33 33 (λi=>[(λi=>(cA 33 (pI .u64) p_x).getD i default) i]) (λi=>[pI .u64 (p_x i)]))] (al1 ⟨rfl,DA 33 (λi=>pI .u64 (y1 i))⟩ (al1 ⟨rfl,OL (z:=pI .u64 0) rfl⟩ (al1 ⟨rfl,DA 33 (λi=>pI .u64 (p_x i))⟩ al0))));apply kI Z h<;>intro h
 .apply kI Z h<;>intro h
  .obtain⟨y8,e8,h⟩:=A9 h;refine B4 Z [8000,4000] Fe (V5 Z Y e8) ?_;obtain⟨y9,e9,h⟩:=A9 h;refine B4 Z [4000] (Kn rfl (G7 _ _):(0:Nat)=0/\(Ef 33 (λi=>pI .u64 (y8 i))).length=33) (DS Z Y e9) ?_;exact d _ (Kk [4000,7000,8000]) _ (shI .shr .i64 x1 1) y9 y8 (Kn (Kn rfl (G7 _ _):(0:Nat)=0/\(Ef 33 (λi=>pI .u64 (y9 i))).length=33) (by decide:(0:Int)<=1)) h (hle:=kl2 1 3 (MD 33 (λi=>pI .u64 (y8 i))) (MD 33 (λi=>pI .u64 (y9 i))))
  obtain⟨a,e10,h⟩:=A9 h;refine B4 Z [4000] Fe (DS Z Y e10) ?_;exact d _ (Kk [4000,7000,8000]) _ (shI .shr .i64 x1 1) a x3 (Kn (Kn rfl (G7 _ _):(0:Nat)=0/\(Ef 33 (λi=>pI .u64 (a i))).length=33) (by decide:(0:Int)<=1)) h (hle:=kl1 3 (MD 33 (λi=>pI .u64 (a i))))
 obtain rfl:=B2 h;exact J6 Z (Kn rfl (G7 _ _):(0:Nat)=0/\(Ef 33 (λi=>pI .u64 (x3 i))).length=33) ⟨[(6,.reg 7000 0)],[(7000,.arr 33 (λi=>pI .u64 (x3 i)))]⟩ [] (ids:=[(7000,7000)]) ⟨rfl,rfl,rfl⟩ (hle:=kl1 0 (MD 33 (λi=>pI .u64 (x3 i))))
end Go.AM
namespace Go.AM
open Go.Proofs.Tryz
variable {N:Nat}
open IntKind (wrap)
open Go.Proofs
set_option maxRecDepth 10000
set_option maxHeartbeats 2000000
variable {S:U5}(Z:G6 S Tryz.prog) (Y:JK S)
include Z Y
def AA (N:Nat)(p_x:Ao0)(b:Sl Kj):Option (Nat->Int):= Ca N (λa (x1:Nat->Int) (x2:Int)=>if (decide (x2<(b.n:Int))) then if ((0:Int)<=x2/\x2<(b.n:Int))then if ((((P0 .or .u32 (P0 .andNot .u32 p_x.is.Plus (b.g x2.toNat).Plus) (P0 .andNot .u32 p_x.is.Minus (b.g x2.toNat).Minus))==0)==p_x.not) != true) then if (((0:Int)<=(wrap .i64 (x2+1))/\((0:Int)<=x2/\x2<33))/\(0+x2.toNat*1)<33)then a (OM x1 (0+x2.toNat*1) (shI .shl .u64 1 (wrap .i64 (x2+1)))) (wrap .i64 (x2+1)) else none else a x1 (wrap .i64 (x2+1)) else none else some x1) (λ_=>0) 0
theorem PF {p_x:Ao0}{a:Sl Kj}{y:Nat->Int}(h:AA N p_x a=some y) :Me S Fh [.p (.agg (Zv p_x)),.p (vSl 2 A0 a)] [] (.p (.agg (cA 33 (pI .u64) y))) ([]) []:=by
 unfold AA at h;refine A2 Z func244 ?_;refine I1 Z Fe h (λx1 x2=>⟨[(9,pN x2),(8,pN (a.n:Int)),(7,.p (vSl 2 A0 a)),(4,.reg 5000 0),(2,.reg 3000 0)],[(5000,.arr 33 (λi=>pI .u64 (x1 i))),(3000,.cells ((Zv p_x).map .p))]⟩) (ids:=(Kk [3000,5000])) (λ_ _ _ _ _ f x1 x2 d h=>?_) (hle:=kl1 3 (AC4 33 (pI .u64 0)));apply kI Z h<;>intro h
 .obtain⟨c8,h⟩:=C8 h;refine C7 Z (Kn c8 Gt) (b:=(((P0 .or .u32 (P0 .andNot .u32 p_x.is.Plus (a.g x2.toNat).Plus) (P0 .andNot .u32 p_x.is.Minus (a.g x2.toNat).Minus))==0)==p_x.not) != true) (λc9=>?_) (λc9=>?_)
  .replace h:=itT c9 h;obtain⟨c10,h⟩:=C8 h;exact d _ (Kk [3000,5000]) _ (OM x1 (0+x2.toNat*1) (shI .shl .u64 1 (wrap .i64 (x2+1)))) (wrap .i64 (x2+1)) c10 h (hle:=klR [(3,.fn 33 33 (λi=>[(λi=>if i=(0+x2.toNat*1)then (pI .u64 (shI .shl .u64 1 (wrap .i64 (x2+1))))else (λi=>pI .u64 (x1 i)) i) i]) (λi=>[pI .u64 (OM x1 (0+x2.toNat*1) (shI .shl .u64 1 (wrap .i64 (x2+1))) i)]))] (al1 ⟨rfl,AQ7 (c:=pI .u64) (v:=x1) (x:=shI .shl .u64 1 (wrap .i64 (x2+1))) (λ_ _=>rfl) rfl⟩ al0))
  replace h:=itF c9 h;exact d _ (Kk [3000,5000]) _ x1 (wrap .i64 (x2+1)) Fe h
 obtain rfl:=B2 h;exact J6 Z (Kn rfl (G7 _ _):(0:Nat)=0/\(Ef 33 (λi=>pI .u64 (x1 i))).length=33) ⟨[(4,.reg 5000 0)],[(5000,.arr 33 (λi=>pI .u64 (x1 i)))]⟩ [] (ids:=[(5000,5000)]) ⟨rfl,rfl,rfl⟩ (hle:=kl1 0 (MD 33 (λi=>pI .u64 (x1 i))))
def BR (N:Nat)(p_x:AR8)(a:Sl Kj):Option (Nat->Int):= if p_x.end_ then if (((0:Int)<=(a.n:Int)/\((0:Int)<=(a.n:Int)/\(a.n:Int)<33))/\(0+(a.n:Int).toNat*1)<33)then some (OM (λ_=>0) (0+(a.n:Int).toNat*1) (shI .shl .u64 1 (a.n:Int))) else none else if (((0:Int)<=0/\(0:Int)<33)/\(0+0*1)<33)then some (OM (λ_=>0) (0+0*1) (shI .shl .u64 1 0)) else none
theorem QN {p_x:AR8}{a:Sl Kj}{y:Nat->Int}(h:BR N p_x a=some y) :Me S FY [.p (.agg (AR9 p_x)),.p (vSl 2 A0 a)] [] (.p (.agg (cA 33 (pI .u64) y))) ([]) []:=by
 unfold BR at h;refine A2 Z func245 ?_;apply kI Z h<;>intro h
 .obtain⟨c2,h⟩:=C8 h;obtain rfl:=B2 h;exact J6 Z (Kn (Kn (Kn c2.1.1 c2.1.2) c2.2) (Kn rfl (G7 _ _):(0:Nat)=0/\(Ef 33 (λi=>if i=(0+(a.n:Int).toNat*1)then (pI .u64 (shI .shl .u64 1 (a.n:Int)))else (λi=>(List.replicate 33 (pI .u64 0)).getD i default) i)).length=33)) ⟨[(4,.reg 5000 0)],[(5000,.arr 33 (λi=>pI .u64 (OM (λ_=>0) (0+(a.n:Int).toNat*1) (shI .shl .u64 1 (a.n:Int)) i)))]⟩ [] (ids:=[(5000,5000)]) ⟨rfl,rfl,rfl⟩ (hle:=klR [(0,.fn 33 33 (λi=>[(λi=>(Ef 33 (λi=>if i=(0+(a.n:Int).toNat*1)then (pI .u64 (shI .shl .u64 1 (a.n:Int)))else (λi=>(List.replicate 33 (pI .u64 0)).getD i default) i)).getD i default) i]) (λi=>[pI .u64 (OM (λ_=>0) (0+(a.n:Int).toNat*1) (shI .shl .u64 1 (a.n:Int)) i)]))] (al1 ⟨rfl,λi b=>(DA 33 (λi=>if i=(0+(a.n:Int).toNat*1)then (pI .u64 (shI .shl .u64 1 (a.n:Int)))else (λi=>(List.replicate 33 (pI .u64 0)).getD i default) i) i b).trans (AQ7 (c:=pI .u64) (v:=λ_=>0) (x:=shI .shl .u64 1 (a.n:Int)) (OL (z:=pI .u64 0) rfl) rfl i b)⟩ al0))
 obtain⟨c3,h⟩:=C8 h;obtain rfl:=B2 h;exact J6 Z (Kn (Kn (Kn (by decide:(0:Int)<=0) c3.1) c3.2) (Kn rfl (G7 _ _):(0:Nat)=0/\(Ef 33 (λi=>if i=(0+0*1)then (pI .u64 (shI .shl .u64 1 0))else (λi=>(List.replicate 33 (pI .u64 0)).getD i default) i)).length=33)) ⟨[(4,.reg 5000 0)],[(5000,.arr 33 (λi=>pI .u64 (OM (λ_=>0) (0+0*1) (shI .shl .u64 1 0) i)))]⟩ [] (ids:=[(5000,5000)]) ⟨rfl,rfl,rfl⟩ (hle:=klR [(0,.fn 33 33 (λi=>[(λi=>(Ef 33 (λi=>if i=(0+0*1)then (pI .u64 (shI .shl .u64 1 0))else (λi=>(List.replicate 33 (pI .u64 0)).getD i default) i)).getD i default) i]) (λi=>[pI .u64 (OM (λ_=>0) (0+0*1) (shI .shl .u64 1 0) i)]))] (al1 ⟨rfl,λi b=>(DA 33 (λi=>if i=(0+0*1)then (pI .u64 (shI .shl .u64 1 0))else (λi=>(List.replicate 33 (pI .u64 0)).getD i default) i) i b).trans (AQ7 (c:=pI .u64) (v:=λ_=>0) (x:=shI .shl .u64 1 0) (OL (z:=pI .u64 0) rfl) rfl i b)⟩ al0))
def CO (rec:Part->(Sl Kj)->Option (Nat->Int))(N:Nat)(p_x:Pseq)(b:Sl Kj):Option (Nat->Int):= (S9 N (b.n:Int)).bind λy1=>Ca N (λa (x1:Nat->Int) (x2:Int)=>if (decide (x2<(p_x.l.n:Int))) then if ((0:Int)<=x2/\x2<(p_x.l.n:Int))then (rec (p_x.l.g x2.toNat) b).bind λy6=>(F1 N x1 y6).bind λy7=>a y7 (wrap .i64 (x2+1)) else none else some x1) y1 0
theorem Tz {rec:Part->(Sl Kj)->Option ((Nat->Int))}(b:∀{x:Part}{b0:(Sl Kj)}{y:(Nat->Int)},rec x b0=some y->Ba0 S Tryz.prog (Ih x) "ablaut/pats.in" [(.p (vSl 2 A0 b0))] (.p (.agg (cA 33 (pI .u64) y)))){p_x:Pseq}{a:(Sl Kj)}{y:(Nat->Int)}(h:CO rec N p_x a=some y) :Me S Hd [(.p (.agg (Bc2 p_x))),(.p (vSl 2 A0 a))] [] (.p (.agg (cA 33 (pI .u64) y))) ([]) []:=by
 unfold CO at h;refine A2 Z func251 ?_;refine kC Z h (Fk Z Y) (λy1 h=>?_);refine I1 Z (Kn rfl (G7 _ _):(0:Nat)=0/\(Ef 33 (λi=>pI .u64 (y1 i))).length=33) h (λx1 x2=>⟨[(15,(pN x2)),(14,(pN (p_x.l.n:Int))),(13,(.p (vSl 1 Jr p_x.l))),(5,(.reg 6000 0)),(4,(.reg 5000 0)),(1,(.p (vSl 2 A0 a)))],[(6000,(.arr 33 (λi=>pI .u64 (x1 i)))),(5000,(.arr 33 (λi=>pI .u64 ((λ_=>0) i))))]⟩) (ids:=(Kk [5000,6000])) (λ_ _ _ _ _ c x1 x2 d h=>?_) (hle:=(kl2 4 5 (MD 33 (λi=>pI .u64 (y1 i))) (AC4 33 (pI .u64 0))));apply kI Z h<;>intro h
 .obtain⟨c6,h⟩:=C8 h;obtain⟨y6,e6,h⟩:=A9 h;refine NO Z c6 (b e6) ?_;refine KV Z (Kn rfl (G7 _ _):(0:Nat)=0/\(Ef 33 (λi=>pI .u64 (y6 i))).length=33) ⟨[(15,(pN x2)),(14,(pN (p_x.l.n:Int))),(13,(.p (vSl 1 Jr p_x.l))),(8,(.reg 9000 0)),(5,(.reg 6000 0)),(4,(.reg 5000 0)),(1,(.p (vSl 2 A0 a)))],[(9000,(.arr 33 (λi=>pI .u64 (y6 i)))),(6000,(.arr 33 (λi=>pI .u64 (x1 i)))),(5000,(.arr 33 (λi=>pI .u64 ((λ_=>0) i))))]⟩ (ids:=(Kk [5000,6000,9000])) ?_ (hle:=(kl1 4 (MD 33 (λi=>pI .u64 (y6 i)))));obtain⟨y7,e7,h⟩:=A9 h;refine B4 Z [6000,9000] Fe (V5 Z Y e7) ?_;exact d _ (Kk [5000,6000]) _ y7 (wrap .i64 (x2+1)) (Kn rfl (G7 _ _):(0:Nat)=0/\(Ef 33 (λi=>pI .u64 (y7 i))).length=33) h (hle:=kl1 4 (MD 33 (λi=>pI .u64 (y7 i))))
 obtain rfl:=B2 h;exact J6 Z (Kn rfl (G7 _ _):(0:Nat)=0/\(Ef 33 (λi=>pI .u64 (x1 i))).length=33) ⟨[(4,(.reg 5000 0))],[(5000,(.arr 33 (λi=>pI .u64 (x1 i))))]⟩ [] (ids:=[(5000,5000)]) ⟨rfl,rfl,rfl⟩ (hle:=(kl1 0 (MD 33 (λi=>pI .u64 (x1 i)))))
def CP (rec:Part->(Sl Kj)->Option (Nat->Int))(N:Nat)(p_x:Palt)(b:Sl Kj):Option (Nat->Int):= Ca N (λa (x1:Nat->Int) (x2:Int)=>if (decide (x2<(p_x.l.n:Int))) then if ((0:Int)<=x2/\x2<(p_x.l.n:Int))then (rec (p_x.l.g x2.toNat) b).bind λy5=>(P4 N x1 y5).bind λy6=>a y6 (wrap .i64 (x2+1)) else none else some x1) (λ_=>0) 0
theorem TA {rec:Part->(Sl Kj)->Option ((Nat->Int))}(b:∀{x:Part}{b0:(Sl Kj)}{y:(Nat->Int)},rec x b0=some y->Ba0 S Tryz.prog (Ih x) "ablaut/pats.in" [(.p (vSl 2 A0 b0))] (.p (.agg (cA 33 (pI .u64) y)))){p_x:Palt}{a:(Sl Kj)}{y:(Nat->Int)}(h:CP rec N p_x a=some y) :Me S Hb [(.p (.agg (Bb9 p_x))),(.p (vSl 2 A0 a))] [] (.p (.agg (cA 33 (pI .u64) y))) ([]) []:=by
 unfold CP at h;refine A2 Z func246 ?_;refine I1 Z Fe h (λx1 x2=>⟨[(11,(pN x2)),(10,(pN (p_x.l.n:Int))),(9,(.p (vSl 1 Jr p_x.l))),(4,(.reg 5000 0)),(1,(.p (vSl 2 A0 a)))],[(5000,(.arr 33 (λi=>pI .u64 (x1 i))))]⟩) (ids:=[(5000,5000)]) (λ_ _ _ _ _ c x1 x2 d h=>?_) (hle:=(kl1 4 (AC4 33 (pI .u64 0))));apply kI Z h<;>intro h
 .obtain⟨c6,h⟩:=C8 h;obtain⟨y5,e5,h⟩:=A9 h;refine NO Z c6 (b e5) ?_;refine KV Z (Kn rfl (G7 _ _):(0:Nat)=0/\(Ef 33 (λi=>pI .u64 (y5 i))).length=33) ⟨[(11,(pN x2)),(10,(pN (p_x.l.n:Int))),(9,(.p (vSl 1 Jr p_x.l))),(7,(.reg 8000 0)),(4,(.reg 5000 0)),(1,(.p (vSl 2 A0 a)))],[(8000,(.arr 33 (λi=>pI .u64 (y5 i)))),(5000,(.arr 33 (λi=>pI .u64 (x1 i))))]⟩ (ids:=(Kk [5000,8000])) ?_ (hle:=(kl1 4 (MD 33 (λi=>pI .u64 (y5 i)))));obtain⟨y6,e6,h⟩:=A9 h;refine B4 Z [5000,8000] Fe (FM Z Y e6) ?_;exact d _ [(5000,5000)] _ y6 (wrap .i64 (x2+1)) Fe h
 obtain rfl:=B2 h;exact J6 Z (Kn rfl (G7 _ _):(0:Nat)=0/\(Ef 33 (λi=>pI .u64 (x1 i))).length=33) ⟨[(4,(.reg 5000 0))],[(5000,(.arr 33 (λi=>pI .u64 (x1 i))))]⟩ [] (ids:=[(5000,5000)]) ⟨rfl,rfl,rfl⟩ (hle:=(kl1 0 (MD 33 (λi=>pI .u64 (x1 i)))))
def CQ (rec:Part->(Sl Kj)->Option (Nat->Int))(N:Nat)(p_x:Bc0)(a:Sl Kj):Option (Nat->Int):= (rec p_x.of a).bind λy1=>(G4 N y1 p_x.min (a.n:Int)).bind λy2=>(S9 N (a.n:Int)).bind λy3=>(P4 N y1 y3).bind λy4=>if (decide (p_x.max<0)) then (G4 N y4 (a.n:Int) (a.n:Int)).bind λy5=>(F1 N y2 y5).bind λy6=>some y6 else (G4 N y4 (wrap .i64 (p_x.max-p_x.min)) (a.n:Int)).bind λy7=>(F1 N y2 y7).bind λy8=>some y8
theorem TB {rec:Part->(Sl Kj)->Option ((Nat->Int))}(b:∀{x:Part}{b0:(Sl Kj)}{y:(Nat->Int)},rec x b0=some y->Ba0 S Tryz.prog (Ih x) "ablaut/pats.in" [(.p (vSl 2 A0 b0))] (.p (.agg (cA 33 (pI .u64) y)))){p_x:Bc0}{a:(Sl Kj)}{y:(Nat->Int)}(h:CQ rec N p_x a=some y) :Me S Hc [(.p (.agg (Bc1 p_x))),(.p (vSl 2 A0 a))] [] (.p (.agg (cA 33 (pI .u64) y))) ([]) []:=by
 unfold CQ at h;refine A2 Z func248 ?_;obtain⟨y1,e1,h⟩:=A9 h;refine NO Z Fe (b e1) ?_;refine KV Z (Kn rfl (G7 _ _):(0:Nat)=0/\(Ef 33 (λi=>pI .u64 (y1 i))).length=33) ⟨[(18,(pN (a.n:Int))),(16,(pN p_x.min)),(14,(.p (.agg (cA 33 (pI .u64) y1)))),(5,(.reg 6000 0)),(4,(.reg 5000 0)),(2,(.reg 3000 0)),(1,(.p (vSl 2 A0 a)))],[(6000,(.arr 33 (λi=>pI .u64 (y1 i)))),(5000,(.arr 33 (λi=>pI .u64 ((λ_=>0) i)))),(3000,(.cells [(.p (Ih p_x.of)),(pN p_x.min),(pN p_x.max)]))]⟩ (ids:=(Kk [3000,5000,6000])) ?_ (hle:=(klR [(2,.eq (.agg (Ef 33 (λi=>(cA 33 (pI .u64) y1).getD i default))) (.agg (cA 33 (pI .u64) y1))),(4,.fn 33 33 (λi=>[(λi=>(cA 33 (pI .u64) y1).getD i default) i]) (λi=>[pI .u64 (y1 i)])),(5,.fn 33 33 (λi=>[(λi=>(List.replicate 33 (pI .u64 0)).getD i default) i]) (λi=>[pI .u64 ((λ_=>0) i)]))] (al1 (congrArg PV.agg (Ac8 (DA 33 (λi=>pI .u64 (y1 i))))) (al1 ⟨rfl,(DA 33 (λi=>pI .u64 (y1 i)))⟩ (al1 ⟨rfl,(OL (z:=pI .u64 0) rfl)⟩ al0)))));refine kC Z h (Az Z Y) (λy2 h=>?_);obtain⟨y3,e3,h⟩:=A9 h;refine B4 Z [] (Kn (Kn rfl (G7 _ _):(0:Nat)=0/\(Ef 33 (λi=>pI .u64 (y2 i))).length=33) (Kn rfl (G7 _ _):(0:Nat)=0/\(Ef 33 (λi=>pI .u64 (y1 i))).length=33)) (Fk Z Y e3) ?_;refine KV Z (Kn rfl (G7 _ _):(0:Nat)=0/\(Ef 33 (λi=>pI .u64 (y3 i))).length=33) ⟨[(8,(.reg 9000 0)),(7,(.reg 8000 0)),(6,(.reg 7000 0)),(4,(.reg 5000 0)),(2,(.reg 3000 0)),(1,(.p (vSl 2 A0 a)))],[(9000,(.arr 33 (λi=>pI .u64 (y3 i)))),(8000,(.arr 33 (λi=>pI .u64 (y1 i)))),(7000,(.arr 33 (λi=>pI .u64 (y2 i)))),(5000,(.arr 33 (λi=>pI .u64 ((λ_=>0) i)))),(3000,(.cells [(.p (Ih p_x.of)),(pN p_x.min),(pN p_x.max)]))]⟩ (ids:=(Kk [3000,5000,7000,8000,9000])) ?_ (hle:=(klR [(1,.fn 33 33 (λi=>[(λi=>(cA 33 (pI .u64) y3).getD i default) i]) (λi=>[pI .u64 (y3 i)])),(2,.fn 33 33 (λi=>[(λi=>(cA 33 (pI .u64) y1).getD i default) i]) (λi=>[pI .u64 (y1 i)])),(3,.fn 33 33 (λi=>[(λi=>(cA 33 (pI .u64) y2).getD i default) i]) (λi=>[pI .u64 (y2 i)]))] (al1 ⟨rfl,(DA 33 (λi=>pI .u64 (y3 i)))⟩ (al1 ⟨rfl,(DA 33 (λi=>pI .u64 (y1 i)))⟩ (al1 ⟨rfl,(DA 33 (λi=>pI .u64 (y2 i)))⟩ al0)))));obtain⟨y4,e4,h⟩:=A9 h;refine B4 Z [8000,9000] Fe (FM Z Y e4) ?_;apply kI Z h<;>intro h
 .refine kC Z h (Az Z Y) (λy5 h=>?_);refine KV Z (Kn rfl (G7 _ _):(0:Nat)=0/\(Ef 33 (λi=>pI .u64 (y5 i))).length=33) ⟨[(7,(.reg 8000 0)),(6,(.reg 7000 0)),(4,(.reg 5000 0))],[(8000,(.arr 33 (λi=>pI .u64 (y5 i)))),(7000,(.arr 33 (λi=>pI .u64 (y2 i)))),(5000,(.arr 33 (λi=>pI .u64 ((λ_=>0) i))))]⟩ (ids:=(Kk [5000,7000,8000])) ?_ (hle:=(kl1 0 (MD 33 (λi=>pI .u64 (y5 i)))));obtain⟨y6,e6,h⟩:=A9 h;refine B4 Z [7000,8000] Fe (V5 Z Y e6) ?_;obtain rfl:=B2 h;exact J6 Z (Kn rfl (G7 _ _):(0:Nat)=0/\(Ef 33 (λi=>pI .u64 (y6 i))).length=33) ⟨[(4,(.reg 5000 0))],[(5000,(.arr 33 (λi=>pI .u64 (y6 i))))]⟩ [] (ids:=[(5000,5000)]) ⟨rfl,rfl,rfl⟩ (hle:=(kl1 0 (MD 33 (λi=>pI .u64 (y6 i)))))
 refine kC Z h (Az Z Y) (λy7 h=>?_);refine KV Z (Kn rfl (G7 _ _):(0:Nat)=0/\(Ef 33 (λi=>pI .u64 (y7 i))).length=33) ⟨[(7,(.reg 8000 0)),(6,(.reg 7000 0)),(4,(.reg 5000 0))],[(8000,(.arr 33 (λi=>pI .u64 (y7 i)))),(7000,(.arr 33 (λi=>pI .u64 (y2 i)))),(5000,(.arr 33 (λi=>pI .u64 ((λ_=>0) i))))]⟩ (ids:=(Kk [5000,7000,8000])) ?_ (hle:=(kl1 0 (MD 33 (λi=>pI .u64 (y7 i)))));obtain⟨y8,e8,h⟩:=A9 h;refine B4 Z [7000,8000] Fe (V5 Z Y e8) ?_;obtain rfl:=B2 h;exact J6 Z (Kn rfl (G7 _ _):(0:Nat)=0/\(Ef 33 (λi=>pI .u64 (y8 i))).length=33) ⟨[(4,(.reg 5000 0))],[(5000,(.arr 33 (λi=>pI .u64 (y8 i))))]⟩ [] (ids:=[(5000,5000)]) ⟨rfl,rfl,rfl⟩ (hle:=(kl1 0 (MD 33 (λi=>pI .u64 (y8 i)))))
def Z2 (rec:Pat->Option Part)(N:Nat)(a:Pat):Option Part:= Ca N (λb (x1:Sl Part) (x2:Int)=>if (decide (x2<(a.L.n:Int))) then if ((0:Int)<=x2/\x2<(a.L.n:Int))then (rec (a.L.g x2.toNat)).bind λy3=>if (Kl 16 (x1.n+(Sl.of [y3]:Sl Part).n))then b (x1.push y3) (wrap .i64 (x2+1)) else none else none else if (a.Kind==1) then some (Part.sound a.Is a.Not) else if (a.Kind==2) then some (Part.edge false) else if (a.Kind==6) then some (Part.edge true) else if (a.Kind==4) then some (Part.alt x1.n x1.g) else if (a.Kind==5) then if (((0:Int)<=0/\0<(x1.n:Int))/\0<x1.n)then some (Part.rep (x1.g 0) a.Min a.Max) else none else some (Part.seq x1.n x1.g)) (Sl.nil:Sl Part) 0
def BS:Nat->Pat->Option Part
 |0=>λ_=>none
 |N+1=>Z2 (BS N) N
theorem PG {rec:Pat->Option Part}(b:∀{a:Pat}{y:Part},rec a=some y->Me S DC [.p (.agg (D4 a))] [] (.p (Ih y)) ([]) []){a:Pat}{y:Part}(h:Z2 rec N a=some y) :Me S DC [.p (.agg (D4 a))] [] (.p (Ih y)) ([]) []:=by
 unfold Z2 at h;refine A2 Z func223 ?_;refine F6 Z Fe 2 2000 (D4 a) ?_;refine N2 Z Fe 8 ⟨[(7,.p (vSl 7 D4 a.L)),(3,.p C6),(1,.p (.ptr (D4 a)))],[]⟩ (ids:=[]) ?_ (hle:=klR [(0,.fn a.L.n a.L.n (ED a) (λi=>D4 (a.L.g i)))] (al1 ⟨rfl,Cb a⟩ al0));refine I1 Z Fe h (λx1 x2=>⟨[(9,pN x2),(8,pN (a.L.n:Int)),(7,.p (vSl 7 D4 a.L)),(3,.vec 4500),(1,.p (.ptr (D4 a)))],[(4500,oV XR 1 Jr x1 false)]⟩) (ids:=[]) (λ_ _ _ _ _ c x1 x2 d h=>?_);apply kI Z h<;>intro h
 .obtain⟨c6,h⟩:=C8 h;refine F6 Z (Kn c6 Iq) 13 6000 (D4 (a.L.g x2.toNat)) ?_;obtain⟨y3,e3,h⟩:=A9 h;refine B4 Z [] Iq (b e3) ?_;obtain⟨c7,h⟩:=C8 h;exact d _ [(4500,18000)] _ (x1.push y3) (wrap .i64 (x2+1)) (Kn Ix c7) h (hle:=kl1 4 (X6 Jr x1 y3 [.v .nilIface]))
 apply kI Z h<;>intro h
 .obtain rfl:=B2 h;exact Am4 Z (by decide:(2:Nat)<=6) [] ⟨rfl,rfl,rfl⟩
 apply kI Z h<;>intro h
 .cases h;exact kR Z
 apply kI Z h<;>intro h
 .cases h;exact kR Z
 apply kI Z h<;>intro h
 .refine N2 Z Fe 40 ⟨[(39,.p (vSl 1 Jr x1))],[]⟩ (ids:=[]) ?_;cases h;exact kR Z
 apply kI Z h<;>intro h
 .refine E2 Z Fe [4,6] ?_;obtain⟨c13,h⟩:=C8 h;refine D0 c13 ?_;cases h;exact kR Z
 refine N2 Z Fe 54 ⟨[(53,.p (vSl 1 Jr x1))],[]⟩ (ids:=[]) ?_;cases h;exact kR Z
theorem QO {a:Pat}{y:Part}(h:BS N a=some y) :Me S DC [.p (.agg (D4 a))] [] (.p (Ih y)) ([]) []:=by
 induction N generalizing a y with
 |zero=>cases (show (none:Option Part)=some y from h)
 |succ N ih=>exact PG Z Y (λe=>ih e) h
end Go.AM
namespace Go.AM
open Go.Proofs
variable {S:U5}(Z:G6 S Tryz.prog) (Y:JK S)
include Z Y
def BU:Nat->Part->Sl Kj->Option (Nat->Int)
 |0=>λ_ _=>none
 |N+1=>λp w=>match p with
  |.nil=>none
  |.sound x no=>AA N ⟨x,no⟩ w
  |.edge e=>BR N ⟨e⟩ w
  |.seq n g=>CO (BU N) N ⟨⟨n,g⟩⟩ w
  |.alt n g=>CP (BU N) N ⟨⟨n,g⟩⟩ w
  |.rep o mn mx=>CQ (BU N) N ⟨o,mn,mx⟩ w
theorem Ao9 {N:Nat}{x:Part}{w:Sl Kj}{y:Nat->Int}(h:BU N x w=some y):Ba0 S Tryz.prog (Ih x) "ablaut/pats.in" [(.p (vSl 2 A0 w))] (.p (.agg (cA 33 (pI .u64) y))):=by
 induction N generalizing x w y with
 |zero=>cases h
 |succ N ih=>
  cases x with
  |nil=>cases h
  |sound s no=>exact⟨_,_,Fh,rfl,by kernel_rfl,PF Z Y (p_x:=⟨s,no⟩) h⟩
  |edge e=>exact⟨_,_,FY,rfl,by kernel_rfl,QN Z Y (N:=N) (p_x:=⟨e⟩) h⟩
  |seq n g=>exact⟨_,_,Hd,rfl,by kernel_rfl,Tz Z Y (λe=>ih e) (p_x:=⟨⟨n,g⟩⟩) h⟩
  |alt n g=>exact⟨_,_,Hb,rfl,by kernel_rfl,TA Z Y (λe=>ih e) (p_x:=⟨⟨n,g⟩⟩) h⟩
  |rep o mn mx=>exact⟨_,_,Hc,rfl,by kernel_rfl,TB Z Y (λe=>ih e) (p_x:=⟨o,mn,mx⟩) h⟩
end Go.AM
namespace Go.AM
open Go.Proofs.Tryz
variable {N:Nat}
open IntKind (wrap)
open Go.Proofs
set_option maxRecDepth 10000
set_option maxHeartbeats 2000000
variable {S:U5}(Z:G6 S Tryz.prog) (Y:JK S)
include Z Y
def W3 (N:Nat)(a:Kj):Option Bool:= (R5 N a).bind λy1=>some (!y1)
theorem PH {a:Kj}{y:Bool}(h:W3 N a=some y) :Me S IA [.p (.agg (A0 a))] [] (pB y) ([]) []:=by unfold W3 at h;refine A2 Z func222 ?_;refine kC Z h (FL Z Y) (λy1 h=>?_);cases h;exact kR Z
def F0 (N:Nat)(a:Sl Kj)(c:Kj->Option Bool):Option Int:= X5 N (λb (x1:Int)=>if (decide (x1<(a.n:Int))) then if ((0:Int)<=x1/\x1<(a.n:Int))then (c (a.g x1.toNat)).bind λy3=>if y3 then some x1 else b (wrap .i64 (x1+1)) else none else some (-1)) 0
theorem Ag {a:Sl Kj}{c:Kj->Option Bool}{kp_f:Nat}(d:∀{a0:Kj}{b:Bool},c a0=some b->Me S kp_f [.p (.agg (A0 a0))] [] (pB b) [] []){y:Int}(h:F0 N a c=some y) :Me S O0 [.p (vSl 2 A0 a),.clo kp_f [] []] [] (pN y) ([]) []:=by
 unfold F0 at h;refine A2 Z func132 ?_;refine P8 Z Fe h (λx1=>⟨[(8,pN x1),(7,pN (a.n:Int)),(1,.clo kp_f [] []),(0,.p (vSl 2 A0 a))],[]⟩) (ids:=[]) (λ_ _ _ _ _ f x1 g h=>?_);apply kI Z h<;>intro h
 .obtain⟨c8,h⟩:=C8 h;obtain⟨y3,e3,h⟩:=A9 h;refine B4 Z [] (Kn c8 Gt) (d e3) ?_;apply kI Z h<;>intro h
  .cases h;exact kR Z
  exact g _ [] _ (wrap .i64 (x1+1)) Fe h
 cases h;exact kR Z
def B7 (N:Nat)(a:Sl Kj)(b:Kj->Option Bool):Option Bool:= (F0 N a b).bind λy1=>some (decide (0<=y1))
theorem N0 {a:Sl Kj}{c:Kj->Option Bool}{kp_f:Nat}(d:∀{a0:Kj}{b:Bool},c a0=some b->Me S kp_f [.p (.agg (A0 a0))] [] (pB b) [] []){y:Bool}(h:B7 N a c=some y) :Me S M9 [.p (vSl 2 A0 a),.clo kp_f [] []] [] (pB y) ([]) []:=by unfold B7 at h;refine A2 Z func88 ?_;refine kC Z h (Ag Z Y (λe=>d e)) (λy1 h=>?_);cases h;exact kR Z
def E3 (N:Nat)(q0:Sl Pat):Option (List (Int×Pat)):= X5 N (λa (x1:Int)=>if (decide (0<=x1)) then if ((0:Int)<=x1/\x1<(q0.n:Int))then Ak (x1,q0.g x1.toNat) (a (wrap .i64 (x1-1))) else none else some []) (wrap .i64 ((q0.n:Int)-1))
theorem AZ {q0:Sl Pat}{L:List (Int×Pat)}(h:E3 N q0=some L) :EW S I9 [] [.reg 0 0] [.cells [.p (vSl 7 D4 q0)]] (L.map (λ(x:Int×Pat)=>[pI .i64 x.1,(λx=>.agg (D4 x)) x.2])):=by
 unfold E3 at h;refine EC Z func173 ?_;refine Dl Z Fe h (λx1 L1=>⟨[(3,pN x1),(1,.reg 0 0),(0,.yf 1)],[(1,.yld (L1.map (λ(x:Int×Pat)=>[pI .i64 x.1,(λx=>.agg (D4 x)) x.2])) true),(0,.cells [.p (vSl 7 D4 q0)])]⟩) (ids:=(Kk [0,1])) (λ_ _ _ _ _ d x1 L1 f h=>?_);apply kI Z h<;>intro h
 .obtain⟨c10,h⟩:=C8 h;obtain⟨L4,rfl,c⟩:=Ma h;replace h:=c;refine Dk Z (Kn c10 Iq) (ys:=(λ(x:Int×Pat)=>[pI .i64 x.1,(λx=>.agg (D4 x)) x.2]) (x1,q0.g x1.toNat)) (rest:=L4.map (λ(x:Int×Pat)=>[pI .i64 x.1,(λx=>.agg (D4 x)) x.2])) ?_ ?_
  .refine C7 Z Fe (b:=false) (λc11=>?_) (λc11=>?_)
   .exact Bool.noConfusion ((rfl:false=false).symm.trans c11)
   exact f _ (Kk [0,1]) _ (wrap .i64 (x1-1)) L4 Fe h
  refine C7 Z Fe (b:=true) (λc12=>?_) (λc12=>?_)
  .exact kO Z Fe (a:=.tup []) (objs:=[(.cells [.p (vSl 7 D4 q0)]),.yld [] false]) [0,1] ⟨false,rfl,rfl,_,rfl⟩
  exact Bool.noConfusion (Ix.symm.trans c12)
 obtain rfl:=B2 h;exact kO Z Fe (a:=.tup []) (objs:=[(.cells [.p (vSl 7 D4 q0)]),.yld [] true]) [0,1] ⟨true,rfl,rfl,_,rfl⟩
def J9 (N:Nat)(a:Sl Pat):Option (Sl Pat):= some a
theorem BV {a:Sl Pat}{y:Sl Pat}(h:J9 N a=some y) :Me S R0 [.p (vSl 7 D4 a)] [] (.clo I9 [] [.reg 0 0]) ([.cells [.p (vSl 7 D4 y)]]) []:=by unfold J9 at h;refine A2 Z func131 ?_;obtain rfl:=B2 h;exact kO Z Fe [2000]
def AB (N:Nat)(c:Pat):Option Int:= Ca N (λa (x3:Sl Pat) (x4:Int)=>if (decide (0<(x3.n:Int))) then if (x4==40) then some 12 else if (((0:Int)<=(wrap .i64 ((x3.n:Int)-1))/\(wrap .i64 ((x3.n:Int)-1))<(x3.n:Int))/\(wrap .i64 ((x3.n:Int)-1)).toNat<x3.n)then if ((0:Int)<=(wrap .i64 ((x3.n:Int)-1))/\(wrap .i64 ((x3.n:Int)-1))<=(x3.n:Int))then (BP N (x3.g (wrap .i64 ((x3.n:Int)-1)).toNat)).bind λy5=>if (y5 != 0) then some y5 else if ((0:Int)<=(if 41<((x3.g (wrap .i64 ((x3.n:Int)-1)).toNat).L.n:Int)then 41 else ((x3.g (wrap .i64 ((x3.n:Int)-1)).toNat).L.n:Int))/\(if 41<((x3.g (wrap .i64 ((x3.n:Int)-1)).toNat).L.n:Int)then 41 else ((x3.g (wrap .i64 ((x3.n:Int)-1)).toNat).L.n:Int))<=((x3.g (wrap .i64 ((x3.n:Int)-1)).toNat).L.n:Int))then (J9 N ((x3.g (wrap .i64 ((x3.n:Int)-1)).toNat).L.take (if 41<((x3.g (wrap .i64 ((x3.n:Int)-1)).toNat).L.n:Int)then 41 else ((x3.g (wrap .i64 ((x3.n:Int)-1)).toNat).L.n:Int)).toNat)).bind λy6=>(E3 N y6).bind λL3=>T2 L3 (λb (x7:Int×Pat) (z3:Sl Pat)=>if (((Kl 64 (z3.n+(Sl.of [Pat.nil]:Sl Pat).n))/\((0:Int)<=(z3.n:Int)/\(z3.n:Int)<((z3.push Pat.nil).n:Int)))/\(z3.n:Int).toNat<(z3.push Pat.nil).n)then b ((z3.push Pat.nil).upd (z3.n:Int).toNat x7.2) else none) (λ(z3:Sl Pat)=>a z3 (wrap .i64 (x4+1))) (x3.take (wrap .i64 ((x3.n:Int)-1)).toNat) else none else none else none else some 0) (Sl.of [c]:Sl Pat) 0
theorem ID {b:Pat}{y:Int}(h:AB N b=some y) :Me S MR [.p (.agg (D4 b))] [] (pN y) ([]) []:=by
 unfold AB at h;refine A2 Z func87 ?_;refine F6 Z Fe 2 2000 (D4 b) ?_;refine I1 Z (Kn Iq Ix) h (λx3 x4=>⟨[(4,pN x4),(3,.reg 4000 0)],[(4501,oV Gz 7 D4 x3 false),(4000,.cells [.vec 4501])]⟩) (ids:=[(4000,4000),(4501,12000)]) (λ_ _ _ _ _ d x3 x4 j h=>?_) (hle:=kl1 1 (Ad2 D4 ([b]:List Pat) [pI .i64 0,pI .u32 0,pI .u32 0,.v (.bool false),pI .i64 0,pI .i64 0,C6]));apply kI Z h<;>intro h
 .apply kI Z h<;>intro h
  .cases h;exact kR Z
  obtain⟨c21,h⟩:=C8 h;refine F6 Z (Kn (Kn c21.1 Iq) c21.2) 25 6000 (D4 (x3.g (wrap .i64 ((x3.n:Int)-1)).toNat)) ?_;obtain⟨c22,h⟩:=C8 h;refine Ba1 Z c22 30 4501 (wrap .i64 ((x3.n:Int)-1)).toNat 4508 (e:=Gz) (k:=7) (N:=x3.n) (f:=λi=>D4 (x3.g i)) (by have q:=c22;omega) ?_;obtain⟨y5,e7,h⟩:=A9 h;refine B4 Z [] Iq (QL Z Y e7) ?_;apply kI Z h<;>intro h
  .cases h;exact kR Z
  refine N2 Z Fe 39 ⟨[(38,.p (vSl 7 D4 (x3.g (wrap .i64 ((x3.n:Int)-1)).toNat).L)),(36,.p (vSl 7 D4 (x3.g (wrap .i64 ((x3.n:Int)-1)).toNat).L)),(4,pN x4),(3,.reg 4000 0)],[(4508,.vec Gz 7 (x3.take (wrap .i64 ((x3.n:Int)-1)).toNat).n (λi=>D4 ((x3.take (wrap .i64 ((x3.n:Int)-1)).toNat).g i)) false),(4000,.cells [.vec 4508])]⟩ (ids:=(Kk [4000,4508])) ?_ (hle:=klR [(0,.fn (x3.g (wrap .i64 ((x3.n:Int)-1)).toNat).L.n (x3.g (wrap .i64 ((x3.n:Int)-1)).toNat).L.n (ED (x3.g (wrap .i64 ((x3.n:Int)-1)).toNat)) (λi=>D4 ((x3.g (wrap .i64 ((x3.n:Int)-1)).toNat).L.g i))),(1,.fn (x3.g (wrap .i64 ((x3.n:Int)-1)).toNat).L.n (x3.g (wrap .i64 ((x3.n:Int)-1)).toNat).L.n (ED (x3.g (wrap .i64 ((x3.n:Int)-1)).toNat)) (λi=>D4 ((x3.g (wrap .i64 ((x3.n:Int)-1)).toNat).L.g i)))] (al1 ⟨rfl,Cb (x3.g (wrap .i64 ((x3.n:Int)-1)).toNat)⟩ (al1 ⟨rfl,Cb (x3.g (wrap .i64 ((x3.n:Int)-1)).toNat)⟩ al0)));obtain⟨c24,h⟩:=C8 h;obtain⟨y6,e8,h⟩:=A9 h;refine B4 Z [] c24 (BV Z Y e8) ?_;obtain⟨L3,e9,h⟩:=A9 h;refine GV Z Fe [44000] [4,3] 905 (λz3=>⟨[(4,pN x4),(3,.reg 4000 0)],[(4500,oV Gz 7 D4 z3 false),(4000,.cells [.vec 4500])]⟩) (idl:=[(4000,4000),(4500,4508)]) h (AZ Z Y e9) (λ_=>by kernel_rfl) (λ_=>by kernel_rfl) (λ_=>by kernel_rfl) (λ_=>by kernel_rfl) (λx7 _ m z3 o h=>?_) (λz3 h=>?_)
  .refine Kh Z Fe ?_;refine Vl Z Fe 10000 (D4 x7.2) ?_;refine F2 Z Fe [(0,.l [4000]),(1,.n),(2,.l [4500]),(4,.a [51000,4500]),(5,.l [51000]),(6,.a [51000]),(7,.a [4000])] ?_;refine M4 Iq (x:=.sl true 7 1 (G2 [pI .i64 0,pI .u32 0,pI .u32 0,.v (.bool false),pI .i64 0,pI .i64 0,C6] [(0,[pI .i64 0,pI .u32 0,pI .u32 0,.v (.bool false),pI .i64 0,pI .i64 0,C6])])) ?_;obtain⟨c27,h⟩:=C8 h;refine D0 (Kn (Kn c27.1.1 c27.1.2) (Kn (rfl:(7:Nat)=7) (Kn c27.2 Iq))) ?_;exact o _ [(905,905),(4000,4000),(4500,51000)] _ ((z3.push Pat.nil).upd (z3.n:Int).toNat x7.2) Fe h (hle:=klR [(0,.fn (z3.n+1) ((z3.push Pat.nil).upd (z3.n:Int).toNat x7.2).n (λl=>if l=(z3.n:Int).toNat then splice (Es z3.n (λi=>D4 (z3.g i)) (G2 [pI .i64 0,pI .u32 0,pI .u32 0,.v (.bool false),pI .i64 0,pI .i64 0,C6] [(0,[pI .i64 0,pI .u32 0,pI .u32 0,.v (.bool false),pI .i64 0,pI .i64 0,C6])]) l) 0 [pI .i64 x7.2.Kind,pI .u32 x7.2.Is.Plus,pI .u32 x7.2.Is.Minus,.bb x7.2.Not,pI .i64 x7.2.Min,pI .i64 x7.2.Max,.sl false 7 x7.2.L.n (ED x7.2)]else (Es z3.n (λi=>D4 (z3.g i)) (G2 [pI .i64 0,pI .u32 0,pI .u32 0,.v (.bool false),pI .i64 0,pI .i64 0,C6] [(0,[pI .i64 0,pI .u32 0,pI .u32 0,.v (.bool false),pI .i64 0,pI .i64 0,C6])])) l) (λi=>D4 (((z3.push Pat.nil).upd (z3.n:Int).toNat x7.2).g i)))] (al1 ⟨rfl,setH (c:=D4) (v:=z3.push Pat.nil) (x:=x7.2) (app1H (c:=D4) (v:=z3) (z:=Pat.nil) same rfl) (λ_=>by simp[Es,G2,splice])⟩ al0))
  exact j _ [(4000,4000),(4501,4500)] _ z3 (wrap .i64 (x4+1)) Fe h
 cases h;exact kR Z
def Ba (N:Nat)(b:Pat)(a:Sl Kj):Option ((Nat->Int)×Int):= (AB N b).bind λy1=>if (y1 != 0) then some (λ_=>0,y1) else if (decide (32<(a.n:Int))) then some (λ_=>0,11) else (B7 N a (λ(u1:Kj)=>W3 N u1)).bind λy2=>if y2 then some (λ_=>0,14) else (BS N b).bind λy3=>(BU N y3 a).bind λy4=>some (y4,0)
theorem Ly {a:Pat}{b:Sl Kj}{y:(Nat->Int)×Int}(h:Ba N a b=some y) :Me S Lt [.p (.agg (D4 a)),.p (vSl 2 A0 b)] [] (.tup [.p (.agg (cA 33 (pI .u64) y.1)),pN y.2]) ([]) []:=by
 unfold Ba at h;refine A2 Z func219 ?_;refine kC Z h (ID Z Y) (λy1 h=>?_);apply kI Z h<;>intro h
 .obtain rfl:=B2 h;exact J6 Z (Kn rfl (G7 _ _):(0:Nat)=0/\(Ef 33 (λi=>pI .u64 ((λ_=>0) i))).length=33) ⟨[(5,pN y1),(4,.reg 5000 0)],[(5000,.arr 33 (λi=>pI .u64 ((λ_=>0) i)))]⟩ [] (ids:=[(5000,5000)]) ⟨rfl,rfl,rfl⟩ (hle:=kl1 1 (MD 33 (λi=>pI .u64 ((λ_=>0) i))))
 apply kI Z h<;>intro h
 .obtain rfl:=B2 h;exact J6 Z (Kn rfl (G7 _ _):(0:Nat)=0/\(Ef 33 (λi=>pI .u64 ((λ_=>0) i))).length=33) ⟨[(5,pN 11),(4,.reg 5000 0)],[(5000,.arr 33 (λi=>pI .u64 ((λ_=>0) i)))]⟩ [] (ids:=[(5000,5000)]) ⟨rfl,rfl,rfl⟩ (hle:=kl1 1 (MD 33 (λi=>pI .u64 ((λ_=>0) i))))
 refine kC Z h (N0 Z Y (λe=>PH Z Y e)) (λy2 h=>?_);apply kI Z h<;>intro h
 .obtain rfl:=B2 h;exact J6 Z (Kn rfl (G7 _ _):(0:Nat)=0/\(Ef 33 (λi=>pI .u64 ((λ_=>0) i))).length=33) ⟨[(5,pN 14),(4,.reg 5000 0)],[(5000,.arr 33 (λi=>pI .u64 ((λ_=>0) i)))]⟩ [] (ids:=[(5000,5000)]) ⟨rfl,rfl,rfl⟩ (hle:=kl1 1 (MD 33 (λi=>pI .u64 ((λ_=>0) i))))
 refine kC Z h (QO Z Y) (λy3 h=>?_);obtain⟨y4,e4,h⟩:=A9 h;refine NO Z Fe (Ao9 Z Y e4) ?_;obtain rfl:=B2 h;exact J6 Z (Kn rfl (G7 _ _):(0:Nat)=0/\(Ef 33 (λi=>pI .u64 (y4 i))).length=33) ⟨[(5,pN 0),(4,.reg 5000 0)],[(5000,.arr 33 (λi=>pI .u64 (y4 i)))]⟩ [] (ids:=[(5000,5000)]) ⟨rfl,rfl,rfl⟩ (hle:=kl1 1 (MD 33 (λi=>pI .u64 (y4 i))))
def CR (N:Nat)(d:Pat)(c:Sl Kj)(a:Int):Option ((Sl Int)×Int):= (Ba N d c).bind λy1=>lt (λ(z1:Int)=>if (z1 != 0) then some (Iy,z1) else Ca N (λb (x2:Sl Int) (x3:Int)=>if (decide (x3<(wrap .i64 ((c.n:Int)+1)))) then if ((((0:Int)<=x3/\x3<33)/\(0+x3.toNat*1)<33)/\(0:Int)<=a)then if ((P0 .and .u64 (shI .shr .u64 (y1.1 (0+x3.toNat*1)) a) 1)==1) then if (Kl 8 (x2.n+(Sl.of [x3]:Sl Int).n))then b (x2.push x3) (wrap .i64 (x3+1)) else none else b x2 (wrap .i64 (x3+1)) else none else some (x2,0)) Iy 0) λk1=>if (y1.2==0) then (AX N c a).bind λy3=>k1 y3 else k1 y1.2
theorem TC {d:Pat}{c:Sl Kj}{a:Int}{y:(Sl Int)×Int}(h:CR N d c a=some y) :Me S Ls [.p (.agg (D4 d)),.p (vSl 2 A0 c),pN a] [] (.tup [.vec 0,pN y.2]) ([oV E1 1 (cI .i64) y.1 true]) []:=by
 unfold CR at h;refine A2 Z func215 ?_;refine kC Z h (Ly Z Y) (λy1 h=>?_);refine Kz Z (Kn rfl (G7 _ _):(0:Nat)=0/\(Ef 33 (λi=>pI .u64 (y1.1 i))).length=33) (A6 Z) h 0 (λz1=>⟨[(9,pN z1),(8,.reg 9000 0),(2,pN a),(1,.p (vSl 2 A0 c))],[(9000,.arr 33 (λi=>pI .u64 (y1.1 i)))]⟩) (λM1 k1 f h=>?_) (λz1 h=>?_)
 .apply kI Z h<;>intro h
  .refine kC Z h (Lx Z Y) (λy3 h=>?_);exact f _ [(9000,9000)] _ y3 Fe h (hle:=kl1 3 (MD 33 (λi=>pI .u64 (y1.1 i))))
  exact f _ [(9000,9000)] _ y1.2 Fe h (hle:=kl1 3 (MD 33 (λi=>pI .u64 (y1.1 i))))
 apply kI Z h<;>intro h
 .obtain rfl:=B2 h;exact kO Z Fe [7700]
 refine I1 Z Fe h (λx2 x3=>⟨[(29,pN x3),(28,pN (wrap .i64 ((c.n:Int)+1))),(10,.vec 11500),(8,.reg 9000 0),(2,pN a)],[(11500,oV E1 1 (cI .i64) x2 false),(9000,.arr 33 (λi=>pI .u64 (y1.1 i)))]⟩) (ids:=[(9000,9000)]) (λ_ _ _ _ _ j x2 x3 g h=>?_);apply kI Z h<;>intro h
 .obtain⟨c12,h⟩:=C8 h;refine C7 Z c12 (b:=(P0 .and .u64 (shI .shr .u64 (y1.1 (0+x3.toNat*1)) a) 1)==1) (λc13=>?_) (λc13=>?_)
  .replace h:=itT c13 h;obtain⟨c14,h⟩:=C8 h;exact g _ [(9000,9000),(11500,43000)] _ (x2.push x3) (wrap .i64 (x3+1)) (Kn Ix c14) h (hle:=kl1 3 (X6 (cI .i64) x2 x3 [pI .i64 0]))
  replace h:=itF c13 h;exact g _ (Kk [9000,11500]) _ x2 (wrap .i64 (x3+1)) Fe h
 obtain rfl:=B2 h;exact kO Z Fe [11500]
def J4 (N:Nat)(a:List (Int)):Option (Sl Int):= T2 a (λb (x1:Int) (z1:Sl Int)=>if (Kl 8 (z1.n+(Sl.of [x1]:Sl Int).n))then b (z1.push x1) else none) (λ(z1:Sl Int)=>some z1) Iy
theorem DT {b:List (Int)}{a:Int}{kp_seq:Nat}(fp_seq:∃fn,Bg6[kp_seq]? = some fn/\fn.body.isSome=true/\(fn.name == "runtime.NumGoroutine")=false)(c:EW S kp_seq [] [.reg 0 0] [(.cells [(.p (pI .u64 a))])] (b.map (λ(x:Int)=>[(pI .i64) x]))){y:(Sl Int)}(h:J4 N b=some y) :Me S P7 [(.p C6),(.clo kp_seq [] [(.reg 0 0)])] [(.cells [(.p (pI .u64 a))])] (.vec 0) ([(oV E1 1 (cI .i64) y true)]) [false]:=by
 unfold J4 at h;refine A2 Z func175 ?_;refine NM Z Fe fp_seq [0] [2] 901 (λz1=>⟨[(2,(.reg 3000 0))],[(3500,(oV E1 1 (cI .i64) z1 false)),(3000,(.cells [(.vec 3500)]))]⟩) (idl:=[(3000,3000)]) h c (λ_=>by kernel_rfl) (λ_=>by kernel_rfl) (λ_=>by kernel_rfl) (λ_=>by kernel_rfl) (λx1 _ d z1 f h=>?_) (λz1 h=>?_)
 .refine Kh Z Fe ?_;obtain⟨c1,h⟩:=C8 h;exact f _ [(901,901),(3000,3000),(3500,12000)] _ (z1.push x1) (Kn Ix c1) h (hle:=kl1 0 (X6 (cI .i64) z1 x1 [(pI .i64 0)]))
 obtain rfl:=B2 h;exact kO Z Fe [3500]
def O9 (N:Nat)(a:List (Int)):Option (Sl Int):= (J4 N a).bind λy1=>some y1
theorem IE {b:List (Int)}{a:Int}{kp_seq:Nat}(fp_seq:∃fn,Bg6[kp_seq]? = some fn/\fn.body.isSome=true/\(fn.name == "runtime.NumGoroutine")=false)(c:EW S kp_seq [] [.reg 0 0] [(.cells [(.p (pI .u64 a))])] (b.map (λ(x:Int)=>[(pI .i64) x]))){y:(Sl Int)}(h:O9 N b=some y) :Me S Bn [(.clo kp_seq [] [(.reg 0 0)])] [(.cells [(.p (pI .u64 a))])] (.vec 0) ([(oV E1 1 (cI .i64) y true)]) [false]:=by unfold O9 at h;refine A2 Z func138 ?_;obtain⟨y1,e1,h⟩:=A9 h;refine B4 Z [0] Fe (DT Z Y fp_seq c e1) ?_;obtain rfl:=B2 h;exact kO Z Fe [5000]
def Fl (N:Nat)(c:Pat)(b:Sl Kj)(a:Int):Option ((Sl Int)×Int):= (Ba N c b).bind λy1=>lt (λ(z1:Int)=>if (z1 != 0) then some (Iy,z1) else if (((0:Int)<=a/\a<33)/\(0+a.toNat*1)<33)then (BQ N (y1.1 (0+a.toNat*1))).bind λy4=>(T3 N y4).bind λL1=>(O9 N L1).bind λy5=>some (y5,0) else none) λk1=>if (y1.2==0) then (AX N b a).bind λy3=>k1 y3 else k1 y1.2
theorem XW {b:Pat}{c:Sl Kj}{a:Int}{y:(Sl Int)×Int}(h:Fl N b c a=some y) :Me S Pv [.p (.agg (D4 b)),.p (vSl 2 A0 c),pN a] [] (.tup [.vec 0,pN y.2]) ([oV E1 1 (cI .i64) y.1 true]) []:=by
 unfold Fl at h;refine A2 Z func216 ?_;refine kC Z h (Ly Z Y) (λy1 h=>?_);refine Kz Z (Kn rfl (G7 _ _):(0:Nat)=0/\(Ef 33 (λi=>pI .u64 (y1.1 i))).length=33) (A6 Z) h 0 (λz1=>⟨[(9,pN z1),(8,.reg 9000 0),(2,pN a)],[(9000,.arr 33 (λi=>pI .u64 (y1.1 i)))]⟩) (λM1 k1 d h=>?_) (λz1 h=>?_)
 .apply kI Z h<;>intro h
  .refine kC Z h (Lx Z Y) (λy3 h=>?_);exact d _ [(9000,9000)] _ y3 Fe h (hle:=kl1 2 (MD 33 (λi=>pI .u64 (y1.1 i))))
  exact d _ [(9000,9000)] _ y1.2 Fe h (hle:=kl1 2 (MD 33 (λi=>pI .u64 (y1.1 i))))
 apply kI Z h<;>intro h
 .obtain rfl:=B2 h;exact kO Z Fe [7700]
 obtain⟨c5,h⟩:=C8 h;obtain⟨y4,e4,h⟩:=A9 h;refine B4 Z [] c5 (FZ Z Y e4) ?_;obtain⟨L1,e5,h⟩:=A9 h;obtain⟨y5,e6,h⟩:=A9 h;refine B4 Z [28000] Fe (IE Z Y ⟨_,func224,by decide +kernel,by decide +kernel⟩ (Em Z Y e5) e6) ?_;obtain rfl:=B2 h;exact kO Z Fe [29000]
end Go.AM
namespace Go.AM
open Go.Proofs.Tryz
variable {N:Nat}
open IntKind (wrap)
open Go.Proofs
set_option maxRecDepth 10000
set_option maxHeartbeats 2000000
variable {S:U5}(Z:G6 S Tryz.prog) (Y:JK S)
include Z Y
def Dr (N:Nat)(a:Str):Option Bool:= lt (λ(z1:Bool)=>some z1) λk1=>if ((a==[]) != true) then if (decide ((a.length:Int)<=24)) then (DE N a [97,98,99,100,101,102,103,104,105,106,107,108,109,110,111,112,113,114,115,116,117,118,119,120,121,122,65,66,67,68,69,70,71,72,73,74,75,76,77,78,79,80,81,82,83,84,85,86,87,88,89,90,48,49,50,51,52,53,54,55,56,57,45]).bind λy2=>k1 ((y2==[]) != false) else k1 false else k1 false
theorem XX {b:Str}{y:Bool}(h:Dr N b=some y) :Me S Pl [.p (.str b)] [] (pB y) ([]) []:=by
 unfold Dr at h;refine A2 Z func86 ?_;refine Kz Z Fe (A6 Z) h 0 (λz1=>⟨[(2,pB z1)],[]⟩) (λM1 k1 a h=>?_) (λz1 h=>?_)
 .refine kG Z h (λh=>?_) (λh=>?_)
  .refine kG Z h (λh=>?_) (λh=>?_)
   .refine kC Z h (JL Z Y) (λy2 h=>?_);exact a _ [] _ ((y2==[]) != false) Fe h
   exact a _ [] _ false Fe h
  exact a _ [] _ false Fe h
 cases h;exact kR Z
def Bb (N:Nat)(p_x:Ej)(a:Int):Option Bool:= lt (λ(z1:Bool)=>if z1 then some false else if ((((P0 .andNot .u32 (P0 .or .u32 p_x.Clear p_x.Take) 16777215) != 0)||((P0 .and .u32 p_x.Clear (P0 .or .u32 p_x.Set.Plus p_x.Set.Minus)) != 0))||((P0 .and .u32 p_x.Take (P0 .or .u32 (P0 .or .u32 p_x.Set.Plus p_x.Set.Minus) p_x.Clear)) != 0)) then some false else if (p_x.Take==0) then some (p_x.Of==0) else some ((decide (0<=p_x.Of))&&(decide (p_x.Of<a)))) λk1=>if (decide (p_x.From<(-1))) then k1 true else if (decide (a<=p_x.From)) then k1 true else (H5 N p_x.Set).bind λy2=>k1 (!y2)
theorem Ae6 {p_x:Ej}{b:Int}{y:Bool}(h:Bb N p_x b=some y) :Me S RN [.p (.agg (Au p_x)),pN b] [] (pB y) ([]) []:=by
 unfold Bb at h;refine A2 Z func83 ?_;refine Kz Z Fe (A6 Z) h 0 (λz1=>⟨[(13,pB z1),(5,pU (P0 .or .u32 p_x.Set.Plus p_x.Set.Minus)),(2,.reg 3000 0),(1,pN b)],[(3000,.cells ((Au p_x).map .p))]⟩) (λM1 k1 c h=>?_) (λz1 h=>?_)
 .refine kG Z h (λh=>?_) (λh=>?_)
  .exact c _ [(3000,3000)] _ true Fe h
  refine kG Z h (λh=>?_) (λh=>?_)
  .exact c _ [(3000,3000)] _ true Fe h
  refine kC Z h (Q7 Z Y) (λy2 h=>?_);exact c _ [(3000,3000)] _ (!y2) Fe h
 apply kI Z h<;>intro h
 .cases h;exact kR Z
 refine kB Z (A6 Z) Fe Fe 16 (.o (.o (.a ((P0 .andNot .u32 (P0 .or .u32 p_x.Clear p_x.Take) 16777215) != 0)) (.a ((P0 .and .u32 p_x.Clear (P0 .or .u32 p_x.Set.Plus p_x.Set.Minus)) != 0))) (.a ((P0 .and .u32 p_x.Take (P0 .or .u32 (P0 .or .u32 p_x.Set.Plus p_x.Set.Minus) p_x.Clear)) != 0))) ?_;apply kI Z h<;>intro h
 .cases h;exact kR Z
 apply kI Z h<;>intro h
 .cases h;exact kR Z
 refine kB Z (A6 Z) Fe Fe 5 (.n (.a (decide (0<=p_x.Of))) (.a (decide (p_x.Of<b)))) ?_;cases h;exact kR Z
def Bc (N:Nat)(p_x:Ej)(q0:Int):Option Bool:= (Bb N p_x q0).bind λy1=>some (!y1)
theorem TD {p_x:Ej}{q0:Int}{y:Bool}(h:Bc N p_x q0=some y) :Me S Lm [.p (.agg (Au p_x)),.reg 0 0] [.cells [pN q0]] (pB y) ([.cells [pN q0]]) [true]:=by unfold Bc at h;refine A2 Z func82 ?_;refine kC Z h (Ae6 Z Y) (λy1 h=>?_);obtain rfl:=B2 h;exact kO Z Fe [0]
def Bd (N:Nat)(a:Kj):Option Bool:= (H5 N a).bind λy1=>some (!y1)
theorem TE {a:Kj}{y:Bool}(h:Bd N a=some y) :Me S Ln [.p (.agg (A0 a))] [] (pB y) ([]) []:=by unfold Bd at h;refine A2 Z func84 ?_;refine kC Z h (Q7 Z Y) (λy1 h=>?_);cases h;exact kR Z
def F7 (N:Nat)(a:Sl Ej)(c:Ej->Option Bool):Option Int:= X5 N (λb (x1:Int)=>if (decide (x1<(a.n:Int))) then if ((0:Int)<=x1/\x1<(a.n:Int))then (c (a.g x1.toNat)).bind λy3=>if y3 then some x1 else b (wrap .i64 (x1+1)) else none else some (-1)) 0
theorem Bv {c:Sl Ej}{d:Ej->Option Bool}{a:Int}{kp_f:Nat}(f:∀{a0:Ej}{b:Bool},d a0=some b->Me S kp_f [.p (.agg (Au a0)),.reg 0 0] [.cells [pN a]] (pB b) [.cells [pN a]] [true]){y:Int}(h:F7 N c d=some y) :Me S Q1 [.p (vSl 6 Au c),.clo kp_f [] [.reg 0 0]] [.cells [pN a]] (pN y) ([.cells [pN a]]) [true]:=by
 unfold F7 at h;refine A2 Z func133 ?_;refine P8 Z Fe h (λx1=>⟨[(8,pN x1),(7,pN (c.n:Int)),(1,.clo kp_f [] [.reg 0 0]),(0,.p (vSl 6 Au c))],[(0,.cells [pN a])]⟩) (ids:=[(0,0)]) (λ_ _ _ _ _ g x1 i h=>?_);apply kI Z h<;>intro h
 .obtain⟨c8,h⟩:=C8 h;obtain⟨y3,e3,h⟩:=A9 h;refine B4 Z [0] (Kn c8 (by decide:(6:Nat)<=6)) (f e3) ?_;apply kI Z h<;>intro h
  .obtain rfl:=B2 h;exact kO Z Fe [0]
  exact i _ [(0,0)] _ (wrap .i64 (x1+1)) Fe h
 obtain rfl:=B2 h;exact kO Z Fe [0]
def D2 (N:Nat)(a:Sl Ej)(b:Ej->Option Bool):Option Bool:= (F7 N a b).bind λy1=>some (decide (0<=y1))
theorem An {c:Sl Ej}{d:Ej->Option Bool}{a:Int}{kp_f:Nat}(f:∀{a0:Ej}{b:Bool},d a0=some b->Me S kp_f [.p (.agg (Au a0)),.reg 0 0] [.cells [pN a]] (pB b) [.cells [pN a]] [true]){y:Bool}(h:D2 N c d=some y) :Me S O3 [.p (vSl 6 Au c),.clo kp_f [] [.reg 0 0]] [.cells [pN a]] (pB y) ([.cells [pN a]]) [true]:=by unfold D2 at h;refine A2 Z func89 ?_;obtain⟨y1,e1,h⟩:=A9 h;refine B4 Z [0] Fe (Bv Z Y (λe=>f e) e1) ?_;obtain rfl:=B2 h;exact kO Z Fe [0]
def AC (N:Nat)(a:Law):Option Int:= (Dr N a.Name).bind λy1=>if (!y1) then some 17 else (AB N a.Left).bind λy2=>if (y2 != 0) then some 17 else (AB N a.Right).bind λy3=>if (y3 != 0) then some 17 else if (decide (4<(a.If.n:Int))) then some 17 else if (decide (6<(a.Out.n:Int))) then some 17 else if ((wrap .i64 ((a.If.n:Int)+(a.Out.n:Int)))==0) then some 17 else if ((decide (a.Mode<1))||(decide (3<a.Mode))) then some 17 else (B7 N a.If (λ(u1:Kj)=>Bd N u1)).bind λy4=>if y4 then some 17 else (D2 N a.Out (λ(u2:Ej)=>Bc N u2 (a.If.n:Int))).bind λy5=>if y5 then some 17 else some 0
theorem He {c:Law}{y:Int}(h:AC N c=some y) :Me S Pf [.p (.agg (B5 c))] [] (pN y) ([]) []:=by
 unfold AC at h;refine A2 Z func52 ?_;refine kC Z h (XX Z Y) (λy1 h=>?_);refine C7 Z Fe (b:=!y1) (λc1=>?_) (λc1=>?_)
 .replace h:=itT c1 h;refine C7 Z Fe (b:=!y1) (λc2=>?_) (λc2=>?_)
  .cases h;exact kR Z
  exact Bool.noConfusion (c1.symm.trans c2)
 replace h:=itF c1 h;refine kC Z h (ID Z Y) (λy2 h=>?_);refine C7 Z Fe (b:=y2 != 0) (λc3=>?_) (λc3=>?_)
 .replace h:=itT c3 h;refine C7 Z Fe (b:=y2 != 0) (λc4=>?_) (λc4=>?_)
  .cases h;exact kR Z
  exact Bool.noConfusion (c3.symm.trans c4)
 replace h:=itF c3 h;refine kC Z h (ID Z Y) (λy3 h=>?_);refine C7 Z Fe (b:=y3 != 0) (λc5=>?_) (λc5=>?_)
 .replace h:=itT c5 h;refine C7 Z Fe (b:=y3 != 0) (λc6=>?_) (λc6=>?_)
  .cases h;exact kR Z
  exact Bool.noConfusion (c5.symm.trans c6)
 replace h:=itF c5 h;refine C7 Z Fe (b:=decide (4<(c.If.n:Int))) (λc7=>?_) (λc7=>?_)
 .replace h:=itT c7 h;refine C7 Z Fe (b:=decide (4<(c.If.n:Int))) (λc8=>?_) (λc8=>?_)
  .cases h;exact kR Z
  exact Bool.noConfusion (c7.symm.trans c8)
 replace h:=itF c7 h;refine C7 Z Fe (b:=decide (6<(c.Out.n:Int))) (λc9=>?_) (λc9=>?_)
 .replace h:=itT c9 h;refine C7 Z Fe (b:=decide (6<(c.Out.n:Int))) (λc10=>?_) (λc10=>?_)
  .cases h;exact kR Z
  exact Bool.noConfusion (c9.symm.trans c10)
 replace h:=itF c9 h;refine C7 Z Fe (b:=(wrap .i64 ((c.If.n:Int)+(c.Out.n:Int)))==0) (λc11=>?_) (λc11=>?_)
 .replace h:=itT c11 h;refine C7 Z Fe (b:=(wrap .i64 ((c.If.n:Int)+(c.Out.n:Int)))==0) (λc12=>?_) (λc12=>?_)
  .cases h;exact kR Z
  exact Bool.noConfusion (c11.symm.trans c12)
 replace h:=itF c11 h;refine kB Z (A6 Z) Fe Fe 4 (.o (.a (decide (c.Mode<1))) (.a (decide (3<c.Mode)))) ?_;refine C7 Z Fe (b:=(decide (c.Mode<1))||(decide (3<c.Mode))) (λc13=>?_) (λc13=>?_)
 .replace h:=itT c13 h;refine C7 Z Fe (b:=(decide (c.Mode<1))||(decide (3<c.Mode))) (λc14=>?_) (λc14=>?_)
  .cases h;exact kR Z
  exact Bool.noConfusion (c13.symm.trans c14)
 replace h:=itF c13 h;refine kC Z h (N0 Z Y (λe=>TE Z Y e)) (λy4 h=>?_);refine C7 Z Fe (b:=y4) (λc15=>?_) (λc15=>?_)
 .replace h:=itT c15 h;refine C7 Z Fe (b:=y4) (λc16=>?_) (λc16=>?_)
  .cases h;exact kR Z
  exact Bool.noConfusion (c15.symm.trans c16)
 replace h:=itF c15 h;obtain⟨y5,e5,h⟩:=A9 h;refine B4 Z [4000] Fe (An Z Y (λe=>TD Z Y e) e5) ?_;apply kI Z h<;>intro h
 .cases h;exact kR Z
 cases h;exact kR Z
def Fm (N:Nat)(a:Law)(b:Sl Kj):Option Int:= (AC N a).bind λy1=>if (y1 != 0) then some y1 else (W8 N b).bind λy2=>some y2
theorem XY {a:Law}{b:Sl Kj}{y:Int}(h:Fm N a b=some y) :Me S Pu [.p (.agg (B5 a)),.p (vSl 2 A0 b)] [] (pN y) ([]) []:=by
 unfold Fm at h;refine A2 Z func199 ?_;refine kC Z h (He Z Y) (λy1 h=>?_);apply kI Z h<;>intro h
 .cases h;exact kR Z
 refine kC Z h (DR Z Y) (λy2 h=>?_);cases h;exact kR Z
def Aa (N:Nat)(a:Int)(q0:Law)(q1:Sl Kj):Option Bool:= (CR N q0.Left q1 a).bind λy1=>if ((y1.1.n:Int)==0) then some false else (Fl N q0.Right q1 (wrap .i64 (a+(q0.If.n:Int)))).bind λy2=>some (decide (0<(y2.1.n:Int)))
theorem QP {a:Int}{q0:Law}{q1:Sl Kj}{y:Bool}(h:Aa N a q0 q1=some y) :Me S BN [pN a,.reg 0 0,.reg 1 0] [.cells ((B5 q0).map .p),.cells [.p (vSl 2 A0 q1)]] (pB y) ([.cells ((B5 q0).map .p),.cells [.p (vSl 2 A0 q1)]]) [true,true]:=by
 unfold Aa at h;refine A2 Z func214 ?_;refine kC Z h (TC Z Y) (λy1 h=>?_);apply kI Z h<;>intro h
 .obtain rfl:=B2 h;exact kO Z Fe [0,1]
 refine kC Z h (XW Z Y) (λy2 h=>?_);obtain rfl:=B2 h;exact kO Z Fe [0,1]
def IF (N:Nat)(a:Law)(b:Sl Kj):Option (Law×(Sl Kj)):= some (a,b)
theorem VX {a:Law}{b:Sl Kj}{y:Law×(Sl Kj)}(h:IF N a b=some y) :Me S MX [.p (.agg (B5 a)),.p (vSl 2 A0 b)] [] (.clo BN [] [.reg 0 0,.reg 1 0]) ([.cells ((B5 y.1).map .p),.cells [.p (vSl 2 A0 y.2)]]) []:=by unfold IF at h;refine A2 Z func209 ?_;obtain rfl:=B2 h;exact kO Z Fe [3000,4000]
def DU (N:Nat)(a:Law)(b:Sl Kj):Option (Sl Kj):= Ca N (λc (x1:Sl Kj) (x2:Int)=>if (decide (x2<(a.Out.n:Int))) then if ((0:Int)<=x2/\x2<(a.Out.n:Int))then if ((decide (0<=(a.Out.g x2.toNat).From))=true->((0:Int)<=(a.Out.g x2.toNat).From/\(a.Out.g x2.toNat).From<(b.n:Int)))then (Z9 N (⟨(if (decide (0<=(a.Out.g x2.toNat).From)) then (b.g (a.Out.g x2.toNat).From.toNat).Plus else 0),(if (decide (0<=(a.Out.g x2.toNat).From)) then (b.g (a.Out.g x2.toNat).From.toNat).Minus else 0)⟩:Kj) (a.Out.g x2.toNat).Clear (a.Out.g x2.toNat).Set).bind λy5=>if ((a.Out.g x2.toNat).Take != 0) then if ((0:Int)<=(a.Out.g x2.toNat).Of/\(a.Out.g x2.toNat).Of<(b.n:Int))then (Cx N y5.1 (b.g (a.Out.g x2.toNat).Of.toNat) (a.Out.g x2.toNat).Take).bind λy6=>if (Kl 8 (x1.n+(Sl.of [y6.1]:Sl Kj).n))then c (x1.push y6.1) (wrap .i64 (x2+1)) else none else none else if (Kl 8 (x1.n+(Sl.of [y5.1]:Sl Kj).n))then c (x1.push y5.1) (wrap .i64 (x2+1)) else none else none else none else some x1) (Sl.nil:Sl Kj) 0
theorem VY {c:Law}{a:Sl Kj}{y:Sl Kj}(h:DU N c a=some y) :Me S VO [.p (.agg (B5 c)),.p (vSl 2 A0 a)] [] (.p (vSl 2 A0 y)) ([]) []:=by
 unfold DU at h;refine A2 Z func205 ?_;refine F6 Z Fe 4 3000 (B5 c) ?_;refine I1 Z Fe h (λx1 x2=>⟨[(12,pN x2),(11,pN (c.Out.n:Int)),(10,.p (vSl 6 Au c.Out)),(5,.vec 6500),(1,.p (vSl 2 A0 a))],[(6500,oV B6 2 A0 x1 false)]⟩) (ids:=[]) (λ_ _ _ _ _ l x1 x2 i h=>?_);apply kI Z h<;>intro h
 .obtain⟨c16,h⟩:=C8 h;refine F6 Z (Kn c16 (by decide:(6:Nat)<=6)) 8 8000 (Au (c.Out.g x2.toNat)) ?_;obtain⟨c18,h⟩:=C8 h;obtain⟨t5,d⟩:∃x:Int,x=(if (decide (0<=(c.Out.g x2.toNat).From)) then (a.g (c.Out.g x2.toNat).From.toNat).Plus else 0):=⟨_,rfl⟩;obtain⟨t6,f⟩:∃x:Int,x=(if (decide (0<=(c.Out.g x2.toNat).From)) then (a.g (c.Out.g x2.toNat).From.toNat).Minus else 0):=⟨_,rfl⟩;refine Vd Z Fe (A6 Z) 0 ⟨[(12,pN x2),(11,pN (c.Out.n:Int)),(10,.p (vSl 6 Au c.Out)),(8,.reg 9000 0),(7,.p (.ptr (Au (c.Out.g x2.toNat)))),(5,.vec 6500),(1,.p (vSl 2 A0 a))],[(9000,.cells [pU t5,pU t6]),(6500,oV B6 2 A0 x1 false)]⟩ (λM3 j=>?_) ?_
  .refine C7 Z Fe (b:=decide (0<=(c.Out.g x2.toNat).From)) (λc19=>?_) (λc19=>?_)
   .exact j _ (Kk [6500,9000]) _ (Kn (c18 c19) Gt) (hle:=klR [(5,.eq (pI .u32 (a.g (c.Out.g x2.toNat).From.toNat).Plus) (pI .u32 t5)),(6,.eq (pI .u32 (a.g (c.Out.g x2.toNat).From.toNat).Minus) (pI .u32 t6))] (al1 (by simp only[d,f,c19,Np.ok,pm,Ew,Ex]) (al1 (by simp only[d,f,c19,Np.ok,pm,Ew,Ex]) al0)))
   exact j _ (Kk [6500,9000]) _ Fe (hle:=klR [(5,.eq (pI .u32 0) (pI .u32 t5)),(6,.eq (pI .u32 0) (pI .u32 t6))] (al1 (by simp only[d,f,c19,Np.ok,pm,Ew,Ex]) (al1 (by simp only[d,f,c19,Np.ok,pm,Ew,Ex]) al0)))
  subst f;subst d;obtain⟨y5,e5,h⟩:=A9 h;refine B4 Z [] (by decide:(2:Nat)<=4) (QK Z Y e5) ?_;apply kI Z h<;>intro h
  .refine E2 Z Fe [3,4,5,7,8] ?_;obtain⟨c21,h⟩:=C8 h;obtain⟨y6,e6,h⟩:=A9 h;refine G3 (Kn c21 Gt) (VU Z Y e6) ?_;refine D0 Fe ?_;obtain⟨c22,h⟩:=C8 h;exact i _ [(6500,52000)] _ (x1.push y6.1) (wrap .i64 (x2+1)) (Kn Ix c22) h (hle:=kl1 4 (X6 A0 x1 y6.1 [pI .u32 0,pI .u32 0]))
  obtain⟨c23,h⟩:=C8 h;exact i _ [(6500,52000)] _ (x1.push y5.1) (wrap .i64 (x2+1)) (Kn Ix c23) h (hle:=kl1 4 (X6 A0 x1 y5.1 [pI .u32 0,pI .u32 0]))
 obtain rfl:=B2 h;exact kO Z Fe []
def B1 (N:Nat)(a:Sl (Sl Kj)):Option (Sl Kj):= Ca N (λb (x1:Int) (x2:Int)=>if (decide (x2<(a.n:Int))) then if ((0:Int)<=x2/\x2<(a.n:Int))then if (decide ((wrap .i64 (x1+((a.g x2.toNat).n:Int)))<0)) then none else b (wrap .i64 (x1+((a.g x2.toNat).n:Int))) (wrap .i64 (x2+1)) else none else (J8 N x1).bind λy1=>Ca N (λc (x3:Sl Kj) (x4:Int)=>if (decide (x4<(a.n:Int))) then if (((0:Int)<=x4/\x4<(a.n:Int))/\(Kl 8 (x3.n+(a.g x4.toNat).n)))then c (x3.app (a.g x4.toNat)) (wrap .i64 (x4+1)) else none else some x3) y1 0) 0 0
theorem P5 {a:Sl (Sl Kj)}{y:Sl Kj}(h:B1 N a=some y) :Me S P3 [.p (vSl 1 (cL 2 A0) a)] [] (.vec 0) ([oV B6 2 A0 y true]) []:=by
 unfold B1 at h;refine A2 Z func204 ?_;refine I1 Z Fe h (λx1 x2=>⟨[(11,pN x2),(10,pN (a.n:Int)),(9,.p (vSl 1 (cL 2 A0) a)),(3,pN x1),(0,.p (vSl 1 (cL 2 A0) a))],[]⟩) (ids:=[]) (λ_ _ _ _ _ c x1 x2 d h=>?_);apply kI Z h<;>intro h
 .obtain⟨c8,h⟩:=C8 h;refine C7 Z c8 (b:=decide ((wrap .i64 (x1+((a.g x2.toNat).n:Int)))<0)) (λc9=>?_) (λc9=>?_)
  .replace h:=itT c9 h;cases h
  replace h:=itF c9 h;exact d _ [] _ (wrap .i64 (x1+((a.g x2.toNat).n:Int))) (wrap .i64 (x2+1)) Fe h
 refine kC Z h (BO Z Y) (λy1 h=>?_);refine I1 Z Fe h (λx3 x4=>⟨[(27,pN x4),(26,pN (a.n:Int)),(25,.p (vSl 1 (cL 2 A0) a)),(6,.vec 7500)],[(7500,oV B6 2 A0 x3 false)]⟩) (ids:=[(7500,25000)]) (λ_ _ _ _ _ f x3 x4 i h=>?_);apply kI Z h<;>intro h
 .obtain⟨c13,h⟩:=C8 h;exact i _ [(7500,34000)] _ (x3.app (a.g x4.toNat)) (wrap .i64 (x4+1)) c13 h (hle:=kl1 3 (appS A0 x3 (a.g x4.toNat)))
 obtain rfl:=B2 h;exact kO Z Fe [7500]
def T9 (N:Nat)(b:Law)(c:Sl Kj)(a:Int):Option (Sl Kj):= if (((0:Int)<=a/\a<=(c.n:Int))/\((0:Int)<=a/\a<=(wrap .i64 (a+(b.If.n:Int)))/\(wrap .i64 (a+(b.If.n:Int)))<=(c.n:Int)))then (DU N b (c.sub a.toNat (wrap .i64 (a+(b.If.n:Int))).toNat)).bind λy1=>if ((0:Int)<=(wrap .i64 (a+(b.If.n:Int)))/\(wrap .i64 (a+(b.If.n:Int)))<=(c.n:Int))then (B1 N (Sl.of [c.take a.toNat,y1,c.drop (wrap .i64 (a+(b.If.n:Int))).toNat]:Sl (Sl Kj))).bind λy2=>some y2 else none else none
theorem Lz {c:Law}{b:Sl Kj}{a:Int}{y:Sl Kj}(h:T9 N c b a=some y) :Me S Lr [.p (.agg (B5 c)),.p (vSl 2 A0 b),pN a] [] (.vec 0) ([oV B6 2 A0 y true]) []:=by unfold T9 at h;refine A2 Z func207 ?_;refine F6 Z Fe 6 4000 (B5 c) ?_;refine E2 Z Fe [3,8] ?_;obtain⟨c1,h⟩:=C8 h;obtain⟨y1,e1,h⟩:=A9 h;refine G3 (Kn (Kn c1.1 Iu) c1.2) (VY Z Y e1) ?_;obtain⟨c2,h⟩:=C8 h;refine M4 c2 (x:=.sl true 1 3 (G2 [C6] [(0,cL 2 A0 (b.take a.toNat)),(1,cL 2 A0 y1),(2,cL 2 A0 (b.drop (wrap .i64 (a+(c.If.n:Int))).toNat))])) ?_;obtain⟨y2,e2,h⟩:=A9 h;refine OJ [] Fe (Me.le Z (args:=[.p (.sl true 1 3 (G2 [C6] [(0,cL 2 A0 (b.take a.toNat)),(1,cL 2 A0 y1),(2,cL 2 A0 (b.drop (wrap .i64 (a+(c.If.n:Int))).toNat))]))]) (by exact⟨KF rfl (λi d=>match i,d with|0,_=>rfl|1,_=>rfl|2,_=>rfl|_+3,d=>Eu d (by omega)),trivial⟩) (P5 Z Y e2)) ?_;refine D0 Fe ?_;obtain rfl:=B2 h;exact kO Z Fe [27000]
def AD (N:Nat)(q0:Law)(q1:Sl Kj)(q2:Int):Option (List (Int)):= (IF N q0 q1).bind λy1=>X5 N (λa (x2:Int)=>if (decide ((wrap .i64 (x2+(q0.If.n:Int)))<=(q1.n:Int))) then X5 N (λb (x4:Int)=>if (decide (x4<(q0.If.n:Int))) then if ((0:Int)<=x4/\x4<(q0.If.n:Int))then if ((0:Int)<=(wrap .i64 (x2+x4))/\(wrap .i64 (x2+x4))<(q1.n:Int))then (S0 N (q1.g (wrap .i64 (x2+x4)).toNat) (q0.If.g x4.toNat)).bind λc=>if (!c) then a (wrap .i64 (x2+1)) else b (wrap .i64 (x4+1)) else none else none else (Aa N x2 y1.1 y1.2).bind λd=>if d then Ak x2 (a (wrap .i64 (x2+1))) else a (wrap .i64 (x2+1))) 0 else some []) q2
theorem Na {q0:Law}{q1:Sl Kj}{q2:Int}{L:List (Int)}(h:AD N q0 q1 q2=some L) :EW S Iz [] [.reg 0 0,.reg 1 0,.reg 2 0] [.cells ((B5 q0).map .p),.cells [.p (vSl 2 A0 q1)],.cells [pN q2]] (L.map (λ(x:Int)=>[pI .i64 x])):=by
 unfold AD at h;refine EC Z func208 ?_;refine kC Z h (VX Z Y) (λy1 h=>?_);refine Dl Z Fe h (λx2 L1=>⟨[(6,pN x2),(5,.clo BN [] [.reg 12000 0,.reg 12001 0]),(2,.reg 1 0),(1,.reg 0 0),(0,.yf 3)],[(12001,.cells [.p (vSl 2 A0 y1.2)]),(12000,.cells ((B5 y1.1).map .p)),(3,.yld (L1.map (λ(x:Int)=>[pI .i64 x])) true),(2,.cells [pN q2]),(1,.cells [.p (vSl 2 A0 q1)]),(0,.cells ((B5 q0).map .p))]⟩) (ids:=(Kk [0,1,2,3,12000,12001])) (λ_ _ _ _ _ f x2 L1 c h=>?_);apply kI Z h<;>intro h
 .refine Dl Z Fe h (λx4 L8=>⟨[(26,pN x4),(25,pN (q0.If.n:Int)),(24,.p (vSl 2 A0 q0.If)),(6,pN x2),(5,.clo BN [] [.reg 12000 0,.reg 12001 0]),(2,.reg 1 0),(1,.reg 0 0),(0,.yf 3)],[(12001,.cells [.p (vSl 2 A0 y1.2)]),(12000,.cells ((B5 y1.1).map .p)),(3,.yld (L8.map (λ(x:Int)=>[pI .i64 x])) true),(2,.cells [pN q2]),(1,.cells [.p (vSl 2 A0 q1)]),(0,.cells ((B5 q0).map .p))]⟩) (ids:=(Kk [0,1,2,3,12000,12001])) (λ_ _ _ _ _ i x4 L8 j h=>?_);apply kI Z h<;>intro h
  .obtain⟨c47,h⟩:=C8 h;refine Vl Z (Kn c47 Gt) 9000 [pI .u32 (q0.If.g x4.toNat).Plus,pI .u32 (q0.If.g x4.toNat).Minus] ?_;refine E2 Z Fe [4,5,6,7] ?_;obtain⟨c48,h⟩:=C8 h;obtain⟨l,e12,h⟩:=A9 h;refine G3 (Kn (Kn c48 Gt) Gt) (Mg Z Y e12) ?_;refine D0 Fe ?_;apply kI Z h<;>intro h
   .exact c _ (Kk [0,1,2,3,12000,12001]) _ (wrap .i64 (x2+1)) L8 Fe h
   exact j _ (Kk [0,1,2,3,12000,12001]) _ (wrap .i64 (x4+1)) L8 Fe h
  obtain⟨m,e13,h⟩:=A9 h;refine B4 Z [12000,12001] Fe (QP Z Y e13) ?_;refine kG Z h (λh=>?_) (λh=>?_)
  .obtain⟨L10,rfl,d⟩:=Ma h;replace h:=d;refine Dk Z Fe (ys:=(λ(x:Int)=>[pI .i64 x]) x2) (rest:=L10.map (λ(x:Int)=>[pI .i64 x])) ?_ ?_
   .refine C7 Z Fe (b:=false) (λc53=>?_) (λc53=>?_)
    .exact Bool.noConfusion ((rfl:false=false).symm.trans c53)
    exact c _ (Kk [0,1,2,3,12000,12001]) _ (wrap .i64 (x2+1)) L10 Fe h
   refine C7 Z Fe (b:=true) (λc54=>?_) (λc54=>?_)
   .exact kO Z Fe (a:=.tup []) (objs:=[(.cells ((B5 q0).map .p)),.cells [.p (vSl 2 A0 q1)],.cells [pN q2],.yld [] false]) [0,1,2,3] ⟨false,rfl,rfl,_,rfl⟩
   exact Bool.noConfusion (Ix.symm.trans c54)
  exact c _ (Kk [0,1,2,3,12000,12001]) _ (wrap .i64 (x2+1)) L8 Fe h
 obtain rfl:=B2 h;exact kO Z Fe (a:=.tup []) (objs:=[(.cells ((B5 q0).map .p)),.cells [.p (vSl 2 A0 q1)],.cells [pN q2],.yld [] true]) [0,1,2,3] ⟨true,rfl,rfl,_,rfl⟩
def IY (N:Nat)(b:Law)(c:Sl Kj)(a:Int):Option (Law×(Sl Kj)×Int):= some (b,c,a)
theorem RU {b:Law}{c:Sl Kj}{a:Int}{y:Law×(Sl Kj)×Int}(h:IY N b c a=some y) :Me S RR [.p (.agg (B5 b)),.p (vSl 2 A0 c),pN a] [] (.clo Iz [] [.reg 0 0,.reg 1 0,.reg 2 0]) ([.cells ((B5 y.1).map .p),.cells [.p (vSl 2 A0 y.2.1)],.cells [pN y.2.2]]) []:=by unfold IY at h;refine A2 Z func203 ?_;obtain rfl:=B2 h;exact kO Z Fe [4000,5000,6000]
def DV (N:Nat)(b:Law)(c:Sl Kj)(a:Int):Option Bool:= (IY N b c a).bind λy1=>(AD N y1.1 y1.2.1 y1.2.2).bind λL1=>T2 L1 (λd (x1:Int) (_:Unit)=>some (x1==a)) (λ(_:Unit)=>some false) ()
theorem VZ {b:Law}{c:Sl Kj}{a:Int}{y:Bool}(h:DV N b c a=some y) :Me S VP [.p (.agg (B5 b)),.p (vSl 2 A0 c),pN a] [] (pB y) ([]) []:=by
 unfold DV at h;refine A2 Z func206 ?_;refine kC Z h (RU Z Y) (λy1 h=>?_);obtain⟨L1,e2,h⟩:=A9 h;refine GV Z Fe [12000,12001,12002] [6,5] 901 (λ_=>⟨[(6,.reg 7000 0),(5,.reg 6000 0)],[(7000,.cells [.p (.v (.bool false))]),(6000,.cells [pN a])]⟩) (idl:=(Kk [6000,7000])) h (Na Z Y e2) (λ_=>by kernel_rfl) (λ_=>by kernel_rfl) (λ_=>by kernel_rfl) (λ_=>by kernel_rfl) (λx1 _ d _ f h=>?_) (λ_ h=>?_)
 .refine Kh Z Fe ?_;refine NN Z Fe ⟨[(6,.reg 7000 0),(5,.reg 6000 0)],[(7000,.cells [pB (x1==a)]),(6000,.cells [pN a])]⟩ (ids:=(Kk [901,6000,7000])) ?_;cases h;exact kR Z
 cases h;exact kR Z
def Ds (N:Nat)(q0:Sl Kj)(q1:Law)(q2:Int)(q3:Int):Option (List (Int×(Sl Kj))):= if (q1.Mode==1) then (IY N q1 q0 0).bind λy1=>(AD N y1.1 y1.2.1 y1.2.2).bind λL1=>T2 L1 (λb (x1:Int) (z1:(Sl Kj)×Int×Int)=>if (decide (x1<z1.2.1)) then b (z1.1,z1.2.1,z1.2.2) else if (((0:Int)<=(wrap .i64 (x1+z1.2.2))/\(wrap .i64 (x1+z1.2.2))<=(z1.1.n:Int))/\((0:Int)<=x1/\x1<=(wrap .i64 (x1+q2))/\(wrap .i64 (x1+q2))<=(q0.n:Int)))then (DU N q1 (q0.sub x1.toNat (wrap .i64 (x1+q2)).toNat)).bind λy6=>if ((0:Int)<=(wrap .i64 (x1+q2))/\(wrap .i64 (x1+q2))<=(q0.n:Int))then (B1 N (Sl.of [z1.1.take (wrap .i64 (x1+z1.2.2)).toNat,y6,q0.drop (wrap .i64 (x1+q2)).toNat]:Sl (Sl Kj))).bind λy7=>Ak (x1,y7) (b (y7,wrap .i64 (x1+(if q2<1 then 1 else q2)),wrap .i64 ((wrap .i64 (z1.2.2+q3))-q2))) else none else none) (λ(z1:(Sl Kj)×Int×Int)=>some []) (q0,0,0) else if (q1.Mode==2) then Ca N (λa (x5:Sl Kj) (x6:Int)=>if (decide ((wrap .i64 (x6+q2))<=(x5.n:Int))) then (DV N q1 x5 x6).bind λg=>if (!g) then a x5 (wrap .i64 (x6+1)) else (T9 N q1 x5 x6).bind λd=>Ak (x6,d) (if (q2==0) then a d (wrap .i64 ((wrap .i64 (x6+q3))+1)) else a d (wrap .i64 (x6+q3))) else some []) q0 0 else if (q1.Mode==3) then Ca N (λc (x7:Sl Kj) (x8:Int)=>if (decide (0<=x8)) then (DV N q1 x7 x8).bind λi=>if (!i) then c x7 (wrap .i64 (x8-1)) else (T9 N q1 x7 x8).bind λf=>Ak (x8,f) (c f (wrap .i64 (x8-(if q2<1 then 1 else q2)))) else some []) q0 (wrap .i64 ((q0.n:Int)-q2)) else some []
theorem XZ {q0:Sl Kj}{q1:Law}{q2:Int}{q3:Int}{L:List (Int×(Sl Kj))}(h:Ds N q0 q1 q2 q3=some L) :EW S Ko [] [.reg 0 0,.reg 1 0,.reg 2 0,.reg 3 0] [.cells [.p (vSl 2 A0 q0)],.cells ((B5 q1).map .p),.cells [pN q2],.cells [pN q3]] (L.map (λ(x:Int×(Sl Kj))=>[pI .i64 x.1,vSl 2 A0 x.2])):=by
 unfold Ds at h;refine EC Z func202 ?_;apply kI Z h<;>intro h
 .refine kC Z h (RU Z Y) (λy1 h=>?_);obtain⟨L1,e2,h⟩:=A9 h;refine AA8 Z Fe [20000,20001,20002] [8,7,6,5,4,3,2,1] 900 (λz1 L2=>⟨[(8,.reg 9000 0),(7,.reg 8000 0),(6,.reg 7000 0),(5,.reg 6000 0),(4,.reg 3 0),(3,.reg 2 0),(2,.reg 1 0),(1,.reg 0 0)],[(9000,.cells [pN z1.2.2]),(8000,.cells [pN z1.2.1]),(7000,.cells [.p (vSl 2 A0 z1.1)]),(6000,.cells [.yf 4]),(4,.yld (L2.map (λ(x:Int×(Sl Kj))=>[pI .i64 x.1,vSl 2 A0 x.2])) true),(3,.cells [pN q3]),(2,.cells [pN q2]),(1,.cells ((B5 q1).map .p)),(0,.cells [.p (vSl 2 A0 q0)])]⟩) (idl:=(Kk [0,1,2,3,4,6000,7000,8000,9000])) h (Na Z Y e2) (λ_=>by kernel_rfl) (λ_ _=>by kernel_rfl) (λ_ _=>by kernel_rfl) (λ_ _=>by kernel_rfl) (λx1 _ r z1 L2 g h=>?_) (λz1 L2 h=>?_)
  .refine Kh Z Fe ?_;apply kI Z h<;>intro h
   .exact g _ (Kk [0,1,2,3,4,900,6000,7000,8000,9000]) _ (z1.1,z1.2.1,z1.2.2) L2 Fe h
   refine F2 Z Fe [(0,.l [7000]),(2,.l [9000]),(5,.l [1]),(6,.l [0]),(9,.l [2]),(12,.n),(13,.l [0]),(15,.l [2]),(20,.a [7000])] ?_;obtain⟨c13,h⟩:=C8 h;obtain⟨y6,e7,h⟩:=A9 h;refine G3 c13 (VY Z Y e7) ?_;obtain⟨c14,h⟩:=C8 h;refine M4 c14 (x:=.sl true 1 3 (G2 [C6] [(0,cL 2 A0 (z1.1.take (wrap .i64 (x1+z1.2.2)).toNat)),(1,cL 2 A0 y6),(2,cL 2 A0 (q0.drop (wrap .i64 (x1+q2)).toNat))])) ?_;obtain⟨y7,e8,h⟩:=A9 h;refine OJ [] Fe (Me.le Z (args:=[.p (.sl true 1 3 (G2 [C6] [(0,cL 2 A0 (z1.1.take (wrap .i64 (x1+z1.2.2)).toNat)),(1,cL 2 A0 y6),(2,cL 2 A0 (q0.drop (wrap .i64 (x1+q2)).toNat))]))]) (by exact⟨KF rfl (λi s=>match i,s with|0,_=>rfl|1,_=>rfl|2,_=>rfl|_+3,s=>Eu s (by omega)),trivial⟩) (P5 Z Y e8)) ?_;refine D0 Fe ?_;obtain⟨L5,rfl,j⟩:=Ma h;replace h:=j;refine Dk Z Fe (ys:=(λ(x:Int×(Sl Kj))=>[pI .i64 x.1,vSl 2 A0 x.2]) (x1,y7)) (rest:=L5.map (λ(x:Int×(Sl Kj))=>[pI .i64 x.1,vSl 2 A0 x.2])) ?_ ?_
   .refine C7 Z Fe (b:=false) (λc15=>?_) (λc15=>?_)
    .exact Bool.noConfusion ((rfl:false=false).symm.trans c15)
    refine F2 Z Fe [(1,.l [2]),(4,.l [9000]),(5,.l [3]),(7,.l [2]),(9,.a [8000]),(10,.a [9000])] ?_;refine D0 Fe ?_;exact g _ (Kk [0,1,2,3,4,900,6000,7000,8000,9000]) _ (y7,wrap .i64 (x1+(if q2<1 then 1 else q2)),wrap .i64 ((wrap .i64 (z1.2.2+q3))-q2)) L5 Fe h
   refine C7 Z Fe (b:=true) (λc16=>?_) (λc16=>?_)
   .refine NN Z Fe ⟨[(8,.reg 9000 0),(7,.reg 8000 0),(6,.reg 7000 0),(5,.reg 6000 0),(4,.reg 3 0),(3,.reg 2 0),(2,.reg 1 0),(1,.reg 0 0)],[(44000,oV B6 2 A0 y7 true),(9000,.cells [pN z1.2.2]),(8000,.cells [pN z1.2.1]),(7000,.cells [.vec 44000]),(6000,.cells [.yf 4]),(4,.yld [] false),(3,.cells [pN q3]),(2,.cells [pN q2]),(1,.cells ((B5 q1).map .p)),(0,.cells [.p (vSl 2 A0 q0)])]⟩ (ids:=(Kk [0,1,2,3,4,900,6000,7000,8000,9000,44000])) ?_;exact kO Z Fe (a:=.tup []) (objs:=[(.cells [.p (vSl 2 A0 q0)]),.cells ((B5 q1).map .p),.cells [pN q2],.cells [pN q3],.yld [] false]) [0,1,2,3,4] ⟨false,rfl,rfl,_,rfl⟩
   exact Bool.noConfusion (Ix.symm.trans c16)
  obtain rfl:=B2 h;exact kO Z Fe (a:=.tup []) (objs:=[(.cells [.p (vSl 2 A0 q0)]),.cells ((B5 q1).map .p),.cells [pN q2],.cells [pN q3],.yld [] true]) [0,1,2,3,4] ⟨true,rfl,rfl,_,rfl⟩
 apply kI Z h<;>intro h
 .refine ST Z Fe h (λx5 x6 L6=>⟨[(10,pN x6),(6,.reg 7000 0),(5,.reg 6000 0),(4,.reg 3 0),(3,.reg 2 0),(2,.reg 1 0)],[(7000,.cells [.p (vSl 2 A0 x5)]),(6000,.cells [.yf 4]),(4,.yld (L6.map (λ(x:Int×(Sl Kj))=>[pI .i64 x.1,vSl 2 A0 x.2])) true),(3,.cells [pN q3]),(2,.cells [pN q2]),(1,.cells ((B5 q1).map .p)),(0,.cells [.p (vSl 2 A0 q0)])]⟩) (ids:=(Kk [0,1,2,3,4,6000,7000])) (λ_ _ _ _ _ t x5 x6 L6 c h=>?_);apply kI Z h<;>intro h
  .refine kC Z h (VZ Z Y) (λv h=>?_);apply kI Z h<;>intro h
   .exact c _ (Kk [0,1,2,3,4,6000,7000]) _ x5 (wrap .i64 (x6+1)) L6 Fe h
   refine kC Z h (Lz Z Y) (λd h=>?_);obtain⟨L9,rfl,m⟩:=Ma h;replace h:=m;refine Dk Z Fe (ys:=(λ(x:Int×(Sl Kj))=>[pI .i64 x.1,vSl 2 A0 x.2]) (x6,d)) (rest:=L9.map (λ(x:Int×(Sl Kj))=>[pI .i64 x.1,vSl 2 A0 x.2])) ?_ ?_
   .refine C7 Z Fe (b:=false) (λc30=>?_) (λc30=>?_)
    .exact Bool.noConfusion ((rfl:false=false).symm.trans c30)
    apply kI Z h<;>intro h
    .exact c _ (Kk [0,1,2,3,4,6000,7000]) _ d (wrap .i64 ((wrap .i64 (x6+q3))+1)) L9 Fe h
    exact c _ (Kk [0,1,2,3,4,6000,7000]) _ d (wrap .i64 (x6+q3)) L9 Fe h
   refine C7 Z Fe (b:=true) (λc32=>?_) (λc32=>?_)
   .exact kO Z Fe (a:=.tup []) (objs:=[(.cells [.p (vSl 2 A0 q0)]),.cells ((B5 q1).map .p),.cells [pN q2],.cells [pN q3],.yld [] false]) [0,1,2,3,4] ⟨false,rfl,rfl,_,rfl⟩
   exact Bool.noConfusion (Ix.symm.trans c32)
  obtain rfl:=B2 h;exact kO Z Fe (a:=.tup []) (objs:=[(.cells [.p (vSl 2 A0 q0)]),.cells ((B5 q1).map .p),.cells [pN q2],.cells [pN q3],.yld [] true]) [0,1,2,3,4] ⟨true,rfl,rfl,_,rfl⟩
 apply kI Z h<;>intro h
 .refine ST Z Fe h (λx7 x8 L10=>⟨[(11,pN x8),(6,.reg 7000 0),(5,.reg 6000 0),(3,.reg 2 0),(2,.reg 1 0)],[(7000,.cells [.p (vSl 2 A0 x7)]),(6000,.cells [.yf 4]),(4,.yld (L10.map (λ(x:Int×(Sl Kj))=>[pI .i64 x.1,vSl 2 A0 x.2])) true),(3,.cells [pN q3]),(2,.cells [pN q2]),(1,.cells ((B5 q1).map .p)),(0,.cells [.p (vSl 2 A0 q0)])]⟩) (ids:=(Kk [0,1,2,3,4,6000,7000])) (λ_ _ _ _ _ u x7 x8 L10 o h=>?_);apply kI Z h<;>intro h
  .refine kC Z h (VZ Z Y) (λw h=>?_);apply kI Z h<;>intro h
   .exact o _ (Kk [0,1,2,3,4,6000,7000]) _ x7 (wrap .i64 (x8-1)) L10 Fe h
   refine kC Z h (Lz Z Y) (λq h=>?_);obtain⟨L13,rfl,f⟩:=Ma h;replace h:=f;refine Dk Z Fe (ys:=(λ(x:Int×(Sl Kj))=>[pI .i64 x.1,vSl 2 A0 x.2]) (x8,q)) (rest:=L13.map (λ(x:Int×(Sl Kj))=>[pI .i64 x.1,vSl 2 A0 x.2])) ?_ ?_
   .refine C7 Z Fe (b:=false) (λc44=>?_) (λc44=>?_)
    .exact Bool.noConfusion ((rfl:false=false).symm.trans c44)
    exact o _ (Kk [0,1,2,3,4,6000,7000]) _ q (wrap .i64 (x8-(if q2<1 then 1 else q2))) L13 Fe h
   refine C7 Z Fe (b:=true) (λc45=>?_) (λc45=>?_)
   .exact kO Z Fe (a:=.tup []) (objs:=[(.cells [.p (vSl 2 A0 q0)]),.cells ((B5 q1).map .p),.cells [pN q2],.cells [pN q3],.yld [] false]) [0,1,2,3,4] ⟨false,rfl,rfl,_,rfl⟩
   exact Bool.noConfusion (Ix.symm.trans c45)
  obtain rfl:=B2 h;exact kO Z Fe (a:=.tup []) (objs:=[(.cells [.p (vSl 2 A0 q0)]),.cells ((B5 q1).map .p),.cells [pN q2],.cells [pN q3],.yld [] true]) [0,1,2,3,4] ⟨true,rfl,rfl,_,rfl⟩
 obtain rfl:=B2 h;exact kO Z Fe (a:=.tup []) (objs:=[(.cells [.p (vSl 2 A0 q0)]),.cells ((B5 q1).map .p),.cells [pN q2],.cells [pN q3],.yld [] true]) [0,1,2,3,4] ⟨true,rfl,rfl,_,rfl⟩
def LA (N:Nat)(a:Law)(b:Sl Kj):Option ((Sl Kj)×Law×Int×Int):= some (b,a,(a.If.n:Int),(a.Out.n:Int))
theorem Ap0 {b:Law}{c:Sl Kj}{y:(Sl Kj)×Law×Int×Int}(h:LA N b c=some y) :Me S VN [.p (.agg (B5 b)),.p (vSl 2 A0 c)] [] (.clo Ko [] [.reg 0 0,.reg 1 0,.reg 2 0,.reg 3 0]) ([.cells [.p (vSl 2 A0 y.1)],.cells ((B5 y.2.1).map .p),.cells [pN y.2.2.1],.cells [pN y.2.2.2]]) []:=by unfold LA at h;refine A2 Z func200 ?_;refine F2 Z Fe [(1,.l [3000]),(2,.n),(4,.l [3000]),(5,.n),(6,.a [6000]),(7,.a [7000]),(8,.a [6000]),(9,.a [7000])] ?_;refine D0 Fe ?_;obtain rfl:=B2 h;exact kO Z Fe [4000,3000,6000,7000]
def Fn (N:Nat)(b:Law)(c:Sl Kj):Option ((Sl Int)×(Sl (Sl Kj))×Int):= (Fm N b c).bind λy1=>if (y1 != 0) then some (Iy,(Sl.nil:Sl (Sl Kj)),y1) else (LA N b c).bind λy2=>(Ds N y2.1 y2.2.1 y2.2.2.1 y2.2.2.2).bind λL1=>T2 L1 (λa (x1:Int×(Sl Kj)) (z1:(Sl Int)×(Sl (Sl Kj)))=>if (decide (32<(x1.2.n:Int))) then some (Iy,(Sl.nil:Sl (Sl Kj)),11) else if (Kl 8 (z1.1.n+(Sl.of [x1.1]:Sl Int).n))then if (Kl 24 (z1.2.n+(Sl.of [x1.2]:Sl (Sl Kj)).n))then a (z1.1.push x1.1,z1.2.push x1.2) else none else none) (λ(z1:(Sl Int)×(Sl (Sl Kj)))=>some (z1.1,z1.2,0)) (Iy,(Sl.nil:Sl (Sl Kj)))
theorem Ya {b:Law}{c:Sl Kj}{y:(Sl Int)×(Sl (Sl Kj))×Int}(h:Fn N b c=some y) :Me S Pt [.p (.agg (B5 b)),.p (vSl 2 A0 c)] [] (.tup [.vec 0,.vec 1,pN y.2.2]) ([oV E1 1 (cI .i64) y.1 true,oV U7 1 (cL 2 A0) y.2.1 true]) []:=by
 unfold Fn at h;refine A2 Z func196 ?_;refine F6 Z Fe 4 3000 (B5 b) ?_;obtain⟨y1,e1,h⟩:=A9 h;refine B4 Z [] Iu (XY Z Y e1) ?_;apply kI Z h<;>intro h
 .obtain rfl:=B2 h;exact J6 Z Fe ⟨[(6,.reg 7000 0),(5,.reg 6000 0),(4,.reg 5000 0)],[(7000,.cells [pN y1]),(6701,.vec U7 1 (Sl.nil:Sl (Sl Kj)).n (λi=>cL 2 A0 ((Sl.nil:Sl (Sl Kj)).g i)) true),(6000,.cells [.vec 6701]),(5700,oV E1 1 (cI .i64) Iy true),(5000,.cells [.vec 5700])]⟩ [5700,6701] (ids:=(Kk [5000,6000,7000])) ⟨rfl,rfl,rfl⟩
 obtain⟨y2,e2,h⟩:=A9 h;refine B4 Z [] Iu (Ap0 Z Y e2) ?_;obtain⟨L1,e3,h⟩:=A9 h;refine GV Z Fe [21000,21001,21002,21003] [9,8,6,5,4] 901 (λz1=>⟨[(9,.reg 10000 0),(8,.reg 9000 0),(6,.reg 7000 0),(5,.reg 6000 0),(4,.reg 5000 0)],[(10500,oV U7 1 (cL 2 A0) z1.2 false),(10000,.cells [.vec 10500]),(9500,oV E1 1 (cI .i64) z1.1 false),(9000,.cells [.vec 9500]),(7000,.cells [pN 0]),(6000,.cells [.p C6]),(5000,.cells [.p C6])]⟩) (idl:=(Kk [5000,6000,7000,9000,10000])) h (XZ Z Y e3) (λ_=>by kernel_rfl) (λ_=>by kernel_rfl) (λ_=>by kernel_rfl) (λ_=>by kernel_rfl) (λx1 _ d z1 f h=>?_) (λz1 h=>?_)
 .refine Kh Z Fe ?_;apply kI Z h<;>intro h
  .refine NN Z Fe ⟨[(9,.reg 10000 0),(8,.reg 9000 0),(6,.reg 7000 0),(5,.reg 6000 0),(4,.reg 5000 0)],[(10500,oV U7 1 (cL 2 A0) z1.2 false),(10000,.cells [.vec 10500]),(9500,oV E1 1 (cI .i64) z1.1 false),(9000,.cells [.vec 9500]),(7000,.cells [pN 11]),(6000,.cells [.p C6]),(5000,.cells [.p C6])]⟩ (ids:=(Kk [901,5000,6000,7000,9000,9500,10000,10500])) ?_;obtain rfl:=B2 h;exact J6 Z Fe ⟨[(6,.reg 7000 0),(5,.reg 6000 0),(4,.reg 5000 0)],[(7000,.cells [pN 11]),(6701,.vec U7 1 (Sl.nil:Sl (Sl Kj)).n (λi=>cL 2 A0 ((Sl.nil:Sl (Sl Kj)).g i)) true),(6000,.cells [.vec 6701]),(5700,oV E1 1 (cI .i64) Iy true),(5000,.cells [.vec 5700])]⟩ [5700,6701] (ids:=(Kk [5000,6000,7000])) ⟨rfl,rfl,rfl⟩
  refine F2 Z Fe [(0,.l [9000]),(3,.a [30000,9500]),(4,.l [10000]),(7,.a [34000,10500]),(8,.a [9000]),(9,.a [10000])] ?_;refine M4 Fe (x:=.sl true 1 1 (G2 [pI .i64 0] [(0,cI .i64 x1.1)])) ?_;obtain⟨c9,h⟩:=C8 h;refine M4 c9 (x:=.sl true 1 1 (G2 [C6] [(0,cL 2 A0 x1.2)])) ?_;obtain⟨c10,h⟩:=C8 h;refine D0 c10 ?_;exact f _ [(901,901),(5000,5000),(6000,6000),(7000,7000),(9000,9000),(9500,30000),(10000,10000),(10500,34000)] _ (z1.1.push x1.1,z1.2.push x1.2) Fe h (hle:=kl2 0 1 (X6 (cL 2 A0) z1.2 x1.2 [C6]) (X6 (cI .i64) z1.1 x1.1 [pI .i64 0]))
 refine F2 Z Fe [(0,.l [9000]),(1,.l [10000]),(2,.a [5000]),(3,.a [6000]),(4,.a [7000])] ?_;refine D0 Fe ?_;obtain rfl:=B2 h;exact J6 Z Fe ⟨[(6,.reg 7000 0),(5,.reg 6000 0),(4,.reg 5000 0)],[(10500,oV U7 1 (cL 2 A0) z1.2 true),(9500,oV E1 1 (cI .i64) z1.1 true),(7000,.cells [pN 0]),(6000,.cells [.vec 10500]),(5000,.cells [.vec 9500])]⟩ [9500,10500] (ids:=(Kk [5000,6000,7000,9500,10500])) ⟨rfl,rfl,rfl⟩
def X9 (N:Nat)(b:Law)(a:Sl Kj):Option ((Sl Kj)×Int):= (Fn N b a).bind λy1=>if (y1.2.2 != 0) then some ((Sl.nil:Sl Kj),y1.2.2) else if (decide (0<(y1.2.1.n:Int))) then if (((0:Int)<=(wrap .i64 ((y1.2.1.n:Int)-1))/\(wrap .i64 ((y1.2.1.n:Int)-1))<(y1.2.1.n:Int))/\(wrap .i64 ((y1.2.1.n:Int)-1)).toNat<y1.2.1.n)then some (y1.2.1.g (wrap .i64 ((y1.2.1.n:Int)-1)).toNat,0) else none else (A8 N a).bind λy2=>some (y2,0)
theorem Yb {a:Law}{b:Sl Kj}{y:(Sl Kj)×Int}(h:X9 N a b=some y) :Me S Ps [.p (.agg (B5 a)),.p (vSl 2 A0 b)] [] (.tup [.p (vSl 2 A0 y.1),pN y.2]) ([]) []:=by
 unfold X9 at h;refine A2 Z func188 ?_;refine kC Z h (Ya Z Y) (λy1 h=>?_);apply kI Z h<;>intro h
 .obtain rfl:=B2 h;exact kO Z Fe []
 apply kI Z h<;>intro h
 .obtain⟨c3,h⟩:=C8 h;obtain rfl:=B2 h;exact Am4 Z c3 [] ⟨rfl,rfl,rfl⟩
 refine kC Z h (Q4 Z Y) (λy2 h=>?_);obtain rfl:=B2 h;exact kO Z Fe []
end Go.AM
namespace Go.AM
open Go.Proofs.Tryz
variable {N:Nat}
open IntKind (wrap)
open Go.Proofs
set_option maxRecDepth 10000
set_option maxHeartbeats 2000000
variable {S:U5}(Z:G6 S Tryz.prog) (Y:JK S)
include Z Y
def T4 (N:Nat)(a:Law):Option Bool:= (AC N a).bind λy1=>some (y1 != 0)
theorem Ny {a:Law}{y:Bool}(h:T4 N a=some y) :Me S HG [.p (.agg (B5 a))] [] (pB y) ([]) []:=by unfold T4 at h;refine A2 Z func149 ?_;refine kC Z h (He Z Y) (λy1 h=>?_);cases h;exact kR Z
def F8 (N:Nat)(a:Sl Law)(c:Law->Option Bool):Option Int:= X5 N (λb (x1:Int)=>if (decide (x1<(a.n:Int))) then if ((0:Int)<=x1/\x1<(a.n:Int))then (c (a.g x1.toNat)).bind λy3=>if y3 then some x1 else b (wrap .i64 (x1+1)) else none else some (-1)) 0
theorem Bw {a:Sl Law}{c:Law->Option Bool}{kp_f:Nat}(d:∀{a0:Law}{b:Bool},c a0=some b->Me S kp_f [.p (.agg (B5 a0))] [] (pB b) [] []){y:Int}(h:F8 N a c=some y) :Me S Q3 [.p (vSl 18 B5 a),.clo kp_f [] []] [] (pN y) ([]) []:=by
 unfold F8 at h;refine A2 Z func186 ?_;refine P8 Z Fe h (λx1=>⟨[(8,pN x1),(7,pN (a.n:Int)),(1,.clo kp_f [] []),(0,.p (vSl 18 B5 a))],[]⟩) (ids:=[]) (λ_ _ _ _ _ f x1 g h=>?_);apply kI Z h<;>intro h
 .obtain⟨c8,h⟩:=C8 h;obtain⟨y3,e3,h⟩:=A9 h;refine B4 Z [] (Kn c8 Iu) (d e3) ?_;apply kI Z h<;>intro h
  .cases h;exact kR Z
  exact g _ [] _ (wrap .i64 (x1+1)) Fe h
 cases h;exact kR Z
def D3 (N:Nat)(a:Sl Law)(b:Law->Option Bool):Option Bool:= (F8 N a b).bind λy1=>some (decide (0<=y1))
theorem Ao {a:Sl Law}{c:Law->Option Bool}{kp_f:Nat}(d:∀{a0:Law}{b:Bool},c a0=some b->Me S kp_f [.p (.agg (B5 a0))] [] (pB b) [] []){y:Bool}(h:D3 N a c=some y) :Me S O4 [.p (vSl 18 B5 a),.clo kp_f [] []] [] (pB y) ([]) []:=by unfold D3 at h;refine A2 Z func148 ?_;refine kC Z h (Bw Z Y (λe=>d e)) (λy1 h=>?_);cases h;exact kR Z
def BW (N:Nat)(a:Sl Law):Option Int:= if (decide (64<(a.n:Int))) then some 12 else (D3 N a (λ(u1:Law)=>T4 N u1)).bind λy1=>if y1 then some 17 else some 0
theorem QR {a:Sl Law}{y:Int}(h:BW N a=some y) :Me S JE [.p (vSl 18 B5 a)] [] (pN y) ([]) []:=by
 unfold BW at h;refine A2 Z func108 ?_;apply kI Z h<;>intro h
 .cases h;exact kR Z
 refine kC Z h (Ao Z Y (λe=>Ny Z Y e)) (λy1 h=>?_);apply kI Z h<;>intro h
 .cases h;exact kR Z
 cases h;exact kR Z
def BX (N:Nat)(b:Sl Law)(a:Sl (Sl Kj)):Option Int:= (BW N b).bind λy1=>if (y1 != 0) then some y1 else if (decide (256<(a.n:Int))) then some 12 else X5 N (λc (x1:Int)=>if (decide (x1<(a.n:Int))) then if ((0:Int)<=x1/\x1<(a.n:Int))then (W8 N (a.g x1.toNat)).bind λy4=>if (y4 != 0) then some y4 else c (wrap .i64 (x1+1)) else none else some 0) 0
theorem QS {b:Sl Law}{a:Sl (Sl Kj)}{y:Int}(h:BX N b a=some y) :Me S Jz [.p (vSl 18 B5 b),.p (vSl 1 (cL 2 A0) a)] [] (pN y) ([]) []:=by
 unfold BX at h;refine A2 Z func69 ?_;refine kC Z h (QR Z Y) (λy1 h=>?_);apply kI Z h<;>intro h
 .cases h;exact kR Z
 apply kI Z h<;>intro h
 .cases h;exact kR Z
 refine P8 Z Fe h (λx1=>⟨[(19,pN x1),(18,pN (a.n:Int)),(17,.p (vSl 1 (cL 2 A0) a))],[]⟩) (ids:=[]) (λ_ _ _ _ _ c x1 d h=>?_);apply kI Z h<;>intro h
 .obtain⟨c10,h⟩:=C8 h;obtain⟨y4,e4,h⟩:=A9 h;refine B4 Z [] c10 (DR Z Y e4) ?_;apply kI Z h<;>intro h
  .cases h;exact kR Z
  exact d _ [] _ (wrap .i64 (x1+1)) Fe h
 cases h;exact kR Z
end Go.AM
namespace Go.AM
open Go.Proofs.Tryz
variable {N:Nat}
open IntKind (wrap)
open Go.Proofs
set_option maxRecDepth 10000
set_option maxHeartbeats 2000000
variable {S:U5}(Z:G6 S Tryz.prog) (Y:JK S)
include Z Y
def AD0 (c:Int):Option PV:=if c=0 then none else some (.iface 261 (pI .i64 c))
def Cc (N:Nat)(c:Int)(q0:Sl Kj)(q1:Sl Law):Option (List (Int×(Sl Kj))):= (A8 N q0).bind λy1=>Ak (0,y1) (Ca N (λa (x1:Sl Kj) (x2:Int)=>if (decide (x2<(q1.n:Int))) then if ((0:Int)<=x2/\x2<(q1.n:Int))then (X9 N (q1.g x2.toNat) x1).bind λy4=>if (y4.2 != 0) then if y4.2=c then some []else none else Ak (wrap .i64 (x2+1),y4.1) (a y4.1 (wrap .i64 (x2+1))) else none else if c=0 then some []else none) y1 0)
theorem HI {q0:Sl Kj}{q1:Sl Law}{c:Int}{L:List (Int×(Sl Kj))}(h:Cc N c q0 q1=some L) :ON S Z1 [] [.reg 0 0,.reg 1 0] [.cells [.p (vSl 2 A0 q0)],.cells [.p (vSl 18 B5 q1)]] (L.map (λ(x:Int×(Sl Kj))=>[pI .i64 x.1,vSl 2 A0 x.2])) (AD0 c):=by
 unfold Cc at h;refine Am9 Z func187 ?_;refine kC Z h (Q4 Z Y) (λy1 h=>?_);obtain⟨L1,rfl,d⟩:=Ma h;replace h:=d;refine Dk Z Fe (ys:=(λ(x:Int×(Sl Kj))=>[pI .i64 x.1,vSl 2 A0 x.2]) (0,y1)) (rest:=L1.map (λ(x:Int×(Sl Kj))=>[pI .i64 x.1,vSl 2 A0 x.2])) ?_ ?_
 .refine C7 Z Fe (b:=false) (λc1=>?_) (λc1=>?_)
  .exact Bool.noConfusion ((rfl:false=false).symm.trans c1)
  refine ST Z Fe h (λx1 x2 L2=>⟨[(17,pN x2),(16,pN (q1.n:Int)),(15,.p (vSl 18 B5 q1)),(4,.p (vSl 2 A0 x1)),(0,.yf 2)],[(2,.yld (L2.map (λ(x:Int×(Sl Kj))=>[pI .i64 x.1,vSl 2 A0 x.2])) true),(1,.cells [.p (vSl 18 B5 q1)]),(0,.cells [.p (vSl 2 A0 q0)])]⟩) (ids:=(Kk [0,1,2])) (λ_ _ _ _ _ g x1 x2 L2 i h=>?_);apply kI Z h<;>intro h
  .obtain⟨c13,h⟩:=C8 h;obtain⟨y4,e4,h⟩:=A9 h;refine B4 Z [] (Kn c13 Iu) (Yb Z Y e4) ?_;refine C7 Z Fe (b:=y4.2 != 0) (λc14=>?_) (λc14=>?_)
   .replace h:=itT c14 h;obtain⟨c0,h⟩:=C8 h;obtain rfl:=B2 h;have j:AD0 c=some (.iface 261 (pI .i64 y4.2)):=by
     have:¬y4.2=0:=by simpa using c14
     rw[<- c0];simp[AD0,this]
    refine AR1 Z Fe (x:=.iface 261 (pI .i64 y4.2)) ?_;exact AJ4 Z Fe (x:=.iface 261 (pI .i64 y4.2)) (objs:=[(.cells [.p (vSl 2 A0 q0)]),.cells [.p (vSl 18 B5 q1)],.yld [] true]) [0,1,2] ⟨true,rfl,rfl,λ_=>by rw[j];rfl,λe=>nomatch e⟩
   replace h:=itF c14 h;obtain⟨L5,rfl,f⟩:=Ma h;replace h:=f;refine Dk Z Fe (ys:=(λ(x:Int×(Sl Kj))=>[pI .i64 x.1,vSl 2 A0 x.2]) (wrap .i64 (x2+1),y4.1)) (rest:=L5.map (λ(x:Int×(Sl Kj))=>[pI .i64 x.1,vSl 2 A0 x.2])) ?_ ?_
   .refine C7 Z Fe (b:=false) (λc15=>?_) (λc15=>?_)
    .exact Bool.noConfusion ((rfl:false=false).symm.trans c15)
    exact i _ (Kk [0,1,2]) _ y4.1 (wrap .i64 (x2+1)) L5 Fe h
   refine C7 Z Fe (b:=true) (λc16=>?_) (λc16=>?_)
   .exact kO Z Fe (a:=.tup []) (objs:=[(.cells [.p (vSl 2 A0 q0)]),.cells [.p (vSl 18 B5 q1)],.yld [] false]) [0,1,2] ⟨false,rfl,rfl,λe=>(nomatch e),λ_=>⟨_,rfl⟩⟩
   exact Bool.noConfusion (Ix.symm.trans c16)
  obtain⟨c0,h⟩:=C8 h;obtain rfl:=B2 h;exact kO Z Fe (a:=.tup []) (objs:=[(.cells [.p (vSl 2 A0 q0)]),.cells [.p (vSl 18 B5 q1)],.yld [] true]) [0,1,2] ⟨true,rfl,rfl,λ_=>by subst c0;exact⟨_,rfl⟩,λe=>(nomatch e)⟩
 refine C7 Z Fe (b:=true) (λc17=>?_) (λc17=>?_)
 .exact kO Z Fe (a:=.tup []) (objs:=[(.cells [.p (vSl 2 A0 q0)]),.cells [.p (vSl 18 B5 q1)],.yld [] false]) [0,1,2] ⟨false,rfl,rfl,λe=>(nomatch e),λ_=>⟨_,rfl⟩⟩
 exact Bool.noConfusion (Ix.symm.trans c17)
def DF (N:Nat)(a:Sl Law)(b:Sl Kj):Option ((Sl Kj)×(Sl Law)):= some (b,a)
theorem JM {a:Sl Law}{b:Sl Kj}{y:(Sl Kj)×(Sl Law)}(h:DF N a b=some y) :Me S JH [.p (vSl 18 B5 a),.p (vSl 2 A0 b)] [] (.clo Z1 [] [.reg 0 0,.reg 1 0]) ([.cells [.p (vSl 2 A0 y.1)],.cells [.p (vSl 18 B5 y.2)]]) []:=by unfold DF at h;refine A2 Z func150 ?_;obtain rfl:=B2 h;exact kO Z Fe [4000,3000]
def K5 (N:Nat)(c:Int)(a:Sl Law)(d:Sl Kj):Option (Sl Kj):= (DF N a d).bind λy1=>(Cc N c y1.1 y1.2).bind λL1=>T2 L1 (λb (x1:Int×(Sl Kj)) (z1:Sl Kj)=>b x1.2) (λ(z1:Sl Kj)=>some z1) (Sl.nil:Sl Kj)
theorem Mi {a:Sl Law}{b:Sl Kj}{y:Sl Kj}(h:K5 N 0 a b=some y) :Me S K4 [.p (vSl 18 B5 a),.p (vSl 2 A0 b)] [] (.p (vSl 2 A0 y)) ([]) []:=by
 unfold K5 at h;refine A2 Z func111 ?_;refine kC Z h (JM Z Y) (λy1 h=>?_);obtain⟨L1,e2,h⟩:=A9 h;have f:ON S Z1 [] [.reg 0 0,.reg 1 0] [.cells [.p (vSl 2 A0 y1.1)],.cells [.p (vSl 18 B5 y1.2)]] (L1.map (λ(x:Int×(Sl Kj))=>[pI .i64 x.1,vSl 2 A0 x.2])) none:=HI Z Y e2;refine Zu Z Fe [8000,8001] [4] 901 (λz1=>⟨[(4,.reg 5000 0)],[(5000,.cells [.p (vSl 2 A0 z1)])]⟩) (idl:=[(5000,5000)]) h f (λ_=>by kernel_rfl) (λ_=>by kernel_rfl) (λ_=>by kernel_rfl) (λ_=>by kernel_rfl) (λx1 _ c z1 d h=>?_) (λz1 h=>?_)
 .refine Kh Z Fe ?_;exact d _ (Kk [901,5000]) _ x1.2 Fe h
 cases h;exact kR Z
theorem Mj {c:Int}{a:Sl Law}{b:Sl Kj}{y:Sl Kj}(hc:c≠0)(h:K5 N c a b=some y) :S.F K4 [.p (vSl 18 B5 a),.p (vSl 2 A0 b)] [] λres o k=>res=.panic (.iface 261 (pI .i64 c))/\o=[]/\k=[]:=by
 unfold K5 at h;refine AB7 Z func111 ?_;refine kC Z h (JM Z Y) (λy1 h=>?_);obtain⟨L1,e2,h⟩:=A9 h;have g:ON S Z1 [] [.reg 0 0,.reg 1 0] [.cells [.p (vSl 2 A0 y1.1)],.cells [.p (vSl 18 B5 y1.2)]] (L1.map (λ(x:Int×(Sl Kj))=>[pI .i64 x.1,vSl 2 A0 x.2])) (some (.iface 261 (pI .i64 c))):=by
  have:=HI Z Y e2
  simpa[AD0,hc]using this
 refine Zu Z Fe [8000,8001] [4] 901 (λz1=>⟨[(4,.reg 5000 0)],[(5000,.cells [.p (vSl 2 A0 z1)])]⟩) (idl:=[(5000,5000)]) h g (λ_=>by kernel_rfl) (λ_=>by kernel_rfl) (λ_=>by kernel_rfl) (λ_=>by kernel_rfl) (λx1 _ d z1 f h=>?_) (λz1 h=>?_)
 .refine Kh Z Fe ?_;exact f _ (Kk [901,5000]) _ x1.2 Fe h
 exact AJ4 Z Fe (x:=.iface 261 (pI .i64 c)) (objs:=[]) [] ⟨rfl,rfl,rfl⟩
def Cd (N:Nat)(a:Sl Law)(b:Sl Kj):Option ((Sl Kj)×Bool):=
 match K5 N 0 a b with
 |some y=>some (y,true)
 |none=>(K5 N 11 a b).bind λ_=>some ((Sl.nil:Sl Kj),false)
theorem Nz {b:Sl Law}{c:Sl Kj}{y:(Sl Kj)×Bool}(h:Cd N b c=some y) :Me S Hz [.p (vSl 18 B5 b),.p (vSl 2 A0 c)] [] (.tup [.p (vSl 2 A0 y.1),pB y.2]) ([]) []:=by
 unfold Cd at h;refine A2 Z func70 ?_;rcases e:K5 N 0 b c with _|z
 .rw[e]at h;obtain⟨z,e1,h⟩:=A9 h;obtain rfl:=B2 h;refine B4 Z [7000,3000,4000,5000] Fe (Y.attP (Mj Z Y (by decide) e1)) ?_;refine F2 Z Fe [(0,.l [5000]),(1,.l [7000]),(3,.a [5000])] ?_;refine D0 Fe ?_;exact J6 Z Fe ⟨[(5,pB false),(4,.reg 5000 0)],[(5000,.cells [.p (vSl 2 A0 Sl.nil)])]⟩ [] (ids:=[(5000,5000)]) ⟨rfl,rfl,rfl⟩
 rw[e]at h;obtain rfl:=B2 h;refine B4 Z [7000,3000,4000,5000] Fe (Y.attR (Mi Z Y e)) ?_;refine F2 Z Fe [(0,.l [5000]),(1,.l [7000]),(3,.a [5000])] ?_;refine D0 Fe ?_;exact J6 Z Fe ⟨[(5,pB true),(4,.reg 5000 0)],[(5000,.cells [.p (vSl 2 A0 z)])]⟩ [] (ids:=[(5000,5000)]) ⟨rfl,rfl,rfl⟩
end Go.AM
namespace Go.AM
open Go.Proofs
set_option maxRecDepth 10000
set_option maxHeartbeats 2000000
variable {S:U5}(Z:G6 S Tryz.prog) (Y:JK S)
include Z Y
def N4 (N:Nat)(a:Sl Law)(b:Sl Kj):Option ((Sl Kj)×Int):= (BX N a (Sl.of [b]:Sl (Sl Kj))).bind λy1=>if (y1 != 0) then some ((Sl.nil:Sl Kj),y1) else (Cd N a b).bind λy2=>if (!y2.2) then some ((Sl.nil:Sl Kj),11) else some (y2.1,0)
theorem Fo {N:Nat}{a:Sl Law}{b:Sl Kj}{y:(Sl Kj)×Int}(h:N4 N a b=some y) :Me S Im [.p (vSl 18 B5 a),.p (vSl 2 A0 b)] [] (.tup [.p (vSl 2 A0 y.1),pN y.2]) ([]) []:=by
 unfold N4 at h;refine A2 Z Tryz.func39 ?_;refine KV Z Ix ⟨[(11,.vec 12000),(9,.p (vSl 18 B5 a)),(1,.p (vSl 2 A0 b)),(0,.p (vSl 18 B5 a))],[(12000,.vec U7 1 (Sl.of [b]:Sl (Sl Kj)).n (λi=>cL 2 A0 ((Sl.of [b]:Sl (Sl Kj)).g i)) false)]⟩ (ids:=[(12000,12000)]) ?_ (hle:=kl1 3 (Ad2 (cL 2 A0) ([b]:List (Sl Kj)) [C6]));refine kC Z h (QS Z Y) (λy1 h=>?_);apply kI Z h<;>intro h
 .obtain rfl:=B2 h;exact kO Z Fe []
 refine kC Z h (Nz Z Y) (λy2 h=>?_);apply kI Z h<;>intro h
 .obtain rfl:=B2 h;exact kO Z Fe []
 cases h;exact kR Z
end Go.AM
