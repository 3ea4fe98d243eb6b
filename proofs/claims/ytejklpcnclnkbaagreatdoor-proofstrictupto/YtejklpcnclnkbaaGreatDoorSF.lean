/- Part 6. -/
import Derived.Test.YtejklpcnclnkbaaGreatDoorSE
import Derived.Test.YtejklpcnclnkbaaGreatDoorSD
import Derived.RecoverIn
import Derived.Test.YtejklpcnclnkbaaGreatDoorProg
import Derived.Lib.SlTrimSet
import Derived.Lib.Join
import Derived.Lib.ItoaNum
import Derived.Lib.Bytealg
import Derived.TacticsInMore
set_option linter.defProp false
set_option linter.unusedSimpArgs false
set_option linter.unusedVariables false
set_option linter.unusedSectionVars false
namespace Go.AM
abbrev Ii:Sl Int:=Sl.nil
def Ig:true=true:=rfl
def Ic:(18:Nat)<=18:=by decide
def Hz:(7:Nat)<=7:=by decide
def Ga:(2:Nat)<=2:=by decide
noncomputable abbrev Bc9:=Go.Proofs.Tryz.prog.funcs
def Bo2:=@Bool.eq_iff_iff
def Bv2:=@BitVec.toNat_ofNat
theorem GQ (D:List Deferred)(a:Act)(d:Option Tmp)(v:Value):(PK D a).put d v=PK D (a.put d v):=by cases d<;>rfl
theorem KK {F:Fence}{n:Nat}{P:Program}{ops:Array Oper}{Q:Exit->Act->World->Prop}(D:List Deferred):∀(l:List Nat) (a:Act) (w:World),wpOpsIn F n P ops Q l a w ->
 wpOpsIn F n P ops (fun e a' w'=>∃a0,a' = PK D a0/\Q e a0 w') l (PK D a) w
 |[],a,w,h=>⟨a,rfl,h⟩
 |i::l,a,w,h=>by
  have ih:=KK (F:=F) (n:=n) (P:=P) (ops:=ops) (Q:=Q) D l;simp only[wpOpsIn]at h⊢;have e1:(PK D a).eval=a.eval:=by funext x;cases x<;>rfl
  have e2:(PK D a).tmps=a.tmps:=rfl;cases j:ops[i]? with
  |none=>simp only[j]at h⊢;exact ih a w h
  |some o=>
   simp only[j]at h⊢;rw[e2,e1];by_cases hw:Region.wanted o (yielded ops a.tmps)=true
   .rw[Dn hw]at h⊢;refine⟨by rw[e1];exact h.1,?_⟩;have b:=h.2;rw[e1];generalize (o.semAt F.round a.eval).run P w=r at b;unfold Oper.uponIn at b⊢;split at b
    .rw[GQ];exact ih _ _ b
    .rw[GQ];exact ih _ _ b
    .exact ih _ _ b |> fun x=>by
      rename_i d w'
      have:({ (PK D a)with defers:=d::(PK D a).defers }:Act).put o.dst undef=PK D (({ a with defers:=d::a.defers }:Act).put o.dst undef):=by rw[<- GQ];rfl
      rw[this];exact x
    .refine⟨b.1,b.2.mono ?_⟩;intro e w' f;cases e with
     |returned v=>have:=ih _ _ f;rw[<- GQ]at this;exact this
     |panicked ch=>exact⟨a,rfl,f⟩
     |outgrown=>obtain⟨a1,w1,g⟩:=f;exact⟨PK D a1,w1,a1,rfl,g⟩
    .refine⟨b.1,fun c cs m=>?_⟩;obtain⟨v,w',g1,g2⟩:=b.2 c cs m;exact⟨v,w',by have:=ih _ _ g1;rw[<- GQ]at this;exact this,g2⟩
    .refine⟨b.1,b.2.mono ?_⟩;intro e w' f;cases e with
     |returned v=>have:=ih _ _ f;rw[<- GQ]at this;exact this
     |panicked ch=>exact⟨a,rfl,f⟩
     |outgrown=>obtain⟨a1,w1,g⟩:=f;exact⟨PK D a1,w1,a1,rfl,g⟩
    .exact⟨a,rfl,b⟩
    exact b.elim
   rw[Ej hw]at h⊢;rw[GQ];exact⟨h.1,ih _ _ h.2⟩
section
variable {P:Program}{C:Ctx}{st:St}{rho:Nat->Value}
theorem GR {fn:Func}{R:Ending->World->Prop}{u:FrameMode}(c:u ≠ .run){tmps:Array Value}{D:List Deferred}(b:∀a w,Sat C st a w rho->a.tmps=tmps->LeavesInM Fence.wide 0 P fn tmps R D u w) :∀(ds:List Deferred) (a:Act) (w:World),a.defers=ds->a.tmps=tmps->Sat C st a w rho->LeavesInM Fence.wide 0 P fn tmps R (ds++D) u w
 |[],a,w,hd,ht,h=>b a w h ht
 |d::ds,a,w,hd,ht,h=>by obtain⟨r,w',h1,f,g⟩:=h.unmark hd;exact⟨c,.inl ⟨r,w',h1,f,GR c b ds { a with defers:=ds } w' rfl ht g⟩⟩
end
end Go.AM
namespace Go.AM
structure Im where
 Plus:Int
 Minus:Int
 deriving Inhabited,DecidableEq
abbrev A0 (x:Im):List PV:=[(pI .u32 x.Plus),pI .u32 x.Minus]
inductive Pat where
 |nil
 |mk (Kind:Int) (Is:Im) (Not:Bool) (Min:Int) (Max:Int) (n:Nat) (g:Nat->Pat)
instance:Inhabited Pat:=⟨.nil⟩
def Pat.Kind:Pat->Int
 |.nil=>0
 |.mk x _ _ _ _ _ _=>x
def Pat.Is:Pat->Im
 |.nil=>default
 |.mk _ x _ _ _ _ _=>x
def Pat.Not:Pat->Bool
 |.nil=>false
 |.mk _ _ x _ _ _ _=>x
def Pat.Min:Pat->Int
 |.nil=>0
 |.mk _ _ _ x _ _ _=>x
def Pat.Max:Pat->Int
 |.nil=>0
 |.mk _ _ _ _ x _ _=>x
def Pat.L:Pat->Sl Pat
 |.nil=>⟨0,fun _=>.nil⟩
 |.mk _ _ _ _ _ n g=>⟨n,g⟩
def EW:Pat->Nat->List PV
 |.nil=>fun _=>[]
 |.mk _ _ _ _ _ n g=>fun i=>[(pI .i64 (g i).Kind),pI .u32 (g i).Is.Plus,pI .u32 (g i).Is.Minus,.bb (g i).Not,pI .i64 (g i).Min,pI .i64 (g i).Max,.sl false 7 (g i).L.n (EW (g i))]
abbrev E1 (x:Pat):List PV:=[(pI .i64 x.Kind),pI .u32 x.Is.Plus,pI .u32 x.Is.Minus,.bb x.Not,pI .i64 x.Min,pI .i64 x.Max,.sl false 7 x.L.n (EW x)]
def CJ (x:Pat):∀i,i<x.L.n->EW x i=E1 (x.L.g i):=by
 cases x with
 |nil=>intro i a;exact Er (show i<0 from a) (by omega)
 |mk Kind Is Not Min Max n g=>exact fun _ _=>rfl
structure Ei where
 From:Int
 Clear:Int
 Set:Im
 Take:Int
 Of:Int
 deriving Inhabited,DecidableEq
abbrev An (x:Ei):List PV:=[(pI .i64 x.From),pI .u32 x.Clear,pI .u32 x.Set.Plus,pI .u32 x.Set.Minus,pI .u32 x.Take,pI .i64 x.Of]
structure Law where
 Name:Str
 Left:Pat
 Right:Pat
 If:(Sl Im)
 Out:(Sl Ei)
 Mode:Int
 deriving Inhabited
abbrev B4 (x:Law):List PV:=[(.str x.Name),pI .i64 x.Left.Kind,pI .u32 x.Left.Is.Plus,pI .u32 x.Left.Is.Minus,.bb x.Left.Not,pI .i64 x.Left.Min,pI .i64 x.Left.Max,.sl false 7 x.Left.L.n (EW x.Left),pI .i64 x.Right.Kind,pI .u32 x.Right.Is.Plus,pI .u32 x.Right.Is.Minus,.bb x.Right.Not,pI .i64 x.Right.Min,pI .i64 x.Right.Max,.sl false 7 x.Right.L.n (EW x.Right),vSl 2 A0 x.If,vSl 6 An x.Out,pI .i64 x.Mode]
structure Small where
 Parents:(Sl Int)
 Laws:(Sl Law)
 On:(Sl Int)
 deriving Inhabited
abbrev HW (x:Small):List PV:=[(vSl 1 (cI .u8) x.Parents),vSl 18 B4 x.Laws,vSl 1 (cI .u16) x.On]
structure Ak3 where
 H:Small
 L:(Sl Int)
 deriving Inhabited
abbrev Fz (x:Ak3):List PV:=[(vSl 1 (cI .u8) x.H.Parents),vSl 18 B4 x.H.Laws,vSl 1 (cI .u16) x.H.On,vSl 1 (cI .u32) x.L]
structure Node where
 Parent:Int
 Name:Str
 deriving Inhabited,DecidableEq
abbrev C6 (x:Node):List PV:=[(pI .i64 x.Parent),.str x.Name]
structure History where
 Tree:(Sl Node)
 Laws:(Sl Law)
 On:(Sl (Sl Int))
 deriving Inhabited
abbrev A7 (x:History):List PV:=[(vSl 2 C6 x.Tree),vSl 18 B4 x.Laws,vSl 1 (cL 1 (cI .i64)) x.On]
structure K0 where
 Symbol:Str
 S:Im
 deriving Inhabited,DecidableEq
abbrev D6 (x:K0):List PV:=[(.str x.Symbol),pI .u32 x.S.Plus,pI .u32 x.S.Minus]
structure Jf where
 Text:Str
 Clear:Int
 Set:Im
 deriving Inhabited,DecidableEq
abbrev V6 (x:Jf):List PV:=[(.str x.Text),pI .u32 x.Clear,pI .u32 x.Set.Plus,pI .u32 x.Set.Minus]
structure H9 where
 Has:Bool
 W:(Sl Im)
 deriving Inhabited
abbrev F4 (x:H9):List PV:=[(.bb x.Has),vSl 2 A0 x.W]
structure Entry where
 Gloss:Str
 Forms:(Sl H9)
 deriving Inhabited
abbrev F5 (x:Entry):List PV:=[(.str x.Gloss),vSl 2 F4 x.Forms]
structure B8 where
 Feats:(Sl Str)
 Sounds:(Sl K0)
 Marks:(Sl Jf)
 History:History
 Protos:(Sl H9)
 Entries:(Sl Entry)
 deriving Inhabited
abbrev B1 (x:B8):List PV:=[(vSl 1 cS x.Feats),vSl 3 D6 x.Sounds,vSl 4 V6 x.Marks,vSl 2 C6 x.History.Tree,vSl 18 B4 x.History.Laws,vSl 1 (cL 1 (cI .i64)) x.History.On,vSl 2 F4 x.Protos,vSl 2 F5 x.Entries]
structure Exception where
 Entry:Int
 Leaf:Int
 Kind:Int
 Cost:Int
 deriving Inhabited,DecidableEq
abbrev A5 (x:Exception):List PV:=[(pI .i64 x.Entry),pI .i64 x.Leaf,pI .i64 x.Kind,pI .i64 x.Cost]
structure Swap where
 Node:Int
 Place:Int
 Entry:Int
 Leaf:Int
 deriving Inhabited,DecidableEq
abbrev J5 (x:Swap):List PV:=[(pI .i64 x.Node),pI .i64 x.Place,pI .i64 x.Entry,pI .i64 x.Leaf]
structure Gn where
 Bad:(Sl Exception)
 Swaps:(Sl Swap)
 deriving Inhabited
abbrev OE (x:Gn):List PV:=[(vSl 4 A5 x.Bad),vSl 4 J5 x.Swaps]
structure B9 where
 a0:Int
 a1:Int
 deriving Inhabited,DecidableEq
abbrev D5 (x:B9):List PV:=[(pI .i64 x.a0),pI .i64 x.a1]
structure Db where
 entry:Int
 leaf:Int
 deriving Inhabited,DecidableEq
abbrev OF (x:Db):List PV:=[(pI .i64 x.entry),pI .i64 x.leaf]
inductive Part where
 |nil
 |sound (x:Im) (no:Bool)
 |edge (e:Bool)
 |seq (n:Nat) (g:Nat->Part)
 |alt (n:Nat) (g:Nat->Part)
 |rep (o:Part) (mn mx:Int)
instance:Inhabited Part:=⟨.nil⟩
def Part.t:Part->Nat
 |.nil=>0
 |.sound _ _=>329
 |.edge _=>331
 |.seq _ _=>336
 |.alt _ _=>333
 |.rep _ _ _=>335
def Part.v:Part->PV
 |.nil=>.bb false
 |.sound x no=>.agg [pI .u32 x.Plus,pI .u32 x.Minus,.bb no]
 |.edge e=>.agg [.bb e]
 |.seq n g=>.agg [.sl false 1 n fun i=>[.iface (g i).t (g i).v]]
 |.alt n g=>.agg [.sl false 1 n fun i=>[.iface (g i).t (g i).v]]
 |.rep o mn mx=>.agg [.iface o.t o.v,pI .i64 mn,pI .i64 mx]
abbrev HX (x:Part):PV:=.iface x.t x.v
abbrev Jg (x:Part):List PV:=[HX x]
structure Ak4 where
 is:Im
 not:Bool
 deriving Inhabited,DecidableEq
abbrev YV (x:Ak4):List PV:=[(pI .u32 x.is.Plus),pI .u32 x.is.Minus,.bb x.not]
structure AN7 where
 end_:Bool
 deriving Inhabited,DecidableEq
abbrev AN8 (x:AN7):List PV:=[(.bb x.end_)]
structure Palt where
 l:(Sl Part)
 deriving Inhabited
abbrev AX8 (x:Palt):List PV:=[(vSl 1 Jg x.l)]
structure AX9 where
 of:Part
 min:Int
 max:Int
 deriving Inhabited
abbrev AY0 (x:AX9):List PV:=[(HX x.of),pI .i64 x.min,pI .i64 x.max]
structure Pseq where
 l:(Sl Part)
 deriving Inhabited
abbrev AY1 (x:Pseq):List PV:=[(vSl 1 Jg x.l)]
structure B2 where
 feats:(Sl Str)
 number:List (Str×Int)
 sounds:(Sl K0)
 symbols:List (Str×Int)
 values:List (Im×Int)
 deriving Inhabited
abbrev G9 (a b:Im):Bool:=((a.Plus==b.Plus)&&(a.Minus==b.Minus))
end Go.AM
namespace Go.AM
open Go.Proofs
abbrev De:Nat:=3
abbrev HY:Nat:=4
abbrev OH:Nat:=5
abbrev Ms:Nat:=6
abbrev Jh:Nat:=7
abbrev Ho:Nat:=8
abbrev Mt:Nat:=9
abbrev OI:Nat:=10
abbrev Rp:Nat:=11
abbrev Rq:Nat:=12
abbrev Mu:Nat:=13
abbrev KL:Nat:=14
abbrev Rr:Nat:=15
abbrev Mv:Nat:=16
abbrev Mw:Nat:=17
abbrev KM:Nat:=18
abbrev KN:Nat:=19
abbrev KO:Nat:=20
abbrev Mx:Nat:=21
abbrev KP:Nat:=22
abbrev L0:Nat:=23
abbrev S0:Nat:=24
abbrev OJ:Nat:=25
abbrev OK:Nat:=26
abbrev My:Nat:=27
abbrev OL:Nat:=28
abbrev Ji:Nat:=29
abbrev HZ:Nat:=30
abbrev Jj:Nat:=31
abbrev KQ:Nat:=32
abbrev Ia:Nat:=33
abbrev Jk:Nat:=34
abbrev KR:Nat:=35
abbrev OO:Nat:=36
abbrev Mz:Nat:=37
abbrev KS:Nat:=38
abbrev BF:Nat:=39
abbrev Y2:Nat:=40
abbrev DF:Nat:=41
abbrev OP:Nat:=42
abbrev X1:Nat:=43
abbrev Ib:Nat:=44
abbrev DN:Nat:=45
abbrev V8:Nat:=46
abbrev Id:Nat:=47
abbrev KT:Nat:=48
abbrev MA:Nat:=49
abbrev Jl:Nat:=50
abbrev Hq:Nat:=51
abbrev Gq:Nat:=52
abbrev MB:Nat:=53
abbrev Dd:Nat:=54
abbrev KU:Nat:=55
abbrev Gr:Nat:=56
abbrev OT:Nat:=57
abbrev KV:Nat:=58
abbrev Rs:Nat:=59
abbrev KW:Nat:=60
abbrev KX:Nat:=61
abbrev OU:Nat:=62
abbrev MC:Nat:=63
abbrev M4:Nat:=64
abbrev O0:Nat:=65
abbrev Rt:Nat:=66
abbrev Ie:Nat:=67
abbrev EX:Nat:=68
abbrev Jm:Nat:=69
abbrev Hr:Nat:=70
abbrev Hs:Nat:=71
abbrev MD:Nat:=72
abbrev ME:Nat:=73
abbrev KY:Nat:=74
abbrev S1:Nat:=75
abbrev Jn:Nat:=78
abbrev Jo:Nat:=79
abbrev MF:Nat:=80
abbrev Jp:Nat:=81
abbrev Ht:Nat:=82
abbrev Jq:Nat:=83
abbrev OX:Nat:=84
abbrev T4:Nat:=85
abbrev MG:Nat:=86
abbrev Cc:Nat:=87
abbrev P6:Nat:=88
abbrev T5:Nat:=89
abbrev EZ:Nat:=90
abbrev Cd:Nat:=91
abbrev Ru:Nat:=92
abbrev Rv:Nat:=93
abbrev FP:Nat:=94
abbrev Jr:Nat:=95
abbrev Q6:Nat:=96
abbrev N7:Nat:=97
abbrev P7:Nat:=98
abbrev MH:Nat:=99
abbrev Ih:Nat:=100
abbrev Js:Nat:=101
abbrev N1:Nat:=102
abbrev V9:Nat:=103
abbrev K3:Nat:=104
abbrev AN:Nat:=105
abbrev J0:Nat:=106
abbrev T6:Nat:=107
abbrev Hv:Nat:=108
abbrev FQ:Nat:=109
abbrev MI:Nat:=110
abbrev Ij:Nat:=111
abbrev S2:Nat:=118
abbrev BH:Nat:=119
abbrev Ju:Nat:=120
abbrev N3:Nat:=121
abbrev Hw:Nat:=122
abbrev Jv:Nat:=123
abbrev MJ:Nat:=124
abbrev Bi:Nat:=125
abbrev Vo:Nat:=126
abbrev Ao:Nat:=127
abbrev EB:Nat:=128
abbrev GS:Nat:=129
abbrev MK:Nat:=137
abbrev I9:Nat:=138
abbrev O1:Nat:=139
abbrev Hx:Nat:=140
abbrev Jw:Nat:=141
abbrev Ik:Nat:=142
abbrev Cf:Nat:=143
abbrev Bj:Nat:=144
abbrev DO:Nat:=145
abbrev N4:Nat:=146
abbrev Hy:Nat:=147
abbrev S3:Nat:=148
abbrev La:Nat:=149
abbrev O3:Nat:=156
abbrev P4:Nat:=157
abbrev JY:Nat:=158
abbrev P9:Nat:=163
abbrev Y6:Nat:=164
abbrev Pc:Nat:=165
abbrev Et:Nat:=166
abbrev Gs:Nat:=167
abbrev W0:Nat:=168
abbrev Bl:Nat:=169
abbrev DP:Nat:=170
abbrev X2:Nat:=171
abbrev CM:Nat:=172
abbrev Q0:Nat:=173
abbrev O4:Nat:=174
abbrev S4:Nat:=176
abbrev Pd:Nat:=180
abbrev Pe:Nat:=185
abbrev Vq:Nat:=186
abbrev Ka:Nat:=188
abbrev Rw:Nat:=189
abbrev O9:Nat:=190
abbrev Vr:Nat:=191
abbrev Vs:Nat:=192
abbrev Lb:Nat:=193
abbrev Io:Nat:=194
abbrev ML:Nat:=195
abbrev Gt:Nat:=196
abbrev J6:Nat:=197
abbrev Jx:Nat:=198
abbrev MM:Nat:=199
abbrev BJ:Nat:=200
abbrev Lc:Nat:=201
abbrev Pf:Nat:=202
abbrev Pg:Nat:=203
abbrev Ph:Nat:=204
abbrev Ld:Nat:=205
abbrev Lf:Nat:=206
abbrev Jy:Nat:=207
abbrev Ip:Nat:=208
abbrev DH:Nat:=209
abbrev Ek:Nat:=210
abbrev DQ:Nat:=229
abbrev Fd:Nat:=230
abbrev FS:Nat:=231
abbrev GU:Nat:=232
abbrev FD:Nat:=233
abbrev GV:Nat:=234
abbrev Ir:Nat:=235
abbrev Bn:Nat:=236
abbrev GW:Nat:=237
abbrev E4:Nat:=3
abbrev AF9:Nat:=4
abbrev H6:Nat:=5
abbrev F6:Nat:=9
abbrev DR:Nat:=23
abbrev Xv:Nat:=26
abbrev Aa9:Nat:=29
abbrev S5:Nat:=52
abbrev Dp:Nat:=56
abbrev FE:Nat:=62
abbrev U2:Nat:=67
abbrev R5:Nat:=69
abbrev Ch:Nat:=73
abbrev N8:Nat:=94
abbrev B5:Nat:=96
abbrev Gu:Nat:=99
abbrev H2:Nat:=102
abbrev D2:Nat:=116
abbrev Bo:Nat:=142
abbrev Ak9:Nat:=164
abbrev D7:Nat:=193
abbrev Ab0:Nat:=259
abbrev Xw:Nat:=324
end Go.AM
namespace Go.AM
open IntKind (wrap)
abbrev U (x:BitVec 64):Int:=(x.toNat:Int)
def Pm {n:Nat}(h:n<2 ^ 64):IntKind.u64.wrap (n:Int)=n:=by have h1:((n:Int) % (2 ^ 64:Int))=n:=Bk6 (by omega) (by omega);unfold wrap;simp only[IntKind.bits,IntKind.signed,h1,Bm3,Bd6,Eu]
def Al0 (x:BitVec 64):BitVec.ofInt 64 (U x)=x:=by
 apply Bj8;rw[Bu8]
 have:=x.isLt
 show ((x.toNat:Int) % ((2 ^ 64:Nat):Int)).toNat=x.toNat;omega
def or64 (x y:BitVec 64):O8 .or .u64 (U x) (U y)=U (x ||| y):=by simp only[O8,IntKind.bits,Al0];exact Pm (x ||| y).isLt
def Az2 (x y:BitVec 64):O8 .andNot .u64 (U x) (U y)=U (x &&& ~~~ y):=by simp only[O8,IntKind.bits,Al0];exact Pm (x &&& ~~~ y).isLt
def Az3 (n:Nat)(h:n<64):shI .shl .u64 1 n=U (1#64 <<< n):=by
 simp only[shI,IntKind.bits,Int.toNat_natCast];rw[Bm5 (by omega)];show wrap .u64 (1*2 ^ n)=((1#64 <<< n).toNat:Int);rw[BitVec.toNat_shiftLeft,Nat.shiftLeft_eq];have h1:(2:Nat) ^ n<2 ^ 64:=Nat.pow_lt_pow_right (by omega) h;have e:((1:Int)*2 ^ n)=((2 ^ n:Nat):Int):=by norm_cast;omega
 rw[e,Pm h1]
 norm_cast
 rw[Bl4]
 .simp
 simpa using h1
def AN9 {i:Nat}:(1#64).getLsbD i=decide (i=0):=by rw[BitVec.getLsbD_one];simp
def Al1 {n i:Nat}(h:n<64)(a:i<64):(1#64 <<< n).getLsbD i=decide (i=n):=by rw[BitVec.getLsbD_shiftLeft,AN9,Bo2];simp only[Bd3,Bf1,decide_eq_true_eq,decide_eq_false_iff_not];omega
end Go.AM
namespace Go.AM
open Go.Proofs.Tryz
variable {N:Nat}
open Go.Proofs
abbrev Az4:List AV:=[.reg 0 0,.reg 1 0,.reg 2 0,.reg 3 0]
abbrev Xx (c:Int)(a:Sl Law)(b:Sl Im)(y:PV):List Obj:=[.cells [pN c],.cells [.p (vSl 18 B4 a)],.cells [.p (vSl 2 A0 b)],.cells [.p y]]
structure Kb (S:U7):Prop where
 attR:∀{a:Sl Law}{b y:Sl Im},FunO S K3 [.p (vSl 18 B4 a),.p (vSl 2 A0 b)] [] (.p (vSl 2 A0 y)) [] []->FunO S N1 Az4 (Xx 0 a b C7) (.tup []) (Xx 0 a b (vSl 2 A0 y)) [true,true,true,true]
 attP:∀{a:Sl Law}{b:Sl Im}{c:Int},(S.F K3 [.p (vSl 18 B4 a),.p (vSl 2 A0 b)] [] fun res o k=>res=.panic (.iface 251 (pI .i64 c))/\o=[]/\k=[])->FunO S N1 Az4 (Xx 0 a b C7) (.tup []) (Xx c a b C7) [true,true,true,true]
 tz:∀x:BitVec 64,TZ S S4 [.p (pI .u64 (U x))] (.p (pI .i64 (Lib.ctz 64 x.toNat:Nat)))
 trim:∀s c:Str,s.length<1000000000000->c.length<1000000->(∀b∈c,b.toNat<128)->TZ S FP [.p (.str s),.p (.str c)] (.p (.str (Lib.trimS s c)))
 growS:∀(f:Nat->List PV) (n:Nat),n*8<=140737488355328->FunO S J6 [.p C7,.p (pI .i64 (n:Int))] [] (.vec 0) [.vec B5 2 0 f false] []
 join:∀(nn:Bool) (n:Nat) (g:Nat->List UInt8) (sep:List UInt8),n<=140737488355328->(Lib.join ((List.range n).map g) sep).length<=140737488355328 ->
  TZ S DF [.p (.sl nn 1 n fun i=>[.str (g i)]),.p (.str sep)] (.p (.str (Lib.join ((List.range n).map g) sep)))
 indexByte:∀(s:List UInt8) (c:UInt8),TZ S X2 [.p (.str s),.p (.v (.int .u8 c.toNat))] (.p (.v (.int .i64 (Lib.indexByte s c))))
 fmtInt:∀n:Int,-9223372036854775808<=n->n<=9223372036854775807->TZ S X1 [.p (pI .i64 n),.p (pI .i64 10)] (.p (.str (Lib.itoa n)))
 copyCheck:∀(T:Nat) (u n:Nat) (f:Nat->List PV),T=124->FunO S S1 [.reg 0 0] [.blk [0,T,u] 1,.vec H6 1 n f false] (.tup []) [.blk [0,T,1] 1,.vec H6 1 n f false] [true,true]
 bstr:∀(T u n:Nat) (f:Nat->List PV) (s:List UInt8),T=124->s.length=n->(∀i,i<n->f i=[.v (.int .u8 (s.getD i 0).toNat)])->FunO S V8 [.reg 0 0] [.blk [0,T,u] 1,.vec H6 1 n f false] (.p (.str s)) [] []
def I3 (N:Nat)(x:Int):Option Int:=if 0<=x/\x<18446744073709551616 then some ((Lib.ctz 64 x.toNat:Nat):Int)else none
def DI (N:Nat)(s c:Str):Option Str:=if s.length<1000000000000/\c.length<1000000/\(c.all fun b=>decide (b.toNat<128)) then some (Lib.trimS s c)else none
def J7 (N:Nat)(n:Int):Option (Sl Im):=if 0<=n/\n*8<=140737488355328 then some (Sl.nil:Sl Im)else none
section
variable {S:U7}(Z:G4 S Tryz.prog) (Y:Kb S)
include Z Y
theorem Fe {x y:Int}(h:I3 N x=some y):FunO S S4 [.p (pI .u64 x)] [] (.p (pI .i64 y)) [] []:=by
 obtain⟨⟨a,h1⟩,h⟩:=C9 h;obtain rfl:=A9 h
 have:=Y.tz (BitVec.ofNat 64 x.toNat)
 have e:(BitVec.ofNat 64 x.toNat).toNat=x.toNat:=by rw[Bv2];omega
 have e2:U (BitVec.ofNat 64 x.toNat)=x:=by show ((BitVec.ofNat 64 x.toNat).toNat:Int)=x;rw[e];omega
 rw[e,e2]at this;exact this
theorem Jz {s c:Str}{y:Str}(h:DI N s c=some y):FunO S FP [.p (.str s),.p (.str c)] [] (.p (.str y)) [] []:=by obtain⟨⟨a,h1,d⟩,h⟩:=C9 h;obtain rfl:=A9 h;exact Y.trim s c a h1 fun b hb=>by simpa using Be0.1 d b hb
theorem BK {n:Int}{y:Sl Im}(h:J7 N n=some y):FunO S J6 [.p C7,.p (pI .i64 n)] [] (.vec 0) [.vec B5 2 y.n (fun i=>A0 (y.g i)) false] []:=by
 obtain⟨⟨a,h1⟩,h⟩:=C9 h;obtain rfl:=A9 h
 have:=Y.growS (fun i=>A0 default) n.toNat (by omega)
 rw[show ((n.toNat:Nat):Int)=n by omega]at this;exact this
def A6 (N:Nat)(s:Sl Im):Option (Sl Im):=if (0+s.n)*8<=140737488355328/\0+s.n<=140737488355328 then some s else none
theorem Q1 {s y:Sl Im}(h:A6 N s=some y):FunO S J0 [.p (vSl 2 A0 s)] [] (.vec 0) [.vec B5 2 y.n (fun i=>A0 (y.g i)) true] []:=by
 unfold A6 at h;obtain⟨c1,h⟩:=C9 h;obtain rfl:=A9 h;refine A2 Z func106 ?_;refine UO Z Fa 3 (k:=2) (n:=s.n) (f:=fun i=>A0 (s.g i)) (fun a=>?_) ?_
 .obtain⟨n,g⟩:=s;obtain rfl:n=0:=a;exact kO Z Fa [3700]
 exact kO Z (And.intro Ig c1) [8000]
  (hle:=kl1 0 (Ad1 A0 s [pI .u32 0,pI .u32 0]))
def H3 (N:Nat)(s:Sl Ei):Option (Sl Ei):=if (0+s.n)*32<=140737488355328/\0+s.n<=140737488355328 then some s else none
theorem AQ {s y:Sl Im}(h:A6 N s=some y):FunO S J0 [.p (vSl 2 A0 s)] [] (.p (vSl 2 A0 y)) [] []:=by
 unfold A6 at h;obtain⟨c1,h⟩:=C9 h;obtain rfl:=A9 h;refine A2 Z func106 ?_;refine UO Z Fa 3 (k:=2) (n:=s.n) (f:=fun i=>A0 (s.g i)) (fun a=>?_) ?_
 .obtain⟨n,g⟩:=s;obtain rfl:n=0:=a;exact kO Z Fa []
 exact kO Z (And.intro Ig c1) []
  (hle:=kl1 0 (Ad1 A0 s [pI .u32 0,pI .u32 0]))
theorem CB {s y:Sl Ei}(h:H3 N s=some y):FunO S T6 [.p (vSl 6 An s)] [] (.p (vSl 6 An y)) [] []:=by
 unfold H3 at h;obtain⟨c1,h⟩:=C9 h;obtain rfl:=A9 h;refine A2 Z func107 ?_;refine UO Z Fa 3 (k:=6) (n:=s.n) (f:=fun i=>An (s.g i)) (fun a=>?_) ?_
 .obtain⟨n,g⟩:=s;obtain rfl:n=0:=a;exact kO Z Fa []
 exact kO Z (And.intro Ig c1) []
  (hle:=kl1 0 (Ad1 An s [pI .i64 0,pI .u32 0,pI .u32 0,pI .u32 0,pI .u32 0,pI .i64 0]))
end
end Go.AM
set_option maxRecDepth 100000
namespace Go.AM
open Go.Proofs.Tryz
open Go.Proofs
def Ab1 (v:Value)(w:World):(Instr.typeAssert (.iface 251 v) 20 251 true).run Tryz.prog w=.ok (.tuple #[v,.bool true]) w:=by kernel_rfl
def Xy (p:Value)(w:World):CallsDIn Fence.wide 0 Tryz.prog V9 #[p] .returning w fun e u' w'=>e=.returned (.tuple #[])/\u' = .returning/\w' = w:=by
 refine callsDIn_of_wpSIn func103 rfl (by simp[Fence.wide]) fun c₀ cs a=>?_;apply wpSIn_seq;apply wpSIn_region;simp[wpOpsSIn,go_sem,recoverD,a,f103,Exit.thenS];refine wpSIn_of_wpIn rfl (wpIn_block (wpIn_seq (wpIn_region ?_)));simp[wpOpsIn,Oper.wpIn,Oper.semAt,Oper.uponIn,go_sem,Exit.then];refine wpIn_cond (t:=true) (by simp[Act.eval]) ?_;simp only[Es];refine wpIn_region ?_;simp[wpOpsIn,Oper.wpIn,Oper.semAt,Oper.uponIn,go_sem,Exit.inBlock,bodyPostS,results];cases c₀
 simp_all
def Nh (p:Value)(c:Int)(older:List PanicEntry)(w w1:World)(a:(Instr.storeAt 48 p (.int .i64 c)).run Tryz.prog w=.ok () w1)(hn:∃b,p=.pointer (some b)) :CallsDIn Fence.wide 0 Tryz.prog V9 #[p] (.panicking ({ v:=.iface 251 (.int .i64 c),recovered:=false }::older)) w fun e u' w'=>
  e=.returned (.tuple #[])/\u' = .panicking ({ v:=.iface 251 (.int .i64 c),recovered:=true }::older)/\w' = w1:=by
 obtain⟨b,rfl⟩:=hn;refine callsDIn_of_wpSIn func103 rfl (by simp[Fence.wide]) fun c₀ cs d=>?_;apply wpSIn_seq;apply wpSIn_region;simp[wpOpsSIn,go_sem,recoverD,d,f103,Exit.thenS];refine wpSIn_of_wpIn rfl (wpIn_block (wpIn_seq (wpIn_region ?_)));simp[wpOpsIn,Oper.wpIn,Oper.semAt,Oper.uponIn,go_sem,Exit.then];refine wpIn_cond (t:=false) (by simp[Act.eval]) ?_;simp only[Bd6,Eu];refine wpIn_seq (wpIn_region ?_);simp[wpOpsIn,Oper.wpIn,Oper.semAt,Oper.uponIn,go_sem,Exit.then,Ab1];refine wpIn_cond (t:=true) (by simp[Act.eval]) ?_;simp only[Es];refine wpIn_seq (wpIn_region ?_);simp[wpOpsIn,Oper.wpIn,Oper.semAt,Oper.uponIn,go_sem,Exit.then];refine wpIn_region ?_;simp[wpOpsIn,Oper.wpIn,Oper.semAt,Oper.uponIn,go_sem,a,Exit.inBlock,bodyPostS,results];simp[go_sem]at a;rw[a];simp[Result.andThen]
noncomputable def AR5:Code:=match Tryz.f102.body with
 |some (.seq _ c)=>c
 |_=>.skip
def AO0 {S:U7}(Z:G4 S Tryz.prog){a:Sl Law}{b y:Sl Im}(c:FunO S K3 [.p (vSl 18 B4 a),.p (vSl 2 A0 b)] [] (.p (vSl 2 A0 y)) [] []) :KG S Tryz.prog (Rn S (fun st=>M0 [0,1,2,3] st.regs [0,1,2,3]=some (Xx 0 a b (vSl 2 A0 y))) fun _ _=>False) (.code AR5 [] ⟨argEnv Az4,objRegs (Xx 0 a b C7)⟩):=by refine B3 Z [] Fa c ?_;exact K_upN Z Fa ⟨[],[(3,.cells [.p (vSl 2 A0 y)]),(2,.cells [.p (vSl 2 A0 b)]),(1,.cells [.p (vSl 18 B4 a)]),(0,.cells [pN 0])]⟩ (ids:=[(0,0),(1,1),(2,2),(3,3)]) rfl
def Al2 {S:U7}(Z:G4 S Tryz.prog){a:Sl Law}{b:Sl Im}{c:Int}(d:S.F K3 [.p (vSl 18 B4 a),.p (vSl 2 A0 b)] [] fun res o k=>res=.panic (.iface 251 (pI .i64 c))/\o=[]/\k=[]) :KG S Tryz.prog (Rn S (fun _=>False) fun x st=>x=.iface 251 (pI .i64 c)/\store Tryz.prog st.regs 48 (.reg 0 0) (.p (pI .i64 c))=some ([],ins 0 (.cells [pN c]) st.regs)/\M0 [0,1,2,3] (ins 0 (.cells [pN c]) st.regs) [0,1,2,3]=some (Xx c a b C7)) (.code AR5 [] ⟨argEnv Az4,objRegs (Xx 0 a b C7)⟩):=by refine AN2 Z [] Fa d ?_;exact K_upP Z Fa ⟨rfl,by kernel_rfl,by kernel_rfl⟩
noncomputable def att1:Code:=match Tryz.f102.body with
 |some (.seq c _)=>c
 |_=>.skip
noncomputable def attOps:Array Oper:=match AR5 with
 |.region _ ops _=>ops
 |_=>#[]
def YW:AR5=.region 1 attOps false:=by kernel_rfl
def AY2:attOps.toList.all (IX 7 attOps.toList)=true:=by kernel_rfl
def Az5:¬Tryz.f102.name = "runtime.NumGoroutine" := by decide +kernel
def YX:Tryz.f102.body=some (.seq att1 AR5):=by kernel_rfl
def AO1 {C:Ctx}{vs:Array Value}{w:World}{rho:Nat->Value}{args:List AV}{objs:List Obj}{n:Nat}(Z:Sat C ⟨argEnv args,objRegs objs⟩ ⟨vs,[]⟩ w rho)(a:vs.size=args.length) :Sat C ⟨argEnv args,objRegs objs⟩ { tmps:=vs++Array.replicate n undef,defers:=[] } w rho:=by
 refine⟨Z.toSatE,fun t=>?_,Z.pin,Z.marks⟩
 have:=Z.env t
 by_cases ht:t<vs.size
 .simpa[Bc8,Bl0,ht]using this
 show RepA w _ _ _ _ (get (argEnv args) t);rw[AJ,Bd0,Bg9 (by omega)];exact .top _
def Pn {R:St->Prop}{X:PV->St->Prop}{a:Sl Law}{b:Sl Im}{objs' : List Obj}
 (a1:KG (FZ Tryz.prog) Tryz.prog (Rn (FZ Tryz.prog) R X) (.code AR5 [] ⟨argEnv Az4,objRegs (Xx 0 a b C7)⟩))
 (hR:∀st,R st->M0 [0,1,2,3] st.regs [0,1,2,3]=some objs')
 (hX:∀x st,X x st->∃c regs',x=.iface 251 (pI .i64 c)/\store Tryz.prog st.regs 48 (.reg 0 0) (.p (pI .i64 c))=some ([],regs')/\M0 [0,1,2,3] regs' [0,1,2,3]=some objs') :
 FunO (FZ Tryz.prog) N1 Az4 (Xx 0 a b C7) (.tup []) objs' [true,true,true,true]:=by
 intro 𝒢 C w vs rho hG Z t;obtain⟨l⟩:=vs
 match l,t with
 |[v0,v1,v2,v3],t=>?_
 refine⟨.enter N1 #[v0,v1,v2,v3],w,by simp[callFunc,func102,YX,Az5],?_⟩;refine callsIn_of_wp_marks func102 YX Fa ?_;have a2:=AO1 (n:=Tryz.f102.ntmps-4) Z t;have a9:Tryz.f102.ntmps-4=3:=rfl;rw[a9]at a2;have b1:((#[v0,v1,v2,v3]:Array Value)++Array.replicate 3 undef).size=7:=rfl;have hw:IT (FZ Tryz.prog) Tryz.prog attOps.toList attOps.toList (Rn (FZ Tryz.prog) R X) ⟨argEnv Az4,objRegs (Xx 0 a b C7)⟩:=by
  have:=a1.out
  rw[YW]at this;simpa only[G,awp,kp,Bd6,Eu]using this
 have a4:=Od (𝒢:=𝒢.fix C.rho0) (n:=7) (ro:=none) (ops:=attOps) AY2 attOps.toList 0 rfl (by simp) ⟨hG,rfl⟩ a2 b1 hw;have a5:=KK [{ target:=.fn (.func V9) #[],args:=#[v0] }] _ _ _ a4;rw[Br2]at a5;obtain⟨b0,a6,u⟩:∃b0,v0=.pointer (some ⟨b0,0,none⟩)/\rho 0=.pointer (some ⟨b0,0,none⟩):=by
  have h0:RepA w _ _ rho v0 (.reg 0 0):=Z.env 0;cases h0 with
  |reg _ _ b0 _ h=>exact⟨b0,rfl,h⟩
 have s:∀{C' : Ctx}{st' : St}{a' : Act}{w' : World}{rho' : Nat->Value},(𝒢.fix C.rho0).G C' -> Sat C' st' a' w' rho' -> M0 [0,1,2,3] st'.regs [0,1,2,3]=some objs' ->
  LeavesInM Fence.wide 0 Tryz.prog f102 a'.tmps (fun e w'=>∃C' r objs0 ks rho', 𝒢.G C' /\ (r=.ret (.tup [])/\objs0=objs' /\ ks=[true,true,true,true])/\SatE C' (objRegs objs0) w' rho' /\
   Aq5 w' (Prv C'.X (A1 (objRegs objs0)) rho') (Lv (A1 (objRegs objs0))) rho' e r/\∀i:Nat,ks[i]? = some true->i<objs0.length/\rho' i=rho i) [] .returning w':=by
  intro C' st' a' w' rho' d f m;obtain⟨g1,g2,g3⟩:=Oe f (by decide) m;obtain⟨hl,hg⟩:=AK m;refine⟨.tuple #[],by simp[results,f102],C', .ret (.tup []),objs',_,_,d.1,⟨rfl,rfl,rfl⟩,g1,⟨_,rfl,.tup _ _ rfl fun i hi=>Er hi (by simp)⟩,?_⟩;intro i hi;have y:i<4:=by
   have:=(Be2.1 hi).1
   simpa using this
  refine⟨by rw[hl];exact y,?_⟩;have e1:[0,1,2,3][i]? = some i:=by
   match i,y with
   |0,_=>rfl
   |1,_=>rfl
   |2,_=>rfl
   |3,_=>rfl
  obtain⟨o,_,ho,_⟩:=hg i i e1;show rho' ([0,1,2,3].getD i 0)=rho i;rw[Eg e1,f.pin i (by omega) (by simp[Lv,ho]),d.2];refine (Z.pin i (by omega) ?_).symm;rw[Lv,E9]
  match i,y with
  |0,_=>rfl
  |1,_=>rfl
  |2,_=>rfl
  |3,_=>rfl
 generalize hQ:bodyPostM _ _ _ _ _=QQ;refine wpIn_seq ?_;simp only[att1,f102];refine wpIn_region ?_;simp[wpOpsIn,Oper.wpIn,Oper.semAt,Oper.uponIn,go_sem,Exit.then];subst hQ;rw[YW];refine wpIn_mono (wpIn_region (F:=FW none) a5) ?_;rintro e a' w' ⟨a0,rfl,z⟩;cases e with
 |exit id=>obtain⟨_,_,_,_,_,_,h⟩:=z;exact h.elim
 |goto l=>obtain⟨_,_,_,_,_,_,h⟩:=z;exact h.elim
 |ret=>obtain⟨_,_,_,_,_,_,h⟩:=z;exact h.elim
 |outgrown=>exact z.elim
 |normal=>
  obtain⟨C',st',rho',d,f,a7,hu⟩:=z;obtain⟨st2,rho2,hR2,_,hs2⟩:=hu C' a0 w' rho' f;refine GR (C:=C') (st:=st2) (rho:=rho2) (by simp) ?_ a0.defers a0 w' rfl rfl hs2;intro a3 w3 q ht;refine⟨by simp,.inr ⟨by simp[Fence.wide],_,_,V9,#[v0],rfl,by simp[go_sem],fun _ _=>trivial,?_⟩⟩;refine (Xy v0 w3).mono ?_;rintro e u' w4 ⟨rfl,rfl,rfl⟩
  have:=s d q (hR st2 hR2)
  rw[ht]at this;exact this
 |panic chain=>
  obtain⟨C',st',rho',v,x,rfl,d,f,a7,hv,hXx⟩:=z;obtain⟨c,regs',rfl,g,m⟩:=hX x st' hXx;obtain rfl:v=.iface 251 (.int .i64 c):=by
   cases hv with
   |iface _ _ _ h=>cases h;rfl
  refine GR (C:=C') (st:=st') (rho:=rho') (by simp) ?_ a0.defers a0 w' rfl rfl f;intro a3 w3 q ht;have j:Lv (A1 st'.regs) 0:=by
   cases hj:A1 st'.regs 0 with
   |some o=>simp[Lv,hj]
   |none=>
    unfold store at g;split at g
    .simp[hj]at g
    cases g
  have hr0:rho' 0=.pointer (some ⟨b0,0,none⟩):=by rw[q.pin 0 (by omega) j,d.2,<- u];exact (Z.pin 0 (by omega) rfl).symm
  have hva:RS C' st' w3 rho' v0 (.reg 0 0):=by rw[a6];exact .reg 0 0 b0 j hr0
  obtain⟨w4,a8,hs4,_⟩:=NO q (vx:=.int .i64 c) hva (.p _ _ (.v _)) g Fa;refine⟨by simp,.inr ⟨by simp[Fence.wide],_,_,V9,#[v0],rfl,by simp[go_sem],fun _ _=>trivial,?_⟩⟩;refine (Nh v0 c [] w3 w4 a8 ⟨_,a6⟩).mono ?_;rintro e u' w5 ⟨rfl,rfl,rfl⟩
  have:=s d hs4 m
  rw[ht]at this;exact this
def Xz {a:Sl Law}{b y:Sl Im}(c:FunO (FZ Tryz.prog) K3 [.p (vSl 18 B4 a),.p (vSl 2 A0 b)] [] (.p (vSl 2 A0 y)) [] []) :FunO (FZ Tryz.prog) N1 Az4 (Xx 0 a b C7) (.tup []) (Xx 0 a b (vSl 2 A0 y)) [true,true,true,true]:=
 Pn (AO0 (good Tryz.prog) c) (fun st h=>h) (fun x st h=>h.elim)
def Te {a:Sl Law}{b:Sl Im}{c:Int}(d:(FZ Tryz.prog).F K3 [.p (vSl 18 B4 a),.p (vSl 2 A0 b)] [] fun res o k=>res=.panic (.iface 251 (pI .i64 c))/\o=[]/\k=[]) :FunO (FZ Tryz.prog) N1 Az4 (Xx 0 a b C7) (.tup []) (Xx c a b C7) [true,true,true,true]:=
 Pn (Al2 (good Tryz.prog) d) (fun st h=>h.elim) (fun x st h=>⟨c,_,h.1,h.2.1,h.2.2⟩)
end Go.AM
namespace Go.AM
open Go.Proofs.Tryz
variable {N:Nat}
open IntKind (wrap)
open Go.Proofs
set_option maxRecDepth 10000
set_option maxHeartbeats 2000000
variable {S:U7}(Z:G4 S Tryz.prog) (Y:Kb S)
include Z Y
def H4 (N:Nat)(a:Im):Option Bool:= some (((O8 .and .u32 a.Plus a.Minus)==0)&&(decide ((O8 .or .u32 a.Plus a.Minus)<=16777215)))
theorem Q4 {b:Im}{y:Bool}(h:H4 N b=some y) :FunO S KX [.p (.agg (A0 b))] [] (pB y) ([]) []:=by unfold H4 at h;refine A2 Z func61 ?_;refine kB Z (A4 Z) Fa Fa 7 (.n (.a ((O8 .and .u32 b.Plus b.Minus)==0)) (.a (decide ((O8 .or .u32 b.Plus b.Minus)<=16777215)))) ?_;cases h;exact kR Z
def R6 (N:Nat)(b:Im)(a:Im):Option Bool:= (H4 N b).bind fun y1=>lt (fun (z1:Bool)=>some z1) fun k1=>if y1 then (H4 N a).bind fun y3=>if y3 then if ((O8 .andNot .u32 a.Plus b.Plus)==0) then k1 ((O8 .andNot .u32 a.Minus b.Minus)==0) else k1 false else k1 false else k1 false
theorem LU {c:Im}{a:Im}{y:Bool}(h:R6 N c a=some y) :FunO S Gt [.p (.agg (A0 c)),.p (.agg (A0 a))] [] (pB y) ([]) []:=by
 unfold R6 at h;refine A2 Z func196 ?_;refine kC Z h (Q4 Z Y) (fun y1 h=>?_);refine KH Z Fa (A4 Z) h 0 (fun z1=>⟨[(4,pB z1)],[]⟩) (fun M1 k1 b h=>?_) (fun z1 h=>?_)
 .refine kG Z h (fun h=>?_) (fun h=>?_)
  .refine kC Z h (Q4 Z Y) (fun y3 h=>?_);refine kG Z h (fun h=>?_) (fun h=>?_)
   .refine kG Z h (fun h=>?_) (fun h=>?_)
    .exact b _ [] _ ((O8 .andNot .u32 a.Minus c.Minus)==0) Fa h
    exact b _ [] _ false Fa h
   exact b _ [] _ false Fa h
  exact b _ [] _ false Fa h
 cases h;exact kR Z
def Ff (N:Nat)(a:Im):Option Int:= some (O8 .or .u32 a.Plus a.Minus)
theorem Po {a:Im}{y:Int}(h:Ff N a=some y) :FunO S Pg [.p (.agg (A0 a))] [] (pU y) ([]) []:=by unfold Ff at h;refine A2 Z func203 ?_;cases h;exact kR Z
def Dq (N:Nat)(c:Im)(b:Im)(a:Int):Option Im:= some (⟨O8 .or .u32 (O8 .andNot .u32 c.Plus a) (O8 .and .u32 b.Plus a),O8 .or .u32 (O8 .andNot .u32 c.Minus a) (O8 .and .u32 b.Minus a)⟩:Im)
theorem Pp {c:Im}{a:Im}{b:Int}{y:Im}(h:Dq N c a b=some y) :FunO S Ph [.p (.agg (A0 c)),.p (.agg (A0 a)),pU b] [] (.p (.agg (A0 y))) ([]) []:=by unfold Dq at h;refine A2 Z func204 ?_;cases h;exact kR Z
def Z5 (N:Nat)(c:Im)(a:Int)(b:Im):Option (Im×Int):= (H4 N c).bind fun y1=>lt (fun (z1:Bool)=>if z1 then some ((⟨0,0⟩:Im),14) else lt (fun (z2:Bool)=>if z2 then some ((⟨0,0⟩:Im),2) else (Ff N b).bind fun y6=>(Dq N c b (O8 .or .u32 a y6)).bind fun y7=>some (y7,0)) fun k2=>if (decide (16777215<a)) then k2 true else (Ff N b).bind fun y5=>k2 ((O8 .and .u32 a y5) != 0)) fun k1=>if (!y1) then k1 true else (H4 N b).bind fun y3=>k1 (!y3)
theorem Qr {c:Im}{a:Int}{b:Im}{y:Im×Int}(h:Z5 N c a b=some y) :FunO S Jx [.p (.agg (A0 c)),pU a,.p (.agg (A0 b))] [] (.tup [.p (.agg (A0 y.1)),pN y.2]) ([]) []:=by
 unfold Z5 at h;refine A2 Z func198 ?_;refine F7 Z Fa 5 4000 [pI .u32 c.Plus,pI .u32 c.Minus] ?_;refine F7 Z Fa 6 6000 [pI .u32 b.Plus,pI .u32 b.Minus] ?_;obtain⟨y1,e1,h⟩:=A8 h;refine B3 Z [] Ga (Q4 Z Y e1) ?_;refine KH Z Fa (A4 Z) h 0 (fun z1=>⟨[(15,pB z1),(6,.reg 7000 0),(5,.p (.ptr [pI .u32 b.Plus,pI .u32 b.Minus])),(3,.p (.ptr [pI .u32 c.Plus,pI .u32 c.Minus])),(1,pU a)],[(7000,.cells [pU 0,pU 0])]⟩) (fun M1 k1 d h=>?_) (fun z1 h=>?_)
 .refine kG Z h (fun h=>?_) (fun h=>?_)
  .exact d _ [(7000,7000)] _ true Fa h
  obtain⟨y3,e3,h⟩:=A8 h;refine B3 Z [] Ga (Q4 Z Y e3) ?_;exact d _ [(7000,7000)] _ (!y3) Fa h
 apply kI Z h<;>intro h
 .cases h;exact kR Z
 refine KH Z Fa (A4 Z) h 0 (fun z2=>⟨[(25,pB z2),(6,.reg 7000 0),(5,.p (.ptr [pI .u32 b.Plus,pI .u32 b.Minus])),(3,.p (.ptr [pI .u32 c.Plus,pI .u32 c.Minus])),(1,pU a)],[(7000,.cells [pU 0,pU 0])]⟩) (fun M2 k2 f h=>?_) (fun z2 h=>?_)
 .refine kG Z h (fun h=>?_) (fun h=>?_)
  .exact f _ [(7000,7000)] _ true Fa h
  obtain⟨y5,e5,h⟩:=A8 h;refine B3 Z [] Ga (Po Z Y e5) ?_;exact f _ [(7000,7000)] _ ((O8 .and .u32 a y5) != 0) Fa h
 apply kI Z h<;>intro h
 .cases h;exact kR Z
 refine E3 Z Fa [0,1,3,4,6] ?_;obtain⟨y6,e6,h⟩:=A8 h;refine G1 (And.intro (And.intro Ga Ga) Ga) (Po Z Y e6) ?_;obtain⟨y7,e7,h⟩:=A8 h;refine G1 Fa (Pp Z Y e7) ?_;refine D1 Fa ?_;cases h;exact kR Z
def Ct (N:Nat)(c:Im)(a:Im)(b:Int):Option (Im×Int):= (H4 N c).bind fun y1=>lt (fun (z1:Bool)=>if z1 then some ((⟨0,0⟩:Im),14) else if (decide (16777215<b)) then some ((⟨0,0⟩:Im),2) else (Dq N c a b).bind fun y4=>some (y4,0)) fun k1=>if (!y1) then k1 true else (H4 N a).bind fun y3=>k1 (!y3)
theorem Vw {c:Im}{a:Im}{b:Int}{y:Im×Int}(h:Ct N c a b=some y) :FunO S MM [.p (.agg (A0 c)),.p (.agg (A0 a)),pU b] [] (.tup [.p (.agg (A0 y.1)),pN y.2]) ([]) []:=by
 unfold Ct at h;refine A2 Z func199 ?_;refine kC Z h (Q4 Z Y) (fun y1 h=>?_);refine KH Z Fa (A4 Z) h 0 (fun z1=>⟨[(15,pB z1),(6,.reg 7000 0),(4,.reg 5000 0),(3,.reg 4000 0),(2,pU b)],[(7000,.cells [pU 0,pU 0]),(5000,.cells [pU a.Plus,pU a.Minus]),(4000,.cells [pU c.Plus,pU c.Minus])]⟩) (fun M1 k1 d h=>?_) (fun z1 h=>?_)
 .refine kG Z h (fun h=>?_) (fun h=>?_)
  .exact d _ [(4000,4000),(5000,5000),(7000,7000)] _ true Fa h
  refine kC Z h (Q4 Z Y) (fun y3 h=>?_);exact d _ [(4000,4000),(5000,5000),(7000,7000)] _ (!y3) Fa h
 apply kI Z h<;>intro h
 .cases h;exact kR Z
 apply kI Z h<;>intro h
 .cases h;exact kR Z
 refine kC Z h (Pp Z Y) (fun y4 h=>?_);cases h;exact kR Z
def Cu (N:Nat)(a:Im):Option Bool:= some (((O8 .and .u32 a.Plus a.Minus)==0)&&((shI .shr .u32 (O8 .or .u32 a.Plus a.Minus) 24)==0))
theorem Vx {a:Im}{y:Bool}(h:Cu N a=some y) :FunO S MF [.p (.agg (A0 a))] [] (pB y) ([]) []:=by
 unfold Cu at h;refine A2 Z func80 ?_;obtain⟨t1,c⟩:∃x:Bool,x=(((O8 .and .u32 a.Plus a.Minus)==0)&&((shI .shr .u32 (O8 .or .u32 a.Plus a.Minus) 24)==0)):=⟨_,rfl⟩;refine WX Z Fa (A4 Z) 0 ⟨[(2,pB t1)],[]⟩ (fun M1 d=>?_) ?_
 .refine GN Z Fa (b:=(O8 .and .u32 a.Plus a.Minus)==0) (fun c2=>?_) (fun c2=>?_)
  .exact d _ [] _ (by decide:(0:Int)<=24) (hle:=klR [(0,.eq (.bb ((shI .shr .u32 (O8 .or .u32 a.Plus a.Minus) 24)==0)) (.bb t1))] (al1 (by simp only[c,c2,Leaf.ok,pm,Es,Eu]) al0))
  exact d _ [] _ Fa (hle:=klR [(0,.eq (.bb false) (.bb t1))] (al1 (by simp only[c,c2,Leaf.ok,pm,Es,Eu]) al0))
 subst c;cases h;exact kR Z
def W6 (N:Nat)(a:Sl Im):Option Int:= if (decide (32<(a.n:Int))) then some 11 else Y1 N (fun b (x1:Int)=>if (decide (x1<(a.n:Int))) then if ((0:Int)<=x1/\x1<(a.n:Int))then (Cu N (a.g x1.toNat)).bind fun y3=>if (!y3) then some 14 else b (wrap .i64 (x1+1)) else none else some 0) 0
theorem DS {a:Sl Im}{y:Int}(h:W6 N a=some y) :FunO S MA [.p (vSl 2 A0 a)] [] (pN y) ([]) []:=by
 unfold W6 at h;refine A2 Z func49 ?_;apply kI Z h<;>intro h
 .cases h;exact kR Z
 refine R9 Z Fa h (fun x1=>⟨[(10,pN x1),(9,pN (a.n:Int)),(8,.p (vSl 2 A0 a))],[]⟩) (ids:=[]) (fun _ _ _ _ _ b x1 c h=>?_);apply kI Z h<;>intro h
 .obtain⟨c9,h⟩:=C9 h;obtain⟨y3,e3,h⟩:=A8 h;refine B3 Z [] (And.intro c9 Ga) (Vx Z Y e3) ?_;apply kI Z h<;>intro h
  .cases h;exact kR Z
  exact c _ [] _ (wrap .i64 (x1+1)) Fa h
 cases h;exact kR Z
def E5 (N:Nat)(a:Sl Im)(b:Sl Im):Option Bool:= if ((a.n:Int) != (b.n:Int)) then some false else Y1 N (fun c (x1:Int)=>if (decide (x1<(a.n:Int))) then if (((0:Int)<=x1/\x1<(a.n:Int))/\((0:Int)<=x1/\x1<(b.n:Int)))then if ((((a.g x1.toNat).Plus==(b.g x1.toNat).Plus)&&((a.g x1.toNat).Minus==(b.g x1.toNat).Minus)) != true) then some false else c (wrap .i64 (x1+1)) else none else some true) 0
theorem Bp {a:Sl Im}{b:Sl Im}{y:Bool}(h:E5 N a b=some y) :FunO S P6 [.p (vSl 2 A0 a),.p (vSl 2 A0 b)] [] (pB y) ([]) []:=by
 unfold E5 at h;refine A2 Z func88 ?_;apply kI Z h<;>intro h
 .cases h;exact kR Z
 refine R9 Z Fa h (fun x1=>⟨[(13,pN x1),(12,pN (a.n:Int)),(1,.p (vSl 2 A0 b)),(0,.p (vSl 2 A0 a))],[]⟩) (ids:=[]) (fun _ _ _ _ _ c x1 d h=>?_);apply kI Z h<;>intro h
 .refine E3 Z Fa [2,3,6,7] ?_;obtain⟨c9,h⟩:=C9 h;refine D1 (And.intro (And.intro (And.intro (And.intro c9.1 Ga) c9.2) Ga) (by decide +kernel:QG Tryz.prog B5=true)) ?_;apply kI Z h<;>intro h
  .cases h;exact kR Z
  exact d _ [] _ (wrap .i64 (x1+1)) Fa h
 cases h;exact kR Z
def Ar (N:Nat)(a:Sl Im)(b:Sl Im):Option Bool:= (E5 N a b).bind fun y1=>some y1
theorem MN {a:Sl Im}{b:Sl Im}{y:Bool}(h:Ar N a b=some y) :FunO S MB [.p (vSl 2 A0 a),.p (vSl 2 A0 b)] [] (pB y) ([]) []:=by unfold Ar at h;refine A2 Z func53 ?_;refine kC Z h (Bp Z Y) (fun y1 h=>?_);cases h;exact kR Z
def Q7 (N:Nat)(a:Im):Option Bool:= some (((O8 .and .u32 a.Plus a.Minus)==0)&&((shI .shr .u32 (O8 .or .u32 a.Plus a.Minus) 24)==0))
theorem FF {a:Im}{y:Bool}(h:Q7 N a=some y) :FunO S MK [.p (.agg (A0 a))] [] (pB y) ([]) []:=by
 unfold Q7 at h;refine A2 Z func137 ?_;obtain⟨t1,c⟩:∃x:Bool,x=(((O8 .and .u32 a.Plus a.Minus)==0)&&((shI .shr .u32 (O8 .or .u32 a.Plus a.Minus) 24)==0)):=⟨_,rfl⟩;refine WX Z Fa (A4 Z) 0 ⟨[(2,pB t1)],[]⟩ (fun M1 d=>?_) ?_
 .refine GN Z Fa (b:=(O8 .and .u32 a.Plus a.Minus)==0) (fun c2=>?_) (fun c2=>?_)
  .exact d _ [] _ (by decide:(0:Int)<=24) (hle:=klR [(0,.eq (.bb ((shI .shr .u32 (O8 .or .u32 a.Plus a.Minus) 24)==0)) (.bb t1))] (al1 (by simp only[c,c2,Leaf.ok,pm,Es,Eu]) al0))
  exact d _ [] _ Fa (hle:=klR [(0,.eq (.bb false) (.bb t1))] (al1 (by simp only[c,c2,Leaf.ok,pm,Es,Eu]) al0))
 subst c;cases h;exact kR Z
def S6 (N:Nat)(b:Int):Option (Nat->Int):= BD N (fun a (x1:Nat->Int) (x2:Int)=>if (decide (x2<(wrap .i64 (b+1)))) then if (((0:Int)<=x2/\((0:Int)<=x2/\x2<33))/\(0+x2.toNat*1)<33)then a (Oz x1 (0+x2.toNat*1) (shI .shl .u64 1 x2)) (wrap .i64 (x2+1)) else none else some x1) (fun _=>0) 0
theorem Fg {a:Int}{y:Nat->Int}(h:S6 N a=some y) :FunO S Ir [pN a] [] (.p (.agg (cA 33 (pI .u64) y))) ([]) []:=by
 unfold S6 at h;refine A2 Z func235 ?_;refine H8 Z Fa h (fun x1 x2=>⟨[(7,pN x2),(6,pN (wrap .i64 (a+1))),(3,.reg 4000 0),(2,.reg 3000 0)],[(4000,.arr 33 (fun i=>pI .u64 (x1 i))),(3000,.arr 33 (fun i=>pI .u64 ((fun _=>0) i)))]⟩) (ids:=[(3000,3000),(4000,4000)]) (fun _ _ _ _ _ b x1 x2 d h=>?_) (hle:=kl2 2 3 (Az0 33 (pI .u64 0)) (Az0 33 (pI .u64 0)));apply kI Z h<;>intro h
 .obtain⟨c4,h⟩:=C9 h;exact d _ [(3000,3000),(4000,4000)] _ (Oz x1 (0+x2.toNat*1) (shI .shl .u64 1 x2)) (wrap .i64 (x2+1)) c4 h (hle:=klR [(2,.fn 33 33 (fun i=>[(fun i=>if i=(0+x2.toNat*1)then (pI .u64 (shI .shl .u64 1 x2))else (fun i=>pI .u64 (x1 i)) i) i]) (fun i=>[pI .u64 (Oz x1 (0+x2.toNat*1) (shI .shl .u64 1 x2) i)]))] (al1 ⟨rfl,AM6 (c:=pI .u64) (v:=x1) (x:=shI .shl .u64 1 x2) (fun _ _=>rfl) rfl⟩ al0))
 obtain rfl:=A9 h;exact J4 Z (And.intro rfl (G5 _ _):(0:Nat)=0/\(Ed 33 (fun i=>pI .u64 (x1 i))).length=33) ⟨[(2,.reg 3000 0)],[(3000,.arr 33 (fun i=>pI .u64 (x1 i)))]⟩ [] (ids:=[(3000,3000)]) ⟨rfl,rfl,rfl⟩ (hle:=kl1 0 (Mr 33 (fun i=>pI .u64 (x1 i))))
def P0 (N:Nat)(p_x:Nat->Int)(b:Nat->Int):Option (Nat->Int):= BD N (fun a (x1:Nat->Int) (x2:Int)=>if (decide (x2<33)) then if (((0:Int)<=x2/\x2<33)/\(0+x2.toNat*1)<33)then if (((((0:Int)<=x2/\x2<33)/\(0+x2.toNat*1)<33)/\((0:Int)<=x2/\x2<33))/\(0+x2.toNat*1)<33)then a (Oz x1 (0+x2.toNat*1) (O8 .or .u64 (x1 (0+x2.toNat*1)) (b (0+x2.toNat*1)))) (wrap .i64 (x2+1)) else none else none else some x1) p_x 0
theorem FG {p_x:Nat->Int}{a:Nat->Int}{y:Nat->Int}(h:P0 N p_x a=some y) :FunO S FD [.reg 0 0,.reg 1 0] [.arr 33 (fun i=>pI .u64 (p_x i)),.arr 33 (fun i=>pI .u64 (a i))] (.tup []) ([.arr 33 (fun i=>pI .u64 (y i)),.arr 33 (fun i=>pI .u64 (a i))]) [true,true]:=by
 unfold P0 at h;refine A2 Z func233 ?_;refine H8 Z Fa h (fun x1 x2=>⟨[(7,pN x2),(6,.reg 1 0),(0,.reg 0 0)],[(1,.arr 33 (fun i=>pI .u64 (a i))),(0,.arr 33 (fun i=>pI .u64 (x1 i)))]⟩) (ids:=[(0,0),(1,1)]) (fun _ _ _ _ _ b x1 x2 d h=>?_);apply kI Z h<;>intro h
 .refine EU Z Fa ?_;obtain⟨c8,h⟩:=C9 h;refine D1 c8 ?_;refine EU Z Fa ?_;obtain⟨c9,h⟩:=C9 h;refine D1 c9 ?_;exact d _ [(0,0),(1,1)] _ (Oz x1 (0+x2.toNat*1) (O8 .or .u64 (x1 (0+x2.toNat*1)) (a (0+x2.toNat*1)))) (wrap .i64 (x2+1)) Fa h (hle:=klR [(2,.fn 33 33 (fun i=>[(fun i=>if i=(0+x2.toNat*1)then (pI .u64 (O8 .or .u64 (x1 (0+x2.toNat*1)) (a (0+x2.toNat*1))))else (fun i=>pI .u64 (x1 i)) i) i]) (fun i=>[pI .u64 (Oz x1 (0+x2.toNat*1) (O8 .or .u64 (x1 (0+x2.toNat*1)) (a (0+x2.toNat*1))) i)]))] (al1 ⟨rfl,AM6 (c:=pI .u64) (v:=x1) (x:=O8 .or .u64 (x1 (0+x2.toNat*1)) (a (0+x2.toNat*1))) (fun _ _=>rfl) rfl⟩ al0))
 obtain rfl:=A9 h;exact kO Z Fa [0,1]
def AR (N:Nat)(b:Sl Im)(a:Int):Option Int:= if ((decide (a<0))||(decide ((b.n:Int)<a))) then some 3 else some 0
theorem Lh {c:Sl Im}{b:Int}{y:Int}(h:AR N c b=some y) :FunO S Lf [.p (vSl 2 A0 c),pN b] [] (pN y) ([]) []:=by
 unfold AR at h;refine A2 Z func206 ?_;refine kB Z (A4 Z) Fa Fa 5 (.o (.a (decide (b<0))) (.a (decide ((c.n:Int)<b)))) ?_;apply kI Z h<;>intro h
 .cases h;exact kR Z
 cases h;exact kR Z
def BL (N:Nat)(a:Pat):Option Int:= if (if (a.Kind==0) then a.Kind==0 else (if (a.Kind==2) then a.Kind==2 else a.Kind==6)) then lt (fun (z1:Bool)=>if z1 then some 2 else (Q7 N a.Is).bind fun y1=>if (!y1) then some 14 else some 0) fun k1=>if (((a.Is.Plus==0)&&(a.Is.Minus==0)) != true) then k1 true else if a.Not then k1 true else if (a.Min != 0) then k1 true else if (a.Max != 0) then k1 true else k1 (decide (0<(a.L.n:Int))) else if (a.Kind==1) then lt (fun (z2:Bool)=>if z2 then some 2 else (Q7 N a.Is).bind fun y2=>if (!y2) then some 14 else some 0) fun k2=>if (((0==0)&&(0==0)) != true) then k2 true else if (a.Min != 0) then k2 true else if (a.Max != 0) then k2 true else k2 (decide (0<(a.L.n:Int))) else lt (fun (z3:Int×Int)=>if (((((((a.Is.Plus==0)&&(a.Is.Minus==0)) != true)||a.Not)||(z3.1 != 0))||(z3.2 != 0))||(decide (0<0))) then some 2 else (Q7 N a.Is).bind fun y3=>if (!y3) then some 14 else some 0) fun k3=>if (if (a.Kind==3) then a.Kind==3 else a.Kind==4) then k3 (a.Min,a.Max) else if (a.Kind==5) then if (((((a.L.n:Int) != 1)||(decide (a.Min<0)))||(decide (32<a.Min)))||((a.Max != (-1))&&((decide (a.Max<a.Min))||(decide (32<a.Max))))) then some 2 else k3 (0,0) else some 2
theorem Qs {c:Pat}{y:Int}(h:BL N c=some y) :FunO S Jr [.p (.agg (E1 c))] [] (pN y) ([]) []:=by
 unfold BL at h;refine A2 Z func95 ?_;obtain⟨t1,f⟩:∃x:Bool,x=(if (c.Kind==0) then c.Kind==0 else (if (c.Kind==2) then c.Kind==2 else c.Kind==6)):=⟨_,rfl⟩;refine WX Z Fa (A4 Z) 0 ⟨[(8,pB t1),(7,pN c.Kind),(3,.reg 4000 0),(1,.reg 2000 0)],[(4000,.cells [pN 0,pU c.Is.Plus,pU c.Is.Minus,pB c.Not,pN c.Min,pN c.Max,.p (.sl false 7 c.L.n (EW c))]),(2000,.cells ((E1 c).map .p))]⟩ (fun M1 l=>?_) ?_
 .refine C8 Z Fa (b:=c.Kind==0) (fun c3=>?_) (fun c3=>?_)
  .exact l _ [(2000,2000),(4000,4000)] _ Fa (hle:=klR [(0,.eq (.bb (c.Kind==0)) (.bb t1))] (al1 (by simp only[f,c3,Leaf.ok,pm,Es,Eu]) al0))
  refine C8 Z Fa (b:=c.Kind==2) (fun c4=>?_) (fun c4=>?_)
  .exact l _ [(2000,2000),(4000,4000)] _ Fa (hle:=klR [(0,.eq (.bb (c.Kind==2)) (.bb t1))] (al1 (by simp only[f,c3,c4,Leaf.ok,pm,Es,Eu]) al0))
  exact l _ [(2000,2000),(4000,4000)] _ Fa (hle:=klR [(0,.eq (.bb (c.Kind==6)) (.bb t1))] (al1 (by simp only[f,c3,c4,Leaf.ok,pm,Es,Eu]) al0))
 subst f;apply kI Z h<;>intro h
 .refine KH Z (by decide +kernel:QG Tryz.prog B5=true) (A4 Z) h 0 (fun z1=>⟨[(57,pB z1),(1,.reg 2000 0)],[(2000,.cells ((E1 c).map .p))]⟩) (fun M3 k1 d h=>?_) (fun z1 h=>?_)
  .refine kG Z h (fun h=>?_) (fun h=>?_)
   .exact d _ [(2000,2000)] _ true Fa h
   refine kG Z h (fun h=>?_) (fun h=>?_)
   .exact d _ [(2000,2000)] _ true Fa h
   refine kG Z h (fun h=>?_) (fun h=>?_)
   .exact d _ [(2000,2000)] _ true Fa h
   refine kG Z h (fun h=>?_) (fun h=>?_)
   .exact d _ [(2000,2000)] _ true Fa h
   refine N0 Z Fa 79 ⟨[(78,.p (vSl 7 E1 c.L)),(76,.p (.v (.bool false))),(1,.reg 2000 0)],[(2000,.cells ((E1 c).map .p))]⟩ (ids:=[(2000,2000)]) ?_ (hle:=klR [(0,.fn c.L.n c.L.n (EW c) (fun i=>E1 (c.L.g i)))] (al1 ⟨rfl,CJ c⟩ al0));exact d _ [(2000,2000)] _ (decide (0<(c.L.n:Int))) Fa h
  apply kI Z h<;>intro h
  .cases h;exact kR Z
  refine kC Z h (FF Z Y) (fun y1 h=>?_);apply kI Z h<;>intro h
  .cases h;exact kR Z
  cases h;exact kR Z
 apply kI Z h<;>intro h
 .refine KH Z (by decide +kernel:QG Tryz.prog B5=true) (A4 Z) h 0 (fun z2=>⟨[(57,pB z2),(1,.reg 2000 0)],[(2000,.cells ((E1 c).map .p))]⟩) (fun M5 k2 j h=>?_) (fun z2 h=>?_)
  .refine kG Z h (fun h=>?_) (fun h=>?_)
   .exact j _ [(2000,2000)] _ true Fa h
   refine GN Z Fa (b:=false) (fun c54=>?_) (fun c54=>?_)
   .exact Bool.noConfusion ((rfl:false=false).symm.trans c54)
   refine kG Z h (fun h=>?_) (fun h=>?_)
   .exact j _ [(2000,2000)] _ true Fa h
   refine kG Z h (fun h=>?_) (fun h=>?_)
   .exact j _ [(2000,2000)] _ true Fa h
   refine N0 Z Fa 79 ⟨[(78,.p (vSl 7 E1 c.L)),(76,.p (.v (.bool false))),(1,.reg 2000 0)],[(2000,.cells ((E1 c).map .p))]⟩ (ids:=[(2000,2000)]) ?_ (hle:=klR [(0,.fn c.L.n c.L.n (EW c) (fun i=>E1 (c.L.g i)))] (al1 ⟨rfl,CJ c⟩ al0));exact j _ [(2000,2000)] _ (decide (0<(c.L.n:Int))) Fa h
  apply kI Z h<;>intro h
  .cases h;exact kR Z
  refine kC Z h (FF Z Y) (fun y2 h=>?_);apply kI Z h<;>intro h
  .cases h;exact kR Z
  cases h;exact kR Z
 obtain⟨t4,m⟩:∃x:Bool,x=(if (c.Kind==3) then c.Kind==3 else c.Kind==4):=⟨_,rfl⟩;refine WX Z Fa (A4 Z) 0 ⟨[(17,pB t4),(7,pN c.Kind),(3,.reg 4000 0),(1,.reg 2000 0)],[(4000,.cells [pN 0,pU c.Is.Plus,pU c.Is.Minus,pB c.Not,pN c.Min,pN c.Max,.p (.sl false 7 c.L.n (EW c))]),(2000,.cells ((E1 c).map .p))]⟩ (fun M6 q=>?_) ?_
 .refine C8 Z Fa (b:=c.Kind==3) (fun c60=>?_) (fun c60=>?_)
  .exact q _ [(2000,2000),(4000,4000)] _ Fa (hle:=klR [(0,.eq (.bb (c.Kind==3)) (.bb t4))] (al1 (by simp only[m,c60,Leaf.ok,pm,Es,Eu]) al0))
  exact q _ [(2000,2000),(4000,4000)] _ Fa (hle:=klR [(0,.eq (.bb (c.Kind==4)) (.bb t4))] (al1 (by simp only[m,c60,Leaf.ok,pm,Es,Eu]) al0))
 subst m;refine KH Z Fa (A4 Z) h 0 (fun z3=>⟨[(3,.reg 4000 0),(1,.reg 2000 0)],[(4000,.cells [pN 0,pU c.Is.Plus,pU c.Is.Minus,pB c.Not,pN z3.1,pN z3.2,.p C7]),(2000,.cells ((E1 c).map .p))]⟩) (fun M7 k3 r h=>?_) (fun z3 h=>?_)
 .apply kI Z h<;>intro h
  .exact r _ [(2000,2000),(4000,4000)] _ (c.Min,c.Max) Fa h
  apply kI Z h<;>intro h
  .refine N0 Z Fa 25 ⟨[(24,.p (vSl 7 E1 c.L)),(3,.reg 4000 0),(1,.reg 2000 0)],[(4000,.cells [pN 0,pU c.Is.Plus,pU c.Is.Minus,pB c.Not,pN c.Min,pN c.Max,.p (.sl false 7 c.L.n (EW c))]),(2000,.cells ((E1 c).map .p))]⟩ (ids:=[(2000,2000),(4000,4000)]) ?_ (hle:=klR [(0,.fn c.L.n c.L.n (EW c) (fun i=>E1 (c.L.g i)))] (al1 ⟨rfl,CJ c⟩ al0));refine kB Z (A4 Z) Fa Fa 26 (.o (.o (.o (.a ((c.L.n:Int) != 1)) (.a (decide (c.Min<0)))) (.a (decide (32<c.Min)))) (.n (.a (c.Max != (-1))) (.o (.a (decide (c.Max<c.Min))) (.a (decide (32<c.Max)))))) ?_;apply kI Z h<;>intro h
   .cases h;exact kR Z
   exact r _ [(2000,2000),(4000,4000)] _ (0,0) Fa h
  cases h;exact kR Z
 refine kB Z (A4 Z) (by decide +kernel:QG Tryz.prog B5=true) Fa 19 (.o (.o (.o (.o (.a (((c.Is.Plus==0)&&(c.Is.Minus==0)) != true)) (.a c.Not)) (.a (z3.1 != 0))) (.a (z3.2 != 0))) (.a (decide (0<0)))) ?_;apply kI Z h<;>intro h
 .cases h;exact kR Z
 refine kC Z h (FF Z Y) (fun y3 h=>?_);apply kI Z h<;>intro h
 .cases h;exact kR Z
 cases h;exact kR Z
end Go.AM
namespace Go.AM
open Go.Proofs.Tryz
variable {N:Nat}
open IntKind (wrap)
open Go.Proofs
set_option maxRecDepth 10000
set_option maxHeartbeats 2000000
variable {S:U7}(Z:G4 S Tryz.prog) (Y:Kb S)
include Z Y
def CN (rec:Pat->Int->Option Int)(N:Nat)(b:Pat)(a:Int):Option Int:= BD N (fun c (x1:Int) (x2:Int)=>if ((decide (x2<(b.L.n:Int)))&&(decide (x1<=40))) then if ((0:Int)<=x2/\x2<(b.L.n:Int))then (rec (b.L.g x2.toNat) x1).bind fun y3=>c y3 (wrap .i64 (x2+1)) else none else some x1) (wrap .i64 (a+1)) 0
def Ci:Nat->Pat->Int->Option Int
 |0=>fun _ _=>none
 |N+1=>CN (Ci N) N
theorem Vy {rec:Pat->Int->Option Int}(d:∀{b:Pat}{c:Int}{y:Int},rec b c=some y->FunO S GS [.p (.agg (E1 b)),pN c] [] (pN y) ([]) []){b:Pat}{c:Int}{y:Int}(h:CN rec N b c=some y) :FunO S GS [.p (.agg (E1 b)),pN c] [] (pN y) ([]) []:=by
 unfold CN at h;refine A2 Z func129 ?_;refine H8 Z Fa h (fun x1 x2=>⟨[(6,pN x2),(5,pN x1),(2,.reg 3000 0)],[(3000,.cells ((E1 b).map .p))]⟩) (ids:=[(3000,3000)]) (fun _ _ _ _ _ f x1 x2 j h=>?_);refine N0 Z Fa 12 ⟨[(11,.p (vSl 7 E1 b.L)),(9,pN x2),(6,pN x2),(5,pN x1),(2,.reg 3000 0)],[(3000,.cells ((E1 b).map .p))]⟩ (ids:=[(3000,3000)]) ?_ (hle:=klR [(0,.fn b.L.n b.L.n (EW b) (fun i=>E1 (b.L.g i)))] (al1 ⟨rfl,CJ b⟩ al0));refine kB Z (A4 Z) Fa Fa 3 (.n (.a (decide (x2<(b.L.n:Int)))) (.a (decide (x1<=40)))) ?_;apply kI Z h<;>intro h
 .refine N0 Z Fa 23 ⟨[(22,pN x2),(21,.p (vSl 7 E1 b.L)),(6,pN x2),(5,pN x1),(2,.reg 3000 0)],[(3000,.cells ((E1 b).map .p))]⟩ (ids:=[(3000,3000)]) ?_ (hle:=klR [(1,.fn b.L.n b.L.n (EW b) (fun i=>E1 (b.L.g i)))] (al1 ⟨rfl,CJ b⟩ al0));obtain⟨c6,h⟩:=C9 h;obtain⟨y3,e3,h⟩:=A8 h;refine B3 Z [] (And.intro c6 Hz) (d e3) ?_;exact j _ [(3000,3000)] _ y3 (wrap .i64 (x2+1)) Fa h
 cases h;exact kR Z
theorem XA {b:Pat}{a:Int}{y:Int}(h:Ci N b a=some y) :FunO S GS [.p (.agg (E1 b)),pN a] [] (pN y) ([]) []:=by
 induction N generalizing b a y with
 |zero=>cases (show (none:Option Int)=some y from h)
 |succ N ih=>exact Vy Z Y (fun e=>ih e) h
def Dr (N:Nat)(a:Pat):Option Int:= (Ci N a 0).bind fun y1=>some y1
theorem LW {a:Pat}{y:Int}(h:Dr N a=some y) :FunO S Rv [.p (.agg (E1 a))] [] (pN y) ([]) []:=by unfold Dr at h;refine A2 Z func93 ?_;refine kC Z h (XA Z Y) (fun y1 h=>?_);cases h;exact kR Z
def At (rec:Pat->Option Int)(N:Nat)(a:Pat):Option Int:= BD N (fun b (x1:Int) (x2:Int)=>if (decide (x2<(a.L.n:Int))) then if ((0:Int)<=x2/\x2<(a.L.n:Int))then (rec (a.L.g x2.toNat)).bind fun y3=>b (wrap .i64 (x1+y3)) (wrap .i64 (x2+1)) else none else some x1) ((if (a.Kind==5) then 1 else 0):Int) 0
def AS:Nat->Pat->Option Int
 |0=>fun _=>none
 |N+1=>At (AS N) N
theorem Qt {rec:Pat->Option Int}(d:∀{a:Pat}{y:Int},rec a=some y->FunO S EB [.p (.agg (E1 a))] [] (pN y) ([]) []){a:Pat}{y:Int}(h:At rec N a=some y) :FunO S EB [.p (.agg (E1 a))] [] (pN y) ([]) []:=by
 unfold At at h;refine A2 Z func128 ?_;obtain⟨t1,c⟩:∃x:Int,x=((if (a.Kind==5) then 1 else 0):Int):=⟨_,rfl⟩;refine WX Z Fa (A4 Z) 0 ⟨[(3,pN t1),(1,.reg 2000 0)],[(2000,.cells ((E1 a).map .p))]⟩ (fun M1 f=>?_) ?_
 .refine C8 Z Fa (b:=a.Kind==5) (fun c2=>?_) (fun c2=>?_)
  .exact f _ [(2000,2000)] _ Fa (hle:=klR [(0,.eq (pI .i64 1) (pI .i64 t1))] (al1 (by simp only[c,c2,Leaf.ok,pm,Es,Eu]) al0))
  exact f _ [(2000,2000)] _ Fa (hle:=klR [(0,.eq (pI .i64 0) (pI .i64 t1))] (al1 (by simp only[c,c2,Leaf.ok,pm,Es,Eu]) al0))
 subst c;refine H8 Z Fa h (fun x1 x2=>⟨[(4,pN x2),(3,pN x1),(1,.reg 2000 0)],[(2000,.cells ((E1 a).map .p))]⟩) (ids:=[(2000,2000)]) (fun _ _ _ _ _ j x1 x2 l h=>?_);refine N0 Z Fa 11 ⟨[(10,.p (vSl 7 E1 a.L)),(8,pN x2),(4,pN x2),(3,pN x1),(1,.reg 2000 0)],[(2000,.cells ((E1 a).map .p))]⟩ (ids:=[(2000,2000)]) ?_ (hle:=klR [(0,.fn a.L.n a.L.n (EW a) (fun i=>E1 (a.L.g i)))] (al1 ⟨rfl,CJ a⟩ al0));apply kI Z h<;>intro h
 .refine N0 Z Fa 19 ⟨[(18,pN x2),(17,.p (vSl 7 E1 a.L)),(15,pN x1),(4,pN x2),(1,.reg 2000 0)],[(2000,.cells ((E1 a).map .p))]⟩ (ids:=[(2000,2000)]) ?_ (hle:=klR [(1,.fn a.L.n a.L.n (EW a) (fun i=>E1 (a.L.g i)))] (al1 ⟨rfl,CJ a⟩ al0));obtain⟨c8,h⟩:=C9 h;obtain⟨y3,e3,h⟩:=A8 h;refine B3 Z [] (And.intro c8 Hz) (d e3) ?_;exact l _ [(2000,2000)] _ (wrap .i64 (x1+y3)) (wrap .i64 (x2+1)) Fa h
 cases h;exact kR Z
theorem Tf {a:Pat}{y:Int}(h:AS N a=some y) :FunO S EB [.p (.agg (E1 a))] [] (pN y) ([]) []:=by
 induction N generalizing a y with
 |zero=>cases (show (none:Option Int)=some y from h)
 |succ N ih=>exact Qt Z Y (fun e=>ih e) h
def EG (N:Nat)(a:Sl Law):Option Int:= BD N (fun c (x3:Int) (x4:Int)=>if ((decide (x4<(a.n:Int)))&&(decide (x4<=300))) then if (((0:Int)<=x4/\x4<(a.n:Int))/\((0:Int)<=x4/\x4<(a.n:Int)))then BD N (fun b (x7:Int) (x8:Int)=>if (decide (x8<((Sl.of [(a.g x4.toNat).Left,(a.g x4.toNat).Right]:Sl Pat).n:Int))) then if ((0:Int)<=x8/\x8<((Sl.of [(a.g x4.toNat).Left,(a.g x4.toNat).Right]:Sl Pat).n:Int))then (Dr N ((Sl.of [(a.g x4.toNat).Left,(a.g x4.toNat).Right]:Sl Pat).g x8.toNat)).bind fun d=>if (decide (d<=40)) then (AS N ((Sl.of [(a.g x4.toNat).Left,(a.g x4.toNat).Right]:Sl Pat).g x8.toNat)).bind fun f=>b (wrap .i64 (x7+f)) (wrap .i64 (x8+1)) else b x7 (wrap .i64 (x8+1)) else none else c (if x3<x7 then x7 else x3) (wrap .i64 (x4+1))) 0 0 else none else some x3) 0 0
theorem Ab2 {b:Sl Law}{y:Int}(h:EG N b=some y) :FunO S Ru [.p (vSl 18 B4 b)] [] (pN y) ([]) []:=by
 unfold EG at h;refine A2 Z func92 ?_;refine H8 Z Fa h (fun x3 x4=>⟨[(4,pN x4),(3,pN x3),(0,.p (vSl 18 B4 b))],[]⟩) (ids:=[]) (fun _ _ _ _ _ d x3 x4 f h=>?_);refine kB Z (A4 Z) Fa Fa 3 (.n (.a (decide (x4<(b.n:Int)))) (.a (decide (x4<=300)))) ?_;apply kI Z h<;>intro h
 .refine E3 Z Fa [2,4,7,9] ?_;obtain⟨c24,h⟩:=C9 h;refine K6 (And.intro (And.intro (And.intro c24.1 (by decide:(7:Nat)<=17)) c24.2) (by decide:(7:Nat)<=10)) (x:=.sl true 7 2 (G7 [pI .i64 0,pI .u32 0,pI .u32 0,.v (.bool false),pI .i64 0,pI .i64 0,C7] [(0,E1 (b.g x4.toNat).Left),(1,E1 (b.g x4.toNat).Right)])) ?_;refine D1 Fa ?_;refine H8 Z Fa h (fun x7 x8=>⟨[(30,pN x8),(29,pN ((Sl.of [(b.g x4.toNat).Left,(b.g x4.toNat).Right]:Sl Pat).n:Int)),(28,.p (vSl 7 E1 (Sl.of [(b.g x4.toNat).Left,(b.g x4.toNat).Right]:Sl Pat))),(5,pN x7),(4,pN x4),(3,pN x3),(0,.p (vSl 18 B4 b))],[]⟩) (ids:=[]) (fun _ _ _ _ _ i x7 x8 c h=>?_) (hle:=kl1 2 (ZZ E1 ([(b.g x4.toNat).Left,(b.g x4.toNat).Right]:List Pat) [pI .i64 0,pI .u32 0,pI .u32 0,.v (.bool false),pI .i64 0,pI .i64 0,C7]));apply kI Z h<;>intro h
  .obtain⟨c32,h⟩:=C9 h;refine F7 Z (And.intro c32 Hz) 34 8000 (E1 ((Sl.of [(b.g x4.toNat).Left,(b.g x4.toNat).Right]:Sl Pat).g x8.toNat)) ?_;obtain⟨l,e17,h⟩:=A8 h;refine B3 Z [] Hz (LW Z Y e17) ?_;apply kI Z h<;>intro h
   .obtain⟨j,e18,h⟩:=A8 h;refine B3 Z [] Hz (Tf Z Y e18) ?_;exact c _ [] _ (wrap .i64 (x7+j)) (wrap .i64 (x8+1)) Fa h
   exact c _ [] _ x7 (wrap .i64 (x8+1)) Fa h
  exact f _ [] _ (if x3<x7 then x7 else x3) (wrap .i64 (x4+1)) Fa h
 cases h;exact kR Z
end Go.AM
namespace Go.AM
open Go.Proofs.Tryz
variable {N:Nat}
open IntKind (wrap)
open Go.Proofs
set_option maxRecDepth 10000
set_option maxHeartbeats 2000000
variable {S:U7}(Z:G4 S Tryz.prog) (Y:Kb S)
include Z Y
def T1 (N:Nat)(q0:Int):Option (List (Int)):= Y1 N (fun a (x1:Int)=>if (x1 != 0) then (I3 N x1).bind fun y3=>if (0:Int)<=y3 then Af y3 (a (O8 .andNot .u64 x1 (shI .shl .u64 1 y3))) else none else some []) q0
theorem El {q0:Int}{L:List (Int)}(h:T1 N q0=some L) :ER S Ek [] [.reg 0 0] [.cells [.p (pI .u64 q0)]] (L.map (fun (x:Int)=>[pI .i64 x])):=by
 unfold T1 at h;refine EA Z func210 ?_;refine Dl Z Fa h (fun x1 L1=>⟨[(1,.reg 0 0),(0,.yf 1)],[(1,.yld (L1.map (fun (x:Int)=>[pI .i64 x])) true),(0,.cells [.p (pI .u64 x1)])]⟩) (ids:=[(0,0),(1,1)]) (fun _ _ _ _ _ d x1 L1 f h=>?_);apply kI Z h<;>intro h
 .refine kC Z h (Fe Z Y) (fun y3 h=>?_);refine EU Z Fa ?_;obtain⟨c10,h⟩:=C9 h;refine D1 c10 ?_;obtain⟨L4,rfl,c⟩:=LO h;replace h:=c;refine Dk Z Fa (ys:=(fun (x:Int)=>[pI .i64 x]) y3) (rest:=L4.map (fun (x:Int)=>[pI .i64 x])) ?_ ?_
  .refine C8 Z Fa (b:=false) (fun c11=>?_) (fun c11=>?_)
   .exact Bool.noConfusion ((rfl:false=false).symm.trans c11)
   exact f _ [(0,0),(1,1)] _ (O8 .andNot .u64 x1 (shI .shl .u64 1 y3)) L4 Fa h
  refine C8 Z Fa (b:=true) (fun c12=>?_) (fun c12=>?_)
  .exact kO Z Fa (a:=.tup []) (objs:=[(.cells [.p (pI .u64 (O8 .andNot .u64 x1 (shI .shl .u64 1 y3)))]),.yld [] false]) [0,1] ⟨false,rfl,rfl,_,rfl⟩
  exact Bool.noConfusion (Ig.symm.trans c12)
 obtain rfl:=A9 h;exact kO Z Fa (a:=.tup []) (objs:=[(.cells [.p (pI .u64 x1)]),.yld [] true]) [0,1] ⟨true,rfl,rfl,_,rfl⟩
def BM (N:Nat)(a:Int):Option (Int):= some a
theorem FT {a:Int}{y:Int}(h:BM N a=some y) :FunO S Jy [.p (pI .u64 a)] [] (.clo Ek [] [.reg 0 0]) ([.cells [.p (pI .u64 y)]]) []:=by unfold BM at h;refine A2 Z func207 ?_;obtain rfl:=A9 h;exact kO Z Fa [2000]
def F2 (N:Nat)(p_x:Nat->Int)(c:Nat->Int):Option (Nat->Int):= BD N (fun a (x3:Nat->Int) (x4:Int)=>if (decide (x4<33)) then if (((0:Int)<=x4/\x4<33)/\(0+x4.toNat*1)<33)then (BM N (p_x (0+x4.toNat*1))).bind fun y3=>(T1 N y3).bind fun L3=>U1 L3 (fun b (x7:Int) (z3:Nat->Int)=>if (((((((0:Int)<=x4/\x4<33)/\(0+x4.toNat*1)<33)/\((0:Int)<=x7/\x7<33))/\(0+x7.toNat*1)<33)/\((0:Int)<=x4/\x4<33))/\(0+x4.toNat*1)<33)then b (Oz z3 (0+x4.toNat*1) (O8 .or .u64 (z3 (0+x4.toNat*1)) (c (0+x7.toNat*1)))) else none) (fun (z3:Nat->Int)=>a z3 (wrap .i64 (x4+1))) x3 else none else some x3) (fun _=>0) 0
theorem U9 {p_x:Nat->Int}{b:Nat->Int}{y:Nat->Int}(h:F2 N p_x b=some y) :FunO S Bn [.reg 0 0,.reg 1 0] [.arr 33 (fun i=>pI .u64 (p_x i)),.arr 33 (fun i=>pI .u64 (b i))] (.p (.agg (cA 33 (pI .u64) y))) ([.arr 33 (fun i=>pI .u64 (p_x i)),.arr 33 (fun i=>pI .u64 (b i))]) [true,true]:=by
 unfold F2 at h;refine A2 Z func236 ?_;refine H8 Z Fa h (fun x3 x4=>⟨[(10,pN x4),(9,.reg 0 0),(5,.reg 6000 0),(4,.reg 5000 0),(3,.reg 4000 0)],[(6000,.arr 33 (fun i=>pI .u64 (x3 i))),(5000,.arr 33 (fun i=>pI .u64 ((fun _=>0) i))),(4000,.cells [.reg 1 0]),(1,.arr 33 (fun i=>pI .u64 (b i))),(0,.arr 33 (fun i=>pI .u64 (p_x i)))]⟩) (ids:=[(0,0),(1,1),(4000,4000),(5000,5000),(6000,6000)]) (fun _ _ _ _ _ d x3 x4 f h=>?_) (hle:=kl2 1 2 (Az0 33 (pI .u64 0)) (Az0 33 (pI .u64 0)));apply kI Z h<;>intro h
 .refine F3 Z Fa [(2,.l [0]),(3,.l [0]),(4,.a [7000]),(5,.a [7000])] ?_;obtain⟨c12,h⟩:=C9 h;refine D1 c12 ?_;refine F7 Z Fa 16 7000 [pI .i64 x4] ?_;refine kC Z h (FT Z Y) (fun y3 h=>?_);obtain⟨L3,e6,h⟩:=A8 h;refine GO Z Fa [18000] [10,9,6,5,4,3] 905 (fun z3=>⟨[(10,pN x4),(9,.reg 0 0),(6,.p (.ptr [pI .i64 x4])),(5,.reg 6000 0),(4,.reg 5000 0),(3,.reg 4000 0)],[(6000,.arr 33 (fun i=>pI .u64 (z3 i))),(5000,.arr 33 (fun i=>pI .u64 ((fun _=>0) i))),(4000,.cells [.reg 1 0]),(1,.arr 33 (fun i=>pI .u64 (b i))),(0,.arr 33 (fun i=>pI .u64 (p_x i)))]⟩) (idl:=[(0,0),(1,1),(4000,4000),(5000,5000),(6000,6000)]) h (El Z Y e6) (fun _=>by kernel_rfl) (fun _=>by kernel_rfl) (fun _=>by kernel_rfl) (fun _=>by kernel_rfl) (fun x7 _ g z3 j h=>?_) (fun z3 h=>?_)
  .refine JT Z Fa ?_;refine F3 Z Fa [(0,.n),(1,.l [6000]),(2,.l [6000]),(3,.l [4000]),(6,.l [1]),(7,.l [1]),(9,.l [6000]),(10,.a [6000])] ?_;obtain⟨c15,h⟩:=C9 h;refine D1 c15 ?_;exact j _ [(0,0),(1,1),(905,905),(4000,4000),(5000,5000),(6000,6000)] _ (Oz z3 (0+x4.toNat*1) (O8 .or .u64 (z3 (0+x4.toNat*1)) (b (0+x7.toNat*1)))) Fa h (hle:=klR [(0,.fn 33 33 (fun i=>[(fun i=>if i=(0+x4.toNat*1)then (pI .u64 (O8 .or .u64 (z3 (0+x4.toNat*1)) (b (0+x7.toNat*1))))else (fun i=>pI .u64 (z3 i)) i) i]) (fun i=>[pI .u64 (Oz z3 (0+x4.toNat*1) (O8 .or .u64 (z3 (0+x4.toNat*1)) (b (0+x7.toNat*1))) i)]))] (al1 ⟨rfl,AM6 (c:=pI .u64) (v:=z3) (x:=O8 .or .u64 (z3 (0+x4.toNat*1)) (b (0+x7.toNat*1))) (fun _ _=>rfl) rfl⟩ al0))
  exact f _ [(0,0),(1,1),(4000,4000),(5000,5000),(6000,6000)] _ z3 (wrap .i64 (x4+1)) Fa h
 obtain rfl:=A9 h;exact J4 Z (And.intro rfl (G5 _ _):(0:Nat)=0/\(Ed 33 (fun i=>pI .u64 (x3 i))).length=33) ⟨[(4,.reg 5000 0)],[(5000,.arr 33 (fun i=>pI .u64 (x3 i))),(1,.arr 33 (fun i=>pI .u64 (b i))),(0,.arr 33 (fun i=>pI .u64 (p_x i)))]⟩ [0,1] (ids:=[(0,0),(1,1),(5000,5000)]) ⟨rfl,rfl,rfl⟩ (hle:=kl1 0 (Mr 33 (fun i=>pI .u64 (x3 i))))
def O5 (N:Nat)(p_x:Nat->Int):Option (Nat->Int):= BD N (fun a (x3:Nat->Int) (x4:Int)=>if (decide (x4<33)) then if (((0:Int)<=x4/\x4<33)/\(0+x4.toNat*1)<33)then (BM N (p_x (0+x4.toNat*1))).bind fun y3=>(T1 N y3).bind fun L3=>U1 L3 (fun b (x7:Int) (z3:Nat->Int)=>if (((((((0:Int)<=x4/\x4<33)/\(0+x4.toNat*1)<33)/\((0:Int)<=x7/\x7<33))/\(0+x7.toNat*1)<33)/\((0:Int)<=x4/\x4<33))/\(0+x4.toNat*1)<33)then b (Oz z3 (0+x4.toNat*1) (O8 .or .u64 (z3 (0+x4.toNat*1)) (p_x (0+x7.toNat*1)))) else none) (fun (z3:Nat->Int)=>a z3 (wrap .i64 (x4+1))) x3 else none else some x3) (fun _=>0) 0
theorem DT {p_x:Nat->Int}{y:Nat->Int}(h:O5 N p_x=some y) :FunO S Bn [.reg 0 0,.reg 0 0] [.arr 33 (fun i=>pI .u64 (p_x i))] (.p (.agg (cA 33 (pI .u64) y))) ([.arr 33 (fun i=>pI .u64 (p_x i))]) [true]:=by
 unfold O5 at h;refine A2 Z func236 ?_;refine H8 Z Fa h (fun x3 x4=>⟨[(10,pN x4),(9,.reg 0 0),(5,.reg 6000 0),(4,.reg 5000 0),(3,.reg 4000 0)],[(6000,.arr 33 (fun i=>pI .u64 (x3 i))),(5000,.arr 33 (fun i=>pI .u64 ((fun _=>0) i))),(4000,.cells [.reg 0 0]),(0,.arr 33 (fun i=>pI .u64 (p_x i)))]⟩) (ids:=[(0,0),(4000,4000),(5000,5000),(6000,6000)]) (fun _ _ _ _ _ b x3 x4 d h=>?_) (hle:=kl2 1 2 (Az0 33 (pI .u64 0)) (Az0 33 (pI .u64 0)));apply kI Z h<;>intro h
 .refine F3 Z Fa [(2,.l [0]),(3,.l [0]),(4,.a [7000]),(5,.a [7000])] ?_;obtain⟨c12,h⟩:=C9 h;refine D1 c12 ?_;refine F7 Z Fa 16 7000 [pI .i64 x4] ?_;refine kC Z h (FT Z Y) (fun y3 h=>?_);obtain⟨L3,e6,h⟩:=A8 h;refine GO Z Fa [18000] [10,9,6,5,4,3] 905 (fun z3=>⟨[(10,pN x4),(9,.reg 0 0),(6,.p (.ptr [pI .i64 x4])),(5,.reg 6000 0),(4,.reg 5000 0),(3,.reg 4000 0)],[(6000,.arr 33 (fun i=>pI .u64 (z3 i))),(5000,.arr 33 (fun i=>pI .u64 ((fun _=>0) i))),(4000,.cells [.reg 0 0]),(0,.arr 33 (fun i=>pI .u64 (p_x i)))]⟩) (idl:=[(0,0),(4000,4000),(5000,5000),(6000,6000)]) h (El Z Y e6) (fun _=>by kernel_rfl) (fun _=>by kernel_rfl) (fun _=>by kernel_rfl) (fun _=>by kernel_rfl) (fun x7 _ f z3 g h=>?_) (fun z3 h=>?_)
  .refine JT Z Fa ?_;refine F3 Z Fa [(0,.n),(1,.l [6000]),(2,.l [6000]),(3,.l [4000]),(6,.l [0]),(7,.l [0]),(9,.l [6000]),(10,.a [6000])] ?_;obtain⟨c15,h⟩:=C9 h;refine D1 c15 ?_;exact g _ [(0,0),(905,905),(4000,4000),(5000,5000),(6000,6000)] _ (Oz z3 (0+x4.toNat*1) (O8 .or .u64 (z3 (0+x4.toNat*1)) (p_x (0+x7.toNat*1)))) Fa h (hle:=klR [(0,.fn 33 33 (fun i=>[(fun i=>if i=(0+x4.toNat*1)then (pI .u64 (O8 .or .u64 (z3 (0+x4.toNat*1)) (p_x (0+x7.toNat*1))))else (fun i=>pI .u64 (z3 i)) i) i]) (fun i=>[pI .u64 (Oz z3 (0+x4.toNat*1) (O8 .or .u64 (z3 (0+x4.toNat*1)) (p_x (0+x7.toNat*1))) i)]))] (al1 ⟨rfl,AM6 (c:=pI .u64) (v:=z3) (x:=O8 .or .u64 (z3 (0+x4.toNat*1)) (p_x (0+x7.toNat*1))) (fun _ _=>rfl) rfl⟩ al0))
  exact d _ [(0,0),(4000,4000),(5000,5000),(6000,6000)] _ z3 (wrap .i64 (x4+1)) Fa h
 obtain rfl:=A9 h;exact J4 Z (And.intro rfl (G5 _ _):(0:Nat)=0/\(Ed 33 (fun i=>pI .u64 (x3 i))).length=33) ⟨[(4,.reg 5000 0)],[(5000,.arr 33 (fun i=>pI .u64 (x3 i))),(0,.arr 33 (fun i=>pI .u64 (p_x i)))]⟩ [0] (ids:=[(0,0),(5000,5000)]) ⟨rfl,rfl,rfl⟩ (hle:=kl1 0 (Mr 33 (fun i=>pI .u64 (x3 i))))
def G2 (N:Nat)(p_x:Nat->Int)(b:Int)(c:Int):Option (Nat->Int):= (S6 N c).bind fun y1=>Av4 N (fun a (x1:Int) (x2:Nat->Int) (x3:Nat->Int)=>if (decide (0<x1)) then if ((O8 .and .i64 x1 1)==1) then (F2 N x3 x2).bind fun y8=>(O5 N x2).bind fun y9=>a (shI .shr .i64 x1 1) y9 y8 else (O5 N x2).bind fun d=>a (shI .shr .i64 x1 1) d x3 else some x3) b p_x y1
theorem Au {p_x:Nat->Int}{b:Int}{c:Int}{y:Nat->Int}(h:G2 N p_x b c=some y) :FunO S DQ [.p (.agg (cA 33 (pI .u64) p_x)),pN b,pN c] [] (.p (.agg (cA 33 (pI .u64) y))) ([]) []:=by
 unfold G2 at h;refine A2 Z func229 ?_;refine kC Z h (Fg Z Y) (fun y1 h=>?_);refine Ov Z (And.intro rfl (G5 _ _):(0:Nat)=0/\(Ed 33 (fun i=>pI .u64 (y1 i))).length=33) h (fun x1 x2 x3=>⟨[(7,.reg 8000 0),(6,.reg 7000 0),(3,.reg 4000 0),(1,pN x1)],[(8000,.arr 33 (fun i=>pI .u64 (x3 i))),(7000,.arr 33 (fun i=>pI .u64 ((fun _=>0) i))),(4000,.arr 33 (fun i=>pI .u64 (x2 i)))]⟩) (ids:=[(4000,4000),(7000,7000),(8000,8000)]) (fun _ _ _ _ _ f x1 x2 x3 d h=>?_) (hle:=klR [(1,.fn 33 33 (fun i=>[(fun i=>(cA 33 (pI .u64) y1).getD i default) i]) (fun i=>[pI .u64 (y1 i)])),(2,.fn 33 33 (fun i=>[(fun i=>(List.replicate 33 (pI .u64 0)).getD i default) i]) (fun i=>[pI .u64 ((fun _=>0) i)])),(3,.fn 33 33 (fun i=>[(fun i=>(cA 33 (pI .u64) p_x).getD i default) i]) (fun i=>[pI .u64 (p_x i)]))] (al1 ⟨rfl,DE 33 (fun i=>pI .u64 (y1 i))⟩ (al1 ⟨rfl,Oy (z:=pI .u64 0) rfl⟩ (al1 ⟨rfl,DE 33 (fun i=>pI .u64 (p_x i))⟩ al0))));apply kI Z h<;>intro h
 .apply kI Z h<;>intro h
  .obtain⟨y8,e8,h⟩:=A8 h;refine B3 Z [8000,4000] Fa (U9 Z Y e8) ?_;obtain⟨y9,e9,h⟩:=A8 h;refine B3 Z [4000] (And.intro rfl (G5 _ _):(0:Nat)=0/\(Ed 33 (fun i=>pI .u64 (y8 i))).length=33) (DT Z Y e9) ?_;exact d _ [(4000,4000),(7000,7000),(8000,8000)] _ (shI .shr .i64 x1 1) y9 y8 (And.intro (And.intro rfl (G5 _ _):(0:Nat)=0/\(Ed 33 (fun i=>pI .u64 (y9 i))).length=33) (by decide:(0:Int)<=1)) h (hle:=kl2 1 3 (Mr 33 (fun i=>pI .u64 (y8 i))) (Mr 33 (fun i=>pI .u64 (y9 i))))
  obtain⟨a,e10,h⟩:=A8 h;refine B3 Z [4000] Fa (DT Z Y e10) ?_;exact d _ [(4000,4000),(7000,7000),(8000,8000)] _ (shI .shr .i64 x1 1) a x3 (And.intro (And.intro rfl (G5 _ _):(0:Nat)=0/\(Ed 33 (fun i=>pI .u64 (a i))).length=33) (by decide:(0:Int)<=1)) h (hle:=kl1 3 (Mr 33 (fun i=>pI .u64 (a i))))
 obtain rfl:=A9 h;exact J4 Z (And.intro rfl (G5 _ _):(0:Nat)=0/\(Ed 33 (fun i=>pI .u64 (x3 i))).length=33) ⟨[(6,.reg 7000 0)],[(7000,.arr 33 (fun i=>pI .u64 (x3 i)))]⟩ [] (ids:=[(7000,7000)]) ⟨rfl,rfl,rfl⟩ (hle:=kl1 0 (Mr 33 (fun i=>pI .u64 (x3 i))))
end Go.AM
namespace Go.AM
open Go.Proofs.Tryz
variable {N:Nat}
open IntKind (wrap)
open Go.Proofs
set_option maxRecDepth 10000
set_option maxHeartbeats 2000000
variable {S:U7}(Z:G4 S Tryz.prog) (Y:Kb S)
include Z Y
def Av (N:Nat)(p_x:Ak4)(b:Sl Im):Option (Nat->Int):= BD N (fun a (x1:Nat->Int) (x2:Int)=>if (decide (x2<(b.n:Int))) then if ((0:Int)<=x2/\x2<(b.n:Int))then if ((((O8 .or .u32 (O8 .andNot .u32 p_x.is.Plus (b.g x2.toNat).Plus) (O8 .andNot .u32 p_x.is.Minus (b.g x2.toNat).Minus))==0)==p_x.not) != true) then if (((0:Int)<=(wrap .i64 (x2+1))/\((0:Int)<=x2/\x2<33))/\(0+x2.toNat*1)<33)then a (Oz x1 (0+x2.toNat*1) (shI .shl .u64 1 (wrap .i64 (x2+1)))) (wrap .i64 (x2+1)) else none else a x1 (wrap .i64 (x2+1)) else none else some x1) (fun _=>0) 0
theorem Pq {p_x:Ak4}{a:Sl Im}{y:Nat->Int}(h:Av N p_x a=some y) :FunO S Fd [.p (.agg (YV p_x)),.p (vSl 2 A0 a)] [] (.p (.agg (cA 33 (pI .u64) y))) ([]) []:=by
 unfold Av at h;refine A2 Z func230 ?_;refine H8 Z Fa h (fun x1 x2=>⟨[(9,pN x2),(8,pN (a.n:Int)),(7,.p (vSl 2 A0 a)),(4,.reg 5000 0),(2,.reg 3000 0)],[(5000,.arr 33 (fun i=>pI .u64 (x1 i))),(3000,.cells ((YV p_x).map .p))]⟩) (ids:=[(3000,3000),(5000,5000)]) (fun _ _ _ _ _ f x1 x2 d h=>?_) (hle:=kl1 3 (Az0 33 (pI .u64 0)));apply kI Z h<;>intro h
 .obtain⟨c8,h⟩:=C9 h;refine C8 Z (And.intro c8 Ga) (b:=(((O8 .or .u32 (O8 .andNot .u32 p_x.is.Plus (a.g x2.toNat).Plus) (O8 .andNot .u32 p_x.is.Minus (a.g x2.toNat).Minus))==0)==p_x.not) != true) (fun c9=>?_) (fun c9=>?_)
  .replace h:=itT c9 h;obtain⟨c10,h⟩:=C9 h;exact d _ [(3000,3000),(5000,5000)] _ (Oz x1 (0+x2.toNat*1) (shI .shl .u64 1 (wrap .i64 (x2+1)))) (wrap .i64 (x2+1)) c10 h (hle:=klR [(3,.fn 33 33 (fun i=>[(fun i=>if i=(0+x2.toNat*1)then (pI .u64 (shI .shl .u64 1 (wrap .i64 (x2+1))))else (fun i=>pI .u64 (x1 i)) i) i]) (fun i=>[pI .u64 (Oz x1 (0+x2.toNat*1) (shI .shl .u64 1 (wrap .i64 (x2+1))) i)]))] (al1 ⟨rfl,AM6 (c:=pI .u64) (v:=x1) (x:=shI .shl .u64 1 (wrap .i64 (x2+1))) (fun _ _=>rfl) rfl⟩ al0))
  replace h:=itF c9 h;exact d _ [(3000,3000),(5000,5000)] _ x1 (wrap .i64 (x2+1)) Fa h
 obtain rfl:=A9 h;exact J4 Z (And.intro rfl (G5 _ _):(0:Nat)=0/\(Ed 33 (fun i=>pI .u64 (x1 i))).length=33) ⟨[(4,.reg 5000 0)],[(5000,.arr 33 (fun i=>pI .u64 (x1 i)))]⟩ [] (ids:=[(5000,5000)]) ⟨rfl,rfl,rfl⟩ (hle:=kl1 0 (Mr 33 (fun i=>pI .u64 (x1 i))))
def BN (N:Nat)(p_x:AN7)(a:Sl Im):Option (Nat->Int):= if p_x.end_ then if (((0:Int)<=(a.n:Int)/\((0:Int)<=(a.n:Int)/\(a.n:Int)<33))/\(0+(a.n:Int).toNat*1)<33)then some (Oz (fun _=>0) (0+(a.n:Int).toNat*1) (shI .shl .u64 1 (a.n:Int))) else none else if (((0:Int)<=0/\(0:Int)<33)/\(0+0*1)<33)then some (Oz (fun _=>0) (0+0*1) (shI .shl .u64 1 0)) else none
theorem Qu {p_x:AN7}{a:Sl Im}{y:Nat->Int}(h:BN N p_x a=some y) :FunO S FS [.p (.agg (AN8 p_x)),.p (vSl 2 A0 a)] [] (.p (.agg (cA 33 (pI .u64) y))) ([]) []:=by
 unfold BN at h;refine A2 Z func231 ?_;apply kI Z h<;>intro h
 .obtain⟨c2,h⟩:=C9 h;obtain rfl:=A9 h;exact J4 Z (And.intro (And.intro (And.intro c2.1.1 c2.1.2) c2.2) (And.intro rfl (G5 _ _):(0:Nat)=0/\(Ed 33 (fun i=>if i=(0+(a.n:Int).toNat*1)then (pI .u64 (shI .shl .u64 1 (a.n:Int)))else (fun i=>(List.replicate 33 (pI .u64 0)).getD i default) i)).length=33)) ⟨[(4,.reg 5000 0)],[(5000,.arr 33 (fun i=>pI .u64 (Oz (fun _=>0) (0+(a.n:Int).toNat*1) (shI .shl .u64 1 (a.n:Int)) i)))]⟩ [] (ids:=[(5000,5000)]) ⟨rfl,rfl,rfl⟩ (hle:=klR [(0,.fn 33 33 (fun i=>[(fun i=>(Ed 33 (fun i=>if i=(0+(a.n:Int).toNat*1)then (pI .u64 (shI .shl .u64 1 (a.n:Int)))else (fun i=>(List.replicate 33 (pI .u64 0)).getD i default) i)).getD i default) i]) (fun i=>[pI .u64 (Oz (fun _=>0) (0+(a.n:Int).toNat*1) (shI .shl .u64 1 (a.n:Int)) i)]))] (al1 ⟨rfl,fun i b=>(DE 33 (fun i=>if i=(0+(a.n:Int).toNat*1)then (pI .u64 (shI .shl .u64 1 (a.n:Int)))else (fun i=>(List.replicate 33 (pI .u64 0)).getD i default) i) i b).trans (AM6 (c:=pI .u64) (v:=fun _=>0) (x:=shI .shl .u64 1 (a.n:Int)) (Oy (z:=pI .u64 0) rfl) rfl i b)⟩ al0))
 obtain⟨c3,h⟩:=C9 h;obtain rfl:=A9 h;exact J4 Z (And.intro (And.intro (And.intro (by decide:(0:Int)<=0) c3.1) c3.2) (And.intro rfl (G5 _ _):(0:Nat)=0/\(Ed 33 (fun i=>if i=(0+0*1)then (pI .u64 (shI .shl .u64 1 0))else (fun i=>(List.replicate 33 (pI .u64 0)).getD i default) i)).length=33)) ⟨[(4,.reg 5000 0)],[(5000,.arr 33 (fun i=>pI .u64 (Oz (fun _=>0) (0+0*1) (shI .shl .u64 1 0) i)))]⟩ [] (ids:=[(5000,5000)]) ⟨rfl,rfl,rfl⟩ (hle:=klR [(0,.fn 33 33 (fun i=>[(fun i=>(Ed 33 (fun i=>if i=(0+0*1)then (pI .u64 (shI .shl .u64 1 0))else (fun i=>(List.replicate 33 (pI .u64 0)).getD i default) i)).getD i default) i]) (fun i=>[pI .u64 (Oz (fun _=>0) (0+0*1) (shI .shl .u64 1 0) i)]))] (al1 ⟨rfl,fun i b=>(DE 33 (fun i=>if i=(0+0*1)then (pI .u64 (shI .shl .u64 1 0))else (fun i=>(List.replicate 33 (pI .u64 0)).getD i default) i) i b).trans (AM6 (c:=pI .u64) (v:=fun _=>0) (x:=shI .shl .u64 1 0) (Oy (z:=pI .u64 0) rfl) rfl i b)⟩ al0))
def CO (rec:Part->(Sl Im)->Option (Nat->Int))(N:Nat)(p_x:Pseq)(b:Sl Im):Option (Nat->Int):= (S6 N (b.n:Int)).bind fun y1=>BD N (fun a (x1:Nat->Int) (x2:Int)=>if (decide (x2<(p_x.l.n:Int))) then if ((0:Int)<=x2/\x2<(p_x.l.n:Int))then (rec (p_x.l.g x2.toNat) b).bind fun y6=>(F2 N x1 y6).bind fun y7=>a y7 (wrap .i64 (x2+1)) else none else some x1) y1 0
theorem Tg {rec:Part->(Sl Im)->Option ((Nat->Int))}(b:∀{x:Part}{b0:(Sl Im)}{y:(Nat->Int)},rec x b0=some y->AV9 S Tryz.prog (HX x) "ablaut/pats.in" [(.p (vSl 2 A0 b0))] (.p (.agg (cA 33 (pI .u64) y)))){p_x:Pseq}{a:(Sl Im)}{y:(Nat->Int)}(h:CO rec N p_x a=some y) :FunO S GW [(.p (.agg (AY1 p_x))),(.p (vSl 2 A0 a))] [] (.p (.agg (cA 33 (pI .u64) y))) ([]) []:=by
 unfold CO at h;refine A2 Z func237 ?_;refine kC Z h (Fg Z Y) (fun y1 h=>?_);refine H8 Z (And.intro rfl (G5 _ _):(0:Nat)=0/\(Ed 33 (fun i=>pI .u64 (y1 i))).length=33) h (fun x1 x2=>⟨[(15,(pN x2)),(14,(pN (p_x.l.n:Int))),(13,(.p (vSl 1 Jg p_x.l))),(5,(.reg 6000 0)),(4,(.reg 5000 0)),(1,(.p (vSl 2 A0 a)))],[(6000,(.arr 33 (fun i=>pI .u64 (x1 i)))),(5000,(.arr 33 (fun i=>pI .u64 ((fun _=>0) i))))]⟩) (ids:=[(5000,5000),(6000,6000)]) (fun _ _ _ _ _ c x1 x2 d h=>?_) (hle:=(kl2 4 5 (Mr 33 (fun i=>pI .u64 (y1 i))) (Az0 33 (pI .u64 0))));apply kI Z h<;>intro h
 .obtain⟨c6,h⟩:=C9 h;obtain⟨y6,e6,h⟩:=A8 h;refine NA Z c6 (b e6) ?_;refine KF Z (And.intro rfl (G5 _ _):(0:Nat)=0/\(Ed 33 (fun i=>pI .u64 (y6 i))).length=33) ⟨[(15,(pN x2)),(14,(pN (p_x.l.n:Int))),(13,(.p (vSl 1 Jg p_x.l))),(8,(.reg 9000 0)),(5,(.reg 6000 0)),(4,(.reg 5000 0)),(1,(.p (vSl 2 A0 a)))],[(9000,(.arr 33 (fun i=>pI .u64 (y6 i)))),(6000,(.arr 33 (fun i=>pI .u64 (x1 i)))),(5000,(.arr 33 (fun i=>pI .u64 ((fun _=>0) i))))]⟩ (ids:=[(5000,5000),(6000,6000),(9000,9000)]) ?_ (hle:=(kl1 4 (Mr 33 (fun i=>pI .u64 (y6 i)))));obtain⟨y7,e7,h⟩:=A8 h;refine B3 Z [6000,9000] Fa (U9 Z Y e7) ?_;exact d _ [(5000,5000),(6000,6000)] _ y7 (wrap .i64 (x2+1)) (And.intro rfl (G5 _ _):(0:Nat)=0/\(Ed 33 (fun i=>pI .u64 (y7 i))).length=33) h (hle:=kl1 4 (Mr 33 (fun i=>pI .u64 (y7 i))))
 obtain rfl:=A9 h;exact J4 Z (And.intro rfl (G5 _ _):(0:Nat)=0/\(Ed 33 (fun i=>pI .u64 (x1 i))).length=33) ⟨[(4,(.reg 5000 0))],[(5000,(.arr 33 (fun i=>pI .u64 (x1 i))))]⟩ [] (ids:=[(5000,5000)]) ⟨rfl,rfl,rfl⟩ (hle:=(kl1 0 (Mr 33 (fun i=>pI .u64 (x1 i)))))
def CP (rec:Part->(Sl Im)->Option (Nat->Int))(N:Nat)(p_x:Palt)(b:Sl Im):Option (Nat->Int):= BD N (fun a (x1:Nat->Int) (x2:Int)=>if (decide (x2<(p_x.l.n:Int))) then if ((0:Int)<=x2/\x2<(p_x.l.n:Int))then (rec (p_x.l.g x2.toNat) b).bind fun y5=>(P0 N x1 y5).bind fun y6=>a y6 (wrap .i64 (x2+1)) else none else some x1) (fun _=>0) 0
theorem Th {rec:Part->(Sl Im)->Option ((Nat->Int))}(b:∀{x:Part}{b0:(Sl Im)}{y:(Nat->Int)},rec x b0=some y->AV9 S Tryz.prog (HX x) "ablaut/pats.in" [(.p (vSl 2 A0 b0))] (.p (.agg (cA 33 (pI .u64) y)))){p_x:Palt}{a:(Sl Im)}{y:(Nat->Int)}(h:CP rec N p_x a=some y) :FunO S GU [(.p (.agg (AX8 p_x))),(.p (vSl 2 A0 a))] [] (.p (.agg (cA 33 (pI .u64) y))) ([]) []:=by
 unfold CP at h;refine A2 Z func232 ?_;refine H8 Z Fa h (fun x1 x2=>⟨[(11,(pN x2)),(10,(pN (p_x.l.n:Int))),(9,(.p (vSl 1 Jg p_x.l))),(4,(.reg 5000 0)),(1,(.p (vSl 2 A0 a)))],[(5000,(.arr 33 (fun i=>pI .u64 (x1 i))))]⟩) (ids:=[(5000,5000)]) (fun _ _ _ _ _ c x1 x2 d h=>?_) (hle:=(kl1 4 (Az0 33 (pI .u64 0))));apply kI Z h<;>intro h
 .obtain⟨c6,h⟩:=C9 h;obtain⟨y5,e5,h⟩:=A8 h;refine NA Z c6 (b e5) ?_;refine KF Z (And.intro rfl (G5 _ _):(0:Nat)=0/\(Ed 33 (fun i=>pI .u64 (y5 i))).length=33) ⟨[(11,(pN x2)),(10,(pN (p_x.l.n:Int))),(9,(.p (vSl 1 Jg p_x.l))),(7,(.reg 8000 0)),(4,(.reg 5000 0)),(1,(.p (vSl 2 A0 a)))],[(8000,(.arr 33 (fun i=>pI .u64 (y5 i)))),(5000,(.arr 33 (fun i=>pI .u64 (x1 i))))]⟩ (ids:=[(5000,5000),(8000,8000)]) ?_ (hle:=(kl1 4 (Mr 33 (fun i=>pI .u64 (y5 i)))));obtain⟨y6,e6,h⟩:=A8 h;refine B3 Z [5000,8000] Fa (FG Z Y e6) ?_;exact d _ [(5000,5000)] _ y6 (wrap .i64 (x2+1)) Fa h
 obtain rfl:=A9 h;exact J4 Z (And.intro rfl (G5 _ _):(0:Nat)=0/\(Ed 33 (fun i=>pI .u64 (x1 i))).length=33) ⟨[(4,(.reg 5000 0))],[(5000,(.arr 33 (fun i=>pI .u64 (x1 i))))]⟩ [] (ids:=[(5000,5000)]) ⟨rfl,rfl,rfl⟩ (hle:=(kl1 0 (Mr 33 (fun i=>pI .u64 (x1 i)))))
def CQ (rec:Part->(Sl Im)->Option (Nat->Int))(N:Nat)(p_x:AX9)(a:Sl Im):Option (Nat->Int):= (rec p_x.of a).bind fun y1=>(G2 N y1 p_x.min (a.n:Int)).bind fun y2=>(S6 N (a.n:Int)).bind fun y3=>(P0 N y1 y3).bind fun y4=>if (decide (p_x.max<0)) then (G2 N y4 (a.n:Int) (a.n:Int)).bind fun y5=>(F2 N y2 y5).bind fun y6=>some y6 else (G2 N y4 (wrap .i64 (p_x.max-p_x.min)) (a.n:Int)).bind fun y7=>(F2 N y2 y7).bind fun y8=>some y8
theorem Ti {rec:Part->(Sl Im)->Option ((Nat->Int))}(b:∀{x:Part}{b0:(Sl Im)}{y:(Nat->Int)},rec x b0=some y->AV9 S Tryz.prog (HX x) "ablaut/pats.in" [(.p (vSl 2 A0 b0))] (.p (.agg (cA 33 (pI .u64) y)))){p_x:AX9}{a:(Sl Im)}{y:(Nat->Int)}(h:CQ rec N p_x a=some y) :FunO S GV [(.p (.agg (AY0 p_x))),(.p (vSl 2 A0 a))] [] (.p (.agg (cA 33 (pI .u64) y))) ([]) []:=by
 unfold CQ at h;refine A2 Z func234 ?_;obtain⟨y1,e1,h⟩:=A8 h;refine NA Z Fa (b e1) ?_;refine KF Z (And.intro rfl (G5 _ _):(0:Nat)=0/\(Ed 33 (fun i=>pI .u64 (y1 i))).length=33) ⟨[(18,(pN (a.n:Int))),(16,(pN p_x.min)),(14,(.p (.agg (cA 33 (pI .u64) y1)))),(5,(.reg 6000 0)),(4,(.reg 5000 0)),(2,(.reg 3000 0)),(1,(.p (vSl 2 A0 a)))],[(6000,(.arr 33 (fun i=>pI .u64 (y1 i)))),(5000,(.arr 33 (fun i=>pI .u64 ((fun _=>0) i)))),(3000,(.cells [(.p (HX p_x.of)),(pN p_x.min),(pN p_x.max)]))]⟩ (ids:=[(3000,3000),(5000,5000),(6000,6000)]) ?_ (hle:=(klR [(2,.eq (.agg (Ed 33 (fun i=>(cA 33 (pI .u64) y1).getD i default))) (.agg (cA 33 (pI .u64) y1))),(4,.fn 33 33 (fun i=>[(fun i=>(cA 33 (pI .u64) y1).getD i default) i]) (fun i=>[pI .u64 (y1 i)])),(5,.fn 33 33 (fun i=>[(fun i=>(List.replicate 33 (pI .u64 0)).getD i default) i]) (fun i=>[pI .u64 ((fun _=>0) i)]))] (al1 (congrArg PV.agg (ZV (DE 33 (fun i=>pI .u64 (y1 i))))) (al1 ⟨rfl,(DE 33 (fun i=>pI .u64 (y1 i)))⟩ (al1 ⟨rfl,(Oy (z:=pI .u64 0) rfl)⟩ al0)))));refine kC Z h (Au Z Y) (fun y2 h=>?_);obtain⟨y3,e3,h⟩:=A8 h;refine B3 Z [] (And.intro (And.intro rfl (G5 _ _):(0:Nat)=0/\(Ed 33 (fun i=>pI .u64 (y2 i))).length=33) (And.intro rfl (G5 _ _):(0:Nat)=0/\(Ed 33 (fun i=>pI .u64 (y1 i))).length=33)) (Fg Z Y e3) ?_;refine KF Z (And.intro rfl (G5 _ _):(0:Nat)=0/\(Ed 33 (fun i=>pI .u64 (y3 i))).length=33) ⟨[(8,(.reg 9000 0)),(7,(.reg 8000 0)),(6,(.reg 7000 0)),(4,(.reg 5000 0)),(2,(.reg 3000 0)),(1,(.p (vSl 2 A0 a)))],[(9000,(.arr 33 (fun i=>pI .u64 (y3 i)))),(8000,(.arr 33 (fun i=>pI .u64 (y1 i)))),(7000,(.arr 33 (fun i=>pI .u64 (y2 i)))),(5000,(.arr 33 (fun i=>pI .u64 ((fun _=>0) i)))),(3000,(.cells [(.p (HX p_x.of)),(pN p_x.min),(pN p_x.max)]))]⟩ (ids:=[(3000,3000),(5000,5000),(7000,7000),(8000,8000),(9000,9000)]) ?_ (hle:=(klR [(1,.fn 33 33 (fun i=>[(fun i=>(cA 33 (pI .u64) y3).getD i default) i]) (fun i=>[pI .u64 (y3 i)])),(2,.fn 33 33 (fun i=>[(fun i=>(cA 33 (pI .u64) y1).getD i default) i]) (fun i=>[pI .u64 (y1 i)])),(3,.fn 33 33 (fun i=>[(fun i=>(cA 33 (pI .u64) y2).getD i default) i]) (fun i=>[pI .u64 (y2 i)]))] (al1 ⟨rfl,(DE 33 (fun i=>pI .u64 (y3 i)))⟩ (al1 ⟨rfl,(DE 33 (fun i=>pI .u64 (y1 i)))⟩ (al1 ⟨rfl,(DE 33 (fun i=>pI .u64 (y2 i)))⟩ al0)))));obtain⟨y4,e4,h⟩:=A8 h;refine B3 Z [8000,9000] Fa (FG Z Y e4) ?_;apply kI Z h<;>intro h
 .refine kC Z h (Au Z Y) (fun y5 h=>?_);refine KF Z (And.intro rfl (G5 _ _):(0:Nat)=0/\(Ed 33 (fun i=>pI .u64 (y5 i))).length=33) ⟨[(7,(.reg 8000 0)),(6,(.reg 7000 0)),(4,(.reg 5000 0))],[(8000,(.arr 33 (fun i=>pI .u64 (y5 i)))),(7000,(.arr 33 (fun i=>pI .u64 (y2 i)))),(5000,(.arr 33 (fun i=>pI .u64 ((fun _=>0) i))))]⟩ (ids:=[(5000,5000),(7000,7000),(8000,8000)]) ?_ (hle:=(kl1 0 (Mr 33 (fun i=>pI .u64 (y5 i)))));obtain⟨y6,e6,h⟩:=A8 h;refine B3 Z [7000,8000] Fa (U9 Z Y e6) ?_;obtain rfl:=A9 h;exact J4 Z (And.intro rfl (G5 _ _):(0:Nat)=0/\(Ed 33 (fun i=>pI .u64 (y6 i))).length=33) ⟨[(4,(.reg 5000 0))],[(5000,(.arr 33 (fun i=>pI .u64 (y6 i))))]⟩ [] (ids:=[(5000,5000)]) ⟨rfl,rfl,rfl⟩ (hle:=(kl1 0 (Mr 33 (fun i=>pI .u64 (y6 i)))))
 refine kC Z h (Au Z Y) (fun y7 h=>?_);refine KF Z (And.intro rfl (G5 _ _):(0:Nat)=0/\(Ed 33 (fun i=>pI .u64 (y7 i))).length=33) ⟨[(7,(.reg 8000 0)),(6,(.reg 7000 0)),(4,(.reg 5000 0))],[(8000,(.arr 33 (fun i=>pI .u64 (y7 i)))),(7000,(.arr 33 (fun i=>pI .u64 (y2 i)))),(5000,(.arr 33 (fun i=>pI .u64 ((fun _=>0) i))))]⟩ (ids:=[(5000,5000),(7000,7000),(8000,8000)]) ?_ (hle:=(kl1 0 (Mr 33 (fun i=>pI .u64 (y7 i)))));obtain⟨y8,e8,h⟩:=A8 h;refine B3 Z [7000,8000] Fa (U9 Z Y e8) ?_;obtain rfl:=A9 h;exact J4 Z (And.intro rfl (G5 _ _):(0:Nat)=0/\(Ed 33 (fun i=>pI .u64 (y8 i))).length=33) ⟨[(4,(.reg 5000 0))],[(5000,(.arr 33 (fun i=>pI .u64 (y8 i))))]⟩ [] (ids:=[(5000,5000)]) ⟨rfl,rfl,rfl⟩ (hle:=(kl1 0 (Mr 33 (fun i=>pI .u64 (y8 i)))))
def Y7 (rec:Pat->Option Part)(N:Nat)(a:Pat):Option Part:= BD N (fun b (x1:Sl Part) (x2:Int)=>if (decide (x2<(a.L.n:Int))) then if ((0:Int)<=x2/\x2<(a.L.n:Int))then (rec (a.L.g x2.toNat)).bind fun y3=>if ((x1.n+(Sl.of [y3]:Sl Part).n)*16<=140737488355328/\x1.n+(Sl.of [y3]:Sl Part).n<=140737488355328)then b (x1.push y3) (wrap .i64 (x2+1)) else none else none else if (a.Kind==1) then some (Part.sound a.Is a.Not) else if (a.Kind==2) then some (Part.edge false) else if (a.Kind==6) then some (Part.edge true) else if (a.Kind==4) then some (Part.alt x1.n x1.g) else if (a.Kind==5) then if (((0:Int)<=0/\0<(x1.n:Int))/\0<x1.n)then some (Part.rep (x1.g 0) a.Min a.Max) else none else some (Part.seq x1.n x1.g)) (Sl.nil:Sl Part) 0
def BO:Nat->Pat->Option Part
 |0=>fun _=>none
 |N+1=>Y7 (BO N) N
theorem Ps {rec:Pat->Option Part}(b:∀{a:Pat}{y:Part},rec a=some y->FunO S DH [.p (.agg (E1 a))] [] (.p (HX y)) ([]) []){a:Pat}{y:Part}(h:Y7 rec N a=some y) :FunO S DH [.p (.agg (E1 a))] [] (.p (HX y)) ([]) []:=by
 unfold Y7 at h;refine A2 Z func209 ?_;refine F7 Z Fa 2 2000 (E1 a) ?_;refine N0 Z Fa 8 ⟨[(7,.p (vSl 7 E1 a.L)),(3,.p C7),(1,.p (.ptr (E1 a)))],[]⟩ (ids:=[]) ?_ (hle:=klR [(0,.fn a.L.n a.L.n (EW a) (fun i=>E1 (a.L.g i)))] (al1 ⟨rfl,CJ a⟩ al0));refine H8 Z Fa h (fun x1 x2=>⟨[(9,pN x2),(8,pN (a.L.n:Int)),(7,.p (vSl 7 E1 a.L)),(3,.vec 4500),(1,.p (.ptr (E1 a)))],[(4500,oV Xw 1 Jg x1 false)]⟩) (ids:=[]) (fun _ _ _ _ _ c x1 x2 d h=>?_);apply kI Z h<;>intro h
 .obtain⟨c6,h⟩:=C9 h;refine F7 Z (And.intro c6 Hz) 13 6000 (E1 (a.L.g x2.toNat)) ?_;obtain⟨y3,e3,h⟩:=A8 h;refine B3 Z [] Hz (b e3) ?_;obtain⟨c7,h⟩:=C9 h;exact d _ [(4500,18000)] _ (x1.push y3) (wrap .i64 (x2+1)) (And.intro Ig c7) h (hle:=kl1 4 (W4 Jg x1 y3 [.v .nilIface]))
 apply kI Z h<;>intro h
 .obtain rfl:=A9 h;exact Ai8 Z (by decide:(2:Nat)<=6) [] ⟨rfl,rfl,rfl⟩
 apply kI Z h<;>intro h
 .cases h;exact kR Z
 apply kI Z h<;>intro h
 .cases h;exact kR Z
 apply kI Z h<;>intro h
 .refine N0 Z Fa 40 ⟨[(39,.p (vSl 1 Jg x1))],[]⟩ (ids:=[]) ?_;cases h;exact kR Z
 apply kI Z h<;>intro h
 .refine E3 Z Fa [4,6] ?_;obtain⟨c13,h⟩:=C9 h;refine D1 c13 ?_;cases h;exact kR Z
 refine N0 Z Fa 54 ⟨[(53,.p (vSl 1 Jg x1))],[]⟩ (ids:=[]) ?_;cases h;exact kR Z
theorem Qv {a:Pat}{y:Part}(h:BO N a=some y) :FunO S DH [.p (.agg (E1 a))] [] (.p (HX y)) ([]) []:=by
 induction N generalizing a y with
 |zero=>cases (show (none:Option Part)=some y from h)
 |succ N ih=>exact Ps Z Y (fun e=>ih e) h
end Go.AM
namespace Go.AM
open Go.Proofs
variable {S:U7}(Z:G4 S Tryz.prog) (Y:Kb S)
include Z Y
def BP:Nat->Part->Sl Im->Option (Nat->Int)
 |0=>fun _ _=>none
 |N+1=>fun p w=>match p with
  |.nil=>none
  |.sound x no=>Av N ⟨x,no⟩ w
  |.edge e=>BN N ⟨e⟩ w
  |.seq n g=>CO (BP N) N ⟨⟨n,g⟩⟩ w
  |.alt n g=>CP (BP N) N ⟨⟨n,g⟩⟩ w
  |.rep o mn mx=>CQ (BP N) N ⟨o,mn,mx⟩ w
theorem Al3 {N:Nat}{x:Part}{w:Sl Im}{y:Nat->Int}(h:BP N x w=some y):AV9 S Tryz.prog (HX x) "ablaut/pats.in" [(.p (vSl 2 A0 w))] (.p (.agg (cA 33 (pI .u64) y))):=by
 induction N generalizing x w y with
 |zero=>cases h
 |succ N ih=>
  cases x with
  |nil=>cases h
  |sound s no=>exact⟨_,_,Fd,rfl,by kernel_rfl,Pq Z Y (p_x:=⟨s,no⟩) h⟩
  |edge e=>exact⟨_,_,FS,rfl,by kernel_rfl,Qu Z Y (N:=N) (p_x:=⟨e⟩) h⟩
  |seq n g=>exact⟨_,_,GW,rfl,by kernel_rfl,Tg Z Y (fun e=>ih e) (p_x:=⟨⟨n,g⟩⟩) h⟩
  |alt n g=>exact⟨_,_,GU,rfl,by kernel_rfl,Th Z Y (fun e=>ih e) (p_x:=⟨⟨n,g⟩⟩) h⟩
  |rep o mn mx=>exact⟨_,_,GV,rfl,by kernel_rfl,Ti Z Y (fun e=>ih e) (p_x:=⟨o,mn,mx⟩) h⟩
end Go.AM
namespace Go.AM
open Go.Proofs.Tryz
variable {N:Nat}
open IntKind (wrap)
open Go.Proofs
set_option maxRecDepth 10000
set_option maxHeartbeats 2000000
variable {S:U7}(Z:G4 S Tryz.prog) (Y:Kb S)
include Z Y
def W1 (N:Nat)(a:Im):Option Bool:= (Q7 N a).bind fun y1=>some (!y1)
theorem Pt {a:Im}{y:Bool}(h:W1 N a=some y) :FunO S Ip [.p (.agg (A0 a))] [] (pB y) ([]) []:=by unfold W1 at h;refine A2 Z func208 ?_;refine kC Z h (FF Z Y) (fun y1 h=>?_);cases h;exact kR Z
def F1 (N:Nat)(a:Sl Im)(c:Im->Option Bool):Option Int:= Y1 N (fun b (x1:Int)=>if (decide (x1<(a.n:Int))) then if ((0:Int)<=x1/\x1<(a.n:Int))then (c (a.g x1.toNat)).bind fun y3=>if y3 then some x1 else b (wrap .i64 (x1+1)) else none else some (-1)) 0
theorem Ac {a:Sl Im}{c:Im->Option Bool}{kp_f:Nat}(d:∀{a0:Im}{b:Bool},c a0=some b->FunO S kp_f [.p (.agg (A0 a0))] [] (pB b) [] []){y:Int}(h:F1 N a c=some y) :FunO S N7 [.p (vSl 2 A0 a),.clo kp_f [] []] [] (pN y) ([]) []:=by
 unfold F1 at h;refine A2 Z func97 ?_;refine R9 Z Fa h (fun x1=>⟨[(8,pN x1),(7,pN (a.n:Int)),(1,.clo kp_f [] []),(0,.p (vSl 2 A0 a))],[]⟩) (ids:=[]) (fun _ _ _ _ _ f x1 g h=>?_);apply kI Z h<;>intro h
 .obtain⟨c8,h⟩:=C9 h;obtain⟨y3,e3,h⟩:=A8 h;refine B3 Z [] (And.intro c8 Ga) (d e3) ?_;apply kI Z h<;>intro h
  .cases h;exact kR Z
  exact g _ [] _ (wrap .i64 (x1+1)) Fa h
 cases h;exact kR Z
def B6 (N:Nat)(a:Sl Im)(b:Im->Option Bool):Option Bool:= (F1 N a b).bind fun y1=>some (decide (0<=y1))
theorem M8 {a:Sl Im}{c:Im->Option Bool}{kp_f:Nat}(d:∀{a0:Im}{b:Bool},c a0=some b->FunO S kp_f [.p (.agg (A0 a0))] [] (pB b) [] []){y:Bool}(h:B6 N a c=some y) :FunO S M4 [.p (vSl 2 A0 a),.clo kp_f [] []] [] (pB y) ([]) []:=by unfold B6 at h;refine A2 Z func64 ?_;refine kC Z h (Ac Z Y (fun e=>d e)) (fun y1 h=>?_);cases h;exact kR Z
def E2 (N:Nat)(q0:Sl Pat):Option (List (Int×Pat)):= Y1 N (fun a (x1:Int)=>if (decide (0<=x1)) then if ((0:Int)<=x1/\x1<(q0.n:Int))then Af (x1,q0.g x1.toNat) (a (wrap .i64 (x1-1))) else none else some []) (wrap .i64 ((q0.n:Int)-1))
theorem AT {q0:Sl Pat}{L:List (Int×Pat)}(h:E2 N q0=some L) :ER S I9 [] [.reg 0 0] [.cells [.p (vSl 7 E1 q0)]] (L.map (fun (x:Int×Pat)=>[pI .i64 x.1,(fun x=>.agg (E1 x)) x.2])):=by
 unfold E2 at h;refine EA Z func138 ?_;refine Dl Z Fa h (fun x1 L1=>⟨[(3,pN x1),(1,.reg 0 0),(0,.yf 1)],[(1,.yld (L1.map (fun (x:Int×Pat)=>[pI .i64 x.1,(fun x=>.agg (E1 x)) x.2])) true),(0,.cells [.p (vSl 7 E1 q0)])]⟩) (ids:=[(0,0),(1,1)]) (fun _ _ _ _ _ d x1 L1 f h=>?_);apply kI Z h<;>intro h
 .obtain⟨c10,h⟩:=C9 h;obtain⟨L4,rfl,c⟩:=LO h;replace h:=c;refine Dk Z (And.intro c10 Hz) (ys:=(fun (x:Int×Pat)=>[pI .i64 x.1,(fun x=>.agg (E1 x)) x.2]) (x1,q0.g x1.toNat)) (rest:=L4.map (fun (x:Int×Pat)=>[pI .i64 x.1,(fun x=>.agg (E1 x)) x.2])) ?_ ?_
  .refine C8 Z Fa (b:=false) (fun c11=>?_) (fun c11=>?_)
   .exact Bool.noConfusion ((rfl:false=false).symm.trans c11)
   exact f _ [(0,0),(1,1)] _ (wrap .i64 (x1-1)) L4 Fa h
  refine C8 Z Fa (b:=true) (fun c12=>?_) (fun c12=>?_)
  .exact kO Z Fa (a:=.tup []) (objs:=[(.cells [.p (vSl 7 E1 q0)]),.yld [] false]) [0,1] ⟨false,rfl,rfl,_,rfl⟩
  exact Bool.noConfusion (Ig.symm.trans c12)
 obtain rfl:=A9 h;exact kO Z Fa (a:=.tup []) (objs:=[(.cells [.p (vSl 7 E1 q0)]),.yld [] true]) [0,1] ⟨true,rfl,rfl,_,rfl⟩
def J8 (N:Nat)(a:Sl Pat):Option (Sl Pat):= some a
theorem BQ {a:Sl Pat}{y:Sl Pat}(h:J8 N a=some y) :FunO S Q6 [.p (vSl 7 E1 a)] [] (.clo I9 [] [.reg 0 0]) ([.cells [.p (vSl 7 E1 y)]]) []:=by unfold J8 at h;refine A2 Z func96 ?_;obtain rfl:=A9 h;exact kO Z Fa [2000]
def Aw (N:Nat)(c:Pat):Option Int:= BD N (fun a (x3:Sl Pat) (x4:Int)=>if (decide (0<(x3.n:Int))) then if (x4==40) then some 12 else if (((0:Int)<=(wrap .i64 ((x3.n:Int)-1))/\(wrap .i64 ((x3.n:Int)-1))<(x3.n:Int))/\(wrap .i64 ((x3.n:Int)-1)).toNat<x3.n)then if ((0:Int)<=(wrap .i64 ((x3.n:Int)-1))/\(wrap .i64 ((x3.n:Int)-1))<=(x3.n:Int))then (BL N (x3.g (wrap .i64 ((x3.n:Int)-1)).toNat)).bind fun y5=>if (y5 != 0) then some y5 else if ((0:Int)<=(if 41<((x3.g (wrap .i64 ((x3.n:Int)-1)).toNat).L.n:Int)then 41 else ((x3.g (wrap .i64 ((x3.n:Int)-1)).toNat).L.n:Int))/\(if 41<((x3.g (wrap .i64 ((x3.n:Int)-1)).toNat).L.n:Int)then 41 else ((x3.g (wrap .i64 ((x3.n:Int)-1)).toNat).L.n:Int))<=((x3.g (wrap .i64 ((x3.n:Int)-1)).toNat).L.n:Int))then (J8 N ((x3.g (wrap .i64 ((x3.n:Int)-1)).toNat).L.take (if 41<((x3.g (wrap .i64 ((x3.n:Int)-1)).toNat).L.n:Int)then 41 else ((x3.g (wrap .i64 ((x3.n:Int)-1)).toNat).L.n:Int)).toNat)).bind fun y6=>(E2 N y6).bind fun L3=>U1 L3 (fun b (x7:Int×Pat) (z3:Sl Pat)=>if ((((z3.n+(Sl.of [Pat.nil]:Sl Pat).n)*64<=140737488355328/\z3.n+(Sl.of [Pat.nil]:Sl Pat).n<=140737488355328)/\((0:Int)<=(z3.n:Int)/\(z3.n:Int)<((z3.push Pat.nil).n:Int)))/\(z3.n:Int).toNat<(z3.push Pat.nil).n)then b ((z3.push Pat.nil).upd (z3.n:Int).toNat x7.2) else none) (fun (z3:Sl Pat)=>a z3 (wrap .i64 (x4+1))) (x3.take (wrap .i64 ((x3.n:Int)-1)).toNat) else none else none else none else some 0) (Sl.of [c]:Sl Pat) 0
theorem Iu {b:Pat}{y:Int}(h:Aw N b=some y) :FunO S MC [.p (.agg (E1 b))] [] (pN y) ([]) []:=by
 unfold Aw at h;refine A2 Z func63 ?_;refine F7 Z Fa 2 2000 (E1 b) ?_;refine H8 Z (And.intro Hz Ig) h (fun x3 x4=>⟨[(4,pN x4),(3,.reg 4000 0)],[(4501,oV Gu 7 E1 x3 false),(4000,.cells [.vec 4501])]⟩) (ids:=[(4000,4000),(4501,12000)]) (fun _ _ _ _ _ d x3 x4 j h=>?_) (hle:=kl1 1 (ZZ E1 ([b]:List Pat) [pI .i64 0,pI .u32 0,pI .u32 0,.v (.bool false),pI .i64 0,pI .i64 0,C7]));apply kI Z h<;>intro h
 .apply kI Z h<;>intro h
  .cases h;exact kR Z
  obtain⟨c21,h⟩:=C9 h;refine F7 Z (And.intro (And.intro c21.1 Hz) c21.2) 25 6000 (E1 (x3.g (wrap .i64 ((x3.n:Int)-1)).toNat)) ?_;obtain⟨c22,h⟩:=C9 h;refine AW0 Z c22 30 4501 (wrap .i64 ((x3.n:Int)-1)).toNat 4508 (e:=Gu) (k:=7) (N:=x3.n) (f:=fun i=>E1 (x3.g i)) (by have q:=c22;omega) ?_;obtain⟨y5,e7,h⟩:=A8 h;refine B3 Z [] Hz (Qs Z Y e7) ?_;apply kI Z h<;>intro h
  .cases h;exact kR Z
  refine N0 Z Fa 39 ⟨[(38,.p (vSl 7 E1 (x3.g (wrap .i64 ((x3.n:Int)-1)).toNat).L)),(36,.p (vSl 7 E1 (x3.g (wrap .i64 ((x3.n:Int)-1)).toNat).L)),(4,pN x4),(3,.reg 4000 0)],[(4508,.vec Gu 7 (x3.take (wrap .i64 ((x3.n:Int)-1)).toNat).n (fun i=>E1 ((x3.take (wrap .i64 ((x3.n:Int)-1)).toNat).g i)) false),(4000,.cells [.vec 4508])]⟩ (ids:=[(4000,4000),(4508,4508)]) ?_ (hle:=klR [(0,.fn (x3.g (wrap .i64 ((x3.n:Int)-1)).toNat).L.n (x3.g (wrap .i64 ((x3.n:Int)-1)).toNat).L.n (EW (x3.g (wrap .i64 ((x3.n:Int)-1)).toNat)) (fun i=>E1 ((x3.g (wrap .i64 ((x3.n:Int)-1)).toNat).L.g i))),(1,.fn (x3.g (wrap .i64 ((x3.n:Int)-1)).toNat).L.n (x3.g (wrap .i64 ((x3.n:Int)-1)).toNat).L.n (EW (x3.g (wrap .i64 ((x3.n:Int)-1)).toNat)) (fun i=>E1 ((x3.g (wrap .i64 ((x3.n:Int)-1)).toNat).L.g i)))] (al1 ⟨rfl,CJ (x3.g (wrap .i64 ((x3.n:Int)-1)).toNat)⟩ (al1 ⟨rfl,CJ (x3.g (wrap .i64 ((x3.n:Int)-1)).toNat)⟩ al0)));obtain⟨c24,h⟩:=C9 h;obtain⟨y6,e8,h⟩:=A8 h;refine B3 Z [] c24 (BQ Z Y e8) ?_;obtain⟨L3,e9,h⟩:=A8 h;refine GO Z Fa [44000] [4,3] 905 (fun z3=>⟨[(4,pN x4),(3,.reg 4000 0)],[(4500,oV Gu 7 E1 z3 false),(4000,.cells [.vec 4500])]⟩) (idl:=[(4000,4000),(4500,4508)]) h (AT Z Y e9) (fun _=>by kernel_rfl) (fun _=>by kernel_rfl) (fun _=>by kernel_rfl) (fun _=>by kernel_rfl) (fun x7 _ m z3 o h=>?_) (fun z3 h=>?_)
  .refine JT Z Fa ?_;refine UP Z Fa 10000 (E1 x7.2) ?_;refine F3 Z Fa [(0,.l [4000]),(1,.n),(2,.l [4500]),(4,.a [51000,4500]),(5,.l [51000]),(6,.a [51000]),(7,.a [4000])] ?_;refine K6 Hz (x:=.sl true 7 1 (G7 [pI .i64 0,pI .u32 0,pI .u32 0,.v (.bool false),pI .i64 0,pI .i64 0,C7] [(0,[pI .i64 0,pI .u32 0,pI .u32 0,.v (.bool false),pI .i64 0,pI .i64 0,C7])])) ?_;obtain⟨c27,h⟩:=C9 h;refine D1 (And.intro (And.intro c27.1.1 c27.1.2) (And.intro (rfl:(7:Nat)=7) (And.intro c27.2 Hz))) ?_;exact o _ [(905,905),(4000,4000),(4500,51000)] _ ((z3.push Pat.nil).upd (z3.n:Int).toNat x7.2) Fa h (hle:=klR [(0,.fn (z3.n+1) ((z3.push Pat.nil).upd (z3.n:Int).toNat x7.2).n (fun l=>if l=(z3.n:Int).toNat then splice (FK z3.n (fun i=>E1 (z3.g i)) (G7 [pI .i64 0,pI .u32 0,pI .u32 0,.v (.bool false),pI .i64 0,pI .i64 0,C7] [(0,[pI .i64 0,pI .u32 0,pI .u32 0,.v (.bool false),pI .i64 0,pI .i64 0,C7])]) l) 0 [pI .i64 x7.2.Kind,pI .u32 x7.2.Is.Plus,pI .u32 x7.2.Is.Minus,.bb x7.2.Not,pI .i64 x7.2.Min,pI .i64 x7.2.Max,.sl false 7 x7.2.L.n (EW x7.2)]else (FK z3.n (fun i=>E1 (z3.g i)) (G7 [pI .i64 0,pI .u32 0,pI .u32 0,.v (.bool false),pI .i64 0,pI .i64 0,C7] [(0,[pI .i64 0,pI .u32 0,pI .u32 0,.v (.bool false),pI .i64 0,pI .i64 0,C7])])) l) (fun i=>E1 (((z3.push Pat.nil).upd (z3.n:Int).toNat x7.2).g i)))] (al1 ⟨rfl,setH (c:=E1) (v:=z3.push Pat.nil) (x:=x7.2) (app1H (c:=E1) (v:=z3) (z:=Pat.nil) same rfl) (fun _=>by simp[FK,G7,splice])⟩ al0))
  exact j _ [(4000,4000),(4501,4500)] _ z3 (wrap .i64 (x4+1)) Fa h
 cases h;exact kR Z
def AU (N:Nat)(b:Pat)(a:Sl Im):Option ((Nat->Int)×Int):= (Aw N b).bind fun y1=>if (y1 != 0) then some (fun _=>0,y1) else if (decide (32<(a.n:Int))) then some (fun _=>0,11) else (B6 N a (fun (u1:Im)=>W1 N u1)).bind fun y2=>if y2 then some (fun _=>0,14) else (BO N b).bind fun y3=>(BP N y3 a).bind fun y4=>some (y4,0)
theorem Li {a:Pat}{b:Sl Im}{y:(Nat->Int)×Int}(h:AU N a b=some y) :FunO S Ld [.p (.agg (E1 a)),.p (vSl 2 A0 b)] [] (.tup [.p (.agg (cA 33 (pI .u64) y.1)),pN y.2]) ([]) []:=by
 unfold AU at h;refine A2 Z func205 ?_;refine kC Z h (Iu Z Y) (fun y1 h=>?_);apply kI Z h<;>intro h
 .obtain rfl:=A9 h;exact J4 Z (And.intro rfl (G5 _ _):(0:Nat)=0/\(Ed 33 (fun i=>pI .u64 ((fun _=>0) i))).length=33) ⟨[(5,pN y1),(4,.reg 5000 0)],[(5000,.arr 33 (fun i=>pI .u64 ((fun _=>0) i)))]⟩ [] (ids:=[(5000,5000)]) ⟨rfl,rfl,rfl⟩ (hle:=kl1 1 (Mr 33 (fun i=>pI .u64 ((fun _=>0) i))))
 apply kI Z h<;>intro h
 .obtain rfl:=A9 h;exact J4 Z (And.intro rfl (G5 _ _):(0:Nat)=0/\(Ed 33 (fun i=>pI .u64 ((fun _=>0) i))).length=33) ⟨[(5,pN 11),(4,.reg 5000 0)],[(5000,.arr 33 (fun i=>pI .u64 ((fun _=>0) i)))]⟩ [] (ids:=[(5000,5000)]) ⟨rfl,rfl,rfl⟩ (hle:=kl1 1 (Mr 33 (fun i=>pI .u64 ((fun _=>0) i))))
 refine kC Z h (M8 Z Y (fun e=>Pt Z Y e)) (fun y2 h=>?_);apply kI Z h<;>intro h
 .obtain rfl:=A9 h;exact J4 Z (And.intro rfl (G5 _ _):(0:Nat)=0/\(Ed 33 (fun i=>pI .u64 ((fun _=>0) i))).length=33) ⟨[(5,pN 14),(4,.reg 5000 0)],[(5000,.arr 33 (fun i=>pI .u64 ((fun _=>0) i)))]⟩ [] (ids:=[(5000,5000)]) ⟨rfl,rfl,rfl⟩ (hle:=kl1 1 (Mr 33 (fun i=>pI .u64 ((fun _=>0) i))))
 refine kC Z h (Qv Z Y) (fun y3 h=>?_);obtain⟨y4,e4,h⟩:=A8 h;refine NA Z Fa (Al3 Z Y e4) ?_;obtain rfl:=A9 h;exact J4 Z (And.intro rfl (G5 _ _):(0:Nat)=0/\(Ed 33 (fun i=>pI .u64 (y4 i))).length=33) ⟨[(5,pN 0),(4,.reg 5000 0)],[(5000,.arr 33 (fun i=>pI .u64 (y4 i)))]⟩ [] (ids:=[(5000,5000)]) ⟨rfl,rfl,rfl⟩ (hle:=kl1 1 (Mr 33 (fun i=>pI .u64 (y4 i))))
def CR (N:Nat)(d:Pat)(c:Sl Im)(a:Int):Option ((Sl Int)×Int):= (AU N d c).bind fun y1=>lt (fun (z1:Int)=>if (z1 != 0) then some (Ii,z1) else BD N (fun b (x2:Sl Int) (x3:Int)=>if (decide (x3<(wrap .i64 ((c.n:Int)+1)))) then if ((((0:Int)<=x3/\x3<33)/\(0+x3.toNat*1)<33)/\(0:Int)<=a)then if ((O8 .and .u64 (shI .shr .u64 (y1.1 (0+x3.toNat*1)) a) 1)==1) then if ((x2.n+(Sl.of [x3]:Sl Int).n)*8<=140737488355328/\x2.n+(Sl.of [x3]:Sl Int).n<=140737488355328)then b (x2.push x3) (wrap .i64 (x3+1)) else none else b x2 (wrap .i64 (x3+1)) else none else some (x2,0)) Ii 0) fun k1=>if (y1.2==0) then (AR N c a).bind fun y3=>k1 y3 else k1 y1.2
theorem Tj {d:Pat}{c:Sl Im}{a:Int}{y:(Sl Int)×Int}(h:CR N d c a=some y) :FunO S Lc [.p (.agg (E1 d)),.p (vSl 2 A0 c),pN a] [] (.tup [.vec 0,pN y.2]) ([oV E4 1 (cI .i64) y.1 true]) []:=by
 unfold CR at h;refine A2 Z func201 ?_;refine kC Z h (Li Z Y) (fun y1 h=>?_);refine KH Z (And.intro rfl (G5 _ _):(0:Nat)=0/\(Ed 33 (fun i=>pI .u64 (y1.1 i))).length=33) (A4 Z) h 0 (fun z1=>⟨[(9,pN z1),(8,.reg 9000 0),(2,pN a),(1,.p (vSl 2 A0 c))],[(9000,.arr 33 (fun i=>pI .u64 (y1.1 i)))]⟩) (fun M1 k1 f h=>?_) (fun z1 h=>?_)
 .apply kI Z h<;>intro h
  .refine kC Z h (Lh Z Y) (fun y3 h=>?_);exact f _ [(9000,9000)] _ y3 Fa h (hle:=kl1 3 (Mr 33 (fun i=>pI .u64 (y1.1 i))))
  exact f _ [(9000,9000)] _ y1.2 Fa h (hle:=kl1 3 (Mr 33 (fun i=>pI .u64 (y1.1 i))))
 apply kI Z h<;>intro h
 .obtain rfl:=A9 h;exact kO Z Fa [7700]
 refine H8 Z Fa h (fun x2 x3=>⟨[(29,pN x3),(28,pN (wrap .i64 ((c.n:Int)+1))),(10,.vec 11500),(8,.reg 9000 0),(2,pN a)],[(11500,oV E4 1 (cI .i64) x2 false),(9000,.arr 33 (fun i=>pI .u64 (y1.1 i)))]⟩) (ids:=[(9000,9000)]) (fun _ _ _ _ _ j x2 x3 g h=>?_);apply kI Z h<;>intro h
 .obtain⟨c12,h⟩:=C9 h;refine C8 Z c12 (b:=(O8 .and .u64 (shI .shr .u64 (y1.1 (0+x3.toNat*1)) a) 1)==1) (fun c13=>?_) (fun c13=>?_)
  .replace h:=itT c13 h;obtain⟨c14,h⟩:=C9 h;exact g _ [(9000,9000),(11500,43000)] _ (x2.push x3) (wrap .i64 (x3+1)) (And.intro Ig c14) h (hle:=kl1 3 (W4 (cI .i64) x2 x3 [pI .i64 0]))
  replace h:=itF c13 h;exact g _ [(9000,9000),(11500,11500)] _ x2 (wrap .i64 (x3+1)) Fa h
 obtain rfl:=A9 h;exact kO Z Fa [11500]
def J3 (N:Nat)(a:List (Int)):Option (Sl Int):= U1 a (fun b (x1:Int) (z1:Sl Int)=>if ((z1.n+(Sl.of [x1]:Sl Int).n)*8<=140737488355328/\z1.n+(Sl.of [x1]:Sl Int).n<=140737488355328)then b (z1.push x1) else none) (fun (z1:Sl Int)=>some z1) Ii
theorem DU {b:List (Int)}{a:Int}{kp_seq:Nat}(fp_seq:∃fn,Bc9[kp_seq]? = some fn/\fn.body.isSome=true/\(fn.name == "runtime.NumGoroutine")=false)(c:ER S kp_seq [] [.reg 0 0] [(.cells [(.p (pI .u64 a))])] (b.map (fun (x:Int)=>[(pI .i64) x]))){y:(Sl Int)}(h:J3 N b=some y) :FunO S P4 [(.p C7),(.clo kp_seq [] [(.reg 0 0)])] [(.cells [(.p (pI .u64 a))])] (.vec 0) ([(oV E4 1 (cI .i64) y true)]) [false]:=by
 unfold J3 at h;refine A2 Z func157 ?_;refine Ny Z Fa fp_seq [0] [2] 901 (fun z1=>⟨[(2,(.reg 3000 0))],[(3500,(oV E4 1 (cI .i64) z1 false)),(3000,(.cells [(.vec 3500)]))]⟩) (idl:=[(3000,3000)]) h c (fun _=>by kernel_rfl) (fun _=>by kernel_rfl) (fun _=>by kernel_rfl) (fun _=>by kernel_rfl) (fun x1 _ d z1 f h=>?_) (fun z1 h=>?_)
 .refine JT Z Fa ?_;obtain⟨c1,h⟩:=C9 h;exact f _ [(901,901),(3000,3000),(3500,12000)] _ (z1.push x1) (And.intro Ig c1) h (hle:=kl1 0 (W4 (cI .i64) z1 x1 [(pI .i64 0)]))
 obtain rfl:=A9 h;exact kO Z Fa [3500]
def O6 (N:Nat)(a:List (Int)):Option (Sl Int):= (J3 N a).bind fun y1=>some y1
theorem Iv {b:List (Int)}{a:Int}{kp_seq:Nat}(fp_seq:∃fn,Bc9[kp_seq]? = some fn/\fn.body.isSome=true/\(fn.name == "runtime.NumGoroutine")=false)(c:ER S kp_seq [] [.reg 0 0] [(.cells [(.p (pI .u64 a))])] (b.map (fun (x:Int)=>[(pI .i64) x]))){y:(Sl Int)}(h:O6 N b=some y) :FunO S Bi [(.clo kp_seq [] [(.reg 0 0)])] [(.cells [(.p (pI .u64 a))])] (.vec 0) ([(oV E4 1 (cI .i64) y true)]) [false]:=by unfold O6 at h;refine A2 Z func125 ?_;obtain⟨y1,e1,h⟩:=A8 h;refine B3 Z [0] Fa (DU Z Y fp_seq c e1) ?_;obtain rfl:=A9 h;exact kO Z Fa [5000]
def Fh (N:Nat)(c:Pat)(b:Sl Im)(a:Int):Option ((Sl Int)×Int):= (AU N c b).bind fun y1=>lt (fun (z1:Int)=>if (z1 != 0) then some (Ii,z1) else if (((0:Int)<=a/\a<33)/\(0+a.toNat*1)<33)then (BM N (y1.1 (0+a.toNat*1))).bind fun y4=>(T1 N y4).bind fun L1=>(O6 N L1).bind fun y5=>some (y5,0) else none) fun k1=>if (y1.2==0) then (AR N b a).bind fun y3=>k1 y3 else k1 y1.2
theorem XB {b:Pat}{c:Sl Im}{a:Int}{y:(Sl Int)×Int}(h:Fh N b c a=some y) :FunO S Pf [.p (.agg (E1 b)),.p (vSl 2 A0 c),pN a] [] (.tup [.vec 0,pN y.2]) ([oV E4 1 (cI .i64) y.1 true]) []:=by
 unfold Fh at h;refine A2 Z func202 ?_;refine kC Z h (Li Z Y) (fun y1 h=>?_);refine KH Z (And.intro rfl (G5 _ _):(0:Nat)=0/\(Ed 33 (fun i=>pI .u64 (y1.1 i))).length=33) (A4 Z) h 0 (fun z1=>⟨[(9,pN z1),(8,.reg 9000 0),(2,pN a)],[(9000,.arr 33 (fun i=>pI .u64 (y1.1 i)))]⟩) (fun M1 k1 d h=>?_) (fun z1 h=>?_)
 .apply kI Z h<;>intro h
  .refine kC Z h (Lh Z Y) (fun y3 h=>?_);exact d _ [(9000,9000)] _ y3 Fa h (hle:=kl1 2 (Mr 33 (fun i=>pI .u64 (y1.1 i))))
  exact d _ [(9000,9000)] _ y1.2 Fa h (hle:=kl1 2 (Mr 33 (fun i=>pI .u64 (y1.1 i))))
 apply kI Z h<;>intro h
 .obtain rfl:=A9 h;exact kO Z Fa [7700]
 obtain⟨c5,h⟩:=C9 h;obtain⟨y4,e4,h⟩:=A8 h;refine B3 Z [] c5 (FT Z Y e4) ?_;obtain⟨L1,e5,h⟩:=A8 h;obtain⟨y5,e6,h⟩:=A8 h;refine B3 Z [28000] Fa (Iv Z Y ⟨_,func210,by decide +kernel,by decide +kernel⟩ (El Z Y e5) e6) ?_;obtain rfl:=A9 h;exact kO Z Fa [29000]
end Go.AM
namespace Go.AM
open Go.Proofs.Tryz
variable {N:Nat}
open IntKind (wrap)
open Go.Proofs
set_option maxRecDepth 10000
set_option maxHeartbeats 2000000
variable {S:U7}(Z:G4 S Tryz.prog) (Y:Kb S)
include Z Y
def Ds (N:Nat)(a:Str):Option Bool:= lt (fun (z1:Bool)=>some z1) fun k1=>if ((a==[]) != true) then if (decide ((a.length:Int)<=24)) then (DI N a [97,98,99,100,101,102,103,104,105,106,107,108,109,110,111,112,113,114,115,116,117,118,119,120,121,122,65,66,67,68,69,70,71,72,73,74,75,76,77,78,79,80,81,82,83,84,85,86,87,88,89,90,48,49,50,51,52,53,54,55,56,57,45]).bind fun y2=>k1 ((y2==[]) != false) else k1 false else k1 false
theorem XC {b:Str}{y:Bool}(h:Ds N b=some y) :FunO S OU [.p (.str b)] [] (pB y) ([]) []:=by
 unfold Ds at h;refine A2 Z func62 ?_;refine KH Z Fa (A4 Z) h 0 (fun z1=>⟨[(2,pB z1)],[]⟩) (fun M1 k1 a h=>?_) (fun z1 h=>?_)
 .refine kG Z h (fun h=>?_) (fun h=>?_)
  .refine kG Z h (fun h=>?_) (fun h=>?_)
   .refine kC Z h (Jz Z Y) (fun y2 h=>?_);exact a _ [] _ ((y2==[]) != false) Fa h
   exact a _ [] _ false Fa h
  exact a _ [] _ false Fa h
 cases h;exact kR Z
def AW (N:Nat)(p_x:Ei)(a:Int):Option Bool:= lt (fun (z1:Bool)=>if z1 then some false else if ((((O8 .andNot .u32 (O8 .or .u32 p_x.Clear p_x.Take) 16777215) != 0)||((O8 .and .u32 p_x.Clear (O8 .or .u32 p_x.Set.Plus p_x.Set.Minus)) != 0))||((O8 .and .u32 p_x.Take (O8 .or .u32 (O8 .or .u32 p_x.Set.Plus p_x.Set.Minus) p_x.Clear)) != 0)) then some false else if (p_x.Take==0) then some (p_x.Of==0) else some ((decide (0<=p_x.Of))&&(decide (p_x.Of<a)))) fun k1=>if (decide (p_x.From<(-1))) then k1 true else if (decide (a<=p_x.From)) then k1 true else (H4 N p_x.Set).bind fun y2=>k1 (!y2)
theorem Ab3 {p_x:Ei}{b:Int}{y:Bool}(h:AW N p_x b=some y) :FunO S Rs [.p (.agg (An p_x)),pN b] [] (pB y) ([]) []:=by
 unfold AW at h;refine A2 Z func59 ?_;refine KH Z Fa (A4 Z) h 0 (fun z1=>⟨[(13,pB z1),(5,pU (O8 .or .u32 p_x.Set.Plus p_x.Set.Minus)),(2,.reg 3000 0),(1,pN b)],[(3000,.cells ((An p_x).map .p))]⟩) (fun M1 k1 c h=>?_) (fun z1 h=>?_)
 .refine kG Z h (fun h=>?_) (fun h=>?_)
  .exact c _ [(3000,3000)] _ true Fa h
  refine kG Z h (fun h=>?_) (fun h=>?_)
  .exact c _ [(3000,3000)] _ true Fa h
  refine kC Z h (Q4 Z Y) (fun y2 h=>?_);exact c _ [(3000,3000)] _ (!y2) Fa h
 apply kI Z h<;>intro h
 .cases h;exact kR Z
 refine kB Z (A4 Z) Fa Fa 16 (.o (.o (.a ((O8 .andNot .u32 (O8 .or .u32 p_x.Clear p_x.Take) 16777215) != 0)) (.a ((O8 .and .u32 p_x.Clear (O8 .or .u32 p_x.Set.Plus p_x.Set.Minus)) != 0))) (.a ((O8 .and .u32 p_x.Take (O8 .or .u32 (O8 .or .u32 p_x.Set.Plus p_x.Set.Minus) p_x.Clear)) != 0))) ?_;apply kI Z h<;>intro h
 .cases h;exact kR Z
 apply kI Z h<;>intro h
 .cases h;exact kR Z
 refine kB Z (A4 Z) Fa Fa 5 (.n (.a (decide (0<=p_x.Of))) (.a (decide (p_x.Of<b)))) ?_;cases h;exact kR Z
def AX (N:Nat)(p_x:Ei)(q0:Int):Option Bool:= (AW N p_x q0).bind fun y1=>some (!y1)
theorem Tk {p_x:Ei}{q0:Int}{y:Bool}(h:AX N p_x q0=some y) :FunO S KV [.p (.agg (An p_x)),.reg 0 0] [.cells [pN q0]] (pB y) ([.cells [pN q0]]) [true]:=by unfold AX at h;refine A2 Z func58 ?_;refine kC Z h (Ab3 Z Y) (fun y1 h=>?_);obtain rfl:=A9 h;exact kO Z Fa [0]
def AY (N:Nat)(a:Im):Option Bool:= (H4 N a).bind fun y1=>some (!y1)
theorem Tl {a:Im}{y:Bool}(h:AY N a=some y) :FunO S KW [.p (.agg (A0 a))] [] (pB y) ([]) []:=by unfold AY at h;refine A2 Z func60 ?_;refine kC Z h (Q4 Z Y) (fun y1 h=>?_);cases h;exact kR Z
def F8 (N:Nat)(a:Sl Ei)(c:Ei->Option Bool):Option Int:= Y1 N (fun b (x1:Int)=>if (decide (x1<(a.n:Int))) then if ((0:Int)<=x1/\x1<(a.n:Int))then (c (a.g x1.toNat)).bind fun y3=>if y3 then some x1 else b (wrap .i64 (x1+1)) else none else some (-1)) 0
theorem Bq {c:Sl Ei}{d:Ei->Option Bool}{a:Int}{kp_f:Nat}(f:∀{a0:Ei}{b:Bool},d a0=some b->FunO S kp_f [.p (.agg (An a0)),.reg 0 0] [.cells [pN a]] (pB b) [.cells [pN a]] [true]){y:Int}(h:F8 N c d=some y) :FunO S P7 [.p (vSl 6 An c),.clo kp_f [] [.reg 0 0]] [.cells [pN a]] (pN y) ([.cells [pN a]]) [true]:=by
 unfold F8 at h;refine A2 Z func98 ?_;refine R9 Z Fa h (fun x1=>⟨[(8,pN x1),(7,pN (c.n:Int)),(1,.clo kp_f [] [.reg 0 0]),(0,.p (vSl 6 An c))],[(0,.cells [pN a])]⟩) (ids:=[(0,0)]) (fun _ _ _ _ _ g x1 i h=>?_);apply kI Z h<;>intro h
 .obtain⟨c8,h⟩:=C9 h;obtain⟨y3,e3,h⟩:=A8 h;refine B3 Z [0] (And.intro c8 (by decide:(6:Nat)<=6)) (f e3) ?_;apply kI Z h<;>intro h
  .obtain rfl:=A9 h;exact kO Z Fa [0]
  exact i _ [(0,0)] _ (wrap .i64 (x1+1)) Fa h
 obtain rfl:=A9 h;exact kO Z Fa [0]
def D3 (N:Nat)(a:Sl Ei)(b:Ei->Option Bool):Option Bool:= (F8 N a b).bind fun y1=>some (decide (0<=y1))
theorem Ai {c:Sl Ei}{d:Ei->Option Bool}{a:Int}{kp_f:Nat}(f:∀{a0:Ei}{b:Bool},d a0=some b->FunO S kp_f [.p (.agg (An a0)),.reg 0 0] [.cells [pN a]] (pB b) [.cells [pN a]] [true]){y:Bool}(h:D3 N c d=some y) :FunO S O0 [.p (vSl 6 An c),.clo kp_f [] [.reg 0 0]] [.cells [pN a]] (pB y) ([.cells [pN a]]) [true]:=by unfold D3 at h;refine A2 Z func65 ?_;obtain⟨y1,e1,h⟩:=A8 h;refine B3 Z [0] Fa (Bq Z Y (fun e=>f e) e1) ?_;obtain rfl:=A9 h;exact kO Z Fa [0]
def Ax (N:Nat)(a:Law):Option Int:= (Ds N a.Name).bind fun y1=>if (!y1) then some 17 else (Aw N a.Left).bind fun y2=>if (y2 != 0) then some 17 else (Aw N a.Right).bind fun y3=>if (y3 != 0) then some 17 else if (decide (4<(a.If.n:Int))) then some 17 else if (decide (6<(a.Out.n:Int))) then some 17 else if ((wrap .i64 ((a.If.n:Int)+(a.Out.n:Int)))==0) then some 17 else if ((decide (a.Mode<1))||(decide (3<a.Mode))) then some 17 else (B6 N a.If (fun (u1:Im)=>AY N u1)).bind fun y4=>if y4 then some 17 else (D3 N a.Out (fun (u2:Ei)=>AX N u2 (a.If.n:Int))).bind fun y5=>if y5 then some 17 else some 0
theorem GX {c:Law}{y:Int}(h:Ax N c=some y) :FunO S OK [.p (.agg (B4 c))] [] (pN y) ([]) []:=by
 unfold Ax at h;refine A2 Z func26 ?_;refine kC Z h (XC Z Y) (fun y1 h=>?_);refine C8 Z Fa (b:=!y1) (fun c1=>?_) (fun c1=>?_)
 .replace h:=itT c1 h;refine C8 Z Fa (b:=!y1) (fun c2=>?_) (fun c2=>?_)
  .cases h;exact kR Z
  exact Bool.noConfusion (c1.symm.trans c2)
 replace h:=itF c1 h;refine kC Z h (Iu Z Y) (fun y2 h=>?_);refine C8 Z Fa (b:=y2 != 0) (fun c3=>?_) (fun c3=>?_)
 .replace h:=itT c3 h;refine C8 Z Fa (b:=y2 != 0) (fun c4=>?_) (fun c4=>?_)
  .cases h;exact kR Z
  exact Bool.noConfusion (c3.symm.trans c4)
 replace h:=itF c3 h;refine kC Z h (Iu Z Y) (fun y3 h=>?_);refine C8 Z Fa (b:=y3 != 0) (fun c5=>?_) (fun c5=>?_)
 .replace h:=itT c5 h;refine C8 Z Fa (b:=y3 != 0) (fun c6=>?_) (fun c6=>?_)
  .cases h;exact kR Z
  exact Bool.noConfusion (c5.symm.trans c6)
 replace h:=itF c5 h;refine C8 Z Fa (b:=decide (4<(c.If.n:Int))) (fun c7=>?_) (fun c7=>?_)
 .replace h:=itT c7 h;refine C8 Z Fa (b:=decide (4<(c.If.n:Int))) (fun c8=>?_) (fun c8=>?_)
  .cases h;exact kR Z
  exact Bool.noConfusion (c7.symm.trans c8)
 replace h:=itF c7 h;refine C8 Z Fa (b:=decide (6<(c.Out.n:Int))) (fun c9=>?_) (fun c9=>?_)
 .replace h:=itT c9 h;refine C8 Z Fa (b:=decide (6<(c.Out.n:Int))) (fun c10=>?_) (fun c10=>?_)
  .cases h;exact kR Z
  exact Bool.noConfusion (c9.symm.trans c10)
 replace h:=itF c9 h;refine C8 Z Fa (b:=(wrap .i64 ((c.If.n:Int)+(c.Out.n:Int)))==0) (fun c11=>?_) (fun c11=>?_)
 .replace h:=itT c11 h;refine C8 Z Fa (b:=(wrap .i64 ((c.If.n:Int)+(c.Out.n:Int)))==0) (fun c12=>?_) (fun c12=>?_)
  .cases h;exact kR Z
  exact Bool.noConfusion (c11.symm.trans c12)
 replace h:=itF c11 h;refine kB Z (A4 Z) Fa Fa 4 (.o (.a (decide (c.Mode<1))) (.a (decide (3<c.Mode)))) ?_;refine C8 Z Fa (b:=(decide (c.Mode<1))||(decide (3<c.Mode))) (fun c13=>?_) (fun c13=>?_)
 .replace h:=itT c13 h;refine C8 Z Fa (b:=(decide (c.Mode<1))||(decide (3<c.Mode))) (fun c14=>?_) (fun c14=>?_)
  .cases h;exact kR Z
  exact Bool.noConfusion (c13.symm.trans c14)
 replace h:=itF c13 h;refine kC Z h (M8 Z Y (fun e=>Tl Z Y e)) (fun y4 h=>?_);refine C8 Z Fa (b:=y4) (fun c15=>?_) (fun c15=>?_)
 .replace h:=itT c15 h;refine C8 Z Fa (b:=y4) (fun c16=>?_) (fun c16=>?_)
  .cases h;exact kR Z
  exact Bool.noConfusion (c15.symm.trans c16)
 replace h:=itF c15 h;obtain⟨y5,e5,h⟩:=A8 h;refine B3 Z [4000] Fa (Ai Z Y (fun e=>Tk Z Y e) e5) ?_;apply kI Z h<;>intro h
 .cases h;exact kR Z
 cases h;exact kR Z
def Fi (N:Nat)(a:Law)(b:Sl Im):Option Int:= (Ax N a).bind fun y1=>if (y1 != 0) then some y1 else (W6 N b).bind fun y2=>some y2
theorem XD {a:Law}{b:Sl Im}{y:Int}(h:Fi N a b=some y) :FunO S Pe [.p (.agg (B4 a)),.p (vSl 2 A0 b)] [] (pN y) ([]) []:=by
 unfold Fi at h;refine A2 Z func185 ?_;refine kC Z h (GX Z Y) (fun y1 h=>?_);apply kI Z h<;>intro h
 .cases h;exact kR Z
 refine kC Z h (DS Z Y) (fun y2 h=>?_);cases h;exact kR Z
def Z6 (N:Nat)(a:Int)(q0:Law)(q1:Sl Im):Option Bool:= (CR N q0.Left q1 a).bind fun y1=>if ((y1.1.n:Int)==0) then some false else (Fh N q0.Right q1 (wrap .i64 (a+(q0.If.n:Int)))).bind fun y2=>some (decide (0<(y2.1.n:Int)))
theorem Qw {a:Int}{q0:Law}{q1:Sl Im}{y:Bool}(h:Z6 N a q0 q1=some y) :FunO S BJ [pN a,.reg 0 0,.reg 1 0] [.cells ((B4 q0).map .p),.cells [.p (vSl 2 A0 q1)]] (pB y) ([.cells ((B4 q0).map .p),.cells [.p (vSl 2 A0 q1)]]) [true,true]:=by
 unfold Z6 at h;refine A2 Z func200 ?_;refine kC Z h (Tj Z Y) (fun y1 h=>?_);apply kI Z h<;>intro h
 .obtain rfl:=A9 h;exact kO Z Fa [0,1]
 refine kC Z h (XB Z Y) (fun y2 h=>?_);obtain rfl:=A9 h;exact kO Z Fa [0,1]
def Iw (N:Nat)(a:Law)(b:Sl Im):Option (Law×(Sl Im)):= some (a,b)
theorem Vz {a:Law}{b:Sl Im}{y:Law×(Sl Im)}(h:Iw N a b=some y) :FunO S ML [.p (.agg (B4 a)),.p (vSl 2 A0 b)] [] (.clo BJ [] [.reg 0 0,.reg 1 0]) ([.cells ((B4 y.1).map .p),.cells [.p (vSl 2 A0 y.2)]]) []:=by unfold Iw at h;refine A2 Z func195 ?_;obtain rfl:=A9 h;exact kO Z Fa [3000,4000]
def DV (N:Nat)(a:Law)(b:Sl Im):Option (Sl Im):= BD N (fun c (x1:Sl Im) (x2:Int)=>if (decide (x2<(a.Out.n:Int))) then if ((0:Int)<=x2/\x2<(a.Out.n:Int))then if ((decide (0<=(a.Out.g x2.toNat).From))=true->((0:Int)<=(a.Out.g x2.toNat).From/\(a.Out.g x2.toNat).From<(b.n:Int)))then (Z5 N (⟨(if (decide (0<=(a.Out.g x2.toNat).From)) then (b.g (a.Out.g x2.toNat).From.toNat).Plus else 0),(if (decide (0<=(a.Out.g x2.toNat).From)) then (b.g (a.Out.g x2.toNat).From.toNat).Minus else 0)⟩:Im) (a.Out.g x2.toNat).Clear (a.Out.g x2.toNat).Set).bind fun y5=>if ((a.Out.g x2.toNat).Take != 0) then if ((0:Int)<=(a.Out.g x2.toNat).Of/\(a.Out.g x2.toNat).Of<(b.n:Int))then (Ct N y5.1 (b.g (a.Out.g x2.toNat).Of.toNat) (a.Out.g x2.toNat).Take).bind fun y6=>if ((x1.n+(Sl.of [y6.1]:Sl Im).n)*8<=140737488355328/\x1.n+(Sl.of [y6.1]:Sl Im).n<=140737488355328)then c (x1.push y6.1) (wrap .i64 (x2+1)) else none else none else if ((x1.n+(Sl.of [y5.1]:Sl Im).n)*8<=140737488355328/\x1.n+(Sl.of [y5.1]:Sl Im).n<=140737488355328)then c (x1.push y5.1) (wrap .i64 (x2+1)) else none else none else none else some x1) (Sl.nil:Sl Im) 0
theorem VA {c:Law}{a:Sl Im}{y:Sl Im}(h:DV N c a=some y) :FunO S Vr [.p (.agg (B4 c)),.p (vSl 2 A0 a)] [] (.p (vSl 2 A0 y)) ([]) []:=by
 unfold DV at h;refine A2 Z func191 ?_;refine F7 Z Fa 4 3000 (B4 c) ?_;refine H8 Z Fa h (fun x1 x2=>⟨[(12,pN x2),(11,pN (c.Out.n:Int)),(10,.p (vSl 6 An c.Out)),(5,.vec 6500),(1,.p (vSl 2 A0 a))],[(6500,oV B5 2 A0 x1 false)]⟩) (ids:=[]) (fun _ _ _ _ _ l x1 x2 i h=>?_);apply kI Z h<;>intro h
 .obtain⟨c16,h⟩:=C9 h;refine F7 Z (And.intro c16 (by decide:(6:Nat)<=6)) 8 8000 (An (c.Out.g x2.toNat)) ?_;obtain⟨c18,h⟩:=C9 h;obtain⟨t5,d⟩:∃x:Int,x=(if (decide (0<=(c.Out.g x2.toNat).From)) then (a.g (c.Out.g x2.toNat).From.toNat).Plus else 0):=⟨_,rfl⟩;obtain⟨t6,f⟩:∃x:Int,x=(if (decide (0<=(c.Out.g x2.toNat).From)) then (a.g (c.Out.g x2.toNat).From.toNat).Minus else 0):=⟨_,rfl⟩;refine WX Z Fa (A4 Z) 0 ⟨[(12,pN x2),(11,pN (c.Out.n:Int)),(10,.p (vSl 6 An c.Out)),(8,.reg 9000 0),(7,.p (.ptr (An (c.Out.g x2.toNat)))),(5,.vec 6500),(1,.p (vSl 2 A0 a))],[(9000,.cells [pU t5,pU t6]),(6500,oV B5 2 A0 x1 false)]⟩ (fun M3 j=>?_) ?_
  .refine C8 Z Fa (b:=decide (0<=(c.Out.g x2.toNat).From)) (fun c19=>?_) (fun c19=>?_)
   .exact j _ [(6500,6500),(9000,9000)] _ (And.intro (c18 c19) Ga) (hle:=klR [(5,.eq (pI .u32 (a.g (c.Out.g x2.toNat).From.toNat).Plus) (pI .u32 t5)),(6,.eq (pI .u32 (a.g (c.Out.g x2.toNat).From.toNat).Minus) (pI .u32 t6))] (al1 (by simp only[d,f,c19,Leaf.ok,pm,Es,Eu]) (al1 (by simp only[d,f,c19,Leaf.ok,pm,Es,Eu]) al0)))
   exact j _ [(6500,6500),(9000,9000)] _ Fa (hle:=klR [(5,.eq (pI .u32 0) (pI .u32 t5)),(6,.eq (pI .u32 0) (pI .u32 t6))] (al1 (by simp only[d,f,c19,Leaf.ok,pm,Es,Eu]) (al1 (by simp only[d,f,c19,Leaf.ok,pm,Es,Eu]) al0)))
  subst f;subst d;obtain⟨y5,e5,h⟩:=A8 h;refine B3 Z [] (by decide:(2:Nat)<=4) (Qr Z Y e5) ?_;apply kI Z h<;>intro h
  .refine E3 Z Fa [3,4,5,7,8] ?_;obtain⟨c21,h⟩:=C9 h;obtain⟨y6,e6,h⟩:=A8 h;refine G1 (And.intro c21 Ga) (Vw Z Y e6) ?_;refine D1 Fa ?_;obtain⟨c22,h⟩:=C9 h;exact i _ [(6500,52000)] _ (x1.push y6.1) (wrap .i64 (x2+1)) (And.intro Ig c22) h (hle:=kl1 4 (W4 A0 x1 y6.1 [pI .u32 0,pI .u32 0]))
  obtain⟨c23,h⟩:=C9 h;exact i _ [(6500,52000)] _ (x1.push y5.1) (wrap .i64 (x2+1)) (And.intro Ig c23) h (hle:=kl1 4 (W4 A0 x1 y5.1 [pI .u32 0,pI .u32 0]))
 obtain rfl:=A9 h;exact kO Z Fa []
def B0 (N:Nat)(a:Sl (Sl Im)):Option (Sl Im):= BD N (fun b (x1:Int) (x2:Int)=>if (decide (x2<(a.n:Int))) then if ((0:Int)<=x2/\x2<(a.n:Int))then if (decide ((wrap .i64 (x1+((a.g x2.toNat).n:Int)))<0)) then none else b (wrap .i64 (x1+((a.g x2.toNat).n:Int))) (wrap .i64 (x2+1)) else none else (J7 N x1).bind fun y1=>BD N (fun c (x3:Sl Im) (x4:Int)=>if (decide (x4<(a.n:Int))) then if (((0:Int)<=x4/\x4<(a.n:Int))/\((x3.n+(a.g x4.toNat).n)*8<=140737488355328/\x3.n+(a.g x4.toNat).n<=140737488355328))then c (x3.app (a.g x4.toNat)) (wrap .i64 (x4+1)) else none else some x3) y1 0) 0 0
theorem P1 {a:Sl (Sl Im)}{y:Sl Im}(h:B0 N a=some y) :FunO S O9 [.p (vSl 1 (cL 2 A0) a)] [] (.vec 0) ([oV B5 2 A0 y true]) []:=by
 unfold B0 at h;refine A2 Z func190 ?_;refine H8 Z Fa h (fun x1 x2=>⟨[(11,pN x2),(10,pN (a.n:Int)),(9,.p (vSl 1 (cL 2 A0) a)),(3,pN x1),(0,.p (vSl 1 (cL 2 A0) a))],[]⟩) (ids:=[]) (fun _ _ _ _ _ c x1 x2 d h=>?_);apply kI Z h<;>intro h
 .obtain⟨c8,h⟩:=C9 h;refine C8 Z c8 (b:=decide ((wrap .i64 (x1+((a.g x2.toNat).n:Int)))<0)) (fun c9=>?_) (fun c9=>?_)
  .replace h:=itT c9 h;cases h
  replace h:=itF c9 h;exact d _ [] _ (wrap .i64 (x1+((a.g x2.toNat).n:Int))) (wrap .i64 (x2+1)) Fa h
 refine kC Z h (BK Z Y) (fun y1 h=>?_);refine H8 Z Fa h (fun x3 x4=>⟨[(27,pN x4),(26,pN (a.n:Int)),(25,.p (vSl 1 (cL 2 A0) a)),(6,.vec 7500)],[(7500,oV B5 2 A0 x3 false)]⟩) (ids:=[(7500,25000)]) (fun _ _ _ _ _ f x3 x4 i h=>?_);apply kI Z h<;>intro h
 .obtain⟨c13,h⟩:=C9 h;exact i _ [(7500,34000)] _ (x3.app (a.g x4.toNat)) (wrap .i64 (x4+1)) c13 h (hle:=kl1 3 (appS A0 x3 (a.g x4.toNat)))
 obtain rfl:=A9 h;exact kO Z Fa [7500]
def T7 (N:Nat)(b:Law)(c:Sl Im)(a:Int):Option (Sl Im):= if (((0:Int)<=a/\a<=(c.n:Int))/\((0:Int)<=a/\a<=(wrap .i64 (a+(b.If.n:Int)))/\(wrap .i64 (a+(b.If.n:Int)))<=(c.n:Int)))then (DV N b (c.sub a.toNat (wrap .i64 (a+(b.If.n:Int))).toNat)).bind fun y1=>if ((0:Int)<=(wrap .i64 (a+(b.If.n:Int)))/\(wrap .i64 (a+(b.If.n:Int)))<=(c.n:Int))then (B0 N (Sl.of [c.take a.toNat,y1,c.drop (wrap .i64 (a+(b.If.n:Int))).toNat]:Sl (Sl Im))).bind fun y2=>some y2 else none else none
theorem Lj {c:Law}{b:Sl Im}{a:Int}{y:Sl Im}(h:T7 N c b a=some y) :FunO S Lb [.p (.agg (B4 c)),.p (vSl 2 A0 b),pN a] [] (.vec 0) ([oV B5 2 A0 y true]) []:=by unfold T7 at h;refine A2 Z func193 ?_;refine F7 Z Fa 6 4000 (B4 c) ?_;refine E3 Z Fa [3,8] ?_;obtain⟨c1,h⟩:=C9 h;obtain⟨y1,e1,h⟩:=A8 h;refine G1 (And.intro (And.intro c1.1 Ic) c1.2) (VA Z Y e1) ?_;obtain⟨c2,h⟩:=C9 h;refine K6 c2 (x:=.sl true 1 3 (G7 [C7] [(0,cL 2 A0 (b.take a.toNat)),(1,cL 2 A0 y1),(2,cL 2 A0 (b.drop (wrap .i64 (a+(c.If.n:Int))).toNat))])) ?_;obtain⟨y2,e2,h⟩:=A8 h;refine Ow [] Fa (FunO.le Z (args:=[.p (.sl true 1 3 (G7 [C7] [(0,cL 2 A0 (b.take a.toNat)),(1,cL 2 A0 y1),(2,cL 2 A0 (b.drop (wrap .i64 (a+(c.If.n:Int))).toNat))]))]) (by exact⟨Kq rfl (fun i d=>match i,d with|0,_=>rfl|1,_=>rfl|2,_=>rfl|_+3,d=>Er d (by omega)),trivial⟩) (P1 Z Y e2)) ?_;refine D1 Fa ?_;obtain rfl:=A9 h;exact kO Z Fa [27000]
def Ay (N:Nat)(q0:Law)(q1:Sl Im)(q2:Int):Option (List (Int)):= (Iw N q0 q1).bind fun y1=>Y1 N (fun a (x2:Int)=>if (decide ((wrap .i64 (x2+(q0.If.n:Int)))<=(q1.n:Int))) then Y1 N (fun b (x4:Int)=>if (decide (x4<(q0.If.n:Int))) then if ((0:Int)<=x4/\x4<(q0.If.n:Int))then if ((0:Int)<=(wrap .i64 (x2+x4))/\(wrap .i64 (x2+x4))<(q1.n:Int))then (R6 N (q1.g (wrap .i64 (x2+x4)).toNat) (q0.If.g x4.toNat)).bind fun c=>if (!c) then a (wrap .i64 (x2+1)) else b (wrap .i64 (x4+1)) else none else none else (Z6 N x2 y1.1 y1.2).bind fun d=>if d then Af x2 (a (wrap .i64 (x2+1))) else a (wrap .i64 (x2+1))) 0 else some []) q2
theorem MO {q0:Law}{q1:Sl Im}{q2:Int}{L:List (Int)}(h:Ay N q0 q1 q2=some L) :ER S Io [] [.reg 0 0,.reg 1 0,.reg 2 0] [.cells ((B4 q0).map .p),.cells [.p (vSl 2 A0 q1)],.cells [pN q2]] (L.map (fun (x:Int)=>[pI .i64 x])):=by
 unfold Ay at h;refine EA Z func194 ?_;refine kC Z h (Vz Z Y) (fun y1 h=>?_);refine Dl Z Fa h (fun x2 L1=>⟨[(6,pN x2),(5,.clo BJ [] [.reg 12000 0,.reg 12001 0]),(2,.reg 1 0),(1,.reg 0 0),(0,.yf 3)],[(12001,.cells [.p (vSl 2 A0 y1.2)]),(12000,.cells ((B4 y1.1).map .p)),(3,.yld (L1.map (fun (x:Int)=>[pI .i64 x])) true),(2,.cells [pN q2]),(1,.cells [.p (vSl 2 A0 q1)]),(0,.cells ((B4 q0).map .p))]⟩) (ids:=[(0,0),(1,1),(2,2),(3,3),(12000,12000),(12001,12001)]) (fun _ _ _ _ _ f x2 L1 c h=>?_);apply kI Z h<;>intro h
 .refine Dl Z Fa h (fun x4 L8=>⟨[(26,pN x4),(25,pN (q0.If.n:Int)),(24,.p (vSl 2 A0 q0.If)),(6,pN x2),(5,.clo BJ [] [.reg 12000 0,.reg 12001 0]),(2,.reg 1 0),(1,.reg 0 0),(0,.yf 3)],[(12001,.cells [.p (vSl 2 A0 y1.2)]),(12000,.cells ((B4 y1.1).map .p)),(3,.yld (L8.map (fun (x:Int)=>[pI .i64 x])) true),(2,.cells [pN q2]),(1,.cells [.p (vSl 2 A0 q1)]),(0,.cells ((B4 q0).map .p))]⟩) (ids:=[(0,0),(1,1),(2,2),(3,3),(12000,12000),(12001,12001)]) (fun _ _ _ _ _ i x4 L8 j h=>?_);apply kI Z h<;>intro h
  .obtain⟨c47,h⟩:=C9 h;refine UP Z (And.intro c47 Ga) 9000 [pI .u32 (q0.If.g x4.toNat).Plus,pI .u32 (q0.If.g x4.toNat).Minus] ?_;refine E3 Z Fa [4,5,6,7] ?_;obtain⟨c48,h⟩:=C9 h;obtain⟨l,e12,h⟩:=A8 h;refine G1 (And.intro (And.intro c48 Ga) Ga) (LU Z Y e12) ?_;refine D1 Fa ?_;apply kI Z h<;>intro h
   .exact c _ [(0,0),(1,1),(2,2),(3,3),(12000,12000),(12001,12001)] _ (wrap .i64 (x2+1)) L8 Fa h
   exact j _ [(0,0),(1,1),(2,2),(3,3),(12000,12000),(12001,12001)] _ (wrap .i64 (x4+1)) L8 Fa h
  obtain⟨m,e13,h⟩:=A8 h;refine B3 Z [12000,12001] Fa (Qw Z Y e13) ?_;refine kG Z h (fun h=>?_) (fun h=>?_)
  .obtain⟨L10,rfl,d⟩:=LO h;replace h:=d;refine Dk Z Fa (ys:=(fun (x:Int)=>[pI .i64 x]) x2) (rest:=L10.map (fun (x:Int)=>[pI .i64 x])) ?_ ?_
   .refine C8 Z Fa (b:=false) (fun c53=>?_) (fun c53=>?_)
    .exact Bool.noConfusion ((rfl:false=false).symm.trans c53)
    exact c _ [(0,0),(1,1),(2,2),(3,3),(12000,12000),(12001,12001)] _ (wrap .i64 (x2+1)) L10 Fa h
   refine C8 Z Fa (b:=true) (fun c54=>?_) (fun c54=>?_)
   .exact kO Z Fa (a:=.tup []) (objs:=[(.cells ((B4 q0).map .p)),.cells [.p (vSl 2 A0 q1)],.cells [pN q2],.yld [] false]) [0,1,2,3] ⟨false,rfl,rfl,_,rfl⟩
   exact Bool.noConfusion (Ig.symm.trans c54)
  exact c _ [(0,0),(1,1),(2,2),(3,3),(12000,12000),(12001,12001)] _ (wrap .i64 (x2+1)) L8 Fa h
 obtain rfl:=A9 h;exact kO Z Fa (a:=.tup []) (objs:=[(.cells ((B4 q0).map .p)),.cells [.p (vSl 2 A0 q1)],.cells [pN q2],.yld [] true]) [0,1,2,3] ⟨true,rfl,rfl,_,rfl⟩
def IO (N:Nat)(b:Law)(c:Sl Im)(a:Int):Option (Law×(Sl Im)×Int):= some (b,c,a)
theorem Rx {b:Law}{c:Sl Im}{a:Int}{y:Law×(Sl Im)×Int}(h:IO N b c a=some y) :FunO S Rw [.p (.agg (B4 b)),.p (vSl 2 A0 c),pN a] [] (.clo Io [] [.reg 0 0,.reg 1 0,.reg 2 0]) ([.cells ((B4 y.1).map .p),.cells [.p (vSl 2 A0 y.2.1)],.cells [pN y.2.2]]) []:=by unfold IO at h;refine A2 Z func189 ?_;obtain rfl:=A9 h;exact kO Z Fa [4000,5000,6000]
def DW (N:Nat)(b:Law)(c:Sl Im)(a:Int):Option Bool:= (IO N b c a).bind fun y1=>(Ay N y1.1 y1.2.1 y1.2.2).bind fun L1=>U1 L1 (fun d (x1:Int) (_:Unit)=>some (x1==a)) (fun (_:Unit)=>some false) ()
theorem VB {b:Law}{c:Sl Im}{a:Int}{y:Bool}(h:DW N b c a=some y) :FunO S Vs [.p (.agg (B4 b)),.p (vSl 2 A0 c),pN a] [] (pB y) ([]) []:=by
 unfold DW at h;refine A2 Z func192 ?_;refine kC Z h (Rx Z Y) (fun y1 h=>?_);obtain⟨L1,e2,h⟩:=A8 h;refine GO Z Fa [12000,12001,12002] [6,5] 901 (fun _=>⟨[(6,.reg 7000 0),(5,.reg 6000 0)],[(7000,.cells [.p (.v (.bool false))]),(6000,.cells [pN a])]⟩) (idl:=[(6000,6000),(7000,7000)]) h (MO Z Y e2) (fun _=>by kernel_rfl) (fun _=>by kernel_rfl) (fun _=>by kernel_rfl) (fun _=>by kernel_rfl) (fun x1 _ d _ f h=>?_) (fun _ h=>?_)
 .refine JT Z Fa ?_;refine Nz Z Fa ⟨[(6,.reg 7000 0),(5,.reg 6000 0)],[(7000,.cells [pB (x1==a)]),(6000,.cells [pN a])]⟩ (ids:=[(901,901),(6000,6000),(7000,7000)]) ?_;cases h;exact kR Z
 cases h;exact kR Z
def Dt (N:Nat)(q0:Sl Im)(q1:Law)(q2:Int)(q3:Int):Option (List (Int×(Sl Im))):= if (q1.Mode==1) then (IO N q1 q0 0).bind fun y1=>(Ay N y1.1 y1.2.1 y1.2.2).bind fun L1=>U1 L1 (fun b (x1:Int) (z1:(Sl Im)×Int×Int)=>if (decide (x1<z1.2.1)) then b (z1.1,z1.2.1,z1.2.2) else if (((0:Int)<=(wrap .i64 (x1+z1.2.2))/\(wrap .i64 (x1+z1.2.2))<=(z1.1.n:Int))/\((0:Int)<=x1/\x1<=(wrap .i64 (x1+q2))/\(wrap .i64 (x1+q2))<=(q0.n:Int)))then (DV N q1 (q0.sub x1.toNat (wrap .i64 (x1+q2)).toNat)).bind fun y6=>if ((0:Int)<=(wrap .i64 (x1+q2))/\(wrap .i64 (x1+q2))<=(q0.n:Int))then (B0 N (Sl.of [z1.1.take (wrap .i64 (x1+z1.2.2)).toNat,y6,q0.drop (wrap .i64 (x1+q2)).toNat]:Sl (Sl Im))).bind fun y7=>Af (x1,y7) (b (y7,wrap .i64 (x1+(if q2<1 then 1 else q2)),wrap .i64 ((wrap .i64 (z1.2.2+q3))-q2))) else none else none) (fun (z1:(Sl Im)×Int×Int)=>some []) (q0,0,0) else if (q1.Mode==2) then BD N (fun a (x5:Sl Im) (x6:Int)=>if (decide ((wrap .i64 (x6+q2))<=(x5.n:Int))) then (DW N q1 x5 x6).bind fun g=>if (!g) then a x5 (wrap .i64 (x6+1)) else (T7 N q1 x5 x6).bind fun d=>Af (x6,d) (if (q2==0) then a d (wrap .i64 ((wrap .i64 (x6+q3))+1)) else a d (wrap .i64 (x6+q3))) else some []) q0 0 else if (q1.Mode==3) then BD N (fun c (x7:Sl Im) (x8:Int)=>if (decide (0<=x8)) then (DW N q1 x7 x8).bind fun i=>if (!i) then c x7 (wrap .i64 (x8-1)) else (T7 N q1 x7 x8).bind fun f=>Af (x8,f) (c f (wrap .i64 (x8-(if q2<1 then 1 else q2)))) else some []) q0 (wrap .i64 ((q0.n:Int)-q2)) else some []
theorem XE {q0:Sl Im}{q1:Law}{q2:Int}{q3:Int}{L:List (Int×(Sl Im))}(h:Dt N q0 q1 q2 q3=some L) :ER S Ka [] [.reg 0 0,.reg 1 0,.reg 2 0,.reg 3 0] [.cells [.p (vSl 2 A0 q0)],.cells ((B4 q1).map .p),.cells [pN q2],.cells [pN q3]] (L.map (fun (x:Int×(Sl Im))=>[pI .i64 x.1,vSl 2 A0 x.2])):=by
 unfold Dt at h;refine EA Z func188 ?_;apply kI Z h<;>intro h
 .refine kC Z h (Rx Z Y) (fun y1 h=>?_);obtain⟨L1,e2,h⟩:=A8 h;refine Ax4 Z Fa [20000,20001,20002] [8,7,6,5,4,3,2,1] 900 (fun z1 L2=>⟨[(8,.reg 9000 0),(7,.reg 8000 0),(6,.reg 7000 0),(5,.reg 6000 0),(4,.reg 3 0),(3,.reg 2 0),(2,.reg 1 0),(1,.reg 0 0)],[(9000,.cells [pN z1.2.2]),(8000,.cells [pN z1.2.1]),(7000,.cells [.p (vSl 2 A0 z1.1)]),(6000,.cells [.yf 4]),(4,.yld (L2.map (fun (x:Int×(Sl Im))=>[pI .i64 x.1,vSl 2 A0 x.2])) true),(3,.cells [pN q3]),(2,.cells [pN q2]),(1,.cells ((B4 q1).map .p)),(0,.cells [.p (vSl 2 A0 q0)])]⟩) (idl:=[(0,0),(1,1),(2,2),(3,3),(4,4),(6000,6000),(7000,7000),(8000,8000),(9000,9000)]) h (MO Z Y e2) (fun _=>by kernel_rfl) (fun _ _=>by kernel_rfl) (fun _ _=>by kernel_rfl) (fun _ _=>by kernel_rfl) (fun x1 _ r z1 L2 g h=>?_) (fun z1 L2 h=>?_)
  .refine JT Z Fa ?_;apply kI Z h<;>intro h
   .exact g _ [(0,0),(1,1),(2,2),(3,3),(4,4),(900,900),(6000,6000),(7000,7000),(8000,8000),(9000,9000)] _ (z1.1,z1.2.1,z1.2.2) L2 Fa h
   refine F3 Z Fa [(0,.l [7000]),(2,.l [9000]),(5,.l [1]),(6,.l [0]),(9,.l [2]),(12,.n),(13,.l [0]),(15,.l [2]),(20,.a [7000])] ?_;obtain⟨c13,h⟩:=C9 h;obtain⟨y6,e7,h⟩:=A8 h;refine G1 c13 (VA Z Y e7) ?_;obtain⟨c14,h⟩:=C9 h;refine K6 c14 (x:=.sl true 1 3 (G7 [C7] [(0,cL 2 A0 (z1.1.take (wrap .i64 (x1+z1.2.2)).toNat)),(1,cL 2 A0 y6),(2,cL 2 A0 (q0.drop (wrap .i64 (x1+q2)).toNat))])) ?_;obtain⟨y7,e8,h⟩:=A8 h;refine Ow [] Fa (FunO.le Z (args:=[.p (.sl true 1 3 (G7 [C7] [(0,cL 2 A0 (z1.1.take (wrap .i64 (x1+z1.2.2)).toNat)),(1,cL 2 A0 y6),(2,cL 2 A0 (q0.drop (wrap .i64 (x1+q2)).toNat))]))]) (by exact⟨Kq rfl (fun i s=>match i,s with|0,_=>rfl|1,_=>rfl|2,_=>rfl|_+3,s=>Er s (by omega)),trivial⟩) (P1 Z Y e8)) ?_;refine D1 Fa ?_;obtain⟨L5,rfl,j⟩:=LO h;replace h:=j;refine Dk Z Fa (ys:=(fun (x:Int×(Sl Im))=>[pI .i64 x.1,vSl 2 A0 x.2]) (x1,y7)) (rest:=L5.map (fun (x:Int×(Sl Im))=>[pI .i64 x.1,vSl 2 A0 x.2])) ?_ ?_
   .refine C8 Z Fa (b:=false) (fun c15=>?_) (fun c15=>?_)
    .exact Bool.noConfusion ((rfl:false=false).symm.trans c15)
    refine F3 Z Fa [(1,.l [2]),(4,.l [9000]),(5,.l [3]),(7,.l [2]),(9,.a [8000]),(10,.a [9000])] ?_;refine D1 Fa ?_;exact g _ [(0,0),(1,1),(2,2),(3,3),(4,4),(900,900),(6000,6000),(7000,7000),(8000,8000),(9000,9000)] _ (y7,wrap .i64 (x1+(if q2<1 then 1 else q2)),wrap .i64 ((wrap .i64 (z1.2.2+q3))-q2)) L5 Fa h
   refine C8 Z Fa (b:=true) (fun c16=>?_) (fun c16=>?_)
   .refine Nz Z Fa ⟨[(8,.reg 9000 0),(7,.reg 8000 0),(6,.reg 7000 0),(5,.reg 6000 0),(4,.reg 3 0),(3,.reg 2 0),(2,.reg 1 0),(1,.reg 0 0)],[(44000,oV B5 2 A0 y7 true),(9000,.cells [pN z1.2.2]),(8000,.cells [pN z1.2.1]),(7000,.cells [.vec 44000]),(6000,.cells [.yf 4]),(4,.yld [] false),(3,.cells [pN q3]),(2,.cells [pN q2]),(1,.cells ((B4 q1).map .p)),(0,.cells [.p (vSl 2 A0 q0)])]⟩ (ids:=[(0,0),(1,1),(2,2),(3,3),(4,4),(900,900),(6000,6000),(7000,7000),(8000,8000),(9000,9000),(44000,44000)]) ?_;exact kO Z Fa (a:=.tup []) (objs:=[(.cells [.p (vSl 2 A0 q0)]),.cells ((B4 q1).map .p),.cells [pN q2],.cells [pN q3],.yld [] false]) [0,1,2,3,4] ⟨false,rfl,rfl,_,rfl⟩
   exact Bool.noConfusion (Ig.symm.trans c16)
  obtain rfl:=A9 h;exact kO Z Fa (a:=.tup []) (objs:=[(.cells [.p (vSl 2 A0 q0)]),.cells ((B4 q1).map .p),.cells [pN q2],.cells [pN q3],.yld [] true]) [0,1,2,3,4] ⟨true,rfl,rfl,_,rfl⟩
 apply kI Z h<;>intro h
 .refine Sy Z Fa h (fun x5 x6 L6=>⟨[(10,pN x6),(6,.reg 7000 0),(5,.reg 6000 0),(4,.reg 3 0),(3,.reg 2 0),(2,.reg 1 0)],[(7000,.cells [.p (vSl 2 A0 x5)]),(6000,.cells [.yf 4]),(4,.yld (L6.map (fun (x:Int×(Sl Im))=>[pI .i64 x.1,vSl 2 A0 x.2])) true),(3,.cells [pN q3]),(2,.cells [pN q2]),(1,.cells ((B4 q1).map .p)),(0,.cells [.p (vSl 2 A0 q0)])]⟩) (ids:=[(0,0),(1,1),(2,2),(3,3),(4,4),(6000,6000),(7000,7000)]) (fun _ _ _ _ _ t x5 x6 L6 c h=>?_);apply kI Z h<;>intro h
  .refine kC Z h (VB Z Y) (fun v h=>?_);apply kI Z h<;>intro h
   .exact c _ [(0,0),(1,1),(2,2),(3,3),(4,4),(6000,6000),(7000,7000)] _ x5 (wrap .i64 (x6+1)) L6 Fa h
   refine kC Z h (Lj Z Y) (fun d h=>?_);obtain⟨L9,rfl,m⟩:=LO h;replace h:=m;refine Dk Z Fa (ys:=(fun (x:Int×(Sl Im))=>[pI .i64 x.1,vSl 2 A0 x.2]) (x6,d)) (rest:=L9.map (fun (x:Int×(Sl Im))=>[pI .i64 x.1,vSl 2 A0 x.2])) ?_ ?_
   .refine C8 Z Fa (b:=false) (fun c30=>?_) (fun c30=>?_)
    .exact Bool.noConfusion ((rfl:false=false).symm.trans c30)
    apply kI Z h<;>intro h
    .exact c _ [(0,0),(1,1),(2,2),(3,3),(4,4),(6000,6000),(7000,7000)] _ d (wrap .i64 ((wrap .i64 (x6+q3))+1)) L9 Fa h
    exact c _ [(0,0),(1,1),(2,2),(3,3),(4,4),(6000,6000),(7000,7000)] _ d (wrap .i64 (x6+q3)) L9 Fa h
   refine C8 Z Fa (b:=true) (fun c32=>?_) (fun c32=>?_)
   .exact kO Z Fa (a:=.tup []) (objs:=[(.cells [.p (vSl 2 A0 q0)]),.cells ((B4 q1).map .p),.cells [pN q2],.cells [pN q3],.yld [] false]) [0,1,2,3,4] ⟨false,rfl,rfl,_,rfl⟩
   exact Bool.noConfusion (Ig.symm.trans c32)
  obtain rfl:=A9 h;exact kO Z Fa (a:=.tup []) (objs:=[(.cells [.p (vSl 2 A0 q0)]),.cells ((B4 q1).map .p),.cells [pN q2],.cells [pN q3],.yld [] true]) [0,1,2,3,4] ⟨true,rfl,rfl,_,rfl⟩
 apply kI Z h<;>intro h
 .refine Sy Z Fa h (fun x7 x8 L10=>⟨[(11,pN x8),(6,.reg 7000 0),(5,.reg 6000 0),(3,.reg 2 0),(2,.reg 1 0)],[(7000,.cells [.p (vSl 2 A0 x7)]),(6000,.cells [.yf 4]),(4,.yld (L10.map (fun (x:Int×(Sl Im))=>[pI .i64 x.1,vSl 2 A0 x.2])) true),(3,.cells [pN q3]),(2,.cells [pN q2]),(1,.cells ((B4 q1).map .p)),(0,.cells [.p (vSl 2 A0 q0)])]⟩) (ids:=[(0,0),(1,1),(2,2),(3,3),(4,4),(6000,6000),(7000,7000)]) (fun _ _ _ _ _ u x7 x8 L10 o h=>?_);apply kI Z h<;>intro h
  .refine kC Z h (VB Z Y) (fun w h=>?_);apply kI Z h<;>intro h
   .exact o _ [(0,0),(1,1),(2,2),(3,3),(4,4),(6000,6000),(7000,7000)] _ x7 (wrap .i64 (x8-1)) L10 Fa h
   refine kC Z h (Lj Z Y) (fun q h=>?_);obtain⟨L13,rfl,f⟩:=LO h;replace h:=f;refine Dk Z Fa (ys:=(fun (x:Int×(Sl Im))=>[pI .i64 x.1,vSl 2 A0 x.2]) (x8,q)) (rest:=L13.map (fun (x:Int×(Sl Im))=>[pI .i64 x.1,vSl 2 A0 x.2])) ?_ ?_
   .refine C8 Z Fa (b:=false) (fun c44=>?_) (fun c44=>?_)
    .exact Bool.noConfusion ((rfl:false=false).symm.trans c44)
    exact o _ [(0,0),(1,1),(2,2),(3,3),(4,4),(6000,6000),(7000,7000)] _ q (wrap .i64 (x8-(if q2<1 then 1 else q2))) L13 Fa h
   refine C8 Z Fa (b:=true) (fun c45=>?_) (fun c45=>?_)
   .exact kO Z Fa (a:=.tup []) (objs:=[(.cells [.p (vSl 2 A0 q0)]),.cells ((B4 q1).map .p),.cells [pN q2],.cells [pN q3],.yld [] false]) [0,1,2,3,4] ⟨false,rfl,rfl,_,rfl⟩
   exact Bool.noConfusion (Ig.symm.trans c45)
  obtain rfl:=A9 h;exact kO Z Fa (a:=.tup []) (objs:=[(.cells [.p (vSl 2 A0 q0)]),.cells ((B4 q1).map .p),.cells [pN q2],.cells [pN q3],.yld [] true]) [0,1,2,3,4] ⟨true,rfl,rfl,_,rfl⟩
 obtain rfl:=A9 h;exact kO Z Fa (a:=.tup []) (objs:=[(.cells [.p (vSl 2 A0 q0)]),.cells ((B4 q1).map .p),.cells [pN q2],.cells [pN q3],.yld [] true]) [0,1,2,3,4] ⟨true,rfl,rfl,_,rfl⟩
def Lk (N:Nat)(a:Law)(b:Sl Im):Option ((Sl Im)×Law×Int×Int):= some (b,a,(a.If.n:Int),(a.Out.n:Int))
theorem Al4 {b:Law}{c:Sl Im}{y:(Sl Im)×Law×Int×Int}(h:Lk N b c=some y) :FunO S Vq [.p (.agg (B4 b)),.p (vSl 2 A0 c)] [] (.clo Ka [] [.reg 0 0,.reg 1 0,.reg 2 0,.reg 3 0]) ([.cells [.p (vSl 2 A0 y.1)],.cells ((B4 y.2.1).map .p),.cells [pN y.2.2.1],.cells [pN y.2.2.2]]) []:=by unfold Lk at h;refine A2 Z func186 ?_;refine F3 Z Fa [(1,.l [3000]),(2,.n),(4,.l [3000]),(5,.n),(6,.a [6000]),(7,.a [7000]),(8,.a [6000]),(9,.a [7000])] ?_;refine D1 Fa ?_;obtain rfl:=A9 h;exact kO Z Fa [4000,3000,6000,7000]
def Fj (N:Nat)(b:Law)(c:Sl Im):Option ((Sl Int)×(Sl (Sl Im))×Int):= (Fi N b c).bind fun y1=>if (y1 != 0) then some (Ii,(Sl.nil:Sl (Sl Im)),y1) else (Lk N b c).bind fun y2=>(Dt N y2.1 y2.2.1 y2.2.2.1 y2.2.2.2).bind fun L1=>U1 L1 (fun a (x1:Int×(Sl Im)) (z1:(Sl Int)×(Sl (Sl Im)))=>if (decide (32<(x1.2.n:Int))) then some (Ii,(Sl.nil:Sl (Sl Im)),11) else if ((z1.1.n+(Sl.of [x1.1]:Sl Int).n)*8<=140737488355328/\z1.1.n+(Sl.of [x1.1]:Sl Int).n<=140737488355328)then if ((z1.2.n+(Sl.of [x1.2]:Sl (Sl Im)).n)*24<=140737488355328/\z1.2.n+(Sl.of [x1.2]:Sl (Sl Im)).n<=140737488355328)then a (z1.1.push x1.1,z1.2.push x1.2) else none else none) (fun (z1:(Sl Int)×(Sl (Sl Im)))=>some (z1.1,z1.2,0)) (Ii,(Sl.nil:Sl (Sl Im)))
theorem XF {b:Law}{c:Sl Im}{y:(Sl Int)×(Sl (Sl Im))×Int}(h:Fj N b c=some y) :FunO S Pd [.p (.agg (B4 b)),.p (vSl 2 A0 c)] [] (.tup [.vec 0,.vec 1,pN y.2.2]) ([oV E4 1 (cI .i64) y.1 true,oV U2 1 (cL 2 A0) y.2.1 true]) []:=by
 unfold Fj at h;refine A2 Z func180 ?_;refine F7 Z Fa 4 3000 (B4 b) ?_;obtain⟨y1,e1,h⟩:=A8 h;refine B3 Z [] Ic (XD Z Y e1) ?_;apply kI Z h<;>intro h
 .obtain rfl:=A9 h;exact J4 Z Fa ⟨[(6,.reg 7000 0),(5,.reg 6000 0),(4,.reg 5000 0)],[(7000,.cells [pN y1]),(6701,.vec U2 1 (Sl.nil:Sl (Sl Im)).n (fun i=>cL 2 A0 ((Sl.nil:Sl (Sl Im)).g i)) true),(6000,.cells [.vec 6701]),(5700,oV E4 1 (cI .i64) Ii true),(5000,.cells [.vec 5700])]⟩ [5700,6701] (ids:=[(5000,5000),(6000,6000),(7000,7000)]) ⟨rfl,rfl,rfl⟩
 obtain⟨y2,e2,h⟩:=A8 h;refine B3 Z [] Ic (Al4 Z Y e2) ?_;obtain⟨L1,e3,h⟩:=A8 h;refine GO Z Fa [21000,21001,21002,21003] [9,8,6,5,4] 901 (fun z1=>⟨[(9,.reg 10000 0),(8,.reg 9000 0),(6,.reg 7000 0),(5,.reg 6000 0),(4,.reg 5000 0)],[(10500,oV U2 1 (cL 2 A0) z1.2 false),(10000,.cells [.vec 10500]),(9500,oV E4 1 (cI .i64) z1.1 false),(9000,.cells [.vec 9500]),(7000,.cells [pN 0]),(6000,.cells [.p C7]),(5000,.cells [.p C7])]⟩) (idl:=[(5000,5000),(6000,6000),(7000,7000),(9000,9000),(10000,10000)]) h (XE Z Y e3) (fun _=>by kernel_rfl) (fun _=>by kernel_rfl) (fun _=>by kernel_rfl) (fun _=>by kernel_rfl) (fun x1 _ d z1 f h=>?_) (fun z1 h=>?_)
 .refine JT Z Fa ?_;apply kI Z h<;>intro h
  .refine Nz Z Fa ⟨[(9,.reg 10000 0),(8,.reg 9000 0),(6,.reg 7000 0),(5,.reg 6000 0),(4,.reg 5000 0)],[(10500,oV U2 1 (cL 2 A0) z1.2 false),(10000,.cells [.vec 10500]),(9500,oV E4 1 (cI .i64) z1.1 false),(9000,.cells [.vec 9500]),(7000,.cells [pN 11]),(6000,.cells [.p C7]),(5000,.cells [.p C7])]⟩ (ids:=[(901,901),(5000,5000),(6000,6000),(7000,7000),(9000,9000),(9500,9500),(10000,10000),(10500,10500)]) ?_;obtain rfl:=A9 h;exact J4 Z Fa ⟨[(6,.reg 7000 0),(5,.reg 6000 0),(4,.reg 5000 0)],[(7000,.cells [pN 11]),(6701,.vec U2 1 (Sl.nil:Sl (Sl Im)).n (fun i=>cL 2 A0 ((Sl.nil:Sl (Sl Im)).g i)) true),(6000,.cells [.vec 6701]),(5700,oV E4 1 (cI .i64) Ii true),(5000,.cells [.vec 5700])]⟩ [5700,6701] (ids:=[(5000,5000),(6000,6000),(7000,7000)]) ⟨rfl,rfl,rfl⟩
  refine F3 Z Fa [(0,.l [9000]),(3,.a [30000,9500]),(4,.l [10000]),(7,.a [34000,10500]),(8,.a [9000]),(9,.a [10000])] ?_;refine K6 Fa (x:=.sl true 1 1 (G7 [pI .i64 0] [(0,cI .i64 x1.1)])) ?_;obtain⟨c9,h⟩:=C9 h;refine K6 c9 (x:=.sl true 1 1 (G7 [C7] [(0,cL 2 A0 x1.2)])) ?_;obtain⟨c10,h⟩:=C9 h;refine D1 c10 ?_;exact f _ [(901,901),(5000,5000),(6000,6000),(7000,7000),(9000,9000),(9500,30000),(10000,10000),(10500,34000)] _ (z1.1.push x1.1,z1.2.push x1.2) Fa h (hle:=kl2 0 1 (W4 (cL 2 A0) z1.2 x1.2 [C7]) (W4 (cI .i64) z1.1 x1.1 [pI .i64 0]))
 refine F3 Z Fa [(0,.l [9000]),(1,.l [10000]),(2,.a [5000]),(3,.a [6000]),(4,.a [7000])] ?_;refine D1 Fa ?_;obtain rfl:=A9 h;exact J4 Z Fa ⟨[(6,.reg 7000 0),(5,.reg 6000 0),(4,.reg 5000 0)],[(10500,oV U2 1 (cL 2 A0) z1.2 true),(9500,oV E4 1 (cI .i64) z1.1 true),(7000,.cells [pN 0]),(6000,.cells [.vec 10500]),(5000,.cells [.vec 9500])]⟩ [9500,10500] (ids:=[(5000,5000),(6000,6000),(7000,7000),(9500,9500),(10500,10500)]) ⟨rfl,rfl,rfl⟩
def Cj (N:Nat)(b:Law)(a:Sl Im):Option ((Sl Im)×Int):= (Fj N b a).bind fun y1=>if (y1.2.2 != 0) then some ((Sl.nil:Sl Im),y1.2.2) else if (decide (0<(y1.2.1.n:Int))) then if (((0:Int)<=(wrap .i64 ((y1.2.1.n:Int)-1))/\(wrap .i64 ((y1.2.1.n:Int)-1))<(y1.2.1.n:Int))/\(wrap .i64 ((y1.2.1.n:Int)-1)).toNat<y1.2.1.n)then some (y1.2.1.g (wrap .i64 ((y1.2.1.n:Int)-1)).toNat,0) else none else (A6 N a).bind fun y2=>some (y2,0)
theorem XG {a:Law}{b:Sl Im}{y:(Sl Im)×Int}(h:Cj N a b=some y) :FunO S Pc [.p (.agg (B4 a)),.p (vSl 2 A0 b)] [] (.tup [.p (vSl 2 A0 y.1),pN y.2]) ([]) []:=by
 unfold Cj at h;refine A2 Z func165 ?_;refine kC Z h (XF Z Y) (fun y1 h=>?_);apply kI Z h<;>intro h
 .obtain rfl:=A9 h;exact kO Z Fa []
 apply kI Z h<;>intro h
 .obtain⟨c3,h⟩:=C9 h;obtain rfl:=A9 h;exact Ai8 Z c3 [] ⟨rfl,rfl,rfl⟩
 refine kC Z h (Q1 Z Y) (fun y2 h=>?_);obtain rfl:=A9 h;exact kO Z Fa []
end Go.AM
namespace Go.AM
open Go.Proofs.Tryz
variable {N:Nat}
open IntKind (wrap)
open Go.Proofs
set_option maxRecDepth 10000
set_option maxHeartbeats 2000000
variable {S:U7}(Z:G4 S Tryz.prog) (Y:Kb S)
include Z Y
def T2 (N:Nat)(a:Law):Option Bool:= (Ax N a).bind fun y1=>some (y1 != 0)
theorem Ni {a:Law}{y:Bool}(h:T2 N a=some y) :FunO S Hx [.p (.agg (B4 a))] [] (pB y) ([]) []:=by unfold T2 at h;refine A2 Z func140 ?_;refine kC Z h (GX Z Y) (fun y1 h=>?_);cases h;exact kR Z
def F9 (N:Nat)(a:Sl Law)(c:Law->Option Bool):Option Int:= Y1 N (fun b (x1:Int)=>if (decide (x1<(a.n:Int))) then if ((0:Int)<=x1/\x1<(a.n:Int))then (c (a.g x1.toNat)).bind fun y3=>if y3 then some x1 else b (wrap .i64 (x1+1)) else none else some (-1)) 0
theorem Br {a:Sl Law}{c:Law->Option Bool}{kp_f:Nat}(d:∀{a0:Law}{b:Bool},c a0=some b->FunO S kp_f [.p (.agg (B4 a0))] [] (pB b) [] []){y:Int}(h:F9 N a c=some y) :FunO S P9 [.p (vSl 18 B4 a),.clo kp_f [] []] [] (pN y) ([]) []:=by
 unfold F9 at h;refine A2 Z func163 ?_;refine R9 Z Fa h (fun x1=>⟨[(8,pN x1),(7,pN (a.n:Int)),(1,.clo kp_f [] []),(0,.p (vSl 18 B4 a))],[]⟩) (ids:=[]) (fun _ _ _ _ _ f x1 g h=>?_);apply kI Z h<;>intro h
 .obtain⟨c8,h⟩:=C9 h;obtain⟨y3,e3,h⟩:=A8 h;refine B3 Z [] (And.intro c8 Ic) (d e3) ?_;apply kI Z h<;>intro h
  .cases h;exact kR Z
  exact g _ [] _ (wrap .i64 (x1+1)) Fa h
 cases h;exact kR Z
def D4 (N:Nat)(a:Sl Law)(b:Law->Option Bool):Option Bool:= (F9 N a b).bind fun y1=>some (decide (0<=y1))
theorem Aj {a:Sl Law}{c:Law->Option Bool}{kp_f:Nat}(d:∀{a0:Law}{b:Bool},c a0=some b->FunO S kp_f [.p (.agg (B4 a0))] [] (pB b) [] []){y:Bool}(h:D4 N a c=some y) :FunO S O1 [.p (vSl 18 B4 a),.clo kp_f [] []] [] (pB y) ([]) []:=by unfold D4 at h;refine A2 Z func139 ?_;refine kC Z h (Br Z Y (fun e=>d e)) (fun y1 h=>?_);cases h;exact kR Z
def BR (N:Nat)(a:Sl Law):Option Int:= if (decide (64<(a.n:Int))) then some 12 else (D4 N a (fun (u1:Law)=>T2 N u1)).bind fun y1=>if y1 then some 17 else some 0
theorem Qx {a:Sl Law}{y:Int}(h:BR N a=some y) :FunO S Js [.p (vSl 18 B4 a)] [] (pN y) ([]) []:=by
 unfold BR at h;refine A2 Z func101 ?_;apply kI Z h<;>intro h
 .cases h;exact kR Z
 refine kC Z h (Aj Z Y (fun e=>Ni Z Y e)) (fun y1 h=>?_);apply kI Z h<;>intro h
 .cases h;exact kR Z
 cases h;exact kR Z
def BS (N:Nat)(b:Sl Law)(a:Sl (Sl Im)):Option Int:= (BR N b).bind fun y1=>if (y1 != 0) then some y1 else if (decide (256<(a.n:Int))) then some 12 else Y1 N (fun c (x1:Int)=>if (decide (x1<(a.n:Int))) then if ((0:Int)<=x1/\x1<(a.n:Int))then (W6 N (a.g x1.toNat)).bind fun y4=>if (y4 != 0) then some y4 else c (wrap .i64 (x1+1)) else none else some 0) 0
theorem Qy {b:Sl Law}{a:Sl (Sl Im)}{y:Int}(h:BS N b a=some y) :FunO S Jm [.p (vSl 18 B4 b),.p (vSl 1 (cL 2 A0) a)] [] (pN y) ([]) []:=by
 unfold BS at h;refine A2 Z func69 ?_;refine kC Z h (Qx Z Y) (fun y1 h=>?_);apply kI Z h<;>intro h
 .cases h;exact kR Z
 apply kI Z h<;>intro h
 .cases h;exact kR Z
 refine R9 Z Fa h (fun x1=>⟨[(19,pN x1),(18,pN (a.n:Int)),(17,.p (vSl 1 (cL 2 A0) a))],[]⟩) (ids:=[]) (fun _ _ _ _ _ c x1 d h=>?_);apply kI Z h<;>intro h
 .obtain⟨c10,h⟩:=C9 h;obtain⟨y4,e4,h⟩:=A8 h;refine B3 Z [] c10 (DS Z Y e4) ?_;apply kI Z h<;>intro h
  .cases h;exact kR Z
  exact d _ [] _ (wrap .i64 (x1+1)) Fa h
 cases h;exact kR Z
end Go.AM
namespace Go.AM
open Go.Proofs.Tryz
variable {N:Nat}
open IntKind (wrap)
open Go.Proofs
set_option maxRecDepth 10000
set_option maxHeartbeats 2000000
variable {S:U7}(Z:G4 S Tryz.prog) (Y:Kb S)
include Z Y
def Az6 (c:Int):Option PV:=if c=0 then none else some (.iface 251 (pI .i64 c))
def BX (N:Nat)(c:Int)(q0:Sl Im)(q1:Sl Law):Option (List (Int×(Sl Im))):= (A6 N q0).bind fun y1=>Af (0,y1) (BD N (fun a (x1:Sl Im) (x2:Int)=>if (decide (x2<(q1.n:Int))) then if ((0:Int)<=x2/\x2<(q1.n:Int))then (Cj N (q1.g x2.toNat) x1).bind fun y4=>if (y4.2 != 0) then if y4.2=c then some []else none else Af (wrap .i64 (x2+1),y4.1) (a y4.1 (wrap .i64 (x2+1))) else none else if c=0 then some []else none) y1 0)
theorem HA {q0:Sl Im}{q1:Sl Law}{c:Int}{L:List (Int×(Sl Im))}(h:BX N c q0 q1=some L) :OA S Y6 [] [.reg 0 0,.reg 1 0] [.cells [.p (vSl 2 A0 q0)],.cells [.p (vSl 18 B4 q1)]] (L.map (fun (x:Int×(Sl Im))=>[pI .i64 x.1,vSl 2 A0 x.2])) (Az6 c):=by
 unfold BX at h;refine Aj3 Z func164 ?_;refine kC Z h (Q1 Z Y) (fun y1 h=>?_);obtain⟨L1,rfl,d⟩:=LO h;replace h:=d;refine Dk Z Fa (ys:=(fun (x:Int×(Sl Im))=>[pI .i64 x.1,vSl 2 A0 x.2]) (0,y1)) (rest:=L1.map (fun (x:Int×(Sl Im))=>[pI .i64 x.1,vSl 2 A0 x.2])) ?_ ?_
 .refine C8 Z Fa (b:=false) (fun c1=>?_) (fun c1=>?_)
  .exact Bool.noConfusion ((rfl:false=false).symm.trans c1)
  refine Sy Z Fa h (fun x1 x2 L2=>⟨[(17,pN x2),(16,pN (q1.n:Int)),(15,.p (vSl 18 B4 q1)),(4,.p (vSl 2 A0 x1)),(0,.yf 2)],[(2,.yld (L2.map (fun (x:Int×(Sl Im))=>[pI .i64 x.1,vSl 2 A0 x.2])) true),(1,.cells [.p (vSl 18 B4 q1)]),(0,.cells [.p (vSl 2 A0 q0)])]⟩) (ids:=[(0,0),(1,1),(2,2)]) (fun _ _ _ _ _ g x1 x2 L2 i h=>?_);apply kI Z h<;>intro h
  .obtain⟨c13,h⟩:=C9 h;obtain⟨y4,e4,h⟩:=A8 h;refine B3 Z [] (And.intro c13 Ic) (XG Z Y e4) ?_;refine C8 Z Fa (b:=y4.2 != 0) (fun c14=>?_) (fun c14=>?_)
   .replace h:=itT c14 h;obtain⟨c0,h⟩:=C9 h;obtain rfl:=A9 h;have j:Az6 c=some (.iface 251 (pI .i64 y4.2)):=by
     have:¬y4.2=0:=by simpa using c14
     rw[<- c0];simp[Az6,this]
    refine AN0 Z Fa (x:=.iface 251 (pI .i64 y4.2)) ?_;exact AF7 Z Fa (x:=.iface 251 (pI .i64 y4.2)) (objs:=[(.cells [.p (vSl 2 A0 q0)]),.cells [.p (vSl 18 B4 q1)],.yld [] true]) [0,1,2] ⟨true,rfl,rfl,fun _=>by rw[j];rfl,fun e=>nomatch e⟩
   replace h:=itF c14 h;obtain⟨L5,rfl,f⟩:=LO h;replace h:=f;refine Dk Z Fa (ys:=(fun (x:Int×(Sl Im))=>[pI .i64 x.1,vSl 2 A0 x.2]) (wrap .i64 (x2+1),y4.1)) (rest:=L5.map (fun (x:Int×(Sl Im))=>[pI .i64 x.1,vSl 2 A0 x.2])) ?_ ?_
   .refine C8 Z Fa (b:=false) (fun c15=>?_) (fun c15=>?_)
    .exact Bool.noConfusion ((rfl:false=false).symm.trans c15)
    exact i _ [(0,0),(1,1),(2,2)] _ y4.1 (wrap .i64 (x2+1)) L5 Fa h
   refine C8 Z Fa (b:=true) (fun c16=>?_) (fun c16=>?_)
   .exact kO Z Fa (a:=.tup []) (objs:=[(.cells [.p (vSl 2 A0 q0)]),.cells [.p (vSl 18 B4 q1)],.yld [] false]) [0,1,2] ⟨false,rfl,rfl,fun e=>(nomatch e),fun _=>⟨_,rfl⟩⟩
   exact Bool.noConfusion (Ig.symm.trans c16)
  obtain⟨c0,h⟩:=C9 h;obtain rfl:=A9 h;exact kO Z Fa (a:=.tup []) (objs:=[(.cells [.p (vSl 2 A0 q0)]),.cells [.p (vSl 18 B4 q1)],.yld [] true]) [0,1,2] ⟨true,rfl,rfl,fun _=>by subst c0;exact⟨_,rfl⟩,fun e=>(nomatch e)⟩
 refine C8 Z Fa (b:=true) (fun c17=>?_) (fun c17=>?_)
 .exact kO Z Fa (a:=.tup []) (objs:=[(.cells [.p (vSl 2 A0 q0)]),.cells [.p (vSl 18 B4 q1)],.yld [] false]) [0,1,2] ⟨false,rfl,rfl,fun e=>(nomatch e),fun _=>⟨_,rfl⟩⟩
 exact Bool.noConfusion (Ig.symm.trans c17)
def DJ (N:Nat)(a:Sl Law)(b:Sl Im):Option ((Sl Im)×(Sl Law)):= some (b,a)
theorem JA {a:Sl Law}{b:Sl Im}{y:(Sl Im)×(Sl Law)}(h:DJ N a b=some y) :FunO S Jw [.p (vSl 18 B4 a),.p (vSl 2 A0 b)] [] (.clo Y6 [] [.reg 0 0,.reg 1 0]) ([.cells [.p (vSl 2 A0 y.1)],.cells [.p (vSl 18 B4 y.2)]]) []:=by unfold DJ at h;refine A2 Z func141 ?_;obtain rfl:=A9 h;exact kO Z Fa [4000,3000]
def K4 (N:Nat)(c:Int)(a:Sl Law)(d:Sl Im):Option (Sl Im):= (DJ N a d).bind fun y1=>(BX N c y1.1 y1.2).bind fun L1=>U1 L1 (fun b (x1:Int×(Sl Im)) (z1:Sl Im)=>b x1.2) (fun (z1:Sl Im)=>some z1) (Sl.nil:Sl Im)
theorem LX {a:Sl Law}{b:Sl Im}{y:Sl Im}(h:K4 N 0 a b=some y) :FunO S K3 [.p (vSl 18 B4 a),.p (vSl 2 A0 b)] [] (.p (vSl 2 A0 y)) ([]) []:=by
 unfold K4 at h;refine A2 Z func104 ?_;refine kC Z h (JA Z Y) (fun y1 h=>?_);obtain⟨L1,e2,h⟩:=A8 h;have f:OA S Y6 [] [.reg 0 0,.reg 1 0] [.cells [.p (vSl 2 A0 y1.1)],.cells [.p (vSl 18 B4 y1.2)]] (L1.map (fun (x:Int×(Sl Im))=>[pI .i64 x.1,vSl 2 A0 x.2])) none:=HA Z Y e2;refine YU Z Fa [8000,8001] [4] 901 (fun z1=>⟨[(4,.reg 5000 0)],[(5000,.cells [.p (vSl 2 A0 z1)])]⟩) (idl:=[(5000,5000)]) h f (fun _=>by kernel_rfl) (fun _=>by kernel_rfl) (fun _=>by kernel_rfl) (fun _=>by kernel_rfl) (fun x1 _ c z1 d h=>?_) (fun z1 h=>?_)
 .refine JT Z Fa ?_;exact d _ [(901,901),(5000,5000)] _ x1.2 Fa h
 cases h;exact kR Z
theorem LY {c:Int}{a:Sl Law}{b:Sl Im}{y:Sl Im}(hc:c≠0)(h:K4 N c a b=some y) :S.F K3 [.p (vSl 18 B4 a),.p (vSl 2 A0 b)] [] fun res o k=>res=.panic (.iface 251 (pI .i64 c))/\o=[]/\k=[]:=by
 unfold K4 at h;refine Ay3 Z func104 ?_;refine kC Z h (JA Z Y) (fun y1 h=>?_);obtain⟨L1,e2,h⟩:=A8 h;have g:OA S Y6 [] [.reg 0 0,.reg 1 0] [.cells [.p (vSl 2 A0 y1.1)],.cells [.p (vSl 18 B4 y1.2)]] (L1.map (fun (x:Int×(Sl Im))=>[pI .i64 x.1,vSl 2 A0 x.2])) (some (.iface 251 (pI .i64 c))):=by
  have:=HA Z Y e2
  simpa[Az6,hc]using this
 refine YU Z Fa [8000,8001] [4] 901 (fun z1=>⟨[(4,.reg 5000 0)],[(5000,.cells [.p (vSl 2 A0 z1)])]⟩) (idl:=[(5000,5000)]) h g (fun _=>by kernel_rfl) (fun _=>by kernel_rfl) (fun _=>by kernel_rfl) (fun _=>by kernel_rfl) (fun x1 _ d z1 f h=>?_) (fun z1 h=>?_)
 .refine JT Z Fa ?_;exact f _ [(901,901),(5000,5000)] _ x1.2 Fa h
 exact AF7 Z Fa (x:=.iface 251 (pI .i64 c)) (objs:=[]) [] ⟨rfl,rfl,rfl⟩
def BY (N:Nat)(a:Sl Law)(b:Sl Im):Option ((Sl Im)×Bool):=
 match K4 N 0 a b with
 |some y=>some (y,true)
 |none=>(K4 N 11 a b).bind fun _=>some ((Sl.nil:Sl Im),false)
theorem Nj {b:Sl Law}{c:Sl Im}{y:(Sl Im)×Bool}(h:BY N b c=some y) :FunO S Hr [.p (vSl 18 B4 b),.p (vSl 2 A0 c)] [] (.tup [.p (vSl 2 A0 y.1),pB y.2]) ([]) []:=by
 unfold BY at h;refine A2 Z func70 ?_;rcases e:K4 N 0 b c with _|z
 .rw[e]at h;obtain⟨z,e1,h⟩:=A8 h;obtain rfl:=A9 h;refine B3 Z [7000,3000,4000,5000] Fa (Y.attP (LY Z Y (by decide) e1)) ?_;refine F3 Z Fa [(0,.l [5000]),(1,.l [7000]),(3,.a [5000])] ?_;refine D1 Fa ?_;exact J4 Z Fa ⟨[(5,pB false),(4,.reg 5000 0)],[(5000,.cells [.p (vSl 2 A0 Sl.nil)])]⟩ [] (ids:=[(5000,5000)]) ⟨rfl,rfl,rfl⟩
 rw[e]at h;obtain rfl:=A9 h;refine B3 Z [7000,3000,4000,5000] Fa (Y.attR (LX Z Y e)) ?_;refine F3 Z Fa [(0,.l [5000]),(1,.l [7000]),(3,.a [5000])] ?_;refine D1 Fa ?_;exact J4 Z Fa ⟨[(5,pB true),(4,.reg 5000 0)],[(5000,.cells [.p (vSl 2 A0 z)])]⟩ [] (ids:=[(5000,5000)]) ⟨rfl,rfl,rfl⟩
end Go.AM
namespace Go.AM
open Go.Proofs
set_option maxRecDepth 10000
set_option maxHeartbeats 2000000
variable {S:U7}(Z:G4 S Tryz.prog) (Y:Kb S)
include Z Y
def S7 (N:Nat)(a:Sl Law)(b:Sl Im):Option ((Sl Im)×Int):= (BS N a (Sl.of [b]:Sl (Sl Im))).bind fun y1=>if (y1 != 0) then some ((Sl.nil:Sl Im),y1) else (BY N a b).bind fun y2=>if (!y2.2) then some ((Sl.nil:Sl Im),11) else some (y2.1,0)
theorem Fk {N:Nat}{a:Sl Law}{b:Sl Im}{y:(Sl Im)×Int}(h:S7 N a b=some y) :FunO S Ia [.p (vSl 18 B4 a),.p (vSl 2 A0 b)] [] (.tup [.p (vSl 2 A0 y.1),pN y.2]) ([]) []:=by
 unfold S7 at h;refine A2 Z Tryz.func33 ?_;refine KF Z Ig ⟨[(11,.vec 12000),(9,.p (vSl 18 B4 a)),(1,.p (vSl 2 A0 b)),(0,.p (vSl 18 B4 a))],[(12000,.vec U2 1 (Sl.of [b]:Sl (Sl Im)).n (fun i=>cL 2 A0 ((Sl.of [b]:Sl (Sl Im)).g i)) false)]⟩ (ids:=[(12000,12000)]) ?_ (hle:=kl1 3 (ZZ (cL 2 A0) ([b]:List (Sl Im)) [C7]));refine kC Z h (Qy Z Y) (fun y1 h=>?_);apply kI Z h<;>intro h
 .obtain rfl:=A9 h;exact kO Z Fa []
 refine kC Z h (Nj Z Y) (fun y2 h=>?_);apply kI Z h<;>intro h
 .obtain rfl:=A9 h;exact kO Z Fa []
 cases h;exact kR Z
end Go.AM
