/- Part 6. -/
import Derived.Test.YthdmmdgkphmakaaGreatDoorKE
import Derived.Test.YthdmmdgkphmakaaGreatDoorKD
import Derived.RecoverIn
import Derived.Test.YthdmmdgkphmakaaGreatDoorProg
import Derived.Lib.SlTrimSet
import Derived.Lib.Join
import Derived.Lib.ItoaNum
import Derived.Lib.Bytealg
import Derived.TacticsInMore
set_option linter.defProp false
set_option linter.unusedSimpArgs false
set_option linter.unusedVariables false
set_option linter.unusedSectionVars false
namespace Go.AM
abbrev Nd:Sl Int:=Sl.nil
def Nb:true=true:=rfl
def Na:(18:Nat)<=18:=by decide
def Kh:(7:Nat)<=7:=by decide
def Hc:(2:Nat)<=2:=by decide
noncomputable abbrev Ar4:=Go.Proofs.Tryz.prog.funcs
theorem FA (D:List Deferred)(a:Act)(d:Option Tmp)(v:Value):(NO D a).put d v=NO D (a.put d v):=by cases d<;>rfl
theorem JM {F:Fence}{n:Nat}{P:Program}{ops:Array Oper}{Q:Exit->Act->World->Prop}(D:List Deferred):∀(l:List Nat) (a:Act) (w:World),wpOpsIn F n P ops Q l a w ->
 wpOpsIn F n P ops (fun e a' w'=>∃a0,a' = NO D a0/\Q e a0 w') l (NO D a) w
 |[],a,w,h=>⟨a,rfl,h⟩
 |i::l,a,w,h=>by
  have ih:=JM (F:=F) (n:=n) (P:=P) (ops:=ops) (Q:=Q) D l;simp only[wpOpsIn]at h⊢;have e1:(NO D a).eval=a.eval:=by funext x;cases x<;>rfl
  have e2:(NO D a).tmps=a.tmps:=rfl;cases j:ops[i]? with
  |none=>simp only[j]at h⊢;exact ih a w h
  |some o=>
   simp only[j]at h⊢;rw[e2,e1];by_cases m:Region.wanted o (yielded ops a.tmps)=true
   .rw[Dz m]at h⊢;refine⟨by rw[e1];exact h.1,?_⟩;have b:=h.2;rw[e1];generalize (o.semAt F.round a.eval).run P w=r at b;unfold Oper.uponIn at b⊢;split at b
    .rw[FA];exact ih _ _ b
    .rw[FA];exact ih _ _ b
    .exact ih _ _ b |> fun x=>by
      rename_i d w'
      have:({ (NO D a)with defers:=d::(NO D a).defers }:Act).put o.dst undef=NO D (({ a with defers:=d::a.defers }:Act).put o.dst undef):=by rw[<- FA];rfl
      rw[this];exact x
    .refine⟨b.1,b.2.mono ?_⟩;intro e w' f;cases e with
     |returned v=>have:=ih _ _ f;rw[<- FA]at this;exact this
     |panicked ch=>exact⟨a,rfl,f⟩
     |outgrown=>obtain⟨a1,w1,g⟩:=f;exact⟨NO D a1,w1,a1,rfl,g⟩
    .refine⟨b.1,fun c cs q=>?_⟩;obtain⟨v,w',g1,g2⟩:=b.2 c cs q;exact⟨v,w',by have:=ih _ _ g1;rw[<- FA]at this;exact this,g2⟩
    .refine⟨b.1,b.2.mono ?_⟩;intro e w' f;cases e with
     |returned v=>have:=ih _ _ f;rw[<- FA]at this;exact this
     |panicked ch=>exact⟨a,rfl,f⟩
     |outgrown=>obtain⟨a1,w1,g⟩:=f;exact⟨NO D a1,w1,a1,rfl,g⟩
    .exact⟨a,rfl,b⟩
    exact b.elim
   rw[Ec m]at h⊢;rw[FA];exact⟨h.1,ih _ _ h.2⟩
section
variable {P:Program}{C:Ctx}{st:St}{rho:Nat->Value}
theorem FB {fn:Func}{R:Ending->World->Prop}{u:FrameMode}(c:u ≠ .run){tmps:Array Value}{D:List Deferred}(b:∀a w,Sat C st a w rho->a.tmps=tmps->LeavesInM Fence.wide 0 P fn tmps R D u w) :∀(ds:List Deferred) (a:Act) (w:World),a.defers=ds->a.tmps=tmps->Sat C st a w rho->LeavesInM Fence.wide 0 P fn tmps R (ds++D) u w
 |[],a,w,hd,ht,h=>b a w h ht
 |d::ds,a,w,hd,ht,h=>by obtain⟨r,w',h1,f,g⟩:=h.unmark hd;exact⟨c,.inl ⟨r,w',h1,f,FB c b ds { a with defers:=ds } w' rfl ht g⟩⟩
end
end Go.AM
namespace Go.AM
structure Node where
 Parent:Int
 Name:Str
 deriving Inhabited,DecidableEq
abbrev D5 (x:Node):List PV:=[(pI .i64 x.Parent),.str x.Name]
structure A3 where
 Plus:Int
 Minus:Int
 deriving Inhabited,DecidableEq
abbrev A0 (x:A3):List PV:=[(pI .u32 x.Plus),pI .u32 x.Minus]
inductive Pat where
 |nil
 |mk (Kind:Int) (Is:A3) (Not:Bool) (Min:Int) (Max:Int) (n:Nat) (g:Nat->Pat)
instance:Inhabited Pat:=⟨.nil⟩
def Pat.Kind:Pat->Int
 |.nil=>0
 |.mk x _ _ _ _ _ _=>x
def Pat.Is:Pat->A3
 |.nil=>default
 |.mk _ x _ _ _ _ _=>x
def Pat.Not:Pat->Bool
 |.nil=>false
 |.mk _ _ x _ _ _ _=>x
def Pat.Min:Pat->Int
 |.nil=>0
 |.mk _ _ _ x _ _ _=>x
def Pat.Max:Pat->Int
 |.nil=>0
 |.mk _ _ _ _ x _ _=>x
def Pat.L:Pat->Sl Pat
 |.nil=>⟨0,fun _=>.nil⟩
 |.mk _ _ _ _ _ n g=>⟨n,g⟩
def GP:Pat->Nat->List PV
 |.nil=>fun _=>[]
 |.mk _ _ _ _ _ n g=>fun i=>[(pI .i64 (g i).Kind),pI .u32 (g i).Is.Plus,pI .u32 (g i).Is.Minus,.bb (g i).Not,pI .i64 (g i).Min,pI .i64 (g i).Max,.sl false 7 (g i).L.n (GP (g i))]
abbrev E8 (x:Pat):List PV:=[(pI .i64 x.Kind),pI .u32 x.Is.Plus,pI .u32 x.Is.Minus,.bb x.Not,pI .i64 x.Min,pI .i64 x.Max,.sl false 7 x.L.n (GP x)]
def FC (x:Pat):∀i,i<x.L.n->GP x i=E8 (x.L.g i):=by
 cases x with
 |nil=>intro i a;exact Eu (show i<0 from a) (by omega)
 |mk Kind Is Not Min Max n g=>exact fun _ _=>rfl
structure DY where
 From:Int
 Clear:Int
 Set:A3
 Take:Int
 Of:Int
 deriving Inhabited,DecidableEq
abbrev V8 (x:DY):List PV:=[(pI .i64 x.From),pI .u32 x.Clear,pI .u32 x.Set.Plus,pI .u32 x.Set.Minus,pI .u32 x.Take,pI .i64 x.Of]
structure Law where
 Name:Str
 Left:Pat
 Right:Pat
 If:(Sl A3)
 Out:(Sl DY)
 Mode:Int
 deriving Inhabited
abbrev B4 (x:Law):List PV:=[(.str x.Name),pI .i64 x.Left.Kind,pI .u32 x.Left.Is.Plus,pI .u32 x.Left.Is.Minus,.bb x.Left.Not,pI .i64 x.Left.Min,pI .i64 x.Left.Max,.sl false 7 x.Left.L.n (GP x.Left),pI .i64 x.Right.Kind,pI .u32 x.Right.Is.Plus,pI .u32 x.Right.Is.Minus,.bb x.Right.Not,pI .i64 x.Right.Min,pI .i64 x.Right.Max,.sl false 7 x.Right.L.n (GP x.Right),vSl 2 A0 x.If,vSl 6 V8 x.Out,pI .i64 x.Mode]
structure History where
 Tree:(Sl Node)
 Laws:(Sl Law)
 On:(Sl (Sl Int))
 deriving Inhabited
abbrev C5 (x:History):List PV:=[(vSl 2 D5 x.Tree),vSl 18 B4 x.Laws,vSl 1 (cL 1 (cI .i64)) x.On]
structure F1 where
 Symbol:Str
 S:A3
 deriving Inhabited,DecidableEq
abbrev B0 (x:F1):List PV:=[(.str x.Symbol),pI .u32 x.S.Plus,pI .u32 x.S.Minus]
structure Li where
 Text:Str
 Clear:Int
 Set:A3
 deriving Inhabited,DecidableEq
abbrev S1 (x:Li):List PV:=[(.str x.Text),pI .u32 x.Clear,pI .u32 x.Set.Plus,pI .u32 x.Set.Minus]
structure Bu where
 Has:Bool
 W:(Sl A3)
 deriving Inhabited
abbrev G2 (x:Bu):List PV:=[(.bb x.Has),vSl 2 A0 x.W]
structure Entry where
 Gloss:Str
 Forms:(Sl Bu)
 deriving Inhabited
abbrev H2 (x:Entry):List PV:=[(.str x.Gloss),vSl 2 G2 x.Forms]
structure C8 where
 Feats:(Sl Str)
 Sounds:(Sl F1)
 Marks:(Sl Li)
 History:History
 Protos:(Sl Bu)
 Entries:(Sl Entry)
 deriving Inhabited
abbrev A8 (x:C8):List PV:=[(vSl 1 cS x.Feats),vSl 3 B0 x.Sounds,vSl 4 S1 x.Marks,vSl 2 D5 x.History.Tree,vSl 18 B4 x.History.Laws,vSl 1 (cL 1 (cI .i64)) x.History.On,vSl 2 G2 x.Protos,vSl 2 H2 x.Entries]
structure A1 where
 Entry:Int
 Leaf:Int
 Kind:Int
 Cost:Int
 deriving Inhabited,DecidableEq
abbrev A6 (x:A1):List PV:=[(pI .i64 x.Entry),pI .i64 x.Leaf,pI .i64 x.Kind,pI .i64 x.Cost]
structure B5 where
 Node:Int
 Place:Int
 Entry:Int
 Leaf:Int
 deriving Inhabited,DecidableEq
abbrev F8 (x:B5):List PV:=[(pI .i64 x.Node),pI .i64 x.Place,pI .i64 x.Entry,pI .i64 x.Leaf]
structure S3 where
 Bad:(Sl A1)
 Swaps:(Sl B5)
 deriving Inhabited
abbrev MW (x:S3):List PV:=[(vSl 4 A6 x.Bad),vSl 4 F8 x.Swaps]
structure D9 where
 a0:Int
 a1:Int
 deriving Inhabited,DecidableEq
abbrev B9 (x:D9):List PV:=[(pI .i64 x.a0),pI .i64 x.a1]
structure Em where
 entry:Int
 leaf:Int
 deriving Inhabited,DecidableEq
abbrev MX (x:Em):List PV:=[(pI .i64 x.entry),pI .i64 x.leaf]
inductive Part where
 |nil
 |sound (x:A3) (no:Bool)
 |edge (e:Bool)
 |seq (n:Nat) (g:Nat->Part)
 |alt (n:Nat) (g:Nat->Part)
 |rep (o:Part) (mn mx:Int)
instance:Inhabited Part:=⟨.nil⟩
def Part.t:Part->Nat
 |.nil=>0
 |.sound _ _=>307
 |.edge _=>309
 |.seq _ _=>314
 |.alt _ _=>311
 |.rep _ _ _=>313
def Part.v:Part->PV
 |.nil=>.bb false
 |.sound x no=>.agg [pI .u32 x.Plus,pI .u32 x.Minus,.bb no]
 |.edge e=>.agg [.bb e]
 |.seq n g=>.agg [.sl false 1 n fun i=>[.iface (g i).t (g i).v]]
 |.alt n g=>.agg [.sl false 1 n fun i=>[.iface (g i).t (g i).v]]
 |.rep o mn mx=>.agg [.iface o.t o.v,pI .i64 mn,pI .i64 mx]
abbrev GQ (x:Part):PV:=.iface x.t x.v
abbrev Fd (x:Part):List PV:=[GQ x]
structure XC where
 is:A3
 not:Bool
 deriving Inhabited,DecidableEq
abbrev Vi (x:XC):List PV:=[(pI .u32 x.is.Plus),pI .u32 x.is.Minus,.bb x.not]
structure Ag5 where
 end_:Bool
 deriving Inhabited,DecidableEq
abbrev Ag6 (x:Ag5):List PV:=[(.bb x.end_)]
structure Palt where
 l:(Sl Part)
 deriving Inhabited
abbrev Ao2 (x:Palt):List PV:=[(vSl 1 Fd x.l)]
structure Prep where
 of:Part
 min:Int
 max:Int
 deriving Inhabited
abbrev Ao3 (x:Prep):List PV:=[(GQ x.of),pI .i64 x.min,pI .i64 x.max]
structure Pseq where
 l:(Sl Part)
 deriving Inhabited
abbrev Ao4 (x:Pseq):List PV:=[(vSl 1 Fd x.l)]
structure B3 where
 feats:(Sl Str)
 number:List (Str×Int)
 sounds:(Sl F1)
 symbols:List (Str×Int)
 values:List (A3×Int)
 deriving Inhabited
abbrev E5 (a b:A3):Bool:=((a.Plus==b.Plus)&&(a.Minus==b.Minus))
end Go.AM
namespace Go.AM
open Go.Proofs
abbrev CA:Nat:=3
abbrev JN:Nat:=4
abbrev Lj:Nat:=5
abbrev Id:Nat:=6
abbrev JO:Nat:=7
abbrev Lk:Nat:=8
abbrev Ll:Nat:=9
abbrev JP:Nat:=10
abbrev MY:Nat:=11
abbrev Pw:Nat:=12
abbrev JQ:Nat:=13
abbrev Px:Nat:=14
abbrev MZ:Nat:=15
abbrev JR:Nat:=16
abbrev Lm:Nat:=17
abbrev JS:Nat:=18
abbrev J4:Nat:=19
abbrev P9:Nat:=20
abbrev Ln:Nat:=21
abbrev JT:Nat:=22
abbrev GR:Nat:=23
abbrev Lo:Nat:=24
abbrev GS:Nat:=25
abbrev JU:Nat:=26
abbrev AL:Nat:=27
abbrev V9:Nat:=28
abbrev Ce:Nat:=29
abbrev Nc:Nat:=30
abbrev U3:Nat:=31
abbrev Cp:Nat:=32
abbrev T2:Nat:=33
abbrev Py:Nat:=34
abbrev Ie:Nat:=35
abbrev Gk:Nat:=36
abbrev Ff:Nat:=37
abbrev Lp:Nat:=38
abbrev BJ:Nat:=39
abbrev JV:Nat:=40
abbrev Fg:Nat:=41
abbrev Lq:Nat:=42
abbrev Ig:Nat:=43
abbrev GU:Nat:=44
abbrev Lr:Nat:=45
abbrev Ih:Nat:=46
abbrev Ls:Nat:=47
abbrev JW:Nat:=48
abbrev Q0:Nat:=49
abbrev GV:Nat:=52
abbrev Ii:Nat:=53
abbrev Gl:Nat:=54
abbrev Ij:Nat:=55
abbrev Ng:Nat:=56
abbrev Q8:Nat:=57
abbrev Lt:Nat:=58
abbrev U4:Nat:=59
abbrev O5:Nat:=60
abbrev Q9:Nat:=61
abbrev By:Nat:=62
abbrev U5:Nat:=63
abbrev Ik:Nat:=64
abbrev Il:Nat:=65
abbrev Im:Nat:=66
abbrev Gm:Nat:=67
abbrev Gn:Nat:=68
abbrev Et:Nat:=69
abbrev Ip:Nat:=70
abbrev Q1:Nat:=71
abbrev Gp:Nat:=72
abbrev AN:Nat:=73
abbrev Lu:Nat:=74
abbrev GX:Nat:=75
abbrev Ni:Nat:=82
abbrev GY:Nat:=83
abbrev K9:Nat:=84
abbrev Gq:Nat:=85
abbrev Iq:Nat:=86
abbrev Lw:Nat:=87
abbrev Aq:Nat:=88
abbrev SA:Nat:=89
abbrev Y5:Nat:=90
abbrev JY:Nat:=91
abbrev Ir:Nat:=92
abbrev K3:Nat:=93
abbrev T3:Nat:=94
abbrev I8:Nat:=95
abbrev Ha:Nat:=96
abbrev AZ:Nat:=97
abbrev Ar:Nat:=98
abbrev Cq:Nat:=99
abbrev Ev:Nat:=100
abbrev JZ:Nat:=101
abbrev L0:Nat:=102
abbrev Gs:Nat:=103
abbrev Q2:Nat:=104
abbrev Ae:Nat:=105
abbrev H9:Nat:=106
abbrev R0:Nat:=107
abbrev Ka:Nat:=108
abbrev Kb:Nat:=115
abbrev Pz:Nat:=116
abbrev Kc:Nat:=117
abbrev Nl:Nat:=118
abbrev Lx:Nat:=119
abbrev J7:Nat:=120
abbrev N2:Nat:=121
abbrev N4:Nat:=122
abbrev O3:Nat:=123
abbrev FD:Nat:=124
abbrev BA:Nat:=125
abbrev N3:Nat:=126
abbrev Gt:Nat:=127
abbrev Iu:Nat:=128
abbrev CU:Nat:=129
abbrev Fh:Nat:=130
abbrev T4:Nat:=131
abbrev At:Nat:=132
abbrev Cr:Nat:=133
abbrev U6:Nat:=134
abbrev BB:Nat:=135
abbrev O7:Nat:=136
abbrev N5:Nat:=144
abbrev Q3:Nat:=146
abbrev Iv:Nat:=147
abbrev P7:Nat:=148
abbrev M8:Nat:=149
abbrev O8:Nat:=150
abbrev O9:Nat:=151
abbrev Q6:Nat:=152
abbrev No:Nat:=153
abbrev Ly:Nat:=159
abbrev E6:Nat:=160
abbrev Np:Nat:=161
abbrev Nq:Nat:=166
abbrev SE:Nat:=167
abbrev FF:Nat:=171
abbrev PA:Nat:=172
abbrev N9:Nat:=173
abbrev SF:Nat:=174
abbrev SH:Nat:=175
abbrev Kd:Nat:=176
abbrev Ed:Nat:=177
abbrev Lz:Nat:=178
abbrev Fi:Nat:=179
abbrev I6:Nat:=180
abbrev Iw:Nat:=181
abbrev LA:Nat:=182
abbrev W8:Nat:=183
abbrev Ke:Nat:=184
abbrev Nr:Nat:=185
abbrev Ns:Nat:=186
abbrev Nt:Nat:=187
abbrev Kf:Nat:=188
abbrev Kg:Nat:=189
abbrev Ix:Nat:=190
abbrev Hd:Nat:=191
abbrev Cf:Nat:=192
abbrev AT:Nat:=193
abbrev Cs:Nat:=212
abbrev DE:Nat:=213
abbrev Ew:Nat:=214
abbrev FG:Nat:=215
abbrev Ee:Nat:=216
abbrev FH:Nat:=217
abbrev Hf:Nat:=218
abbrev Ax:Nat:=219
abbrev FI:Nat:=220
abbrev D1:Nat:=3
abbrev Aa0:Nat:=4
abbrev F3:Nat:=5
abbrev G5:Nat:=9
abbrev Ct:Nat:=26
abbrev R9:Nat:=47
abbrev Ah:Nat:=49
abbrev K4:Nat:=54
abbrev B8:Nat:=59
abbrev A9:Nat:=62
abbrev KN:Nat:=65
abbrev HH:Nat:=86
abbrev Q7:Nat:=102
abbrev Hg:Nat:=106
abbrev K5:Nat:=109
abbrev X2:Nat:=113
abbrev D3:Nat:=155
abbrev KO:Nat:=207
abbrev Ud:Nat:=302
end Go.AM
namespace Go.AM
abbrev U (x:BitVec 64):Int:=(x.toNat:Int)
end Go.AM
namespace Go.AM
open Go.Proofs.Tryz
variable {N:Nat}
open Go.Proofs
abbrev Zu:List AV:=[.reg 0 0,.reg 1 0,.reg 2 0,.reg 3 0]
abbrev Ue (c:Int)(a:Sl Law)(b:Sl A3)(y:PV):List Obj:=[.cells [pN c],.cells [.p (vSl 18 B4 a)],.cells [.p (vSl 2 A0 b)],.cells [.p y]]
structure Jn (S:S6):Prop where
 attR:∀{a:Sl Law}{b y:Sl A3},FunO S I8 [.p (vSl 18 B4 a),.p (vSl 2 A0 b)] [] (.p (vSl 2 A0 y)) [] []->FunO S K3 Zu (Ue 0 a b F6) (.tup []) (Ue 0 a b (vSl 2 A0 y)) [true,true,true,true]
 attP:∀{a:Sl Law}{b:Sl A3}{c:Int},(S.F I8 [.p (vSl 18 B4 a),.p (vSl 2 A0 b)] [] fun res o k=>res=.panic (.iface 235 (pI .i64 c))/\o=[]/\k=[])->FunO S K3 Zu (Ue 0 a b F6) (.tup []) (Ue c a b F6) [true,true,true,true]
 tz:∀x:BitVec 64,Rs S Q3 [.p (pI .u64 (U x))] (.p (pI .i64 (Lib.ctz 64 x.toNat:Nat)))
 trim:∀s c:Str,s.length<1000000000000->c.length<1000000->(∀b∈c,b.toNat<128)->Rs S Ev [.p (.str s),.p (.str c)] (.p (.str (Lib.trimS s c)))
 growS:∀(f:Nat->List PV) (n:Nat),n*8<=140737488355328->FunO S I6 [.p F6,.p (pI .i64 (n:Int))] [] (.vec 0) [.vec B8 2 0 f false] []
 join:∀(nn:Bool) (n:Nat) (g:Nat->List UInt8) (sep:List UInt8),n<=140737488355328->(Lib.join ((List.range n).map g) sep).length<=140737488355328 ->
  Rs S Ce [.p (.sl nn 1 n fun i=>[.str (g i)]),.p (.str sep)] (.p (.str (Lib.join ((List.range n).map g) sep)))
 indexByte:∀(s:List UInt8) (c:UInt8),Rs S U6 [.p (.str s),.p (.v (.int .u8 c.toNat))] (.p (.v (.int .i64 (Lib.indexByte s c))))
 fmtInt:∀n:Int,-9223372036854775808<=n->n<=9223372036854775807->Rs S U3 [.p (pI .i64 n),.p (pI .i64 10)] (.p (.str (Lib.itoa n)))
 copyCheck:∀(T:Nat) (u n:Nat) (f:Nat->List PV),T=92->FunO S Q0 [.reg 0 0] [.blk [0,T,u] 1,.vec F3 1 n f false] (.tup []) [.blk [0,T,1] 1,.vec F3 1 n f false] [true,true]
 bstr:∀(T u n:Nat) (f:Nat->List PV) (s:List UInt8),T=92->s.length=n->(∀i,i<n->f i=[.v (.int .u8 (s.getD i 0).toNat)])->FunO S T2 [.reg 0 0] [.blk [0,T,u] 1,.vec F3 1 n f false] (.p (.str s)) [] []
def Y8 (N:Nat)(x:Int):Option Int:=if 0<=x/\x<18446744073709551616 then some ((Lib.ctz 64 x.toNat:Nat):Int)else none
def Ex (N:Nat)(s c:Str):Option Str:=if s.length<1000000000000/\c.length<1000000/\(c.all fun b=>decide (b.toNat<128)) then some (Lib.trimS s c)else none
def P8 (N:Nat)(n:Int):Option (Sl A3):=if 0<=n/\n*8<=140737488355328 then some (Sl.nil:Sl A3)else none
section
variable {S:S6}(Z:G1 S Tryz.prog) (Y:Jn S)
include Z Y
theorem DF {x y:Int}(h:Y8 N x=some y):FunO S Q3 [.p (pI .u64 x)] [] (.p (pI .i64 y)) [] []:=by
 obtain⟨⟨a,h1⟩,h⟩:=E2 h;obtain rfl:=B6 h
 have:=Y.tz (BitVec.ofNat 64 x.toNat)
 have e:(BitVec.ofNat 64 x.toNat).toNat=x.toNat:=by rw[BitVec.toNat_ofNat];omega
 have e2:U (BitVec.ofNat 64 x.toNat)=x:=by show ((BitVec.ofNat 64 x.toNat).toNat:Int)=x;rw[e];omega
 rw[e,e2]at this;exact this
theorem Iy {s c:Str}{y:Str}(h:Ex N s c=some y):FunO S Ev [.p (.str s),.p (.str c)] [] (.p (.str y)) [] []:=by obtain⟨⟨a,h1,d⟩,h⟩:=E2 h;obtain rfl:=B6 h;exact Y.trim s c a h1 fun b hb=>by simpa using As3.1 d b hb
theorem AQ {n:Int}{y:Sl A3}(h:P8 N n=some y):FunO S I6 [.p F6,.p (pI .i64 n)] [] (.vec 0) [.vec B8 2 y.n (fun i=>A0 (y.g i)) false] []:=by
 obtain⟨⟨a,h1⟩,h⟩:=E2 h;obtain rfl:=B6 h
 have:=Y.growS (fun i=>A0 default) n.toNat (by omega)
 rw[show ((n.toNat:Nat):Int)=n by omega]at this;exact this
def C0 (N:Nat)(s:Sl A3):Option (Sl A3):=if (0+s.n)*8<=140737488355328/\0+s.n<=140737488355328 then some s else none
theorem P0 {s y:Sl A3}(h:C0 N s=some y):FunO S H9 [.p (vSl 2 A0 s)] [] (.vec 0) [.vec B8 2 y.n (fun i=>A0 (y.g i)) true] []:=by
 unfold C0 at h;obtain⟨c1,h⟩:=E2 h;obtain rfl:=B6 h;refine A5 Z func106 ?_;refine Sf Z Gr 3 (k:=2) (n:=s.n) (f:=fun i=>A0 (s.g i)) (fun a=>?_) ?_
 .obtain⟨n,g⟩:=s;obtain rfl:n=0:=a;exact A7 Z Gr ⟨[(2,.vec 3700)],[(3700,.vec B8 2 0 (fun i=>A0 (g i)) true)]⟩ [3700] (ids:=[]) ⟨rfl,rfl,rfl⟩
 exact A7 Z (And.intro Nb c1) ⟨[(2,.vec 8000)],[(8000,.vec B8 2 s.n (fun i=>A0 (s.g i)) true)]⟩ [8000] (ids:=[(8000,8000)]) ⟨rfl,rfl,rfl⟩
  (hle:=klR [(0,.fn (0+s.n) s.n (S2 0 (C9 [pI .u32 0,pI .u32 0] []) (fun i=>A0 (s.g i))) (fun i=>A0 (s.g i)))] (al1 ⟨Au5 _,fun i _=>by simp[S2]⟩ al0))
def K6 (N:Nat)(s:Sl DY):Option (Sl DY):=if (0+s.n)*32<=140737488355328/\0+s.n<=140737488355328 then some s else none
theorem Ai {s y:Sl A3}(h:C0 N s=some y):FunO S H9 [.p (vSl 2 A0 s)] [] (.p (vSl 2 A0 y)) [] []:=by
 unfold C0 at h;obtain⟨c1,h⟩:=E2 h;obtain rfl:=B6 h;refine A5 Z func106 ?_;refine Sf Z Gr 3 (k:=2) (n:=s.n) (f:=fun i=>A0 (s.g i)) (fun a=>?_) ?_
 .obtain⟨n,g⟩:=s;obtain rfl:n=0:=a;exact A7 Z Gr ⟨[(2,.p (vSl 2 A0 ⟨0,g⟩))],[]⟩ [] (ids:=[]) ⟨rfl,rfl,rfl⟩
 exact A7 Z (And.intro Nb c1) ⟨[(2,.p (vSl 2 A0 s))],[]⟩ [] (ids:=[]) ⟨rfl,rfl,rfl⟩
  (hle:=klR [(0,.fn (0+s.n) s.n (S2 0 (C9 [pI .u32 0,pI .u32 0] []) (fun i=>A0 (s.g i))) (fun i=>A0 (s.g i)))] (al1 ⟨Au5 _,fun i _=>by simp[S2]⟩ al0))
theorem Br {s y:Sl DY}(h:K6 N s=some y):FunO S R0 [.p (vSl 6 V8 s)] [] (.p (vSl 6 V8 y)) [] []:=by
 unfold K6 at h;obtain⟨c1,h⟩:=E2 h;obtain rfl:=B6 h;refine A5 Z func107 ?_;refine Sf Z Gr 3 (k:=6) (n:=s.n) (f:=fun i=>V8 (s.g i)) (fun a=>?_) ?_
 .obtain⟨n,g⟩:=s;obtain rfl:n=0:=a;exact A7 Z Gr ⟨[(2,.p (vSl 6 V8 ⟨0,g⟩))],[]⟩ [] (ids:=[]) ⟨rfl,rfl,rfl⟩
 exact A7 Z (And.intro Nb c1) ⟨[(2,.p (vSl 6 V8 s))],[]⟩ [] (ids:=[]) ⟨rfl,rfl,rfl⟩
  (hle:=klR [(0,.fn (0+s.n) s.n (S2 0 (C9 [pI .i64 0,pI .u32 0,pI .u32 0,pI .u32 0,pI .u32 0,pI .i64 0] []) (fun i=>V8 (s.g i))) (fun i=>V8 (s.g i)))] (al1 ⟨Au5 _,fun i _=>by simp[S2]⟩ al0))
end
end Go.AM
set_option maxRecDepth 100000
namespace Go.AM
open Go.Proofs.Tryz
open Go.Proofs
def We (v:Value)(w:World):(Instr.typeAssert (.iface 235 v) 20 235 true).run Tryz.prog w=.ok (.tuple #[v,.bool true]) w:=by kernel_rfl
def Uf (p:Value)(w:World):CallsDIn Fence.wide 0 Tryz.prog T3 #[p] .returning w fun e u' w'=>e=.returned (.tuple #[])/\u' = .returning/\w' = w:=by
 refine callsDIn_of_wpSIn func94 rfl (by simp[Fence.wide]) fun c₀ cs a=>?_;apply wpSIn_seq;apply wpSIn_region;simp[wpOpsSIn,go_sem,recoverD,a,f94,Exit.thenS];refine wpSIn_of_wpIn rfl (wpIn_block (wpIn_seq (wpIn_region ?_)));simp[wpOpsIn,Oper.wpIn,Oper.semAt,Oper.uponIn,go_sem,Exit.then];refine wpIn_cond (t:=true) (by simp[Act.eval]) ?_;simp only[Fe];refine wpIn_region ?_;simp[wpOpsIn,Oper.wpIn,Oper.semAt,Oper.uponIn,go_sem,Exit.inBlock,bodyPostS,results];cases c₀
 simp_all
def LR (p:Value)(c:Int)(older:List PanicEntry)(w w1:World)(a:(Instr.storeAt 39 p (.int .i64 c)).run Tryz.prog w=.ok () w1)(hn:∃b,p=.pointer (some b)) :CallsDIn Fence.wide 0 Tryz.prog T3 #[p] (.panicking ({ v:=.iface 235 (.int .i64 c),recovered:=false }::older)) w fun e u' w'=>
  e=.returned (.tuple #[])/\u' = .panicking ({ v:=.iface 235 (.int .i64 c),recovered:=true }::older)/\w' = w1:=by
 obtain⟨b,rfl⟩:=hn;refine callsDIn_of_wpSIn func94 rfl (by simp[Fence.wide]) fun c₀ cs d=>?_;apply wpSIn_seq;apply wpSIn_region;simp[wpOpsSIn,go_sem,recoverD,d,f94,Exit.thenS];refine wpSIn_of_wpIn rfl (wpIn_block (wpIn_seq (wpIn_region ?_)));simp[wpOpsIn,Oper.wpIn,Oper.semAt,Oper.uponIn,go_sem,Exit.then];refine wpIn_cond (t:=false) (by simp[Act.eval]) ?_;simp only[As2,Ge];refine wpIn_seq (wpIn_region ?_);simp[wpOpsIn,Oper.wpIn,Oper.semAt,Oper.uponIn,go_sem,Exit.then,We];refine wpIn_cond (t:=true) (by simp[Act.eval]) ?_;simp only[Fe];refine wpIn_seq (wpIn_region ?_);simp[wpOpsIn,Oper.wpIn,Oper.semAt,Oper.uponIn,go_sem,Exit.then];refine wpIn_region ?_;simp[wpOpsIn,Oper.wpIn,Oper.semAt,Oper.uponIn,go_sem,a,Exit.inBlock,bodyPostS,results];simp[go_sem]at a;rw[a];simp[Result.andThen]
noncomputable def Ai2:Code:=match Tryz.f93.body with
 |some (.seq _ c)=>c
 |_=>.skip
def Ag7 {S:S6}(Z:G1 S Tryz.prog){a:Sl Law}{b y:Sl A3}(c:FunO S I8 [.p (vSl 18 B4 a),.p (vSl 2 A0 b)] [] (.p (vSl 2 A0 y)) [] []) :KG S Tryz.prog (Pv S (fun st=>J6 [0,1,2,3] st.regs [0,1,2,3]=some (Ue 0 a b (vSl 2 A0 y))) fun _ _=>False) (.code Ai2 [] ⟨argEnv Zu,objRegs (Ue 0 a b F6)⟩):=by refine B7 Z [] Gr c ?_;exact K_upN Z Gr ⟨[],[(3,.cells [.p (vSl 2 A0 y)]),(2,.cells [.p (vSl 2 A0 b)]),(1,.cells [.p (vSl 18 B4 a)]),(0,.cells [pN 0])]⟩ (ids:=[(0,0),(1,1),(2,2),(3,3)]) rfl
def XH {S:S6}(Z:G1 S Tryz.prog){a:Sl Law}{b:Sl A3}{c:Int}(d:S.F I8 [.p (vSl 18 B4 a),.p (vSl 2 A0 b)] [] fun res o k=>res=.panic (.iface 235 (pI .i64 c))/\o=[]/\k=[]) :KG S Tryz.prog (Pv S (fun _=>False) fun x st=>x=.iface 235 (pI .i64 c)/\store Tryz.prog st.regs 39 (.reg 0 0) (.p (pI .i64 c))=some ([],ins 0 (.cells [pN c]) st.regs)/\J6 [0,1,2,3] (ins 0 (.cells [pN c]) st.regs) [0,1,2,3]=some (Ue c a b F6)) (.code Ai2 [] ⟨argEnv Zu,objRegs (Ue 0 a b F6)⟩):=by refine Ag2 Z [] Gr d ?_;exact K_upP Z Gr ⟨rfl,by kernel_rfl,by kernel_rfl⟩
noncomputable def att1:Code:=match Tryz.f93.body with
 |some (.seq c _)=>c
 |_=>.skip
noncomputable def attOps:Array Oper:=match Ai2 with
 |.region _ ops _=>ops
 |_=>#[]
def Vj:Ai2=.region 1 attOps false:=by kernel_rfl
def Ao5:attOps.toList.all (HS 7 attOps.toList)=true:=by kernel_rfl
def Zv:¬Tryz.f93.name = "runtime.NumGoroutine" := by decide +kernel
def Vk:Tryz.f93.body=some (.seq att1 Ai2):=by kernel_rfl
def Ag8 {C:Ctx}{vs:Array Value}{w:World}{rho:Nat->Value}{args:List AV}{objs:List Obj}{n:Nat}(Z:Sat C ⟨argEnv args,objRegs objs⟩ ⟨vs,[]⟩ w rho)(a:vs.size=args.length) :Sat C ⟨argEnv args,objRegs objs⟩ { tmps:=vs++Array.replicate n undef,defers:=[] } w rho:=by
 refine⟨Z.toSatE,fun t=>?_,Z.pin,Z.marks⟩
 have:=Z.env t
 by_cases b:t<vs.size
 .simpa[Ar2,Ay2,b]using this
 show RepA w _ _ _ _ (get (argEnv args) t);rw[Ab,Ar3,Av1 (by omega)];exact .top _
def Nx {R:St->Prop}{X:PV->St->Prop}{a:Sl Law}{b:Sl A3}{objs' : List Obj}
 (a1:KG (EO Tryz.prog) Tryz.prog (Pv (EO Tryz.prog) R X) (.code Ai2 [] ⟨argEnv Zu,objRegs (Ue 0 a b F6)⟩))
 (hR:∀st,R st->J6 [0,1,2,3] st.regs [0,1,2,3]=some objs')
 (hX:∀x st,X x st->∃c regs',x=.iface 235 (pI .i64 c)/\store Tryz.prog st.regs 39 (.reg 0 0) (.p (pI .i64 c))=some ([],regs')/\J6 [0,1,2,3] regs' [0,1,2,3]=some objs') :
 FunO (EO Tryz.prog) K3 Zu (Ue 0 a b F6) (.tup []) objs' [true,true,true,true]:=by
 intro 𝒢 C w vs rho hG Z t;obtain⟨l⟩:=vs
 match l,t with
 |[v0,v1,v2,v3],t=>?_
 refine⟨.enter K3 #[v0,v1,v2,v3],w,by simp[callFunc,func93,Vk,Zv],?_⟩;refine callsIn_of_wp_marks func93 Vk Gr ?_;have a2:=Ag8 (n:=Tryz.f93.ntmps-4) Z t;have a9:Tryz.f93.ntmps-4=3:=rfl;rw[a9]at a2;have b1:((#[v0,v1,v2,v3]:Array Value)++Array.replicate 3 undef).size=7:=rfl;have hw:HM (EO Tryz.prog) Tryz.prog attOps.toList attOps.toList (Pv (EO Tryz.prog) R X) ⟨argEnv Zu,objRegs (Ue 0 a b F6)⟩:=by
  have:=a1.out
  rw[Vj]at this;simpa only[G,awp,kp,As2,Ge]using this
 have a4:=MF (𝒢:=𝒢.fix C.rho0) (n:=7) (ro:=none) (ops:=attOps) Ao5 attOps.toList 0 rfl (by simp) ⟨hG,rfl⟩ a2 b1 hw;have a5:=JM [{ target:=.fn (.func T3) #[],args:=#[v0] }] _ _ _ a4;rw[List.drop_zero]at a5;obtain⟨b0,a6,u⟩:∃b0,v0=.pointer (some ⟨b0,0,none⟩)/\rho 0=.pointer (some ⟨b0,0,none⟩):=by
  have h0:RepA w _ _ rho v0 (.reg 0 0):=Z.env 0;cases h0 with
  |reg _ _ b0 _ h=>exact⟨b0,rfl,h⟩
 have s:∀{C' : Ctx}{st' : St}{a' : Act}{w' : World}{rho' : Nat->Value},(𝒢.fix C.rho0).G C' -> Sat C' st' a' w' rho' -> J6 [0,1,2,3] st'.regs [0,1,2,3]=some objs' ->
  LeavesInM Fence.wide 0 Tryz.prog f93 a'.tmps (fun e w'=>∃C' r objs0 ks rho', 𝒢.G C' /\ (r=.ret (.tup [])/\objs0=objs' /\ ks=[true,true,true,true])/\SatE C' (objRegs objs0) w' rho' /\
   XV w' (Prv C'.X (A2 (objRegs objs0)) rho') (Lv (A2 (objRegs objs0))) rho' e r/\∀i:Nat,ks[i]? = some true->i<objs0.length/\rho' i=rho i) [] .returning w':=by
  intro C' st' a' w' rho' d f m;obtain⟨g1,g2,g3⟩:=MG f (by decide) m;obtain⟨hl,hg⟩:=Ac m;refine⟨.tuple #[],by simp[results,f93],C', .ret (.tup []),objs',_,_,d.1,⟨rfl,rfl,rfl⟩,g1,⟨_,rfl,.tup _ _ rfl fun i hi=>Eu hi (by simp)⟩,?_⟩;intro i hi;have y:i<4:=by
   have:=(As5.1 hi).1
   simpa using this
  refine⟨by rw[hl];exact y,?_⟩;have e1:[0,1,2,3][i]? = some i:=by
   match i,y with
   |0,_=>rfl
   |1,_=>rfl
   |2,_=>rfl
   |3,_=>rfl
  obtain⟨o,_,ho,_⟩:=hg i i e1;show rho' ([0,1,2,3].getD i 0)=rho i;rw[CE e1,f.pin i (by omega) (by simp[Lv,ho]),d.2];refine (Z.pin i (by omega) ?_).symm;rw[Lv,E3]
  match i,y with
  |0,_=>rfl
  |1,_=>rfl
  |2,_=>rfl
  |3,_=>rfl
 generalize hQ:bodyPostM _ _ _ _ _=QQ;refine wpIn_seq ?_;simp only[att1,f93];refine wpIn_region ?_;simp[wpOpsIn,Oper.wpIn,Oper.semAt,Oper.uponIn,go_sem,Exit.then];subst hQ;rw[Vj];refine wpIn_mono (wpIn_region (F:=FW none) a5) ?_;rintro e a' w' ⟨a0,rfl,z⟩;cases e with
 |exit id=>obtain⟨_,_,_,_,_,_,h⟩:=z;exact h.elim
 |goto l=>obtain⟨_,_,_,_,_,_,h⟩:=z;exact h.elim
 |ret=>obtain⟨_,_,_,_,_,_,h⟩:=z;exact h.elim
 |outgrown=>exact z.elim
 |normal=>
  obtain⟨C',st',rho',d,f,a7,hu⟩:=z;obtain⟨st2,rho2,hR2,_,hs2⟩:=hu C' a0 w' rho' f;refine FB (C:=C') (st:=st2) (rho:=rho2) (by simp) ?_ a0.defers a0 w' rfl rfl hs2;intro a3 w3 q ht;refine⟨by simp,.inr ⟨by simp[Fence.wide],_,_,T3,#[v0],rfl,by simp[go_sem],fun _ _=>trivial,?_⟩⟩;refine (Uf v0 w3).mono ?_;rintro e u' w4 ⟨rfl,rfl,rfl⟩
  have:=s d q (hR st2 hR2)
  rw[ht]at this;exact this
 |panic chain=>
  obtain⟨C',st',rho',v,x,rfl,d,f,a7,hv,hXx⟩:=z;obtain⟨c,regs',rfl,g,m⟩:=hX x st' hXx;obtain rfl:v=.iface 235 (.int .i64 c):=by
   cases hv with
   |iface _ _ _ h=>cases h;rfl
  refine FB (C:=C') (st:=st') (rho:=rho') (by simp) ?_ a0.defers a0 w' rfl rfl f;intro a3 w3 q ht;have j:Lv (A2 st'.regs) 0:=by
   cases hj:A2 st'.regs 0 with
   |some o=>simp[Lv,hj]
   |none=>
    unfold store at g;split at g
    .simp[hj]at g
    cases g
  have hr0:rho' 0=.pointer (some ⟨b0,0,none⟩):=by rw[q.pin 0 (by omega) j,d.2,<- u];exact (Z.pin 0 (by omega) rfl).symm
  have hva:RS C' st' w3 rho' v0 (.reg 0 0):=by rw[a6];exact .reg 0 0 b0 j hr0
  obtain⟨w4,a8,hs4,_⟩:=Mq q (vx:=.int .i64 c) hva (.p _ _ (.v _)) g Gr;refine⟨by simp,.inr ⟨by simp[Fence.wide],_,_,T3,#[v0],rfl,by simp[go_sem],fun _ _=>trivial,?_⟩⟩;refine (LR v0 c [] w3 w4 a8 ⟨_,a6⟩).mono ?_;rintro e u' w5 ⟨rfl,rfl,rfl⟩
  have:=s d hs4 m
  rw[ht]at this;exact this
def Ug {a:Sl Law}{b y:Sl A3}(c:FunO (EO Tryz.prog) I8 [.p (vSl 18 B4 a),.p (vSl 2 A0 b)] [] (.p (vSl 2 A0 y)) [] []) :FunO (EO Tryz.prog) K3 Zu (Ue 0 a b F6) (.tup []) (Ue 0 a b (vSl 2 A0 y)) [true,true,true,true]:=
 Nx (Ag7 (good Tryz.prog) c) (fun st h=>h) (fun x st h=>h.elim)
def QR {a:Sl Law}{b:Sl A3}{c:Int}(d:(EO Tryz.prog).F I8 [.p (vSl 18 B4 a),.p (vSl 2 A0 b)] [] fun res o k=>res=.panic (.iface 235 (pI .i64 c))/\o=[]/\k=[]) :FunO (EO Tryz.prog) K3 Zu (Ue 0 a b F6) (.tup []) (Ue c a b F6) [true,true,true,true]:=
 Nx (XH (good Tryz.prog) d) (fun st h=>h.elim) (fun x st h=>⟨c,_,h.1,h.2.1,h.2.2⟩)
end Go.AM
namespace Go.AM
open Go.Proofs.Tryz
variable {N:Nat}
open IntKind (wrap)
open Go.Proofs
set_option maxRecDepth 10000
set_option maxHeartbeats 2000000
variable {S:S6}(Z:G1 S Tryz.prog) (Y:Jn S)
include Z Y
def K7 (N:Nat)(a:A3):Option Bool:= some (((P3 .and .u32 a.Plus a.Minus)==0)&&(decide ((P3 .or .u32 a.Plus a.Minus)<=16777215)))
theorem P5 {b:A3}{y:Bool}(h:K7 N b=some y) :FunO S JZ [.p (.agg (A0 b))] [] (pB y) ([]) []:=by unfold K7 at h;refine A5 Z func101 ?_;refine kB Z (B2 Z) Gr Gr 7 (.n (.a ((P3 .and .u32 b.Plus b.Minus)==0)) (.a (decide ((P3 .or .u32 b.Plus b.Minus)<=16777215)))) ?_;cases h;exact kR Z
def BV (N:Nat)(b:A3)(a:A3):Option Bool:= (K7 N b).bind fun y1=>lt (fun (z1:Bool)=>some z1) fun k1=>if y1 then (K7 N a).bind fun y3=>if y3 then if ((P3 .andNot .u32 a.Plus b.Plus)==0) then k1 ((P3 .andNot .u32 a.Minus b.Minus)==0) else k1 false else k1 false else k1 false
theorem KP {c:A3}{a:A3}{y:Bool}(h:BV N c a=some y) :FunO S Fi [.p (.agg (A0 c)),.p (.agg (A0 a))] [] (pB y) ([]) []:=by
 unfold BV at h;refine A5 Z func179 ?_;refine kC Z h (P5 Z Y) (fun y1 h=>?_);refine MS Z Gr (B2 Z) h 0 (fun z1=>⟨[(4,pB z1)],[]⟩) (fun M1 k1 b h=>?_) (fun z1 h=>?_)
 .refine kG Z h (fun h=>?_) (fun h=>?_)
  .refine kC Z h (P5 Z Y) (fun y3 h=>?_);refine kG Z h (fun h=>?_) (fun h=>?_)
   .refine kG Z h (fun h=>?_) (fun h=>?_)
    .exact b _ [] _ ((P3 .andNot .u32 a.Minus c.Minus)==0) Gr h
    exact b _ [] _ false Gr h
   exact b _ [] _ false Gr h
  exact b _ [] _ false Gr h
 cases h;exact kR Z
def FJ (N:Nat)(a:A3):Option Int:= some (P3 .or .u32 a.Plus a.Minus)
theorem Ny {a:A3}{y:Int}(h:FJ N a=some y) :FunO S Ns [.p (.agg (A0 a))] [] (pU y) ([]) []:=by unfold FJ at h;refine A5 Z func186 ?_;cases h;exact kR Z
def FK (N:Nat)(c:A3)(b:A3)(a:Int):Option A3:= some (⟨P3 .or .u32 (P3 .andNot .u32 c.Plus a) (P3 .and .u32 b.Plus a),P3 .or .u32 (P3 .andNot .u32 c.Minus a) (P3 .and .u32 b.Minus a)⟩:A3)
theorem Nz {c:A3}{a:A3}{b:Int}{y:A3}(h:FK N c a b=some y) :FunO S Nt [.p (.agg (A0 c)),.p (.agg (A0 a)),pU b] [] (.p (.agg (A0 y))) ([]) []:=by unfold FK at h;refine A5 Z func187 ?_;cases h;exact kR Z
def Ey (N:Nat)(c:A3)(a:Int)(b:A3):Option (A3×Int):= (K7 N c).bind fun y1=>lt (fun (z1:Bool)=>if z1 then some ((⟨0,0⟩:A3),14) else lt (fun (z2:Bool)=>if z2 then some ((⟨0,0⟩:A3),2) else (FJ N b).bind fun y6=>(FK N c b (P3 .or .u32 a y6)).bind fun y7=>some (y7,0)) fun k2=>if (decide (16777215<a)) then k2 true else (FJ N b).bind fun y5=>k2 ((P3 .and .u32 a y5) != 0)) fun k1=>if (!y1) then k1 true else (K7 N b).bind fun y3=>k1 (!y3)
theorem Oy {c:A3}{a:Int}{b:A3}{y:A3×Int}(h:Ey N c a b=some y) :FunO S Iw [.p (.agg (A0 c)),pU a,.p (.agg (A0 b))] [] (.tup [.p (.agg (A0 y.1)),pN y.2]) ([]) []:=by
 unfold Ey at h;refine A5 Z func181 ?_;refine F5 Z Gr 5 4000 [pI .u32 c.Plus,pI .u32 c.Minus] ?_;refine F5 Z Gr 6 6000 [pI .u32 b.Plus,pI .u32 b.Minus] ?_;obtain⟨y1,e1,h⟩:=B1 h;refine B7 Z [] Hc (P5 Z Y e1) ?_;refine MS Z Gr (B2 Z) h 0 (fun z1=>⟨[(15,pB z1),(6,.reg 7000 0),(5,.p (.ptr [pI .u32 b.Plus,pI .u32 b.Minus])),(3,.p (.ptr [pI .u32 c.Plus,pI .u32 c.Minus])),(1,pU a)],[(7000,.cells [pU 0,pU 0])]⟩) (fun M1 k1 d h=>?_) (fun z1 h=>?_)
 .refine kG Z h (fun h=>?_) (fun h=>?_)
  .exact d _ [(7000,7000)] _ true Gr h
  obtain⟨y3,e3,h⟩:=B1 h;refine B7 Z [] Hc (P5 Z Y e3) ?_;exact d _ [(7000,7000)] _ (!y3) Gr h
 apply kI Z h<;>intro h
 .cases h;exact kR Z
 refine MS Z Gr (B2 Z) h 0 (fun z2=>⟨[(25,pB z2),(6,.reg 7000 0),(5,.p (.ptr [pI .u32 b.Plus,pI .u32 b.Minus])),(3,.p (.ptr [pI .u32 c.Plus,pI .u32 c.Minus])),(1,pU a)],[(7000,.cells [pU 0,pU 0])]⟩) (fun M2 k2 f h=>?_) (fun z2 h=>?_)
 .refine kG Z h (fun h=>?_) (fun h=>?_)
  .exact f _ [(7000,7000)] _ true Gr h
  obtain⟨y5,e5,h⟩:=B1 h;refine B7 Z [] Hc (Ny Z Y e5) ?_;exact f _ [(7000,7000)] _ ((P3 .and .u32 a y5) != 0) Gr h
 apply kI Z h<;>intro h
 .cases h;exact kR Z
 refine D6 Z Gr [0,1,3,4,6] ?_;obtain⟨y6,e6,h⟩:=B1 h;refine F7 (And.intro (And.intro Hc Hc) Hc) (Ny Z Y e6) ?_;obtain⟨y7,e7,h⟩:=B1 h;refine F7 Gr (Nz Z Y e7) ?_;refine D8 Gr ?_;cases h;exact kR Z
def Hh (N:Nat)(c:A3)(a:A3)(b:Int):Option (A3×Int):= (K7 N c).bind fun y1=>lt (fun (z1:Bool)=>if z1 then some ((⟨0,0⟩:A3),14) else if (decide (16777215<b)) then some ((⟨0,0⟩:A3),2) else (FK N c a b).bind fun y4=>some (y4,0)) fun k1=>if (!y1) then k1 true else (K7 N a).bind fun y3=>k1 (!y3)
theorem SL {c:A3}{a:A3}{b:Int}{y:A3×Int}(h:Hh N c a b=some y) :FunO S LA [.p (.agg (A0 c)),.p (.agg (A0 a)),pU b] [] (.tup [.p (.agg (A0 y.1)),pN y.2]) ([]) []:=by
 unfold Hh at h;refine A5 Z func182 ?_;refine kC Z h (P5 Z Y) (fun y1 h=>?_);refine MS Z Gr (B2 Z) h 0 (fun z1=>⟨[(15,pB z1),(6,.reg 7000 0),(4,.reg 5000 0),(3,.reg 4000 0),(2,pU b)],[(7000,.cells [pU 0,pU 0]),(5000,.cells [pU a.Plus,pU a.Minus]),(4000,.cells [pU c.Plus,pU c.Minus])]⟩) (fun M1 k1 d h=>?_) (fun z1 h=>?_)
 .refine kG Z h (fun h=>?_) (fun h=>?_)
  .exact d _ [(4000,4000),(5000,5000),(7000,7000)] _ true Gr h
  refine kC Z h (P5 Z Y) (fun y3 h=>?_);exact d _ [(4000,4000),(5000,5000),(7000,7000)] _ (!y3) Gr h
 apply kI Z h<;>intro h
 .cases h;exact kR Z
 apply kI Z h<;>intro h
 .cases h;exact kR Z
 refine kC Z h (Nz Z Y) (fun y4 h=>?_);cases h;exact kR Z
def Hi (N:Nat)(a:A3):Option Bool:= some (((P3 .and .u32 a.Plus a.Minus)==0)&&((shI .shr .u32 (P3 .or .u32 a.Plus a.Minus) 24)==0))
theorem SM {a:A3}{y:Bool}(h:Hi N a=some y) :FunO S Lq [.p (.agg (A0 a))] [] (pB y) ([]) []:=by
 unfold Hi at h;refine A5 Z func42 ?_;obtain⟨t1,c⟩:∃x:Bool,x=(((P3 .and .u32 a.Plus a.Minus)==0)&&((shI .shr .u32 (P3 .or .u32 a.Plus a.Minus) 24)==0)):=⟨_,rfl⟩;refine Xs Z Gr (B2 Z) 0 ⟨[(2,pB t1)],[]⟩ (fun M1 d=>?_) ?_
 .refine IS Z Gr (b:=(P3 .and .u32 a.Plus a.Minus)==0) (fun c2=>?_) (fun c2=>?_)
  .exact d _ [] _ (by decide:(0:Int)<=24) (hle:=klR [(0,.eq (.bb ((shI .shr .u32 (P3 .or .u32 a.Plus a.Minus) 24)==0)) (.bb t1))] (al1 (by simp only[c,c2,Leaf.ok,pm,Fe,Ge]) al0))
  exact d _ [] _ Gr (hle:=klR [(0,.eq (.bb false) (.bb t1))] (al1 (by simp only[c,c2,Leaf.ok,pm,Fe,Ge]) al0))
 subst c;cases h;exact kR Z
def Bm (N:Nat)(a:Sl A3):Option Int:= if (decide (32<(a.n:Int))) then some 11 else Cd N (fun b (x1:Int)=>if (decide (x1<(a.n:Int))) then if ((0:Int)<=x1/\x1<(a.n:Int))then (Hi N (a.g x1.toNat)).bind fun y3=>if (!y3) then some 14 else b (wrap .i64 (x1+1)) else none else some 0) 0
theorem Ef {a:Sl A3}{y:Int}(h:Bm N a=some y) :FunO S Ln [.p (vSl 2 A0 a)] [] (pN y) ([]) []:=by
 unfold Bm at h;refine A5 Z func21 ?_;apply kI Z h<;>intro h
 .cases h;exact kR Z
 refine S9 Z Gr h (fun x1=>⟨[(10,pN x1),(9,pN (a.n:Int)),(8,.p (vSl 2 A0 a))],[]⟩) (ids:=[]) (fun _ _ _ _ _ b x1 c h=>?_);apply kI Z h<;>intro h
 .obtain⟨c9,h⟩:=E2 h;obtain⟨y3,e3,h⟩:=B1 h;refine B7 Z [] (And.intro c9 Hc) (SM Z Y e3) ?_;apply kI Z h<;>intro h
  .cases h;exact kR Z
  exact c _ [] _ (wrap .i64 (x1+1)) Gr h
 cases h;exact kR Z
def I0 (N:Nat)(a:Sl A3)(b:Sl A3):Option Bool:= if ((a.n:Int) != (b.n:Int)) then some false else Cd N (fun c (x1:Int)=>if (decide (x1<(a.n:Int))) then if (((0:Int)<=x1/\x1<(a.n:Int))/\((0:Int)<=x1/\x1<(b.n:Int)))then if ((((a.g x1.toNat).Plus==(b.g x1.toNat).Plus)&&((a.g x1.toNat).Minus==(b.g x1.toNat).Minus)) != true) then some false else c (wrap .i64 (x1+1)) else none else some true) 0
theorem Ay {a:Sl A3}{b:Sl A3}{y:Bool}(h:I0 N a b=some y) :FunO S O5 [.p (vSl 2 A0 a),.p (vSl 2 A0 b)] [] (pB y) ([]) []:=by
 unfold I0 at h;refine A5 Z func60 ?_;apply kI Z h<;>intro h
 .cases h;exact kR Z
 refine S9 Z Gr h (fun x1=>⟨[(13,pN x1),(12,pN (a.n:Int)),(1,.p (vSl 2 A0 b)),(0,.p (vSl 2 A0 a))],[]⟩) (ids:=[]) (fun _ _ _ _ _ c x1 d h=>?_);apply kI Z h<;>intro h
 .refine D6 Z Gr [2,3,6,7] ?_;obtain⟨c9,h⟩:=E2 h;refine D8 (And.intro (And.intro (And.intro (And.intro c9.1 Hc) c9.2) Hc) (by decide +kernel:OL Tryz.prog B8=true)) ?_;apply kI Z h<;>intro h
  .cases h;exact kR Z
  exact d _ [] _ (wrap .i64 (x1+1)) Gr h
 cases h;exact kR Z
def Eg (N:Nat)(a:Sl A3)(b:Sl A3):Option Bool:= (I0 N a b).bind fun y1=>some y1
theorem LB {a:Sl A3}{b:Sl A3}{y:Bool}(h:Eg N a b=some y) :FunO S Lp [.p (vSl 2 A0 a),.p (vSl 2 A0 b)] [] (pB y) ([]) []:=by unfold Eg at h;refine A5 Z func38 ?_;refine kC Z h (Ay Z Y) (fun y1 h=>?_);cases h;exact kR Z
def Bn (N:Nat)(a:A3):Option Bool:= some (((P3 .and .u32 a.Plus a.Minus)==0)&&((shI .shr .u32 (P3 .or .u32 a.Plus a.Minus) 24)==0))
theorem Eh {a:A3}{y:Bool}(h:Bn N a=some y) :FunO S Ly [.p (.agg (A0 a))] [] (pB y) ([]) []:=by
 unfold Bn at h;refine A5 Z func159 ?_;obtain⟨t1,c⟩:∃x:Bool,x=(((P3 .and .u32 a.Plus a.Minus)==0)&&((shI .shr .u32 (P3 .or .u32 a.Plus a.Minus) 24)==0)):=⟨_,rfl⟩;refine Xs Z Gr (B2 Z) 0 ⟨[(2,pB t1)],[]⟩ (fun M1 d=>?_) ?_
 .refine IS Z Gr (b:=(P3 .and .u32 a.Plus a.Minus)==0) (fun c2=>?_) (fun c2=>?_)
  .exact d _ [] _ (by decide:(0:Int)<=24) (hle:=klR [(0,.eq (.bb ((shI .shr .u32 (P3 .or .u32 a.Plus a.Minus) 24)==0)) (.bb t1))] (al1 (by simp only[c,c2,Leaf.ok,pm,Fe,Ge]) al0))
  exact d _ [] _ Gr (hle:=klR [(0,.eq (.bb false) (.bb t1))] (al1 (by simp only[c,c2,Leaf.ok,pm,Fe,Ge]) al0))
 subst c;cases h;exact kR Z
def Y9 (N:Nat)(b:Int):Option (Nat->Int):= DX N (fun a (x1:Nat->Int) (x2:Int)=>if (decide (x2<(wrap .i64 (b+1)))) then if (((0:Int)<=x2/\((0:Int)<=x2/\x2<33))/\(0+x2.toNat*1)<33)then a (NX x1 (0+x2.toNat*1) (shI .shl .u64 1 x2)) (wrap .i64 (x2+1)) else none else some x1) (fun _=>0) 0
theorem DH {a:Int}{y:Nat->Int}(h:Y9 N a=some y) :FunO S Hf [pN a] [] (.p (.agg (cA 33 (pI .u64) y))) ([]) []:=by
 unfold Y9 at h;refine A5 Z func218 ?_;refine N1 Z Gr h (fun x1 x2=>⟨[(7,pN x2),(6,pN (wrap .i64 (a+1))),(3,.reg 4000 0),(2,.reg 3000 0)],[(4000,.arr 33 (fun i=>pI .u64 (x1 i))),(3000,.arr 33 (fun i=>pI .u64 ((fun _=>0) i)))]⟩) (ids:=[(3000,3000),(4000,4000)]) (fun _ _ _ _ _ b x1 x2 d h=>?_) (hle:=klR [(2,.fn 33 33 (fun i=>[(fun i=>(List.replicate 33 (pI .u64 0)).getD i default) i]) (fun i=>[pI .u64 ((fun _=>0) i)])),(3,.fn 33 33 (fun i=>[(fun i=>(List.replicate 33 (pI .u64 0)).getD i default) i]) (fun i=>[pI .u64 ((fun _=>0) i)]))] (al1 ⟨rfl,BS (z:=pI .u64 0) rfl⟩ (al1 ⟨rfl,BS (z:=pI .u64 0) rfl⟩ al0)));apply kI Z h<;>intro h
 .obtain⟨c4,h⟩:=E2 h;exact d _ [(3000,3000),(4000,4000)] _ (NX x1 (0+x2.toNat*1) (shI .shl .u64 1 x2)) (wrap .i64 (x2+1)) c4 h (hle:=klR [(2,.fn 33 33 (fun i=>[(fun i=>if i=(0+x2.toNat*1)then (pI .u64 (shI .shl .u64 1 x2))else (fun i=>pI .u64 (x1 i)) i) i]) (fun i=>[pI .u64 (NX x1 (0+x2.toNat*1) (shI .shl .u64 1 x2) i)]))] (al1 ⟨rfl,Af6 (c:=pI .u64) (v:=x1) (x:=shI .shl .u64 1 x2) (fun _ _=>rfl) rfl⟩ al0))
 obtain rfl:=B6 h;exact A7 Z (And.intro rfl (F2 _ _):(0:Nat)=0/\(CB 33 (fun i=>pI .u64 (x1 i))).length=33) ⟨[(2,.reg 3000 0)],[(3000,.arr 33 (fun i=>pI .u64 (x1 i)))]⟩ [] (ids:=[(3000,3000)]) ⟨rfl,rfl,rfl⟩ (hle:=klR [(0,.fn 33 33 (fun i=>[(fun i=>(cA 33 (pI .u64) x1).getD i default) i]) (fun i=>[pI .u64 (x1 i)]))] (al1 ⟨rfl,E4 33 (fun i=>pI .u64 (x1 i))⟩ al0))
def X6 (N:Nat)(p_x:Nat->Int)(b:Nat->Int):Option (Nat->Int):= DX N (fun a (x1:Nat->Int) (x2:Int)=>if (decide (x2<33)) then if (((0:Int)<=x2/\x2<33)/\(0+x2.toNat*1)<33)then if (((((0:Int)<=x2/\x2<33)/\(0+x2.toNat*1)<33)/\((0:Int)<=x2/\x2<33))/\(0+x2.toNat*1)<33)then a (NX x1 (0+x2.toNat*1) (P3 .or .u64 (x1 (0+x2.toNat*1)) (b (0+x2.toNat*1)))) (wrap .i64 (x2+1)) else none else none else some x1) p_x 0
theorem Ei {p_x:Nat->Int}{a:Nat->Int}{y:Nat->Int}(h:X6 N p_x a=some y) :FunO S Ee [.reg 0 0,.reg 1 0] [.arr 33 (fun i=>pI .u64 (p_x i)),.arr 33 (fun i=>pI .u64 (a i))] (.tup []) ([.arr 33 (fun i=>pI .u64 (y i)),.arr 33 (fun i=>pI .u64 (a i))]) [true,true]:=by
 unfold X6 at h;refine A5 Z func216 ?_;refine N1 Z Gr h (fun x1 x2=>⟨[(7,pN x2),(6,.reg 1 0),(0,.reg 0 0)],[(1,.arr 33 (fun i=>pI .u64 (a i))),(0,.arr 33 (fun i=>pI .u64 (x1 i)))]⟩) (ids:=[(0,0),(1,1)]) (fun _ _ _ _ _ b x1 x2 d h=>?_);apply kI Z h<;>intro h
 .refine Dx Z Gr ?_;obtain⟨c8,h⟩:=E2 h;refine D8 c8 ?_;refine Dx Z Gr ?_;obtain⟨c9,h⟩:=E2 h;refine D8 c9 ?_;exact d _ [(0,0),(1,1)] _ (NX x1 (0+x2.toNat*1) (P3 .or .u64 (x1 (0+x2.toNat*1)) (a (0+x2.toNat*1)))) (wrap .i64 (x2+1)) Gr h (hle:=klR [(2,.fn 33 33 (fun i=>[(fun i=>if i=(0+x2.toNat*1)then (pI .u64 (P3 .or .u64 (x1 (0+x2.toNat*1)) (a (0+x2.toNat*1))))else (fun i=>pI .u64 (x1 i)) i) i]) (fun i=>[pI .u64 (NX x1 (0+x2.toNat*1) (P3 .or .u64 (x1 (0+x2.toNat*1)) (a (0+x2.toNat*1))) i)]))] (al1 ⟨rfl,Af6 (c:=pI .u64) (v:=x1) (x:=P3 .or .u64 (x1 (0+x2.toNat*1)) (a (0+x2.toNat*1))) (fun _ _=>rfl) rfl⟩ al0))
 obtain rfl:=B6 h;exact A7 Z Gr ⟨[],[(1,.arr 33 (fun i=>pI .u64 (a i))),(0,.arr 33 (fun i=>pI .u64 (x1 i)))]⟩ [0,1] (ids:=[(0,0),(1,1)]) ⟨rfl,rfl,rfl⟩
def Dd (N:Nat)(b:Sl A3)(a:Int):Option Int:= if ((decide (a<0))||(decide ((b.n:Int)<a))) then some 3 else some 0
theorem Ki {c:Sl A3}{b:Int}{y:Int}(h:Dd N c b=some y) :FunO S Kg [.p (vSl 2 A0 c),pN b] [] (pN y) ([]) []:=by
 unfold Dd at h;refine A5 Z func189 ?_;refine kB Z (B2 Z) Gr Gr 5 (.o (.a (decide (b<0))) (.a (decide ((c.n:Int)<b)))) ?_;apply kI Z h<;>intro h
 .cases h;exact kR Z
 cases h;exact kR Z
def Ez (N:Nat)(a:Pat):Option Int:= if (if (a.Kind==0) then a.Kind==0 else (if (a.Kind==2) then a.Kind==2 else a.Kind==6)) then lt (fun (z1:Bool)=>if z1 then some 2 else (Bn N a.Is).bind fun y1=>if (!y1) then some 14 else some 0) fun k1=>if (((a.Is.Plus==0)&&(a.Is.Minus==0)) != true) then k1 true else if a.Not then k1 true else if (a.Min != 0) then k1 true else if (a.Max != 0) then k1 true else k1 (decide (0<(a.L.n:Int))) else if (a.Kind==1) then lt (fun (z2:Bool)=>if z2 then some 2 else (Bn N a.Is).bind fun y2=>if (!y2) then some 14 else some 0) fun k2=>if (((0==0)&&(0==0)) != true) then k2 true else if (a.Min != 0) then k2 true else if (a.Max != 0) then k2 true else k2 (decide (0<(a.L.n:Int))) else lt (fun (z3:Int×Int)=>if (((((((a.Is.Plus==0)&&(a.Is.Minus==0)) != true)||a.Not)||(z3.1 != 0))||(z3.2 != 0))||(decide (0<0))) then some 2 else (Bn N a.Is).bind fun y3=>if (!y3) then some 14 else some 0) fun k3=>if (if (a.Kind==3) then a.Kind==3 else a.Kind==4) then k3 (a.Min,a.Max) else if (a.Kind==5) then if (((((a.L.n:Int) != 1)||(decide (a.Min<0)))||(decide (32<a.Min)))||((a.Max != (-1))&&((decide (a.Max<a.Min))||(decide (32<a.Max))))) then some 2 else k3 (0,0) else some 2
theorem Oz {c:Pat}{y:Int}(h:Ez N c=some y) :FunO S Iv [.p (.agg (E8 c))] [] (pN y) ([]) []:=by
 unfold Ez at h;refine A5 Z func147 ?_;obtain⟨t1,f⟩:∃x:Bool,x=(if (c.Kind==0) then c.Kind==0 else (if (c.Kind==2) then c.Kind==2 else c.Kind==6)):=⟨_,rfl⟩;refine Xs Z Gr (B2 Z) 0 ⟨[(8,pB t1),(7,pN c.Kind),(3,.reg 4000 0),(1,.reg 2000 0)],[(4000,.cells [pN 0,pU c.Is.Plus,pU c.Is.Minus,pB c.Not,pN c.Min,pN c.Max,.p (.sl false 7 c.L.n (GP c))]),(2000,.cells ((E8 c).map .p))]⟩ (fun M1 l=>?_) ?_
 .refine D2 Z Gr (b:=c.Kind==0) (fun c3=>?_) (fun c3=>?_)
  .exact l _ [(2000,2000),(4000,4000)] _ Gr (hle:=klR [(0,.eq (.bb (c.Kind==0)) (.bb t1))] (al1 (by simp only[f,c3,Leaf.ok,pm,Fe,Ge]) al0))
  refine D2 Z Gr (b:=c.Kind==2) (fun c4=>?_) (fun c4=>?_)
  .exact l _ [(2000,2000),(4000,4000)] _ Gr (hle:=klR [(0,.eq (.bb (c.Kind==2)) (.bb t1))] (al1 (by simp only[f,c3,c4,Leaf.ok,pm,Fe,Ge]) al0))
  exact l _ [(2000,2000),(4000,4000)] _ Gr (hle:=klR [(0,.eq (.bb (c.Kind==6)) (.bb t1))] (al1 (by simp only[f,c3,c4,Leaf.ok,pm,Fe,Ge]) al0))
 subst f;apply kI Z h<;>intro h
 .refine MS Z (by decide +kernel:OL Tryz.prog B8=true) (B2 Z) h 0 (fun z1=>⟨[(57,pB z1),(1,.reg 2000 0)],[(2000,.cells ((E8 c).map .p))]⟩) (fun M3 k1 d h=>?_) (fun z1 h=>?_)
  .refine kG Z h (fun h=>?_) (fun h=>?_)
   .exact d _ [(2000,2000)] _ true Gr h
   refine kG Z h (fun h=>?_) (fun h=>?_)
   .exact d _ [(2000,2000)] _ true Gr h
   refine kG Z h (fun h=>?_) (fun h=>?_)
   .exact d _ [(2000,2000)] _ true Gr h
   refine kG Z h (fun h=>?_) (fun h=>?_)
   .exact d _ [(2000,2000)] _ true Gr h
   refine O2 Z Gr 79 ⟨[(78,.p (vSl 7 E8 c.L)),(76,.p (.v (.bool false))),(1,.reg 2000 0)],[(2000,.cells ((E8 c).map .p))]⟩ (ids:=[(2000,2000)]) ?_ (hle:=klR [(0,.fn c.L.n c.L.n (GP c) (fun i=>E8 (c.L.g i)))] (al1 ⟨rfl,FC c⟩ al0));exact d _ [(2000,2000)] _ (decide (0<(c.L.n:Int))) Gr h
  apply kI Z h<;>intro h
  .cases h;exact kR Z
  refine kC Z h (Eh Z Y) (fun y1 h=>?_);apply kI Z h<;>intro h
  .cases h;exact kR Z
  cases h;exact kR Z
 apply kI Z h<;>intro h
 .refine MS Z (by decide +kernel:OL Tryz.prog B8=true) (B2 Z) h 0 (fun z2=>⟨[(57,pB z2),(1,.reg 2000 0)],[(2000,.cells ((E8 c).map .p))]⟩) (fun M5 k2 j h=>?_) (fun z2 h=>?_)
  .refine kG Z h (fun h=>?_) (fun h=>?_)
   .exact j _ [(2000,2000)] _ true Gr h
   refine IS Z Gr (b:=false) (fun c54=>?_) (fun c54=>?_)
   .exact Bool.noConfusion ((rfl:false=false).symm.trans c54)
   refine kG Z h (fun h=>?_) (fun h=>?_)
   .exact j _ [(2000,2000)] _ true Gr h
   refine kG Z h (fun h=>?_) (fun h=>?_)
   .exact j _ [(2000,2000)] _ true Gr h
   refine O2 Z Gr 79 ⟨[(78,.p (vSl 7 E8 c.L)),(76,.p (.v (.bool false))),(1,.reg 2000 0)],[(2000,.cells ((E8 c).map .p))]⟩ (ids:=[(2000,2000)]) ?_ (hle:=klR [(0,.fn c.L.n c.L.n (GP c) (fun i=>E8 (c.L.g i)))] (al1 ⟨rfl,FC c⟩ al0));exact j _ [(2000,2000)] _ (decide (0<(c.L.n:Int))) Gr h
  apply kI Z h<;>intro h
  .cases h;exact kR Z
  refine kC Z h (Eh Z Y) (fun y2 h=>?_);apply kI Z h<;>intro h
  .cases h;exact kR Z
  cases h;exact kR Z
 obtain⟨t4,m⟩:∃x:Bool,x=(if (c.Kind==3) then c.Kind==3 else c.Kind==4):=⟨_,rfl⟩;refine Xs Z Gr (B2 Z) 0 ⟨[(17,pB t4),(7,pN c.Kind),(3,.reg 4000 0),(1,.reg 2000 0)],[(4000,.cells [pN 0,pU c.Is.Plus,pU c.Is.Minus,pB c.Not,pN c.Min,pN c.Max,.p (.sl false 7 c.L.n (GP c))]),(2000,.cells ((E8 c).map .p))]⟩ (fun M6 q=>?_) ?_
 .refine D2 Z Gr (b:=c.Kind==3) (fun c60=>?_) (fun c60=>?_)
  .exact q _ [(2000,2000),(4000,4000)] _ Gr (hle:=klR [(0,.eq (.bb (c.Kind==3)) (.bb t4))] (al1 (by simp only[m,c60,Leaf.ok,pm,Fe,Ge]) al0))
  exact q _ [(2000,2000),(4000,4000)] _ Gr (hle:=klR [(0,.eq (.bb (c.Kind==4)) (.bb t4))] (al1 (by simp only[m,c60,Leaf.ok,pm,Fe,Ge]) al0))
 subst m;refine MS Z Gr (B2 Z) h 0 (fun z3=>⟨[(3,.reg 4000 0),(1,.reg 2000 0)],[(4000,.cells [pN 0,pU c.Is.Plus,pU c.Is.Minus,pB c.Not,pN z3.1,pN z3.2,.p F6]),(2000,.cells ((E8 c).map .p))]⟩) (fun M7 k3 r h=>?_) (fun z3 h=>?_)
 .apply kI Z h<;>intro h
  .exact r _ [(2000,2000),(4000,4000)] _ (c.Min,c.Max) Gr h
  apply kI Z h<;>intro h
  .refine O2 Z Gr 25 ⟨[(24,.p (vSl 7 E8 c.L)),(3,.reg 4000 0),(1,.reg 2000 0)],[(4000,.cells [pN 0,pU c.Is.Plus,pU c.Is.Minus,pB c.Not,pN c.Min,pN c.Max,.p (.sl false 7 c.L.n (GP c))]),(2000,.cells ((E8 c).map .p))]⟩ (ids:=[(2000,2000),(4000,4000)]) ?_ (hle:=klR [(0,.fn c.L.n c.L.n (GP c) (fun i=>E8 (c.L.g i)))] (al1 ⟨rfl,FC c⟩ al0));refine kB Z (B2 Z) Gr Gr 26 (.o (.o (.o (.a ((c.L.n:Int) != 1)) (.a (decide (c.Min<0)))) (.a (decide (32<c.Min)))) (.n (.a (c.Max != (-1))) (.o (.a (decide (c.Max<c.Min))) (.a (decide (32<c.Max)))))) ?_;apply kI Z h<;>intro h
   .cases h;exact kR Z
   exact r _ [(2000,2000),(4000,4000)] _ (0,0) Gr h
  cases h;exact kR Z
 refine kB Z (B2 Z) (by decide +kernel:OL Tryz.prog B8=true) Gr 19 (.o (.o (.o (.o (.a (((c.Is.Plus==0)&&(c.Is.Minus==0)) != true)) (.a c.Not)) (.a (z3.1 != 0))) (.a (z3.2 != 0))) (.a (decide (0<0)))) ?_;apply kI Z h<;>intro h
 .cases h;exact kR Z
 refine kC Z h (Eh Z Y) (fun y3 h=>?_);apply kI Z h<;>intro h
 .cases h;exact kR Z
 cases h;exact kR Z
end Go.AM
namespace Go.AM
open Go.Proofs
set_option maxRecDepth 10000
set_option maxHeartbeats 2000000
variable {S:S6}(Z:G1 S Tryz.prog) (Y:Jn S)
include Z Y
end Go.AM
namespace Go.AM
open Go.Proofs.Tryz
variable {N:Nat}
open IntKind (wrap)
open Go.Proofs
set_option maxRecDepth 10000
set_option maxHeartbeats 2000000
variable {S:S6}(Z:G1 S Tryz.prog) (Y:Jn S)
include Z Y
def W3 (N:Nat)(q0:Int):Option (List (Int)):= Cd N (fun a (x1:Int)=>if (x1 != 0) then (Y8 N x1).bind fun y3=>if (0:Int)<=y3 then IT y3 (a (P3 .andNot .u64 x1 (shI .shl .u64 1 y3))) else none else some []) q0
theorem CG {q0:Int}{L:List (Int)}(h:W3 N q0=some L) :Dv S AT [] [.reg 0 0] [.cells [.p (pI .u64 q0)]] (L.map (fun (x:Int)=>[pI .i64 x])):=by
 unfold W3 at h;refine Dc Z func193 ?_;refine BR Z Gr h (fun x1 L1=>⟨[(1,.reg 0 0),(0,.yf 1)],[(1,.yld (L1.map (fun (x:Int)=>[pI .i64 x])) true),(0,.cells [.p (pI .u64 x1)])]⟩) (ids:=[(0,0),(1,1)]) (fun _ _ _ _ _ d x1 L1 f h=>?_);apply kI Z h<;>intro h
 .refine kC Z h (DF Z Y) (fun y3 h=>?_);refine Dx Z Gr ?_;obtain⟨c10,h⟩:=E2 h;refine D8 c10 ?_;obtain⟨L4,rfl,c⟩:=KH h;replace h:=c;refine BQ Z Gr (ys:=(fun (x:Int)=>[pI .i64 x]) y3) (rest:=L4.map (fun (x:Int)=>[pI .i64 x])) ?_ ?_
  .refine D2 Z Gr (b:=false) (fun c11=>?_) (fun c11=>?_)
   .exact Bool.noConfusion ((rfl:false=false).symm.trans c11)
   exact f _ [(0,0),(1,1)] _ (P3 .andNot .u64 x1 (shI .shl .u64 1 y3)) L4 Gr h
  refine D2 Z Gr (b:=true) (fun c12=>?_) (fun c12=>?_)
  .exact A7 Z Gr (a:=.tup []) (objs:=[(.cells [.p (pI .u64 (P3 .andNot .u64 x1 (shI .shl .u64 1 y3)))]),.yld [] false]) ⟨[],[(1,.yld [] false),(0,.cells [.p (pI .u64 (P3 .andNot .u64 x1 (shI .shl .u64 1 y3)))])]⟩ [0,1] (ids:=[(0,0),(1,1)]) ⟨false,rfl,rfl,_,rfl⟩
  exact Bool.noConfusion (Nb.symm.trans c12)
 obtain rfl:=B6 h;exact A7 Z Gr (a:=.tup []) (objs:=[(.cells [.p (pI .u64 x1)]),.yld [] true]) ⟨[],[(1,.yld [] true),(0,.cells [.p (pI .u64 x1)])]⟩ [0,1] (ids:=[(0,0),(1,1)]) ⟨true,rfl,rfl,_,rfl⟩
def AR (N:Nat)(a:Int):Option (Int):= some a
theorem EA {a:Int}{y:Int}(h:AR N a=some y) :FunO S Ix [.p (pI .u64 a)] [] (.clo AT [] [.reg 0 0]) ([.cells [.p (pI .u64 y)]]) []:=by unfold AR at h;refine A5 Z func190 ?_;obtain rfl:=B6 h;exact A7 Z Gr ⟨[(2,.clo AT [] [.reg 2000 0])],[(2000,.cells [.p (pI .u64 a)])]⟩ [2000] (ids:=[(2000,2000)]) ⟨rfl,rfl,rfl⟩
def K8 (N:Nat)(p_x:Nat->Int)(c:Nat->Int):Option (Nat->Int):= DX N (fun a (x3:Nat->Int) (x4:Int)=>if (decide (x4<33)) then if (((0:Int)<=x4/\x4<33)/\(0+x4.toNat*1)<33)then (AR N (p_x (0+x4.toNat*1))).bind fun y3=>(W3 N y3).bind fun L3=>BI L3 (fun b (x7:Int) (z3:Nat->Int)=>if (((((((0:Int)<=x4/\x4<33)/\(0+x4.toNat*1)<33)/\((0:Int)<=x7/\x7<33))/\(0+x7.toNat*1)<33)/\((0:Int)<=x4/\x4<33))/\(0+x4.toNat*1)<33)then b (NX z3 (0+x4.toNat*1) (P3 .or .u64 (z3 (0+x4.toNat*1)) (c (0+x7.toNat*1)))) else none) (fun (z3:Nat->Int)=>a z3 (wrap .i64 (x4+1))) x3 else none else some x3) (fun _=>0) 0
theorem S5 {p_x:Nat->Int}{b:Nat->Int}{y:Nat->Int}(h:K8 N p_x b=some y) :FunO S Ax [.reg 0 0,.reg 1 0] [.arr 33 (fun i=>pI .u64 (p_x i)),.arr 33 (fun i=>pI .u64 (b i))] (.p (.agg (cA 33 (pI .u64) y))) ([.arr 33 (fun i=>pI .u64 (p_x i)),.arr 33 (fun i=>pI .u64 (b i))]) [true,true]:=by
 unfold K8 at h;refine A5 Z func219 ?_;refine N1 Z Gr h (fun x3 x4=>⟨[(10,pN x4),(9,.reg 0 0),(5,.reg 6000 0),(4,.reg 5000 0),(3,.reg 4000 0)],[(6000,.arr 33 (fun i=>pI .u64 (x3 i))),(5000,.arr 33 (fun i=>pI .u64 ((fun _=>0) i))),(4000,.cells [.reg 1 0]),(1,.arr 33 (fun i=>pI .u64 (b i))),(0,.arr 33 (fun i=>pI .u64 (p_x i)))]⟩) (ids:=[(0,0),(1,1),(4000,4000),(5000,5000),(6000,6000)]) (fun _ _ _ _ _ d x3 x4 f h=>?_) (hle:=klR [(1,.fn 33 33 (fun i=>[(fun i=>(List.replicate 33 (pI .u64 0)).getD i default) i]) (fun i=>[pI .u64 ((fun _=>0) i)])),(2,.fn 33 33 (fun i=>[(fun i=>(List.replicate 33 (pI .u64 0)).getD i default) i]) (fun i=>[pI .u64 ((fun _=>0) i)]))] (al1 ⟨rfl,BS (z:=pI .u64 0) rfl⟩ (al1 ⟨rfl,BS (z:=pI .u64 0) rfl⟩ al0)));apply kI Z h<;>intro h
 .refine I5 Z Gr [(2,.l [0]),(3,.l [0]),(4,.a [7000]),(5,.a [7000])] ?_;obtain⟨c12,h⟩:=E2 h;refine D8 c12 ?_;refine F5 Z Gr 16 7000 [pI .i64 x4] ?_;refine kC Z h (EA Z Y) (fun y3 h=>?_);obtain⟨L3,e6,h⟩:=B1 h;refine GO Z Gr [18000] [10,9,6,5,4,3] 905 (fun z3=>⟨[(10,pN x4),(9,.reg 0 0),(6,.p (.ptr [pI .i64 x4])),(5,.reg 6000 0),(4,.reg 5000 0),(3,.reg 4000 0)],[(6000,.arr 33 (fun i=>pI .u64 (z3 i))),(5000,.arr 33 (fun i=>pI .u64 ((fun _=>0) i))),(4000,.cells [.reg 1 0]),(1,.arr 33 (fun i=>pI .u64 (b i))),(0,.arr 33 (fun i=>pI .u64 (p_x i)))]⟩) (idl:=[(0,0),(1,1),(4000,4000),(5000,5000),(6000,6000)]) h (CG Z Y e6) (fun _=>by kernel_rfl) (fun _=>by kernel_rfl) (fun _=>by kernel_rfl) (fun _=>by kernel_rfl) (fun x7 _ g z3 j h=>?_) (fun z3 h=>?_)
  .refine JJ Z Gr ?_;refine I5 Z Gr [(0,.n),(1,.l [6000]),(2,.l [6000]),(3,.l [4000]),(6,.l [1]),(7,.l [1]),(9,.l [6000]),(10,.a [6000])] ?_;obtain⟨c15,h⟩:=E2 h;refine D8 c15 ?_;exact j _ [(0,0),(1,1),(905,905),(4000,4000),(5000,5000),(6000,6000)] _ (NX z3 (0+x4.toNat*1) (P3 .or .u64 (z3 (0+x4.toNat*1)) (b (0+x7.toNat*1)))) Gr h (hle:=klR [(0,.fn 33 33 (fun i=>[(fun i=>if i=(0+x4.toNat*1)then (pI .u64 (P3 .or .u64 (z3 (0+x4.toNat*1)) (b (0+x7.toNat*1))))else (fun i=>pI .u64 (z3 i)) i) i]) (fun i=>[pI .u64 (NX z3 (0+x4.toNat*1) (P3 .or .u64 (z3 (0+x4.toNat*1)) (b (0+x7.toNat*1))) i)]))] (al1 ⟨rfl,Af6 (c:=pI .u64) (v:=z3) (x:=P3 .or .u64 (z3 (0+x4.toNat*1)) (b (0+x7.toNat*1))) (fun _ _=>rfl) rfl⟩ al0))
  exact f _ [(0,0),(1,1),(4000,4000),(5000,5000),(6000,6000)] _ z3 (wrap .i64 (x4+1)) Gr h
 obtain rfl:=B6 h;exact A7 Z (And.intro rfl (F2 _ _):(0:Nat)=0/\(CB 33 (fun i=>pI .u64 (x3 i))).length=33) ⟨[(4,.reg 5000 0)],[(5000,.arr 33 (fun i=>pI .u64 (x3 i))),(1,.arr 33 (fun i=>pI .u64 (b i))),(0,.arr 33 (fun i=>pI .u64 (p_x i)))]⟩ [0,1] (ids:=[(0,0),(1,1),(5000,5000)]) ⟨rfl,rfl,rfl⟩ (hle:=klR [(0,.fn 33 33 (fun i=>[(fun i=>(cA 33 (pI .u64) x3).getD i default) i]) (fun i=>[pI .u64 (x3 i)]))] (al1 ⟨rfl,E4 33 (fun i=>pI .u64 (x3 i))⟩ al0))
def R5 (N:Nat)(p_x:Nat->Int):Option (Nat->Int):= DX N (fun a (x3:Nat->Int) (x4:Int)=>if (decide (x4<33)) then if (((0:Int)<=x4/\x4<33)/\(0+x4.toNat*1)<33)then (AR N (p_x (0+x4.toNat*1))).bind fun y3=>(W3 N y3).bind fun L3=>BI L3 (fun b (x7:Int) (z3:Nat->Int)=>if (((((((0:Int)<=x4/\x4<33)/\(0+x4.toNat*1)<33)/\((0:Int)<=x7/\x7<33))/\(0+x7.toNat*1)<33)/\((0:Int)<=x4/\x4<33))/\(0+x4.toNat*1)<33)then b (NX z3 (0+x4.toNat*1) (P3 .or .u64 (z3 (0+x4.toNat*1)) (p_x (0+x7.toNat*1)))) else none) (fun (z3:Nat->Int)=>a z3 (wrap .i64 (x4+1))) x3 else none else some x3) (fun _=>0) 0
theorem Cu {p_x:Nat->Int}{y:Nat->Int}(h:R5 N p_x=some y) :FunO S Ax [.reg 0 0,.reg 0 0] [.arr 33 (fun i=>pI .u64 (p_x i))] (.p (.agg (cA 33 (pI .u64) y))) ([.arr 33 (fun i=>pI .u64 (p_x i))]) [true]:=by
 unfold R5 at h;refine A5 Z func219 ?_;refine N1 Z Gr h (fun x3 x4=>⟨[(10,pN x4),(9,.reg 0 0),(5,.reg 6000 0),(4,.reg 5000 0),(3,.reg 4000 0)],[(6000,.arr 33 (fun i=>pI .u64 (x3 i))),(5000,.arr 33 (fun i=>pI .u64 ((fun _=>0) i))),(4000,.cells [.reg 0 0]),(0,.arr 33 (fun i=>pI .u64 (p_x i)))]⟩) (ids:=[(0,0),(4000,4000),(5000,5000),(6000,6000)]) (fun _ _ _ _ _ b x3 x4 d h=>?_) (hle:=klR [(1,.fn 33 33 (fun i=>[(fun i=>(List.replicate 33 (pI .u64 0)).getD i default) i]) (fun i=>[pI .u64 ((fun _=>0) i)])),(2,.fn 33 33 (fun i=>[(fun i=>(List.replicate 33 (pI .u64 0)).getD i default) i]) (fun i=>[pI .u64 ((fun _=>0) i)]))] (al1 ⟨rfl,BS (z:=pI .u64 0) rfl⟩ (al1 ⟨rfl,BS (z:=pI .u64 0) rfl⟩ al0)));apply kI Z h<;>intro h
 .refine I5 Z Gr [(2,.l [0]),(3,.l [0]),(4,.a [7000]),(5,.a [7000])] ?_;obtain⟨c12,h⟩:=E2 h;refine D8 c12 ?_;refine F5 Z Gr 16 7000 [pI .i64 x4] ?_;refine kC Z h (EA Z Y) (fun y3 h=>?_);obtain⟨L3,e6,h⟩:=B1 h;refine GO Z Gr [18000] [10,9,6,5,4,3] 905 (fun z3=>⟨[(10,pN x4),(9,.reg 0 0),(6,.p (.ptr [pI .i64 x4])),(5,.reg 6000 0),(4,.reg 5000 0),(3,.reg 4000 0)],[(6000,.arr 33 (fun i=>pI .u64 (z3 i))),(5000,.arr 33 (fun i=>pI .u64 ((fun _=>0) i))),(4000,.cells [.reg 0 0]),(0,.arr 33 (fun i=>pI .u64 (p_x i)))]⟩) (idl:=[(0,0),(4000,4000),(5000,5000),(6000,6000)]) h (CG Z Y e6) (fun _=>by kernel_rfl) (fun _=>by kernel_rfl) (fun _=>by kernel_rfl) (fun _=>by kernel_rfl) (fun x7 _ f z3 g h=>?_) (fun z3 h=>?_)
  .refine JJ Z Gr ?_;refine I5 Z Gr [(0,.n),(1,.l [6000]),(2,.l [6000]),(3,.l [4000]),(6,.l [0]),(7,.l [0]),(9,.l [6000]),(10,.a [6000])] ?_;obtain⟨c15,h⟩:=E2 h;refine D8 c15 ?_;exact g _ [(0,0),(905,905),(4000,4000),(5000,5000),(6000,6000)] _ (NX z3 (0+x4.toNat*1) (P3 .or .u64 (z3 (0+x4.toNat*1)) (p_x (0+x7.toNat*1)))) Gr h (hle:=klR [(0,.fn 33 33 (fun i=>[(fun i=>if i=(0+x4.toNat*1)then (pI .u64 (P3 .or .u64 (z3 (0+x4.toNat*1)) (p_x (0+x7.toNat*1))))else (fun i=>pI .u64 (z3 i)) i) i]) (fun i=>[pI .u64 (NX z3 (0+x4.toNat*1) (P3 .or .u64 (z3 (0+x4.toNat*1)) (p_x (0+x7.toNat*1))) i)]))] (al1 ⟨rfl,Af6 (c:=pI .u64) (v:=z3) (x:=P3 .or .u64 (z3 (0+x4.toNat*1)) (p_x (0+x7.toNat*1))) (fun _ _=>rfl) rfl⟩ al0))
  exact d _ [(0,0),(4000,4000),(5000,5000),(6000,6000)] _ z3 (wrap .i64 (x4+1)) Gr h
 obtain rfl:=B6 h;exact A7 Z (And.intro rfl (F2 _ _):(0:Nat)=0/\(CB 33 (fun i=>pI .u64 (x3 i))).length=33) ⟨[(4,.reg 5000 0)],[(5000,.arr 33 (fun i=>pI .u64 (x3 i))),(0,.arr 33 (fun i=>pI .u64 (p_x i)))]⟩ [0] (ids:=[(0,0),(5000,5000)]) ⟨rfl,rfl,rfl⟩ (hle:=klR [(0,.fn 33 33 (fun i=>[(fun i=>(cA 33 (pI .u64) x3).getD i default) i]) (fun i=>[pI .u64 (x3 i)]))] (al1 ⟨rfl,E4 33 (fun i=>pI .u64 (x3 i))⟩ al0))
def N6 (N:Nat)(p_x:Nat->Int)(b:Int)(c:Int):Option (Nat->Int):= (Y9 N c).bind fun y1=>Ad8 N (fun a (x1:Int) (x2:Nat->Int) (x3:Nat->Int)=>if (decide (0<x1)) then if ((P3 .and .i64 x1 1)==1) then (K8 N x3 x2).bind fun y8=>(R5 N x2).bind fun y9=>a (shI .shr .i64 x1 1) y9 y8 else (R5 N x2).bind fun d=>a (shI .shr .i64 x1 1) d x3 else some x3) b p_x y1
theorem Z0 {p_x:Nat->Int}{b:Int}{c:Int}{y:Nat->Int}(h:N6 N p_x b c=some y) :FunO S Cs [.p (.agg (cA 33 (pI .u64) p_x)),pN b,pN c] [] (.p (.agg (cA 33 (pI .u64) y))) ([]) []:=by
 unfold N6 at h;refine A5 Z func212 ?_;refine kC Z h (DH Z Y) (fun y1 h=>?_);refine Ps Z (And.intro rfl (F2 _ _):(0:Nat)=0/\(CB 33 (fun i=>pI .u64 (y1 i))).length=33) h (fun x1 x2 x3=>⟨[(7,.reg 8000 0),(6,.reg 7000 0),(3,.reg 4000 0),(1,pN x1)],[(8000,.arr 33 (fun i=>pI .u64 (x3 i))),(7000,.arr 33 (fun i=>pI .u64 ((fun _=>0) i))),(4000,.arr 33 (fun i=>pI .u64 (x2 i)))]⟩) (ids:=[(4000,4000),(7000,7000),(8000,8000)]) (fun _ _ _ _ _ f x1 x2 x3 d h=>?_) (hle:=klR [(1,.fn 33 33 (fun i=>[(fun i=>(cA 33 (pI .u64) y1).getD i default) i]) (fun i=>[pI .u64 (y1 i)])),(2,.fn 33 33 (fun i=>[(fun i=>(List.replicate 33 (pI .u64 0)).getD i default) i]) (fun i=>[pI .u64 ((fun _=>0) i)])),(3,.fn 33 33 (fun i=>[(fun i=>(cA 33 (pI .u64) p_x).getD i default) i]) (fun i=>[pI .u64 (p_x i)]))] (al1 ⟨rfl,E4 33 (fun i=>pI .u64 (y1 i))⟩ (al1 ⟨rfl,BS (z:=pI .u64 0) rfl⟩ (al1 ⟨rfl,E4 33 (fun i=>pI .u64 (p_x i))⟩ al0))));apply kI Z h<;>intro h
 .apply kI Z h<;>intro h
  .obtain⟨y8,e8,h⟩:=B1 h;refine B7 Z [8000,4000] Gr (S5 Z Y e8) ?_;obtain⟨y9,e9,h⟩:=B1 h;refine B7 Z [4000] (And.intro rfl (F2 _ _):(0:Nat)=0/\(CB 33 (fun i=>pI .u64 (y8 i))).length=33) (Cu Z Y e9) ?_;exact d _ [(4000,4000),(7000,7000),(8000,8000)] _ (shI .shr .i64 x1 1) y9 y8 (And.intro (And.intro rfl (F2 _ _):(0:Nat)=0/\(CB 33 (fun i=>pI .u64 (y9 i))).length=33) (by decide:(0:Int)<=1)) h (hle:=klR [(1,.fn 33 33 (fun i=>[(fun i=>(cA 33 (pI .u64) y8).getD i default) i]) (fun i=>[pI .u64 (y8 i)])),(3,.fn 33 33 (fun i=>[(fun i=>(cA 33 (pI .u64) y9).getD i default) i]) (fun i=>[pI .u64 (y9 i)]))] (al1 ⟨rfl,E4 33 (fun i=>pI .u64 (y8 i))⟩ (al1 ⟨rfl,E4 33 (fun i=>pI .u64 (y9 i))⟩ al0)))
  obtain⟨a,e10,h⟩:=B1 h;refine B7 Z [4000] Gr (Cu Z Y e10) ?_;exact d _ [(4000,4000),(7000,7000),(8000,8000)] _ (shI .shr .i64 x1 1) a x3 (And.intro (And.intro rfl (F2 _ _):(0:Nat)=0/\(CB 33 (fun i=>pI .u64 (a i))).length=33) (by decide:(0:Int)<=1)) h (hle:=klR [(3,.fn 33 33 (fun i=>[(fun i=>(cA 33 (pI .u64) a).getD i default) i]) (fun i=>[pI .u64 (a i)]))] (al1 ⟨rfl,E4 33 (fun i=>pI .u64 (a i))⟩ al0))
 obtain rfl:=B6 h;exact A7 Z (And.intro rfl (F2 _ _):(0:Nat)=0/\(CB 33 (fun i=>pI .u64 (x3 i))).length=33) ⟨[(6,.reg 7000 0)],[(7000,.arr 33 (fun i=>pI .u64 (x3 i)))]⟩ [] (ids:=[(7000,7000)]) ⟨rfl,rfl,rfl⟩ (hle:=klR [(0,.fn 33 33 (fun i=>[(fun i=>(cA 33 (pI .u64) x3).getD i default) i]) (fun i=>[pI .u64 (x3 i)]))] (al1 ⟨rfl,E4 33 (fun i=>pI .u64 (x3 i))⟩ al0))
end Go.AM
namespace Go.AM
open Go.Proofs.Tryz
variable {N:Nat}
open IntKind (wrap)
open Go.Proofs
set_option maxRecDepth 10000
set_option maxHeartbeats 2000000
variable {S:S6}(Z:G1 S Tryz.prog) (Y:Jn S)
include Z Y
def DI (N:Nat)(p_x:XC)(b:Sl A3):Option (Nat->Int):= DX N (fun a (x1:Nat->Int) (x2:Int)=>if (decide (x2<(b.n:Int))) then if ((0:Int)<=x2/\x2<(b.n:Int))then if ((((P3 .or .u32 (P3 .andNot .u32 p_x.is.Plus (b.g x2.toNat).Plus) (P3 .andNot .u32 p_x.is.Minus (b.g x2.toNat).Minus))==0)==p_x.not) != true) then if (((0:Int)<=(wrap .i64 (x2+1))/\((0:Int)<=x2/\x2<33))/\(0+x2.toNat*1)<33)then a (NX x1 (0+x2.toNat*1) (shI .shl .u64 1 (wrap .i64 (x2+1)))) (wrap .i64 (x2+1)) else none else a x1 (wrap .i64 (x2+1)) else none else some x1) (fun _=>0) 0
theorem NA {p_x:XC}{a:Sl A3}{y:Nat->Int}(h:DI N p_x a=some y) :FunO S DE [.p (.agg (Vi p_x)),.p (vSl 2 A0 a)] [] (.p (.agg (cA 33 (pI .u64) y))) ([]) []:=by
 unfold DI at h;refine A5 Z func213 ?_;refine N1 Z Gr h (fun x1 x2=>⟨[(9,pN x2),(8,pN (a.n:Int)),(7,.p (vSl 2 A0 a)),(4,.reg 5000 0),(2,.reg 3000 0)],[(5000,.arr 33 (fun i=>pI .u64 (x1 i))),(3000,.cells ((Vi p_x).map .p))]⟩) (ids:=[(3000,3000),(5000,5000)]) (fun _ _ _ _ _ f x1 x2 d h=>?_) (hle:=klR [(3,.fn 33 33 (fun i=>[(fun i=>(List.replicate 33 (pI .u64 0)).getD i default) i]) (fun i=>[pI .u64 ((fun _=>0) i)]))] (al1 ⟨rfl,BS (z:=pI .u64 0) rfl⟩ al0));apply kI Z h<;>intro h
 .obtain⟨c8,h⟩:=E2 h;refine D2 Z (And.intro c8 Hc) (b:=(((P3 .or .u32 (P3 .andNot .u32 p_x.is.Plus (a.g x2.toNat).Plus) (P3 .andNot .u32 p_x.is.Minus (a.g x2.toNat).Minus))==0)==p_x.not) != true) (fun c9=>?_) (fun c9=>?_)
  .replace h:=itT c9 h;obtain⟨c10,h⟩:=E2 h;exact d _ [(3000,3000),(5000,5000)] _ (NX x1 (0+x2.toNat*1) (shI .shl .u64 1 (wrap .i64 (x2+1)))) (wrap .i64 (x2+1)) c10 h (hle:=klR [(3,.fn 33 33 (fun i=>[(fun i=>if i=(0+x2.toNat*1)then (pI .u64 (shI .shl .u64 1 (wrap .i64 (x2+1))))else (fun i=>pI .u64 (x1 i)) i) i]) (fun i=>[pI .u64 (NX x1 (0+x2.toNat*1) (shI .shl .u64 1 (wrap .i64 (x2+1))) i)]))] (al1 ⟨rfl,Af6 (c:=pI .u64) (v:=x1) (x:=shI .shl .u64 1 (wrap .i64 (x2+1))) (fun _ _=>rfl) rfl⟩ al0))
  replace h:=itF c9 h;exact d _ [(3000,3000),(5000,5000)] _ x1 (wrap .i64 (x2+1)) Gr h
 obtain rfl:=B6 h;exact A7 Z (And.intro rfl (F2 _ _):(0:Nat)=0/\(CB 33 (fun i=>pI .u64 (x1 i))).length=33) ⟨[(4,.reg 5000 0)],[(5000,.arr 33 (fun i=>pI .u64 (x1 i)))]⟩ [] (ids:=[(5000,5000)]) ⟨rfl,rfl,rfl⟩ (hle:=klR [(0,.fn 33 33 (fun i=>[(fun i=>(cA 33 (pI .u64) x1).getD i default) i]) (fun i=>[pI .u64 (x1 i)]))] (al1 ⟨rfl,E4 33 (fun i=>pI .u64 (x1 i))⟩ al0))
def EB (N:Nat)(p_x:Ag5)(a:Sl A3):Option (Nat->Int):= if p_x.end_ then if (((0:Int)<=(a.n:Int)/\((0:Int)<=(a.n:Int)/\(a.n:Int)<33))/\(0+(a.n:Int).toNat*1)<33)then some (NX (fun _=>0) (0+(a.n:Int).toNat*1) (shI .shl .u64 1 (a.n:Int))) else none else if (((0:Int)<=0/\(0:Int)<33)/\(0+0*1)<33)then some (NX (fun _=>0) (0+0*1) (shI .shl .u64 1 0)) else none
theorem OA {p_x:Ag5}{a:Sl A3}{y:Nat->Int}(h:EB N p_x a=some y) :FunO S Ew [.p (.agg (Ag6 p_x)),.p (vSl 2 A0 a)] [] (.p (.agg (cA 33 (pI .u64) y))) ([]) []:=by
 unfold EB at h;refine A5 Z func214 ?_;apply kI Z h<;>intro h
 .obtain⟨c2,h⟩:=E2 h;obtain rfl:=B6 h;exact A7 Z (And.intro (And.intro (And.intro c2.1.1 c2.1.2) c2.2) (And.intro rfl (F2 _ _):(0:Nat)=0/\(CB 33 (fun i=>if i=(0+(a.n:Int).toNat*1)then (pI .u64 (shI .shl .u64 1 (a.n:Int)))else (fun i=>(List.replicate 33 (pI .u64 0)).getD i default) i)).length=33)) ⟨[(4,.reg 5000 0)],[(5000,.arr 33 (fun i=>pI .u64 (NX (fun _=>0) (0+(a.n:Int).toNat*1) (shI .shl .u64 1 (a.n:Int)) i)))]⟩ [] (ids:=[(5000,5000)]) ⟨rfl,rfl,rfl⟩ (hle:=klR [(0,.fn 33 33 (fun i=>[(fun i=>(CB 33 (fun i=>if i=(0+(a.n:Int).toNat*1)then (pI .u64 (shI .shl .u64 1 (a.n:Int)))else (fun i=>(List.replicate 33 (pI .u64 0)).getD i default) i)).getD i default) i]) (fun i=>[pI .u64 (NX (fun _=>0) (0+(a.n:Int).toNat*1) (shI .shl .u64 1 (a.n:Int)) i)]))] (al1 ⟨rfl,fun i b=>(E4 33 (fun i=>if i=(0+(a.n:Int).toNat*1)then (pI .u64 (shI .shl .u64 1 (a.n:Int)))else (fun i=>(List.replicate 33 (pI .u64 0)).getD i default) i) i b).trans (Af6 (c:=pI .u64) (v:=fun _=>0) (x:=shI .shl .u64 1 (a.n:Int)) (BS (z:=pI .u64 0) rfl) rfl i b)⟩ al0))
 obtain⟨c3,h⟩:=E2 h;obtain rfl:=B6 h;exact A7 Z (And.intro (And.intro (And.intro (by decide:(0:Int)<=0) c3.1) c3.2) (And.intro rfl (F2 _ _):(0:Nat)=0/\(CB 33 (fun i=>if i=(0+0*1)then (pI .u64 (shI .shl .u64 1 0))else (fun i=>(List.replicate 33 (pI .u64 0)).getD i default) i)).length=33)) ⟨[(4,.reg 5000 0)],[(5000,.arr 33 (fun i=>pI .u64 (NX (fun _=>0) (0+0*1) (shI .shl .u64 1 0) i)))]⟩ [] (ids:=[(5000,5000)]) ⟨rfl,rfl,rfl⟩ (hle:=klR [(0,.fn 33 33 (fun i=>[(fun i=>(CB 33 (fun i=>if i=(0+0*1)then (pI .u64 (shI .shl .u64 1 0))else (fun i=>(List.replicate 33 (pI .u64 0)).getD i default) i)).getD i default) i]) (fun i=>[pI .u64 (NX (fun _=>0) (0+0*1) (shI .shl .u64 1 0) i)]))] (al1 ⟨rfl,fun i b=>(E4 33 (fun i=>if i=(0+0*1)then (pI .u64 (shI .shl .u64 1 0))else (fun i=>(List.replicate 33 (pI .u64 0)).getD i default) i) i b).trans (Af6 (c:=pI .u64) (v:=fun _=>0) (x:=shI .shl .u64 1 0) (BS (z:=pI .u64 0) rfl) rfl i b)⟩ al0))
def FL (rec:Part->(Sl A3)->Option (Nat->Int))(N:Nat)(p_x:Pseq)(b:Sl A3):Option (Nat->Int):= (Y9 N (b.n:Int)).bind fun y1=>DX N (fun a (x1:Nat->Int) (x2:Int)=>if (decide (x2<(p_x.l.n:Int))) then if ((0:Int)<=x2/\x2<(p_x.l.n:Int))then (rec (p_x.l.g x2.toNat) b).bind fun y6=>(K8 N x1 y6).bind fun y7=>a y7 (wrap .i64 (x2+1)) else none else some x1) y1 0
theorem QS {rec:Part->(Sl A3)->Option ((Nat->Int))}(b:∀{x:Part}{b0:(Sl A3)}{y:(Nat->Int)},rec x b0=some y->Am4 S Tryz.prog (GQ x) "ablaut/pats.in" [(.p (vSl 2 A0 b0))] (.p (.agg (cA 33 (pI .u64) y)))){p_x:Pseq}{a:(Sl A3)}{y:(Nat->Int)}(h:FL rec N p_x a=some y) :FunO S FI [(.p (.agg (Ao4 p_x))),(.p (vSl 2 A0 a))] [] (.p (.agg (cA 33 (pI .u64) y))) ([]) []:=by
 unfold FL at h;refine A5 Z func220 ?_;refine kC Z h (DH Z Y) (fun y1 h=>?_);refine N1 Z (And.intro rfl (F2 _ _):(0:Nat)=0/\(CB 33 (fun i=>pI .u64 (y1 i))).length=33) h (fun x1 x2=>⟨[(15,(pN x2)),(14,(pN (p_x.l.n:Int))),(13,(.p (vSl 1 Fd p_x.l))),(5,(.reg 6000 0)),(4,(.reg 5000 0)),(1,(.p (vSl 2 A0 a)))],[(6000,(.arr 33 (fun i=>pI .u64 (x1 i)))),(5000,(.arr 33 (fun i=>pI .u64 ((fun _=>0) i))))]⟩) (ids:=[(5000,5000),(6000,6000)]) (fun _ _ _ _ _ c x1 x2 d h=>?_) (hle:=(klR [(4,.fn 33 33 (fun i=>[(fun i=>(cA 33 (pI .u64) y1).getD i default) i]) (fun i=>[pI .u64 (y1 i)])),(5,.fn 33 33 (fun i=>[(fun i=>(List.replicate 33 (pI .u64 0)).getD i default) i]) (fun i=>[pI .u64 ((fun _=>0) i)]))] (al1 ⟨rfl,(E4 33 (fun i=>pI .u64 (y1 i)))⟩ (al1 ⟨rfl,(BS (z:=pI .u64 0) rfl)⟩ al0))));apply kI Z h<;>intro h
 .obtain⟨c6,h⟩:=E2 h;obtain⟨y6,e6,h⟩:=B1 h;refine Mg Z c6 (b e6) ?_;refine JI Z (And.intro rfl (F2 _ _):(0:Nat)=0/\(CB 33 (fun i=>pI .u64 (y6 i))).length=33) ⟨[(15,(pN x2)),(14,(pN (p_x.l.n:Int))),(13,(.p (vSl 1 Fd p_x.l))),(8,(.reg 9000 0)),(5,(.reg 6000 0)),(4,(.reg 5000 0)),(1,(.p (vSl 2 A0 a)))],[(9000,(.arr 33 (fun i=>pI .u64 (y6 i)))),(6000,(.arr 33 (fun i=>pI .u64 (x1 i)))),(5000,(.arr 33 (fun i=>pI .u64 ((fun _=>0) i))))]⟩ (ids:=[(5000,5000),(6000,6000),(9000,9000)]) ?_ (hle:=(klR [(4,.fn 33 33 (fun i=>[(fun i=>(cA 33 (pI .u64) y6).getD i default) i]) (fun i=>[pI .u64 (y6 i)]))] (al1 ⟨rfl,(E4 33 (fun i=>pI .u64 (y6 i)))⟩ al0)));obtain⟨y7,e7,h⟩:=B1 h;refine B7 Z [6000,9000] Gr (S5 Z Y e7) ?_;exact d _ [(5000,5000),(6000,6000)] _ y7 (wrap .i64 (x2+1)) (And.intro rfl (F2 _ _):(0:Nat)=0/\(CB 33 (fun i=>pI .u64 (y7 i))).length=33) h (hle:=klR [(4,.fn 33 33 (fun i=>[(fun i=>(cA 33 (pI .u64) y7).getD i default) i]) (fun i=>[pI .u64 (y7 i)]))] (al1 ⟨rfl,(E4 33 (fun i=>pI .u64 (y7 i)))⟩ al0))
 obtain rfl:=B6 h;exact A7 Z (And.intro rfl (F2 _ _):(0:Nat)=0/\(CB 33 (fun i=>pI .u64 (x1 i))).length=33) ⟨[(4,(.reg 5000 0))],[(5000,(.arr 33 (fun i=>pI .u64 (x1 i))))]⟩ [] (ids:=[(5000,5000)]) ⟨rfl,rfl,rfl⟩ (hle:=(klR [(0,.fn 33 33 (fun i=>[(fun i=>(cA 33 (pI .u64) x1).getD i default) i]) (fun i=>[pI .u64 (x1 i)]))] (al1 ⟨rfl,(E4 33 (fun i=>pI .u64 (x1 i)))⟩ al0)))
def FM (rec:Part->(Sl A3)->Option (Nat->Int))(N:Nat)(p_x:Palt)(b:Sl A3):Option (Nat->Int):= DX N (fun a (x1:Nat->Int) (x2:Int)=>if (decide (x2<(p_x.l.n:Int))) then if ((0:Int)<=x2/\x2<(p_x.l.n:Int))then (rec (p_x.l.g x2.toNat) b).bind fun y5=>(X6 N x1 y5).bind fun y6=>a y6 (wrap .i64 (x2+1)) else none else some x1) (fun _=>0) 0
theorem QT {rec:Part->(Sl A3)->Option ((Nat->Int))}(b:∀{x:Part}{b0:(Sl A3)}{y:(Nat->Int)},rec x b0=some y->Am4 S Tryz.prog (GQ x) "ablaut/pats.in" [(.p (vSl 2 A0 b0))] (.p (.agg (cA 33 (pI .u64) y)))){p_x:Palt}{a:(Sl A3)}{y:(Nat->Int)}(h:FM rec N p_x a=some y) :FunO S FG [(.p (.agg (Ao2 p_x))),(.p (vSl 2 A0 a))] [] (.p (.agg (cA 33 (pI .u64) y))) ([]) []:=by
 unfold FM at h;refine A5 Z func215 ?_;refine N1 Z Gr h (fun x1 x2=>⟨[(11,(pN x2)),(10,(pN (p_x.l.n:Int))),(9,(.p (vSl 1 Fd p_x.l))),(4,(.reg 5000 0)),(1,(.p (vSl 2 A0 a)))],[(5000,(.arr 33 (fun i=>pI .u64 (x1 i))))]⟩) (ids:=[(5000,5000)]) (fun _ _ _ _ _ c x1 x2 d h=>?_) (hle:=(klR [(4,.fn 33 33 (fun i=>[(fun i=>(List.replicate 33 (pI .u64 0)).getD i default) i]) (fun i=>[pI .u64 ((fun _=>0) i)]))] (al1 ⟨rfl,(BS (z:=pI .u64 0) rfl)⟩ al0)));apply kI Z h<;>intro h
 .obtain⟨c6,h⟩:=E2 h;obtain⟨y5,e5,h⟩:=B1 h;refine Mg Z c6 (b e5) ?_;refine JI Z (And.intro rfl (F2 _ _):(0:Nat)=0/\(CB 33 (fun i=>pI .u64 (y5 i))).length=33) ⟨[(11,(pN x2)),(10,(pN (p_x.l.n:Int))),(9,(.p (vSl 1 Fd p_x.l))),(7,(.reg 8000 0)),(4,(.reg 5000 0)),(1,(.p (vSl 2 A0 a)))],[(8000,(.arr 33 (fun i=>pI .u64 (y5 i)))),(5000,(.arr 33 (fun i=>pI .u64 (x1 i))))]⟩ (ids:=[(5000,5000),(8000,8000)]) ?_ (hle:=(klR [(4,.fn 33 33 (fun i=>[(fun i=>(cA 33 (pI .u64) y5).getD i default) i]) (fun i=>[pI .u64 (y5 i)]))] (al1 ⟨rfl,(E4 33 (fun i=>pI .u64 (y5 i)))⟩ al0)));obtain⟨y6,e6,h⟩:=B1 h;refine B7 Z [5000,8000] Gr (Ei Z Y e6) ?_;exact d _ [(5000,5000)] _ y6 (wrap .i64 (x2+1)) Gr h
 obtain rfl:=B6 h;exact A7 Z (And.intro rfl (F2 _ _):(0:Nat)=0/\(CB 33 (fun i=>pI .u64 (x1 i))).length=33) ⟨[(4,(.reg 5000 0))],[(5000,(.arr 33 (fun i=>pI .u64 (x1 i))))]⟩ [] (ids:=[(5000,5000)]) ⟨rfl,rfl,rfl⟩ (hle:=(klR [(0,.fn 33 33 (fun i=>[(fun i=>(cA 33 (pI .u64) x1).getD i default) i]) (fun i=>[pI .u64 (x1 i)]))] (al1 ⟨rfl,(E4 33 (fun i=>pI .u64 (x1 i)))⟩ al0)))
def FN (rec:Part->(Sl A3)->Option (Nat->Int))(N:Nat)(p_x:Prep)(a:Sl A3):Option (Nat->Int):= (rec p_x.of a).bind fun y1=>(N6 N y1 p_x.min (a.n:Int)).bind fun y2=>(Y9 N (a.n:Int)).bind fun y3=>(X6 N y1 y3).bind fun y4=>if (decide (p_x.max<0)) then (N6 N y4 (a.n:Int) (a.n:Int)).bind fun y5=>(K8 N y2 y5).bind fun y6=>some y6 else (N6 N y4 (wrap .i64 (p_x.max-p_x.min)) (a.n:Int)).bind fun y7=>(K8 N y2 y7).bind fun y8=>some y8
theorem QU {rec:Part->(Sl A3)->Option ((Nat->Int))}(b:∀{x:Part}{b0:(Sl A3)}{y:(Nat->Int)},rec x b0=some y->Am4 S Tryz.prog (GQ x) "ablaut/pats.in" [(.p (vSl 2 A0 b0))] (.p (.agg (cA 33 (pI .u64) y)))){p_x:Prep}{a:(Sl A3)}{y:(Nat->Int)}(h:FN rec N p_x a=some y) :FunO S FH [(.p (.agg (Ao3 p_x))),(.p (vSl 2 A0 a))] [] (.p (.agg (cA 33 (pI .u64) y))) ([]) []:=by
 unfold FN at h;refine A5 Z func217 ?_;obtain⟨y1,e1,h⟩:=B1 h;refine Mg Z Gr (b e1) ?_;refine JI Z (And.intro rfl (F2 _ _):(0:Nat)=0/\(CB 33 (fun i=>pI .u64 (y1 i))).length=33) ⟨[(18,(pN (a.n:Int))),(16,(pN p_x.min)),(14,(.p (.agg (cA 33 (pI .u64) y1)))),(5,(.reg 6000 0)),(4,(.reg 5000 0)),(2,(.reg 3000 0)),(1,(.p (vSl 2 A0 a)))],[(6000,(.arr 33 (fun i=>pI .u64 (y1 i)))),(5000,(.arr 33 (fun i=>pI .u64 ((fun _=>0) i)))),(3000,(.cells [(.p (GQ p_x.of)),(pN p_x.min),(pN p_x.max)]))]⟩ (ids:=[(3000,3000),(5000,5000),(6000,6000)]) ?_ (hle:=(klR [(2,.eq (.agg (CB 33 (fun i=>(cA 33 (pI .u64) y1).getD i default))) (.agg (cA 33 (pI .u64) y1))),(4,.fn 33 33 (fun i=>[(fun i=>(cA 33 (pI .u64) y1).getD i default) i]) (fun i=>[pI .u64 (y1 i)])),(5,.fn 33 33 (fun i=>[(fun i=>(List.replicate 33 (pI .u64 0)).getD i default) i]) (fun i=>[pI .u64 ((fun _=>0) i)]))] (al1 (congrArg PV.agg (VW (E4 33 (fun i=>pI .u64 (y1 i))))) (al1 ⟨rfl,(E4 33 (fun i=>pI .u64 (y1 i)))⟩ (al1 ⟨rfl,(BS (z:=pI .u64 0) rfl)⟩ al0)))));refine kC Z h (Z0 Z Y) (fun y2 h=>?_);obtain⟨y3,e3,h⟩:=B1 h;refine B7 Z [] (And.intro (And.intro rfl (F2 _ _):(0:Nat)=0/\(CB 33 (fun i=>pI .u64 (y2 i))).length=33) (And.intro rfl (F2 _ _):(0:Nat)=0/\(CB 33 (fun i=>pI .u64 (y1 i))).length=33)) (DH Z Y e3) ?_;refine JI Z (And.intro rfl (F2 _ _):(0:Nat)=0/\(CB 33 (fun i=>pI .u64 (y3 i))).length=33) ⟨[(8,(.reg 9000 0)),(7,(.reg 8000 0)),(6,(.reg 7000 0)),(4,(.reg 5000 0)),(2,(.reg 3000 0)),(1,(.p (vSl 2 A0 a)))],[(9000,(.arr 33 (fun i=>pI .u64 (y3 i)))),(8000,(.arr 33 (fun i=>pI .u64 (y1 i)))),(7000,(.arr 33 (fun i=>pI .u64 (y2 i)))),(5000,(.arr 33 (fun i=>pI .u64 ((fun _=>0) i)))),(3000,(.cells [(.p (GQ p_x.of)),(pN p_x.min),(pN p_x.max)]))]⟩ (ids:=[(3000,3000),(5000,5000),(7000,7000),(8000,8000),(9000,9000)]) ?_ (hle:=(klR [(1,.fn 33 33 (fun i=>[(fun i=>(cA 33 (pI .u64) y3).getD i default) i]) (fun i=>[pI .u64 (y3 i)])),(2,.fn 33 33 (fun i=>[(fun i=>(cA 33 (pI .u64) y1).getD i default) i]) (fun i=>[pI .u64 (y1 i)])),(3,.fn 33 33 (fun i=>[(fun i=>(cA 33 (pI .u64) y2).getD i default) i]) (fun i=>[pI .u64 (y2 i)]))] (al1 ⟨rfl,(E4 33 (fun i=>pI .u64 (y3 i)))⟩ (al1 ⟨rfl,(E4 33 (fun i=>pI .u64 (y1 i)))⟩ (al1 ⟨rfl,(E4 33 (fun i=>pI .u64 (y2 i)))⟩ al0)))));obtain⟨y4,e4,h⟩:=B1 h;refine B7 Z [8000,9000] Gr (Ei Z Y e4) ?_;apply kI Z h<;>intro h
 .refine kC Z h (Z0 Z Y) (fun y5 h=>?_);refine JI Z (And.intro rfl (F2 _ _):(0:Nat)=0/\(CB 33 (fun i=>pI .u64 (y5 i))).length=33) ⟨[(7,(.reg 8000 0)),(6,(.reg 7000 0)),(4,(.reg 5000 0))],[(8000,(.arr 33 (fun i=>pI .u64 (y5 i)))),(7000,(.arr 33 (fun i=>pI .u64 (y2 i)))),(5000,(.arr 33 (fun i=>pI .u64 ((fun _=>0) i))))]⟩ (ids:=[(5000,5000),(7000,7000),(8000,8000)]) ?_ (hle:=(klR [(0,.fn 33 33 (fun i=>[(fun i=>(cA 33 (pI .u64) y5).getD i default) i]) (fun i=>[pI .u64 (y5 i)]))] (al1 ⟨rfl,(E4 33 (fun i=>pI .u64 (y5 i)))⟩ al0)));obtain⟨y6,e6,h⟩:=B1 h;refine B7 Z [7000,8000] Gr (S5 Z Y e6) ?_;obtain rfl:=B6 h;exact A7 Z (And.intro rfl (F2 _ _):(0:Nat)=0/\(CB 33 (fun i=>pI .u64 (y6 i))).length=33) ⟨[(4,(.reg 5000 0))],[(5000,(.arr 33 (fun i=>pI .u64 (y6 i))))]⟩ [] (ids:=[(5000,5000)]) ⟨rfl,rfl,rfl⟩ (hle:=(klR [(0,.fn 33 33 (fun i=>[(fun i=>(cA 33 (pI .u64) y6).getD i default) i]) (fun i=>[pI .u64 (y6 i)]))] (al1 ⟨rfl,(E4 33 (fun i=>pI .u64 (y6 i)))⟩ al0)))
 refine kC Z h (Z0 Z Y) (fun y7 h=>?_);refine JI Z (And.intro rfl (F2 _ _):(0:Nat)=0/\(CB 33 (fun i=>pI .u64 (y7 i))).length=33) ⟨[(7,(.reg 8000 0)),(6,(.reg 7000 0)),(4,(.reg 5000 0))],[(8000,(.arr 33 (fun i=>pI .u64 (y7 i)))),(7000,(.arr 33 (fun i=>pI .u64 (y2 i)))),(5000,(.arr 33 (fun i=>pI .u64 ((fun _=>0) i))))]⟩ (ids:=[(5000,5000),(7000,7000),(8000,8000)]) ?_ (hle:=(klR [(0,.fn 33 33 (fun i=>[(fun i=>(cA 33 (pI .u64) y7).getD i default) i]) (fun i=>[pI .u64 (y7 i)]))] (al1 ⟨rfl,(E4 33 (fun i=>pI .u64 (y7 i)))⟩ al0)));obtain⟨y8,e8,h⟩:=B1 h;refine B7 Z [7000,8000] Gr (S5 Z Y e8) ?_;obtain rfl:=B6 h;exact A7 Z (And.intro rfl (F2 _ _):(0:Nat)=0/\(CB 33 (fun i=>pI .u64 (y8 i))).length=33) ⟨[(4,(.reg 5000 0))],[(5000,(.arr 33 (fun i=>pI .u64 (y8 i))))]⟩ [] (ids:=[(5000,5000)]) ⟨rfl,rfl,rfl⟩ (hle:=(klR [(0,.fn 33 33 (fun i=>[(fun i=>(cA 33 (pI .u64) y8).getD i default) i]) (fun i=>[pI .u64 (y8 i)]))] (al1 ⟨rfl,(E4 33 (fun i=>pI .u64 (y8 i)))⟩ al0)))
def CH (rec:Pat->Option Part)(N:Nat)(a:Pat):Option Part:= DX N (fun b (x1:Sl Part) (x2:Int)=>if (decide (x2<(a.L.n:Int))) then if ((0:Int)<=x2/\x2<(a.L.n:Int))then (rec (a.L.g x2.toNat)).bind fun y3=>if ((x1.n+(Sl.of [y3]:Sl Part).n)*16<=140737488355328/\x1.n+(Sl.of [y3]:Sl Part).n<=140737488355328)then b (x1.push y3) (wrap .i64 (x2+1)) else none else none else if (a.Kind==1) then some (Part.sound a.Is a.Not) else if (a.Kind==2) then some (Part.edge false) else if (a.Kind==6) then some (Part.edge true) else if (a.Kind==4) then some (Part.alt x1.n x1.g) else if (a.Kind==5) then if (((0:Int)<=0/\0<(x1.n:Int))/\0<x1.n)then some (Part.rep (x1.g 0) a.Min a.Max) else none else some (Part.seq x1.n x1.g)) (Sl.nil:Sl Part) 0
def EC:Nat->Pat->Option Part
 |0=>fun _=>none
 |N+1=>CH (EC N) N
theorem NB {rec:Pat->Option Part}(b:∀{a:Pat}{y:Part},rec a=some y->FunO S Cf [.p (.agg (E8 a))] [] (.p (GQ y)) ([]) []){a:Pat}{y:Part}(h:CH rec N a=some y) :FunO S Cf [.p (.agg (E8 a))] [] (.p (GQ y)) ([]) []:=by
 unfold CH at h;refine A5 Z func192 ?_;refine F5 Z Gr 2 2000 (E8 a) ?_;refine O2 Z Gr 8 ⟨[(7,.p (vSl 7 E8 a.L)),(3,.p F6),(1,.p (.ptr (E8 a)))],[]⟩ (ids:=[]) ?_ (hle:=klR [(0,.fn a.L.n a.L.n (GP a) (fun i=>E8 (a.L.g i)))] (al1 ⟨rfl,FC a⟩ al0));refine N1 Z Gr h (fun x1 x2=>⟨[(9,pN x2),(8,pN (a.L.n:Int)),(7,.p (vSl 7 E8 a.L)),(3,.vec 4500),(1,.p (.ptr (E8 a)))],[(4500,.vec Ud 1 x1.n (fun i=>Fd (x1.g i)) false)]⟩) (ids:=[]) (fun _ _ _ _ _ d x1 x2 f h=>?_);apply kI Z h<;>intro h
 .obtain⟨c6,h⟩:=E2 h;refine F5 Z (And.intro c6 Kh) 13 6000 (E8 (a.L.g x2.toNat)) ?_;obtain⟨y3,e3,h⟩:=B1 h;refine B7 Z [] Kh (b e3) ?_;obtain⟨c7,h⟩:=E2 h;exact f _ [(4500,18000)] _ (x1.push y3) (wrap .i64 (x2+1)) (And.intro Nb c7) h (hle:=klR [(4,.fn (x1.n+1) (x1.push y3).n (S2 x1.n (fun i=>Fd (x1.g i)) (C9 [.v .nilIface] [(0,Fd y3)])) (fun i=>Fd ((x1.push y3).g i)))] (al1 ⟨rfl,JG (c:=Fd) (v:=x1) (x:=y3) (z:=[(.v .nilIface)]) same rfl rfl⟩ al0))
 apply kI Z h<;>intro h
 .obtain rfl:=B6 h;exact Zd Z (by decide:(2:Nat)<=6) [] ⟨rfl,rfl,rfl⟩
 apply kI Z h<;>intro h
 .cases h;exact kR Z
 apply kI Z h<;>intro h
 .cases h;exact kR Z
 apply kI Z h<;>intro h
 .refine O2 Z Gr 40 ⟨[(39,.p (vSl 1 Fd x1))],[]⟩ (ids:=[]) ?_;cases h;exact kR Z
 apply kI Z h<;>intro h
 .refine D6 Z Gr [4,6] ?_;obtain⟨c13,h⟩:=E2 h;refine D8 c13 ?_;cases h;exact kR Z
 refine O2 Z Gr 54 ⟨[(53,.p (vSl 1 Fd x1))],[]⟩ (ids:=[]) ?_;cases h;exact kR Z
theorem OB {a:Pat}{y:Part}(h:EC N a=some y) :FunO S Cf [.p (.agg (E8 a))] [] (.p (GQ y)) ([]) []:=by
 induction N generalizing a y with
 |zero=>cases (show (none:Option Part)=some y from h)
 |succ N ih=>exact NB Z Y (fun e=>ih e) h
end Go.AM
namespace Go.AM
open Go.Proofs
variable {S:S6}(Z:G1 S Tryz.prog) (Y:Jn S)
include Z Y
def Hj:Nat->Part->Sl A3->Option (Nat->Int)
 |0=>fun _ _=>none
 |N+1=>fun p w=>match p with
  |.nil=>none
  |.sound x no=>DI N ⟨x,no⟩ w
  |.edge e=>EB N ⟨e⟩ w
  |.seq n g=>FL (Hj N) N ⟨⟨n,g⟩⟩ w
  |.alt n g=>FM (Hj N) N ⟨⟨n,g⟩⟩ w
  |.rep o mn mx=>FN (Hj N) N ⟨o,mn,mx⟩ w
theorem XJ {N:Nat}{x:Part}{w:Sl A3}{y:Nat->Int}(h:Hj N x w=some y):Am4 S Tryz.prog (GQ x) "ablaut/pats.in" [(.p (vSl 2 A0 w))] (.p (.agg (cA 33 (pI .u64) y))):=by
 induction N generalizing x w y with
 |zero=>cases h
 |succ N ih=>
  cases x with
  |nil=>cases h
  |sound s no=>exact⟨_,_,DE,rfl,by kernel_rfl,NA Z Y (p_x:=⟨s,no⟩) h⟩
  |edge e=>exact⟨_,_,Ew,rfl,by kernel_rfl,OA Z Y (N:=N) (p_x:=⟨e⟩) h⟩
  |seq n g=>exact⟨_,_,FI,rfl,by kernel_rfl,QS Z Y (fun e=>ih e) (p_x:=⟨⟨n,g⟩⟩) h⟩
  |alt n g=>exact⟨_,_,FG,rfl,by kernel_rfl,QT Z Y (fun e=>ih e) (p_x:=⟨⟨n,g⟩⟩) h⟩
  |rep o mn mx=>exact⟨_,_,FH,rfl,by kernel_rfl,QU Z Y (fun e=>ih e) (p_x:=⟨o,mn,mx⟩) h⟩
end Go.AM
namespace Go.AM
open Go.Proofs.Tryz
variable {N:Nat}
open IntKind (wrap)
open Go.Proofs
set_option maxRecDepth 10000
set_option maxHeartbeats 2000000
variable {S:S6}(Z:G1 S Tryz.prog) (Y:Jn S)
include Z Y
def DJ (N:Nat)(a:A3):Option Bool:= (Bn N a).bind fun y1=>some (!y1)
theorem NC {a:A3}{y:Bool}(h:DJ N a=some y) :FunO S Hd [.p (.agg (A0 a))] [] (pB y) ([]) []:=by unfold DJ at h;refine A5 Z func191 ?_;refine kC Z h (Eh Z Y) (fun y1 h=>?_);cases h;exact kR Z
def G3 (N:Nat)(a:Sl A3)(c:A3->Option Bool):Option Int:= Cd N (fun b (x1:Int)=>if (decide (x1<(a.n:Int))) then if ((0:Int)<=x1/\x1<(a.n:Int))then (c (a.g x1.toNat)).bind fun y3=>if y3 then some x1 else b (wrap .i64 (x1+1)) else none else some (-1)) 0
theorem X3 {a:Sl A3}{c:A3->Option Bool}{kp_f:Nat}(d:∀{a0:A3}{b:Bool},c a0=some b->FunO S kp_f [.p (.agg (A0 a0))] [] (pB b) [] []){y:Int}(h:G3 N a c=some y) :FunO S M8 [.p (vSl 2 A0 a),.clo kp_f [] []] [] (pN y) ([]) []:=by
 unfold G3 at h;refine A5 Z func149 ?_;refine S9 Z Gr h (fun x1=>⟨[(8,pN x1),(7,pN (a.n:Int)),(1,.clo kp_f [] []),(0,.p (vSl 2 A0 a))],[]⟩) (ids:=[]) (fun _ _ _ _ _ f x1 g h=>?_);apply kI Z h<;>intro h
 .obtain⟨c8,h⟩:=E2 h;obtain⟨y3,e3,h⟩:=B1 h;refine B7 Z [] (And.intro c8 Hc) (d e3) ?_;apply kI Z h<;>intro h
  .cases h;exact kR Z
  exact g _ [] _ (wrap .i64 (x1+1)) Gr h
 cases h;exact kR Z
def D7 (N:Nat)(a:Sl A3)(b:A3->Option Bool):Option Bool:= (G3 N a b).bind fun y1=>some (decide (0<=y1))
theorem J8 {a:Sl A3}{c:A3->Option Bool}{kp_f:Nat}(d:∀{a0:A3}{b:Bool},c a0=some b->FunO S kp_f [.p (.agg (A0 a0))] [] (pB b) [] []){y:Bool}(h:D7 N a c=some y) :FunO S J7 [.p (vSl 2 A0 a),.clo kp_f [] []] [] (pB y) ([]) []:=by unfold D7 at h;refine A5 Z func120 ?_;refine kC Z h (X3 Z Y (fun e=>d e)) (fun y1 h=>?_);cases h;exact kR Z
def H7 (N:Nat)(q0:Sl Pat):Option (List (Int×Pat)):= Cd N (fun a (x1:Int)=>if (decide (0<=x1)) then if ((0:Int)<=x1/\x1<(q0.n:Int))then IT (x1,q0.g x1.toNat) (a (wrap .i64 (x1-1))) else none else some []) (wrap .i64 ((q0.n:Int)-1))
theorem Aj {q0:Sl Pat}{L:List (Int×Pat)}(h:H7 N q0=some L) :Dv S E6 [] [.reg 0 0] [.cells [.p (vSl 7 E8 q0)]] (L.map (fun (x:Int×Pat)=>[pI .i64 x.1,(fun x=>.agg (E8 x)) x.2])):=by
 unfold H7 at h;refine Dc Z func160 ?_;refine BR Z Gr h (fun x1 L1=>⟨[(3,pN x1),(1,.reg 0 0),(0,.yf 1)],[(1,.yld (L1.map (fun (x:Int×Pat)=>[pI .i64 x.1,(fun x=>.agg (E8 x)) x.2])) true),(0,.cells [.p (vSl 7 E8 q0)])]⟩) (ids:=[(0,0),(1,1)]) (fun _ _ _ _ _ d x1 L1 f h=>?_);apply kI Z h<;>intro h
 .obtain⟨c10,h⟩:=E2 h;obtain⟨L4,rfl,c⟩:=KH h;replace h:=c;refine BQ Z (And.intro c10 Kh) (ys:=(fun (x:Int×Pat)=>[pI .i64 x.1,(fun x=>.agg (E8 x)) x.2]) (x1,q0.g x1.toNat)) (rest:=L4.map (fun (x:Int×Pat)=>[pI .i64 x.1,(fun x=>.agg (E8 x)) x.2])) ?_ ?_
  .refine D2 Z Gr (b:=false) (fun c11=>?_) (fun c11=>?_)
   .exact Bool.noConfusion ((rfl:false=false).symm.trans c11)
   exact f _ [(0,0),(1,1)] _ (wrap .i64 (x1-1)) L4 Gr h
  refine D2 Z Gr (b:=true) (fun c12=>?_) (fun c12=>?_)
  .exact A7 Z Gr (a:=.tup []) (objs:=[(.cells [.p (vSl 7 E8 q0)]),.yld [] false]) ⟨[],[(1,.yld [] false),(0,.cells [.p (vSl 7 E8 q0)])]⟩ [0,1] (ids:=[(0,0),(1,1)]) ⟨false,rfl,rfl,_,rfl⟩
  exact Bool.noConfusion (Nb.symm.trans c12)
 obtain rfl:=B6 h;exact A7 Z Gr (a:=.tup []) (objs:=[(.cells [.p (vSl 7 E8 q0)]),.yld [] true]) ⟨[],[(1,.yld [] true),(0,.cells [.p (vSl 7 E8 q0)])]⟩ [0,1] (ids:=[(0,0),(1,1)]) ⟨true,rfl,rfl,_,rfl⟩
def I7 (N:Nat)(a:Sl Pat):Option (Sl Pat):= some a
theorem AS {a:Sl Pat}{y:Sl Pat}(h:I7 N a=some y) :FunO S P7 [.p (vSl 7 E8 a)] [] (.clo E6 [] [.reg 0 0]) ([.cells [.p (vSl 7 E8 y)]]) []:=by unfold I7 at h;refine A5 Z func148 ?_;obtain rfl:=B6 h;exact A7 Z Gr ⟨[(2,.clo E6 [] [.reg 2000 0])],[(2000,.cells [.p (vSl 7 E8 a)])]⟩ [2000] (ids:=[(2000,2000)]) ⟨rfl,rfl,rfl⟩
def Cv (N:Nat)(c:Pat):Option Int:= DX N (fun a (x3:Sl Pat) (x4:Int)=>if (decide (0<(x3.n:Int))) then if (x4==40) then some 12 else if (((0:Int)<=(wrap .i64 ((x3.n:Int)-1))/\(wrap .i64 ((x3.n:Int)-1))<(x3.n:Int))/\(wrap .i64 ((x3.n:Int)-1)).toNat<x3.n)then if ((0:Int)<=(wrap .i64 ((x3.n:Int)-1))/\(wrap .i64 ((x3.n:Int)-1))<=(x3.n:Int))then (Ez N (x3.g (wrap .i64 ((x3.n:Int)-1)).toNat)).bind fun y5=>if (y5 != 0) then some y5 else if ((0:Int)<=(if 41<((x3.g (wrap .i64 ((x3.n:Int)-1)).toNat).L.n:Int)then 41 else ((x3.g (wrap .i64 ((x3.n:Int)-1)).toNat).L.n:Int))/\(if 41<((x3.g (wrap .i64 ((x3.n:Int)-1)).toNat).L.n:Int)then 41 else ((x3.g (wrap .i64 ((x3.n:Int)-1)).toNat).L.n:Int))<=((x3.g (wrap .i64 ((x3.n:Int)-1)).toNat).L.n:Int))then (I7 N ((x3.g (wrap .i64 ((x3.n:Int)-1)).toNat).L.take (if 41<((x3.g (wrap .i64 ((x3.n:Int)-1)).toNat).L.n:Int)then 41 else ((x3.g (wrap .i64 ((x3.n:Int)-1)).toNat).L.n:Int)).toNat)).bind fun y6=>(H7 N y6).bind fun L3=>BI L3 (fun b (x7:Int×Pat) (z3:Sl Pat)=>if ((((z3.n+(Sl.of [Pat.nil]:Sl Pat).n)*64<=140737488355328/\z3.n+(Sl.of [Pat.nil]:Sl Pat).n<=140737488355328)/\((0:Int)<=(z3.n:Int)/\(z3.n:Int)<((z3.push Pat.nil).n:Int)))/\(z3.n:Int).toNat<(z3.push Pat.nil).n)then b ((z3.push Pat.nil).upd (z3.n:Int).toNat x7.2) else none) (fun (z3:Sl Pat)=>a z3 (wrap .i64 (x4+1))) (x3.take (wrap .i64 ((x3.n:Int)-1)).toNat) else none else none else none else some 0) (Sl.of [c]:Sl Pat) 0
theorem Hk {b:Pat}{y:Int}(h:Cv N b=some y) :FunO S Lx [.p (.agg (E8 b))] [] (pN y) ([]) []:=by
 unfold Cv at h;refine A5 Z func119 ?_;refine F5 Z Gr 2 2000 (E8 b) ?_;refine N1 Z (And.intro Kh Nb) h (fun x3 x4=>⟨[(4,pN x4),(3,.reg 4000 0)],[(4501,.vec Hg 7 x3.n (fun i=>E8 (x3.g i)) false),(4000,.cells [.vec 4501])]⟩) (ids:=[(4000,4000),(4501,12000)]) (fun _ _ _ _ _ d x3 x4 j h=>?_) (hle:=klR [(1,.fn 1 (Sl.of [b]:Sl Pat).n (C9 [pI .i64 0,pI .u32 0,pI .u32 0,.v (.bool false),pI .i64 0,pI .i64 0,F6] [(0,E8 b)]) (fun i=>E8 ((Sl.of [b]:Sl Pat).g i)))] (al1 ⟨rfl,(fun i m=>match i,m with|0,_=>rfl|_+1,m=>Eu m (by omega))⟩ al0));apply kI Z h<;>intro h
 .apply kI Z h<;>intro h
  .cases h;exact kR Z
  obtain⟨c21,h⟩:=E2 h;refine F5 Z (And.intro (And.intro c21.1 Kh) c21.2) 25 6000 (E8 (x3.g (wrap .i64 ((x3.n:Int)-1)).toNat)) ?_;obtain⟨c22,h⟩:=E2 h;refine Am5 Z c22 30 4501 (wrap .i64 ((x3.n:Int)-1)).toNat 4508 (e:=Hg) (k:=7) (N:=x3.n) (f:=fun i=>E8 (x3.g i)) (by have r:=c22;omega) ?_;obtain⟨y5,e7,h⟩:=B1 h;refine B7 Z [] Kh (Oz Z Y e7) ?_;apply kI Z h<;>intro h
  .cases h;exact kR Z
  refine O2 Z Gr 39 ⟨[(38,.p (vSl 7 E8 (x3.g (wrap .i64 ((x3.n:Int)-1)).toNat).L)),(36,.p (vSl 7 E8 (x3.g (wrap .i64 ((x3.n:Int)-1)).toNat).L)),(4,pN x4),(3,.reg 4000 0)],[(4508,.vec Hg 7 (x3.take (wrap .i64 ((x3.n:Int)-1)).toNat).n (fun i=>E8 ((x3.take (wrap .i64 ((x3.n:Int)-1)).toNat).g i)) false),(4000,.cells [.vec 4508])]⟩ (ids:=[(4000,4000),(4508,4508)]) ?_ (hle:=klR [(0,.fn (x3.g (wrap .i64 ((x3.n:Int)-1)).toNat).L.n (x3.g (wrap .i64 ((x3.n:Int)-1)).toNat).L.n (GP (x3.g (wrap .i64 ((x3.n:Int)-1)).toNat)) (fun i=>E8 ((x3.g (wrap .i64 ((x3.n:Int)-1)).toNat).L.g i))),(1,.fn (x3.g (wrap .i64 ((x3.n:Int)-1)).toNat).L.n (x3.g (wrap .i64 ((x3.n:Int)-1)).toNat).L.n (GP (x3.g (wrap .i64 ((x3.n:Int)-1)).toNat)) (fun i=>E8 ((x3.g (wrap .i64 ((x3.n:Int)-1)).toNat).L.g i)))] (al1 ⟨rfl,FC (x3.g (wrap .i64 ((x3.n:Int)-1)).toNat)⟩ (al1 ⟨rfl,FC (x3.g (wrap .i64 ((x3.n:Int)-1)).toNat)⟩ al0)));obtain⟨c24,h⟩:=E2 h;obtain⟨y6,e8,h⟩:=B1 h;refine B7 Z [] c24 (AS Z Y e8) ?_;obtain⟨L3,e9,h⟩:=B1 h;refine GO Z Gr [44000] [4,3] 905 (fun z3=>⟨[(4,pN x4),(3,.reg 4000 0)],[(4500,.vec Hg 7 z3.n (fun i=>E8 (z3.g i)) false),(4000,.cells [.vec 4500])]⟩) (idl:=[(4000,4000),(4500,4508)]) h (Aj Z Y e9) (fun _=>by kernel_rfl) (fun _=>by kernel_rfl) (fun _=>by kernel_rfl) (fun _=>by kernel_rfl) (fun x7 _ o z3 q h=>?_) (fun z3 h=>?_)
  .refine JJ Z Gr ?_;refine Sg Z Gr 10000 (E8 x7.2) ?_;refine I5 Z Gr [(0,.l [4000]),(1,.n),(2,.l [4500]),(4,.a [51000,4500]),(5,.l [51000]),(6,.a [51000]),(7,.a [4000])] ?_;refine P4 Kh (x:=.sl true 7 1 (C9 [pI .i64 0,pI .u32 0,pI .u32 0,.v (.bool false),pI .i64 0,pI .i64 0,F6] [(0,[pI .i64 0,pI .u32 0,pI .u32 0,.v (.bool false),pI .i64 0,pI .i64 0,F6])])) ?_;obtain⟨c27,h⟩:=E2 h;refine D8 (And.intro (And.intro c27.1.1 c27.1.2) (And.intro (rfl:(7:Nat)=7) (And.intro c27.2 Kh))) ?_;exact q _ [(905,905),(4000,4000),(4500,51000)] _ ((z3.push Pat.nil).upd (z3.n:Int).toNat x7.2) Gr h (hle:=klR [(0,.fn (z3.n+1) ((z3.push Pat.nil).upd (z3.n:Int).toNat x7.2).n (fun l=>if l=(z3.n:Int).toNat then splice (S2 z3.n (fun i=>E8 (z3.g i)) (C9 [pI .i64 0,pI .u32 0,pI .u32 0,.v (.bool false),pI .i64 0,pI .i64 0,F6] [(0,[pI .i64 0,pI .u32 0,pI .u32 0,.v (.bool false),pI .i64 0,pI .i64 0,F6])]) l) 0 [pI .i64 x7.2.Kind,pI .u32 x7.2.Is.Plus,pI .u32 x7.2.Is.Minus,.bb x7.2.Not,pI .i64 x7.2.Min,pI .i64 x7.2.Max,.sl false 7 x7.2.L.n (GP x7.2)]else (S2 z3.n (fun i=>E8 (z3.g i)) (C9 [pI .i64 0,pI .u32 0,pI .u32 0,.v (.bool false),pI .i64 0,pI .i64 0,F6] [(0,[pI .i64 0,pI .u32 0,pI .u32 0,.v (.bool false),pI .i64 0,pI .i64 0,F6])])) l) (fun i=>E8 (((z3.push Pat.nil).upd (z3.n:Int).toNat x7.2).g i)))] (al1 ⟨rfl,setH (c:=E8) (v:=z3.push Pat.nil) (x:=x7.2) (app1H (c:=E8) (v:=z3) (z:=Pat.nil) same rfl) (fun _=>by simp[S2,C9,splice])⟩ al0))
  exact j _ [(4000,4000),(4501,4500)] _ z3 (wrap .i64 (x4+1)) Gr h
 cases h;exact kR Z
def De (N:Nat)(b:Pat)(a:Sl A3):Option ((Nat->Int)×Int):= (Cv N b).bind fun y1=>if (y1 != 0) then some (fun _=>0,y1) else if (decide (32<(a.n:Int))) then some (fun _=>0,11) else (D7 N a (fun (u1:A3)=>DJ N u1)).bind fun y2=>if y2 then some (fun _=>0,14) else (EC N b).bind fun y3=>(Hj N y3 a).bind fun y4=>some (y4,0)
theorem Kj {a:Pat}{b:Sl A3}{y:(Nat->Int)×Int}(h:De N a b=some y) :FunO S Kf [.p (.agg (E8 a)),.p (vSl 2 A0 b)] [] (.tup [.p (.agg (cA 33 (pI .u64) y.1)),pN y.2]) ([]) []:=by
 unfold De at h;refine A5 Z func188 ?_;refine kC Z h (Hk Z Y) (fun y1 h=>?_);apply kI Z h<;>intro h
 .obtain rfl:=B6 h;exact A7 Z (And.intro rfl (F2 _ _):(0:Nat)=0/\(CB 33 (fun i=>pI .u64 ((fun _=>0) i))).length=33) ⟨[(5,pN y1),(4,.reg 5000 0)],[(5000,.arr 33 (fun i=>pI .u64 ((fun _=>0) i)))]⟩ [] (ids:=[(5000,5000)]) ⟨rfl,rfl,rfl⟩ (hle:=klR [(1,.fn 33 33 (fun i=>[(fun i=>(cA 33 (pI .u64) (fun _=>0)).getD i default) i]) (fun i=>[pI .u64 ((fun _=>0) i)]))] (al1 ⟨rfl,E4 33 (fun i=>pI .u64 ((fun _=>0) i))⟩ al0))
 apply kI Z h<;>intro h
 .obtain rfl:=B6 h;exact A7 Z (And.intro rfl (F2 _ _):(0:Nat)=0/\(CB 33 (fun i=>pI .u64 ((fun _=>0) i))).length=33) ⟨[(5,pN 11),(4,.reg 5000 0)],[(5000,.arr 33 (fun i=>pI .u64 ((fun _=>0) i)))]⟩ [] (ids:=[(5000,5000)]) ⟨rfl,rfl,rfl⟩ (hle:=klR [(1,.fn 33 33 (fun i=>[(fun i=>(cA 33 (pI .u64) (fun _=>0)).getD i default) i]) (fun i=>[pI .u64 ((fun _=>0) i)]))] (al1 ⟨rfl,E4 33 (fun i=>pI .u64 ((fun _=>0) i))⟩ al0))
 refine kC Z h (J8 Z Y (fun e=>NC Z Y e)) (fun y2 h=>?_);apply kI Z h<;>intro h
 .obtain rfl:=B6 h;exact A7 Z (And.intro rfl (F2 _ _):(0:Nat)=0/\(CB 33 (fun i=>pI .u64 ((fun _=>0) i))).length=33) ⟨[(5,pN 14),(4,.reg 5000 0)],[(5000,.arr 33 (fun i=>pI .u64 ((fun _=>0) i)))]⟩ [] (ids:=[(5000,5000)]) ⟨rfl,rfl,rfl⟩ (hle:=klR [(1,.fn 33 33 (fun i=>[(fun i=>(cA 33 (pI .u64) (fun _=>0)).getD i default) i]) (fun i=>[pI .u64 ((fun _=>0) i)]))] (al1 ⟨rfl,E4 33 (fun i=>pI .u64 ((fun _=>0) i))⟩ al0))
 refine kC Z h (OB Z Y) (fun y3 h=>?_);obtain⟨y4,e4,h⟩:=B1 h;refine Mg Z Gr (XJ Z Y e4) ?_;obtain rfl:=B6 h;exact A7 Z (And.intro rfl (F2 _ _):(0:Nat)=0/\(CB 33 (fun i=>pI .u64 (y4 i))).length=33) ⟨[(5,pN 0),(4,.reg 5000 0)],[(5000,.arr 33 (fun i=>pI .u64 (y4 i)))]⟩ [] (ids:=[(5000,5000)]) ⟨rfl,rfl,rfl⟩ (hle:=klR [(1,.fn 33 33 (fun i=>[(fun i=>(cA 33 (pI .u64) y4).getD i default) i]) (fun i=>[pI .u64 (y4 i)]))] (al1 ⟨rfl,E4 33 (fun i=>pI .u64 (y4 i))⟩ al0))
def FO (N:Nat)(d:Pat)(c:Sl A3)(a:Int):Option ((Sl Int)×Int):= (De N d c).bind fun y1=>lt (fun (z1:Int)=>if (z1 != 0) then some (Nd,z1) else DX N (fun b (x2:Sl Int) (x3:Int)=>if (decide (x3<(wrap .i64 ((c.n:Int)+1)))) then if ((((0:Int)<=x3/\x3<33)/\(0+x3.toNat*1)<33)/\(0:Int)<=a)then if ((P3 .and .u64 (shI .shr .u64 (y1.1 (0+x3.toNat*1)) a) 1)==1) then if ((x2.n+(Sl.of [x3]:Sl Int).n)*8<=140737488355328/\x2.n+(Sl.of [x3]:Sl Int).n<=140737488355328)then b (x2.push x3) (wrap .i64 (x3+1)) else none else b x2 (wrap .i64 (x3+1)) else none else some (x2,0)) Nd 0) fun k1=>if (y1.2==0) then (Dd N c a).bind fun y3=>k1 y3 else k1 y1.2
theorem QV {f:Pat}{d:Sl A3}{a:Int}{y:(Sl Int)×Int}(h:FO N f d a=some y) :FunO S Ke [.p (.agg (E8 f)),.p (vSl 2 A0 d),pN a] [] (.tup [.vec 0,pN y.2]) ([.vec D1 1 y.1.n (fun i=>cI .i64 (y.1.g i)) true]) []:=by
 unfold FO at h;refine A5 Z func184 ?_;refine kC Z h (Kj Z Y) (fun y1 h=>?_);refine MS Z (And.intro rfl (F2 _ _):(0:Nat)=0/\(CB 33 (fun i=>pI .u64 (y1.1 i))).length=33) (B2 Z) h 0 (fun z1=>⟨[(9,pN z1),(8,.reg 9000 0),(2,pN a),(1,.p (vSl 2 A0 d))],[(9000,.arr 33 (fun i=>pI .u64 (y1.1 i)))]⟩) (fun M1 k1 j h=>?_) (fun z1 h=>?_)
 .apply kI Z h<;>intro h
  .refine kC Z h (Ki Z Y) (fun y3 h=>?_);exact j _ [(9000,9000)] _ y3 Gr h (hle:=klR [(3,.fn 33 33 (fun i=>[(fun i=>(cA 33 (pI .u64) y1.1).getD i default) i]) (fun i=>[pI .u64 (y1.1 i)]))] (al1 ⟨rfl,E4 33 (fun i=>pI .u64 (y1.1 i))⟩ al0))
  exact j _ [(9000,9000)] _ y1.2 Gr h (hle:=klR [(3,.fn 33 33 (fun i=>[(fun i=>(cA 33 (pI .u64) y1.1).getD i default) i]) (fun i=>[pI .u64 (y1.1 i)]))] (al1 ⟨rfl,E4 33 (fun i=>pI .u64 (y1.1 i))⟩ al0))
 apply kI Z h<;>intro h
 .obtain rfl:=B6 h;exact A7 Z Gr ⟨[(7,pN z1),(6,.vec 7700)],[(7700,.vec D1 1 Nd.n (fun i=>cI .i64 (Nd.g i)) true)]⟩ [7700] (ids:=[]) ⟨rfl,rfl,rfl⟩
 refine N1 Z Gr h (fun x2 x3=>⟨[(29,pN x3),(28,pN (wrap .i64 ((d.n:Int)+1))),(10,.vec 11500),(8,.reg 9000 0),(2,pN a)],[(11500,.vec D1 1 x2.n (fun i=>cI .i64 (x2.g i)) false),(9000,.arr 33 (fun i=>pI .u64 (y1.1 i)))]⟩) (ids:=[(9000,9000)]) (fun _ _ _ _ _ m x2 x3 l h=>?_);apply kI Z h<;>intro h
 .obtain⟨c12,h⟩:=E2 h;refine D2 Z c12 (b:=(P3 .and .u64 (shI .shr .u64 (y1.1 (0+x3.toNat*1)) a) 1)==1) (fun c13=>?_) (fun c13=>?_)
  .replace h:=itT c13 h;obtain⟨c14,h⟩:=E2 h;exact l _ [(9000,9000),(11500,43000)] _ (x2.push x3) (wrap .i64 (x3+1)) (And.intro Nb c14) h (hle:=klR [(3,.fn (x2.n+1) (x2.push x3).n (S2 x2.n (fun i=>cI .i64 (x2.g i)) (C9 [pI .i64 0] [(0,cI .i64 x3)])) (fun i=>cI .i64 ((x2.push x3).g i)))] (al1 ⟨rfl,JG (c:=cI .i64) (v:=x2) (x:=x3) (z:=[(pI .i64 0)]) same rfl rfl⟩ al0))
  replace h:=itF c13 h;exact l _ [(9000,9000),(11500,11500)] _ x2 (wrap .i64 (x3+1)) Gr h
 obtain rfl:=B6 h;exact A7 Z Gr ⟨[(7,pN 0),(6,.vec 11500)],[(11500,.vec D1 1 x2.n (fun i=>cI .i64 (x2.g i)) true)]⟩ [11500] (ids:=[(11500,11500)]) ⟨rfl,rfl,rfl⟩
def N7 (N:Nat)(a:List (Int)):Option (Sl Int):= BI a (fun b (x1:Int) (z1:Sl Int)=>if ((z1.n+(Sl.of [x1]:Sl Int).n)*8<=140737488355328/\z1.n+(Sl.of [x1]:Sl Int).n<=140737488355328)then b (z1.push x1) else none) (fun (z1:Sl Int)=>some z1) Nd
theorem Cw {b:List (Int)}{a:Int}{kp_seq:Nat}(fp_seq:∃fn,Ar4[kp_seq]? = some fn/\fn.body.isSome=true/\(fn.name == "runtime.NumGoroutine")=false)(d:Dv S kp_seq [] [.reg 0 0] [(.cells [(.p (pI .u64 a))])] (b.map (fun (x:Int)=>[(pI .i64) x]))){y:(Sl Int)}(h:N7 N b=some y) :FunO S O3 [(.p F6),(.clo kp_seq [] [(.reg 0 0)])] [(.cells [(.p (pI .u64 a))])] (.vec 0) ([(.vec D1 1 y.n (fun i=>(cI .i64) (y.g i)) true)]) [false]:=by
 unfold N7 at h;refine A5 Z func123 ?_;refine Mf Z Gr fp_seq [0] [2] 901 (fun z1=>⟨[(2,(.reg 3000 0))],[(3500,(.vec D1 1 z1.n (fun i=>(cI .i64) (z1.g i)) false)),(3000,(.cells [(.vec 3500)]))]⟩) (idl:=[(3000,3000)]) h d (fun _=>by kernel_rfl) (fun _=>by kernel_rfl) (fun _=>by kernel_rfl) (fun _=>by kernel_rfl) (fun x1 _ f z1 j h=>?_) (fun z1 h=>?_)
 .refine JJ Z Gr ?_;obtain⟨c1,h⟩:=E2 h;exact j _ [(901,901),(3000,3000),(3500,12000)] _ (z1.push x1) (And.intro Nb c1) h (hle:=klR [(0,.fn (z1.n+1) (z1.push x1).n (S2 z1.n (fun i=>(cI .i64) (z1.g i)) (C9 [(pI .i64 0)] [(0,(cI .i64) x1)])) (fun i=>(cI .i64) ((z1.push x1).g i)))] (al1 ⟨rfl,(JG (c:=(cI .i64)) (v:=z1) (x:=x1) (z:=[(pI .i64 0)]) same rfl rfl)⟩ al0))
 obtain rfl:=B6 h;exact A7 Z Gr ⟨[(4,(.vec 3500))],[(3500,(.vec D1 1 z1.n (fun i=>(cI .i64) (z1.g i)) true))]⟩ [3500] (ids:=[(3500,3500)]) ⟨rfl,rfl,rfl⟩
def Z1 (N:Nat)(a:List (Int)):Option (Sl Int):= (N7 N a).bind fun y1=>some y1
theorem Hl {b:List (Int)}{a:Int}{kp_seq:Nat}(fp_seq:∃fn,Ar4[kp_seq]? = some fn/\fn.body.isSome=true/\(fn.name == "runtime.NumGoroutine")=false)(c:Dv S kp_seq [] [.reg 0 0] [(.cells [(.p (pI .u64 a))])] (b.map (fun (x:Int)=>[(pI .i64) x]))){y:(Sl Int)}(h:Z1 N b=some y) :FunO S Aq [(.clo kp_seq [] [(.reg 0 0)])] [(.cells [(.p (pI .u64 a))])] (.vec 0) ([(.vec D1 1 y.n (fun i=>(cI .i64) (y.g i)) true)]) [false]:=by unfold Z1 at h;refine A5 Z func88 ?_;obtain⟨y1,e1,h⟩:=B1 h;refine B7 Z [0] Gr (Cw Z Y fp_seq c e1) ?_;obtain rfl:=B6 h;exact A7 Z Gr ⟨[(2,(.vec 5000))],[(5000,(.vec D1 1 y1.n (fun i=>(cI .i64) (y1.g i)) true))]⟩ [5000] (ids:=[(5000,5000)]) ⟨rfl,rfl,rfl⟩
def IZ (N:Nat)(c:Pat)(b:Sl A3)(a:Int):Option ((Sl Int)×Int):= (De N c b).bind fun y1=>lt (fun (z1:Int)=>if (z1 != 0) then some (Nd,z1) else if (((0:Int)<=a/\a<33)/\(0+a.toNat*1)<33)then (AR N (y1.1 (0+a.toNat*1))).bind fun y4=>(W3 N y4).bind fun L1=>(Z1 N L1).bind fun y5=>some (y5,0) else none) fun k1=>if (y1.2==0) then (Dd N b a).bind fun y3=>k1 y3 else k1 y1.2
theorem Uh {b:Pat}{c:Sl A3}{a:Int}{y:(Sl Int)×Int}(h:IZ N b c a=some y) :FunO S Nr [.p (.agg (E8 b)),.p (vSl 2 A0 c),pN a] [] (.tup [.vec 0,pN y.2]) ([.vec D1 1 y.1.n (fun i=>cI .i64 (y.1.g i)) true]) []:=by
 unfold IZ at h;refine A5 Z func185 ?_;refine kC Z h (Kj Z Y) (fun y1 h=>?_);refine MS Z (And.intro rfl (F2 _ _):(0:Nat)=0/\(CB 33 (fun i=>pI .u64 (y1.1 i))).length=33) (B2 Z) h 0 (fun z1=>⟨[(9,pN z1),(8,.reg 9000 0),(2,pN a)],[(9000,.arr 33 (fun i=>pI .u64 (y1.1 i)))]⟩) (fun M1 k1 d h=>?_) (fun z1 h=>?_)
 .apply kI Z h<;>intro h
  .refine kC Z h (Ki Z Y) (fun y3 h=>?_);exact d _ [(9000,9000)] _ y3 Gr h (hle:=klR [(2,.fn 33 33 (fun i=>[(fun i=>(cA 33 (pI .u64) y1.1).getD i default) i]) (fun i=>[pI .u64 (y1.1 i)]))] (al1 ⟨rfl,E4 33 (fun i=>pI .u64 (y1.1 i))⟩ al0))
  exact d _ [(9000,9000)] _ y1.2 Gr h (hle:=klR [(2,.fn 33 33 (fun i=>[(fun i=>(cA 33 (pI .u64) y1.1).getD i default) i]) (fun i=>[pI .u64 (y1.1 i)]))] (al1 ⟨rfl,E4 33 (fun i=>pI .u64 (y1.1 i))⟩ al0))
 apply kI Z h<;>intro h
 .obtain rfl:=B6 h;exact A7 Z Gr ⟨[(7,pN z1),(6,.vec 7700)],[(7700,.vec D1 1 Nd.n (fun i=>cI .i64 (Nd.g i)) true)]⟩ [7700] (ids:=[]) ⟨rfl,rfl,rfl⟩
 obtain⟨c5,h⟩:=E2 h;obtain⟨y4,e4,h⟩:=B1 h;refine B7 Z [] c5 (EA Z Y e4) ?_;obtain⟨L1,e5,h⟩:=B1 h;obtain⟨y5,e6,h⟩:=B1 h;refine B7 Z [28000] Gr (Hl Z Y ⟨_,func193,by decide +kernel,by decide +kernel⟩ (CG Z Y e5) e6) ?_;obtain rfl:=B6 h;exact A7 Z Gr ⟨[(7,pN 0),(6,.vec 29000)],[(29000,.vec D1 1 y5.n (fun i=>cI .i64 (y5.g i)) true)]⟩ [29000] (ids:=[(29000,29000)]) ⟨rfl,rfl,rfl⟩
end Go.AM
namespace Go.AM
open Go.Proofs.Tryz
variable {N:Nat}
open IntKind (wrap)
open Go.Proofs
set_option maxRecDepth 10000
set_option maxHeartbeats 2000000
variable {S:S6}(Z:G1 S Tryz.prog) (Y:Jn S)
include Z Y
def Ja (N:Nat)(a:Str):Option Bool:= lt (fun (z1:Bool)=>some z1) fun k1=>if ((a==[]) != true) then if (decide ((a.length:Int)<=24)) then (Ex N a [97,98,99,100,101,102,103,104,105,106,107,108,109,110,111,112,113,114,115,116,117,118,119,120,121,122,65,66,67,68,69,70,71,72,73,74,75,76,77,78,79,80,81,82,83,84,85,86,87,88,89,90,48,49,50,51,52,53,54,55,56,57,45]).bind fun y2=>k1 ((y2==[]) != false) else k1 false else k1 false
theorem Ui {b:Str}{y:Bool}(h:Ja N b=some y) :FunO S Nl [.p (.str b)] [] (pB y) ([]) []:=by
 unfold Ja at h;refine A5 Z func118 ?_;refine MS Z Gr (B2 Z) h 0 (fun z1=>⟨[(2,pB z1)],[]⟩) (fun M1 k1 a h=>?_) (fun z1 h=>?_)
 .refine kG Z h (fun h=>?_) (fun h=>?_)
  .refine kG Z h (fun h=>?_) (fun h=>?_)
   .refine kC Z h (Iy Z Y) (fun y2 h=>?_);exact a _ [] _ ((y2==[]) != false) Gr h
   exact a _ [] _ false Gr h
  exact a _ [] _ false Gr h
 cases h;exact kR Z
def KQ (N:Nat)(p_x:DY)(a:Int):Option Bool:= lt (fun (z1:Bool)=>if z1 then some false else if ((((P3 .andNot .u32 (P3 .or .u32 p_x.Clear p_x.Take) 16777215) != 0)||((P3 .and .u32 p_x.Clear (P3 .or .u32 p_x.Set.Plus p_x.Set.Minus)) != 0))||((P3 .and .u32 p_x.Take (P3 .or .u32 (P3 .or .u32 p_x.Set.Plus p_x.Set.Minus) p_x.Clear)) != 0)) then some false else if (p_x.Take==0) then some (p_x.Of==0) else some ((decide (0<=p_x.Of))&&(decide (p_x.Of<a)))) fun k1=>if (decide (p_x.From<(-1))) then k1 true else if (decide (a<=p_x.From)) then k1 true else (K7 N p_x.Set).bind fun y2=>k1 (!y2)
theorem Wf {p_x:DY}{b:Int}{y:Bool}(h:KQ N p_x b=some y) :FunO S Pz [.p (.agg (V8 p_x)),pN b] [] (pB y) ([]) []:=by
 unfold KQ at h;refine A5 Z func116 ?_;refine MS Z Gr (B2 Z) h 0 (fun z1=>⟨[(13,pB z1),(5,pU (P3 .or .u32 p_x.Set.Plus p_x.Set.Minus)),(2,.reg 3000 0),(1,pN b)],[(3000,.cells ((V8 p_x).map .p))]⟩) (fun M1 k1 c h=>?_) (fun z1 h=>?_)
 .refine kG Z h (fun h=>?_) (fun h=>?_)
  .exact c _ [(3000,3000)] _ true Gr h
  refine kG Z h (fun h=>?_) (fun h=>?_)
  .exact c _ [(3000,3000)] _ true Gr h
  refine kC Z h (P5 Z Y) (fun y2 h=>?_);exact c _ [(3000,3000)] _ (!y2) Gr h
 apply kI Z h<;>intro h
 .cases h;exact kR Z
 refine kB Z (B2 Z) Gr Gr 16 (.o (.o (.a ((P3 .andNot .u32 (P3 .or .u32 p_x.Clear p_x.Take) 16777215) != 0)) (.a ((P3 .and .u32 p_x.Clear (P3 .or .u32 p_x.Set.Plus p_x.Set.Minus)) != 0))) (.a ((P3 .and .u32 p_x.Take (P3 .or .u32 (P3 .or .u32 p_x.Set.Plus p_x.Set.Minus) p_x.Clear)) != 0))) ?_;apply kI Z h<;>intro h
 .cases h;exact kR Z
 apply kI Z h<;>intro h
 .cases h;exact kR Z
 refine kB Z (B2 Z) Gr Gr 5 (.n (.a (decide (0<=p_x.Of))) (.a (decide (p_x.Of<b)))) ?_;cases h;exact kR Z
def FP (N:Nat)(p_x:DY)(q0:Int):Option Bool:= (KQ N p_x q0).bind fun y1=>some (!y1)
theorem QW {p_x:DY}{q0:Int}{y:Bool}(h:FP N p_x q0=some y) :FunO S Kb [.p (.agg (V8 p_x)),.reg 0 0] [.cells [pN q0]] (pB y) ([.cells [pN q0]]) [true]:=by unfold FP at h;refine A5 Z func115 ?_;refine kC Z h (Wf Z Y) (fun y1 h=>?_);obtain rfl:=B6 h;exact A7 Z Gr ⟨[(3,pB (!y1))],[(0,.cells [pN q0])]⟩ [0] (ids:=[(0,0)]) ⟨rfl,rfl,rfl⟩
def FQ (N:Nat)(a:A3):Option Bool:= (K7 N a).bind fun y1=>some (!y1)
theorem QX {a:A3}{y:Bool}(h:FQ N a=some y) :FunO S Kc [.p (.agg (A0 a))] [] (pB y) ([]) []:=by unfold FQ at h;refine A5 Z func117 ?_;refine kC Z h (P5 Z Y) (fun y1 h=>?_);cases h;exact kR Z
def I1 (N:Nat)(a:Sl DY)(c:DY->Option Bool):Option Int:= Cd N (fun b (x1:Int)=>if (decide (x1<(a.n:Int))) then if ((0:Int)<=x1/\x1<(a.n:Int))then (c (a.g x1.toNat)).bind fun y3=>if y3 then some x1 else b (wrap .i64 (x1+1)) else none else some (-1)) 0
theorem Az {c:Sl DY}{d:DY->Option Bool}{a:Int}{kp_f:Nat}(f:∀{a0:DY}{b:Bool},d a0=some b->FunO S kp_f [.p (.agg (V8 a0)),.reg 0 0] [.cells [pN a]] (pB b) [.cells [pN a]] [true]){y:Int}(h:I1 N c d=some y) :FunO S O8 [.p (vSl 6 V8 c),.clo kp_f [] [.reg 0 0]] [.cells [pN a]] (pN y) ([.cells [pN a]]) [true]:=by
 unfold I1 at h;refine A5 Z func150 ?_;refine S9 Z Gr h (fun x1=>⟨[(8,pN x1),(7,pN (c.n:Int)),(1,.clo kp_f [] [.reg 0 0]),(0,.p (vSl 6 V8 c))],[(0,.cells [pN a])]⟩) (ids:=[(0,0)]) (fun _ _ _ _ _ g x1 i h=>?_);apply kI Z h<;>intro h
 .obtain⟨c8,h⟩:=E2 h;obtain⟨y3,e3,h⟩:=B1 h;refine B7 Z [0] (And.intro c8 (by decide:(6:Nat)<=6)) (f e3) ?_;apply kI Z h<;>intro h
  .obtain rfl:=B6 h;exact A7 Z Gr ⟨[(4,pN x1)],[(0,.cells [pN a])]⟩ [0] (ids:=[(0,0)]) ⟨rfl,rfl,rfl⟩
  exact i _ [(0,0)] _ (wrap .i64 (x1+1)) Gr h
 obtain rfl:=B6 h;exact A7 Z Gr ⟨[(4,pN (-1))],[(0,.cells [pN a])]⟩ [0] (ids:=[(0,0)]) ⟨rfl,rfl,rfl⟩
def G7 (N:Nat)(a:Sl DY)(b:DY->Option Bool):Option Bool:= (I1 N a b).bind fun y1=>some (decide (0<=y1))
theorem Y0 {c:Sl DY}{d:DY->Option Bool}{a:Int}{kp_f:Nat}(f:∀{a0:DY}{b:Bool},d a0=some b->FunO S kp_f [.p (.agg (V8 a0)),.reg 0 0] [.cells [pN a]] (pB b) [.cells [pN a]] [true]){y:Bool}(h:G7 N c d=some y) :FunO S N2 [.p (vSl 6 V8 c),.clo kp_f [] [.reg 0 0]] [.cells [pN a]] (pB y) ([.cells [pN a]]) [true]:=by unfold G7 at h;refine A5 Z func121 ?_;obtain⟨y1,e1,h⟩:=B1 h;refine B7 Z [0] Gr (Az Z Y (fun e=>f e) e1) ?_;obtain rfl:=B6 h;exact A7 Z Gr ⟨[(4,pB (decide (0<=y1)))],[(0,.cells [pN a])]⟩ [0] (ids:=[(0,0)]) ⟨rfl,rfl,rfl⟩
def DK (N:Nat)(a:Law):Option Int:= (Ja N a.Name).bind fun y1=>if (!y1) then some 17 else (Cv N a.Left).bind fun y2=>if (y2 != 0) then some 17 else (Cv N a.Right).bind fun y3=>if (y3 != 0) then some 17 else if (decide (4<(a.If.n:Int))) then some 17 else if (decide (6<(a.Out.n:Int))) then some 17 else if ((wrap .i64 ((a.If.n:Int)+(a.Out.n:Int)))==0) then some 17 else if ((decide (a.Mode<1))||(decide (3<a.Mode))) then some 17 else (D7 N a.If (fun (u1:A3)=>FQ N u1)).bind fun y4=>if y4 then some 17 else (G7 N a.Out (fun (u2:DY)=>FP N u2 (a.If.n:Int))).bind fun y5=>if y5 then some 17 else some 0
theorem Jb {c:Law}{y:Int}(h:DK N c=some y) :FunO S Ni [.p (.agg (B4 c))] [] (pN y) ([]) []:=by
 unfold DK at h;refine A5 Z func82 ?_;refine kC Z h (Ui Z Y) (fun y1 h=>?_);refine D2 Z Gr (b:=!y1) (fun c1=>?_) (fun c1=>?_)
 .replace h:=itT c1 h;refine D2 Z Gr (b:=!y1) (fun c2=>?_) (fun c2=>?_)
  .cases h;exact kR Z
  exact Bool.noConfusion (c1.symm.trans c2)
 replace h:=itF c1 h;refine kC Z h (Hk Z Y) (fun y2 h=>?_);refine D2 Z Gr (b:=y2 != 0) (fun c3=>?_) (fun c3=>?_)
 .replace h:=itT c3 h;refine D2 Z Gr (b:=y2 != 0) (fun c4=>?_) (fun c4=>?_)
  .cases h;exact kR Z
  exact Bool.noConfusion (c3.symm.trans c4)
 replace h:=itF c3 h;refine kC Z h (Hk Z Y) (fun y3 h=>?_);refine D2 Z Gr (b:=y3 != 0) (fun c5=>?_) (fun c5=>?_)
 .replace h:=itT c5 h;refine D2 Z Gr (b:=y3 != 0) (fun c6=>?_) (fun c6=>?_)
  .cases h;exact kR Z
  exact Bool.noConfusion (c5.symm.trans c6)
 replace h:=itF c5 h;refine D2 Z Gr (b:=decide (4<(c.If.n:Int))) (fun c7=>?_) (fun c7=>?_)
 .replace h:=itT c7 h;refine D2 Z Gr (b:=decide (4<(c.If.n:Int))) (fun c8=>?_) (fun c8=>?_)
  .cases h;exact kR Z
  exact Bool.noConfusion (c7.symm.trans c8)
 replace h:=itF c7 h;refine D2 Z Gr (b:=decide (6<(c.Out.n:Int))) (fun c9=>?_) (fun c9=>?_)
 .replace h:=itT c9 h;refine D2 Z Gr (b:=decide (6<(c.Out.n:Int))) (fun c10=>?_) (fun c10=>?_)
  .cases h;exact kR Z
  exact Bool.noConfusion (c9.symm.trans c10)
 replace h:=itF c9 h;refine D2 Z Gr (b:=(wrap .i64 ((c.If.n:Int)+(c.Out.n:Int)))==0) (fun c11=>?_) (fun c11=>?_)
 .replace h:=itT c11 h;refine D2 Z Gr (b:=(wrap .i64 ((c.If.n:Int)+(c.Out.n:Int)))==0) (fun c12=>?_) (fun c12=>?_)
  .cases h;exact kR Z
  exact Bool.noConfusion (c11.symm.trans c12)
 replace h:=itF c11 h;refine kB Z (B2 Z) Gr Gr 4 (.o (.a (decide (c.Mode<1))) (.a (decide (3<c.Mode)))) ?_;refine D2 Z Gr (b:=(decide (c.Mode<1))||(decide (3<c.Mode))) (fun c13=>?_) (fun c13=>?_)
 .replace h:=itT c13 h;refine D2 Z Gr (b:=(decide (c.Mode<1))||(decide (3<c.Mode))) (fun c14=>?_) (fun c14=>?_)
  .cases h;exact kR Z
  exact Bool.noConfusion (c13.symm.trans c14)
 replace h:=itF c13 h;refine kC Z h (J8 Z Y (fun e=>QX Z Y e)) (fun y4 h=>?_);refine D2 Z Gr (b:=y4) (fun c15=>?_) (fun c15=>?_)
 .replace h:=itT c15 h;refine D2 Z Gr (b:=y4) (fun c16=>?_) (fun c16=>?_)
  .cases h;exact kR Z
  exact Bool.noConfusion (c15.symm.trans c16)
 replace h:=itF c15 h;obtain⟨y5,e5,h⟩:=B1 h;refine B7 Z [4000] Gr (Y0 Z Y (fun e=>QW Z Y e) e5) ?_;apply kI Z h<;>intro h
 .cases h;exact kR Z
 cases h;exact kR Z
def Jc (N:Nat)(a:Law)(b:Sl A3):Option Int:= (DK N a).bind fun y1=>if (y1 != 0) then some y1 else (Bm N b).bind fun y2=>some y2
theorem Uj {a:Law}{b:Sl A3}{y:Int}(h:Jc N a b=some y) :FunO S Nq [.p (.agg (B4 a)),.p (vSl 2 A0 b)] [] (pN y) ([]) []:=by
 unfold Jc at h;refine A5 Z func166 ?_;refine kC Z h (Jb Z Y) (fun y1 h=>?_);apply kI Z h<;>intro h
 .cases h;exact kR Z
 refine kC Z h (Ef Z Y) (fun y2 h=>?_);cases h;exact kR Z
def ED (N:Nat)(a:Int)(q0:Law)(q1:Sl A3):Option Bool:= (FO N q0.Left q1 a).bind fun y1=>if ((y1.1.n:Int)==0) then some false else (IZ N q0.Right q1 (wrap .i64 (a+(q0.If.n:Int)))).bind fun y2=>some (decide (0<(y2.1.n:Int)))
theorem OC {a:Int}{q0:Law}{q1:Sl A3}{y:Bool}(h:ED N a q0 q1=some y) :FunO S W8 [pN a,.reg 0 0,.reg 1 0] [.cells ((B4 q0).map .p),.cells [.p (vSl 2 A0 q1)]] (pB y) ([.cells ((B4 q0).map .p),.cells [.p (vSl 2 A0 q1)]]) [true,true]:=by
 unfold ED at h;refine A5 Z func183 ?_;refine kC Z h (QV Z Y) (fun y1 h=>?_);apply kI Z h<;>intro h
 .obtain rfl:=B6 h;exact A7 Z Gr ⟨[(4,pB false)],[(1,.cells [.p (vSl 2 A0 q1)]),(0,.cells ((B4 q0).map .p))]⟩ [0,1] (ids:=[(0,0),(1,1)]) ⟨rfl,rfl,rfl⟩
 refine kC Z h (Uh Z Y) (fun y2 h=>?_);obtain rfl:=B6 h;exact A7 Z Gr ⟨[(4,pB (decide (0<(y2.1.n:Int))))],[(1,.cells [.p (vSl 2 A0 q1)]),(0,.cells ((B4 q0).map .p))]⟩ [0,1] (ids:=[(0,0),(1,1)]) ⟨rfl,rfl,rfl⟩
def Hm (N:Nat)(a:Law)(b:Sl A3):Option (Law×(Sl A3)):= some (a,b)
theorem SN {a:Law}{b:Sl A3}{y:Law×(Sl A3)}(h:Hm N a b=some y) :FunO S Lz [.p (.agg (B4 a)),.p (vSl 2 A0 b)] [] (.clo W8 [] [.reg 0 0,.reg 1 0]) ([.cells ((B4 y.1).map .p),.cells [.p (vSl 2 A0 y.2)]]) []:=by unfold Hm at h;refine A5 Z func178 ?_;obtain rfl:=B6 h;exact A7 Z Gr ⟨[(4,.clo W8 [] [.reg 3000 0,.reg 4000 0])],[(4000,.cells [.p (vSl 2 A0 b)]),(3000,.cells ((B4 a).map .p))]⟩ [3000,4000] (ids:=[(3000,3000),(4000,4000)]) ⟨rfl,rfl,rfl⟩
def Kk (N:Nat)(a:Law)(b:Sl A3):Option (Sl A3):= DX N (fun c (x1:Sl A3) (x2:Int)=>if (decide (x2<(a.Out.n:Int))) then if ((0:Int)<=x2/\x2<(a.Out.n:Int))then if ((decide (0<=(a.Out.g x2.toNat).From))=true->((0:Int)<=(a.Out.g x2.toNat).From/\(a.Out.g x2.toNat).From<(b.n:Int)))then (Ey N (⟨(if (decide (0<=(a.Out.g x2.toNat).From)) then (b.g (a.Out.g x2.toNat).From.toNat).Plus else 0),(if (decide (0<=(a.Out.g x2.toNat).From)) then (b.g (a.Out.g x2.toNat).From.toNat).Minus else 0)⟩:A3) (a.Out.g x2.toNat).Clear (a.Out.g x2.toNat).Set).bind fun y5=>if ((a.Out.g x2.toNat).Take != 0) then if ((0:Int)<=(a.Out.g x2.toNat).Of/\(a.Out.g x2.toNat).Of<(b.n:Int))then (Hh N y5.1 (b.g (a.Out.g x2.toNat).Of.toNat) (a.Out.g x2.toNat).Take).bind fun y6=>if ((x1.n+(Sl.of [y6.1]:Sl A3).n)*8<=140737488355328/\x1.n+(Sl.of [y6.1]:Sl A3).n<=140737488355328)then c (x1.push y6.1) (wrap .i64 (x2+1)) else none else none else if ((x1.n+(Sl.of [y5.1]:Sl A3).n)*8<=140737488355328/\x1.n+(Sl.of [y5.1]:Sl A3).n<=140737488355328)then c (x1.push y5.1) (wrap .i64 (x2+1)) else none else none else none else some x1) (Sl.nil:Sl A3) 0
theorem SO {d:Law}{a:Sl A3}{y:Sl A3}(h:Kk N d a=some y) :FunO S SF [.p (.agg (B4 d)),.p (vSl 2 A0 a)] [] (.p (vSl 2 A0 y)) ([]) []:=by
 unfold Kk at h;refine A5 Z func174 ?_;refine F5 Z Gr 4 3000 (B4 d) ?_;refine N1 Z Gr h (fun x1 x2=>⟨[(12,pN x2),(11,pN (d.Out.n:Int)),(10,.p (vSl 6 V8 d.Out)),(5,.vec 6500),(1,.p (vSl 2 A0 a))],[(6500,.vec B8 2 x1.n (fun i=>A0 (x1.g i)) false)]⟩) (ids:=[]) (fun _ _ _ _ _ o x1 x2 l h=>?_);apply kI Z h<;>intro h
 .obtain⟨c16,h⟩:=E2 h;refine F5 Z (And.intro c16 (by decide:(6:Nat)<=6)) 8 8000 (V8 (d.Out.g x2.toNat)) ?_;obtain⟨c18,h⟩:=E2 h;obtain⟨t5,f⟩:∃x:Int,x=(if (decide (0<=(d.Out.g x2.toNat).From)) then (a.g (d.Out.g x2.toNat).From.toNat).Plus else 0):=⟨_,rfl⟩;obtain⟨t6,j⟩:∃x:Int,x=(if (decide (0<=(d.Out.g x2.toNat).From)) then (a.g (d.Out.g x2.toNat).From.toNat).Minus else 0):=⟨_,rfl⟩;refine Xs Z Gr (B2 Z) 0 ⟨[(12,pN x2),(11,pN (d.Out.n:Int)),(10,.p (vSl 6 V8 d.Out)),(8,.reg 9000 0),(7,.p (.ptr (V8 (d.Out.g x2.toNat)))),(5,.vec 6500),(1,.p (vSl 2 A0 a))],[(9000,.cells [pU t5,pU t6]),(6500,.vec B8 2 x1.n (fun i=>A0 (x1.g i)) false)]⟩ (fun M3 m=>?_) ?_
  .refine D2 Z Gr (b:=decide (0<=(d.Out.g x2.toNat).From)) (fun c19=>?_) (fun c19=>?_)
   .exact m _ [(6500,6500),(9000,9000)] _ (And.intro (c18 c19) Hc) (hle:=klR [(5,.eq (pI .u32 (a.g (d.Out.g x2.toNat).From.toNat).Plus) (pI .u32 t5)),(6,.eq (pI .u32 (a.g (d.Out.g x2.toNat).From.toNat).Minus) (pI .u32 t6))] (al1 (by simp only[f,j,c19,Leaf.ok,pm,Fe,Ge]) (al1 (by simp only[f,j,c19,Leaf.ok,pm,Fe,Ge]) al0)))
   exact m _ [(6500,6500),(9000,9000)] _ Gr (hle:=klR [(5,.eq (pI .u32 0) (pI .u32 t5)),(6,.eq (pI .u32 0) (pI .u32 t6))] (al1 (by simp only[f,j,c19,Leaf.ok,pm,Fe,Ge]) (al1 (by simp only[f,j,c19,Leaf.ok,pm,Fe,Ge]) al0)))
  subst j;subst f;obtain⟨y5,e5,h⟩:=B1 h;refine B7 Z [] (by decide:(2:Nat)<=4) (Oy Z Y e5) ?_;apply kI Z h<;>intro h
  .refine D6 Z Gr [3,4,5,7,8] ?_;obtain⟨c21,h⟩:=E2 h;obtain⟨y6,e6,h⟩:=B1 h;refine F7 (And.intro c21 Hc) (SL Z Y e6) ?_;refine D8 Gr ?_;obtain⟨c22,h⟩:=E2 h;exact l _ [(6500,52000)] _ (x1.push y6.1) (wrap .i64 (x2+1)) (And.intro Nb c22) h (hle:=klR [(4,.fn (x1.n+1) (x1.push y6.1).n (S2 x1.n (fun i=>A0 (x1.g i)) (C9 [pI .u32 0,pI .u32 0] [(0,A0 y6.1)])) (fun i=>A0 ((x1.push y6.1).g i)))] (al1 ⟨rfl,JG (c:=A0) (v:=x1) (x:=y6.1) (z:=[(pI .u32 0),pI .u32 0]) same rfl rfl⟩ al0))
  obtain⟨c23,h⟩:=E2 h;exact l _ [(6500,52000)] _ (x1.push y5.1) (wrap .i64 (x2+1)) (And.intro Nb c23) h (hle:=klR [(4,.fn (x1.n+1) (x1.push y5.1).n (S2 x1.n (fun i=>A0 (x1.g i)) (C9 [pI .u32 0,pI .u32 0] [(0,A0 y5.1)])) (fun i=>A0 ((x1.push y5.1).g i)))] (al1 ⟨rfl,JG (c:=A0) (v:=x1) (x:=y5.1) (z:=[(pI .u32 0),pI .u32 0]) same rfl rfl⟩ al0))
 obtain rfl:=B6 h;exact A7 Z Gr ⟨[(4,.p (vSl 2 A0 x1))],[]⟩ [] (ids:=[]) ⟨rfl,rfl,rfl⟩
def E7 (N:Nat)(a:Sl (Sl A3)):Option (Sl A3):= DX N (fun b (x1:Int) (x2:Int)=>if (decide (x2<(a.n:Int))) then if ((0:Int)<=x2/\x2<(a.n:Int))then if (decide ((wrap .i64 (x1+((a.g x2.toNat).n:Int)))<0)) then none else b (wrap .i64 (x1+((a.g x2.toNat).n:Int))) (wrap .i64 (x2+1)) else none else (P8 N x1).bind fun y1=>DX N (fun c (x3:Sl A3) (x4:Int)=>if (decide (x4<(a.n:Int))) then if (((0:Int)<=x4/\x4<(a.n:Int))/\((x3.n+(a.g x4.toNat).n)*8<=140737488355328/\x3.n+(a.g x4.toNat).n<=140737488355328))then c (x3.app (a.g x4.toNat)) (wrap .i64 (x4+1)) else none else some x3) y1 0) 0 0
theorem O0 {a:Sl (Sl A3)}{y:Sl A3}(h:E7 N a=some y) :FunO S N9 [.p (vSl 1 (cL 2 A0) a)] [] (.vec 0) ([.vec B8 2 y.n (fun i=>A0 (y.g i)) true]) []:=by
 unfold E7 at h;refine A5 Z func173 ?_;refine N1 Z Gr h (fun x1 x2=>⟨[(11,pN x2),(10,pN (a.n:Int)),(9,.p (vSl 1 (cL 2 A0) a)),(3,pN x1),(0,.p (vSl 1 (cL 2 A0) a))],[]⟩) (ids:=[]) (fun _ _ _ _ _ d x1 x2 f h=>?_);apply kI Z h<;>intro h
 .obtain⟨c8,h⟩:=E2 h;refine D2 Z c8 (b:=decide ((wrap .i64 (x1+((a.g x2.toNat).n:Int)))<0)) (fun c9=>?_) (fun c9=>?_)
  .replace h:=itT c9 h;cases h
  replace h:=itF c9 h;exact f _ [] _ (wrap .i64 (x1+((a.g x2.toNat).n:Int))) (wrap .i64 (x2+1)) Gr h
 refine kC Z h (AQ Z Y) (fun y1 h=>?_);refine N1 Z Gr h (fun x3 x4=>⟨[(27,pN x4),(26,pN (a.n:Int)),(25,.p (vSl 1 (cL 2 A0) a)),(6,.vec 7500)],[(7500,.vec B8 2 x3.n (fun i=>A0 (x3.g i)) false)]⟩) (ids:=[(7500,25000)]) (fun _ _ _ _ _ j x3 x4 l h=>?_);apply kI Z h<;>intro h
 .obtain⟨c13,h⟩:=E2 h;exact l _ [(7500,34000)] _ (x3.app (a.g x4.toNat)) (wrap .i64 (x4+1)) c13 h (hle:=klR [(3,.fn (x3.n+(a.g x4.toNat).n) (x3.app (a.g x4.toNat)).n (S2 x3.n (fun i=>A0 (x3.g i)) (fun i=>A0 ((a.g x4.toNat).g i))) (fun i=>A0 ((x3.app (a.g x4.toNat)).g i)))] (al1 ⟨rfl,Aq8 (c:=A0) (v:=x3) (w:=a.g x4.toNat) same rfl same rfl⟩ al0))
 obtain rfl:=B6 h;exact A7 Z Gr ⟨[(2,.vec 7500)],[(7500,.vec B8 2 x3.n (fun i=>A0 (x3.g i)) true)]⟩ [7500] (ids:=[(7500,7500)]) ⟨rfl,rfl,rfl⟩
def Df (N:Nat)(b:Law)(c:Sl A3)(a:Int):Option (Sl A3):= if (((0:Int)<=a/\a<=(c.n:Int))/\((0:Int)<=a/\a<=(wrap .i64 (a+(b.If.n:Int)))/\(wrap .i64 (a+(b.If.n:Int)))<=(c.n:Int)))then (Kk N b (c.sub a.toNat (wrap .i64 (a+(b.If.n:Int))).toNat)).bind fun y1=>if ((0:Int)<=(wrap .i64 (a+(b.If.n:Int)))/\(wrap .i64 (a+(b.If.n:Int)))<=(c.n:Int))then (E7 N (Sl.of [c.take a.toNat,y1,c.drop (wrap .i64 (a+(b.If.n:Int))).toNat]:Sl (Sl A3))).bind fun y2=>some y2 else none else none
theorem Kl {c:Law}{b:Sl A3}{a:Int}{y:Sl A3}(h:Df N c b a=some y) :FunO S Kd [.p (.agg (B4 c)),.p (vSl 2 A0 b),pN a] [] (.vec 0) ([.vec B8 2 y.n (fun i=>A0 (y.g i)) true]) []:=by unfold Df at h;refine A5 Z func176 ?_;refine F5 Z Gr 6 4000 (B4 c) ?_;refine D6 Z Gr [3,8] ?_;obtain⟨c1,h⟩:=E2 h;obtain⟨y1,e1,h⟩:=B1 h;refine F7 (And.intro (And.intro c1.1 Na) c1.2) (SO Z Y e1) ?_;obtain⟨c2,h⟩:=E2 h;refine P4 c2 (x:=.sl true 1 3 (C9 [F6] [(0,cL 2 A0 (b.take a.toNat)),(1,cL 2 A0 y1),(2,cL 2 A0 (b.drop (wrap .i64 (a+(c.If.n:Int))).toNat))])) ?_;obtain⟨y2,e2,h⟩:=B1 h;refine Ib [] Gr (FunO.le Z (args:=[.p (.sl true 1 3 (C9 [F6] [(0,cL 2 A0 (b.take a.toNat)),(1,cL 2 A0 y1),(2,cL 2 A0 (b.drop (wrap .i64 (a+(c.If.n:Int))).toNat))]))]) (by exact⟨HT rfl (fun i d=>match i,d with|0,_=>rfl|1,_=>rfl|2,_=>rfl|_+3,d=>Eu d (by omega)),trivial⟩) (O0 Z Y e2)) ?_;refine D8 Gr ?_;obtain rfl:=B6 h;exact A7 Z Gr ⟨[(6,.vec 27000)],[(27000,.vec B8 2 y2.n (fun i=>A0 (y2.g i)) true)]⟩ [27000] (ids:=[(27000,27000)]) ⟨rfl,rfl,rfl⟩
def Ej (N:Nat)(q0:Law)(q1:Sl A3)(q2:Int):Option (List (Int)):= (Hm N q0 q1).bind fun y1=>Cd N (fun a (x2:Int)=>if (decide ((wrap .i64 (x2+(q0.If.n:Int)))<=(q1.n:Int))) then Cd N (fun b (x4:Int)=>if (decide (x4<(q0.If.n:Int))) then if ((0:Int)<=x4/\x4<(q0.If.n:Int))then if ((0:Int)<=(wrap .i64 (x2+x4))/\(wrap .i64 (x2+x4))<(q1.n:Int))then (BV N (q1.g (wrap .i64 (x2+x4)).toNat) (q0.If.g x4.toNat)).bind fun c=>if (!c) then a (wrap .i64 (x2+1)) else b (wrap .i64 (x4+1)) else none else none else (ED N x2 y1.1 y1.2).bind fun d=>if d then IT x2 (a (wrap .i64 (x2+1))) else a (wrap .i64 (x2+1))) 0 else some []) q2
theorem LC {q0:Law}{q1:Sl A3}{q2:Int}{L:List (Int)}(h:Ej N q0 q1 q2=some L) :Dv S Ed [] [.reg 0 0,.reg 1 0,.reg 2 0] [.cells ((B4 q0).map .p),.cells [.p (vSl 2 A0 q1)],.cells [pN q2]] (L.map (fun (x:Int)=>[pI .i64 x])):=by
 unfold Ej at h;refine Dc Z func177 ?_;refine kC Z h (SN Z Y) (fun y1 h=>?_);refine BR Z Gr h (fun x2 L1=>⟨[(6,pN x2),(5,.clo W8 [] [.reg 12000 0,.reg 12001 0]),(2,.reg 1 0),(1,.reg 0 0),(0,.yf 3)],[(12001,.cells [.p (vSl 2 A0 y1.2)]),(12000,.cells ((B4 y1.1).map .p)),(3,.yld (L1.map (fun (x:Int)=>[pI .i64 x])) true),(2,.cells [pN q2]),(1,.cells [.p (vSl 2 A0 q1)]),(0,.cells ((B4 q0).map .p))]⟩) (ids:=[(0,0),(1,1),(2,2),(3,3),(12000,12000),(12001,12001)]) (fun _ _ _ _ _ f x2 L1 c h=>?_);apply kI Z h<;>intro h
 .refine BR Z Gr h (fun x4 L8=>⟨[(26,pN x4),(25,pN (q0.If.n:Int)),(24,.p (vSl 2 A0 q0.If)),(6,pN x2),(5,.clo W8 [] [.reg 12000 0,.reg 12001 0]),(2,.reg 1 0),(1,.reg 0 0),(0,.yf 3)],[(12001,.cells [.p (vSl 2 A0 y1.2)]),(12000,.cells ((B4 y1.1).map .p)),(3,.yld (L8.map (fun (x:Int)=>[pI .i64 x])) true),(2,.cells [pN q2]),(1,.cells [.p (vSl 2 A0 q1)]),(0,.cells ((B4 q0).map .p))]⟩) (ids:=[(0,0),(1,1),(2,2),(3,3),(12000,12000),(12001,12001)]) (fun _ _ _ _ _ i x4 L8 j h=>?_);apply kI Z h<;>intro h
  .obtain⟨c47,h⟩:=E2 h;refine Sg Z (And.intro c47 Hc) 9000 [pI .u32 (q0.If.g x4.toNat).Plus,pI .u32 (q0.If.g x4.toNat).Minus] ?_;refine D6 Z Gr [4,5,6,7] ?_;obtain⟨c48,h⟩:=E2 h;obtain⟨l,e12,h⟩:=B1 h;refine F7 (And.intro (And.intro c48 Hc) Hc) (KP Z Y e12) ?_;refine D8 Gr ?_;apply kI Z h<;>intro h
   .exact c _ [(0,0),(1,1),(2,2),(3,3),(12000,12000),(12001,12001)] _ (wrap .i64 (x2+1)) L8 Gr h
   exact j _ [(0,0),(1,1),(2,2),(3,3),(12000,12000),(12001,12001)] _ (wrap .i64 (x4+1)) L8 Gr h
  obtain⟨m,e13,h⟩:=B1 h;refine B7 Z [12000,12001] Gr (OC Z Y e13) ?_;refine kG Z h (fun h=>?_) (fun h=>?_)
  .obtain⟨L10,rfl,d⟩:=KH h;replace h:=d;refine BQ Z Gr (ys:=(fun (x:Int)=>[pI .i64 x]) x2) (rest:=L10.map (fun (x:Int)=>[pI .i64 x])) ?_ ?_
   .refine D2 Z Gr (b:=false) (fun c53=>?_) (fun c53=>?_)
    .exact Bool.noConfusion ((rfl:false=false).symm.trans c53)
    exact c _ [(0,0),(1,1),(2,2),(3,3),(12000,12000),(12001,12001)] _ (wrap .i64 (x2+1)) L10 Gr h
   refine D2 Z Gr (b:=true) (fun c54=>?_) (fun c54=>?_)
   .exact A7 Z Gr (a:=.tup []) (objs:=[(.cells ((B4 q0).map .p)),.cells [.p (vSl 2 A0 q1)],.cells [pN q2],.yld [] false]) ⟨[],[(3,.yld [] false),(2,.cells [pN q2]),(1,.cells [.p (vSl 2 A0 q1)]),(0,.cells ((B4 q0).map .p))]⟩ [0,1,2,3] (ids:=[(0,0),(1,1),(2,2),(3,3)]) ⟨false,rfl,rfl,_,rfl⟩
   exact Bool.noConfusion (Nb.symm.trans c54)
  exact c _ [(0,0),(1,1),(2,2),(3,3),(12000,12000),(12001,12001)] _ (wrap .i64 (x2+1)) L8 Gr h
 obtain rfl:=B6 h;exact A7 Z Gr (a:=.tup []) (objs:=[(.cells ((B4 q0).map .p)),.cells [.p (vSl 2 A0 q1)],.cells [pN q2],.yld [] true]) ⟨[],[(3,.yld [] true),(2,.cells [pN q2]),(1,.cells [.p (vSl 2 A0 q1)]),(0,.cells ((B4 q0).map .p))]⟩ [0,1,2,3] (ids:=[(0,0),(1,1),(2,2),(3,3)]) ⟨true,rfl,rfl,_,rfl⟩
def HI (N:Nat)(b:Law)(c:Sl A3)(a:Int):Option (Law×(Sl A3)×Int):= some (b,c,a)
theorem PB {b:Law}{c:Sl A3}{a:Int}{y:Law×(Sl A3)×Int}(h:HI N b c a=some y) :FunO S PA [.p (.agg (B4 b)),.p (vSl 2 A0 c),pN a] [] (.clo Ed [] [.reg 0 0,.reg 1 0,.reg 2 0]) ([.cells ((B4 y.1).map .p),.cells [.p (vSl 2 A0 y.2.1)],.cells [pN y.2.2]]) []:=by unfold HI at h;refine A5 Z func172 ?_;obtain rfl:=B6 h;exact A7 Z Gr ⟨[(6,.clo Ed [] [.reg 4000 0,.reg 5000 0,.reg 6000 0])],[(6000,.cells [pN a]),(5000,.cells [.p (vSl 2 A0 c)]),(4000,.cells ((B4 b).map .p))]⟩ [4000,5000,6000] (ids:=[(4000,4000),(5000,5000),(6000,6000)]) ⟨rfl,rfl,rfl⟩
def Km (N:Nat)(b:Law)(c:Sl A3)(a:Int):Option Bool:= (HI N b c a).bind fun y1=>(Ej N y1.1 y1.2.1 y1.2.2).bind fun L1=>BI L1 (fun d (x1:Int) (_:Unit)=>some (x1==a)) (fun (_:Unit)=>some false) ()
theorem SP {b:Law}{c:Sl A3}{a:Int}{y:Bool}(h:Km N b c a=some y) :FunO S SH [.p (.agg (B4 b)),.p (vSl 2 A0 c),pN a] [] (pB y) ([]) []:=by
 unfold Km at h;refine A5 Z func175 ?_;refine kC Z h (PB Z Y) (fun y1 h=>?_);obtain⟨L1,e2,h⟩:=B1 h;refine GO Z Gr [12000,12001,12002] [6,5] 901 (fun _=>⟨[(6,.reg 7000 0),(5,.reg 6000 0)],[(7000,.cells [.p (.v (.bool false))]),(6000,.cells [pN a])]⟩) (idl:=[(6000,6000),(7000,7000)]) h (LC Z Y e2) (fun _=>by kernel_rfl) (fun _=>by kernel_rfl) (fun _=>by kernel_rfl) (fun _=>by kernel_rfl) (fun x1 _ d _ f h=>?_) (fun _ h=>?_)
 .refine JJ Z Gr ?_;refine Qp Z Gr ⟨[(6,.reg 7000 0),(5,.reg 6000 0)],[(7000,.cells [pB (x1==a)]),(6000,.cells [pN a])]⟩ (ids:=[(901,901),(6000,6000),(7000,7000)]) ?_;cases h;exact kR Z
 cases h;exact kR Z
def Jd (N:Nat)(q0:Sl A3)(q1:Law)(q2:Int)(q3:Int):Option (List (Int×(Sl A3))):= if (q1.Mode==1) then (HI N q1 q0 0).bind fun y1=>(Ej N y1.1 y1.2.1 y1.2.2).bind fun L1=>BI L1 (fun b (x1:Int) (z1:(Sl A3)×Int×Int)=>if (decide (x1<z1.2.1)) then b (z1.1,z1.2.1,z1.2.2) else if (((0:Int)<=(wrap .i64 (x1+z1.2.2))/\(wrap .i64 (x1+z1.2.2))<=(z1.1.n:Int))/\((0:Int)<=x1/\x1<=(wrap .i64 (x1+q2))/\(wrap .i64 (x1+q2))<=(q0.n:Int)))then (Kk N q1 (q0.sub x1.toNat (wrap .i64 (x1+q2)).toNat)).bind fun y6=>if ((0:Int)<=(wrap .i64 (x1+q2))/\(wrap .i64 (x1+q2))<=(q0.n:Int))then (E7 N (Sl.of [z1.1.take (wrap .i64 (x1+z1.2.2)).toNat,y6,q0.drop (wrap .i64 (x1+q2)).toNat]:Sl (Sl A3))).bind fun y7=>IT (x1,y7) (b (y7,wrap .i64 (x1+(if q2<1 then 1 else q2)),wrap .i64 ((wrap .i64 (z1.2.2+q3))-q2))) else none else none) (fun (z1:(Sl A3)×Int×Int)=>some []) (q0,0,0) else if (q1.Mode==2) then DX N (fun a (x5:Sl A3) (x6:Int)=>if (decide ((wrap .i64 (x6+q2))<=(x5.n:Int))) then (Km N q1 x5 x6).bind fun g=>if (!g) then a x5 (wrap .i64 (x6+1)) else (Df N q1 x5 x6).bind fun d=>IT (x6,d) (if (q2==0) then a d (wrap .i64 ((wrap .i64 (x6+q3))+1)) else a d (wrap .i64 (x6+q3))) else some []) q0 0 else if (q1.Mode==3) then DX N (fun c (x7:Sl A3) (x8:Int)=>if (decide (0<=x8)) then (Km N q1 x7 x8).bind fun i=>if (!i) then c x7 (wrap .i64 (x8-1)) else (Df N q1 x7 x8).bind fun f=>IT (x8,f) (c f (wrap .i64 (x8-(if q2<1 then 1 else q2)))) else some []) q0 (wrap .i64 ((q0.n:Int)-q2)) else some []
theorem Uk {q0:Sl A3}{q1:Law}{q2:Int}{q3:Int}{L:List (Int×(Sl A3))}(h:Jd N q0 q1 q2 q3=some L) :Dv S FF [] [.reg 0 0,.reg 1 0,.reg 2 0,.reg 3 0] [.cells [.p (vSl 2 A0 q0)],.cells ((B4 q1).map .p),.cells [pN q2],.cells [pN q3]] (L.map (fun (x:Int×(Sl A3))=>[pI .i64 x.1,vSl 2 A0 x.2])):=by
 unfold Jd at h;refine Dc Z func171 ?_;apply kI Z h<;>intro h
 .refine kC Z h (PB Z Y) (fun y1 h=>?_);obtain⟨L1,e2,h⟩:=B1 h;refine Ze Z Gr [20000,20001,20002] [8,7,6,5,4,3,2,1] 900 (fun z1 L2=>⟨[(8,.reg 9000 0),(7,.reg 8000 0),(6,.reg 7000 0),(5,.reg 6000 0),(4,.reg 3 0),(3,.reg 2 0),(2,.reg 1 0),(1,.reg 0 0)],[(9000,.cells [pN z1.2.2]),(8000,.cells [pN z1.2.1]),(7000,.cells [.p (vSl 2 A0 z1.1)]),(6000,.cells [.yf 4]),(4,.yld (L2.map (fun (x:Int×(Sl A3))=>[pI .i64 x.1,vSl 2 A0 x.2])) true),(3,.cells [pN q3]),(2,.cells [pN q2]),(1,.cells ((B4 q1).map .p)),(0,.cells [.p (vSl 2 A0 q0)])]⟩) (idl:=[(0,0),(1,1),(2,2),(3,3),(4,4),(6000,6000),(7000,7000),(8000,8000),(9000,9000)]) h (LC Z Y e2) (fun _=>by kernel_rfl) (fun _ _=>by kernel_rfl) (fun _ _=>by kernel_rfl) (fun _ _=>by kernel_rfl) (fun x1 _ s z1 L2 j h=>?_) (fun z1 L2 h=>?_)
  .refine JJ Z Gr ?_;apply kI Z h<;>intro h
   .exact j _ [(0,0),(1,1),(2,2),(3,3),(4,4),(900,900),(6000,6000),(7000,7000),(8000,8000),(9000,9000)] _ (z1.1,z1.2.1,z1.2.2) L2 Gr h
   refine I5 Z Gr [(0,.l [7000]),(2,.l [9000]),(5,.l [1]),(6,.l [0]),(9,.l [2]),(12,.n),(13,.l [0]),(15,.l [2]),(20,.a [7000])] ?_;obtain⟨c13,h⟩:=E2 h;obtain⟨y6,e7,h⟩:=B1 h;refine F7 c13 (SO Z Y e7) ?_;obtain⟨c14,h⟩:=E2 h;refine P4 c14 (x:=.sl true 1 3 (C9 [F6] [(0,cL 2 A0 (z1.1.take (wrap .i64 (x1+z1.2.2)).toNat)),(1,cL 2 A0 y6),(2,cL 2 A0 (q0.drop (wrap .i64 (x1+q2)).toNat))])) ?_;obtain⟨y7,e8,h⟩:=B1 h;refine Ib [] Gr (FunO.le Z (args:=[.p (.sl true 1 3 (C9 [F6] [(0,cL 2 A0 (z1.1.take (wrap .i64 (x1+z1.2.2)).toNat)),(1,cL 2 A0 y6),(2,cL 2 A0 (q0.drop (wrap .i64 (x1+q2)).toNat))]))]) (by exact⟨HT rfl (fun i t=>match i,t with|0,_=>rfl|1,_=>rfl|2,_=>rfl|_+3,t=>Eu t (by omega)),trivial⟩) (O0 Z Y e8)) ?_;refine D8 Gr ?_;obtain⟨L5,rfl,m⟩:=KH h;replace h:=m;refine BQ Z Gr (ys:=(fun (x:Int×(Sl A3))=>[pI .i64 x.1,vSl 2 A0 x.2]) (x1,y7)) (rest:=L5.map (fun (x:Int×(Sl A3))=>[pI .i64 x.1,vSl 2 A0 x.2])) ?_ ?_
   .refine D2 Z Gr (b:=false) (fun c15=>?_) (fun c15=>?_)
    .exact Bool.noConfusion ((rfl:false=false).symm.trans c15)
    refine I5 Z Gr [(1,.l [2]),(4,.l [9000]),(5,.l [3]),(7,.l [2]),(9,.a [8000]),(10,.a [9000])] ?_;refine D8 Gr ?_;exact j _ [(0,0),(1,1),(2,2),(3,3),(4,4),(900,900),(6000,6000),(7000,7000),(8000,8000),(9000,9000)] _ (y7,wrap .i64 (x1+(if q2<1 then 1 else q2)),wrap .i64 ((wrap .i64 (z1.2.2+q3))-q2)) L5 Gr h
   refine D2 Z Gr (b:=true) (fun c16=>?_) (fun c16=>?_)
   .refine Qp Z Gr ⟨[(8,.reg 9000 0),(7,.reg 8000 0),(6,.reg 7000 0),(5,.reg 6000 0),(4,.reg 3 0),(3,.reg 2 0),(2,.reg 1 0),(1,.reg 0 0)],[(44000,.vec B8 2 y7.n (fun i=>A0 (y7.g i)) true),(9000,.cells [pN z1.2.2]),(8000,.cells [pN z1.2.1]),(7000,.cells [.vec 44000]),(6000,.cells [.yf 4]),(4,.yld [] false),(3,.cells [pN q3]),(2,.cells [pN q2]),(1,.cells ((B4 q1).map .p)),(0,.cells [.p (vSl 2 A0 q0)])]⟩ (ids:=[(0,0),(1,1),(2,2),(3,3),(4,4),(900,900),(6000,6000),(7000,7000),(8000,8000),(9000,9000),(44000,44000)]) ?_;exact A7 Z Gr (a:=.tup []) (objs:=[(.cells [.p (vSl 2 A0 q0)]),.cells ((B4 q1).map .p),.cells [pN q2],.cells [pN q3],.yld [] false]) ⟨[],[(4,.yld [] false),(3,.cells [pN q3]),(2,.cells [pN q2]),(1,.cells ((B4 q1).map .p)),(0,.cells [.p (vSl 2 A0 q0)])]⟩ [0,1,2,3,4] (ids:=[(0,0),(1,1),(2,2),(3,3),(4,4)]) ⟨false,rfl,rfl,_,rfl⟩
   exact Bool.noConfusion (Nb.symm.trans c16)
  obtain rfl:=B6 h;exact A7 Z Gr (a:=.tup []) (objs:=[(.cells [.p (vSl 2 A0 q0)]),.cells ((B4 q1).map .p),.cells [pN q2],.cells [pN q3],.yld [] true]) ⟨[],[(4,.yld [] true),(3,.cells [pN q3]),(2,.cells [pN q2]),(1,.cells ((B4 q1).map .p)),(0,.cells [.p (vSl 2 A0 q0)])]⟩ [0,1,2,3,4] (ids:=[(0,0),(1,1),(2,2),(3,3),(4,4)]) ⟨true,rfl,rfl,_,rfl⟩
 apply kI Z h<;>intro h
 .refine Qm Z Gr h (fun x5 x6 L6=>⟨[(10,pN x6),(6,.reg 7000 0),(5,.reg 6000 0),(4,.reg 3 0),(3,.reg 2 0),(2,.reg 1 0)],[(7000,.cells [.p (vSl 2 A0 x5)]),(6000,.cells [.yf 4]),(4,.yld (L6.map (fun (x:Int×(Sl A3))=>[pI .i64 x.1,vSl 2 A0 x.2])) true),(3,.cells [pN q3]),(2,.cells [pN q2]),(1,.cells ((B4 q1).map .p)),(0,.cells [.p (vSl 2 A0 q0)])]⟩) (ids:=[(0,0),(1,1),(2,2),(3,3),(4,4),(6000,6000),(7000,7000)]) (fun _ _ _ _ _ u x5 x6 L6 c h=>?_);apply kI Z h<;>intro h
  .refine kC Z h (SP Z Y) (fun w h=>?_);apply kI Z h<;>intro h
   .exact c _ [(0,0),(1,1),(2,2),(3,3),(4,4),(6000,6000),(7000,7000)] _ x5 (wrap .i64 (x6+1)) L6 Gr h
   refine kC Z h (Kl Z Y) (fun d h=>?_);obtain⟨L9,rfl,o⟩:=KH h;replace h:=o;refine BQ Z Gr (ys:=(fun (x:Int×(Sl A3))=>[pI .i64 x.1,vSl 2 A0 x.2]) (x6,d)) (rest:=L9.map (fun (x:Int×(Sl A3))=>[pI .i64 x.1,vSl 2 A0 x.2])) ?_ ?_
   .refine D2 Z Gr (b:=false) (fun c30=>?_) (fun c30=>?_)
    .exact Bool.noConfusion ((rfl:false=false).symm.trans c30)
    apply kI Z h<;>intro h
    .exact c _ [(0,0),(1,1),(2,2),(3,3),(4,4),(6000,6000),(7000,7000)] _ d (wrap .i64 ((wrap .i64 (x6+q3))+1)) L9 Gr h
    exact c _ [(0,0),(1,1),(2,2),(3,3),(4,4),(6000,6000),(7000,7000)] _ d (wrap .i64 (x6+q3)) L9 Gr h
   refine D2 Z Gr (b:=true) (fun c32=>?_) (fun c32=>?_)
   .exact A7 Z Gr (a:=.tup []) (objs:=[(.cells [.p (vSl 2 A0 q0)]),.cells ((B4 q1).map .p),.cells [pN q2],.cells [pN q3],.yld [] false]) ⟨[],[(4,.yld [] false),(3,.cells [pN q3]),(2,.cells [pN q2]),(1,.cells ((B4 q1).map .p)),(0,.cells [.p (vSl 2 A0 q0)])]⟩ [0,1,2,3,4] (ids:=[(0,0),(1,1),(2,2),(3,3),(4,4)]) ⟨false,rfl,rfl,_,rfl⟩
   exact Bool.noConfusion (Nb.symm.trans c32)
  obtain rfl:=B6 h;exact A7 Z Gr (a:=.tup []) (objs:=[(.cells [.p (vSl 2 A0 q0)]),.cells ((B4 q1).map .p),.cells [pN q2],.cells [pN q3],.yld [] true]) ⟨[],[(4,.yld [] true),(3,.cells [pN q3]),(2,.cells [pN q2]),(1,.cells ((B4 q1).map .p)),(0,.cells [.p (vSl 2 A0 q0)])]⟩ [0,1,2,3,4] (ids:=[(0,0),(1,1),(2,2),(3,3),(4,4)]) ⟨true,rfl,rfl,_,rfl⟩
 apply kI Z h<;>intro h
 .refine Qm Z Gr h (fun x7 x8 L10=>⟨[(11,pN x8),(6,.reg 7000 0),(5,.reg 6000 0),(3,.reg 2 0),(2,.reg 1 0)],[(7000,.cells [.p (vSl 2 A0 x7)]),(6000,.cells [.yf 4]),(4,.yld (L10.map (fun (x:Int×(Sl A3))=>[pI .i64 x.1,vSl 2 A0 x.2])) true),(3,.cells [pN q3]),(2,.cells [pN q2]),(1,.cells ((B4 q1).map .p)),(0,.cells [.p (vSl 2 A0 q0)])]⟩) (ids:=[(0,0),(1,1),(2,2),(3,3),(4,4),(6000,6000),(7000,7000)]) (fun _ _ _ _ _ v x7 x8 L10 q h=>?_);apply kI Z h<;>intro h
  .refine kC Z h (SP Z Y) (fun y h=>?_);apply kI Z h<;>intro h
   .exact q _ [(0,0),(1,1),(2,2),(3,3),(4,4),(6000,6000),(7000,7000)] _ x7 (wrap .i64 (x8-1)) L10 Gr h
   refine kC Z h (Kl Z Y) (fun r h=>?_);obtain⟨L13,rfl,f⟩:=KH h;replace h:=f;refine BQ Z Gr (ys:=(fun (x:Int×(Sl A3))=>[pI .i64 x.1,vSl 2 A0 x.2]) (x8,r)) (rest:=L13.map (fun (x:Int×(Sl A3))=>[pI .i64 x.1,vSl 2 A0 x.2])) ?_ ?_
   .refine D2 Z Gr (b:=false) (fun c44=>?_) (fun c44=>?_)
    .exact Bool.noConfusion ((rfl:false=false).symm.trans c44)
    exact q _ [(0,0),(1,1),(2,2),(3,3),(4,4),(6000,6000),(7000,7000)] _ r (wrap .i64 (x8-(if q2<1 then 1 else q2))) L13 Gr h
   refine D2 Z Gr (b:=true) (fun c45=>?_) (fun c45=>?_)
   .exact A7 Z Gr (a:=.tup []) (objs:=[(.cells [.p (vSl 2 A0 q0)]),.cells ((B4 q1).map .p),.cells [pN q2],.cells [pN q3],.yld [] false]) ⟨[],[(4,.yld [] false),(3,.cells [pN q3]),(2,.cells [pN q2]),(1,.cells ((B4 q1).map .p)),(0,.cells [.p (vSl 2 A0 q0)])]⟩ [0,1,2,3,4] (ids:=[(0,0),(1,1),(2,2),(3,3),(4,4)]) ⟨false,rfl,rfl,_,rfl⟩
   exact Bool.noConfusion (Nb.symm.trans c45)
  obtain rfl:=B6 h;exact A7 Z Gr (a:=.tup []) (objs:=[(.cells [.p (vSl 2 A0 q0)]),.cells ((B4 q1).map .p),.cells [pN q2],.cells [pN q3],.yld [] true]) ⟨[],[(4,.yld [] true),(3,.cells [pN q3]),(2,.cells [pN q2]),(1,.cells ((B4 q1).map .p)),(0,.cells [.p (vSl 2 A0 q0)])]⟩ [0,1,2,3,4] (ids:=[(0,0),(1,1),(2,2),(3,3),(4,4)]) ⟨true,rfl,rfl,_,rfl⟩
 obtain rfl:=B6 h;exact A7 Z Gr (a:=.tup []) (objs:=[(.cells [.p (vSl 2 A0 q0)]),.cells ((B4 q1).map .p),.cells [pN q2],.cells [pN q3],.yld [] true]) ⟨[],[(4,.yld [] true),(3,.cells [pN q3]),(2,.cells [pN q2]),(1,.cells ((B4 q1).map .p)),(0,.cells [.p (vSl 2 A0 q0)])]⟩ [0,1,2,3,4] (ids:=[(0,0),(1,1),(2,2),(3,3),(4,4)]) ⟨true,rfl,rfl,_,rfl⟩
def ND (N:Nat)(a:Law)(b:Sl A3):Option ((Sl A3)×Law×Int×Int):= some (b,a,(a.If.n:Int),(a.Out.n:Int))
theorem XK {b:Law}{c:Sl A3}{y:(Sl A3)×Law×Int×Int}(h:ND N b c=some y) :FunO S SE [.p (.agg (B4 b)),.p (vSl 2 A0 c)] [] (.clo FF [] [.reg 0 0,.reg 1 0,.reg 2 0,.reg 3 0]) ([.cells [.p (vSl 2 A0 y.1)],.cells ((B4 y.2.1).map .p),.cells [pN y.2.2.1],.cells [pN y.2.2.2]]) []:=by unfold ND at h;refine A5 Z func167 ?_;refine I5 Z Gr [(1,.l [3000]),(2,.n),(4,.l [3000]),(5,.n),(6,.a [6000]),(7,.a [7000]),(8,.a [6000]),(9,.a [7000])] ?_;refine D8 Gr ?_;obtain rfl:=B6 h;exact A7 Z Gr ⟨[(4,.clo FF [] [.reg 4000 0,.reg 3000 0,.reg 6000 0,.reg 7000 0])],[(7000,.cells [pN (b.Out.n:Int)]),(6000,.cells [pN (b.If.n:Int)]),(4000,.cells [.p (vSl 2 A0 c)]),(3000,.cells ((B4 b).map .p))]⟩ [4000,3000,6000,7000] (ids:=[(3000,3000),(4000,4000),(6000,6000),(7000,7000)]) ⟨rfl,rfl,rfl⟩
def Je (N:Nat)(b:Law)(c:Sl A3):Option ((Sl Int)×(Sl (Sl A3))×Int):= (Jc N b c).bind fun y1=>if (y1 != 0) then some (Nd,(Sl.nil:Sl (Sl A3)),y1) else (ND N b c).bind fun y2=>(Jd N y2.1 y2.2.1 y2.2.2.1 y2.2.2.2).bind fun L1=>BI L1 (fun a (x1:Int×(Sl A3)) (z1:(Sl Int)×(Sl (Sl A3)))=>if (decide (32<(x1.2.n:Int))) then some (Nd,(Sl.nil:Sl (Sl A3)),11) else if ((z1.1.n+(Sl.of [x1.1]:Sl Int).n)*8<=140737488355328/\z1.1.n+(Sl.of [x1.1]:Sl Int).n<=140737488355328)then if ((z1.2.n+(Sl.of [x1.2]:Sl (Sl A3)).n)*24<=140737488355328/\z1.2.n+(Sl.of [x1.2]:Sl (Sl A3)).n<=140737488355328)then a (z1.1.push x1.1,z1.2.push x1.2) else none else none) (fun (z1:(Sl Int)×(Sl (Sl A3)))=>some (z1.1,z1.2,0)) (Nd,(Sl.nil:Sl (Sl A3)))
theorem Ul {b:Law}{d:Sl A3}{y:(Sl Int)×(Sl (Sl A3))×Int}(h:Je N b d=some y) :FunO S Np [.p (.agg (B4 b)),.p (vSl 2 A0 d)] [] (.tup [.vec 0,.vec 1,pN y.2.2]) ([.vec D1 1 y.1.n (fun i=>cI .i64 (y.1.g i)) true,.vec R9 1 y.2.1.n (fun i=>cL 2 A0 (y.2.1.g i)) true]) []:=by
 unfold Je at h;refine A5 Z func161 ?_;refine F5 Z Gr 4 3000 (B4 b) ?_;obtain⟨y1,e1,h⟩:=B1 h;refine B7 Z [] Na (Uj Z Y e1) ?_;apply kI Z h<;>intro h
 .obtain rfl:=B6 h;exact A7 Z Gr ⟨[(6,.reg 7000 0),(5,.reg 6000 0),(4,.reg 5000 0)],[(7000,.cells [pN y1]),(6701,.vec R9 1 (Sl.nil:Sl (Sl A3)).n (fun i=>cL 2 A0 ((Sl.nil:Sl (Sl A3)).g i)) true),(6000,.cells [.vec 6701]),(5700,.vec D1 1 Nd.n (fun i=>cI .i64 (Nd.g i)) true),(5000,.cells [.vec 5700])]⟩ [5700,6701] (ids:=[(5000,5000),(6000,6000),(7000,7000)]) ⟨rfl,rfl,rfl⟩
 obtain⟨y2,e2,h⟩:=B1 h;refine B7 Z [] Na (XK Z Y e2) ?_;obtain⟨L1,e3,h⟩:=B1 h;refine GO Z Gr [21000,21001,21002,21003] [9,8,6,5,4] 901 (fun z1=>⟨[(9,.reg 10000 0),(8,.reg 9000 0),(6,.reg 7000 0),(5,.reg 6000 0),(4,.reg 5000 0)],[(10500,.vec R9 1 z1.2.n (fun i=>cL 2 A0 (z1.2.g i)) false),(10000,.cells [.vec 10500]),(9500,.vec D1 1 z1.1.n (fun i=>cI .i64 (z1.1.g i)) false),(9000,.cells [.vec 9500]),(7000,.cells [pN 0]),(6000,.cells [.p F6]),(5000,.cells [.p F6])]⟩) (idl:=[(5000,5000),(6000,6000),(7000,7000),(9000,9000),(10000,10000)]) h (Uk Z Y e3) (fun _=>by kernel_rfl) (fun _=>by kernel_rfl) (fun _=>by kernel_rfl) (fun _=>by kernel_rfl) (fun x1 _ f z1 j h=>?_) (fun z1 h=>?_)
 .refine JJ Z Gr ?_;apply kI Z h<;>intro h
  .refine Qp Z Gr ⟨[(9,.reg 10000 0),(8,.reg 9000 0),(6,.reg 7000 0),(5,.reg 6000 0),(4,.reg 5000 0)],[(10500,.vec R9 1 z1.2.n (fun i=>cL 2 A0 (z1.2.g i)) false),(10000,.cells [.vec 10500]),(9500,.vec D1 1 z1.1.n (fun i=>cI .i64 (z1.1.g i)) false),(9000,.cells [.vec 9500]),(7000,.cells [pN 11]),(6000,.cells [.p F6]),(5000,.cells [.p F6])]⟩ (ids:=[(901,901),(5000,5000),(6000,6000),(7000,7000),(9000,9000),(9500,9500),(10000,10000),(10500,10500)]) ?_;obtain rfl:=B6 h;exact A7 Z Gr ⟨[(6,.reg 7000 0),(5,.reg 6000 0),(4,.reg 5000 0)],[(7000,.cells [pN 11]),(6701,.vec R9 1 (Sl.nil:Sl (Sl A3)).n (fun i=>cL 2 A0 ((Sl.nil:Sl (Sl A3)).g i)) true),(6000,.cells [.vec 6701]),(5700,.vec D1 1 Nd.n (fun i=>cI .i64 (Nd.g i)) true),(5000,.cells [.vec 5700])]⟩ [5700,6701] (ids:=[(5000,5000),(6000,6000),(7000,7000)]) ⟨rfl,rfl,rfl⟩
  refine I5 Z Gr [(0,.l [9000]),(3,.a [30000,9500]),(4,.l [10000]),(7,.a [34000,10500]),(8,.a [9000]),(9,.a [10000])] ?_;refine P4 Gr (x:=.sl true 1 1 (C9 [pI .i64 0] [(0,cI .i64 x1.1)])) ?_;obtain⟨c9,h⟩:=E2 h;refine P4 c9 (x:=.sl true 1 1 (C9 [F6] [(0,cL 2 A0 x1.2)])) ?_;obtain⟨c10,h⟩:=E2 h;refine D8 c10 ?_;exact j _ [(901,901),(5000,5000),(6000,6000),(7000,7000),(9000,9000),(9500,30000),(10000,10000),(10500,34000)] _ (z1.1.push x1.1,z1.2.push x1.2) Gr h (hle:=klR [(0,.fn (z1.2.n+1) (z1.2.push x1.2).n (S2 z1.2.n (fun i=>cL 2 A0 (z1.2.g i)) (C9 [F6] [(0,cL 2 A0 x1.2)])) (fun i=>cL 2 A0 ((z1.2.push x1.2).g i))),(1,.fn (z1.1.n+1) (z1.1.push x1.1).n (S2 z1.1.n (fun i=>cI .i64 (z1.1.g i)) (C9 [pI .i64 0] [(0,cI .i64 x1.1)])) (fun i=>cI .i64 ((z1.1.push x1.1).g i)))] (al1 ⟨rfl,JG (c:=cL 2 A0) (v:=z1.2) (x:=x1.2) (z:=[F6]) same rfl rfl⟩ (al1 ⟨rfl,JG (c:=cI .i64) (v:=z1.1) (x:=x1.1) (z:=[(pI .i64 0)]) same rfl rfl⟩ al0)))
 refine I5 Z Gr [(0,.l [9000]),(1,.l [10000]),(2,.a [5000]),(3,.a [6000]),(4,.a [7000])] ?_;refine D8 Gr ?_;obtain rfl:=B6 h;exact A7 Z Gr ⟨[(6,.reg 7000 0),(5,.reg 6000 0),(4,.reg 5000 0)],[(10500,.vec R9 1 z1.2.n (fun i=>cL 2 A0 (z1.2.g i)) true),(9500,.vec D1 1 z1.1.n (fun i=>cI .i64 (z1.1.g i)) true),(7000,.cells [pN 0]),(6000,.cells [.vec 10500]),(5000,.cells [.vec 9500])]⟩ [9500,10500] (ids:=[(5000,5000),(6000,6000),(7000,7000),(9500,9500),(10500,10500)]) ⟨rfl,rfl,rfl⟩
def Jf (N:Nat)(b:Law)(a:Sl A3):Option ((Sl A3)×Int):= (Je N b a).bind fun y1=>if (y1.2.2 != 0) then some ((Sl.nil:Sl A3),y1.2.2) else if (decide (0<(y1.2.1.n:Int))) then if (((0:Int)<=(wrap .i64 ((y1.2.1.n:Int)-1))/\(wrap .i64 ((y1.2.1.n:Int)-1))<(y1.2.1.n:Int))/\(wrap .i64 ((y1.2.1.n:Int)-1)).toNat<y1.2.1.n)then some (y1.2.1.g (wrap .i64 ((y1.2.1.n:Int)-1)).toNat,0) else none else (C0 N a).bind fun y2=>some (y2,0)
theorem Um {a:Law}{b:Sl A3}{y:(Sl A3)×Int}(h:Jf N a b=some y) :FunO S No [.p (.agg (B4 a)),.p (vSl 2 A0 b)] [] (.tup [.p (vSl 2 A0 y.1),pN y.2]) ([]) []:=by
 unfold Jf at h;refine A5 Z func153 ?_;refine kC Z h (Ul Z Y) (fun y1 h=>?_);apply kI Z h<;>intro h
 .obtain rfl:=B6 h;exact A7 Z Gr ⟨[(5,pN y1.2.2),(4,.p (vSl 2 A0 (Sl.nil:Sl A3)))],[]⟩ [] (ids:=[]) ⟨rfl,rfl,rfl⟩
 apply kI Z h<;>intro h
 .obtain⟨c3,h⟩:=E2 h;obtain rfl:=B6 h;exact Zd Z c3 [] ⟨rfl,rfl,rfl⟩
 refine kC Z h (P0 Z Y) (fun y2 h=>?_);obtain rfl:=B6 h;exact A7 Z Gr ⟨[(5,pN 0),(4,.p (vSl 2 A0 y2))],[]⟩ [] (ids:=[]) ⟨rfl,rfl,rfl⟩
end Go.AM
namespace Go.AM
open Go.Proofs.Tryz
variable {N:Nat}
open IntKind (wrap)
open Go.Proofs
set_option maxRecDepth 10000
set_option maxHeartbeats 2000000
variable {S:S6}(Z:G1 S Tryz.prog) (Y:Jn S)
include Z Y
def CJ (N:Nat)(a:Law):Option Bool:= (DK N a).bind fun y1=>some (y1 != 0)
theorem LS {a:Law}{y:Bool}(h:CJ N a=some y) :FunO S Gt [.p (.agg (B4 a))] [] (pB y) ([]) []:=by unfold CJ at h;refine A5 Z func127 ?_;refine kC Z h (Jb Z Y) (fun y1 h=>?_);cases h;exact kR Z
def I2 (N:Nat)(a:Sl Law)(c:Law->Option Bool):Option Int:= Cd N (fun b (x1:Int)=>if (decide (x1<(a.n:Int))) then if ((0:Int)<=x1/\x1<(a.n:Int))then (c (a.g x1.toNat)).bind fun y3=>if y3 then some x1 else b (wrap .i64 (x1+1)) else none else some (-1)) 0
theorem AA {a:Sl Law}{c:Law->Option Bool}{kp_f:Nat}(d:∀{a0:Law}{b:Bool},c a0=some b->FunO S kp_f [.p (.agg (B4 a0))] [] (pB b) [] []){y:Int}(h:I2 N a c=some y) :FunO S O9 [.p (vSl 18 B4 a),.clo kp_f [] []] [] (pN y) ([]) []:=by
 unfold I2 at h;refine A5 Z func151 ?_;refine S9 Z Gr h (fun x1=>⟨[(8,pN x1),(7,pN (a.n:Int)),(1,.clo kp_f [] []),(0,.p (vSl 18 B4 a))],[]⟩) (ids:=[]) (fun _ _ _ _ _ f x1 g h=>?_);apply kI Z h<;>intro h
 .obtain⟨c8,h⟩:=E2 h;obtain⟨y3,e3,h⟩:=B1 h;refine B7 Z [] (And.intro c8 Na) (d e3) ?_;apply kI Z h<;>intro h
  .cases h;exact kR Z
  exact g _ [] _ (wrap .i64 (x1+1)) Gr h
 cases h;exact kR Z
def G8 (N:Nat)(a:Sl Law)(b:Law->Option Bool):Option Bool:= (I2 N a b).bind fun y1=>some (decide (0<=y1))
theorem Y1 {a:Sl Law}{c:Law->Option Bool}{kp_f:Nat}(d:∀{a0:Law}{b:Bool},c a0=some b->FunO S kp_f [.p (.agg (B4 a0))] [] (pB b) [] []){y:Bool}(h:G8 N a c=some y) :FunO S N3 [.p (vSl 18 B4 a),.clo kp_f [] []] [] (pB y) ([]) []:=by unfold G8 at h;refine A5 Z func126 ?_;refine kC Z h (AA Z Y (fun e=>d e)) (fun y1 h=>?_);cases h;exact kR Z
def EE (N:Nat)(a:Sl Law):Option Int:= if (decide (64<(a.n:Int))) then some 12 else (G8 N a (fun (u1:Law)=>CJ N u1)).bind fun y1=>if y1 then some 17 else some 0
theorem OD {a:Sl Law}{y:Int}(h:EE N a=some y) :FunO S Ir [.p (vSl 18 B4 a)] [] (pN y) ([]) []:=by
 unfold EE at h;refine A5 Z func92 ?_;apply kI Z h<;>intro h
 .cases h;exact kR Z
 refine kC Z h (Y1 Z Y (fun e=>LS Z Y e)) (fun y1 h=>?_);apply kI Z h<;>intro h
 .cases h;exact kR Z
 cases h;exact kR Z
def EF (N:Nat)(b:Sl Law)(a:Sl (Sl A3)):Option Int:= (EE N b).bind fun y1=>if (y1 != 0) then some y1 else if (decide (256<(a.n:Int))) then some 12 else Cd N (fun c (x1:Int)=>if (decide (x1<(a.n:Int))) then if ((0:Int)<=x1/\x1<(a.n:Int))then (Bm N (a.g x1.toNat)).bind fun y4=>if (y4 != 0) then some y4 else c (wrap .i64 (x1+1)) else none else some 0) 0
theorem OE {b:Sl Law}{a:Sl (Sl A3)}{y:Int}(h:EF N b a=some y) :FunO S Im [.p (vSl 18 B4 b),.p (vSl 1 (cL 2 A0) a)] [] (pN y) ([]) []:=by
 unfold EF at h;refine A5 Z func66 ?_;refine kC Z h (OD Z Y) (fun y1 h=>?_);apply kI Z h<;>intro h
 .cases h;exact kR Z
 apply kI Z h<;>intro h
 .cases h;exact kR Z
 refine S9 Z Gr h (fun x1=>⟨[(19,pN x1),(18,pN (a.n:Int)),(17,.p (vSl 1 (cL 2 A0) a))],[]⟩) (ids:=[]) (fun _ _ _ _ _ c x1 d h=>?_);apply kI Z h<;>intro h
 .obtain⟨c10,h⟩:=E2 h;obtain⟨y4,e4,h⟩:=B1 h;refine B7 Z [] c10 (Ef Z Y e4) ?_;apply kI Z h<;>intro h
  .cases h;exact kR Z
  exact d _ [] _ (wrap .i64 (x1+1)) Gr h
 cases h;exact kR Z
end Go.AM
namespace Go.AM
open Go.Proofs.Tryz
variable {N:Nat}
open IntKind (wrap)
open Go.Proofs
set_option maxRecDepth 10000
set_option maxHeartbeats 2000000
variable {S:S6}(Z:G1 S Tryz.prog) (Y:Jn S)
include Z Y
def Zw (c:Int):Option PV:=if c=0 then none else some (.iface 235 (pI .i64 c))
def CK (N:Nat)(c:Int)(q0:Sl A3)(q1:Sl Law):Option (List (Int×(Sl A3))):= (C0 N q0).bind fun y1=>IT (0,y1) (DX N (fun a (x1:Sl A3) (x2:Int)=>if (decide (x2<(q1.n:Int))) then if ((0:Int)<=x2/\x2<(q1.n:Int))then (Jf N (q1.g x2.toNat) x1).bind fun y4=>if (y4.2 != 0) then if y4.2=c then some []else none else IT (wrap .i64 (x2+1),y4.1) (a y4.1 (wrap .i64 (x2+1))) else none else if c=0 then some []else none) y1 0)
theorem Gv {q0:Sl A3}{q1:Sl Law}{c:Int}{L:List (Int×(Sl A3))}(h:CK N c q0 q1=some L) :MU S Q6 [] [.reg 0 0,.reg 1 0] [.cells [.p (vSl 2 A0 q0)],.cells [.p (vSl 18 B4 q1)]] (L.map (fun (x:Int×(Sl A3))=>[pI .i64 x.1,vSl 2 A0 x.2])) (Zw c):=by
 unfold CK at h;refine Xx Z func152 ?_;refine kC Z h (P0 Z Y) (fun y1 h=>?_);obtain⟨L1,rfl,d⟩:=KH h;replace h:=d;refine BQ Z Gr (ys:=(fun (x:Int×(Sl A3))=>[pI .i64 x.1,vSl 2 A0 x.2]) (0,y1)) (rest:=L1.map (fun (x:Int×(Sl A3))=>[pI .i64 x.1,vSl 2 A0 x.2])) ?_ ?_
 .refine D2 Z Gr (b:=false) (fun c1=>?_) (fun c1=>?_)
  .exact Bool.noConfusion ((rfl:false=false).symm.trans c1)
  refine Qm Z Gr h (fun x1 x2 L2=>⟨[(17,pN x2),(16,pN (q1.n:Int)),(15,.p (vSl 18 B4 q1)),(4,.p (vSl 2 A0 x1)),(0,.yf 2)],[(2,.yld (L2.map (fun (x:Int×(Sl A3))=>[pI .i64 x.1,vSl 2 A0 x.2])) true),(1,.cells [.p (vSl 18 B4 q1)]),(0,.cells [.p (vSl 2 A0 q0)])]⟩) (ids:=[(0,0),(1,1),(2,2)]) (fun _ _ _ _ _ g x1 x2 L2 i h=>?_);apply kI Z h<;>intro h
  .obtain⟨c13,h⟩:=E2 h;obtain⟨y4,e4,h⟩:=B1 h;refine B7 Z [] (And.intro c13 Na) (Um Z Y e4) ?_;refine D2 Z Gr (b:=y4.2 != 0) (fun c14=>?_) (fun c14=>?_)
   .replace h:=itT c14 h;obtain⟨c0,h⟩:=E2 h;obtain rfl:=B6 h;have j:Zw c=some (.iface 235 (pI .i64 y4.2)):=by
     have:¬y4.2=0:=by simpa using c14
     rw[<- c0];simp[Zw,this]
    refine Ag0 Z Gr (x:=.iface 235 (pI .i64 y4.2)) ?_;exact ZY Z Gr (x:=.iface 235 (pI .i64 y4.2)) (objs:=[(.cells [.p (vSl 2 A0 q0)]),.cells [.p (vSl 18 B4 q1)],.yld [] true]) [0,1,2] ⟨true,rfl,rfl,fun _=>by rw[j];rfl,fun e=>nomatch e⟩
   replace h:=itF c14 h;obtain⟨L5,rfl,f⟩:=KH h;replace h:=f;refine BQ Z Gr (ys:=(fun (x:Int×(Sl A3))=>[pI .i64 x.1,vSl 2 A0 x.2]) (wrap .i64 (x2+1),y4.1)) (rest:=L5.map (fun (x:Int×(Sl A3))=>[pI .i64 x.1,vSl 2 A0 x.2])) ?_ ?_
   .refine D2 Z Gr (b:=false) (fun c15=>?_) (fun c15=>?_)
    .exact Bool.noConfusion ((rfl:false=false).symm.trans c15)
    exact i _ [(0,0),(1,1),(2,2)] _ y4.1 (wrap .i64 (x2+1)) L5 Gr h
   refine D2 Z Gr (b:=true) (fun c16=>?_) (fun c16=>?_)
   .exact A7 Z Gr (a:=.tup []) (objs:=[(.cells [.p (vSl 2 A0 q0)]),.cells [.p (vSl 18 B4 q1)],.yld [] false]) ⟨[],[(2,.yld [] false),(1,.cells [.p (vSl 18 B4 q1)]),(0,.cells [.p (vSl 2 A0 q0)])]⟩ [0,1,2] (ids:=[(0,0),(1,1),(2,2)]) ⟨false,rfl,rfl,fun e=>(nomatch e),fun _=>⟨_,rfl⟩⟩
   exact Bool.noConfusion (Nb.symm.trans c16)
  obtain⟨c0,h⟩:=E2 h;obtain rfl:=B6 h;exact A7 Z Gr (a:=.tup []) (objs:=[(.cells [.p (vSl 2 A0 q0)]),.cells [.p (vSl 18 B4 q1)],.yld [] true]) ⟨[],[(2,.yld [] true),(1,.cells [.p (vSl 18 B4 q1)]),(0,.cells [.p (vSl 2 A0 q0)])]⟩ [0,1,2] (ids:=[(0,0),(1,1),(2,2)]) ⟨true,rfl,rfl,fun _=>by subst c0;exact⟨_,rfl⟩,fun e=>(nomatch e)⟩
 refine D2 Z Gr (b:=true) (fun c17=>?_) (fun c17=>?_)
 .exact A7 Z Gr (a:=.tup []) (objs:=[(.cells [.p (vSl 2 A0 q0)]),.cells [.p (vSl 18 B4 q1)],.yld [] false]) ⟨[],[(2,.yld [] false),(1,.cells [.p (vSl 18 B4 q1)]),(0,.cells [.p (vSl 2 A0 q0)])]⟩ [0,1,2] (ids:=[(0,0),(1,1),(2,2)]) ⟨false,rfl,rfl,fun e=>(nomatch e),fun _=>⟨_,rfl⟩⟩
 exact Bool.noConfusion (Nb.symm.trans c17)
def EG (N:Nat)(a:Sl Law)(b:Sl A3):Option ((Sl A3)×(Sl Law)):= some (b,a)
theorem Iz {a:Sl Law}{b:Sl A3}{y:(Sl A3)×(Sl Law)}(h:EG N a b=some y) :FunO S Iu [.p (vSl 18 B4 a),.p (vSl 2 A0 b)] [] (.clo Q6 [] [.reg 0 0,.reg 1 0]) ([.cells [.p (vSl 2 A0 y.1)],.cells [.p (vSl 18 B4 y.2)]]) []:=by unfold EG at h;refine A5 Z func128 ?_;obtain rfl:=B6 h;exact A7 Z Gr ⟨[(4,.clo Q6 [] [.reg 4000 0,.reg 3000 0])],[(4000,.cells [.p (vSl 2 A0 b)]),(3000,.cells [.p (vSl 18 B4 a)])]⟩ [4000,3000] (ids:=[(3000,3000),(4000,4000)]) ⟨rfl,rfl,rfl⟩
def O4 (N:Nat)(c:Int)(a:Sl Law)(d:Sl A3):Option (Sl A3):= (EG N a d).bind fun y1=>(CK N c y1.1 y1.2).bind fun L1=>BI L1 (fun b (x1:Int×(Sl A3)) (z1:Sl A3)=>b x1.2) (fun (z1:Sl A3)=>some z1) (Sl.nil:Sl A3)
theorem KR {a:Sl Law}{b:Sl A3}{y:Sl A3}(h:O4 N 0 a b=some y) :FunO S I8 [.p (vSl 18 B4 a),.p (vSl 2 A0 b)] [] (.p (vSl 2 A0 y)) ([]) []:=by
 unfold O4 at h;refine A5 Z func95 ?_;refine kC Z h (Iz Z Y) (fun y1 h=>?_);obtain⟨L1,e2,h⟩:=B1 h;have f:MU S Q6 [] [.reg 0 0,.reg 1 0] [.cells [.p (vSl 2 A0 y1.1)],.cells [.p (vSl 18 B4 y1.2)]] (L1.map (fun (x:Int×(Sl A3))=>[pI .i64 x.1,vSl 2 A0 x.2])) none:=Gv Z Y e2;refine Vh Z Gr [8000,8001] [4] 901 (fun z1=>⟨[(4,.reg 5000 0)],[(5000,.cells [.p (vSl 2 A0 z1)])]⟩) (idl:=[(5000,5000)]) h f (fun _=>by kernel_rfl) (fun _=>by kernel_rfl) (fun _=>by kernel_rfl) (fun _=>by kernel_rfl) (fun x1 _ c z1 d h=>?_) (fun z1 h=>?_)
 .refine JJ Z Gr ?_;exact d _ [(901,901),(5000,5000)] _ x1.2 Gr h
 cases h;exact kR Z
theorem KS {c:Int}{a:Sl Law}{b:Sl A3}{y:Sl A3}(hc:c≠0)(h:O4 N c a b=some y) :S.F I8 [.p (vSl 18 B4 a),.p (vSl 2 A0 b)] [] fun res o k=>res=.panic (.iface 235 (pI .i64 c))/\o=[]/\k=[]:=by
 unfold O4 at h;refine Zn Z func95 ?_;refine kC Z h (Iz Z Y) (fun y1 h=>?_);obtain⟨L1,e2,h⟩:=B1 h;have g:MU S Q6 [] [.reg 0 0,.reg 1 0] [.cells [.p (vSl 2 A0 y1.1)],.cells [.p (vSl 18 B4 y1.2)]] (L1.map (fun (x:Int×(Sl A3))=>[pI .i64 x.1,vSl 2 A0 x.2])) (some (.iface 235 (pI .i64 c))):=by
  have:=Gv Z Y e2
  simpa[Zw,hc]using this
 refine Vh Z Gr [8000,8001] [4] 901 (fun z1=>⟨[(4,.reg 5000 0)],[(5000,.cells [.p (vSl 2 A0 z1)])]⟩) (idl:=[(5000,5000)]) h g (fun _=>by kernel_rfl) (fun _=>by kernel_rfl) (fun _=>by kernel_rfl) (fun _=>by kernel_rfl) (fun x1 _ d z1 f h=>?_) (fun z1 h=>?_)
 .refine JJ Z Gr ?_;exact f _ [(901,901),(5000,5000)] _ x1.2 Gr h
 exact ZY Z Gr (x:=.iface 235 (pI .i64 c)) (objs:=[]) [] ⟨rfl,rfl,rfl⟩
def CL (N:Nat)(a:Sl Law)(b:Sl A3):Option ((Sl A3)×Bool):=
 match O4 N 0 a b with
 |some y=>some (y,true)
 |none=>(O4 N 11 a b).bind fun _=>some ((Sl.nil:Sl A3),false)
theorem LT {b:Sl Law}{c:Sl A3}{y:(Sl A3)×Bool}(h:CL N b c=some y) :FunO S Gm [.p (vSl 18 B4 b),.p (vSl 2 A0 c)] [] (.tup [.p (vSl 2 A0 y.1),pB y.2]) ([]) []:=by
 unfold CL at h;refine A5 Z func67 ?_;rcases e:O4 N 0 b c with _|z
 .rw[e]at h;obtain⟨z,e1,h⟩:=B1 h;obtain rfl:=B6 h;refine B7 Z [7000,3000,4000,5000] Gr (Y.attP (KS Z Y (by decide) e1)) ?_;refine I5 Z Gr [(0,.l [5000]),(1,.l [7000]),(3,.a [5000])] ?_;refine D8 Gr ?_;exact A7 Z Gr ⟨[(5,pB false),(4,.reg 5000 0)],[(5000,.cells [.p (vSl 2 A0 Sl.nil)])]⟩ [] (ids:=[(5000,5000)]) ⟨rfl,rfl,rfl⟩
 rw[e]at h;obtain rfl:=B6 h;refine B7 Z [7000,3000,4000,5000] Gr (Y.attR (KR Z Y e)) ?_;refine I5 Z Gr [(0,.l [5000]),(1,.l [7000]),(3,.a [5000])] ?_;refine D8 Gr ?_;exact A7 Z Gr ⟨[(5,pB true),(4,.reg 5000 0)],[(5000,.cells [.p (vSl 2 A0 z)])]⟩ [] (ids:=[(5000,5000)]) ⟨rfl,rfl,rfl⟩
end Go.AM
namespace Go.AM
open Go.Proofs
set_option maxRecDepth 10000
set_option maxHeartbeats 2000000
variable {S:S6}(Z:G1 S Tryz.prog) (Y:Jn S)
include Z Y
def BC (N:Nat)(a:Sl Law)(b:Sl A3):Option ((Sl A3)×Int):= (EF N a (Sl.of [b]:Sl (Sl A3))).bind fun y1=>if (y1 != 0) then some ((Sl.nil:Sl A3),y1) else (CL N a b).bind fun y2=>if (!y2.2) then some ((Sl.nil:Sl A3),11) else some (y2.1,0)
theorem Hn {N:Nat}{a:Sl Law}{b:Sl A3}{y:(Sl A3)×Int}(h:BC N a b=some y) :FunO S GU [.p (vSl 18 B4 a),.p (vSl 2 A0 b)] [] (.tup [.p (vSl 2 A0 y.1),pN y.2]) ([]) []:=by
 unfold BC at h;refine A5 Z Tryz.func44 ?_;refine JI Z Nb ⟨[(11,.vec 12000),(9,.p (vSl 18 B4 a)),(1,.p (vSl 2 A0 b)),(0,.p (vSl 18 B4 a))],[(12000,.vec R9 1 (Sl.of [b]:Sl (Sl A3)).n (fun i=>cL 2 A0 ((Sl.of [b]:Sl (Sl A3)).g i)) false)]⟩ (ids:=[(12000,12000)]) ?_ (hle:=klR [(3,.fn 1 (Sl.of [b]:Sl (Sl A3)).n (C9 [F6] [(0,cL 2 A0 b)]) (fun i=>cL 2 A0 ((Sl.of [b]:Sl (Sl A3)).g i)))] (al1 ⟨rfl,(fun i c=>match i,c with|0,_=>rfl|_+1,c=>Eu c (by omega))⟩ al0));refine kC Z h (OE Z Y) (fun y1 h=>?_);apply kI Z h<;>intro h
 .obtain rfl:=B6 h;exact A7 Z Gr ⟨[(5,pN y1),(4,.p (vSl 2 A0 (Sl.nil:Sl A3)))],[]⟩ [] (ids:=[]) ⟨rfl,rfl,rfl⟩
 refine kC Z h (LT Z Y) (fun y2 h=>?_);apply kI Z h<;>intro h
 .obtain rfl:=B6 h;exact A7 Z Gr ⟨[(5,pN 11),(4,.p (vSl 2 A0 (Sl.nil:Sl A3)))],[]⟩ [] (ids:=[]) ⟨rfl,rfl,rfl⟩
 cases h;exact kR Z
end Go.AM
