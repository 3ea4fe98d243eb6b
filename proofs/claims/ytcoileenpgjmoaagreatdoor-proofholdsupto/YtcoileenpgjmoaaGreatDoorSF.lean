/- Part 6. -/
import Derived.Test.YtcoileenpgjmoaaGreatDoorSE
import Derived.Test.YtcoileenpgjmoaaGreatDoorSD
import Derived.RecoverIn
import Derived.Test.YtcoileenpgjmoaaGreatDoorProg
import Derived.Lib.SlTrimSet
import Derived.Lib.Join
import Derived.Lib.ItoaNum
import Derived.Lib.Bytealg
import Derived.TacticsInMore
set_option linter.defProp false
set_option linter.unusedSimpArgs false
set_option linter.unusedVariables false
set_option linter.unusedSectionVars false
namespace Go.AM
abbrev Kb(k n:Nat):Prop:=n*k<=140737488355328/\n<=140737488355328
def Jt(l:List Nat):List (Nat×Nat):=l.map fun a=>(a,a)
abbrev Io:Sl Int:=Sl.nil
def Ik:true=true:=rfl
def Ii:(18:Nat)<=18:=by decide
def Ig:(7:Nat)<=7:=by decide
def Gq:(2:Nat)<=2:=by decide
noncomputable abbrev Be0:=Go.Proofs.Tryz.prog.funcs
def Bp4:=@Bool.eq_iff_iff
def Bw8:=@BitVec.toNat_ofNat
theorem GT (D:List Deferred)(a:Act)(d:Option Tmp)(v:Value):(PL D a).put d v=PL D (a.put d v):=by cases d<;>rfl
theorem KM {F:Fence}{n:Nat}{P:Program}{ops:Array Oper}{Q:Exit->Act->World->Prop}(D:List Deferred):∀(l:List Nat) (a:Act) (w:World),wpOpsIn F n P ops Q l a w ->
 wpOpsIn F n P ops (λe a' w'=>∃a0,a' = PL D a0/\Q e a0 w') l (PL D a) w
 |[],a,w,h=>⟨a,rfl,h⟩
 |i::l,a,w,h=>by
  have ih:=KM (F:=F) (n:=n) (P:=P) (ops:=ops) (Q:=Q) D l;simp only[wpOpsIn]at h⊢;have e1:(PL D a).eval=a.eval:=by funext x;cases x<;>rfl
  have e2:(PL D a).tmps=a.tmps:=rfl;cases j:ops[i]? with
  |none=>simp only[j]at h⊢;exact ih a w h
  |some o=>
   simp only[j]at h⊢;rw[e2,e1];by_cases hw:Region.wanted o (yielded ops a.tmps)=true
   .rw[Dq hw]at h⊢;refine⟨by rw[e1];exact h.1,?_⟩;have b:=h.2;rw[e1];generalize (o.semAt F.round a.eval).run P w=r at b;unfold Oper.uponIn at b⊢;split at b
    .rw[GT];exact ih _ _ b
    .rw[GT];exact ih _ _ b
    .exact ih _ _ b |> λx=>by
      rename_i d w'
      have:({ (PL D a)with defers:=d::(PL D a).defers }:Act).put o.dst undef=PL D (({ a with defers:=d::a.defers }:Act).put o.dst undef):=by rw[<- GT];rfl
      rw[this];exact x
    .refine⟨b.1,b.2.mono ?_⟩;intro e w' f;cases e with
     |returned v=>have:=ih _ _ f;rw[<- GT]at this;exact this
     |panicked ch=>exact⟨a,rfl,f⟩
     |outgrown=>obtain⟨a1,w1,g⟩:=f;exact⟨PL D a1,w1,a1,rfl,g⟩
    .refine⟨b.1,λc cs m=>?_⟩;obtain⟨v,w',g1,g2⟩:=b.2 c cs m;exact⟨v,w',by have:=ih _ _ g1;rw[<- GT]at this;exact this,g2⟩
    .refine⟨b.1,b.2.mono ?_⟩;intro e w' f;cases e with
     |returned v=>have:=ih _ _ f;rw[<- GT]at this;exact this
     |panicked ch=>exact⟨a,rfl,f⟩
     |outgrown=>obtain⟨a1,w1,g⟩:=f;exact⟨PL D a1,w1,a1,rfl,g⟩
    .exact⟨a,rfl,b⟩
    exact b.elim
   rw[Ej hw]at h⊢;rw[GT];exact⟨h.1,ih _ _ h.2⟩
section
variable {P:Program}{C:Ctx}{st:St}{rho:Nat->Value}
theorem GU {fn:Func}{R:Ending->World->Prop}{u:FrameMode}(c:u ≠ .run){tmps:Array Value}{D:List Deferred}(b:∀a w,Sat C st a w rho->a.tmps=tmps->LeavesInM Fence.wide 0 P fn tmps R D u w) :∀(ds:List Deferred) (a:Act) (w:World),a.defers=ds->a.tmps=tmps->Sat C st a w rho->LeavesInM Fence.wide 0 P fn tmps R (ds++D) u w
 |[],a,w,hd,ht,h=>b a w h ht
 |d::ds,a,w,hd,ht,h=>by obtain⟨r,w',h1,f,g⟩:=h.unmark hd;exact⟨c,.inl ⟨r,w',h1,f,GU c b ds { a with defers:=ds } w' rfl ht g⟩⟩
end
end Go.AM
namespace Go.AM
structure Iu where
 Plus:Int
 Minus:Int
 deriving Inhabited,DecidableEq
abbrev A0 (x:Iu):List PV:=[(pI .u32 x.Plus),pI .u32 x.Minus]
inductive Pat where
 |nil
 |mk (Kind:Int) (Is:Iu) (Not:Bool) (Min:Int) (Max:Int) (n:Nat) (g:Nat->Pat)
instance:Inhabited Pat:=⟨.nil⟩
def Pat.Kind:Pat->Int
 |.nil=>0
 |.mk x _ _ _ _ _ _=>x
def Pat.Is:Pat->Iu
 |.nil=>default
 |.mk _ x _ _ _ _ _=>x
def Pat.Not:Pat->Bool
 |.nil=>false
 |.mk _ _ x _ _ _ _=>x
def Pat.Min:Pat->Int
 |.nil=>0
 |.mk _ _ _ x _ _ _=>x
def Pat.Max:Pat->Int
 |.nil=>0
 |.mk _ _ _ _ x _ _=>x
def Pat.L:Pat->Sl Pat
 |.nil=>⟨0,λ_=>.nil⟩
 |.mk _ _ _ _ _ n g=>⟨n,g⟩
def EX:Pat->Nat->List PV
 |.nil=>λ_=>[]
 |.mk _ _ _ _ _ n g=>λi=>[(pI .i64 (g i).Kind),pI .u32 (g i).Is.Plus,pI .u32 (g i).Is.Minus,.bb (g i).Not,pI .i64 (g i).Min,pI .i64 (g i).Max,.sl false 7 (g i).L.n (EX (g i))]
abbrev E1 (x:Pat):List PV:=[(pI .i64 x.Kind),pI .u32 x.Is.Plus,pI .u32 x.Is.Minus,.bb x.Not,pI .i64 x.Min,pI .i64 x.Max,.sl false 7 x.L.n (EX x)]
def CM (x:Pat):∀i,i<x.L.n->EX x i=E1 (x.L.g i):=by
 cases x with
 |nil=>intro i a;exact Er (show i<0 from a) (by omega)
 |mk Kind Is Not Min Max n g=>exact λ_ _=>rfl
structure Ei where
 From:Int
 Clear:Int
 Set:Iu
 Take:Int
 Of:Int
 deriving Inhabited,DecidableEq
abbrev Ao (x:Ei):List PV:=[(pI .i64 x.From),pI .u32 x.Clear,pI .u32 x.Set.Plus,pI .u32 x.Set.Minus,pI .u32 x.Take,pI .i64 x.Of]
structure Law where
 Name:Str
 Left:Pat
 Right:Pat
 If:(Sl Iu)
 Out:(Sl Ei)
 Mode:Int
 deriving Inhabited
abbrev B4 (x:Law):List PV:=[(.str x.Name),pI .i64 x.Left.Kind,pI .u32 x.Left.Is.Plus,pI .u32 x.Left.Is.Minus,.bb x.Left.Not,pI .i64 x.Left.Min,pI .i64 x.Left.Max,.sl false 7 x.Left.L.n (EX x.Left),pI .i64 x.Right.Kind,pI .u32 x.Right.Is.Plus,pI .u32 x.Right.Is.Minus,.bb x.Right.Not,pI .i64 x.Right.Min,pI .i64 x.Right.Max,.sl false 7 x.Right.L.n (EX x.Right),vSl 2 A0 x.If,vSl 6 Ao x.Out,pI .i64 x.Mode]
structure Small where
 Parents:(Sl Int)
 Laws:(Sl Law)
 On:(Sl Int)
 deriving Inhabited
abbrev HY (x:Small):List PV:=[(vSl 1 (cI .u8) x.Parents),vSl 18 B4 x.Laws,vSl 1 (cI .u16) x.On]
structure Al2 where
 H:Small
 L:(Sl Int)
 deriving Inhabited
abbrev FC (x:Al2):List PV:=[(vSl 1 (cI .u8) x.H.Parents),vSl 18 B4 x.H.Laws,vSl 1 (cI .u16) x.H.On,vSl 1 (cI .u32) x.L]
structure Node where
 Parent:Int
 Name:Str
 deriving Inhabited,DecidableEq
abbrev C7 (x:Node):List PV:=[(pI .i64 x.Parent),.str x.Name]
structure History where
 Tree:(Sl Node)
 Laws:(Sl Law)
 On:(Sl (Sl Int))
 deriving Inhabited
abbrev A8 (x:History):List PV:=[(vSl 2 C7 x.Tree),vSl 18 B4 x.Laws,vSl 1 (cL 1 (cI .i64)) x.On]
structure K3 where
 Symbol:Str
 S:Iu
 deriving Inhabited,DecidableEq
abbrev D7 (x:K3):List PV:=[(.str x.Symbol),pI .u32 x.S.Plus,pI .u32 x.S.Minus]
structure Jh where
 Text:Str
 Clear:Int
 Set:Iu
 deriving Inhabited,DecidableEq
abbrev V7 (x:Jh):List PV:=[(.str x.Text),pI .u32 x.Clear,pI .u32 x.Set.Plus,pI .u32 x.Set.Minus]
structure H4 where
 Has:Bool
 W:(Sl Iu)
 deriving Inhabited
abbrev F5 (x:H4):List PV:=[(.bb x.Has),vSl 2 A0 x.W]
structure Entry where
 Gloss:Str
 Forms:(Sl H4)
 deriving Inhabited
abbrev F6 (x:Entry):List PV:=[(.str x.Gloss),vSl 2 F5 x.Forms]
structure B8 where
 Feats:(Sl Str)
 Sounds:(Sl K3)
 Marks:(Sl Jh)
 History:History
 Protos:(Sl H4)
 Entries:(Sl Entry)
 deriving Inhabited
abbrev B2 (x:B8):List PV:=[(vSl 1 cS x.Feats),vSl 3 D7 x.Sounds,vSl 4 V7 x.Marks,vSl 2 C7 x.History.Tree,vSl 18 B4 x.History.Laws,vSl 1 (cL 1 (cI .i64)) x.History.On,vSl 2 F5 x.Protos,vSl 2 F6 x.Entries]
structure A5 where
 Entry:Int
 Leaf:Int
 Kind:Int
 Cost:Int
 deriving Inhabited,DecidableEq
abbrev B9 (x:A5):List PV:=[(pI .i64 x.Entry),pI .i64 x.Leaf,pI .i64 x.Kind,pI .i64 x.Cost]
structure GD where
 Node:Int
 Place:Int
 Entry:Int
 Leaf:Int
 deriving Inhabited,DecidableEq
abbrev S8 (x:GD):List PV:=[(pI .i64 x.Node),pI .i64 x.Place,pI .i64 x.Entry,pI .i64 x.Leaf]
structure IW where
 Bad:(Sl A5)
 Swaps:(Sl GD)
 deriving Inhabited
abbrev OD (x:IW):List PV:=[(vSl 4 B9 x.Bad),vSl 4 S8 x.Swaps]
structure B5 where
 a0:Int
 a1:Int
 deriving Inhabited,DecidableEq
abbrev D5 (x:B5):List PV:=[(pI .i64 x.a0),pI .i64 x.a1]
structure CD where
 entry:Int
 leaf:Int
 deriving Inhabited,DecidableEq
abbrev OE (x:CD):List PV:=[(pI .i64 x.entry),pI .i64 x.leaf]
inductive Part where
 |nil
 |sound (x:Iu) (no:Bool)
 |edge (e:Bool)
 |seq (n:Nat) (g:Nat->Part)
 |alt (n:Nat) (g:Nat->Part)
 |rep (o:Part) (mn mx:Int)
instance:Inhabited Part:=⟨.nil⟩
def Part.t:Part->Nat
 |.nil=>0
 |.sound _ _=>335
 |.edge _=>337
 |.seq _ _=>342
 |.alt _ _=>339
 |.rep _ _ _=>341
def Part.v:Part->PV
 |.nil=>.bb false
 |.sound x no=>.agg [pI .u32 x.Plus,pI .u32 x.Minus,.bb no]
 |.edge e=>.agg [.bb e]
 |.seq n g=>.agg [.sl false 1 n λi=>[.iface (g i).t (g i).v]]
 |.alt n g=>.agg [.sl false 1 n λi=>[.iface (g i).t (g i).v]]
 |.rep o mn mx=>.agg [.iface o.t o.v,pI .i64 mn,pI .i64 mx]
abbrev HZ (x:Part):PV:=.iface x.t x.v
abbrev Ji (x:Part):List PV:=[HZ x]
structure Al3 where
 is:Iu
 not:Bool
 deriving Inhabited,DecidableEq
abbrev YZ (x:Al3):List PV:=[(pI .u32 x.is.Plus),pI .u32 x.is.Minus,.bb x.not]
structure AO8 where
 end_:Bool
 deriving Inhabited,DecidableEq
abbrev AO9 (x:AO8):List PV:=[(.bb x.end_)]
structure Palt where
 l:(Sl Part)
 deriving Inhabited
abbrev AZ3 (x:Palt):List PV:=[(vSl 1 Ji x.l)]
structure AZ4 where
 of:Part
 min:Int
 max:Int
 deriving Inhabited
abbrev AZ5 (x:AZ4):List PV:=[(HZ x.of),pI .i64 x.min,pI .i64 x.max]
structure Pseq where
 l:(Sl Part)
 deriving Inhabited
abbrev AZ6 (x:Pseq):List PV:=[(vSl 1 Ji x.l)]
structure B1 where
 feats:(Sl Str)
 number:List (Str×Int)
 sounds:(Sl K3)
 symbols:List (Str×Int)
 values:List (Iu×Int)
 deriving Inhabited
abbrev H1 (a b:Iu):Bool:=((a.Plus==b.Plus)&&(a.Minus==b.Minus))
end Go.AM
namespace Go.AM
open Go.Proofs
abbrev Ee:Nat:=3
abbrev Ia:Nat:=7
abbrev OG:Nat:=8
abbrev Mr:Nat:=9
abbrev Jj:Nat:=10
abbrev KN:Nat:=11
abbrev Ms:Nat:=12
abbrev Mt:Nat:=13
abbrev Mu:Nat:=14
abbrev Rt:Nat:=16
abbrev Ru:Nat:=17
abbrev KO:Nat:=18
abbrev Mv:Nat:=19
abbrev Hr:Nat:=21
abbrev OH:Nat:=22
abbrev KP:Nat:=23
abbrev Rv:Nat:=24
abbrev KQ:Nat:=25
abbrev Mw:Nat:=26
abbrev KR:Nat:=27
abbrev L0:Nat:=28
abbrev R9:Nat:=29
abbrev Mx:Nat:=30
abbrev Ib:Nat:=31
abbrev Ic:Nat:=32
abbrev KS:Nat:=33
abbrev OK:Nat:=34
abbrev Jk:Nat:=35
abbrev Id:Nat:=36
abbrev Jl:Nat:=37
abbrev KT:Nat:=38
abbrev Ie:Nat:=39
abbrev Jm:Nat:=40
abbrev My:Nat:=41
abbrev KU:Nat:=42
abbrev BI:Nat:=43
abbrev Y4:Nat:=44
abbrev DE:Nat:=45
abbrev ON:Nat:=46
abbrev X4:Nat:=47
abbrev DM:Nat:=48
abbrev V9:Nat:=49
abbrev OO:Nat:=51
abbrev OP:Nat:=52
abbrev Mz:Nat:=53
abbrev KV:Nat:=54
abbrev OQ:Nat:=55
abbrev Jn:Nat:=56
abbrev Hs:Nat:=57
abbrev Gr:Nat:=58
abbrev MA:Nat:=59
abbrev Dg:Nat:=60
abbrev KW:Nat:=61
abbrev Gs:Nat:=62
abbrev MB:Nat:=63
abbrev Jo:Nat:=64
abbrev Jp:Nat:=65
abbrev Rw:Nat:=66
abbrev Ih:Nat:=67
abbrev EY:Nat:=68
abbrev Jq:Nat:=69
abbrev Ht:Nat:=70
abbrev Hu:Nat:=71
abbrev MC:Nat:=72
abbrev MD:Nat:=73
abbrev KX:Nat:=74
abbrev S0:Nat:=75
abbrev OU:Nat:=81
abbrev KY:Nat:=82
abbrev Rx:Nat:=83
abbrev KZ:Nat:=84
abbrev La:Nat:=85
abbrev OV:Nat:=86
abbrev ME:Nat:=87
abbrev M4:Nat:=88
abbrev O2:Nat:=89
abbrev Jr:Nat:=90
abbrev Hv:Nat:=91
abbrev Js:Nat:=92
abbrev OW:Nat:=93
abbrev T4:Nat:=94
abbrev MF:Nat:=95
abbrev Cf:Nat:=96
abbrev P6:Nat:=97
abbrev T5:Nat:=98
abbrev Fa:Nat:=99
abbrev Cg:Nat:=100
abbrev Hw:Nat:=101
abbrev FR:Nat:=102
abbrev S1:Nat:=103
abbrev BJ:Nat:=104
abbrev Ju:Nat:=105
abbrev MG:Nat:=106
abbrev Ij:Nat:=107
abbrev Jv:Nat:=108
abbrev N1:Nat:=109
abbrev W0:Nat:=110
abbrev K4:Nat:=111
abbrev AO:Nat:=112
abbrev J1:Nat:=113
abbrev T6:Nat:=114
abbrev MH:Nat:=115
abbrev Il:Nat:=116
abbrev RA:Nat:=127
abbrev RB:Nat:=128
abbrev FT:Nat:=129
abbrev Jw:Nat:=130
abbrev Q5:Nat:=131
abbrev N9:Nat:=132
abbrev P8:Nat:=133
abbrev N5:Nat:=134
abbrev Hy:Nat:=135
abbrev Jx:Nat:=136
abbrev MI:Nat:=137
abbrev Bm:Nat:=138
abbrev Vr:Nat:=139
abbrev Ap:Nat:=140
abbrev Im:Nat:=141
abbrev Ci:Nat:=142
abbrev Bn:Nat:=143
abbrev DN:Nat:=144
abbrev N6:Nat:=145
abbrev Hz:Nat:=146
abbrev S2:Nat:=147
abbrev O3:Nat:=148
abbrev HA:Nat:=149
abbrev Jy:Nat:=150
abbrev Lc:Nat:=151
abbrev EB:Nat:=163
abbrev GV:Nat:=164
abbrev MJ:Nat:=172
abbrev J0:Nat:=173
abbrev O5:Nat:=174
abbrev P4:Nat:=175
abbrev Ka:Nat:=176
abbrev Et:Nat:=177
abbrev Gt:Nat:=178
abbrev W1:Nat:=179
abbrev Bo:Nat:=180
abbrev DO:Nat:=181
abbrev X5:Nat:=182
abbrev CP:Nat:=183
abbrev P9:Nat:=184
abbrev O6:Nat:=185
abbrev Q0:Nat:=186
abbrev Y8:Nat:=187
abbrev Pb:Nat:=188
abbrev S3:Nat:=190
abbrev Pc:Nat:=196
abbrev Pd:Nat:=199
abbrev Vt:Nat:=200
abbrev Kc:Nat:=202
abbrev RC:Nat:=203
abbrev P0:Nat:=204
abbrev Vu:Nat:=205
abbrev Vv:Nat:=206
abbrev Ld:Nat:=207
abbrev Iq:Nat:=208
abbrev MK:Nat:=209
abbrev Gu:Nat:=210
abbrev J6:Nat:=211
abbrev Jz:Nat:=212
abbrev ML:Nat:=213
abbrev BM:Nat:=214
abbrev Lf:Nat:=215
abbrev Pe:Nat:=216
abbrev Pf:Nat:=217
abbrev Pg:Nat:=218
abbrev Lg:Nat:=219
abbrev Lh:Nat:=220
abbrev JA:Nat:=221
abbrev Ir:Nat:=222
abbrev DF:Nat:=223
abbrev Ek:Nat:=224
abbrev DP:Nat:=243
abbrev Fe:Nat:=244
abbrev FU:Nat:=245
abbrev GX:Nat:=246
abbrev FG:Nat:=247
abbrev GY:Nat:=248
abbrev Iv:Nat:=249
abbrev Br:Nat:=250
abbrev GZ:Nat:=251
abbrev E5:Nat:=3
abbrev AH1:Nat:=4
abbrev I0:Nat:=5
abbrev F8:Nat:=9
abbrev DQ:Nat:=23
abbrev Xw:Nat:=26
abbrev Ab5:Nat:=29
abbrev FH:Nat:=55
abbrev Ck:Nat:=57
abbrev EG:Nat:=59
abbrev U2:Nat:=64
abbrev R0:Nat:=66
abbrev At:Nat:=68
abbrev O0:Nat:=83
abbrev Bs:Nat:=99
abbrev B6:Nat:=117
abbrev Gv:Nat:=134
abbrev H6:Nat:=137
abbrev D2:Nat:=145
abbrev Al8:Nat:=186
abbrev D8:Nat:=197
abbrev Ab6:Nat:=253
abbrev Xx:Nat:=330
end Go.AM
namespace Go.AM
open IntKind (wrap)
abbrev U (x:BitVec 64):Int:=(x.toNat:Int)
def Pl {n:Nat}(h:n<2 ^ 64):IntKind.u64.wrap (n:Int)=n:=by have h1:((n:Int) % (2 ^ 64:Int))=n:=Bl7 (by omega) (by omega);unfold wrap;simp only[IntKind.bits,IntKind.signed,h1,Bn4,Be7,Eu]
def Al9 (x:BitVec 64):BitVec.ofInt 64 (U x)=x:=by
 apply Bk9;rw[Bw4]
 have:=x.isLt
 show ((x.toNat:Int) % ((2 ^ 64:Nat):Int)).toNat=x.toNat;omega
def or64 (x y:BitVec 64):O9 .or .u64 (U x) (U y)=U (x ||| y):=by simp only[O9,IntKind.bits,Al9];exact Pl (x ||| y).isLt
def Az8 (x y:BitVec 64):O9 .andNot .u64 (U x) (U y)=U (x &&& ~~~ y):=by simp only[O9,IntKind.bits,Al9];exact Pl (x &&& ~~~ y).isLt
def Az9 (n:Nat)(h:n<64):shI .shl .u64 1 n=U (1#64 <<< n):=by
 simp only[shI,IntKind.bits,Int.toNat_natCast];rw[Bn6 (by omega)];show wrap .u64 (1*2 ^ n)=((1#64 <<< n).toNat:Int);rw[BitVec.toNat_shiftLeft,Nat.shiftLeft_eq];have h1:(2:Nat) ^ n<2 ^ 64:=Nat.pow_lt_pow_right (by omega) h;have e:((1:Int)*2 ^ n)=((2 ^ n:Nat):Int):=by norm_cast;omega
 rw[e,Pl h1]
 norm_cast
 rw[Bm5]
 .simp
 simpa using h1
def AP0 {i:Nat}:(1#64).getLsbD i=decide (i=0):=by rw[BitVec.getLsbD_one];simp
def Am0 {n i:Nat}(h:n<64)(a:i<64):(1#64 <<< n).getLsbD i=decide (i=n):=by rw[BitVec.getLsbD_shiftLeft,AP0,Bp4];simp only[Be4,Bg3,decide_eq_true_eq,decide_eq_false_iff_not];omega
end Go.AM
namespace Go.AM
open Go.Proofs.Tryz
variable {N:Nat}
open Go.Proofs
abbrev AA0:List AV:=[.reg 0 0,.reg 1 0,.reg 2 0,.reg 3 0]
abbrev Xy (c:Int)(a:Sl Law)(b:Sl Iu)(y:PV):List Obj:=[.cells [pN c],.cells [.p (vSl 18 B4 a)],.cells [.p (vSl 2 A0 b)],.cells [.p y]]
structure Kd (S:V2):Prop where
 attR:∀{a:Sl Law}{b y:Sl Iu},FunO S K4 [.p (vSl 18 B4 a),.p (vSl 2 A0 b)] [] (.p (vSl 2 A0 y)) [] []->FunO S N1 AA0 (Xy 0 a b C8) (.tup []) (Xy 0 a b (vSl 2 A0 y)) [true,true,true,true]
 attP:∀{a:Sl Law}{b:Sl Iu}{c:Int},(S.F K4 [.p (vSl 18 B4 a),.p (vSl 2 A0 b)] [] λres o k=>res=.panic (.iface 261 (pI .i64 c))/\o=[]/\k=[])->FunO S N1 AA0 (Xy 0 a b C8) (.tup []) (Xy c a b C8) [true,true,true,true]
 tz:∀x:BitVec 64,Uc S S3 [.p (pI .u64 (U x))] (.p (pI .i64 (Lib.ctz 64 x.toNat:Nat)))
 trim:∀s c:Str,s.length<1000000000000->c.length<1000000->(∀b∈c,b.toNat<128)->Uc S FT [.p (.str s),.p (.str c)] (.p (.str (Lib.trimS s c)))
 growS:∀(f:Nat->List PV) (n:Nat),n*8<=140737488355328->FunO S J6 [.p C8,.p (pI .i64 (n:Int))] [] (.vec 0) [.vec B6 2 0 f false] []
 join:∀(nn:Bool) (n:Nat) (g:Nat->List UInt8) (sep:List UInt8),n<=140737488355328->(Lib.join ((List.range n).map g) sep).length<=140737488355328 ->
  Uc S DE [.p (.sl nn 1 n λi=>[.str (g i)]),.p (.str sep)] (.p (.str (Lib.join ((List.range n).map g) sep)))
 indexByte:∀(s:List UInt8) (c:UInt8),Uc S X5 [.p (.str s),.p (.v (.int .u8 c.toNat))] (.p (.v (.int .i64 (Lib.indexByte s c))))
 fmtInt:∀n:Int,-9223372036854775808<=n->n<=9223372036854775807->Uc S X4 [.p (pI .i64 n),.p (pI .i64 10)] (.p (.str (Lib.itoa n)))
 copyCheck:∀(T:Nat) (u n:Nat) (f:Nat->List PV),T=122->FunO S S0 [.reg 0 0] [.blk [0,T,u] 1,.vec I0 1 n f false] (.tup []) [.blk [0,T,1] 1,.vec I0 1 n f false] [true,true]
 bstr:∀(T u n:Nat) (f:Nat->List PV) (s:List UInt8),T=122->s.length=n->(∀i,i<n->f i=[.v (.int .u8 (s.getD i 0).toNat)])->FunO S V9 [.reg 0 0] [.blk [0,T,u] 1,.vec I0 1 n f false] (.p (.str s)) [] []
def I5 (N:Nat)(x:Int):Option Int:=if 0<=x/\x<18446744073709551616 then some ((Lib.ctz 64 x.toNat:Nat):Int)else none
def DH (N:Nat)(s c:Str):Option Str:=if s.length<1000000000000/\c.length<1000000/\(c.all λb=>decide (b.toNat<128)) then some (Lib.trimS s c)else none
def J7 (N:Nat)(n:Int):Option (Sl Iu):=if 0<=n/\n*8<=140737488355328 then some (Sl.nil:Sl Iu)else none
section
variable {S:V2}(Z:G8 S Tryz.prog) (Y:Kd S)
include Z Y
theorem Ff {x y:Int}(h:I5 N x=some y):FunO S S3 [.p (pI .u64 x)] [] (.p (pI .i64 y)) [] []:=by
 obtain⟨⟨a,h1⟩,h⟩:=D1 h;obtain rfl:=A9 h
 have:=Y.tz (BitVec.ofNat 64 x.toNat)
 have e:(BitVec.ofNat 64 x.toNat).toNat=x.toNat:=by rw[Bw8];omega
 have e2:U (BitVec.ofNat 64 x.toNat)=x:=by show ((BitVec.ofNat 64 x.toNat).toNat:Int)=x;rw[e];omega
 rw[e,e2]at this;exact this
theorem JB {s c:Str}{y:Str}(h:DH N s c=some y):FunO S FT [.p (.str s),.p (.str c)] [] (.p (.str y)) [] []:=by obtain⟨⟨a,h1,d⟩,h⟩:=D1 h;obtain rfl:=A9 h;exact Y.trim s c a h1 λb hb=>by simpa using Bf1.1 d b hb
theorem BN {n:Int}{y:Sl Iu}(h:J7 N n=some y):FunO S J6 [.p C8,.p (pI .i64 n)] [] (.vec 0) [.vec B6 2 y.n (λi=>A0 (y.g i)) false] []:=by
 obtain⟨⟨a,h1⟩,h⟩:=D1 h;obtain rfl:=A9 h
 have:=Y.growS (λi=>A0 default) n.toNat (by omega)
 rw[show ((n.toNat:Nat):Int)=n by omega]at this;exact this
def A6 (N:Nat)(s:Sl Iu):Option (Sl Iu):=if (0+s.n)*8<=140737488355328/\0+s.n<=140737488355328 then some s else none
theorem Q1 {s y:Sl Iu}(h:A6 N s=some y):FunO S J1 [.p (vSl 2 A0 s)] [] (.vec 0) [.vec B6 2 y.n (λi=>A0 (y.g i)) true] []:=by
 unfold A6 at h;obtain⟨c1,h⟩:=D1 h;obtain rfl:=A9 h;refine A2 Z func113 ?_;refine UR Z Fb 3 (k:=2) (n:=s.n) (f:=λi=>A0 (s.g i)) (λa=>?_) ?_
 .obtain⟨n,g⟩:=s;obtain rfl:n=0:=a;exact kO Z Fb [3700]
 exact kO Z (And.intro Ik c1) [8000]
  (hle:=kl1 0 (AH0 A0 s [pI .u32 0,pI .u32 0]))
def H7 (N:Nat)(s:Sl Ei):Option (Sl Ei):=if (0+s.n)*32<=140737488355328/\0+s.n<=140737488355328 then some s else none
theorem AR {s y:Sl Iu}(h:A6 N s=some y):FunO S J1 [.p (vSl 2 A0 s)] [] (.p (vSl 2 A0 y)) [] []:=by
 unfold A6 at h;obtain⟨c1,h⟩:=D1 h;obtain rfl:=A9 h;refine A2 Z func113 ?_;refine UR Z Fb 3 (k:=2) (n:=s.n) (f:=λi=>A0 (s.g i)) (λa=>?_) ?_
 .obtain⟨n,g⟩:=s;obtain rfl:n=0:=a;exact kO Z Fb []
 exact kO Z (And.intro Ik c1) []
  (hle:=kl1 0 (AH0 A0 s [pI .u32 0,pI .u32 0]))
theorem CE {s y:Sl Ei}(h:H7 N s=some y):FunO S T6 [.p (vSl 6 Ao s)] [] (.p (vSl 6 Ao y)) [] []:=by
 unfold H7 at h;obtain⟨c1,h⟩:=D1 h;obtain rfl:=A9 h;refine A2 Z func114 ?_;refine UR Z Fb 3 (k:=6) (n:=s.n) (f:=λi=>Ao (s.g i)) (λa=>?_) ?_
 .obtain⟨n,g⟩:=s;obtain rfl:n=0:=a;exact kO Z Fb []
 exact kO Z (And.intro Ik c1) []
  (hle:=kl1 0 (AH0 Ao s [pI .i64 0,pI .u32 0,pI .u32 0,pI .u32 0,pI .u32 0,pI .i64 0]))
end
end Go.AM
set_option maxRecDepth 100000
namespace Go.AM
open Go.Proofs.Tryz
open Go.Proofs
def Ab7 (v:Value)(w:World):(Instr.typeAssert (.iface 261 v) 20 261 true).run Tryz.prog w=.ok (.tuple #[v,.bool true]) w:=by kernel_rfl
def Xz (p:Value)(w:World):CallsDIn Fence.wide 0 Tryz.prog W0 #[p] .returning w λe u' w'=>e=.returned (.tuple #[])/\u' = .returning/\w' = w:=by
 refine callsDIn_of_wpSIn func110 rfl (by simp[Fence.wide]) λc₀ cs a=>?_;apply wpSIn_seq;apply wpSIn_region;simp[wpOpsSIn,go_sem,recoverD,a,f110,Exit.thenS];refine wpSIn_of_wpIn rfl (wpIn_block (wpIn_seq (wpIn_region ?_)));simp[wpOpsIn,Oper.wpIn,Oper.semAt,Oper.uponIn,go_sem,Exit.then];refine wpIn_cond (t:=true) (by simp[Act.eval]) ?_;simp only[Es];refine wpIn_region ?_;simp[wpOpsIn,Oper.wpIn,Oper.semAt,Oper.uponIn,go_sem,Exit.inBlock,bodyPostS,results];cases c₀
 simp_all
def Nj (p:Value)(c:Int)(older:List PanicEntry)(w w1:World)(a:(Instr.storeAt 49 p (.int .i64 c)).run Tryz.prog w=.ok () w1)(hn:∃b,p=.pointer (some b)) :CallsDIn Fence.wide 0 Tryz.prog W0 #[p] (.panicking ({ v:=.iface 261 (.int .i64 c),recovered:=false }::older)) w λe u' w'=>
  e=.returned (.tuple #[])/\u' = .panicking ({ v:=.iface 261 (.int .i64 c),recovered:=true }::older)/\w' = w1:=by
 obtain⟨b,rfl⟩:=hn;refine callsDIn_of_wpSIn func110 rfl (by simp[Fence.wide]) λc₀ cs d=>?_;apply wpSIn_seq;apply wpSIn_region;simp[wpOpsSIn,go_sem,recoverD,d,f110,Exit.thenS];refine wpSIn_of_wpIn rfl (wpIn_block (wpIn_seq (wpIn_region ?_)));simp[wpOpsIn,Oper.wpIn,Oper.semAt,Oper.uponIn,go_sem,Exit.then];refine wpIn_cond (t:=false) (by simp[Act.eval]) ?_;simp only[Be7,Eu];refine wpIn_seq (wpIn_region ?_);simp[wpOpsIn,Oper.wpIn,Oper.semAt,Oper.uponIn,go_sem,Exit.then,Ab7];refine wpIn_cond (t:=true) (by simp[Act.eval]) ?_;simp only[Es];refine wpIn_seq (wpIn_region ?_);simp[wpOpsIn,Oper.wpIn,Oper.semAt,Oper.uponIn,go_sem,Exit.then];refine wpIn_region ?_;simp[wpOpsIn,Oper.wpIn,Oper.semAt,Oper.uponIn,go_sem,a,Exit.inBlock,bodyPostS,results];simp[go_sem]at a;rw[a];simp[Result.andThen]
noncomputable def AS8:Code:=match Tryz.f109.body with
 |some (.seq _ c)=>c
 |_=>.skip
def AP1 {S:V2}(Z:G8 S Tryz.prog){a:Sl Law}{b y:Sl Iu}(c:FunO S K4 [.p (vSl 18 B4 a),.p (vSl 2 A0 b)] [] (.p (vSl 2 A0 y)) [] []) :KG S Tryz.prog (Rr S (λst=>M0 [0,1,2,3] st.regs [0,1,2,3]=some (Xy 0 a b (vSl 2 A0 y))) λ_ _=>False) (.code AS8 [] ⟨argEnv AA0,objRegs (Xy 0 a b C8)⟩):=by refine B3 Z [] Fb c ?_;exact K_upN Z Fb ⟨[],[(3,.cells [.p (vSl 2 A0 y)]),(2,.cells [.p (vSl 2 A0 b)]),(1,.cells [.p (vSl 18 B4 a)]),(0,.cells [pN 0])]⟩ (ids:=(Jt [0,1,2,3])) rfl
def Am1 {S:V2}(Z:G8 S Tryz.prog){a:Sl Law}{b:Sl Iu}{c:Int}(d:S.F K4 [.p (vSl 18 B4 a),.p (vSl 2 A0 b)] [] λres o k=>res=.panic (.iface 261 (pI .i64 c))/\o=[]/\k=[]) :KG S Tryz.prog (Rr S (λ_=>False) λx st=>x=.iface 261 (pI .i64 c)/\store Tryz.prog st.regs 49 (.reg 0 0) (.p (pI .i64 c))=some ([],ins 0 (.cells [pN c]) st.regs)/\M0 [0,1,2,3] (ins 0 (.cells [pN c]) st.regs) [0,1,2,3]=some (Xy c a b C8)) (.code AS8 [] ⟨argEnv AA0,objRegs (Xy 0 a b C8)⟩):=by refine AO3 Z [] Fb d ?_;exact K_upP Z Fb ⟨rfl,by kernel_rfl,by kernel_rfl⟩
noncomputable def att1:Code:=match Tryz.f109.body with
 |some (.seq c _)=>c
 |_=>.skip
noncomputable def attOps:Array Oper:=match AS8 with
 |.region _ ops _=>ops
 |_=>#[]
def Za:AS8=.region 1 attOps false:=by kernel_rfl
def AZ7:attOps.toList.all (IZ 7 attOps.toList)=true:=by kernel_rfl
def AA1:¬Tryz.f109.name = "runtime.NumGoroutine" := by decide +kernel
def Zb:Tryz.f109.body=some (.seq att1 AS8):=by kernel_rfl
def AP2 {C:Ctx}{vs:Array Value}{w:World}{rho:Nat->Value}{args:List AV}{objs:List Obj}{n:Nat}(Z:Sat C ⟨argEnv args,objRegs objs⟩ ⟨vs,[]⟩ w rho)(a:vs.size=args.length) :Sat C ⟨argEnv args,objRegs objs⟩ { tmps:=vs++Array.replicate n undef,defers:=[] } w rho:=by
 refine⟨Z.toSatE,λt=>?_,Z.pin,Z.marks⟩
 have:=Z.env t
 by_cases ht:t<vs.size
 .simpa[Bd9,Bm1,ht]using this
 show RepA w _ _ _ _ (get (argEnv args) t);rw[AK,Be1,Bi1 (by omega)];exact .top _
def Pm {R:St->Prop}{X:PV->St->Prop}{a:Sl Law}{b:Sl Iu}{objs' : List Obj}
 (a1:KG (Gc Tryz.prog) Tryz.prog (Rr (Gc Tryz.prog) R X) (.code AS8 [] ⟨argEnv AA0,objRegs (Xy 0 a b C8)⟩))
 (hR:∀st,R st->M0 [0,1,2,3] st.regs [0,1,2,3]=some objs')
 (hX:∀x st,X x st->∃c regs',x=.iface 261 (pI .i64 c)/\store Tryz.prog st.regs 49 (.reg 0 0) (.p (pI .i64 c))=some ([],regs')/\M0 [0,1,2,3] regs' [0,1,2,3]=some objs') :
 FunO (Gc Tryz.prog) N1 AA0 (Xy 0 a b C8) (.tup []) objs' [true,true,true,true]:=by
 intro 𝒢 C w vs rho hG Z t;obtain⟨l⟩:=vs
 match l,t with
 |[v0,v1,v2,v3],t=>?_
 refine⟨.enter N1 #[v0,v1,v2,v3],w,by simp[callFunc,func109,Zb,AA1],?_⟩;refine callsIn_of_wp_marks func109 Zb Fb ?_;have a2:=AP2 (n:=Tryz.f109.ntmps-4) Z t;have a9:Tryz.f109.ntmps-4=3:=rfl;rw[a9]at a2;have b1:((#[v0,v1,v2,v3]:Array Value)++Array.replicate 3 undef).size=7:=rfl;have hw:IU (Gc Tryz.prog) Tryz.prog attOps.toList attOps.toList (Rr (Gc Tryz.prog) R X) ⟨argEnv AA0,objRegs (Xy 0 a b C8)⟩:=by
  have:=a1.out
  rw[Za]at this;simpa only[G,awp,kp,Be7,Eu]using this
 have a4:=Od (𝒢:=𝒢.fix C.rho0) (n:=7) (ro:=none) (ops:=attOps) AZ7 attOps.toList 0 rfl (by simp) ⟨hG,rfl⟩ a2 b1 hw;have a5:=KM [{ target:=.fn (.func W0) #[],args:=#[v0] }] _ _ _ a4;rw[Bs6]at a5;obtain⟨b0,a6,u⟩:∃b0,v0=.pointer (some ⟨b0,0,none⟩)/\rho 0=.pointer (some ⟨b0,0,none⟩):=by
  have h0:RepA w _ _ rho v0 (.reg 0 0):=Z.env 0;cases h0 with
  |reg _ _ b0 _ h=>exact⟨b0,rfl,h⟩
 have s:∀{C' : Ctx}{st' : St}{a' : Act}{w' : World}{rho' : Nat->Value},(𝒢.fix C.rho0).G C' -> Sat C' st' a' w' rho' -> M0 [0,1,2,3] st'.regs [0,1,2,3]=some objs' ->
  LeavesInM Fence.wide 0 Tryz.prog f109 a'.tmps (λe w'=>∃C' r objs0 ks rho', 𝒢.G C' /\ (r=.ret (.tup [])/\objs0=objs' /\ ks=[true,true,true,true])/\SatE C' (objRegs objs0) w' rho' /\
   Ar4 w' (Prv C'.X (A1 (objRegs objs0)) rho') (Lv (A1 (objRegs objs0))) rho' e r/\∀i:Nat,ks[i]? = some true->i<objs0.length/\rho' i=rho i) [] .returning w':=by
  intro C' st' a' w' rho' d f m;obtain⟨g1,g2,g3⟩:=Oe f (by decide) m;obtain⟨hl,hg⟩:=AL m;refine⟨.tuple #[],by simp[results,f109],C', .ret (.tup []),objs',_,_,d.1,⟨rfl,rfl,rfl⟩,g1,⟨_,rfl,.tup _ _ rfl λi hi=>Er hi (by simp)⟩,?_⟩;intro i hi;have y:i<4:=by
   have:=(Bf3.1 hi).1
   simpa using this
  refine⟨by rw[hl];exact y,?_⟩;have e1:[0,1,2,3][i]? = some i:=by
   match i,y with
   |0,_=>rfl
   |1,_=>rfl
   |2,_=>rfl
   |3,_=>rfl
  obtain⟨o,_,ho,_⟩:=hg i i e1;show rho' ([0,1,2,3].getD i 0)=rho i;rw[Eh e1,f.pin i (by omega) (by simp[Lv,ho]),d.2];refine (Z.pin i (by omega) ?_).symm;rw[Lv,F1]
  match i,y with
  |0,_=>rfl
  |1,_=>rfl
  |2,_=>rfl
  |3,_=>rfl
 generalize hQ:bodyPostM _ _ _ _ _=QQ;refine wpIn_seq ?_;simp only[att1,f109];refine wpIn_region ?_;simp[wpOpsIn,Oper.wpIn,Oper.semAt,Oper.uponIn,go_sem,Exit.then];subst hQ;rw[Za];refine wpIn_mono (wpIn_region (F:=FW none) a5) ?_;rintro e a' w' ⟨a0,rfl,z⟩;cases e with
 |exit id=>obtain⟨_,_,_,_,_,_,h⟩:=z;exact h.elim
 |goto l=>obtain⟨_,_,_,_,_,_,h⟩:=z;exact h.elim
 |ret=>obtain⟨_,_,_,_,_,_,h⟩:=z;exact h.elim
 |outgrown=>exact z.elim
 |normal=>
  obtain⟨C',st',rho',d,f,a7,hu⟩:=z;obtain⟨st2,rho2,hR2,_,hs2⟩:=hu C' a0 w' rho' f;refine GU (C:=C') (st:=st2) (rho:=rho2) (by simp) ?_ a0.defers a0 w' rfl rfl hs2;intro a3 w3 q ht;refine⟨by simp,.inr ⟨by simp[Fence.wide],_,_,W0,#[v0],rfl,by simp[go_sem],λ_ _=>trivial,?_⟩⟩;refine (Xz v0 w3).mono ?_;rintro e u' w4 ⟨rfl,rfl,rfl⟩
  have:=s d q (hR st2 hR2)
  rw[ht]at this;exact this
 |panic chain=>
  obtain⟨C',st',rho',v,x,rfl,d,f,a7,hv,hXx⟩:=z;obtain⟨c,regs',rfl,g,m⟩:=hX x st' hXx;obtain rfl:v=.iface 261 (.int .i64 c):=by
   cases hv with
   |iface _ _ _ h=>cases h;rfl
  refine GU (C:=C') (st:=st') (rho:=rho') (by simp) ?_ a0.defers a0 w' rfl rfl f;intro a3 w3 q ht;have j:Lv (A1 st'.regs) 0:=by
   cases hj:A1 st'.regs 0 with
   |some o=>simp[Lv,hj]
   |none=>
    unfold store at g;split at g
    .simp[hj]at g
    cases g
  have hr0:rho' 0=.pointer (some ⟨b0,0,none⟩):=by rw[q.pin 0 (by omega) j,d.2,<- u];exact (Z.pin 0 (by omega) rfl).symm
  have hva:RS C' st' w3 rho' v0 (.reg 0 0):=by rw[a6];exact .reg 0 0 b0 j hr0
  obtain⟨w4,a8,hs4,_⟩:=NO q (vx:=.int .i64 c) hva (.p _ _ (.v _)) g Fb;refine⟨by simp,.inr ⟨by simp[Fence.wide],_,_,W0,#[v0],rfl,by simp[go_sem],λ_ _=>trivial,?_⟩⟩;refine (Nj v0 c [] w3 w4 a8 ⟨_,a6⟩).mono ?_;rintro e u' w5 ⟨rfl,rfl,rfl⟩
  have:=s d hs4 m
  rw[ht]at this;exact this
def XA {a:Sl Law}{b y:Sl Iu}(c:FunO (Gc Tryz.prog) K4 [.p (vSl 18 B4 a),.p (vSl 2 A0 b)] [] (.p (vSl 2 A0 y)) [] []) :FunO (Gc Tryz.prog) N1 AA0 (Xy 0 a b C8) (.tup []) (Xy 0 a b (vSl 2 A0 y)) [true,true,true,true]:=
 Pm (AP1 (good Tryz.prog) c) (λst h=>h) (λx st h=>h.elim)
def Tj {a:Sl Law}{b:Sl Iu}{c:Int}(d:(Gc Tryz.prog).F K4 [.p (vSl 18 B4 a),.p (vSl 2 A0 b)] [] λres o k=>res=.panic (.iface 261 (pI .i64 c))/\o=[]/\k=[]) :FunO (Gc Tryz.prog) N1 AA0 (Xy 0 a b C8) (.tup []) (Xy c a b C8) [true,true,true,true]:=
 Pm (Am1 (good Tryz.prog) d) (λst h=>h.elim) (λx st h=>⟨c,_,h.1,h.2.1,h.2.2⟩)
end Go.AM
namespace Go.AM
open Go.Proofs.Tryz
variable {N:Nat}
open IntKind (wrap)
open Go.Proofs
set_option maxRecDepth 10000
set_option maxHeartbeats 2000000
variable {S:V2}(Z:G8 S Tryz.prog) (Y:Kd S)
include Z Y
def H8 (N:Nat)(a:Iu):Option Bool:= some (((O9 .and .u32 a.Plus a.Minus)==0)&&(decide ((O9 .or .u32 a.Plus a.Minus)<=16777215)))
theorem Q4 {b:Iu}{y:Bool}(h:H8 N b=some y) :FunO S La [.p (.agg (A0 b))] [] (pB y) ([]) []:=by unfold H8 at h;refine A2 Z func85 ?_;refine kB Z (A4 Z) Fb Fb 7 (.n (.a ((O9 .and .u32 b.Plus b.Minus)==0)) (.a (decide ((O9 .or .u32 b.Plus b.Minus)<=16777215)))) ?_;cases h;exact kR Z
def R5 (N:Nat)(b:Iu)(a:Iu):Option Bool:= (H8 N b).bind λy1=>lt (λ(z1:Bool)=>some z1) λk1=>if y1 then (H8 N a).bind λy3=>if y3 then if ((O9 .andNot .u32 a.Plus b.Plus)==0) then k1 ((O9 .andNot .u32 a.Minus b.Minus)==0) else k1 false else k1 false else k1 false
theorem LW {c:Iu}{a:Iu}{y:Bool}(h:R5 N c a=some y) :FunO S Gu [.p (.agg (A0 c)),.p (.agg (A0 a))] [] (pB y) ([]) []:=by
 unfold R5 at h;refine A2 Z func210 ?_;refine kC Z h (Q4 Z Y) (λy1 h=>?_);refine LO Z Fb (A4 Z) h 0 (λz1=>⟨[(4,pB z1)],[]⟩) (λM1 k1 b h=>?_) (λz1 h=>?_)
 .refine kG Z h (λh=>?_) (λh=>?_)
  .refine kC Z h (Q4 Z Y) (λy3 h=>?_);refine kG Z h (λh=>?_) (λh=>?_)
   .refine kG Z h (λh=>?_) (λh=>?_)
    .exact b _ [] _ ((O9 .andNot .u32 a.Minus c.Minus)==0) Fb h
    exact b _ [] _ false Fb h
   exact b _ [] _ false Fb h
  exact b _ [] _ false Fb h
 cases h;exact kR Z
def Fg (N:Nat)(a:Iu):Option Int:= some (O9 .or .u32 a.Plus a.Minus)
theorem Pn {a:Iu}{y:Int}(h:Fg N a=some y) :FunO S Pf [.p (.agg (A0 a))] [] (pU y) ([]) []:=by unfold Fg at h;refine A2 Z func217 ?_;cases h;exact kR Z
def Dr (N:Nat)(c:Iu)(b:Iu)(a:Int):Option Iu:= some (⟨O9 .or .u32 (O9 .andNot .u32 c.Plus a) (O9 .and .u32 b.Plus a),O9 .or .u32 (O9 .andNot .u32 c.Minus a) (O9 .and .u32 b.Minus a)⟩:Iu)
theorem Po {c:Iu}{a:Iu}{b:Int}{y:Iu}(h:Dr N c a b=some y) :FunO S Pg [.p (.agg (A0 c)),.p (.agg (A0 a)),pU b] [] (.p (.agg (A0 y))) ([]) []:=by unfold Dr at h;refine A2 Z func218 ?_;cases h;exact kR Z
def Z6 (N:Nat)(c:Iu)(a:Int)(b:Iu):Option (Iu×Int):= (H8 N c).bind λy1=>lt (λ(z1:Bool)=>if z1 then some ((⟨0,0⟩:Iu),14) else lt (λ(z2:Bool)=>if z2 then some ((⟨0,0⟩:Iu),2) else (Fg N b).bind λy6=>(Dr N c b (O9 .or .u32 a y6)).bind λy7=>some (y7,0)) λk2=>if (decide (16777215<a)) then k2 true else (Fg N b).bind λy5=>k2 ((O9 .and .u32 a y5) != 0)) λk1=>if (!y1) then k1 true else (H8 N b).bind λy3=>k1 (!y3)
theorem Qv {c:Iu}{a:Int}{b:Iu}{y:Iu×Int}(h:Z6 N c a b=some y) :FunO S Jz [.p (.agg (A0 c)),pU a,.p (.agg (A0 b))] [] (.tup [.p (.agg (A0 y.1)),pN y.2]) ([]) []:=by
 unfold Z6 at h;refine A2 Z func212 ?_;refine F9 Z Fb 5 4000 [pI .u32 c.Plus,pI .u32 c.Minus] ?_;refine F9 Z Fb 6 6000 [pI .u32 b.Plus,pI .u32 b.Minus] ?_;obtain⟨y1,e1,h⟩:=A7 h;refine B3 Z [] Gq (Q4 Z Y e1) ?_;refine LO Z Fb (A4 Z) h 0 (λz1=>⟨[(15,pB z1),(6,.reg 7000 0),(5,.p (.ptr [pI .u32 b.Plus,pI .u32 b.Minus])),(3,.p (.ptr [pI .u32 c.Plus,pI .u32 c.Minus])),(1,pU a)],[(7000,.cells [pU 0,pU 0])]⟩) (λM1 k1 d h=>?_) (λz1 h=>?_)
 .refine kG Z h (λh=>?_) (λh=>?_)
  .exact d _ [(7000,7000)] _ true Fb h
  obtain⟨y3,e3,h⟩:=A7 h;refine B3 Z [] Gq (Q4 Z Y e3) ?_;exact d _ [(7000,7000)] _ (!y3) Fb h
 apply kI Z h<;>intro h
 .cases h;exact kR Z
 refine LO Z Fb (A4 Z) h 0 (λz2=>⟨[(25,pB z2),(6,.reg 7000 0),(5,.p (.ptr [pI .u32 b.Plus,pI .u32 b.Minus])),(3,.p (.ptr [pI .u32 c.Plus,pI .u32 c.Minus])),(1,pU a)],[(7000,.cells [pU 0,pU 0])]⟩) (λM2 k2 f h=>?_) (λz2 h=>?_)
 .refine kG Z h (λh=>?_) (λh=>?_)
  .exact f _ [(7000,7000)] _ true Fb h
  obtain⟨y5,e5,h⟩:=A7 h;refine B3 Z [] Gq (Pn Z Y e5) ?_;exact f _ [(7000,7000)] _ ((O9 .and .u32 a y5) != 0) Fb h
 apply kI Z h<;>intro h
 .cases h;exact kR Z
 refine E4 Z Fb [0,1,3,4,6] ?_;obtain⟨y6,e6,h⟩:=A7 h;refine G5 (And.intro (And.intro Gq Gq) Gq) (Pn Z Y e6) ?_;obtain⟨y7,e7,h⟩:=A7 h;refine G5 Fb (Po Z Y e7) ?_;refine D6 Fb ?_;cases h;exact kR Z
def Cw (N:Nat)(c:Iu)(a:Iu)(b:Int):Option (Iu×Int):= (H8 N c).bind λy1=>lt (λ(z1:Bool)=>if z1 then some ((⟨0,0⟩:Iu),14) else if (decide (16777215<b)) then some ((⟨0,0⟩:Iu),2) else (Dr N c a b).bind λy4=>some (y4,0)) λk1=>if (!y1) then k1 true else (H8 N a).bind λy3=>k1 (!y3)
theorem Vz {c:Iu}{a:Iu}{b:Int}{y:Iu×Int}(h:Cw N c a b=some y) :FunO S ML [.p (.agg (A0 c)),.p (.agg (A0 a)),pU b] [] (.tup [.p (.agg (A0 y.1)),pN y.2]) ([]) []:=by
 unfold Cw at h;refine A2 Z func213 ?_;refine kC Z h (Q4 Z Y) (λy1 h=>?_);refine LO Z Fb (A4 Z) h 0 (λz1=>⟨[(15,pB z1),(6,.reg 7000 0),(4,.reg 5000 0),(3,.reg 4000 0),(2,pU b)],[(7000,.cells [pU 0,pU 0]),(5000,.cells [pU a.Plus,pU a.Minus]),(4000,.cells [pU c.Plus,pU c.Minus])]⟩) (λM1 k1 d h=>?_) (λz1 h=>?_)
 .refine kG Z h (λh=>?_) (λh=>?_)
  .exact d _ (Jt [4000,5000,7000]) _ true Fb h
  refine kC Z h (Q4 Z Y) (λy3 h=>?_);exact d _ (Jt [4000,5000,7000]) _ (!y3) Fb h
 apply kI Z h<;>intro h
 .cases h;exact kR Z
 apply kI Z h<;>intro h
 .cases h;exact kR Z
 refine kC Z h (Po Z Y) (λy4 h=>?_);cases h;exact kR Z
def Cx (N:Nat)(a:Iu):Option Bool:= some (((O9 .and .u32 a.Plus a.Minus)==0)&&((shI .shr .u32 (O9 .or .u32 a.Plus a.Minus) 24)==0))
theorem VA {a:Iu}{y:Bool}(h:Cx N a=some y) :FunO S MC [.p (.agg (A0 a))] [] (pB y) ([]) []:=by
 unfold Cx at h;refine A2 Z func72 ?_;obtain⟨t1,c⟩:∃x:Bool,x=(((O9 .and .u32 a.Plus a.Minus)==0)&&((shI .shr .u32 (O9 .or .u32 a.Plus a.Minus) 24)==0)):=⟨_,rfl⟩;refine WY Z Fb (A4 Z) 0 ⟨[(2,pB t1)],[]⟩ (λM1 d=>?_) ?_
 .refine GQ Z Fb (b:=(O9 .and .u32 a.Plus a.Minus)==0) (λc2=>?_) (λc2=>?_)
  .exact d _ [] _ (by decide:(0:Int)<=24) (hle:=klR [(0,.eq (.bb ((shI .shr .u32 (O9 .or .u32 a.Plus a.Minus) 24)==0)) (.bb t1))] (al1 (by simp only[c,c2,Leaf.ok,pm,Es,Eu]) al0))
  exact d _ [] _ Fb (hle:=klR [(0,.eq (.bb false) (.bb t1))] (al1 (by simp only[c,c2,Leaf.ok,pm,Es,Eu]) al0))
 subst c;cases h;exact kR Z
def W8 (N:Nat)(a:Sl Iu):Option Int:= if (decide (32<(a.n:Int))) then some 11 else Y3 N (λb (x1:Int)=>if (decide (x1<(a.n:Int))) then if ((0:Int)<=x1/\x1<(a.n:Int))then (Cx N (a.g x1.toNat)).bind λy3=>if (!y3) then some 14 else b (wrap .i64 (x1+1)) else none else some 0) 0
theorem DR {a:Sl Iu}{y:Int}(h:W8 N a=some y) :FunO S My [.p (vSl 2 A0 a)] [] (pN y) ([]) []:=by
 unfold W8 at h;refine A2 Z func41 ?_;apply kI Z h<;>intro h
 .cases h;exact kR Z
 refine R8 Z Fb h (λx1=>⟨[(10,pN x1),(9,pN (a.n:Int)),(8,.p (vSl 2 A0 a))],[]⟩) (ids:=[]) (λ_ _ _ _ _ b x1 c h=>?_);apply kI Z h<;>intro h
 .obtain⟨c9,h⟩:=D1 h;obtain⟨y3,e3,h⟩:=A7 h;refine B3 Z [] (And.intro c9 Gq) (VA Z Y e3) ?_;apply kI Z h<;>intro h
  .cases h;exact kR Z
  exact c _ [] _ (wrap .i64 (x1+1)) Fb h
 cases h;exact kR Z
def E6 (N:Nat)(a:Sl Iu)(b:Sl Iu):Option Bool:= if ((a.n:Int) != (b.n:Int)) then some false else Y3 N (λc (x1:Int)=>if (decide (x1<(a.n:Int))) then if (((0:Int)<=x1/\x1<(a.n:Int))/\((0:Int)<=x1/\x1<(b.n:Int)))then if ((((a.g x1.toNat).Plus==(b.g x1.toNat).Plus)&&((a.g x1.toNat).Minus==(b.g x1.toNat).Minus)) != true) then some false else c (wrap .i64 (x1+1)) else none else some true) 0
theorem Bt {a:Sl Iu}{b:Sl Iu}{y:Bool}(h:E6 N a b=some y) :FunO S P6 [.p (vSl 2 A0 a),.p (vSl 2 A0 b)] [] (pB y) ([]) []:=by
 unfold E6 at h;refine A2 Z func97 ?_;apply kI Z h<;>intro h
 .cases h;exact kR Z
 refine R8 Z Fb h (λx1=>⟨[(13,pN x1),(12,pN (a.n:Int)),(1,.p (vSl 2 A0 b)),(0,.p (vSl 2 A0 a))],[]⟩) (ids:=[]) (λ_ _ _ _ _ c x1 d h=>?_);apply kI Z h<;>intro h
 .refine E4 Z Fb [2,3,6,7] ?_;obtain⟨c9,h⟩:=D1 h;refine D6 (And.intro (And.intro (And.intro (And.intro c9.1 Gq) c9.2) Gq) (by decide +kernel:PO Tryz.prog B6=true)) ?_;apply kI Z h<;>intro h
  .cases h;exact kR Z
  exact d _ [] _ (wrap .i64 (x1+1)) Fb h
 cases h;exact kR Z
def W9 (N:Nat)(a:Sl Iu)(b:Sl Iu):Option Bool:= (E6 N a b).bind λy1=>some y1
theorem MM {a:Sl Iu}{b:Sl Iu}{y:Bool}(h:W9 N a b=some y) :FunO S MA [.p (vSl 2 A0 a),.p (vSl 2 A0 b)] [] (pB y) ([]) []:=by unfold W9 at h;refine A2 Z func59 ?_;refine kC Z h (Bt Z Y) (λy1 h=>?_);cases h;exact kR Z
def Q6 (N:Nat)(a:Iu):Option Bool:= some (((O9 .and .u32 a.Plus a.Minus)==0)&&((shI .shr .u32 (O9 .or .u32 a.Plus a.Minus) 24)==0))
theorem FI {a:Iu}{y:Bool}(h:Q6 N a=some y) :FunO S MJ [.p (.agg (A0 a))] [] (pB y) ([]) []:=by
 unfold Q6 at h;refine A2 Z func172 ?_;obtain⟨t1,c⟩:∃x:Bool,x=(((O9 .and .u32 a.Plus a.Minus)==0)&&((shI .shr .u32 (O9 .or .u32 a.Plus a.Minus) 24)==0)):=⟨_,rfl⟩;refine WY Z Fb (A4 Z) 0 ⟨[(2,pB t1)],[]⟩ (λM1 d=>?_) ?_
 .refine GQ Z Fb (b:=(O9 .and .u32 a.Plus a.Minus)==0) (λc2=>?_) (λc2=>?_)
  .exact d _ [] _ (by decide:(0:Int)<=24) (hle:=klR [(0,.eq (.bb ((shI .shr .u32 (O9 .or .u32 a.Plus a.Minus) 24)==0)) (.bb t1))] (al1 (by simp only[c,c2,Leaf.ok,pm,Es,Eu]) al0))
  exact d _ [] _ Fb (hle:=klR [(0,.eq (.bb false) (.bb t1))] (al1 (by simp only[c,c2,Leaf.ok,pm,Es,Eu]) al0))
 subst c;cases h;exact kR Z
def S4 (N:Nat)(b:Int):Option (Nat->Int):= Bj N (λa (x1:Nat->Int) (x2:Int)=>if (decide (x2<(wrap .i64 (b+1)))) then if (((0:Int)<=x2/\((0:Int)<=x2/\x2<33))/\(0+x2.toNat*1)<33)then a (Oy x1 (0+x2.toNat*1) (shI .shl .u64 1 x2)) (wrap .i64 (x2+1)) else none else some x1) (λ_=>0) 0
theorem Fh {a:Int}{y:Nat->Int}(h:S4 N a=some y) :FunO S Iv [pN a] [] (.p (.agg (cA 33 (pI .u64) y))) ([]) []:=by
 unfold S4 at h;refine A2 Z func249 ?_;refine H3 Z Fb h (λx1 x2=>⟨[(7,pN x2),(6,pN (wrap .i64 (a+1))),(3,.reg 4000 0),(2,.reg 3000 0)],[(4000,.arr 33 (λi=>pI .u64 (x1 i))),(3000,.arr 33 (λi=>pI .u64 ((λ_=>0) i)))]⟩) (ids:=(Jt [3000,4000])) (λ_ _ _ _ _ b x1 x2 d h=>?_) (hle:=kl2 2 3 (Az6 33 (pI .u64 0)) (Az6 33 (pI .u64 0)));apply kI Z h<;>intro h
 .obtain⟨c4,h⟩:=D1 h;exact d _ (Jt [3000,4000]) _ (Oy x1 (0+x2.toNat*1) (shI .shl .u64 1 x2)) (wrap .i64 (x2+1)) c4 h (hle:=klR [(2,.fn 33 33 (λi=>[(λi=>if i=(0+x2.toNat*1)then (pI .u64 (shI .shl .u64 1 x2))else (λi=>pI .u64 (x1 i)) i) i]) (λi=>[pI .u64 (Oy x1 (0+x2.toNat*1) (shI .shl .u64 1 x2) i)]))] (al1 ⟨rfl,AN7 (c:=pI .u64) (v:=x1) (x:=shI .shl .u64 1 x2) (λ_ _=>rfl) rfl⟩ al0))
 obtain rfl:=A9 h;exact J5 Z (And.intro rfl (G9 _ _):(0:Nat)=0/\(Ed 33 (λi=>pI .u64 (x1 i))).length=33) ⟨[(2,.reg 3000 0)],[(3000,.arr 33 (λi=>pI .u64 (x1 i)))]⟩ [] (ids:=[(3000,3000)]) ⟨rfl,rfl,rfl⟩ (hle:=kl1 0 (Mq 33 (λi=>pI .u64 (x1 i))))
def P1 (N:Nat)(p_x:Nat->Int)(b:Nat->Int):Option (Nat->Int):= Bj N (λa (x1:Nat->Int) (x2:Int)=>if (decide (x2<33)) then if (((0:Int)<=x2/\x2<33)/\(0+x2.toNat*1)<33)then if (((((0:Int)<=x2/\x2<33)/\(0+x2.toNat*1)<33)/\((0:Int)<=x2/\x2<33))/\(0+x2.toNat*1)<33)then a (Oy x1 (0+x2.toNat*1) (O9 .or .u64 (x1 (0+x2.toNat*1)) (b (0+x2.toNat*1)))) (wrap .i64 (x2+1)) else none else none else some x1) p_x 0
theorem FJ {p_x:Nat->Int}{a:Nat->Int}{y:Nat->Int}(h:P1 N p_x a=some y) :FunO S FG [.reg 0 0,.reg 1 0] [.arr 33 (λi=>pI .u64 (p_x i)),.arr 33 (λi=>pI .u64 (a i))] (.tup []) ([.arr 33 (λi=>pI .u64 (y i)),.arr 33 (λi=>pI .u64 (a i))]) [true,true]:=by
 unfold P1 at h;refine A2 Z func247 ?_;refine H3 Z Fb h (λx1 x2=>⟨[(7,pN x2),(6,.reg 1 0),(0,.reg 0 0)],[(1,.arr 33 (λi=>pI .u64 (a i))),(0,.arr 33 (λi=>pI .u64 (x1 i)))]⟩) (ids:=(Jt [0,1])) (λ_ _ _ _ _ b x1 x2 d h=>?_);apply kI Z h<;>intro h
 .refine EV Z Fb ?_;obtain⟨c8,h⟩:=D1 h;refine D6 c8 ?_;refine EV Z Fb ?_;obtain⟨c9,h⟩:=D1 h;refine D6 c9 ?_;exact d _ (Jt [0,1]) _ (Oy x1 (0+x2.toNat*1) (O9 .or .u64 (x1 (0+x2.toNat*1)) (a (0+x2.toNat*1)))) (wrap .i64 (x2+1)) Fb h (hle:=klR [(2,.fn 33 33 (λi=>[(λi=>if i=(0+x2.toNat*1)then (pI .u64 (O9 .or .u64 (x1 (0+x2.toNat*1)) (a (0+x2.toNat*1))))else (λi=>pI .u64 (x1 i)) i) i]) (λi=>[pI .u64 (Oy x1 (0+x2.toNat*1) (O9 .or .u64 (x1 (0+x2.toNat*1)) (a (0+x2.toNat*1))) i)]))] (al1 ⟨rfl,AN7 (c:=pI .u64) (v:=x1) (x:=O9 .or .u64 (x1 (0+x2.toNat*1)) (a (0+x2.toNat*1))) (λ_ _=>rfl) rfl⟩ al0))
 obtain rfl:=A9 h;exact kO Z Fb [0,1]
def AS (N:Nat)(b:Sl Iu)(a:Int):Option Int:= if ((decide (a<0))||(decide ((b.n:Int)<a))) then some 3 else some 0
theorem Lj {c:Sl Iu}{b:Int}{y:Int}(h:AS N c b=some y) :FunO S Lh [.p (vSl 2 A0 c),pN b] [] (pN y) ([]) []:=by
 unfold AS at h;refine A2 Z func220 ?_;refine kB Z (A4 Z) Fb Fb 5 (.o (.a (decide (b<0))) (.a (decide ((c.n:Int)<b)))) ?_;apply kI Z h<;>intro h
 .cases h;exact kR Z
 cases h;exact kR Z
def BO (N:Nat)(a:Pat):Option Int:= if (if (a.Kind==0) then a.Kind==0 else (if (a.Kind==2) then a.Kind==2 else a.Kind==6)) then lt (λ(z1:Bool)=>if z1 then some 2 else (Q6 N a.Is).bind λy1=>if (!y1) then some 14 else some 0) λk1=>if (((a.Is.Plus==0)&&(a.Is.Minus==0)) != true) then k1 true else if a.Not then k1 true else if (a.Min != 0) then k1 true else if (a.Max != 0) then k1 true else k1 (decide (0<(a.L.n:Int))) else if (a.Kind==1) then lt (λ(z2:Bool)=>if z2 then some 2 else (Q6 N a.Is).bind λy2=>if (!y2) then some 14 else some 0) λk2=>if (((0==0)&&(0==0)) != true) then k2 true else if (a.Min != 0) then k2 true else if (a.Max != 0) then k2 true else k2 (decide (0<(a.L.n:Int))) else lt (λ(z3:Int×Int)=>if (((((((a.Is.Plus==0)&&(a.Is.Minus==0)) != true)||a.Not)||(z3.1 != 0))||(z3.2 != 0))||(decide (0<0))) then some 2 else (Q6 N a.Is).bind λy3=>if (!y3) then some 14 else some 0) λk3=>if (if (a.Kind==3) then a.Kind==3 else a.Kind==4) then k3 (a.Min,a.Max) else if (a.Kind==5) then if (((((a.L.n:Int) != 1)||(decide (a.Min<0)))||(decide (32<a.Min)))||((a.Max != (-1))&&((decide (a.Max<a.Min))||(decide (32<a.Max))))) then some 2 else k3 (0,0) else some 2
theorem Qw {c:Pat}{y:Int}(h:BO N c=some y) :FunO S Jw [.p (.agg (E1 c))] [] (pN y) ([]) []:=by
 unfold BO at h;refine A2 Z func130 ?_;obtain⟨t1,f⟩:∃x:Bool,x=(if (c.Kind==0) then c.Kind==0 else (if (c.Kind==2) then c.Kind==2 else c.Kind==6)):=⟨_,rfl⟩;refine WY Z Fb (A4 Z) 0 ⟨[(8,pB t1),(7,pN c.Kind),(3,.reg 4000 0),(1,.reg 2000 0)],[(4000,.cells [pN 0,pU c.Is.Plus,pU c.Is.Minus,pB c.Not,pN c.Min,pN c.Max,.p (.sl false 7 c.L.n (EX c))]),(2000,.cells ((E1 c).map .p))]⟩ (λM1 l=>?_) ?_
 .refine C9 Z Fb (b:=c.Kind==0) (λc3=>?_) (λc3=>?_)
  .exact l _ (Jt [2000,4000]) _ Fb (hle:=klR [(0,.eq (.bb (c.Kind==0)) (.bb t1))] (al1 (by simp only[f,c3,Leaf.ok,pm,Es,Eu]) al0))
  refine C9 Z Fb (b:=c.Kind==2) (λc4=>?_) (λc4=>?_)
  .exact l _ (Jt [2000,4000]) _ Fb (hle:=klR [(0,.eq (.bb (c.Kind==2)) (.bb t1))] (al1 (by simp only[f,c3,c4,Leaf.ok,pm,Es,Eu]) al0))
  exact l _ (Jt [2000,4000]) _ Fb (hle:=klR [(0,.eq (.bb (c.Kind==6)) (.bb t1))] (al1 (by simp only[f,c3,c4,Leaf.ok,pm,Es,Eu]) al0))
 subst f;apply kI Z h<;>intro h
 .refine LO Z (by decide +kernel:PO Tryz.prog B6=true) (A4 Z) h 0 (λz1=>⟨[(57,pB z1),(1,.reg 2000 0)],[(2000,.cells ((E1 c).map .p))]⟩) (λM3 k1 d h=>?_) (λz1 h=>?_)
  .refine kG Z h (λh=>?_) (λh=>?_)
   .exact d _ [(2000,2000)] _ true Fb h
   refine kG Z h (λh=>?_) (λh=>?_)
   .exact d _ [(2000,2000)] _ true Fb h
   refine kG Z h (λh=>?_) (λh=>?_)
   .exact d _ [(2000,2000)] _ true Fb h
   refine kG Z h (λh=>?_) (λh=>?_)
   .exact d _ [(2000,2000)] _ true Fb h
   refine O4 Z Fb 79 ⟨[(78,.p (vSl 7 E1 c.L)),(76,.p (.v (.bool false))),(1,.reg 2000 0)],[(2000,.cells ((E1 c).map .p))]⟩ (ids:=[(2000,2000)]) ?_ (hle:=klR [(0,.fn c.L.n c.L.n (EX c) (λi=>E1 (c.L.g i)))] (al1 ⟨rfl,CM c⟩ al0));exact d _ [(2000,2000)] _ (decide (0<(c.L.n:Int))) Fb h
  apply kI Z h<;>intro h
  .cases h;exact kR Z
  refine kC Z h (FI Z Y) (λy1 h=>?_);apply kI Z h<;>intro h
  .cases h;exact kR Z
  cases h;exact kR Z
 apply kI Z h<;>intro h
 .refine LO Z (by decide +kernel:PO Tryz.prog B6=true) (A4 Z) h 0 (λz2=>⟨[(57,pB z2),(1,.reg 2000 0)],[(2000,.cells ((E1 c).map .p))]⟩) (λM5 k2 j h=>?_) (λz2 h=>?_)
  .refine kG Z h (λh=>?_) (λh=>?_)
   .exact j _ [(2000,2000)] _ true Fb h
   refine GQ Z Fb (b:=false) (λc54=>?_) (λc54=>?_)
   .exact Bool.noConfusion ((rfl:false=false).symm.trans c54)
   refine kG Z h (λh=>?_) (λh=>?_)
   .exact j _ [(2000,2000)] _ true Fb h
   refine kG Z h (λh=>?_) (λh=>?_)
   .exact j _ [(2000,2000)] _ true Fb h
   refine O4 Z Fb 79 ⟨[(78,.p (vSl 7 E1 c.L)),(76,.p (.v (.bool false))),(1,.reg 2000 0)],[(2000,.cells ((E1 c).map .p))]⟩ (ids:=[(2000,2000)]) ?_ (hle:=klR [(0,.fn c.L.n c.L.n (EX c) (λi=>E1 (c.L.g i)))] (al1 ⟨rfl,CM c⟩ al0));exact j _ [(2000,2000)] _ (decide (0<(c.L.n:Int))) Fb h
  apply kI Z h<;>intro h
  .cases h;exact kR Z
  refine kC Z h (FI Z Y) (λy2 h=>?_);apply kI Z h<;>intro h
  .cases h;exact kR Z
  cases h;exact kR Z
 obtain⟨t4,m⟩:∃x:Bool,x=(if (c.Kind==3) then c.Kind==3 else c.Kind==4):=⟨_,rfl⟩;refine WY Z Fb (A4 Z) 0 ⟨[(17,pB t4),(7,pN c.Kind),(3,.reg 4000 0),(1,.reg 2000 0)],[(4000,.cells [pN 0,pU c.Is.Plus,pU c.Is.Minus,pB c.Not,pN c.Min,pN c.Max,.p (.sl false 7 c.L.n (EX c))]),(2000,.cells ((E1 c).map .p))]⟩ (λM6 q=>?_) ?_
 .refine C9 Z Fb (b:=c.Kind==3) (λc60=>?_) (λc60=>?_)
  .exact q _ (Jt [2000,4000]) _ Fb (hle:=klR [(0,.eq (.bb (c.Kind==3)) (.bb t4))] (al1 (by simp only[m,c60,Leaf.ok,pm,Es,Eu]) al0))
  exact q _ (Jt [2000,4000]) _ Fb (hle:=klR [(0,.eq (.bb (c.Kind==4)) (.bb t4))] (al1 (by simp only[m,c60,Leaf.ok,pm,Es,Eu]) al0))
 subst m;refine LO Z Fb (A4 Z) h 0 (λz3=>⟨[(3,.reg 4000 0),(1,.reg 2000 0)],[(4000,.cells [pN 0,pU c.Is.Plus,pU c.Is.Minus,pB c.Not,pN z3.1,pN z3.2,.p C8]),(2000,.cells ((E1 c).map .p))]⟩) (λM7 k3 r h=>?_) (λz3 h=>?_)
 .apply kI Z h<;>intro h
  .exact r _ (Jt [2000,4000]) _ (c.Min,c.Max) Fb h
  apply kI Z h<;>intro h
  .refine O4 Z Fb 25 ⟨[(24,.p (vSl 7 E1 c.L)),(3,.reg 4000 0),(1,.reg 2000 0)],[(4000,.cells [pN 0,pU c.Is.Plus,pU c.Is.Minus,pB c.Not,pN c.Min,pN c.Max,.p (.sl false 7 c.L.n (EX c))]),(2000,.cells ((E1 c).map .p))]⟩ (ids:=(Jt [2000,4000])) ?_ (hle:=klR [(0,.fn c.L.n c.L.n (EX c) (λi=>E1 (c.L.g i)))] (al1 ⟨rfl,CM c⟩ al0));refine kB Z (A4 Z) Fb Fb 26 (.o (.o (.o (.a ((c.L.n:Int) != 1)) (.a (decide (c.Min<0)))) (.a (decide (32<c.Min)))) (.n (.a (c.Max != (-1))) (.o (.a (decide (c.Max<c.Min))) (.a (decide (32<c.Max)))))) ?_;apply kI Z h<;>intro h
   .cases h;exact kR Z
   exact r _ (Jt [2000,4000]) _ (0,0) Fb h
  cases h;exact kR Z
 refine kB Z (A4 Z) (by decide +kernel:PO Tryz.prog B6=true) Fb 19 (.o (.o (.o (.o (.a (((c.Is.Plus==0)&&(c.Is.Minus==0)) != true)) (.a c.Not)) (.a (z3.1 != 0))) (.a (z3.2 != 0))) (.a (decide (0<0)))) ?_;apply kI Z h<;>intro h
 .cases h;exact kR Z
 refine kC Z h (FI Z Y) (λy3 h=>?_);apply kI Z h<;>intro h
 .cases h;exact kR Z
 cases h;exact kR Z
end Go.AM
namespace Go.AM
open Go.Proofs.Tryz
variable {N:Nat}
open IntKind (wrap)
open Go.Proofs
set_option maxRecDepth 10000
set_option maxHeartbeats 2000000
variable {S:V2}(Z:G8 S Tryz.prog) (Y:Kd S)
include Z Y
def CQ (rec:Pat->Int->Option Int)(N:Nat)(b:Pat)(a:Int):Option Int:= Bj N (λc (x1:Int) (x2:Int)=>if ((decide (x2<(b.L.n:Int)))&&(decide (x1<=40))) then if ((0:Int)<=x2/\x2<(b.L.n:Int))then (rec (b.L.g x2.toNat) x1).bind λy3=>c y3 (wrap .i64 (x2+1)) else none else some x1) (wrap .i64 (a+1)) 0
def Cl:Nat->Pat->Int->Option Int
 |0=>λ_ _=>none
 |N+1=>CQ (Cl N) N
theorem VB {rec:Pat->Int->Option Int}(d:∀{b:Pat}{c:Int}{y:Int},rec b c=some y->FunO S GV [.p (.agg (E1 b)),pN c] [] (pN y) ([]) []){b:Pat}{c:Int}{y:Int}(h:CQ rec N b c=some y) :FunO S GV [.p (.agg (E1 b)),pN c] [] (pN y) ([]) []:=by
 unfold CQ at h;refine A2 Z func164 ?_;refine H3 Z Fb h (λx1 x2=>⟨[(6,pN x2),(5,pN x1),(2,.reg 3000 0)],[(3000,.cells ((E1 b).map .p))]⟩) (ids:=[(3000,3000)]) (λ_ _ _ _ _ f x1 x2 j h=>?_);refine O4 Z Fb 12 ⟨[(11,.p (vSl 7 E1 b.L)),(9,pN x2),(6,pN x2),(5,pN x1),(2,.reg 3000 0)],[(3000,.cells ((E1 b).map .p))]⟩ (ids:=[(3000,3000)]) ?_ (hle:=klR [(0,.fn b.L.n b.L.n (EX b) (λi=>E1 (b.L.g i)))] (al1 ⟨rfl,CM b⟩ al0));refine kB Z (A4 Z) Fb Fb 3 (.n (.a (decide (x2<(b.L.n:Int)))) (.a (decide (x1<=40)))) ?_;apply kI Z h<;>intro h
 .refine O4 Z Fb 23 ⟨[(22,pN x2),(21,.p (vSl 7 E1 b.L)),(6,pN x2),(5,pN x1),(2,.reg 3000 0)],[(3000,.cells ((E1 b).map .p))]⟩ (ids:=[(3000,3000)]) ?_ (hle:=klR [(1,.fn b.L.n b.L.n (EX b) (λi=>E1 (b.L.g i)))] (al1 ⟨rfl,CM b⟩ al0));obtain⟨c6,h⟩:=D1 h;obtain⟨y3,e3,h⟩:=A7 h;refine B3 Z [] (And.intro c6 Ig) (d e3) ?_;exact j _ [(3000,3000)] _ y3 (wrap .i64 (x2+1)) Fb h
 cases h;exact kR Z
theorem XB {b:Pat}{a:Int}{y:Int}(h:Cl N b a=some y) :FunO S GV [.p (.agg (E1 b)),pN a] [] (pN y) ([]) []:=by
 induction N generalizing b a y with
 |zero=>cases (show (none:Option Int)=some y from h)
 |succ N ih=>exact VB Z Y (λe=>ih e) h
def Ds (N:Nat)(a:Pat):Option Int:= (Cl N a 0).bind λy1=>some y1
theorem LX {a:Pat}{y:Int}(h:Ds N a=some y) :FunO S RB [.p (.agg (E1 a))] [] (pN y) ([]) []:=by unfold Ds at h;refine A2 Z func128 ?_;refine kC Z h (XB Z Y) (λy1 h=>?_);cases h;exact kR Z
def Au (rec:Pat->Option Int)(N:Nat)(a:Pat):Option Int:= Bj N (λb (x1:Int) (x2:Int)=>if (decide (x2<(a.L.n:Int))) then if ((0:Int)<=x2/\x2<(a.L.n:Int))then (rec (a.L.g x2.toNat)).bind λy3=>b (wrap .i64 (x1+y3)) (wrap .i64 (x2+1)) else none else some x1) ((if (a.Kind==5) then 1 else 0):Int) 0
def AT:Nat->Pat->Option Int
 |0=>λ_=>none
 |N+1=>Au (AT N) N
theorem Qx {rec:Pat->Option Int}(d:∀{a:Pat}{y:Int},rec a=some y->FunO S EB [.p (.agg (E1 a))] [] (pN y) ([]) []){a:Pat}{y:Int}(h:Au rec N a=some y) :FunO S EB [.p (.agg (E1 a))] [] (pN y) ([]) []:=by
 unfold Au at h;refine A2 Z func163 ?_;obtain⟨t1,c⟩:∃x:Int,x=((if (a.Kind==5) then 1 else 0):Int):=⟨_,rfl⟩;refine WY Z Fb (A4 Z) 0 ⟨[(3,pN t1),(1,.reg 2000 0)],[(2000,.cells ((E1 a).map .p))]⟩ (λM1 f=>?_) ?_
 .refine C9 Z Fb (b:=a.Kind==5) (λc2=>?_) (λc2=>?_)
  .exact f _ [(2000,2000)] _ Fb (hle:=klR [(0,.eq (pI .i64 1) (pI .i64 t1))] (al1 (by simp only[c,c2,Leaf.ok,pm,Es,Eu]) al0))
  exact f _ [(2000,2000)] _ Fb (hle:=klR [(0,.eq (pI .i64 0) (pI .i64 t1))] (al1 (by simp only[c,c2,Leaf.ok,pm,Es,Eu]) al0))
 subst c;refine H3 Z Fb h (λx1 x2=>⟨[(4,pN x2),(3,pN x1),(1,.reg 2000 0)],[(2000,.cells ((E1 a).map .p))]⟩) (ids:=[(2000,2000)]) (λ_ _ _ _ _ j x1 x2 l h=>?_);refine O4 Z Fb 11 ⟨[(10,.p (vSl 7 E1 a.L)),(8,pN x2),(4,pN x2),(3,pN x1),(1,.reg 2000 0)],[(2000,.cells ((E1 a).map .p))]⟩ (ids:=[(2000,2000)]) ?_ (hle:=klR [(0,.fn a.L.n a.L.n (EX a) (λi=>E1 (a.L.g i)))] (al1 ⟨rfl,CM a⟩ al0));apply kI Z h<;>intro h
 .refine O4 Z Fb 19 ⟨[(18,pN x2),(17,.p (vSl 7 E1 a.L)),(15,pN x1),(4,pN x2),(1,.reg 2000 0)],[(2000,.cells ((E1 a).map .p))]⟩ (ids:=[(2000,2000)]) ?_ (hle:=klR [(1,.fn a.L.n a.L.n (EX a) (λi=>E1 (a.L.g i)))] (al1 ⟨rfl,CM a⟩ al0));obtain⟨c8,h⟩:=D1 h;obtain⟨y3,e3,h⟩:=A7 h;refine B3 Z [] (And.intro c8 Ig) (d e3) ?_;exact l _ [(2000,2000)] _ (wrap .i64 (x1+y3)) (wrap .i64 (x2+1)) Fb h
 cases h;exact kR Z
theorem Tk {a:Pat}{y:Int}(h:AT N a=some y) :FunO S EB [.p (.agg (E1 a))] [] (pN y) ([]) []:=by
 induction N generalizing a y with
 |zero=>cases (show (none:Option Int)=some y from h)
 |succ N ih=>exact Qx Z Y (λe=>ih e) h
def EH (N:Nat)(a:Sl Law):Option Int:= Bj N (λc (x3:Int) (x4:Int)=>if ((decide (x4<(a.n:Int)))&&(decide (x4<=300))) then if (((0:Int)<=x4/\x4<(a.n:Int))/\((0:Int)<=x4/\x4<(a.n:Int)))then Bj N (λb (x7:Int) (x8:Int)=>if (decide (x8<((Sl.of [(a.g x4.toNat).Left,(a.g x4.toNat).Right]:Sl Pat).n:Int))) then if ((0:Int)<=x8/\x8<((Sl.of [(a.g x4.toNat).Left,(a.g x4.toNat).Right]:Sl Pat).n:Int))then (Ds N ((Sl.of [(a.g x4.toNat).Left,(a.g x4.toNat).Right]:Sl Pat).g x8.toNat)).bind λd=>if (decide (d<=40)) then (AT N ((Sl.of [(a.g x4.toNat).Left,(a.g x4.toNat).Right]:Sl Pat).g x8.toNat)).bind λf=>b (wrap .i64 (x7+f)) (wrap .i64 (x8+1)) else b x7 (wrap .i64 (x8+1)) else none else c (if x3<x7 then x7 else x3) (wrap .i64 (x4+1))) 0 0 else none else some x3) 0 0
theorem Ab8 {b:Sl Law}{y:Int}(h:EH N b=some y) :FunO S RA [.p (vSl 18 B4 b)] [] (pN y) ([]) []:=by
 unfold EH at h;refine A2 Z func127 ?_;refine H3 Z Fb h (λx3 x4=>⟨[(4,pN x4),(3,pN x3),(0,.p (vSl 18 B4 b))],[]⟩) (ids:=[]) (λ_ _ _ _ _ d x3 x4 f h=>?_);refine kB Z (A4 Z) Fb Fb 3 (.n (.a (decide (x4<(b.n:Int)))) (.a (decide (x4<=300)))) ?_;apply kI Z h<;>intro h
 .refine E4 Z Fb [2,4,7,9] ?_;obtain⟨c24,h⟩:=D1 h;refine N0 (And.intro (And.intro (And.intro c24.1 (by decide:(7:Nat)<=17)) c24.2) (by decide:(7:Nat)<=10)) (x:=.sl true 7 2 (H9 [pI .i64 0,pI .u32 0,pI .u32 0,.v (.bool false),pI .i64 0,pI .i64 0,C8] [(0,E1 (b.g x4.toNat).Left),(1,E1 (b.g x4.toNat).Right)])) ?_;refine D6 Fb ?_;refine H3 Z Fb h (λx7 x8=>⟨[(30,pN x8),(29,pN ((Sl.of [(b.g x4.toNat).Left,(b.g x4.toNat).Right]:Sl Pat).n:Int)),(28,.p (vSl 7 E1 (Sl.of [(b.g x4.toNat).Left,(b.g x4.toNat).Right]:Sl Pat))),(5,pN x7),(4,pN x4),(3,pN x3),(0,.p (vSl 18 B4 b))],[]⟩) (ids:=[]) (λ_ _ _ _ _ i x7 x8 c h=>?_) (hle:=kl1 2 (Aa5 E1 ([(b.g x4.toNat).Left,(b.g x4.toNat).Right]:List Pat) [pI .i64 0,pI .u32 0,pI .u32 0,.v (.bool false),pI .i64 0,pI .i64 0,C8]));apply kI Z h<;>intro h
  .obtain⟨c32,h⟩:=D1 h;refine F9 Z (And.intro c32 Ig) 34 8000 (E1 ((Sl.of [(b.g x4.toNat).Left,(b.g x4.toNat).Right]:Sl Pat).g x8.toNat)) ?_;obtain⟨l,e17,h⟩:=A7 h;refine B3 Z [] Ig (LX Z Y e17) ?_;apply kI Z h<;>intro h
   .obtain⟨j,e18,h⟩:=A7 h;refine B3 Z [] Ig (Tk Z Y e18) ?_;exact c _ [] _ (wrap .i64 (x7+j)) (wrap .i64 (x8+1)) Fb h
   exact c _ [] _ x7 (wrap .i64 (x8+1)) Fb h
  exact f _ [] _ (if x3<x7 then x7 else x3) (wrap .i64 (x4+1)) Fb h
 cases h;exact kR Z
end Go.AM
namespace Go.AM
open Go.Proofs.Tryz
variable {N:Nat}
open IntKind (wrap)
open Go.Proofs
set_option maxRecDepth 10000
set_option maxHeartbeats 2000000
variable {S:V2}(Z:G8 S Tryz.prog) (Y:Kd S)
include Z Y
def T0 (N:Nat)(q0:Int):Option (List (Int)):= Y3 N (λa (x1:Int)=>if (x1 != 0) then (I5 N x1).bind λy3=>if (0:Int)<=y3 then Ag y3 (a (O9 .andNot .u64 x1 (shI .shl .u64 1 y3))) else none else some []) q0
theorem El {q0:Int}{L:List (Int)}(h:T0 N q0=some L) :ES S Ek [] [.reg 0 0] [.cells [.p (pI .u64 q0)]] (L.map (λ(x:Int)=>[pI .i64 x])):=by
 unfold T0 at h;refine EA Z func224 ?_;refine Dn Z Fb h (λx1 L1=>⟨[(1,.reg 0 0),(0,.yf 1)],[(1,.yld (L1.map (λ(x:Int)=>[pI .i64 x])) true),(0,.cells [.p (pI .u64 x1)])]⟩) (ids:=(Jt [0,1])) (λ_ _ _ _ _ d x1 L1 f h=>?_);apply kI Z h<;>intro h
 .refine kC Z h (Ff Z Y) (λy3 h=>?_);refine EV Z Fb ?_;obtain⟨c10,h⟩:=D1 h;refine D6 c10 ?_;obtain⟨L4,rfl,c⟩:=LP h;replace h:=c;refine Dm Z Fb (ys:=(λ(x:Int)=>[pI .i64 x]) y3) (rest:=L4.map (λ(x:Int)=>[pI .i64 x])) ?_ ?_
  .refine C9 Z Fb (b:=false) (λc11=>?_) (λc11=>?_)
   .exact Bool.noConfusion ((rfl:false=false).symm.trans c11)
   exact f _ (Jt [0,1]) _ (O9 .andNot .u64 x1 (shI .shl .u64 1 y3)) L4 Fb h
  refine C9 Z Fb (b:=true) (λc12=>?_) (λc12=>?_)
  .exact kO Z Fb (a:=.tup []) (objs:=[(.cells [.p (pI .u64 (O9 .andNot .u64 x1 (shI .shl .u64 1 y3)))]),.yld [] false]) [0,1] ⟨false,rfl,rfl,_,rfl⟩
  exact Bool.noConfusion (Ik.symm.trans c12)
 obtain rfl:=A9 h;exact kO Z Fb (a:=.tup []) (objs:=[(.cells [.p (pI .u64 x1)]),.yld [] true]) [0,1] ⟨true,rfl,rfl,_,rfl⟩
def BP (N:Nat)(a:Int):Option (Int):= some a
theorem FV {a:Int}{y:Int}(h:BP N a=some y) :FunO S JA [.p (pI .u64 a)] [] (.clo Ek [] [.reg 0 0]) ([.cells [.p (pI .u64 y)]]) []:=by unfold BP at h;refine A2 Z func221 ?_;obtain rfl:=A9 h;exact kO Z Fb [2000]
def F4 (N:Nat)(p_x:Nat->Int)(c:Nat->Int):Option (Nat->Int):= Bj N (λa (x3:Nat->Int) (x4:Int)=>if (decide (x4<33)) then if (((0:Int)<=x4/\x4<33)/\(0+x4.toNat*1)<33)then (BP N (p_x (0+x4.toNat*1))).bind λy3=>(T0 N y3).bind λL3=>S9 L3 (λb (x7:Int) (z3:Nat->Int)=>if (((((((0:Int)<=x4/\x4<33)/\(0+x4.toNat*1)<33)/\((0:Int)<=x7/\x7<33))/\(0+x7.toNat*1)<33)/\((0:Int)<=x4/\x4<33))/\(0+x4.toNat*1)<33)then b (Oy z3 (0+x4.toNat*1) (O9 .or .u64 (z3 (0+x4.toNat*1)) (c (0+x7.toNat*1)))) else none) (λ(z3:Nat->Int)=>a z3 (wrap .i64 (x4+1))) x3 else none else some x3) (λ_=>0) 0
theorem V4 {p_x:Nat->Int}{b:Nat->Int}{y:Nat->Int}(h:F4 N p_x b=some y) :FunO S Br [.reg 0 0,.reg 1 0] [.arr 33 (λi=>pI .u64 (p_x i)),.arr 33 (λi=>pI .u64 (b i))] (.p (.agg (cA 33 (pI .u64) y))) ([.arr 33 (λi=>pI .u64 (p_x i)),.arr 33 (λi=>pI .u64 (b i))]) [true,true]:=by
 unfold F4 at h;refine A2 Z func250 ?_;refine H3 Z Fb h (λx3 x4=>⟨[(10,pN x4),(9,.reg 0 0),(5,.reg 6000 0),(4,.reg 5000 0),(3,.reg 4000 0)],[(6000,.arr 33 (λi=>pI .u64 (x3 i))),(5000,.arr 33 (λi=>pI .u64 ((λ_=>0) i))),(4000,.cells [.reg 1 0]),(1,.arr 33 (λi=>pI .u64 (b i))),(0,.arr 33 (λi=>pI .u64 (p_x i)))]⟩) (ids:=(Jt [0,1,4000,5000,6000])) (λ_ _ _ _ _ d x3 x4 f h=>?_) (hle:=kl2 1 2 (Az6 33 (pI .u64 0)) (Az6 33 (pI .u64 0)));apply kI Z h<;>intro h
 .refine G4 Z Fb [(2,.l [0]),(3,.l [0]),(4,.a [7000]),(5,.a [7000])] ?_;obtain⟨c12,h⟩:=D1 h;refine D6 c12 ?_;refine F9 Z Fb 16 7000 [pI .i64 x4] ?_;refine kC Z h (FV Z Y) (λy3 h=>?_);obtain⟨L3,e6,h⟩:=A7 h;refine GR Z Fb [18000] [10,9,6,5,4,3] 905 (λz3=>⟨[(10,pN x4),(9,.reg 0 0),(6,.p (.ptr [pI .i64 x4])),(5,.reg 6000 0),(4,.reg 5000 0),(3,.reg 4000 0)],[(6000,.arr 33 (λi=>pI .u64 (z3 i))),(5000,.arr 33 (λi=>pI .u64 ((λ_=>0) i))),(4000,.cells [.reg 1 0]),(1,.arr 33 (λi=>pI .u64 (b i))),(0,.arr 33 (λi=>pI .u64 (p_x i)))]⟩) (idl:=(Jt [0,1,4000,5000,6000])) h (El Z Y e6) (λ_=>by kernel_rfl) (λ_=>by kernel_rfl) (λ_=>by kernel_rfl) (λ_=>by kernel_rfl) (λx7 _ g z3 j h=>?_) (λz3 h=>?_)
  .refine JV Z Fb ?_;refine G4 Z Fb [(0,.n),(1,.l [6000]),(2,.l [6000]),(3,.l [4000]),(6,.l [1]),(7,.l [1]),(9,.l [6000]),(10,.a [6000])] ?_;obtain⟨c15,h⟩:=D1 h;refine D6 c15 ?_;exact j _ (Jt [0,1,905,4000,5000,6000]) _ (Oy z3 (0+x4.toNat*1) (O9 .or .u64 (z3 (0+x4.toNat*1)) (b (0+x7.toNat*1)))) Fb h (hle:=klR [(0,.fn 33 33 (λi=>[(λi=>if i=(0+x4.toNat*1)then (pI .u64 (O9 .or .u64 (z3 (0+x4.toNat*1)) (b (0+x7.toNat*1))))else (λi=>pI .u64 (z3 i)) i) i]) (λi=>[pI .u64 (Oy z3 (0+x4.toNat*1) (O9 .or .u64 (z3 (0+x4.toNat*1)) (b (0+x7.toNat*1))) i)]))] (al1 ⟨rfl,AN7 (c:=pI .u64) (v:=z3) (x:=O9 .or .u64 (z3 (0+x4.toNat*1)) (b (0+x7.toNat*1))) (λ_ _=>rfl) rfl⟩ al0))
  exact f _ (Jt [0,1,4000,5000,6000]) _ z3 (wrap .i64 (x4+1)) Fb h
 obtain rfl:=A9 h;exact J5 Z (And.intro rfl (G9 _ _):(0:Nat)=0/\(Ed 33 (λi=>pI .u64 (x3 i))).length=33) ⟨[(4,.reg 5000 0)],[(5000,.arr 33 (λi=>pI .u64 (x3 i))),(1,.arr 33 (λi=>pI .u64 (b i))),(0,.arr 33 (λi=>pI .u64 (p_x i)))]⟩ [0,1] (ids:=(Jt [0,1,5000])) ⟨rfl,rfl,rfl⟩ (hle:=kl1 0 (Mq 33 (λi=>pI .u64 (x3 i))))
def O7 (N:Nat)(p_x:Nat->Int):Option (Nat->Int):= Bj N (λa (x3:Nat->Int) (x4:Int)=>if (decide (x4<33)) then if (((0:Int)<=x4/\x4<33)/\(0+x4.toNat*1)<33)then (BP N (p_x (0+x4.toNat*1))).bind λy3=>(T0 N y3).bind λL3=>S9 L3 (λb (x7:Int) (z3:Nat->Int)=>if (((((((0:Int)<=x4/\x4<33)/\(0+x4.toNat*1)<33)/\((0:Int)<=x7/\x7<33))/\(0+x7.toNat*1)<33)/\((0:Int)<=x4/\x4<33))/\(0+x4.toNat*1)<33)then b (Oy z3 (0+x4.toNat*1) (O9 .or .u64 (z3 (0+x4.toNat*1)) (p_x (0+x7.toNat*1)))) else none) (λ(z3:Nat->Int)=>a z3 (wrap .i64 (x4+1))) x3 else none else some x3) (λ_=>0) 0
theorem DS {p_x:Nat->Int}{y:Nat->Int}(h:O7 N p_x=some y) :FunO S Br [.reg 0 0,.reg 0 0] [.arr 33 (λi=>pI .u64 (p_x i))] (.p (.agg (cA 33 (pI .u64) y))) ([.arr 33 (λi=>pI .u64 (p_x i))]) [true]:=by
 unfold O7 at h;refine A2 Z func250 ?_;refine H3 Z Fb h (λx3 x4=>⟨[(10,pN x4),(9,.reg 0 0),(5,.reg 6000 0),(4,.reg 5000 0),(3,.reg 4000 0)],[(6000,.arr 33 (λi=>pI .u64 (x3 i))),(5000,.arr 33 (λi=>pI .u64 ((λ_=>0) i))),(4000,.cells [.reg 0 0]),(0,.arr 33 (λi=>pI .u64 (p_x i)))]⟩) (ids:=(Jt [0,4000,5000,6000])) (λ_ _ _ _ _ b x3 x4 d h=>?_) (hle:=kl2 1 2 (Az6 33 (pI .u64 0)) (Az6 33 (pI .u64 0)));apply kI Z h<;>intro h
 .refine G4 Z Fb [(2,.l [0]),(3,.l [0]),(4,.a [7000]),(5,.a [7000])] ?_;obtain⟨c12,h⟩:=D1 h;refine D6 c12 ?_;refine F9 Z Fb 16 7000 [pI .i64 x4] ?_;refine kC Z h (FV Z Y) (λy3 h=>?_);obtain⟨L3,e6,h⟩:=A7 h;refine GR Z Fb [18000] [10,9,6,5,4,3] 905 (λz3=>⟨[(10,pN x4),(9,.reg 0 0),(6,.p (.ptr [pI .i64 x4])),(5,.reg 6000 0),(4,.reg 5000 0),(3,.reg 4000 0)],[(6000,.arr 33 (λi=>pI .u64 (z3 i))),(5000,.arr 33 (λi=>pI .u64 ((λ_=>0) i))),(4000,.cells [.reg 0 0]),(0,.arr 33 (λi=>pI .u64 (p_x i)))]⟩) (idl:=(Jt [0,4000,5000,6000])) h (El Z Y e6) (λ_=>by kernel_rfl) (λ_=>by kernel_rfl) (λ_=>by kernel_rfl) (λ_=>by kernel_rfl) (λx7 _ f z3 g h=>?_) (λz3 h=>?_)
  .refine JV Z Fb ?_;refine G4 Z Fb [(0,.n),(1,.l [6000]),(2,.l [6000]),(3,.l [4000]),(6,.l [0]),(7,.l [0]),(9,.l [6000]),(10,.a [6000])] ?_;obtain⟨c15,h⟩:=D1 h;refine D6 c15 ?_;exact g _ (Jt [0,905,4000,5000,6000]) _ (Oy z3 (0+x4.toNat*1) (O9 .or .u64 (z3 (0+x4.toNat*1)) (p_x (0+x7.toNat*1)))) Fb h (hle:=klR [(0,.fn 33 33 (λi=>[(λi=>if i=(0+x4.toNat*1)then (pI .u64 (O9 .or .u64 (z3 (0+x4.toNat*1)) (p_x (0+x7.toNat*1))))else (λi=>pI .u64 (z3 i)) i) i]) (λi=>[pI .u64 (Oy z3 (0+x4.toNat*1) (O9 .or .u64 (z3 (0+x4.toNat*1)) (p_x (0+x7.toNat*1))) i)]))] (al1 ⟨rfl,AN7 (c:=pI .u64) (v:=z3) (x:=O9 .or .u64 (z3 (0+x4.toNat*1)) (p_x (0+x7.toNat*1))) (λ_ _=>rfl) rfl⟩ al0))
  exact d _ (Jt [0,4000,5000,6000]) _ z3 (wrap .i64 (x4+1)) Fb h
 obtain rfl:=A9 h;exact J5 Z (And.intro rfl (G9 _ _):(0:Nat)=0/\(Ed 33 (λi=>pI .u64 (x3 i))).length=33) ⟨[(4,.reg 5000 0)],[(5000,.arr 33 (λi=>pI .u64 (x3 i))),(0,.arr 33 (λi=>pI .u64 (p_x i)))]⟩ [0] (ids:=(Jt [0,5000])) ⟨rfl,rfl,rfl⟩ (hle:=kl1 0 (Mq 33 (λi=>pI .u64 (x3 i))))
def G6 (N:Nat)(p_x:Nat->Int)(b:Int)(c:Int):Option (Nat->Int):= (S4 N c).bind λy1=>Aj0 N (λa (x1:Int) (x2:Nat->Int) (x3:Nat->Int)=>if (decide (0<x1)) then if ((O9 .and .i64 x1 1)==1) then (F4 N x3 x2).bind λy8=>(O7 N x2).bind λy9=>a (shI .shr .i64 x1 1) y9 y8 else (O7 N x2).bind λd=>a (shI .shr .i64 x1 1) d x3 else some x3) b p_x y1
theorem Av {p_x:Nat->Int}{b:Int}{c:Int}{y:Nat->Int}(h:G6 N p_x b c=some y) :FunO S DP [.p (.agg (cA 33 (pI .u64) p_x)),pN b,pN c] [] (.p (.agg (cA 33 (pI .u64) y))) ([]) []:=by
 unfold G6 at h;refine A2 Z func243 ?_;refine kC Z h (Fh Z Y) (λy1 h=>?_);refine KJ Z (And.intro rfl (G9 _ _):(0:Nat)=0/\(Ed 33 (λi=>pI .u64 (y1 i))).length=33) h (λx1 x2 x3=>⟨[(7,.reg 8000 0),(6,.reg 7000 0),(3,.reg 4000 0),(1,pN x1)],[(8000,.arr 33 (λi=>pI .u64 (x3 i))),(7000,.arr 33 (λi=>pI .u64 ((λ_=>0) i))),(4000,.arr 33 (λi=>pI .u64 (x2 i)))]⟩) (ids:=(Jt [4000,7000,8000])) (λ_ _ _ _ _ f x1 x2 x3 d h=>?_) (hle:=klR [(1,.fn 33 33 (λi=>[(λi=>(cA 33 (pI .u64) y1).getD i default) i]) (λi=>[pI .u64 (y1 i)])),(2,.fn 33 33 (λi=>[(λi=>(List.replicate 33 (pI .u64 0)).getD i default) i]) (λi=>[pI .u64 ((λ_=>0) i)])),(3,.fn 33 33 (λi=>[(λi=>(cA 33 (pI .u64) p_x).getD i default) i]) (λi=>[pI .u64 (p_x i)]))] (al1 ⟨rfl,DC 33 (λi=>pI .u64 (y1 i))⟩ (al1 ⟨rfl,Ox (z:=pI .u64 0) rfl⟩ (al1 ⟨rfl,DC 33 (λi=>pI .u64 (p_x i))⟩ al0))));apply kI Z h<;>intro h
 .apply kI Z h<;>intro h
  .obtain⟨y8,e8,h⟩:=A7 h;refine B3 Z [8000,4000] Fb (V4 Z Y e8) ?_;obtain⟨y9,e9,h⟩:=A7 h;refine B3 Z [4000] (And.intro rfl (G9 _ _):(0:Nat)=0/\(Ed 33 (λi=>pI .u64 (y8 i))).length=33) (DS Z Y e9) ?_;exact d _ (Jt [4000,7000,8000]) _ (shI .shr .i64 x1 1) y9 y8 (And.intro (And.intro rfl (G9 _ _):(0:Nat)=0/\(Ed 33 (λi=>pI .u64 (y9 i))).length=33) (by decide:(0:Int)<=1)) h (hle:=kl2 1 3 (Mq 33 (λi=>pI .u64 (y8 i))) (Mq 33 (λi=>pI .u64 (y9 i))))
  obtain⟨a,e10,h⟩:=A7 h;refine B3 Z [4000] Fb (DS Z Y e10) ?_;exact d _ (Jt [4000,7000,8000]) _ (shI .shr .i64 x1 1) a x3 (And.intro (And.intro rfl (G9 _ _):(0:Nat)=0/\(Ed 33 (λi=>pI .u64 (a i))).length=33) (by decide:(0:Int)<=1)) h (hle:=kl1 3 (Mq 33 (λi=>pI .u64 (a i))))
 obtain rfl:=A9 h;exact J5 Z (And.intro rfl (G9 _ _):(0:Nat)=0/\(Ed 33 (λi=>pI .u64 (x3 i))).length=33) ⟨[(6,.reg 7000 0)],[(7000,.arr 33 (λi=>pI .u64 (x3 i)))]⟩ [] (ids:=[(7000,7000)]) ⟨rfl,rfl,rfl⟩ (hle:=kl1 0 (Mq 33 (λi=>pI .u64 (x3 i))))
end Go.AM
namespace Go.AM
open Go.Proofs.Tryz
variable {N:Nat}
open IntKind (wrap)
open Go.Proofs
set_option maxRecDepth 10000
set_option maxHeartbeats 2000000
variable {S:V2}(Z:G8 S Tryz.prog) (Y:Kd S)
include Z Y
def Aw (N:Nat)(p_x:Al3)(b:Sl Iu):Option (Nat->Int):= Bj N (λa (x1:Nat->Int) (x2:Int)=>if (decide (x2<(b.n:Int))) then if ((0:Int)<=x2/\x2<(b.n:Int))then if ((((O9 .or .u32 (O9 .andNot .u32 p_x.is.Plus (b.g x2.toNat).Plus) (O9 .andNot .u32 p_x.is.Minus (b.g x2.toNat).Minus))==0)==p_x.not) != true) then if (((0:Int)<=(wrap .i64 (x2+1))/\((0:Int)<=x2/\x2<33))/\(0+x2.toNat*1)<33)then a (Oy x1 (0+x2.toNat*1) (shI .shl .u64 1 (wrap .i64 (x2+1)))) (wrap .i64 (x2+1)) else none else a x1 (wrap .i64 (x2+1)) else none else some x1) (λ_=>0) 0
theorem Pp {p_x:Al3}{a:Sl Iu}{y:Nat->Int}(h:Aw N p_x a=some y) :FunO S Fe [.p (.agg (YZ p_x)),.p (vSl 2 A0 a)] [] (.p (.agg (cA 33 (pI .u64) y))) ([]) []:=by
 unfold Aw at h;refine A2 Z func244 ?_;refine H3 Z Fb h (λx1 x2=>⟨[(9,pN x2),(8,pN (a.n:Int)),(7,.p (vSl 2 A0 a)),(4,.reg 5000 0),(2,.reg 3000 0)],[(5000,.arr 33 (λi=>pI .u64 (x1 i))),(3000,.cells ((YZ p_x).map .p))]⟩) (ids:=(Jt [3000,5000])) (λ_ _ _ _ _ f x1 x2 d h=>?_) (hle:=kl1 3 (Az6 33 (pI .u64 0)));apply kI Z h<;>intro h
 .obtain⟨c8,h⟩:=D1 h;refine C9 Z (And.intro c8 Gq) (b:=(((O9 .or .u32 (O9 .andNot .u32 p_x.is.Plus (a.g x2.toNat).Plus) (O9 .andNot .u32 p_x.is.Minus (a.g x2.toNat).Minus))==0)==p_x.not) != true) (λc9=>?_) (λc9=>?_)
  .replace h:=itT c9 h;obtain⟨c10,h⟩:=D1 h;exact d _ (Jt [3000,5000]) _ (Oy x1 (0+x2.toNat*1) (shI .shl .u64 1 (wrap .i64 (x2+1)))) (wrap .i64 (x2+1)) c10 h (hle:=klR [(3,.fn 33 33 (λi=>[(λi=>if i=(0+x2.toNat*1)then (pI .u64 (shI .shl .u64 1 (wrap .i64 (x2+1))))else (λi=>pI .u64 (x1 i)) i) i]) (λi=>[pI .u64 (Oy x1 (0+x2.toNat*1) (shI .shl .u64 1 (wrap .i64 (x2+1))) i)]))] (al1 ⟨rfl,AN7 (c:=pI .u64) (v:=x1) (x:=shI .shl .u64 1 (wrap .i64 (x2+1))) (λ_ _=>rfl) rfl⟩ al0))
  replace h:=itF c9 h;exact d _ (Jt [3000,5000]) _ x1 (wrap .i64 (x2+1)) Fb h
 obtain rfl:=A9 h;exact J5 Z (And.intro rfl (G9 _ _):(0:Nat)=0/\(Ed 33 (λi=>pI .u64 (x1 i))).length=33) ⟨[(4,.reg 5000 0)],[(5000,.arr 33 (λi=>pI .u64 (x1 i)))]⟩ [] (ids:=[(5000,5000)]) ⟨rfl,rfl,rfl⟩ (hle:=kl1 0 (Mq 33 (λi=>pI .u64 (x1 i))))
def BQ (N:Nat)(p_x:AO8)(a:Sl Iu):Option (Nat->Int):= if p_x.end_ then if (((0:Int)<=(a.n:Int)/\((0:Int)<=(a.n:Int)/\(a.n:Int)<33))/\(0+(a.n:Int).toNat*1)<33)then some (Oy (λ_=>0) (0+(a.n:Int).toNat*1) (shI .shl .u64 1 (a.n:Int))) else none else if (((0:Int)<=0/\(0:Int)<33)/\(0+0*1)<33)then some (Oy (λ_=>0) (0+0*1) (shI .shl .u64 1 0)) else none
theorem Qy {p_x:AO8}{a:Sl Iu}{y:Nat->Int}(h:BQ N p_x a=some y) :FunO S FU [.p (.agg (AO9 p_x)),.p (vSl 2 A0 a)] [] (.p (.agg (cA 33 (pI .u64) y))) ([]) []:=by
 unfold BQ at h;refine A2 Z func245 ?_;apply kI Z h<;>intro h
 .obtain⟨c2,h⟩:=D1 h;obtain rfl:=A9 h;exact J5 Z (And.intro (And.intro (And.intro c2.1.1 c2.1.2) c2.2) (And.intro rfl (G9 _ _):(0:Nat)=0/\(Ed 33 (λi=>if i=(0+(a.n:Int).toNat*1)then (pI .u64 (shI .shl .u64 1 (a.n:Int)))else (λi=>(List.replicate 33 (pI .u64 0)).getD i default) i)).length=33)) ⟨[(4,.reg 5000 0)],[(5000,.arr 33 (λi=>pI .u64 (Oy (λ_=>0) (0+(a.n:Int).toNat*1) (shI .shl .u64 1 (a.n:Int)) i)))]⟩ [] (ids:=[(5000,5000)]) ⟨rfl,rfl,rfl⟩ (hle:=klR [(0,.fn 33 33 (λi=>[(λi=>(Ed 33 (λi=>if i=(0+(a.n:Int).toNat*1)then (pI .u64 (shI .shl .u64 1 (a.n:Int)))else (λi=>(List.replicate 33 (pI .u64 0)).getD i default) i)).getD i default) i]) (λi=>[pI .u64 (Oy (λ_=>0) (0+(a.n:Int).toNat*1) (shI .shl .u64 1 (a.n:Int)) i)]))] (al1 ⟨rfl,λi b=>(DC 33 (λi=>if i=(0+(a.n:Int).toNat*1)then (pI .u64 (shI .shl .u64 1 (a.n:Int)))else (λi=>(List.replicate 33 (pI .u64 0)).getD i default) i) i b).trans (AN7 (c:=pI .u64) (v:=λ_=>0) (x:=shI .shl .u64 1 (a.n:Int)) (Ox (z:=pI .u64 0) rfl) rfl i b)⟩ al0))
 obtain⟨c3,h⟩:=D1 h;obtain rfl:=A9 h;exact J5 Z (And.intro (And.intro (And.intro (by decide:(0:Int)<=0) c3.1) c3.2) (And.intro rfl (G9 _ _):(0:Nat)=0/\(Ed 33 (λi=>if i=(0+0*1)then (pI .u64 (shI .shl .u64 1 0))else (λi=>(List.replicate 33 (pI .u64 0)).getD i default) i)).length=33)) ⟨[(4,.reg 5000 0)],[(5000,.arr 33 (λi=>pI .u64 (Oy (λ_=>0) (0+0*1) (shI .shl .u64 1 0) i)))]⟩ [] (ids:=[(5000,5000)]) ⟨rfl,rfl,rfl⟩ (hle:=klR [(0,.fn 33 33 (λi=>[(λi=>(Ed 33 (λi=>if i=(0+0*1)then (pI .u64 (shI .shl .u64 1 0))else (λi=>(List.replicate 33 (pI .u64 0)).getD i default) i)).getD i default) i]) (λi=>[pI .u64 (Oy (λ_=>0) (0+0*1) (shI .shl .u64 1 0) i)]))] (al1 ⟨rfl,λi b=>(DC 33 (λi=>if i=(0+0*1)then (pI .u64 (shI .shl .u64 1 0))else (λi=>(List.replicate 33 (pI .u64 0)).getD i default) i) i b).trans (AN7 (c:=pI .u64) (v:=λ_=>0) (x:=shI .shl .u64 1 0) (Ox (z:=pI .u64 0) rfl) rfl i b)⟩ al0))
def CR (rec:Part->(Sl Iu)->Option (Nat->Int))(N:Nat)(p_x:Pseq)(b:Sl Iu):Option (Nat->Int):= (S4 N (b.n:Int)).bind λy1=>Bj N (λa (x1:Nat->Int) (x2:Int)=>if (decide (x2<(p_x.l.n:Int))) then if ((0:Int)<=x2/\x2<(p_x.l.n:Int))then (rec (p_x.l.g x2.toNat) b).bind λy6=>(F4 N x1 y6).bind λy7=>a y7 (wrap .i64 (x2+1)) else none else some x1) y1 0
theorem Tl {rec:Part->(Sl Iu)->Option ((Nat->Int))}(b:∀{x:Part}{b0:(Sl Iu)}{y:(Nat->Int)},rec x b0=some y->AX4 S Tryz.prog (HZ x) "ablaut/pats.in" [(.p (vSl 2 A0 b0))] (.p (.agg (cA 33 (pI .u64) y)))){p_x:Pseq}{a:(Sl Iu)}{y:(Nat->Int)}(h:CR rec N p_x a=some y) :FunO S GZ [(.p (.agg (AZ6 p_x))),(.p (vSl 2 A0 a))] [] (.p (.agg (cA 33 (pI .u64) y))) ([]) []:=by
 unfold CR at h;refine A2 Z func251 ?_;refine kC Z h (Fh Z Y) (λy1 h=>?_);refine H3 Z (And.intro rfl (G9 _ _):(0:Nat)=0/\(Ed 33 (λi=>pI .u64 (y1 i))).length=33) h (λx1 x2=>⟨[(15,(pN x2)),(14,(pN (p_x.l.n:Int))),(13,(.p (vSl 1 Ji p_x.l))),(5,(.reg 6000 0)),(4,(.reg 5000 0)),(1,(.p (vSl 2 A0 a)))],[(6000,(.arr 33 (λi=>pI .u64 (x1 i)))),(5000,(.arr 33 (λi=>pI .u64 ((λ_=>0) i))))]⟩) (ids:=(Jt [5000,6000])) (λ_ _ _ _ _ c x1 x2 d h=>?_) (hle:=(kl2 4 5 (Mq 33 (λi=>pI .u64 (y1 i))) (Az6 33 (pI .u64 0))));apply kI Z h<;>intro h
 .obtain⟨c6,h⟩:=D1 h;obtain⟨y6,e6,h⟩:=A7 h;refine NB Z c6 (b e6) ?_;refine KI Z (And.intro rfl (G9 _ _):(0:Nat)=0/\(Ed 33 (λi=>pI .u64 (y6 i))).length=33) ⟨[(15,(pN x2)),(14,(pN (p_x.l.n:Int))),(13,(.p (vSl 1 Ji p_x.l))),(8,(.reg 9000 0)),(5,(.reg 6000 0)),(4,(.reg 5000 0)),(1,(.p (vSl 2 A0 a)))],[(9000,(.arr 33 (λi=>pI .u64 (y6 i)))),(6000,(.arr 33 (λi=>pI .u64 (x1 i)))),(5000,(.arr 33 (λi=>pI .u64 ((λ_=>0) i))))]⟩ (ids:=(Jt [5000,6000,9000])) ?_ (hle:=(kl1 4 (Mq 33 (λi=>pI .u64 (y6 i)))));obtain⟨y7,e7,h⟩:=A7 h;refine B3 Z [6000,9000] Fb (V4 Z Y e7) ?_;exact d _ (Jt [5000,6000]) _ y7 (wrap .i64 (x2+1)) (And.intro rfl (G9 _ _):(0:Nat)=0/\(Ed 33 (λi=>pI .u64 (y7 i))).length=33) h (hle:=kl1 4 (Mq 33 (λi=>pI .u64 (y7 i))))
 obtain rfl:=A9 h;exact J5 Z (And.intro rfl (G9 _ _):(0:Nat)=0/\(Ed 33 (λi=>pI .u64 (x1 i))).length=33) ⟨[(4,(.reg 5000 0))],[(5000,(.arr 33 (λi=>pI .u64 (x1 i))))]⟩ [] (ids:=[(5000,5000)]) ⟨rfl,rfl,rfl⟩ (hle:=(kl1 0 (Mq 33 (λi=>pI .u64 (x1 i)))))
def CS (rec:Part->(Sl Iu)->Option (Nat->Int))(N:Nat)(p_x:Palt)(b:Sl Iu):Option (Nat->Int):= Bj N (λa (x1:Nat->Int) (x2:Int)=>if (decide (x2<(p_x.l.n:Int))) then if ((0:Int)<=x2/\x2<(p_x.l.n:Int))then (rec (p_x.l.g x2.toNat) b).bind λy5=>(P1 N x1 y5).bind λy6=>a y6 (wrap .i64 (x2+1)) else none else some x1) (λ_=>0) 0
theorem Tm {rec:Part->(Sl Iu)->Option ((Nat->Int))}(b:∀{x:Part}{b0:(Sl Iu)}{y:(Nat->Int)},rec x b0=some y->AX4 S Tryz.prog (HZ x) "ablaut/pats.in" [(.p (vSl 2 A0 b0))] (.p (.agg (cA 33 (pI .u64) y)))){p_x:Palt}{a:(Sl Iu)}{y:(Nat->Int)}(h:CS rec N p_x a=some y) :FunO S GX [(.p (.agg (AZ3 p_x))),(.p (vSl 2 A0 a))] [] (.p (.agg (cA 33 (pI .u64) y))) ([]) []:=by
 unfold CS at h;refine A2 Z func246 ?_;refine H3 Z Fb h (λx1 x2=>⟨[(11,(pN x2)),(10,(pN (p_x.l.n:Int))),(9,(.p (vSl 1 Ji p_x.l))),(4,(.reg 5000 0)),(1,(.p (vSl 2 A0 a)))],[(5000,(.arr 33 (λi=>pI .u64 (x1 i))))]⟩) (ids:=[(5000,5000)]) (λ_ _ _ _ _ c x1 x2 d h=>?_) (hle:=(kl1 4 (Az6 33 (pI .u64 0))));apply kI Z h<;>intro h
 .obtain⟨c6,h⟩:=D1 h;obtain⟨y5,e5,h⟩:=A7 h;refine NB Z c6 (b e5) ?_;refine KI Z (And.intro rfl (G9 _ _):(0:Nat)=0/\(Ed 33 (λi=>pI .u64 (y5 i))).length=33) ⟨[(11,(pN x2)),(10,(pN (p_x.l.n:Int))),(9,(.p (vSl 1 Ji p_x.l))),(7,(.reg 8000 0)),(4,(.reg 5000 0)),(1,(.p (vSl 2 A0 a)))],[(8000,(.arr 33 (λi=>pI .u64 (y5 i)))),(5000,(.arr 33 (λi=>pI .u64 (x1 i))))]⟩ (ids:=(Jt [5000,8000])) ?_ (hle:=(kl1 4 (Mq 33 (λi=>pI .u64 (y5 i)))));obtain⟨y6,e6,h⟩:=A7 h;refine B3 Z [5000,8000] Fb (FJ Z Y e6) ?_;exact d _ [(5000,5000)] _ y6 (wrap .i64 (x2+1)) Fb h
 obtain rfl:=A9 h;exact J5 Z (And.intro rfl (G9 _ _):(0:Nat)=0/\(Ed 33 (λi=>pI .u64 (x1 i))).length=33) ⟨[(4,(.reg 5000 0))],[(5000,(.arr 33 (λi=>pI .u64 (x1 i))))]⟩ [] (ids:=[(5000,5000)]) ⟨rfl,rfl,rfl⟩ (hle:=(kl1 0 (Mq 33 (λi=>pI .u64 (x1 i)))))
def CT (rec:Part->(Sl Iu)->Option (Nat->Int))(N:Nat)(p_x:AZ4)(a:Sl Iu):Option (Nat->Int):= (rec p_x.of a).bind λy1=>(G6 N y1 p_x.min (a.n:Int)).bind λy2=>(S4 N (a.n:Int)).bind λy3=>(P1 N y1 y3).bind λy4=>if (decide (p_x.max<0)) then (G6 N y4 (a.n:Int) (a.n:Int)).bind λy5=>(F4 N y2 y5).bind λy6=>some y6 else (G6 N y4 (wrap .i64 (p_x.max-p_x.min)) (a.n:Int)).bind λy7=>(F4 N y2 y7).bind λy8=>some y8
theorem Tn {rec:Part->(Sl Iu)->Option ((Nat->Int))}(b:∀{x:Part}{b0:(Sl Iu)}{y:(Nat->Int)},rec x b0=some y->AX4 S Tryz.prog (HZ x) "ablaut/pats.in" [(.p (vSl 2 A0 b0))] (.p (.agg (cA 33 (pI .u64) y)))){p_x:AZ4}{a:(Sl Iu)}{y:(Nat->Int)}(h:CT rec N p_x a=some y) :FunO S GY [(.p (.agg (AZ5 p_x))),(.p (vSl 2 A0 a))] [] (.p (.agg (cA 33 (pI .u64) y))) ([]) []:=by
 unfold CT at h;refine A2 Z func248 ?_;obtain⟨y1,e1,h⟩:=A7 h;refine NB Z Fb (b e1) ?_;refine KI Z (And.intro rfl (G9 _ _):(0:Nat)=0/\(Ed 33 (λi=>pI .u64 (y1 i))).length=33) ⟨[(18,(pN (a.n:Int))),(16,(pN p_x.min)),(14,(.p (.agg (cA 33 (pI .u64) y1)))),(5,(.reg 6000 0)),(4,(.reg 5000 0)),(2,(.reg 3000 0)),(1,(.p (vSl 2 A0 a)))],[(6000,(.arr 33 (λi=>pI .u64 (y1 i)))),(5000,(.arr 33 (λi=>pI .u64 ((λ_=>0) i)))),(3000,(.cells [(.p (HZ p_x.of)),(pN p_x.min),(pN p_x.max)]))]⟩ (ids:=(Jt [3000,5000,6000])) ?_ (hle:=(klR [(2,.eq (.agg (Ed 33 (λi=>(cA 33 (pI .u64) y1).getD i default))) (.agg (cA 33 (pI .u64) y1))),(4,.fn 33 33 (λi=>[(λi=>(cA 33 (pI .u64) y1).getD i default) i]) (λi=>[pI .u64 (y1 i)])),(5,.fn 33 33 (λi=>[(λi=>(List.replicate 33 (pI .u64 0)).getD i default) i]) (λi=>[pI .u64 ((λ_=>0) i)]))] (al1 (congrArg PV.agg (Aa1 (DC 33 (λi=>pI .u64 (y1 i))))) (al1 ⟨rfl,(DC 33 (λi=>pI .u64 (y1 i)))⟩ (al1 ⟨rfl,(Ox (z:=pI .u64 0) rfl)⟩ al0)))));refine kC Z h (Av Z Y) (λy2 h=>?_);obtain⟨y3,e3,h⟩:=A7 h;refine B3 Z [] (And.intro (And.intro rfl (G9 _ _):(0:Nat)=0/\(Ed 33 (λi=>pI .u64 (y2 i))).length=33) (And.intro rfl (G9 _ _):(0:Nat)=0/\(Ed 33 (λi=>pI .u64 (y1 i))).length=33)) (Fh Z Y e3) ?_;refine KI Z (And.intro rfl (G9 _ _):(0:Nat)=0/\(Ed 33 (λi=>pI .u64 (y3 i))).length=33) ⟨[(8,(.reg 9000 0)),(7,(.reg 8000 0)),(6,(.reg 7000 0)),(4,(.reg 5000 0)),(2,(.reg 3000 0)),(1,(.p (vSl 2 A0 a)))],[(9000,(.arr 33 (λi=>pI .u64 (y3 i)))),(8000,(.arr 33 (λi=>pI .u64 (y1 i)))),(7000,(.arr 33 (λi=>pI .u64 (y2 i)))),(5000,(.arr 33 (λi=>pI .u64 ((λ_=>0) i)))),(3000,(.cells [(.p (HZ p_x.of)),(pN p_x.min),(pN p_x.max)]))]⟩ (ids:=(Jt [3000,5000,7000,8000,9000])) ?_ (hle:=(klR [(1,.fn 33 33 (λi=>[(λi=>(cA 33 (pI .u64) y3).getD i default) i]) (λi=>[pI .u64 (y3 i)])),(2,.fn 33 33 (λi=>[(λi=>(cA 33 (pI .u64) y1).getD i default) i]) (λi=>[pI .u64 (y1 i)])),(3,.fn 33 33 (λi=>[(λi=>(cA 33 (pI .u64) y2).getD i default) i]) (λi=>[pI .u64 (y2 i)]))] (al1 ⟨rfl,(DC 33 (λi=>pI .u64 (y3 i)))⟩ (al1 ⟨rfl,(DC 33 (λi=>pI .u64 (y1 i)))⟩ (al1 ⟨rfl,(DC 33 (λi=>pI .u64 (y2 i)))⟩ al0)))));obtain⟨y4,e4,h⟩:=A7 h;refine B3 Z [8000,9000] Fb (FJ Z Y e4) ?_;apply kI Z h<;>intro h
 .refine kC Z h (Av Z Y) (λy5 h=>?_);refine KI Z (And.intro rfl (G9 _ _):(0:Nat)=0/\(Ed 33 (λi=>pI .u64 (y5 i))).length=33) ⟨[(7,(.reg 8000 0)),(6,(.reg 7000 0)),(4,(.reg 5000 0))],[(8000,(.arr 33 (λi=>pI .u64 (y5 i)))),(7000,(.arr 33 (λi=>pI .u64 (y2 i)))),(5000,(.arr 33 (λi=>pI .u64 ((λ_=>0) i))))]⟩ (ids:=(Jt [5000,7000,8000])) ?_ (hle:=(kl1 0 (Mq 33 (λi=>pI .u64 (y5 i)))));obtain⟨y6,e6,h⟩:=A7 h;refine B3 Z [7000,8000] Fb (V4 Z Y e6) ?_;obtain rfl:=A9 h;exact J5 Z (And.intro rfl (G9 _ _):(0:Nat)=0/\(Ed 33 (λi=>pI .u64 (y6 i))).length=33) ⟨[(4,(.reg 5000 0))],[(5000,(.arr 33 (λi=>pI .u64 (y6 i))))]⟩ [] (ids:=[(5000,5000)]) ⟨rfl,rfl,rfl⟩ (hle:=(kl1 0 (Mq 33 (λi=>pI .u64 (y6 i)))))
 refine kC Z h (Av Z Y) (λy7 h=>?_);refine KI Z (And.intro rfl (G9 _ _):(0:Nat)=0/\(Ed 33 (λi=>pI .u64 (y7 i))).length=33) ⟨[(7,(.reg 8000 0)),(6,(.reg 7000 0)),(4,(.reg 5000 0))],[(8000,(.arr 33 (λi=>pI .u64 (y7 i)))),(7000,(.arr 33 (λi=>pI .u64 (y2 i)))),(5000,(.arr 33 (λi=>pI .u64 ((λ_=>0) i))))]⟩ (ids:=(Jt [5000,7000,8000])) ?_ (hle:=(kl1 0 (Mq 33 (λi=>pI .u64 (y7 i)))));obtain⟨y8,e8,h⟩:=A7 h;refine B3 Z [7000,8000] Fb (V4 Z Y e8) ?_;obtain rfl:=A9 h;exact J5 Z (And.intro rfl (G9 _ _):(0:Nat)=0/\(Ed 33 (λi=>pI .u64 (y8 i))).length=33) ⟨[(4,(.reg 5000 0))],[(5000,(.arr 33 (λi=>pI .u64 (y8 i))))]⟩ [] (ids:=[(5000,5000)]) ⟨rfl,rfl,rfl⟩ (hle:=(kl1 0 (Mq 33 (λi=>pI .u64 (y8 i)))))
def Y9 (rec:Pat->Option Part)(N:Nat)(a:Pat):Option Part:= Bj N (λb (x1:Sl Part) (x2:Int)=>if (decide (x2<(a.L.n:Int))) then if ((0:Int)<=x2/\x2<(a.L.n:Int))then (rec (a.L.g x2.toNat)).bind λy3=>if (Kb 16 (x1.n+(Sl.of [y3]:Sl Part).n))then b (x1.push y3) (wrap .i64 (x2+1)) else none else none else if (a.Kind==1) then some (Part.sound a.Is a.Not) else if (a.Kind==2) then some (Part.edge false) else if (a.Kind==6) then some (Part.edge true) else if (a.Kind==4) then some (Part.alt x1.n x1.g) else if (a.Kind==5) then if (((0:Int)<=0/\0<(x1.n:Int))/\0<x1.n)then some (Part.rep (x1.g 0) a.Min a.Max) else none else some (Part.seq x1.n x1.g)) (Sl.nil:Sl Part) 0
def BR:Nat->Pat->Option Part
 |0=>λ_=>none
 |N+1=>Y9 (BR N) N
theorem Pq {rec:Pat->Option Part}(b:∀{a:Pat}{y:Part},rec a=some y->FunO S DF [.p (.agg (E1 a))] [] (.p (HZ y)) ([]) []){a:Pat}{y:Part}(h:Y9 rec N a=some y) :FunO S DF [.p (.agg (E1 a))] [] (.p (HZ y)) ([]) []:=by
 unfold Y9 at h;refine A2 Z func223 ?_;refine F9 Z Fb 2 2000 (E1 a) ?_;refine O4 Z Fb 8 ⟨[(7,.p (vSl 7 E1 a.L)),(3,.p C8),(1,.p (.ptr (E1 a)))],[]⟩ (ids:=[]) ?_ (hle:=klR [(0,.fn a.L.n a.L.n (EX a) (λi=>E1 (a.L.g i)))] (al1 ⟨rfl,CM a⟩ al0));refine H3 Z Fb h (λx1 x2=>⟨[(9,pN x2),(8,pN (a.L.n:Int)),(7,.p (vSl 7 E1 a.L)),(3,.vec 4500),(1,.p (.ptr (E1 a)))],[(4500,oV Xx 1 Ji x1 false)]⟩) (ids:=[]) (λ_ _ _ _ _ c x1 x2 d h=>?_);apply kI Z h<;>intro h
 .obtain⟨c6,h⟩:=D1 h;refine F9 Z (And.intro c6 Ig) 13 6000 (E1 (a.L.g x2.toNat)) ?_;obtain⟨y3,e3,h⟩:=A7 h;refine B3 Z [] Ig (b e3) ?_;obtain⟨c7,h⟩:=D1 h;exact d _ [(4500,18000)] _ (x1.push y3) (wrap .i64 (x2+1)) (And.intro Ik c7) h (hle:=kl1 4 (W6 Ji x1 y3 [.v .nilIface]))
 apply kI Z h<;>intro h
 .obtain rfl:=A9 h;exact Aj7 Z (by decide:(2:Nat)<=6) [] ⟨rfl,rfl,rfl⟩
 apply kI Z h<;>intro h
 .cases h;exact kR Z
 apply kI Z h<;>intro h
 .cases h;exact kR Z
 apply kI Z h<;>intro h
 .refine O4 Z Fb 40 ⟨[(39,.p (vSl 1 Ji x1))],[]⟩ (ids:=[]) ?_;cases h;exact kR Z
 apply kI Z h<;>intro h
 .refine E4 Z Fb [4,6] ?_;obtain⟨c13,h⟩:=D1 h;refine D6 c13 ?_;cases h;exact kR Z
 refine O4 Z Fb 54 ⟨[(53,.p (vSl 1 Ji x1))],[]⟩ (ids:=[]) ?_;cases h;exact kR Z
theorem Qz {a:Pat}{y:Part}(h:BR N a=some y) :FunO S DF [.p (.agg (E1 a))] [] (.p (HZ y)) ([]) []:=by
 induction N generalizing a y with
 |zero=>cases (show (none:Option Part)=some y from h)
 |succ N ih=>exact Pq Z Y (λe=>ih e) h
end Go.AM
namespace Go.AM
open Go.Proofs
variable {S:V2}(Z:G8 S Tryz.prog) (Y:Kd S)
include Z Y
def BS:Nat->Part->Sl Iu->Option (Nat->Int)
 |0=>λ_ _=>none
 |N+1=>λp w=>match p with
  |.nil=>none
  |.sound x no=>Aw N ⟨x,no⟩ w
  |.edge e=>BQ N ⟨e⟩ w
  |.seq n g=>CR (BS N) N ⟨⟨n,g⟩⟩ w
  |.alt n g=>CS (BS N) N ⟨⟨n,g⟩⟩ w
  |.rep o mn mx=>CT (BS N) N ⟨o,mn,mx⟩ w
theorem Am2 {N:Nat}{x:Part}{w:Sl Iu}{y:Nat->Int}(h:BS N x w=some y):AX4 S Tryz.prog (HZ x) "ablaut/pats.in" [(.p (vSl 2 A0 w))] (.p (.agg (cA 33 (pI .u64) y))):=by
 induction N generalizing x w y with
 |zero=>cases h
 |succ N ih=>
  cases x with
  |nil=>cases h
  |sound s no=>exact⟨_,_,Fe,rfl,by kernel_rfl,Pp Z Y (p_x:=⟨s,no⟩) h⟩
  |edge e=>exact⟨_,_,FU,rfl,by kernel_rfl,Qy Z Y (N:=N) (p_x:=⟨e⟩) h⟩
  |seq n g=>exact⟨_,_,GZ,rfl,by kernel_rfl,Tl Z Y (λe=>ih e) (p_x:=⟨⟨n,g⟩⟩) h⟩
  |alt n g=>exact⟨_,_,GX,rfl,by kernel_rfl,Tm Z Y (λe=>ih e) (p_x:=⟨⟨n,g⟩⟩) h⟩
  |rep o mn mx=>exact⟨_,_,GY,rfl,by kernel_rfl,Tn Z Y (λe=>ih e) (p_x:=⟨o,mn,mx⟩) h⟩
end Go.AM
namespace Go.AM
open Go.Proofs.Tryz
variable {N:Nat}
open IntKind (wrap)
open Go.Proofs
set_option maxRecDepth 10000
set_option maxHeartbeats 2000000
variable {S:V2}(Z:G8 S Tryz.prog) (Y:Kd S)
include Z Y
def W2 (N:Nat)(a:Iu):Option Bool:= (Q6 N a).bind λy1=>some (!y1)
theorem Ps {a:Iu}{y:Bool}(h:W2 N a=some y) :FunO S Ir [.p (.agg (A0 a))] [] (pB y) ([]) []:=by unfold W2 at h;refine A2 Z func222 ?_;refine kC Z h (FI Z Y) (λy1 h=>?_);cases h;exact kR Z
def F3 (N:Nat)(a:Sl Iu)(c:Iu->Option Bool):Option Int:= Y3 N (λb (x1:Int)=>if (decide (x1<(a.n:Int))) then if ((0:Int)<=x1/\x1<(a.n:Int))then (c (a.g x1.toNat)).bind λy3=>if y3 then some x1 else b (wrap .i64 (x1+1)) else none else some (-1)) 0
theorem Ad {a:Sl Iu}{c:Iu->Option Bool}{kp_f:Nat}(d:∀{a0:Iu}{b:Bool},c a0=some b->FunO S kp_f [.p (.agg (A0 a0))] [] (pB b) [] []){y:Int}(h:F3 N a c=some y) :FunO S N9 [.p (vSl 2 A0 a),.clo kp_f [] []] [] (pN y) ([]) []:=by
 unfold F3 at h;refine A2 Z func132 ?_;refine R8 Z Fb h (λx1=>⟨[(8,pN x1),(7,pN (a.n:Int)),(1,.clo kp_f [] []),(0,.p (vSl 2 A0 a))],[]⟩) (ids:=[]) (λ_ _ _ _ _ f x1 g h=>?_);apply kI Z h<;>intro h
 .obtain⟨c8,h⟩:=D1 h;obtain⟨y3,e3,h⟩:=A7 h;refine B3 Z [] (And.intro c8 Gq) (d e3) ?_;apply kI Z h<;>intro h
  .cases h;exact kR Z
  exact g _ [] _ (wrap .i64 (x1+1)) Fb h
 cases h;exact kR Z
def B7 (N:Nat)(a:Sl Iu)(b:Iu->Option Bool):Option Bool:= (F3 N a b).bind λy1=>some (decide (0<=y1))
theorem M8 {a:Sl Iu}{c:Iu->Option Bool}{kp_f:Nat}(d:∀{a0:Iu}{b:Bool},c a0=some b->FunO S kp_f [.p (.agg (A0 a0))] [] (pB b) [] []){y:Bool}(h:B7 N a c=some y) :FunO S M4 [.p (vSl 2 A0 a),.clo kp_f [] []] [] (pB y) ([]) []:=by unfold B7 at h;refine A2 Z func88 ?_;refine kC Z h (Ad Z Y (λe=>d e)) (λy1 h=>?_);cases h;exact kR Z
def E2 (N:Nat)(q0:Sl Pat):Option (List (Int×Pat)):= Y3 N (λa (x1:Int)=>if (decide (0<=x1)) then if ((0:Int)<=x1/\x1<(q0.n:Int))then Ag (x1,q0.g x1.toNat) (a (wrap .i64 (x1-1))) else none else some []) (wrap .i64 ((q0.n:Int)-1))
theorem AU {q0:Sl Pat}{L:List (Int×Pat)}(h:E2 N q0=some L) :ES S J0 [] [.reg 0 0] [.cells [.p (vSl 7 E1 q0)]] (L.map (λ(x:Int×Pat)=>[pI .i64 x.1,(λx=>.agg (E1 x)) x.2])):=by
 unfold E2 at h;refine EA Z func173 ?_;refine Dn Z Fb h (λx1 L1=>⟨[(3,pN x1),(1,.reg 0 0),(0,.yf 1)],[(1,.yld (L1.map (λ(x:Int×Pat)=>[pI .i64 x.1,(λx=>.agg (E1 x)) x.2])) true),(0,.cells [.p (vSl 7 E1 q0)])]⟩) (ids:=(Jt [0,1])) (λ_ _ _ _ _ d x1 L1 f h=>?_);apply kI Z h<;>intro h
 .obtain⟨c10,h⟩:=D1 h;obtain⟨L4,rfl,c⟩:=LP h;replace h:=c;refine Dm Z (And.intro c10 Ig) (ys:=(λ(x:Int×Pat)=>[pI .i64 x.1,(λx=>.agg (E1 x)) x.2]) (x1,q0.g x1.toNat)) (rest:=L4.map (λ(x:Int×Pat)=>[pI .i64 x.1,(λx=>.agg (E1 x)) x.2])) ?_ ?_
  .refine C9 Z Fb (b:=false) (λc11=>?_) (λc11=>?_)
   .exact Bool.noConfusion ((rfl:false=false).symm.trans c11)
   exact f _ (Jt [0,1]) _ (wrap .i64 (x1-1)) L4 Fb h
  refine C9 Z Fb (b:=true) (λc12=>?_) (λc12=>?_)
  .exact kO Z Fb (a:=.tup []) (objs:=[(.cells [.p (vSl 7 E1 q0)]),.yld [] false]) [0,1] ⟨false,rfl,rfl,_,rfl⟩
  exact Bool.noConfusion (Ik.symm.trans c12)
 obtain rfl:=A9 h;exact kO Z Fb (a:=.tup []) (objs:=[(.cells [.p (vSl 7 E1 q0)]),.yld [] true]) [0,1] ⟨true,rfl,rfl,_,rfl⟩
def J8 (N:Nat)(a:Sl Pat):Option (Sl Pat):= some a
theorem BU {a:Sl Pat}{y:Sl Pat}(h:J8 N a=some y) :FunO S Q5 [.p (vSl 7 E1 a)] [] (.clo J0 [] [.reg 0 0]) ([.cells [.p (vSl 7 E1 y)]]) []:=by unfold J8 at h;refine A2 Z func131 ?_;obtain rfl:=A9 h;exact kO Z Fb [2000]
def Ax (N:Nat)(c:Pat):Option Int:= Bj N (λa (x3:Sl Pat) (x4:Int)=>if (decide (0<(x3.n:Int))) then if (x4==40) then some 12 else if (((0:Int)<=(wrap .i64 ((x3.n:Int)-1))/\(wrap .i64 ((x3.n:Int)-1))<(x3.n:Int))/\(wrap .i64 ((x3.n:Int)-1)).toNat<x3.n)then if ((0:Int)<=(wrap .i64 ((x3.n:Int)-1))/\(wrap .i64 ((x3.n:Int)-1))<=(x3.n:Int))then (BO N (x3.g (wrap .i64 ((x3.n:Int)-1)).toNat)).bind λy5=>if (y5 != 0) then some y5 else if ((0:Int)<=(if 41<((x3.g (wrap .i64 ((x3.n:Int)-1)).toNat).L.n:Int)then 41 else ((x3.g (wrap .i64 ((x3.n:Int)-1)).toNat).L.n:Int))/\(if 41<((x3.g (wrap .i64 ((x3.n:Int)-1)).toNat).L.n:Int)then 41 else ((x3.g (wrap .i64 ((x3.n:Int)-1)).toNat).L.n:Int))<=((x3.g (wrap .i64 ((x3.n:Int)-1)).toNat).L.n:Int))then (J8 N ((x3.g (wrap .i64 ((x3.n:Int)-1)).toNat).L.take (if 41<((x3.g (wrap .i64 ((x3.n:Int)-1)).toNat).L.n:Int)then 41 else ((x3.g (wrap .i64 ((x3.n:Int)-1)).toNat).L.n:Int)).toNat)).bind λy6=>(E2 N y6).bind λL3=>S9 L3 (λb (x7:Int×Pat) (z3:Sl Pat)=>if (((Kb 64 (z3.n+(Sl.of [Pat.nil]:Sl Pat).n))/\((0:Int)<=(z3.n:Int)/\(z3.n:Int)<((z3.push Pat.nil).n:Int)))/\(z3.n:Int).toNat<(z3.push Pat.nil).n)then b ((z3.push Pat.nil).upd (z3.n:Int).toNat x7.2) else none) (λ(z3:Sl Pat)=>a z3 (wrap .i64 (x4+1))) (x3.take (wrap .i64 ((x3.n:Int)-1)).toNat) else none else none else none else some 0) (Sl.of [c]:Sl Pat) 0
theorem Iw {b:Pat}{y:Int}(h:Ax N b=some y) :FunO S ME [.p (.agg (E1 b))] [] (pN y) ([]) []:=by
 unfold Ax at h;refine A2 Z func87 ?_;refine F9 Z Fb 2 2000 (E1 b) ?_;refine H3 Z (And.intro Ig Ik) h (λx3 x4=>⟨[(4,pN x4),(3,.reg 4000 0)],[(4501,oV Gv 7 E1 x3 false),(4000,.cells [.vec 4501])]⟩) (ids:=[(4000,4000),(4501,12000)]) (λ_ _ _ _ _ d x3 x4 j h=>?_) (hle:=kl1 1 (Aa5 E1 ([b]:List Pat) [pI .i64 0,pI .u32 0,pI .u32 0,.v (.bool false),pI .i64 0,pI .i64 0,C8]));apply kI Z h<;>intro h
 .apply kI Z h<;>intro h
  .cases h;exact kR Z
  obtain⟨c21,h⟩:=D1 h;refine F9 Z (And.intro (And.intro c21.1 Ig) c21.2) 25 6000 (E1 (x3.g (wrap .i64 ((x3.n:Int)-1)).toNat)) ?_;obtain⟨c22,h⟩:=D1 h;refine AX5 Z c22 30 4501 (wrap .i64 ((x3.n:Int)-1)).toNat 4508 (e:=Gv) (k:=7) (N:=x3.n) (f:=λi=>E1 (x3.g i)) (by have q:=c22;omega) ?_;obtain⟨y5,e7,h⟩:=A7 h;refine B3 Z [] Ig (Qw Z Y e7) ?_;apply kI Z h<;>intro h
  .cases h;exact kR Z
  refine O4 Z Fb 39 ⟨[(38,.p (vSl 7 E1 (x3.g (wrap .i64 ((x3.n:Int)-1)).toNat).L)),(36,.p (vSl 7 E1 (x3.g (wrap .i64 ((x3.n:Int)-1)).toNat).L)),(4,pN x4),(3,.reg 4000 0)],[(4508,.vec Gv 7 (x3.take (wrap .i64 ((x3.n:Int)-1)).toNat).n (λi=>E1 ((x3.take (wrap .i64 ((x3.n:Int)-1)).toNat).g i)) false),(4000,.cells [.vec 4508])]⟩ (ids:=(Jt [4000,4508])) ?_ (hle:=klR [(0,.fn (x3.g (wrap .i64 ((x3.n:Int)-1)).toNat).L.n (x3.g (wrap .i64 ((x3.n:Int)-1)).toNat).L.n (EX (x3.g (wrap .i64 ((x3.n:Int)-1)).toNat)) (λi=>E1 ((x3.g (wrap .i64 ((x3.n:Int)-1)).toNat).L.g i))),(1,.fn (x3.g (wrap .i64 ((x3.n:Int)-1)).toNat).L.n (x3.g (wrap .i64 ((x3.n:Int)-1)).toNat).L.n (EX (x3.g (wrap .i64 ((x3.n:Int)-1)).toNat)) (λi=>E1 ((x3.g (wrap .i64 ((x3.n:Int)-1)).toNat).L.g i)))] (al1 ⟨rfl,CM (x3.g (wrap .i64 ((x3.n:Int)-1)).toNat)⟩ (al1 ⟨rfl,CM (x3.g (wrap .i64 ((x3.n:Int)-1)).toNat)⟩ al0)));obtain⟨c24,h⟩:=D1 h;obtain⟨y6,e8,h⟩:=A7 h;refine B3 Z [] c24 (BU Z Y e8) ?_;obtain⟨L3,e9,h⟩:=A7 h;refine GR Z Fb [44000] [4,3] 905 (λz3=>⟨[(4,pN x4),(3,.reg 4000 0)],[(4500,oV Gv 7 E1 z3 false),(4000,.cells [.vec 4500])]⟩) (idl:=[(4000,4000),(4500,4508)]) h (AU Z Y e9) (λ_=>by kernel_rfl) (λ_=>by kernel_rfl) (λ_=>by kernel_rfl) (λ_=>by kernel_rfl) (λx7 _ m z3 o h=>?_) (λz3 h=>?_)
  .refine JV Z Fb ?_;refine US Z Fb 10000 (E1 x7.2) ?_;refine G4 Z Fb [(0,.l [4000]),(1,.n),(2,.l [4500]),(4,.a [51000,4500]),(5,.l [51000]),(6,.a [51000]),(7,.a [4000])] ?_;refine N0 Ig (x:=.sl true 7 1 (H9 [pI .i64 0,pI .u32 0,pI .u32 0,.v (.bool false),pI .i64 0,pI .i64 0,C8] [(0,[pI .i64 0,pI .u32 0,pI .u32 0,.v (.bool false),pI .i64 0,pI .i64 0,C8])])) ?_;obtain⟨c27,h⟩:=D1 h;refine D6 (And.intro (And.intro c27.1.1 c27.1.2) (And.intro (rfl:(7:Nat)=7) (And.intro c27.2 Ig))) ?_;exact o _ [(905,905),(4000,4000),(4500,51000)] _ ((z3.push Pat.nil).upd (z3.n:Int).toNat x7.2) Fb h (hle:=klR [(0,.fn (z3.n+1) ((z3.push Pat.nil).upd (z3.n:Int).toNat x7.2).n (λl=>if l=(z3.n:Int).toNat then splice (GB z3.n (λi=>E1 (z3.g i)) (H9 [pI .i64 0,pI .u32 0,pI .u32 0,.v (.bool false),pI .i64 0,pI .i64 0,C8] [(0,[pI .i64 0,pI .u32 0,pI .u32 0,.v (.bool false),pI .i64 0,pI .i64 0,C8])]) l) 0 [pI .i64 x7.2.Kind,pI .u32 x7.2.Is.Plus,pI .u32 x7.2.Is.Minus,.bb x7.2.Not,pI .i64 x7.2.Min,pI .i64 x7.2.Max,.sl false 7 x7.2.L.n (EX x7.2)]else (GB z3.n (λi=>E1 (z3.g i)) (H9 [pI .i64 0,pI .u32 0,pI .u32 0,.v (.bool false),pI .i64 0,pI .i64 0,C8] [(0,[pI .i64 0,pI .u32 0,pI .u32 0,.v (.bool false),pI .i64 0,pI .i64 0,C8])])) l) (λi=>E1 (((z3.push Pat.nil).upd (z3.n:Int).toNat x7.2).g i)))] (al1 ⟨rfl,setH (c:=E1) (v:=z3.push Pat.nil) (x:=x7.2) (app1H (c:=E1) (v:=z3) (z:=Pat.nil) same rfl) (λ_=>by simp[GB,H9,splice])⟩ al0))
  exact j _ [(4000,4000),(4501,4500)] _ z3 (wrap .i64 (x4+1)) Fb h
 cases h;exact kR Z
def AW (N:Nat)(b:Pat)(a:Sl Iu):Option ((Nat->Int)×Int):= (Ax N b).bind λy1=>if (y1 != 0) then some (λ_=>0,y1) else if (decide (32<(a.n:Int))) then some (λ_=>0,11) else (B7 N a (λ(u1:Iu)=>W2 N u1)).bind λy2=>if y2 then some (λ_=>0,14) else (BR N b).bind λy3=>(BS N y3 a).bind λy4=>some (y4,0)
theorem Lk {a:Pat}{b:Sl Iu}{y:(Nat->Int)×Int}(h:AW N a b=some y) :FunO S Lg [.p (.agg (E1 a)),.p (vSl 2 A0 b)] [] (.tup [.p (.agg (cA 33 (pI .u64) y.1)),pN y.2]) ([]) []:=by
 unfold AW at h;refine A2 Z func219 ?_;refine kC Z h (Iw Z Y) (λy1 h=>?_);apply kI Z h<;>intro h
 .obtain rfl:=A9 h;exact J5 Z (And.intro rfl (G9 _ _):(0:Nat)=0/\(Ed 33 (λi=>pI .u64 ((λ_=>0) i))).length=33) ⟨[(5,pN y1),(4,.reg 5000 0)],[(5000,.arr 33 (λi=>pI .u64 ((λ_=>0) i)))]⟩ [] (ids:=[(5000,5000)]) ⟨rfl,rfl,rfl⟩ (hle:=kl1 1 (Mq 33 (λi=>pI .u64 ((λ_=>0) i))))
 apply kI Z h<;>intro h
 .obtain rfl:=A9 h;exact J5 Z (And.intro rfl (G9 _ _):(0:Nat)=0/\(Ed 33 (λi=>pI .u64 ((λ_=>0) i))).length=33) ⟨[(5,pN 11),(4,.reg 5000 0)],[(5000,.arr 33 (λi=>pI .u64 ((λ_=>0) i)))]⟩ [] (ids:=[(5000,5000)]) ⟨rfl,rfl,rfl⟩ (hle:=kl1 1 (Mq 33 (λi=>pI .u64 ((λ_=>0) i))))
 refine kC Z h (M8 Z Y (λe=>Ps Z Y e)) (λy2 h=>?_);apply kI Z h<;>intro h
 .obtain rfl:=A9 h;exact J5 Z (And.intro rfl (G9 _ _):(0:Nat)=0/\(Ed 33 (λi=>pI .u64 ((λ_=>0) i))).length=33) ⟨[(5,pN 14),(4,.reg 5000 0)],[(5000,.arr 33 (λi=>pI .u64 ((λ_=>0) i)))]⟩ [] (ids:=[(5000,5000)]) ⟨rfl,rfl,rfl⟩ (hle:=kl1 1 (Mq 33 (λi=>pI .u64 ((λ_=>0) i))))
 refine kC Z h (Qz Z Y) (λy3 h=>?_);obtain⟨y4,e4,h⟩:=A7 h;refine NB Z Fb (Am2 Z Y e4) ?_;obtain rfl:=A9 h;exact J5 Z (And.intro rfl (G9 _ _):(0:Nat)=0/\(Ed 33 (λi=>pI .u64 (y4 i))).length=33) ⟨[(5,pN 0),(4,.reg 5000 0)],[(5000,.arr 33 (λi=>pI .u64 (y4 i)))]⟩ [] (ids:=[(5000,5000)]) ⟨rfl,rfl,rfl⟩ (hle:=kl1 1 (Mq 33 (λi=>pI .u64 (y4 i))))
def CU (N:Nat)(d:Pat)(c:Sl Iu)(a:Int):Option ((Sl Int)×Int):= (AW N d c).bind λy1=>lt (λ(z1:Int)=>if (z1 != 0) then some (Io,z1) else Bj N (λb (x2:Sl Int) (x3:Int)=>if (decide (x3<(wrap .i64 ((c.n:Int)+1)))) then if ((((0:Int)<=x3/\x3<33)/\(0+x3.toNat*1)<33)/\(0:Int)<=a)then if ((O9 .and .u64 (shI .shr .u64 (y1.1 (0+x3.toNat*1)) a) 1)==1) then if (Kb 8 (x2.n+(Sl.of [x3]:Sl Int).n))then b (x2.push x3) (wrap .i64 (x3+1)) else none else b x2 (wrap .i64 (x3+1)) else none else some (x2,0)) Io 0) λk1=>if (y1.2==0) then (AS N c a).bind λy3=>k1 y3 else k1 y1.2
theorem To {d:Pat}{c:Sl Iu}{a:Int}{y:(Sl Int)×Int}(h:CU N d c a=some y) :FunO S Lf [.p (.agg (E1 d)),.p (vSl 2 A0 c),pN a] [] (.tup [.vec 0,pN y.2]) ([oV E5 1 (cI .i64) y.1 true]) []:=by
 unfold CU at h;refine A2 Z func215 ?_;refine kC Z h (Lk Z Y) (λy1 h=>?_);refine LO Z (And.intro rfl (G9 _ _):(0:Nat)=0/\(Ed 33 (λi=>pI .u64 (y1.1 i))).length=33) (A4 Z) h 0 (λz1=>⟨[(9,pN z1),(8,.reg 9000 0),(2,pN a),(1,.p (vSl 2 A0 c))],[(9000,.arr 33 (λi=>pI .u64 (y1.1 i)))]⟩) (λM1 k1 f h=>?_) (λz1 h=>?_)
 .apply kI Z h<;>intro h
  .refine kC Z h (Lj Z Y) (λy3 h=>?_);exact f _ [(9000,9000)] _ y3 Fb h (hle:=kl1 3 (Mq 33 (λi=>pI .u64 (y1.1 i))))
  exact f _ [(9000,9000)] _ y1.2 Fb h (hle:=kl1 3 (Mq 33 (λi=>pI .u64 (y1.1 i))))
 apply kI Z h<;>intro h
 .obtain rfl:=A9 h;exact kO Z Fb [7700]
 refine H3 Z Fb h (λx2 x3=>⟨[(29,pN x3),(28,pN (wrap .i64 ((c.n:Int)+1))),(10,.vec 11500),(8,.reg 9000 0),(2,pN a)],[(11500,oV E5 1 (cI .i64) x2 false),(9000,.arr 33 (λi=>pI .u64 (y1.1 i)))]⟩) (ids:=[(9000,9000)]) (λ_ _ _ _ _ j x2 x3 g h=>?_);apply kI Z h<;>intro h
 .obtain⟨c12,h⟩:=D1 h;refine C9 Z c12 (b:=(O9 .and .u64 (shI .shr .u64 (y1.1 (0+x3.toNat*1)) a) 1)==1) (λc13=>?_) (λc13=>?_)
  .replace h:=itT c13 h;obtain⟨c14,h⟩:=D1 h;exact g _ [(9000,9000),(11500,43000)] _ (x2.push x3) (wrap .i64 (x3+1)) (And.intro Ik c14) h (hle:=kl1 3 (W6 (cI .i64) x2 x3 [pI .i64 0]))
  replace h:=itF c13 h;exact g _ (Jt [9000,11500]) _ x2 (wrap .i64 (x3+1)) Fb h
 obtain rfl:=A9 h;exact kO Z Fb [11500]
def J4 (N:Nat)(a:List (Int)):Option (Sl Int):= S9 a (λb (x1:Int) (z1:Sl Int)=>if (Kb 8 (z1.n+(Sl.of [x1]:Sl Int).n))then b (z1.push x1) else none) (λ(z1:Sl Int)=>some z1) Io
theorem DT {b:List (Int)}{a:Int}{kp_seq:Nat}(fp_seq:∃fn,Be0[kp_seq]? = some fn/\fn.body.isSome=true/\(fn.name == "runtime.NumGoroutine")=false)(c:ES S kp_seq [] [.reg 0 0] [(.cells [(.p (pI .u64 a))])] (b.map (λ(x:Int)=>[(pI .i64) x]))){y:(Sl Int)}(h:J4 N b=some y) :FunO S P4 [(.p C8),(.clo kp_seq [] [(.reg 0 0)])] [(.cells [(.p (pI .u64 a))])] (.vec 0) ([(oV E5 1 (cI .i64) y true)]) [false]:=by
 unfold J4 at h;refine A2 Z func175 ?_;refine Nz Z Fb fp_seq [0] [2] 901 (λz1=>⟨[(2,(.reg 3000 0))],[(3500,(oV E5 1 (cI .i64) z1 false)),(3000,(.cells [(.vec 3500)]))]⟩) (idl:=[(3000,3000)]) h c (λ_=>by kernel_rfl) (λ_=>by kernel_rfl) (λ_=>by kernel_rfl) (λ_=>by kernel_rfl) (λx1 _ d z1 f h=>?_) (λz1 h=>?_)
 .refine JV Z Fb ?_;obtain⟨c1,h⟩:=D1 h;exact f _ [(901,901),(3000,3000),(3500,12000)] _ (z1.push x1) (And.intro Ik c1) h (hle:=kl1 0 (W6 (cI .i64) z1 x1 [(pI .i64 0)]))
 obtain rfl:=A9 h;exact kO Z Fb [3500]
def O8 (N:Nat)(a:List (Int)):Option (Sl Int):= (J4 N a).bind λy1=>some y1
theorem Ix {b:List (Int)}{a:Int}{kp_seq:Nat}(fp_seq:∃fn,Be0[kp_seq]? = some fn/\fn.body.isSome=true/\(fn.name == "runtime.NumGoroutine")=false)(c:ES S kp_seq [] [.reg 0 0] [(.cells [(.p (pI .u64 a))])] (b.map (λ(x:Int)=>[(pI .i64) x]))){y:(Sl Int)}(h:O8 N b=some y) :FunO S Bm [(.clo kp_seq [] [(.reg 0 0)])] [(.cells [(.p (pI .u64 a))])] (.vec 0) ([(oV E5 1 (cI .i64) y true)]) [false]:=by unfold O8 at h;refine A2 Z func138 ?_;obtain⟨y1,e1,h⟩:=A7 h;refine B3 Z [0] Fb (DT Z Y fp_seq c e1) ?_;obtain rfl:=A9 h;exact kO Z Fb [5000]
def Fi (N:Nat)(c:Pat)(b:Sl Iu)(a:Int):Option ((Sl Int)×Int):= (AW N c b).bind λy1=>lt (λ(z1:Int)=>if (z1 != 0) then some (Io,z1) else if (((0:Int)<=a/\a<33)/\(0+a.toNat*1)<33)then (BP N (y1.1 (0+a.toNat*1))).bind λy4=>(T0 N y4).bind λL1=>(O8 N L1).bind λy5=>some (y5,0) else none) λk1=>if (y1.2==0) then (AS N b a).bind λy3=>k1 y3 else k1 y1.2
theorem XC {b:Pat}{c:Sl Iu}{a:Int}{y:(Sl Int)×Int}(h:Fi N b c a=some y) :FunO S Pe [.p (.agg (E1 b)),.p (vSl 2 A0 c),pN a] [] (.tup [.vec 0,pN y.2]) ([oV E5 1 (cI .i64) y.1 true]) []:=by
 unfold Fi at h;refine A2 Z func216 ?_;refine kC Z h (Lk Z Y) (λy1 h=>?_);refine LO Z (And.intro rfl (G9 _ _):(0:Nat)=0/\(Ed 33 (λi=>pI .u64 (y1.1 i))).length=33) (A4 Z) h 0 (λz1=>⟨[(9,pN z1),(8,.reg 9000 0),(2,pN a)],[(9000,.arr 33 (λi=>pI .u64 (y1.1 i)))]⟩) (λM1 k1 d h=>?_) (λz1 h=>?_)
 .apply kI Z h<;>intro h
  .refine kC Z h (Lj Z Y) (λy3 h=>?_);exact d _ [(9000,9000)] _ y3 Fb h (hle:=kl1 2 (Mq 33 (λi=>pI .u64 (y1.1 i))))
  exact d _ [(9000,9000)] _ y1.2 Fb h (hle:=kl1 2 (Mq 33 (λi=>pI .u64 (y1.1 i))))
 apply kI Z h<;>intro h
 .obtain rfl:=A9 h;exact kO Z Fb [7700]
 obtain⟨c5,h⟩:=D1 h;obtain⟨y4,e4,h⟩:=A7 h;refine B3 Z [] c5 (FV Z Y e4) ?_;obtain⟨L1,e5,h⟩:=A7 h;obtain⟨y5,e6,h⟩:=A7 h;refine B3 Z [28000] Fb (Ix Z Y ⟨_,func224,by decide +kernel,by decide +kernel⟩ (El Z Y e5) e6) ?_;obtain rfl:=A9 h;exact kO Z Fb [29000]
end Go.AM
namespace Go.AM
open Go.Proofs.Tryz
variable {N:Nat}
open IntKind (wrap)
open Go.Proofs
set_option maxRecDepth 10000
set_option maxHeartbeats 2000000
variable {S:V2}(Z:G8 S Tryz.prog) (Y:Kd S)
include Z Y
def Dt (N:Nat)(a:Str):Option Bool:= lt (λ(z1:Bool)=>some z1) λk1=>if ((a==[]) != true) then if (decide ((a.length:Int)<=24)) then (DH N a [97,98,99,100,101,102,103,104,105,106,107,108,109,110,111,112,113,114,115,116,117,118,119,120,121,122,65,66,67,68,69,70,71,72,73,74,75,76,77,78,79,80,81,82,83,84,85,86,87,88,89,90,48,49,50,51,52,53,54,55,56,57,45]).bind λy2=>k1 ((y2==[]) != false) else k1 false else k1 false
theorem XD {b:Str}{y:Bool}(h:Dt N b=some y) :FunO S OV [.p (.str b)] [] (pB y) ([]) []:=by
 unfold Dt at h;refine A2 Z func86 ?_;refine LO Z Fb (A4 Z) h 0 (λz1=>⟨[(2,pB z1)],[]⟩) (λM1 k1 a h=>?_) (λz1 h=>?_)
 .refine kG Z h (λh=>?_) (λh=>?_)
  .refine kG Z h (λh=>?_) (λh=>?_)
   .refine kC Z h (JB Z Y) (λy2 h=>?_);exact a _ [] _ ((y2==[]) != false) Fb h
   exact a _ [] _ false Fb h
  exact a _ [] _ false Fb h
 cases h;exact kR Z
def AX (N:Nat)(p_x:Ei)(a:Int):Option Bool:= lt (λ(z1:Bool)=>if z1 then some false else if ((((O9 .andNot .u32 (O9 .or .u32 p_x.Clear p_x.Take) 16777215) != 0)||((O9 .and .u32 p_x.Clear (O9 .or .u32 p_x.Set.Plus p_x.Set.Minus)) != 0))||((O9 .and .u32 p_x.Take (O9 .or .u32 (O9 .or .u32 p_x.Set.Plus p_x.Set.Minus) p_x.Clear)) != 0)) then some false else if (p_x.Take==0) then some (p_x.Of==0) else some ((decide (0<=p_x.Of))&&(decide (p_x.Of<a)))) λk1=>if (decide (p_x.From<(-1))) then k1 true else if (decide (a<=p_x.From)) then k1 true else (H8 N p_x.Set).bind λy2=>k1 (!y2)
theorem Ab9 {p_x:Ei}{b:Int}{y:Bool}(h:AX N p_x b=some y) :FunO S Rx [.p (.agg (Ao p_x)),pN b] [] (pB y) ([]) []:=by
 unfold AX at h;refine A2 Z func83 ?_;refine LO Z Fb (A4 Z) h 0 (λz1=>⟨[(13,pB z1),(5,pU (O9 .or .u32 p_x.Set.Plus p_x.Set.Minus)),(2,.reg 3000 0),(1,pN b)],[(3000,.cells ((Ao p_x).map .p))]⟩) (λM1 k1 c h=>?_) (λz1 h=>?_)
 .refine kG Z h (λh=>?_) (λh=>?_)
  .exact c _ [(3000,3000)] _ true Fb h
  refine kG Z h (λh=>?_) (λh=>?_)
  .exact c _ [(3000,3000)] _ true Fb h
  refine kC Z h (Q4 Z Y) (λy2 h=>?_);exact c _ [(3000,3000)] _ (!y2) Fb h
 apply kI Z h<;>intro h
 .cases h;exact kR Z
 refine kB Z (A4 Z) Fb Fb 16 (.o (.o (.a ((O9 .andNot .u32 (O9 .or .u32 p_x.Clear p_x.Take) 16777215) != 0)) (.a ((O9 .and .u32 p_x.Clear (O9 .or .u32 p_x.Set.Plus p_x.Set.Minus)) != 0))) (.a ((O9 .and .u32 p_x.Take (O9 .or .u32 (O9 .or .u32 p_x.Set.Plus p_x.Set.Minus) p_x.Clear)) != 0))) ?_;apply kI Z h<;>intro h
 .cases h;exact kR Z
 apply kI Z h<;>intro h
 .cases h;exact kR Z
 refine kB Z (A4 Z) Fb Fb 5 (.n (.a (decide (0<=p_x.Of))) (.a (decide (p_x.Of<b)))) ?_;cases h;exact kR Z
def AY (N:Nat)(p_x:Ei)(q0:Int):Option Bool:= (AX N p_x q0).bind λy1=>some (!y1)
theorem Tp {p_x:Ei}{q0:Int}{y:Bool}(h:AY N p_x q0=some y) :FunO S KY [.p (.agg (Ao p_x)),.reg 0 0] [.cells [pN q0]] (pB y) ([.cells [pN q0]]) [true]:=by unfold AY at h;refine A2 Z func82 ?_;refine kC Z h (Ab9 Z Y) (λy1 h=>?_);obtain rfl:=A9 h;exact kO Z Fb [0]
def AZ (N:Nat)(a:Iu):Option Bool:= (H8 N a).bind λy1=>some (!y1)
theorem Tq {a:Iu}{y:Bool}(h:AZ N a=some y) :FunO S KZ [.p (.agg (A0 a))] [] (pB y) ([]) []:=by unfold AZ at h;refine A2 Z func84 ?_;refine kC Z h (Q4 Z Y) (λy1 h=>?_);cases h;exact kR Z
def G0 (N:Nat)(a:Sl Ei)(c:Ei->Option Bool):Option Int:= Y3 N (λb (x1:Int)=>if (decide (x1<(a.n:Int))) then if ((0:Int)<=x1/\x1<(a.n:Int))then (c (a.g x1.toNat)).bind λy3=>if y3 then some x1 else b (wrap .i64 (x1+1)) else none else some (-1)) 0
theorem Bu {c:Sl Ei}{d:Ei->Option Bool}{a:Int}{kp_f:Nat}(f:∀{a0:Ei}{b:Bool},d a0=some b->FunO S kp_f [.p (.agg (Ao a0)),.reg 0 0] [.cells [pN a]] (pB b) [.cells [pN a]] [true]){y:Int}(h:G0 N c d=some y) :FunO S P8 [.p (vSl 6 Ao c),.clo kp_f [] [.reg 0 0]] [.cells [pN a]] (pN y) ([.cells [pN a]]) [true]:=by
 unfold G0 at h;refine A2 Z func133 ?_;refine R8 Z Fb h (λx1=>⟨[(8,pN x1),(7,pN (c.n:Int)),(1,.clo kp_f [] [.reg 0 0]),(0,.p (vSl 6 Ao c))],[(0,.cells [pN a])]⟩) (ids:=[(0,0)]) (λ_ _ _ _ _ g x1 i h=>?_);apply kI Z h<;>intro h
 .obtain⟨c8,h⟩:=D1 h;obtain⟨y3,e3,h⟩:=A7 h;refine B3 Z [0] (And.intro c8 (by decide:(6:Nat)<=6)) (f e3) ?_;apply kI Z h<;>intro h
  .obtain rfl:=A9 h;exact kO Z Fb [0]
  exact i _ [(0,0)] _ (wrap .i64 (x1+1)) Fb h
 obtain rfl:=A9 h;exact kO Z Fb [0]
def D3 (N:Nat)(a:Sl Ei)(b:Ei->Option Bool):Option Bool:= (G0 N a b).bind λy1=>some (decide (0<=y1))
theorem Aj {c:Sl Ei}{d:Ei->Option Bool}{a:Int}{kp_f:Nat}(f:∀{a0:Ei}{b:Bool},d a0=some b->FunO S kp_f [.p (.agg (Ao a0)),.reg 0 0] [.cells [pN a]] (pB b) [.cells [pN a]] [true]){y:Bool}(h:D3 N c d=some y) :FunO S O2 [.p (vSl 6 Ao c),.clo kp_f [] [.reg 0 0]] [.cells [pN a]] (pB y) ([.cells [pN a]]) [true]:=by unfold D3 at h;refine A2 Z func89 ?_;obtain⟨y1,e1,h⟩:=A7 h;refine B3 Z [0] Fb (Bu Z Y (λe=>f e) e1) ?_;obtain rfl:=A9 h;exact kO Z Fb [0]
def Ay (N:Nat)(a:Law):Option Int:= (Dt N a.Name).bind λy1=>if (!y1) then some 17 else (Ax N a.Left).bind λy2=>if (y2 != 0) then some 17 else (Ax N a.Right).bind λy3=>if (y3 != 0) then some 17 else if (decide (4<(a.If.n:Int))) then some 17 else if (decide (6<(a.Out.n:Int))) then some 17 else if ((wrap .i64 ((a.If.n:Int)+(a.Out.n:Int)))==0) then some 17 else if ((decide (a.Mode<1))||(decide (3<a.Mode))) then some 17 else (B7 N a.If (λ(u1:Iu)=>AZ N u1)).bind λy4=>if y4 then some 17 else (D3 N a.Out (λ(u2:Ei)=>AY N u2 (a.If.n:Int))).bind λy5=>if y5 then some 17 else some 0
theorem Ha {c:Law}{y:Int}(h:Ay N c=some y) :FunO S OP [.p (.agg (B4 c))] [] (pN y) ([]) []:=by
 unfold Ay at h;refine A2 Z func52 ?_;refine kC Z h (XD Z Y) (λy1 h=>?_);refine C9 Z Fb (b:=!y1) (λc1=>?_) (λc1=>?_)
 .replace h:=itT c1 h;refine C9 Z Fb (b:=!y1) (λc2=>?_) (λc2=>?_)
  .cases h;exact kR Z
  exact Bool.noConfusion (c1.symm.trans c2)
 replace h:=itF c1 h;refine kC Z h (Iw Z Y) (λy2 h=>?_);refine C9 Z Fb (b:=y2 != 0) (λc3=>?_) (λc3=>?_)
 .replace h:=itT c3 h;refine C9 Z Fb (b:=y2 != 0) (λc4=>?_) (λc4=>?_)
  .cases h;exact kR Z
  exact Bool.noConfusion (c3.symm.trans c4)
 replace h:=itF c3 h;refine kC Z h (Iw Z Y) (λy3 h=>?_);refine C9 Z Fb (b:=y3 != 0) (λc5=>?_) (λc5=>?_)
 .replace h:=itT c5 h;refine C9 Z Fb (b:=y3 != 0) (λc6=>?_) (λc6=>?_)
  .cases h;exact kR Z
  exact Bool.noConfusion (c5.symm.trans c6)
 replace h:=itF c5 h;refine C9 Z Fb (b:=decide (4<(c.If.n:Int))) (λc7=>?_) (λc7=>?_)
 .replace h:=itT c7 h;refine C9 Z Fb (b:=decide (4<(c.If.n:Int))) (λc8=>?_) (λc8=>?_)
  .cases h;exact kR Z
  exact Bool.noConfusion (c7.symm.trans c8)
 replace h:=itF c7 h;refine C9 Z Fb (b:=decide (6<(c.Out.n:Int))) (λc9=>?_) (λc9=>?_)
 .replace h:=itT c9 h;refine C9 Z Fb (b:=decide (6<(c.Out.n:Int))) (λc10=>?_) (λc10=>?_)
  .cases h;exact kR Z
  exact Bool.noConfusion (c9.symm.trans c10)
 replace h:=itF c9 h;refine C9 Z Fb (b:=(wrap .i64 ((c.If.n:Int)+(c.Out.n:Int)))==0) (λc11=>?_) (λc11=>?_)
 .replace h:=itT c11 h;refine C9 Z Fb (b:=(wrap .i64 ((c.If.n:Int)+(c.Out.n:Int)))==0) (λc12=>?_) (λc12=>?_)
  .cases h;exact kR Z
  exact Bool.noConfusion (c11.symm.trans c12)
 replace h:=itF c11 h;refine kB Z (A4 Z) Fb Fb 4 (.o (.a (decide (c.Mode<1))) (.a (decide (3<c.Mode)))) ?_;refine C9 Z Fb (b:=(decide (c.Mode<1))||(decide (3<c.Mode))) (λc13=>?_) (λc13=>?_)
 .replace h:=itT c13 h;refine C9 Z Fb (b:=(decide (c.Mode<1))||(decide (3<c.Mode))) (λc14=>?_) (λc14=>?_)
  .cases h;exact kR Z
  exact Bool.noConfusion (c13.symm.trans c14)
 replace h:=itF c13 h;refine kC Z h (M8 Z Y (λe=>Tq Z Y e)) (λy4 h=>?_);refine C9 Z Fb (b:=y4) (λc15=>?_) (λc15=>?_)
 .replace h:=itT c15 h;refine C9 Z Fb (b:=y4) (λc16=>?_) (λc16=>?_)
  .cases h;exact kR Z
  exact Bool.noConfusion (c15.symm.trans c16)
 replace h:=itF c15 h;obtain⟨y5,e5,h⟩:=A7 h;refine B3 Z [4000] Fb (Aj Z Y (λe=>Tp Z Y e) e5) ?_;apply kI Z h<;>intro h
 .cases h;exact kR Z
 cases h;exact kR Z
def Fj (N:Nat)(a:Law)(b:Sl Iu):Option Int:= (Ay N a).bind λy1=>if (y1 != 0) then some y1 else (W8 N b).bind λy2=>some y2
theorem XE {a:Law}{b:Sl Iu}{y:Int}(h:Fj N a b=some y) :FunO S Pd [.p (.agg (B4 a)),.p (vSl 2 A0 b)] [] (pN y) ([]) []:=by
 unfold Fj at h;refine A2 Z func199 ?_;refine kC Z h (Ha Z Y) (λy1 h=>?_);apply kI Z h<;>intro h
 .cases h;exact kR Z
 refine kC Z h (DR Z Y) (λy2 h=>?_);cases h;exact kR Z
def Z7 (N:Nat)(a:Int)(q0:Law)(q1:Sl Iu):Option Bool:= (CU N q0.Left q1 a).bind λy1=>if ((y1.1.n:Int)==0) then some false else (Fi N q0.Right q1 (wrap .i64 (a+(q0.If.n:Int)))).bind λy2=>some (decide (0<(y2.1.n:Int)))
theorem QA {a:Int}{q0:Law}{q1:Sl Iu}{y:Bool}(h:Z7 N a q0 q1=some y) :FunO S BM [pN a,.reg 0 0,.reg 1 0] [.cells ((B4 q0).map .p),.cells [.p (vSl 2 A0 q1)]] (pB y) ([.cells ((B4 q0).map .p),.cells [.p (vSl 2 A0 q1)]]) [true,true]:=by
 unfold Z7 at h;refine A2 Z func214 ?_;refine kC Z h (To Z Y) (λy1 h=>?_);apply kI Z h<;>intro h
 .obtain rfl:=A9 h;exact kO Z Fb [0,1]
 refine kC Z h (XC Z Y) (λy2 h=>?_);obtain rfl:=A9 h;exact kO Z Fb [0,1]
def Iy (N:Nat)(a:Law)(b:Sl Iu):Option (Law×(Sl Iu)):= some (a,b)
theorem VC {a:Law}{b:Sl Iu}{y:Law×(Sl Iu)}(h:Iy N a b=some y) :FunO S MK [.p (.agg (B4 a)),.p (vSl 2 A0 b)] [] (.clo BM [] [.reg 0 0,.reg 1 0]) ([.cells ((B4 y.1).map .p),.cells [.p (vSl 2 A0 y.2)]]) []:=by unfold Iy at h;refine A2 Z func209 ?_;obtain rfl:=A9 h;exact kO Z Fb [3000,4000]
def DU (N:Nat)(a:Law)(b:Sl Iu):Option (Sl Iu):= Bj N (λc (x1:Sl Iu) (x2:Int)=>if (decide (x2<(a.Out.n:Int))) then if ((0:Int)<=x2/\x2<(a.Out.n:Int))then if ((decide (0<=(a.Out.g x2.toNat).From))=true->((0:Int)<=(a.Out.g x2.toNat).From/\(a.Out.g x2.toNat).From<(b.n:Int)))then (Z6 N (⟨(if (decide (0<=(a.Out.g x2.toNat).From)) then (b.g (a.Out.g x2.toNat).From.toNat).Plus else 0),(if (decide (0<=(a.Out.g x2.toNat).From)) then (b.g (a.Out.g x2.toNat).From.toNat).Minus else 0)⟩:Iu) (a.Out.g x2.toNat).Clear (a.Out.g x2.toNat).Set).bind λy5=>if ((a.Out.g x2.toNat).Take != 0) then if ((0:Int)<=(a.Out.g x2.toNat).Of/\(a.Out.g x2.toNat).Of<(b.n:Int))then (Cw N y5.1 (b.g (a.Out.g x2.toNat).Of.toNat) (a.Out.g x2.toNat).Take).bind λy6=>if (Kb 8 (x1.n+(Sl.of [y6.1]:Sl Iu).n))then c (x1.push y6.1) (wrap .i64 (x2+1)) else none else none else if (Kb 8 (x1.n+(Sl.of [y5.1]:Sl Iu).n))then c (x1.push y5.1) (wrap .i64 (x2+1)) else none else none else none else some x1) (Sl.nil:Sl Iu) 0
theorem VD {c:Law}{a:Sl Iu}{y:Sl Iu}(h:DU N c a=some y) :FunO S Vu [.p (.agg (B4 c)),.p (vSl 2 A0 a)] [] (.p (vSl 2 A0 y)) ([]) []:=by
 unfold DU at h;refine A2 Z func205 ?_;refine F9 Z Fb 4 3000 (B4 c) ?_;refine H3 Z Fb h (λx1 x2=>⟨[(12,pN x2),(11,pN (c.Out.n:Int)),(10,.p (vSl 6 Ao c.Out)),(5,.vec 6500),(1,.p (vSl 2 A0 a))],[(6500,oV B6 2 A0 x1 false)]⟩) (ids:=[]) (λ_ _ _ _ _ l x1 x2 i h=>?_);apply kI Z h<;>intro h
 .obtain⟨c16,h⟩:=D1 h;refine F9 Z (And.intro c16 (by decide:(6:Nat)<=6)) 8 8000 (Ao (c.Out.g x2.toNat)) ?_;obtain⟨c18,h⟩:=D1 h;obtain⟨t5,d⟩:∃x:Int,x=(if (decide (0<=(c.Out.g x2.toNat).From)) then (a.g (c.Out.g x2.toNat).From.toNat).Plus else 0):=⟨_,rfl⟩;obtain⟨t6,f⟩:∃x:Int,x=(if (decide (0<=(c.Out.g x2.toNat).From)) then (a.g (c.Out.g x2.toNat).From.toNat).Minus else 0):=⟨_,rfl⟩;refine WY Z Fb (A4 Z) 0 ⟨[(12,pN x2),(11,pN (c.Out.n:Int)),(10,.p (vSl 6 Ao c.Out)),(8,.reg 9000 0),(7,.p (.ptr (Ao (c.Out.g x2.toNat)))),(5,.vec 6500),(1,.p (vSl 2 A0 a))],[(9000,.cells [pU t5,pU t6]),(6500,oV B6 2 A0 x1 false)]⟩ (λM3 j=>?_) ?_
  .refine C9 Z Fb (b:=decide (0<=(c.Out.g x2.toNat).From)) (λc19=>?_) (λc19=>?_)
   .exact j _ (Jt [6500,9000]) _ (And.intro (c18 c19) Gq) (hle:=klR [(5,.eq (pI .u32 (a.g (c.Out.g x2.toNat).From.toNat).Plus) (pI .u32 t5)),(6,.eq (pI .u32 (a.g (c.Out.g x2.toNat).From.toNat).Minus) (pI .u32 t6))] (al1 (by simp only[d,f,c19,Leaf.ok,pm,Es,Eu]) (al1 (by simp only[d,f,c19,Leaf.ok,pm,Es,Eu]) al0)))
   exact j _ (Jt [6500,9000]) _ Fb (hle:=klR [(5,.eq (pI .u32 0) (pI .u32 t5)),(6,.eq (pI .u32 0) (pI .u32 t6))] (al1 (by simp only[d,f,c19,Leaf.ok,pm,Es,Eu]) (al1 (by simp only[d,f,c19,Leaf.ok,pm,Es,Eu]) al0)))
  subst f;subst d;obtain⟨y5,e5,h⟩:=A7 h;refine B3 Z [] (by decide:(2:Nat)<=4) (Qv Z Y e5) ?_;apply kI Z h<;>intro h
  .refine E4 Z Fb [3,4,5,7,8] ?_;obtain⟨c21,h⟩:=D1 h;obtain⟨y6,e6,h⟩:=A7 h;refine G5 (And.intro c21 Gq) (Vz Z Y e6) ?_;refine D6 Fb ?_;obtain⟨c22,h⟩:=D1 h;exact i _ [(6500,52000)] _ (x1.push y6.1) (wrap .i64 (x2+1)) (And.intro Ik c22) h (hle:=kl1 4 (W6 A0 x1 y6.1 [pI .u32 0,pI .u32 0]))
  obtain⟨c23,h⟩:=D1 h;exact i _ [(6500,52000)] _ (x1.push y5.1) (wrap .i64 (x2+1)) (And.intro Ik c23) h (hle:=kl1 4 (W6 A0 x1 y5.1 [pI .u32 0,pI .u32 0]))
 obtain rfl:=A9 h;exact kO Z Fb []
def B0 (N:Nat)(a:Sl (Sl Iu)):Option (Sl Iu):= Bj N (λb (x1:Int) (x2:Int)=>if (decide (x2<(a.n:Int))) then if ((0:Int)<=x2/\x2<(a.n:Int))then if (decide ((wrap .i64 (x1+((a.g x2.toNat).n:Int)))<0)) then none else b (wrap .i64 (x1+((a.g x2.toNat).n:Int))) (wrap .i64 (x2+1)) else none else (J7 N x1).bind λy1=>Bj N (λc (x3:Sl Iu) (x4:Int)=>if (decide (x4<(a.n:Int))) then if (((0:Int)<=x4/\x4<(a.n:Int))/\(Kb 8 (x3.n+(a.g x4.toNat).n)))then c (x3.app (a.g x4.toNat)) (wrap .i64 (x4+1)) else none else some x3) y1 0) 0 0
theorem P2 {a:Sl (Sl Iu)}{y:Sl Iu}(h:B0 N a=some y) :FunO S P0 [.p (vSl 1 (cL 2 A0) a)] [] (.vec 0) ([oV B6 2 A0 y true]) []:=by
 unfold B0 at h;refine A2 Z func204 ?_;refine H3 Z Fb h (λx1 x2=>⟨[(11,pN x2),(10,pN (a.n:Int)),(9,.p (vSl 1 (cL 2 A0) a)),(3,pN x1),(0,.p (vSl 1 (cL 2 A0) a))],[]⟩) (ids:=[]) (λ_ _ _ _ _ c x1 x2 d h=>?_);apply kI Z h<;>intro h
 .obtain⟨c8,h⟩:=D1 h;refine C9 Z c8 (b:=decide ((wrap .i64 (x1+((a.g x2.toNat).n:Int)))<0)) (λc9=>?_) (λc9=>?_)
  .replace h:=itT c9 h;cases h
  replace h:=itF c9 h;exact d _ [] _ (wrap .i64 (x1+((a.g x2.toNat).n:Int))) (wrap .i64 (x2+1)) Fb h
 refine kC Z h (BN Z Y) (λy1 h=>?_);refine H3 Z Fb h (λx3 x4=>⟨[(27,pN x4),(26,pN (a.n:Int)),(25,.p (vSl 1 (cL 2 A0) a)),(6,.vec 7500)],[(7500,oV B6 2 A0 x3 false)]⟩) (ids:=[(7500,25000)]) (λ_ _ _ _ _ f x3 x4 i h=>?_);apply kI Z h<;>intro h
 .obtain⟨c13,h⟩:=D1 h;exact i _ [(7500,34000)] _ (x3.app (a.g x4.toNat)) (wrap .i64 (x4+1)) c13 h (hle:=kl1 3 (appS A0 x3 (a.g x4.toNat)))
 obtain rfl:=A9 h;exact kO Z Fb [7500]
def T7 (N:Nat)(b:Law)(c:Sl Iu)(a:Int):Option (Sl Iu):= if (((0:Int)<=a/\a<=(c.n:Int))/\((0:Int)<=a/\a<=(wrap .i64 (a+(b.If.n:Int)))/\(wrap .i64 (a+(b.If.n:Int)))<=(c.n:Int)))then (DU N b (c.sub a.toNat (wrap .i64 (a+(b.If.n:Int))).toNat)).bind λy1=>if ((0:Int)<=(wrap .i64 (a+(b.If.n:Int)))/\(wrap .i64 (a+(b.If.n:Int)))<=(c.n:Int))then (B0 N (Sl.of [c.take a.toNat,y1,c.drop (wrap .i64 (a+(b.If.n:Int))).toNat]:Sl (Sl Iu))).bind λy2=>some y2 else none else none
theorem Ll {c:Law}{b:Sl Iu}{a:Int}{y:Sl Iu}(h:T7 N c b a=some y) :FunO S Ld [.p (.agg (B4 c)),.p (vSl 2 A0 b),pN a] [] (.vec 0) ([oV B6 2 A0 y true]) []:=by unfold T7 at h;refine A2 Z func207 ?_;refine F9 Z Fb 6 4000 (B4 c) ?_;refine E4 Z Fb [3,8] ?_;obtain⟨c1,h⟩:=D1 h;obtain⟨y1,e1,h⟩:=A7 h;refine G5 (And.intro (And.intro c1.1 Ii) c1.2) (VD Z Y e1) ?_;obtain⟨c2,h⟩:=D1 h;refine N0 c2 (x:=.sl true 1 3 (H9 [C8] [(0,cL 2 A0 (b.take a.toNat)),(1,cL 2 A0 y1),(2,cL 2 A0 (b.drop (wrap .i64 (a+(c.If.n:Int))).toNat))])) ?_;obtain⟨y2,e2,h⟩:=A7 h;refine Ov [] Fb (FunO.le Z (args:=[.p (.sl true 1 3 (H9 [C8] [(0,cL 2 A0 (b.take a.toNat)),(1,cL 2 A0 y1),(2,cL 2 A0 (b.drop (wrap .i64 (a+(c.If.n:Int))).toNat))]))]) (by exact⟨Ks rfl (λi d=>match i,d with|0,_=>rfl|1,_=>rfl|2,_=>rfl|_+3,d=>Er d (by omega)),trivial⟩) (P2 Z Y e2)) ?_;refine D6 Fb ?_;obtain rfl:=A9 h;exact kO Z Fb [27000]
def Az (N:Nat)(q0:Law)(q1:Sl Iu)(q2:Int):Option (List (Int)):= (Iy N q0 q1).bind λy1=>Y3 N (λa (x2:Int)=>if (decide ((wrap .i64 (x2+(q0.If.n:Int)))<=(q1.n:Int))) then Y3 N (λb (x4:Int)=>if (decide (x4<(q0.If.n:Int))) then if ((0:Int)<=x4/\x4<(q0.If.n:Int))then if ((0:Int)<=(wrap .i64 (x2+x4))/\(wrap .i64 (x2+x4))<(q1.n:Int))then (R5 N (q1.g (wrap .i64 (x2+x4)).toNat) (q0.If.g x4.toNat)).bind λc=>if (!c) then a (wrap .i64 (x2+1)) else b (wrap .i64 (x4+1)) else none else none else (Z7 N x2 y1.1 y1.2).bind λd=>if d then Ag x2 (a (wrap .i64 (x2+1))) else a (wrap .i64 (x2+1))) 0 else some []) q2
theorem MN {q0:Law}{q1:Sl Iu}{q2:Int}{L:List (Int)}(h:Az N q0 q1 q2=some L) :ES S Iq [] [.reg 0 0,.reg 1 0,.reg 2 0] [.cells ((B4 q0).map .p),.cells [.p (vSl 2 A0 q1)],.cells [pN q2]] (L.map (λ(x:Int)=>[pI .i64 x])):=by
 unfold Az at h;refine EA Z func208 ?_;refine kC Z h (VC Z Y) (λy1 h=>?_);refine Dn Z Fb h (λx2 L1=>⟨[(6,pN x2),(5,.clo BM [] [.reg 12000 0,.reg 12001 0]),(2,.reg 1 0),(1,.reg 0 0),(0,.yf 3)],[(12001,.cells [.p (vSl 2 A0 y1.2)]),(12000,.cells ((B4 y1.1).map .p)),(3,.yld (L1.map (λ(x:Int)=>[pI .i64 x])) true),(2,.cells [pN q2]),(1,.cells [.p (vSl 2 A0 q1)]),(0,.cells ((B4 q0).map .p))]⟩) (ids:=(Jt [0,1,2,3,12000,12001])) (λ_ _ _ _ _ f x2 L1 c h=>?_);apply kI Z h<;>intro h
 .refine Dn Z Fb h (λx4 L8=>⟨[(26,pN x4),(25,pN (q0.If.n:Int)),(24,.p (vSl 2 A0 q0.If)),(6,pN x2),(5,.clo BM [] [.reg 12000 0,.reg 12001 0]),(2,.reg 1 0),(1,.reg 0 0),(0,.yf 3)],[(12001,.cells [.p (vSl 2 A0 y1.2)]),(12000,.cells ((B4 y1.1).map .p)),(3,.yld (L8.map (λ(x:Int)=>[pI .i64 x])) true),(2,.cells [pN q2]),(1,.cells [.p (vSl 2 A0 q1)]),(0,.cells ((B4 q0).map .p))]⟩) (ids:=(Jt [0,1,2,3,12000,12001])) (λ_ _ _ _ _ i x4 L8 j h=>?_);apply kI Z h<;>intro h
  .obtain⟨c47,h⟩:=D1 h;refine US Z (And.intro c47 Gq) 9000 [pI .u32 (q0.If.g x4.toNat).Plus,pI .u32 (q0.If.g x4.toNat).Minus] ?_;refine E4 Z Fb [4,5,6,7] ?_;obtain⟨c48,h⟩:=D1 h;obtain⟨l,e12,h⟩:=A7 h;refine G5 (And.intro (And.intro c48 Gq) Gq) (LW Z Y e12) ?_;refine D6 Fb ?_;apply kI Z h<;>intro h
   .exact c _ (Jt [0,1,2,3,12000,12001]) _ (wrap .i64 (x2+1)) L8 Fb h
   exact j _ (Jt [0,1,2,3,12000,12001]) _ (wrap .i64 (x4+1)) L8 Fb h
  obtain⟨m,e13,h⟩:=A7 h;refine B3 Z [12000,12001] Fb (QA Z Y e13) ?_;refine kG Z h (λh=>?_) (λh=>?_)
  .obtain⟨L10,rfl,d⟩:=LP h;replace h:=d;refine Dm Z Fb (ys:=(λ(x:Int)=>[pI .i64 x]) x2) (rest:=L10.map (λ(x:Int)=>[pI .i64 x])) ?_ ?_
   .refine C9 Z Fb (b:=false) (λc53=>?_) (λc53=>?_)
    .exact Bool.noConfusion ((rfl:false=false).symm.trans c53)
    exact c _ (Jt [0,1,2,3,12000,12001]) _ (wrap .i64 (x2+1)) L10 Fb h
   refine C9 Z Fb (b:=true) (λc54=>?_) (λc54=>?_)
   .exact kO Z Fb (a:=.tup []) (objs:=[(.cells ((B4 q0).map .p)),.cells [.p (vSl 2 A0 q1)],.cells [pN q2],.yld [] false]) [0,1,2,3] ⟨false,rfl,rfl,_,rfl⟩
   exact Bool.noConfusion (Ik.symm.trans c54)
  exact c _ (Jt [0,1,2,3,12000,12001]) _ (wrap .i64 (x2+1)) L8 Fb h
 obtain rfl:=A9 h;exact kO Z Fb (a:=.tup []) (objs:=[(.cells ((B4 q0).map .p)),.cells [.p (vSl 2 A0 q1)],.cells [pN q2],.yld [] true]) [0,1,2,3] ⟨true,rfl,rfl,_,rfl⟩
def IP (N:Nat)(b:Law)(c:Sl Iu)(a:Int):Option (Law×(Sl Iu)×Int):= some (b,c,a)
theorem RD {b:Law}{c:Sl Iu}{a:Int}{y:Law×(Sl Iu)×Int}(h:IP N b c a=some y) :FunO S RC [.p (.agg (B4 b)),.p (vSl 2 A0 c),pN a] [] (.clo Iq [] [.reg 0 0,.reg 1 0,.reg 2 0]) ([.cells ((B4 y.1).map .p),.cells [.p (vSl 2 A0 y.2.1)],.cells [pN y.2.2]]) []:=by unfold IP at h;refine A2 Z func203 ?_;obtain rfl:=A9 h;exact kO Z Fb [4000,5000,6000]
def DV (N:Nat)(b:Law)(c:Sl Iu)(a:Int):Option Bool:= (IP N b c a).bind λy1=>(Az N y1.1 y1.2.1 y1.2.2).bind λL1=>S9 L1 (λd (x1:Int) (_:Unit)=>some (x1==a)) (λ(_:Unit)=>some false) ()
theorem VE {b:Law}{c:Sl Iu}{a:Int}{y:Bool}(h:DV N b c a=some y) :FunO S Vv [.p (.agg (B4 b)),.p (vSl 2 A0 c),pN a] [] (pB y) ([]) []:=by
 unfold DV at h;refine A2 Z func206 ?_;refine kC Z h (RD Z Y) (λy1 h=>?_);obtain⟨L1,e2,h⟩:=A7 h;refine GR Z Fb [12000,12001,12002] [6,5] 901 (λ_=>⟨[(6,.reg 7000 0),(5,.reg 6000 0)],[(7000,.cells [.p (.v (.bool false))]),(6000,.cells [pN a])]⟩) (idl:=(Jt [6000,7000])) h (MN Z Y e2) (λ_=>by kernel_rfl) (λ_=>by kernel_rfl) (λ_=>by kernel_rfl) (λ_=>by kernel_rfl) (λx1 _ d _ f h=>?_) (λ_ h=>?_)
 .refine JV Z Fb ?_;refine NA Z Fb ⟨[(6,.reg 7000 0),(5,.reg 6000 0)],[(7000,.cells [pB (x1==a)]),(6000,.cells [pN a])]⟩ (ids:=(Jt [901,6000,7000])) ?_;cases h;exact kR Z
 cases h;exact kR Z
def Du (N:Nat)(q0:Sl Iu)(q1:Law)(q2:Int)(q3:Int):Option (List (Int×(Sl Iu))):= if (q1.Mode==1) then (IP N q1 q0 0).bind λy1=>(Az N y1.1 y1.2.1 y1.2.2).bind λL1=>S9 L1 (λb (x1:Int) (z1:(Sl Iu)×Int×Int)=>if (decide (x1<z1.2.1)) then b (z1.1,z1.2.1,z1.2.2) else if (((0:Int)<=(wrap .i64 (x1+z1.2.2))/\(wrap .i64 (x1+z1.2.2))<=(z1.1.n:Int))/\((0:Int)<=x1/\x1<=(wrap .i64 (x1+q2))/\(wrap .i64 (x1+q2))<=(q0.n:Int)))then (DU N q1 (q0.sub x1.toNat (wrap .i64 (x1+q2)).toNat)).bind λy6=>if ((0:Int)<=(wrap .i64 (x1+q2))/\(wrap .i64 (x1+q2))<=(q0.n:Int))then (B0 N (Sl.of [z1.1.take (wrap .i64 (x1+z1.2.2)).toNat,y6,q0.drop (wrap .i64 (x1+q2)).toNat]:Sl (Sl Iu))).bind λy7=>Ag (x1,y7) (b (y7,wrap .i64 (x1+(if q2<1 then 1 else q2)),wrap .i64 ((wrap .i64 (z1.2.2+q3))-q2))) else none else none) (λ(z1:(Sl Iu)×Int×Int)=>some []) (q0,0,0) else if (q1.Mode==2) then Bj N (λa (x5:Sl Iu) (x6:Int)=>if (decide ((wrap .i64 (x6+q2))<=(x5.n:Int))) then (DV N q1 x5 x6).bind λg=>if (!g) then a x5 (wrap .i64 (x6+1)) else (T7 N q1 x5 x6).bind λd=>Ag (x6,d) (if (q2==0) then a d (wrap .i64 ((wrap .i64 (x6+q3))+1)) else a d (wrap .i64 (x6+q3))) else some []) q0 0 else if (q1.Mode==3) then Bj N (λc (x7:Sl Iu) (x8:Int)=>if (decide (0<=x8)) then (DV N q1 x7 x8).bind λi=>if (!i) then c x7 (wrap .i64 (x8-1)) else (T7 N q1 x7 x8).bind λf=>Ag (x8,f) (c f (wrap .i64 (x8-(if q2<1 then 1 else q2)))) else some []) q0 (wrap .i64 ((q0.n:Int)-q2)) else some []
theorem XF {q0:Sl Iu}{q1:Law}{q2:Int}{q3:Int}{L:List (Int×(Sl Iu))}(h:Du N q0 q1 q2 q3=some L) :ES S Kc [] [.reg 0 0,.reg 1 0,.reg 2 0,.reg 3 0] [.cells [.p (vSl 2 A0 q0)],.cells ((B4 q1).map .p),.cells [pN q2],.cells [pN q3]] (L.map (λ(x:Int×(Sl Iu))=>[pI .i64 x.1,vSl 2 A0 x.2])):=by
 unfold Du at h;refine EA Z func202 ?_;apply kI Z h<;>intro h
 .refine kC Z h (RD Z Y) (λy1 h=>?_);obtain⟨L1,e2,h⟩:=A7 h;refine Ay0 Z Fb [20000,20001,20002] [8,7,6,5,4,3,2,1] 900 (λz1 L2=>⟨[(8,.reg 9000 0),(7,.reg 8000 0),(6,.reg 7000 0),(5,.reg 6000 0),(4,.reg 3 0),(3,.reg 2 0),(2,.reg 1 0),(1,.reg 0 0)],[(9000,.cells [pN z1.2.2]),(8000,.cells [pN z1.2.1]),(7000,.cells [.p (vSl 2 A0 z1.1)]),(6000,.cells [.yf 4]),(4,.yld (L2.map (λ(x:Int×(Sl Iu))=>[pI .i64 x.1,vSl 2 A0 x.2])) true),(3,.cells [pN q3]),(2,.cells [pN q2]),(1,.cells ((B4 q1).map .p)),(0,.cells [.p (vSl 2 A0 q0)])]⟩) (idl:=(Jt [0,1,2,3,4,6000,7000,8000,9000])) h (MN Z Y e2) (λ_=>by kernel_rfl) (λ_ _=>by kernel_rfl) (λ_ _=>by kernel_rfl) (λ_ _=>by kernel_rfl) (λx1 _ r z1 L2 g h=>?_) (λz1 L2 h=>?_)
  .refine JV Z Fb ?_;apply kI Z h<;>intro h
   .exact g _ (Jt [0,1,2,3,4,900,6000,7000,8000,9000]) _ (z1.1,z1.2.1,z1.2.2) L2 Fb h
   refine G4 Z Fb [(0,.l [7000]),(2,.l [9000]),(5,.l [1]),(6,.l [0]),(9,.l [2]),(12,.n),(13,.l [0]),(15,.l [2]),(20,.a [7000])] ?_;obtain⟨c13,h⟩:=D1 h;obtain⟨y6,e7,h⟩:=A7 h;refine G5 c13 (VD Z Y e7) ?_;obtain⟨c14,h⟩:=D1 h;refine N0 c14 (x:=.sl true 1 3 (H9 [C8] [(0,cL 2 A0 (z1.1.take (wrap .i64 (x1+z1.2.2)).toNat)),(1,cL 2 A0 y6),(2,cL 2 A0 (q0.drop (wrap .i64 (x1+q2)).toNat))])) ?_;obtain⟨y7,e8,h⟩:=A7 h;refine Ov [] Fb (FunO.le Z (args:=[.p (.sl true 1 3 (H9 [C8] [(0,cL 2 A0 (z1.1.take (wrap .i64 (x1+z1.2.2)).toNat)),(1,cL 2 A0 y6),(2,cL 2 A0 (q0.drop (wrap .i64 (x1+q2)).toNat))]))]) (by exact⟨Ks rfl (λi s=>match i,s with|0,_=>rfl|1,_=>rfl|2,_=>rfl|_+3,s=>Er s (by omega)),trivial⟩) (P2 Z Y e8)) ?_;refine D6 Fb ?_;obtain⟨L5,rfl,j⟩:=LP h;replace h:=j;refine Dm Z Fb (ys:=(λ(x:Int×(Sl Iu))=>[pI .i64 x.1,vSl 2 A0 x.2]) (x1,y7)) (rest:=L5.map (λ(x:Int×(Sl Iu))=>[pI .i64 x.1,vSl 2 A0 x.2])) ?_ ?_
   .refine C9 Z Fb (b:=false) (λc15=>?_) (λc15=>?_)
    .exact Bool.noConfusion ((rfl:false=false).symm.trans c15)
    refine G4 Z Fb [(1,.l [2]),(4,.l [9000]),(5,.l [3]),(7,.l [2]),(9,.a [8000]),(10,.a [9000])] ?_;refine D6 Fb ?_;exact g _ (Jt [0,1,2,3,4,900,6000,7000,8000,9000]) _ (y7,wrap .i64 (x1+(if q2<1 then 1 else q2)),wrap .i64 ((wrap .i64 (z1.2.2+q3))-q2)) L5 Fb h
   refine C9 Z Fb (b:=true) (λc16=>?_) (λc16=>?_)
   .refine NA Z Fb ⟨[(8,.reg 9000 0),(7,.reg 8000 0),(6,.reg 7000 0),(5,.reg 6000 0),(4,.reg 3 0),(3,.reg 2 0),(2,.reg 1 0),(1,.reg 0 0)],[(44000,oV B6 2 A0 y7 true),(9000,.cells [pN z1.2.2]),(8000,.cells [pN z1.2.1]),(7000,.cells [.vec 44000]),(6000,.cells [.yf 4]),(4,.yld [] false),(3,.cells [pN q3]),(2,.cells [pN q2]),(1,.cells ((B4 q1).map .p)),(0,.cells [.p (vSl 2 A0 q0)])]⟩ (ids:=(Jt [0,1,2,3,4,900,6000,7000,8000,9000,44000])) ?_;exact kO Z Fb (a:=.tup []) (objs:=[(.cells [.p (vSl 2 A0 q0)]),.cells ((B4 q1).map .p),.cells [pN q2],.cells [pN q3],.yld [] false]) [0,1,2,3,4] ⟨false,rfl,rfl,_,rfl⟩
   exact Bool.noConfusion (Ik.symm.trans c16)
  obtain rfl:=A9 h;exact kO Z Fb (a:=.tup []) (objs:=[(.cells [.p (vSl 2 A0 q0)]),.cells ((B4 q1).map .p),.cells [pN q2],.cells [pN q3],.yld [] true]) [0,1,2,3,4] ⟨true,rfl,rfl,_,rfl⟩
 apply kI Z h<;>intro h
 .refine SE Z Fb h (λx5 x6 L6=>⟨[(10,pN x6),(6,.reg 7000 0),(5,.reg 6000 0),(4,.reg 3 0),(3,.reg 2 0),(2,.reg 1 0)],[(7000,.cells [.p (vSl 2 A0 x5)]),(6000,.cells [.yf 4]),(4,.yld (L6.map (λ(x:Int×(Sl Iu))=>[pI .i64 x.1,vSl 2 A0 x.2])) true),(3,.cells [pN q3]),(2,.cells [pN q2]),(1,.cells ((B4 q1).map .p)),(0,.cells [.p (vSl 2 A0 q0)])]⟩) (ids:=(Jt [0,1,2,3,4,6000,7000])) (λ_ _ _ _ _ t x5 x6 L6 c h=>?_);apply kI Z h<;>intro h
  .refine kC Z h (VE Z Y) (λv h=>?_);apply kI Z h<;>intro h
   .exact c _ (Jt [0,1,2,3,4,6000,7000]) _ x5 (wrap .i64 (x6+1)) L6 Fb h
   refine kC Z h (Ll Z Y) (λd h=>?_);obtain⟨L9,rfl,m⟩:=LP h;replace h:=m;refine Dm Z Fb (ys:=(λ(x:Int×(Sl Iu))=>[pI .i64 x.1,vSl 2 A0 x.2]) (x6,d)) (rest:=L9.map (λ(x:Int×(Sl Iu))=>[pI .i64 x.1,vSl 2 A0 x.2])) ?_ ?_
   .refine C9 Z Fb (b:=false) (λc30=>?_) (λc30=>?_)
    .exact Bool.noConfusion ((rfl:false=false).symm.trans c30)
    apply kI Z h<;>intro h
    .exact c _ (Jt [0,1,2,3,4,6000,7000]) _ d (wrap .i64 ((wrap .i64 (x6+q3))+1)) L9 Fb h
    exact c _ (Jt [0,1,2,3,4,6000,7000]) _ d (wrap .i64 (x6+q3)) L9 Fb h
   refine C9 Z Fb (b:=true) (λc32=>?_) (λc32=>?_)
   .exact kO Z Fb (a:=.tup []) (objs:=[(.cells [.p (vSl 2 A0 q0)]),.cells ((B4 q1).map .p),.cells [pN q2],.cells [pN q3],.yld [] false]) [0,1,2,3,4] ⟨false,rfl,rfl,_,rfl⟩
   exact Bool.noConfusion (Ik.symm.trans c32)
  obtain rfl:=A9 h;exact kO Z Fb (a:=.tup []) (objs:=[(.cells [.p (vSl 2 A0 q0)]),.cells ((B4 q1).map .p),.cells [pN q2],.cells [pN q3],.yld [] true]) [0,1,2,3,4] ⟨true,rfl,rfl,_,rfl⟩
 apply kI Z h<;>intro h
 .refine SE Z Fb h (λx7 x8 L10=>⟨[(11,pN x8),(6,.reg 7000 0),(5,.reg 6000 0),(3,.reg 2 0),(2,.reg 1 0)],[(7000,.cells [.p (vSl 2 A0 x7)]),(6000,.cells [.yf 4]),(4,.yld (L10.map (λ(x:Int×(Sl Iu))=>[pI .i64 x.1,vSl 2 A0 x.2])) true),(3,.cells [pN q3]),(2,.cells [pN q2]),(1,.cells ((B4 q1).map .p)),(0,.cells [.p (vSl 2 A0 q0)])]⟩) (ids:=(Jt [0,1,2,3,4,6000,7000])) (λ_ _ _ _ _ u x7 x8 L10 o h=>?_);apply kI Z h<;>intro h
  .refine kC Z h (VE Z Y) (λw h=>?_);apply kI Z h<;>intro h
   .exact o _ (Jt [0,1,2,3,4,6000,7000]) _ x7 (wrap .i64 (x8-1)) L10 Fb h
   refine kC Z h (Ll Z Y) (λq h=>?_);obtain⟨L13,rfl,f⟩:=LP h;replace h:=f;refine Dm Z Fb (ys:=(λ(x:Int×(Sl Iu))=>[pI .i64 x.1,vSl 2 A0 x.2]) (x8,q)) (rest:=L13.map (λ(x:Int×(Sl Iu))=>[pI .i64 x.1,vSl 2 A0 x.2])) ?_ ?_
   .refine C9 Z Fb (b:=false) (λc44=>?_) (λc44=>?_)
    .exact Bool.noConfusion ((rfl:false=false).symm.trans c44)
    exact o _ (Jt [0,1,2,3,4,6000,7000]) _ q (wrap .i64 (x8-(if q2<1 then 1 else q2))) L13 Fb h
   refine C9 Z Fb (b:=true) (λc45=>?_) (λc45=>?_)
   .exact kO Z Fb (a:=.tup []) (objs:=[(.cells [.p (vSl 2 A0 q0)]),.cells ((B4 q1).map .p),.cells [pN q2],.cells [pN q3],.yld [] false]) [0,1,2,3,4] ⟨false,rfl,rfl,_,rfl⟩
   exact Bool.noConfusion (Ik.symm.trans c45)
  obtain rfl:=A9 h;exact kO Z Fb (a:=.tup []) (objs:=[(.cells [.p (vSl 2 A0 q0)]),.cells ((B4 q1).map .p),.cells [pN q2],.cells [pN q3],.yld [] true]) [0,1,2,3,4] ⟨true,rfl,rfl,_,rfl⟩
 obtain rfl:=A9 h;exact kO Z Fb (a:=.tup []) (objs:=[(.cells [.p (vSl 2 A0 q0)]),.cells ((B4 q1).map .p),.cells [pN q2],.cells [pN q3],.yld [] true]) [0,1,2,3,4] ⟨true,rfl,rfl,_,rfl⟩
def Lm (N:Nat)(a:Law)(b:Sl Iu):Option ((Sl Iu)×Law×Int×Int):= some (b,a,(a.If.n:Int),(a.Out.n:Int))
theorem Am3 {b:Law}{c:Sl Iu}{y:(Sl Iu)×Law×Int×Int}(h:Lm N b c=some y) :FunO S Vt [.p (.agg (B4 b)),.p (vSl 2 A0 c)] [] (.clo Kc [] [.reg 0 0,.reg 1 0,.reg 2 0,.reg 3 0]) ([.cells [.p (vSl 2 A0 y.1)],.cells ((B4 y.2.1).map .p),.cells [pN y.2.2.1],.cells [pN y.2.2.2]]) []:=by unfold Lm at h;refine A2 Z func200 ?_;refine G4 Z Fb [(1,.l [3000]),(2,.n),(4,.l [3000]),(5,.n),(6,.a [6000]),(7,.a [7000]),(8,.a [6000]),(9,.a [7000])] ?_;refine D6 Fb ?_;obtain rfl:=A9 h;exact kO Z Fb [4000,3000,6000,7000]
def Fk (N:Nat)(b:Law)(c:Sl Iu):Option ((Sl Int)×(Sl (Sl Iu))×Int):= (Fj N b c).bind λy1=>if (y1 != 0) then some (Io,(Sl.nil:Sl (Sl Iu)),y1) else (Lm N b c).bind λy2=>(Du N y2.1 y2.2.1 y2.2.2.1 y2.2.2.2).bind λL1=>S9 L1 (λa (x1:Int×(Sl Iu)) (z1:(Sl Int)×(Sl (Sl Iu)))=>if (decide (32<(x1.2.n:Int))) then some (Io,(Sl.nil:Sl (Sl Iu)),11) else if (Kb 8 (z1.1.n+(Sl.of [x1.1]:Sl Int).n))then if (Kb 24 (z1.2.n+(Sl.of [x1.2]:Sl (Sl Iu)).n))then a (z1.1.push x1.1,z1.2.push x1.2) else none else none) (λ(z1:(Sl Int)×(Sl (Sl Iu)))=>some (z1.1,z1.2,0)) (Io,(Sl.nil:Sl (Sl Iu)))
theorem XG {b:Law}{c:Sl Iu}{y:(Sl Int)×(Sl (Sl Iu))×Int}(h:Fk N b c=some y) :FunO S Pc [.p (.agg (B4 b)),.p (vSl 2 A0 c)] [] (.tup [.vec 0,.vec 1,pN y.2.2]) ([oV E5 1 (cI .i64) y.1 true,oV U2 1 (cL 2 A0) y.2.1 true]) []:=by
 unfold Fk at h;refine A2 Z func196 ?_;refine F9 Z Fb 4 3000 (B4 b) ?_;obtain⟨y1,e1,h⟩:=A7 h;refine B3 Z [] Ii (XE Z Y e1) ?_;apply kI Z h<;>intro h
 .obtain rfl:=A9 h;exact J5 Z Fb ⟨[(6,.reg 7000 0),(5,.reg 6000 0),(4,.reg 5000 0)],[(7000,.cells [pN y1]),(6701,.vec U2 1 (Sl.nil:Sl (Sl Iu)).n (λi=>cL 2 A0 ((Sl.nil:Sl (Sl Iu)).g i)) true),(6000,.cells [.vec 6701]),(5700,oV E5 1 (cI .i64) Io true),(5000,.cells [.vec 5700])]⟩ [5700,6701] (ids:=(Jt [5000,6000,7000])) ⟨rfl,rfl,rfl⟩
 obtain⟨y2,e2,h⟩:=A7 h;refine B3 Z [] Ii (Am3 Z Y e2) ?_;obtain⟨L1,e3,h⟩:=A7 h;refine GR Z Fb [21000,21001,21002,21003] [9,8,6,5,4] 901 (λz1=>⟨[(9,.reg 10000 0),(8,.reg 9000 0),(6,.reg 7000 0),(5,.reg 6000 0),(4,.reg 5000 0)],[(10500,oV U2 1 (cL 2 A0) z1.2 false),(10000,.cells [.vec 10500]),(9500,oV E5 1 (cI .i64) z1.1 false),(9000,.cells [.vec 9500]),(7000,.cells [pN 0]),(6000,.cells [.p C8]),(5000,.cells [.p C8])]⟩) (idl:=(Jt [5000,6000,7000,9000,10000])) h (XF Z Y e3) (λ_=>by kernel_rfl) (λ_=>by kernel_rfl) (λ_=>by kernel_rfl) (λ_=>by kernel_rfl) (λx1 _ d z1 f h=>?_) (λz1 h=>?_)
 .refine JV Z Fb ?_;apply kI Z h<;>intro h
  .refine NA Z Fb ⟨[(9,.reg 10000 0),(8,.reg 9000 0),(6,.reg 7000 0),(5,.reg 6000 0),(4,.reg 5000 0)],[(10500,oV U2 1 (cL 2 A0) z1.2 false),(10000,.cells [.vec 10500]),(9500,oV E5 1 (cI .i64) z1.1 false),(9000,.cells [.vec 9500]),(7000,.cells [pN 11]),(6000,.cells [.p C8]),(5000,.cells [.p C8])]⟩ (ids:=(Jt [901,5000,6000,7000,9000,9500,10000,10500])) ?_;obtain rfl:=A9 h;exact J5 Z Fb ⟨[(6,.reg 7000 0),(5,.reg 6000 0),(4,.reg 5000 0)],[(7000,.cells [pN 11]),(6701,.vec U2 1 (Sl.nil:Sl (Sl Iu)).n (λi=>cL 2 A0 ((Sl.nil:Sl (Sl Iu)).g i)) true),(6000,.cells [.vec 6701]),(5700,oV E5 1 (cI .i64) Io true),(5000,.cells [.vec 5700])]⟩ [5700,6701] (ids:=(Jt [5000,6000,7000])) ⟨rfl,rfl,rfl⟩
  refine G4 Z Fb [(0,.l [9000]),(3,.a [30000,9500]),(4,.l [10000]),(7,.a [34000,10500]),(8,.a [9000]),(9,.a [10000])] ?_;refine N0 Fb (x:=.sl true 1 1 (H9 [pI .i64 0] [(0,cI .i64 x1.1)])) ?_;obtain⟨c9,h⟩:=D1 h;refine N0 c9 (x:=.sl true 1 1 (H9 [C8] [(0,cL 2 A0 x1.2)])) ?_;obtain⟨c10,h⟩:=D1 h;refine D6 c10 ?_;exact f _ [(901,901),(5000,5000),(6000,6000),(7000,7000),(9000,9000),(9500,30000),(10000,10000),(10500,34000)] _ (z1.1.push x1.1,z1.2.push x1.2) Fb h (hle:=kl2 0 1 (W6 (cL 2 A0) z1.2 x1.2 [C8]) (W6 (cI .i64) z1.1 x1.1 [pI .i64 0]))
 refine G4 Z Fb [(0,.l [9000]),(1,.l [10000]),(2,.a [5000]),(3,.a [6000]),(4,.a [7000])] ?_;refine D6 Fb ?_;obtain rfl:=A9 h;exact J5 Z Fb ⟨[(6,.reg 7000 0),(5,.reg 6000 0),(4,.reg 5000 0)],[(10500,oV U2 1 (cL 2 A0) z1.2 true),(9500,oV E5 1 (cI .i64) z1.1 true),(7000,.cells [pN 0]),(6000,.cells [.vec 10500]),(5000,.cells [.vec 9500])]⟩ [9500,10500] (ids:=(Jt [5000,6000,7000,9500,10500])) ⟨rfl,rfl,rfl⟩
def Cm (N:Nat)(b:Law)(a:Sl Iu):Option ((Sl Iu)×Int):= (Fk N b a).bind λy1=>if (y1.2.2 != 0) then some ((Sl.nil:Sl Iu),y1.2.2) else if (decide (0<(y1.2.1.n:Int))) then if (((0:Int)<=(wrap .i64 ((y1.2.1.n:Int)-1))/\(wrap .i64 ((y1.2.1.n:Int)-1))<(y1.2.1.n:Int))/\(wrap .i64 ((y1.2.1.n:Int)-1)).toNat<y1.2.1.n)then some (y1.2.1.g (wrap .i64 ((y1.2.1.n:Int)-1)).toNat,0) else none else (A6 N a).bind λy2=>some (y2,0)
theorem XH {a:Law}{b:Sl Iu}{y:(Sl Iu)×Int}(h:Cm N a b=some y) :FunO S Pb [.p (.agg (B4 a)),.p (vSl 2 A0 b)] [] (.tup [.p (vSl 2 A0 y.1),pN y.2]) ([]) []:=by
 unfold Cm at h;refine A2 Z func188 ?_;refine kC Z h (XG Z Y) (λy1 h=>?_);apply kI Z h<;>intro h
 .obtain rfl:=A9 h;exact kO Z Fb []
 apply kI Z h<;>intro h
 .obtain⟨c3,h⟩:=D1 h;obtain rfl:=A9 h;exact Aj7 Z c3 [] ⟨rfl,rfl,rfl⟩
 refine kC Z h (Q1 Z Y) (λy2 h=>?_);obtain rfl:=A9 h;exact kO Z Fb []
end Go.AM
namespace Go.AM
open Go.Proofs.Tryz
variable {N:Nat}
open IntKind (wrap)
open Go.Proofs
set_option maxRecDepth 10000
set_option maxHeartbeats 2000000
variable {S:V2}(Z:G8 S Tryz.prog) (Y:Kd S)
include Z Y
def T1 (N:Nat)(a:Law):Option Bool:= (Ay N a).bind λy1=>some (y1 != 0)
theorem Nk {a:Law}{y:Bool}(h:T1 N a=some y) :FunO S HA [.p (.agg (B4 a))] [] (pB y) ([]) []:=by unfold T1 at h;refine A2 Z func149 ?_;refine kC Z h (Ha Z Y) (λy1 h=>?_);cases h;exact kR Z
def G1 (N:Nat)(a:Sl Law)(c:Law->Option Bool):Option Int:= Y3 N (λb (x1:Int)=>if (decide (x1<(a.n:Int))) then if ((0:Int)<=x1/\x1<(a.n:Int))then (c (a.g x1.toNat)).bind λy3=>if y3 then some x1 else b (wrap .i64 (x1+1)) else none else some (-1)) 0
theorem Bv {a:Sl Law}{c:Law->Option Bool}{kp_f:Nat}(d:∀{a0:Law}{b:Bool},c a0=some b->FunO S kp_f [.p (.agg (B4 a0))] [] (pB b) [] []){y:Int}(h:G1 N a c=some y) :FunO S Q0 [.p (vSl 18 B4 a),.clo kp_f [] []] [] (pN y) ([]) []:=by
 unfold G1 at h;refine A2 Z func186 ?_;refine R8 Z Fb h (λx1=>⟨[(8,pN x1),(7,pN (a.n:Int)),(1,.clo kp_f [] []),(0,.p (vSl 18 B4 a))],[]⟩) (ids:=[]) (λ_ _ _ _ _ f x1 g h=>?_);apply kI Z h<;>intro h
 .obtain⟨c8,h⟩:=D1 h;obtain⟨y3,e3,h⟩:=A7 h;refine B3 Z [] (And.intro c8 Ii) (d e3) ?_;apply kI Z h<;>intro h
  .cases h;exact kR Z
  exact g _ [] _ (wrap .i64 (x1+1)) Fb h
 cases h;exact kR Z
def D4 (N:Nat)(a:Sl Law)(b:Law->Option Bool):Option Bool:= (G1 N a b).bind λy1=>some (decide (0<=y1))
theorem Ak {a:Sl Law}{c:Law->Option Bool}{kp_f:Nat}(d:∀{a0:Law}{b:Bool},c a0=some b->FunO S kp_f [.p (.agg (B4 a0))] [] (pB b) [] []){y:Bool}(h:D4 N a c=some y) :FunO S O3 [.p (vSl 18 B4 a),.clo kp_f [] []] [] (pB y) ([]) []:=by unfold D4 at h;refine A2 Z func148 ?_;refine kC Z h (Bv Z Y (λe=>d e)) (λy1 h=>?_);cases h;exact kR Z
def BV (N:Nat)(a:Sl Law):Option Int:= if (decide (64<(a.n:Int))) then some 12 else (D4 N a (λ(u1:Law)=>T1 N u1)).bind λy1=>if y1 then some 17 else some 0
theorem QB {a:Sl Law}{y:Int}(h:BV N a=some y) :FunO S Jv [.p (vSl 18 B4 a)] [] (pN y) ([]) []:=by
 unfold BV at h;refine A2 Z func108 ?_;apply kI Z h<;>intro h
 .cases h;exact kR Z
 refine kC Z h (Ak Z Y (λe=>Nk Z Y e)) (λy1 h=>?_);apply kI Z h<;>intro h
 .cases h;exact kR Z
 cases h;exact kR Z
def BW (N:Nat)(b:Sl Law)(a:Sl (Sl Iu)):Option Int:= (BV N b).bind λy1=>if (y1 != 0) then some y1 else if (decide (256<(a.n:Int))) then some 12 else Y3 N (λc (x1:Int)=>if (decide (x1<(a.n:Int))) then if ((0:Int)<=x1/\x1<(a.n:Int))then (W8 N (a.g x1.toNat)).bind λy4=>if (y4 != 0) then some y4 else c (wrap .i64 (x1+1)) else none else some 0) 0
theorem QC {b:Sl Law}{a:Sl (Sl Iu)}{y:Int}(h:BW N b a=some y) :FunO S Jq [.p (vSl 18 B4 b),.p (vSl 1 (cL 2 A0) a)] [] (pN y) ([]) []:=by
 unfold BW at h;refine A2 Z func69 ?_;refine kC Z h (QB Z Y) (λy1 h=>?_);apply kI Z h<;>intro h
 .cases h;exact kR Z
 apply kI Z h<;>intro h
 .cases h;exact kR Z
 refine R8 Z Fb h (λx1=>⟨[(19,pN x1),(18,pN (a.n:Int)),(17,.p (vSl 1 (cL 2 A0) a))],[]⟩) (ids:=[]) (λ_ _ _ _ _ c x1 d h=>?_);apply kI Z h<;>intro h
 .obtain⟨c10,h⟩:=D1 h;obtain⟨y4,e4,h⟩:=A7 h;refine B3 Z [] c10 (DR Z Y e4) ?_;apply kI Z h<;>intro h
  .cases h;exact kR Z
  exact d _ [] _ (wrap .i64 (x1+1)) Fb h
 cases h;exact kR Z
end Go.AM
namespace Go.AM
open Go.Proofs.Tryz
variable {N:Nat}
open IntKind (wrap)
open Go.Proofs
set_option maxRecDepth 10000
set_option maxHeartbeats 2000000
variable {S:V2}(Z:G8 S Tryz.prog) (Y:Kd S)
include Z Y
def AA2 (c:Int):Option PV:=if c=0 then none else some (.iface 261 (pI .i64 c))
def BZ (N:Nat)(c:Int)(q0:Sl Iu)(q1:Sl Law):Option (List (Int×(Sl Iu))):= (A6 N q0).bind λy1=>Ag (0,y1) (Bj N (λa (x1:Sl Iu) (x2:Int)=>if (decide (x2<(q1.n:Int))) then if ((0:Int)<=x2/\x2<(q1.n:Int))then (Cm N (q1.g x2.toNat) x1).bind λy4=>if (y4.2 != 0) then if y4.2=c then some []else none else Ag (wrap .i64 (x2+1),y4.1) (a y4.1 (wrap .i64 (x2+1))) else none else if c=0 then some []else none) y1 0)
theorem HC {q0:Sl Iu}{q1:Sl Law}{c:Int}{L:List (Int×(Sl Iu))}(h:BZ N c q0 q1=some L) :Oz S Y8 [] [.reg 0 0,.reg 1 0] [.cells [.p (vSl 2 A0 q0)],.cells [.p (vSl 18 B4 q1)]] (L.map (λ(x:Int×(Sl Iu))=>[pI .i64 x.1,vSl 2 A0 x.2])) (AA2 c):=by
 unfold BZ at h;refine Ak2 Z func187 ?_;refine kC Z h (Q1 Z Y) (λy1 h=>?_);obtain⟨L1,rfl,d⟩:=LP h;replace h:=d;refine Dm Z Fb (ys:=(λ(x:Int×(Sl Iu))=>[pI .i64 x.1,vSl 2 A0 x.2]) (0,y1)) (rest:=L1.map (λ(x:Int×(Sl Iu))=>[pI .i64 x.1,vSl 2 A0 x.2])) ?_ ?_
 .refine C9 Z Fb (b:=false) (λc1=>?_) (λc1=>?_)
  .exact Bool.noConfusion ((rfl:false=false).symm.trans c1)
  refine SE Z Fb h (λx1 x2 L2=>⟨[(17,pN x2),(16,pN (q1.n:Int)),(15,.p (vSl 18 B4 q1)),(4,.p (vSl 2 A0 x1)),(0,.yf 2)],[(2,.yld (L2.map (λ(x:Int×(Sl Iu))=>[pI .i64 x.1,vSl 2 A0 x.2])) true),(1,.cells [.p (vSl 18 B4 q1)]),(0,.cells [.p (vSl 2 A0 q0)])]⟩) (ids:=(Jt [0,1,2])) (λ_ _ _ _ _ g x1 x2 L2 i h=>?_);apply kI Z h<;>intro h
  .obtain⟨c13,h⟩:=D1 h;obtain⟨y4,e4,h⟩:=A7 h;refine B3 Z [] (And.intro c13 Ii) (XH Z Y e4) ?_;refine C9 Z Fb (b:=y4.2 != 0) (λc14=>?_) (λc14=>?_)
   .replace h:=itT c14 h;obtain⟨c0,h⟩:=D1 h;obtain rfl:=A9 h;have j:AA2 c=some (.iface 261 (pI .i64 y4.2)):=by
     have:¬y4.2=0:=by simpa using c14
     rw[<- c0];simp[AA2,this]
    refine AO1 Z Fb (x:=.iface 261 (pI .i64 y4.2)) ?_;exact AG8 Z Fb (x:=.iface 261 (pI .i64 y4.2)) (objs:=[(.cells [.p (vSl 2 A0 q0)]),.cells [.p (vSl 18 B4 q1)],.yld [] true]) [0,1,2] ⟨true,rfl,rfl,λ_=>by rw[j];rfl,λe=>nomatch e⟩
   replace h:=itF c14 h;obtain⟨L5,rfl,f⟩:=LP h;replace h:=f;refine Dm Z Fb (ys:=(λ(x:Int×(Sl Iu))=>[pI .i64 x.1,vSl 2 A0 x.2]) (wrap .i64 (x2+1),y4.1)) (rest:=L5.map (λ(x:Int×(Sl Iu))=>[pI .i64 x.1,vSl 2 A0 x.2])) ?_ ?_
   .refine C9 Z Fb (b:=false) (λc15=>?_) (λc15=>?_)
    .exact Bool.noConfusion ((rfl:false=false).symm.trans c15)
    exact i _ (Jt [0,1,2]) _ y4.1 (wrap .i64 (x2+1)) L5 Fb h
   refine C9 Z Fb (b:=true) (λc16=>?_) (λc16=>?_)
   .exact kO Z Fb (a:=.tup []) (objs:=[(.cells [.p (vSl 2 A0 q0)]),.cells [.p (vSl 18 B4 q1)],.yld [] false]) [0,1,2] ⟨false,rfl,rfl,λe=>(nomatch e),λ_=>⟨_,rfl⟩⟩
   exact Bool.noConfusion (Ik.symm.trans c16)
  obtain⟨c0,h⟩:=D1 h;obtain rfl:=A9 h;exact kO Z Fb (a:=.tup []) (objs:=[(.cells [.p (vSl 2 A0 q0)]),.cells [.p (vSl 18 B4 q1)],.yld [] true]) [0,1,2] ⟨true,rfl,rfl,λ_=>by subst c0;exact⟨_,rfl⟩,λe=>(nomatch e)⟩
 refine C9 Z Fb (b:=true) (λc17=>?_) (λc17=>?_)
 .exact kO Z Fb (a:=.tup []) (objs:=[(.cells [.p (vSl 2 A0 q0)]),.cells [.p (vSl 18 B4 q1)],.yld [] false]) [0,1,2] ⟨false,rfl,rfl,λe=>(nomatch e),λ_=>⟨_,rfl⟩⟩
 exact Bool.noConfusion (Ik.symm.trans c17)
def DI (N:Nat)(a:Sl Law)(b:Sl Iu):Option ((Sl Iu)×(Sl Law)):= some (b,a)
theorem JC {a:Sl Law}{b:Sl Iu}{y:(Sl Iu)×(Sl Law)}(h:DI N a b=some y) :FunO S Jy [.p (vSl 18 B4 a),.p (vSl 2 A0 b)] [] (.clo Y8 [] [.reg 0 0,.reg 1 0]) ([.cells [.p (vSl 2 A0 y.1)],.cells [.p (vSl 18 B4 y.2)]]) []:=by unfold DI at h;refine A2 Z func150 ?_;obtain rfl:=A9 h;exact kO Z Fb [4000,3000]
def K5 (N:Nat)(c:Int)(a:Sl Law)(d:Sl Iu):Option (Sl Iu):= (DI N a d).bind λy1=>(BZ N c y1.1 y1.2).bind λL1=>S9 L1 (λb (x1:Int×(Sl Iu)) (z1:Sl Iu)=>b x1.2) (λ(z1:Sl Iu)=>some z1) (Sl.nil:Sl Iu)
theorem LY {a:Sl Law}{b:Sl Iu}{y:Sl Iu}(h:K5 N 0 a b=some y) :FunO S K4 [.p (vSl 18 B4 a),.p (vSl 2 A0 b)] [] (.p (vSl 2 A0 y)) ([]) []:=by
 unfold K5 at h;refine A2 Z func111 ?_;refine kC Z h (JC Z Y) (λy1 h=>?_);obtain⟨L1,e2,h⟩:=A7 h;have f:Oz S Y8 [] [.reg 0 0,.reg 1 0] [.cells [.p (vSl 2 A0 y1.1)],.cells [.p (vSl 18 B4 y1.2)]] (L1.map (λ(x:Int×(Sl Iu))=>[pI .i64 x.1,vSl 2 A0 x.2])) none:=HC Z Y e2;refine YY Z Fb [8000,8001] [4] 901 (λz1=>⟨[(4,.reg 5000 0)],[(5000,.cells [.p (vSl 2 A0 z1)])]⟩) (idl:=[(5000,5000)]) h f (λ_=>by kernel_rfl) (λ_=>by kernel_rfl) (λ_=>by kernel_rfl) (λ_=>by kernel_rfl) (λx1 _ c z1 d h=>?_) (λz1 h=>?_)
 .refine JV Z Fb ?_;exact d _ (Jt [901,5000]) _ x1.2 Fb h
 cases h;exact kR Z
theorem LZ {c:Int}{a:Sl Law}{b:Sl Iu}{y:Sl Iu}(hc:c≠0)(h:K5 N c a b=some y) :S.F K4 [.p (vSl 18 B4 a),.p (vSl 2 A0 b)] [] λres o k=>res=.panic (.iface 261 (pI .i64 c))/\o=[]/\k=[]:=by
 unfold K5 at h;refine Ay9 Z func111 ?_;refine kC Z h (JC Z Y) (λy1 h=>?_);obtain⟨L1,e2,h⟩:=A7 h;have g:Oz S Y8 [] [.reg 0 0,.reg 1 0] [.cells [.p (vSl 2 A0 y1.1)],.cells [.p (vSl 18 B4 y1.2)]] (L1.map (λ(x:Int×(Sl Iu))=>[pI .i64 x.1,vSl 2 A0 x.2])) (some (.iface 261 (pI .i64 c))):=by
  have:=HC Z Y e2
  simpa[AA2,hc]using this
 refine YY Z Fb [8000,8001] [4] 901 (λz1=>⟨[(4,.reg 5000 0)],[(5000,.cells [.p (vSl 2 A0 z1)])]⟩) (idl:=[(5000,5000)]) h g (λ_=>by kernel_rfl) (λ_=>by kernel_rfl) (λ_=>by kernel_rfl) (λ_=>by kernel_rfl) (λx1 _ d z1 f h=>?_) (λz1 h=>?_)
 .refine JV Z Fb ?_;exact f _ (Jt [901,5000]) _ x1.2 Fb h
 exact AG8 Z Fb (x:=.iface 261 (pI .i64 c)) (objs:=[]) [] ⟨rfl,rfl,rfl⟩
def Ca (N:Nat)(a:Sl Law)(b:Sl Iu):Option ((Sl Iu)×Bool):=
 match K5 N 0 a b with
 |some y=>some (y,true)
 |none=>(K5 N 11 a b).bind λ_=>some ((Sl.nil:Sl Iu),false)
theorem Nl {b:Sl Law}{c:Sl Iu}{y:(Sl Iu)×Bool}(h:Ca N b c=some y) :FunO S Ht [.p (vSl 18 B4 b),.p (vSl 2 A0 c)] [] (.tup [.p (vSl 2 A0 y.1),pB y.2]) ([]) []:=by
 unfold Ca at h;refine A2 Z func70 ?_;rcases e:K5 N 0 b c with _|z
 .rw[e]at h;obtain⟨z,e1,h⟩:=A7 h;obtain rfl:=A9 h;refine B3 Z [7000,3000,4000,5000] Fb (Y.attP (LZ Z Y (by decide) e1)) ?_;refine G4 Z Fb [(0,.l [5000]),(1,.l [7000]),(3,.a [5000])] ?_;refine D6 Fb ?_;exact J5 Z Fb ⟨[(5,pB false),(4,.reg 5000 0)],[(5000,.cells [.p (vSl 2 A0 Sl.nil)])]⟩ [] (ids:=[(5000,5000)]) ⟨rfl,rfl,rfl⟩
 rw[e]at h;obtain rfl:=A9 h;refine B3 Z [7000,3000,4000,5000] Fb (Y.attR (LY Z Y e)) ?_;refine G4 Z Fb [(0,.l [5000]),(1,.l [7000]),(3,.a [5000])] ?_;refine D6 Fb ?_;exact J5 Z Fb ⟨[(5,pB true),(4,.reg 5000 0)],[(5000,.cells [.p (vSl 2 A0 z)])]⟩ [] (ids:=[(5000,5000)]) ⟨rfl,rfl,rfl⟩
end Go.AM
namespace Go.AM
open Go.Proofs
set_option maxRecDepth 10000
set_option maxHeartbeats 2000000
variable {S:V2}(Z:G8 S Tryz.prog) (Y:Kd S)
include Z Y
def S5 (N:Nat)(a:Sl Law)(b:Sl Iu):Option ((Sl Iu)×Int):= (BW N a (Sl.of [b]:Sl (Sl Iu))).bind λy1=>if (y1 != 0) then some ((Sl.nil:Sl Iu),y1) else (Ca N a b).bind λy2=>if (!y2.2) then some ((Sl.nil:Sl Iu),11) else some (y2.1,0)
theorem Fl {N:Nat}{a:Sl Law}{b:Sl Iu}{y:(Sl Iu)×Int}(h:S5 N a b=some y) :FunO S Ie [.p (vSl 18 B4 a),.p (vSl 2 A0 b)] [] (.tup [.p (vSl 2 A0 y.1),pN y.2]) ([]) []:=by
 unfold S5 at h;refine A2 Z Tryz.func39 ?_;refine KI Z Ik ⟨[(11,.vec 12000),(9,.p (vSl 18 B4 a)),(1,.p (vSl 2 A0 b)),(0,.p (vSl 18 B4 a))],[(12000,.vec U2 1 (Sl.of [b]:Sl (Sl Iu)).n (λi=>cL 2 A0 ((Sl.of [b]:Sl (Sl Iu)).g i)) false)]⟩ (ids:=[(12000,12000)]) ?_ (hle:=kl1 3 (Aa5 (cL 2 A0) ([b]:List (Sl Iu)) [C8]));refine kC Z h (QC Z Y) (λy1 h=>?_);apply kI Z h<;>intro h
 .obtain rfl:=A9 h;exact kO Z Fb []
 refine kC Z h (Nl Z Y) (λy2 h=>?_);apply kI Z h<;>intro h
 .obtain rfl:=A9 h;exact kO Z Fb []
 cases h;exact kR Z
end Go.AM
