/- What a law's walk and its plain proof need, part 5: no condition of its own. -/
import Derived.Test.YtfcfdofmgkpmbaaGreatDoorND
import Derived.Test.YtfcfdofmgkpmbaaGreatDoorNC
import Derived.RecoverIn
import Derived.Test.YtfcfdofmgkpmbaaGreatDoorProg
import Derived.Lib.SlTrimSet
import Derived.TacticsInMore
set_option linter.defProp false
set_option linter.unusedSimpArgs false
set_option linter.unusedVariables false
set_option linter.unusedSectionVars false
namespace Go.AM
noncomputable abbrev AJ8:=Go.Proofs.Tryz.prog.funcs
def AT3:=@BitVec.toNat_ofNat
def Af8 (D:List Deferred)(a:Act):Act:={ a with defers:=a.defers++D }
theorem Ge (D:List Deferred)(a:Act)(d:Option Tmp)(v:Value):(Af8 D a).put d v=Af8 D (a.put d v):=by cases d<;>rfl
theorem JL {F:Fence}{n:Nat}{P:Program}{ops:Array Oper}{Q:Exit->Act->World->Prop}(D:List Deferred):∀(l:List Nat) (a:Act) (w:World),wpOpsIn F n P ops Q l a w ->
 wpOpsIn F n P ops (fun e a' w'=>∃a0,a' = Af8 D a0/\Q e a0 w') l (Af8 D a) w
 |[],a,w,h=>⟨a,rfl,h⟩
 |i::l,a,w,h=>by
  have ih:=JL (F:=F) (n:=n) (P:=P) (ops:=ops) (Q:=Q) D l;simp only[wpOpsIn]at h⊢;have e1:(Af8 D a).eval=a.eval:=by funext x;cases x<;>rfl
  have e2:(Af8 D a).tmps=a.tmps:=rfl;cases j:ops[i]? with
  |none=>simp only[j]at h⊢;exact ih a w h
  |some o=>
   simp only[j]at h⊢;rw[e2,e1];by_cases hw:Region.wanted o (yielded ops a.tmps)=true
   .rw[Az hw]at h⊢;refine⟨by rw[e1];exact h.1,?_⟩;have b:=h.2;rw[e1];generalize (o.semAt F.round a.eval).run P w=r at b;unfold Oper.uponIn at b⊢;split at b
    .rw[Ge];exact ih _ _ b
    .rw[Ge];exact ih _ _ b
    .exact ih _ _ b |> fun x=>by
      rename_i d w'
      have:({ (Af8 D a)with defers:=d::(Af8 D a).defers }:Act).put o.dst undef=Af8 D (({ a with defers:=d::a.defers }:Act).put o.dst undef):=by rw[<- Ge];rfl
      rw[this];exact x
    .refine⟨b.1,b.2.mono ?_⟩;intro e w' f;cases e with
     |returned v=>have:=ih _ _ f;rw[<- Ge]at this;exact this
     |panicked ch=>exact⟨a,rfl,f⟩
     |outgrown=>obtain⟨a1,w1,g⟩:=f;exact⟨Af8 D a1,w1,a1,rfl,g⟩
    .refine⟨b.1,fun c cs m=>?_⟩;obtain⟨v,w',g1,g2⟩:=b.2 c cs m;exact⟨v,w',by have:=ih _ _ g1;rw[<- Ge]at this;exact this,g2⟩
    .refine⟨b.1,b.2.mono ?_⟩;intro e w' f;cases e with
     |returned v=>have:=ih _ _ f;rw[<- Ge]at this;exact this
     |panicked ch=>exact⟨a,rfl,f⟩
     |outgrown=>obtain⟨a1,w1,g⟩:=f;exact⟨Af8 D a1,w1,a1,rfl,g⟩
    .exact⟨a,rfl,b⟩
    exact b.elim
   rw[Bb hw]at h⊢;rw[Ge];exact⟨h.1,ih _ _ h.2⟩
section
variable {P:Program}{C:Ctx}{st:St}{rho:Nat->Value}
theorem Gf {fn:Func}{R:Ending->World->Prop}{u:FrameMode}(c:u ≠ .run){tmps:Array Value}{D:List Deferred}(b:∀a w,Sat C st a w rho->a.tmps=tmps->LeavesInM Fence.wide 0 P fn tmps R D u w) :∀(ds:List Deferred) (a:Act) (w:World),a.defers=ds->a.tmps=tmps->Sat C st a w rho->LeavesInM Fence.wide 0 P fn tmps R (ds++D) u w
 |[],a,w,hd,ht,h=>b a w h ht
 |d::ds,a,w,hd,ht,h=>by obtain⟨r,w',h1,f,g⟩:=h.unmark hd;exact⟨c,.inl ⟨r,w',h1,f,Gf c b ds { a with defers:=ds } w' rfl ht g⟩⟩
end
end Go.AM
namespace Go.AM
structure A3 where
 Langs:Int
 Has:(Sl Int)
 deriving Inhabited
abbrev E5 (x:A3):List PV:=[(pI .i64 x.Langs),vSl 1 (cI .u64) x.Has]
structure C4 where
 a0:Int
 a1:Int
 deriving Inhabited,DecidableEq
abbrev H3 (x:C4):List PV:=[(pI .i64 x.a0),pI .i64 x.a1]
structure F5 where
 Parent:Int
 Name:Str
 deriving Inhabited,DecidableEq
abbrev D6 (x:F5):List PV:=[(pI .i64 x.Parent),.str x.Name]
structure Eg where
 Plus:Int
 Minus:Int
 deriving Inhabited,DecidableEq
abbrev A1 (x:Eg):List PV:=[(pI .u32 x.Plus),pI .u32 x.Minus]
inductive Pat where
 |nil
 |mk (Kind:Int) (Is:Eg) (Not:Bool) (Min:Int) (Max:Int) (n:Nat) (g:Nat->Pat)
instance:Inhabited Pat:=⟨.nil⟩
def Pat.Kind:Pat->Int
 |.nil=>0
 |.mk x _ _ _ _ _ _=>x
def Pat.Is:Pat->Eg
 |.nil=>default
 |.mk _ x _ _ _ _ _=>x
def Pat.Not:Pat->Bool
 |.nil=>false
 |.mk _ _ x _ _ _ _=>x
def Pat.Min:Pat->Int
 |.nil=>0
 |.mk _ _ _ x _ _ _=>x
def Pat.Max:Pat->Int
 |.nil=>0
 |.mk _ _ _ _ x _ _=>x
def Pat.L:Pat->Sl Pat
 |.nil=>⟨0,fun _=>.nil⟩
 |.mk _ _ _ _ _ n g=>⟨n,g⟩
def BY:Pat->Nat->List PV
 |.nil=>fun _=>[]
 |.mk _ _ _ _ _ n g=>fun i=>[(pI .i64 (g i).Kind),pI .u32 (g i).Is.Plus,pI .u32 (g i).Is.Minus,.bb (g i).Not,pI .i64 (g i).Min,pI .i64 (g i).Max,.sl false 7 (g i).L.n (BY (g i))]
abbrev B7 (x:Pat):List PV:=[(pI .i64 x.Kind),pI .u32 x.Is.Plus,pI .u32 x.Is.Minus,.bb x.Not,pI .i64 x.Min,pI .i64 x.Max,.sl false 7 x.L.n (BY x)]
def U8 (x:Pat):∀i,i<x.L.n->BY x i=B7 (x.L.g i):=by
 cases x with
 |nil=>intro i a;exact Bc (show i<0 from a) (by omega)
 |mk Kind Is Not Min Max n g=>exact fun _ _=>rfl
structure BD where
 From:Int
 Clear:Int
 Set:Eg
 Take:Int
 Of:Int
 deriving Inhabited,DecidableEq
abbrev S4 (x:BD):List PV:=[(pI .i64 x.From),pI .u32 x.Clear,pI .u32 x.Set.Plus,pI .u32 x.Set.Minus,pI .u32 x.Take,pI .i64 x.Of]
structure Law where
 Name:Str
 Left:Pat
 Right:Pat
 If:(Sl Eg)
 Out:(Sl BD)
 Mode:Int
 deriving Inhabited
abbrev B5 (x:Law):List PV:=[(.str x.Name),pI .i64 x.Left.Kind,pI .u32 x.Left.Is.Plus,pI .u32 x.Left.Is.Minus,.bb x.Left.Not,pI .i64 x.Left.Min,pI .i64 x.Left.Max,.sl false 7 x.Left.L.n (BY x.Left),pI .i64 x.Right.Kind,pI .u32 x.Right.Is.Plus,pI .u32 x.Right.Is.Minus,.bb x.Right.Not,pI .i64 x.Right.Min,pI .i64 x.Right.Max,.sl false 7 x.Right.L.n (BY x.Right),vSl 2 A1 x.If,vSl 6 S4 x.Out,pI .i64 x.Mode]
structure A9 where
 Tree:(Sl F5)
 Laws:(Sl Law)
 On:(Sl (Sl Int))
 deriving Inhabited
abbrev B1 (x:A9):List PV:=[(vSl 2 D6 x.Tree),vSl 18 B5 x.Laws,vSl 1 (cL 1 (cI .i64)) x.On]
inductive Part where
 |nil
 |sound (x:Eg) (no:Bool)
 |edge (e:Bool)
 |seq (n:Nat) (g:Nat->Part)
 |alt (n:Nat) (g:Nat->Part)
 |rep (o:Part) (mn mx:Int)
instance:Inhabited Part:=⟨.nil⟩
def Part.t:Part->Nat
 |.nil=>0
 |.sound _ _=>276
 |.edge _=>278
 |.seq _ _=>283
 |.alt _ _=>280
 |.rep _ _ _=>282
def Part.v:Part->PV
 |.nil=>.bb false
 |.sound x no=>.agg [pI .u32 x.Plus,pI .u32 x.Minus,.bb no]
 |.edge e=>.agg [.bb e]
 |.seq n g=>.agg [.sl false 1 n fun i=>[.iface (g i).t (g i).v]]
 |.alt n g=>.agg [.sl false 1 n fun i=>[.iface (g i).t (g i).v]]
 |.rep o mn mx=>.agg [.iface o.t o.v,pI .i64 mn,pI .i64 mx]
abbrev Hq (x:Part):PV:=.iface x.t x.v
abbrev Fy (x:Part):List PV:=[Hq x]
structure Af9 where
 is:Eg
 not:Bool
 deriving Inhabited,DecidableEq
abbrev Xy (x:Af9):List PV:=[(pI .u32 x.is.Plus),pI .u32 x.is.Minus,.bb x.not]
structure AA5 where
 end_:Bool
 deriving Inhabited,DecidableEq
abbrev AA6 (x:AA5):List PV:=[(.bb x.end_)]
structure Palt where
 l:(Sl Part)
 deriving Inhabited
abbrev AI6 (x:Palt):List PV:=[(vSl 1 Fy x.l)]
structure Prep where
 of:Part
 min:Int
 max:Int
 deriving Inhabited
abbrev AI7 (x:Prep):List PV:=[(Hq x.of),pI .i64 x.min,pI .i64 x.max]
structure Pseq where
 l:(Sl Part)
 deriving Inhabited
abbrev AI8 (x:Pseq):List PV:=[(vSl 1 Fy x.l)]
end Go.AM
namespace Go.AM
open Go.Proofs
abbrev NK:Nat:=15
abbrev Io:Nat:=17
abbrev Fz:Nat:=19
abbrev JM:Nat:=21
abbrev Ba:Nat:=23
abbrev V9:Nat:=24
abbrev Lr:Nat:=26
abbrev Ls:Nat:=29
abbrev JN:Nat:=31
abbrev Ip:Nat:=33
abbrev NL:Nat:=35
abbrev JO:Nat:=40
abbrev R8:Nat:=42
abbrev U3:Nat:=45
abbrev K7:Nat:=47
abbrev JP:Nat:=49
abbrev C5:Nat:=50
abbrev NM:Nat:=54
abbrev AH:Nat:=56
abbrev Bo:Nat:=57
abbrev GC:Nat:=58
abbrev FA:Nat:=59
abbrev DV:Nat:=61
abbrev NN:Nat:=62
abbrev O3:Nat:=64
abbrev Hr:Nat:=65
abbrev Hs:Nat:=70
abbrev Iq:Nat:=71
abbrev Ir:Nat:=72
abbrev Lt:Nat:=75
abbrev Iu:Nat:=76
abbrev Ht:Nat:=77
abbrev Hu:Nat:=78
abbrev NR:Nat:=81
abbrev Bp:Nat:=82
abbrev CS:Nat:=83
abbrev Gg:Nat:=85
abbrev NS:Nat:=87
abbrev Lu:Nat:=89
abbrev JQ:Nat:=90
abbrev Iv:Nat:=92
abbrev JR:Nat:=93
abbrev Iw:Nat:=94
abbrev O7:Nat:=97
abbrev H5:Nat:=98
abbrev R9:Nat:=99
abbrev Hv:Nat:=105
abbrev Lw:Nat:=108
abbrev Ix:Nat:=111
abbrev GD:Nat:=112
abbrev T4:Nat:=115
abbrev CF:Nat:=116
abbrev JS:Nat:=117
abbrev Qv:Nat:=118
abbrev JT:Nat:=119
abbrev JU:Nat:=120
abbrev NU:Nat:=121
abbrev Lx:Nat:=122
abbrev J6:Nat:=123
abbrev N1:Nat:=124
abbrev Ly:Nat:=125
abbrev Hx:Nat:=126
abbrev BS:Nat:=127
abbrev GE:Nat:=128
abbrev Iy:Nat:=139
abbrev K0:Nat:=140
abbrev U4:Nat:=141
abbrev J2:Nat:=142
abbrev W4:Nat:=146
abbrev EL:Nat:=147
abbrev Iz:Nat:=148
abbrev Q5:Nat:=149
abbrev L0:Nat:=150
abbrev P3:Nat:=151
abbrev JV:Nat:=152
abbrev Ax:Nat:=153
abbrev I0:Nat:=154
abbrev S7:Nat:=155
abbrev N2:Nat:=159
abbrev GG:Nat:=160
abbrev IA:Nat:=161
abbrev Lz:Nat:=171
abbrev F3:Nat:=172
abbrev P5:Nat:=174
abbrev S3:Nat:=175
abbrev NX:Nat:=176
abbrev NY:Nat:=182
abbrev NZ:Nat:=189
abbrev TZ:Nat:=190
abbrev Gh:Nat:=196
abbrev Qw:Nat:=197
abbrev O4:Nat:=198
abbrev Ua:Nat:=199
abbrev Ub:Nat:=200
abbrev JW:Nat:=201
abbrev Eu:Nat:=207
abbrev LA:Nat:=208
abbrev FB:Nat:=209
abbrev I9:Nat:=210
abbrev IB:Nat:=211
abbrev LB:Nat:=212
abbrev W8:Nat:=217
abbrev JX:Nat:=218
abbrev Oa:Nat:=219
abbrev Ob:Nat:=220
abbrev Oc:Nat:=221
abbrev JY:Nat:=227
abbrev JZ:Nat:=228
abbrev IC:Nat:=229
abbrev Hz:Nat:=234
abbrev Cr:Nat:=235
abbrev Bh:Nat:=236
abbrev CG:Nat:=259
abbrev DX:Nat:=260
abbrev EM:Nat:=261
abbrev Gi:Nat:=262
abbrev Ev:Nat:=263
abbrev Gj:Nat:=264
abbrev HD:Nat:=265
abbrev AK:Nat:=266
abbrev Gk:Nat:=267
abbrev D4:Nat:=3
abbrev At6:Nat:=4
abbrev Cs:Nat:=9
abbrev X5:Nat:=29
abbrev MT:Nat:=42
abbrev P8:Nat:=44
abbrev Ew:Nat:=51
abbrev T2:Nat:=76
abbrev F1:Nat:=87
abbrev Aj:Nat:=95
abbrev Fj:Nat:=121
abbrev DA:Nat:=124
abbrev VX:Nat:=269
end Go.AM
namespace Go.AM
abbrev U (x:BitVec 64):Int:=(x.toNat:Int)
end Go.AM
namespace Go.AM
variable {N:Nat}
open Go.Proofs
abbrev Aq2:List AV:=[.reg 0 0,.reg 1 0,.reg 2 0,.reg 3 0]
abbrev VY (c:Int)(a:Sl Law)(b:Sl Eg)(y:PV):List Obj:=[.cells [pN c],.cells [.p (vSl 18 B5 a)],.cells [.p (vSl 2 A1 b)],.cells [.p y]]
def byB (x:Int)(i:Nat):UInt8:=UInt8.ofNat (x / 2 ^ (8*i) % 256).toNat
def Zc (s:Int×Int)(q:Nat):List UInt8:=(List.range q).flatMap fun i=>[byB s.1 i,byB s.2 i]
def Xz (g:Nat->Int×Int)(n:Nat):List UInt8:=(List.range n).flatMap fun i=>Zc (g i) 4
def Zd (w:Sl Eg):Str:=Xz (fun i=>((w.g i).Plus,(w.g i).Minus)) w.n
structure GL (S:Q8):Prop where
 attR:∀{a:Sl Law}{b y:Sl Eg},FunO S J2 [.p (vSl 18 B5 a),.p (vSl 2 A1 b)] [] (.p (vSl 2 A1 y)) [] []->FunO S K0 Aq2 (VY 0 a b G1) (.tup []) (VY 0 a b (vSl 2 A1 y)) [true,true,true,true]
 attP:∀{a:Sl Law}{b:Sl Eg}{c:Int},(S.F J2 [.p (vSl 18 B5 a),.p (vSl 2 A1 b)] [] fun res o k=>res=.panic (.iface 210 (pI .i64 c))/\o=[]/\k=[])->FunO S K0 Aq2 (VY 0 a b G1) (.tup []) (VY c a b G1) [true,true,true,true]
 tz:∀x:BitVec 64,WL S R8 [.p (pI .u64 (U x))] (.p (pI .i64 (Lib.ctz 64 x.toNat:Nat)))
 trim:∀s c:Str,s.length<1000000000000->c.length<1000000->(∀b∈c,b.toNat<128)->WL S EL [.p (.str s),.p (.str c)] (.p (.str (Lib.trimS s c)))
 growS:∀(f:Nat->List PV) (n:Nat),n*8<=140737488355328->FunO S I9 [.p G1,.p (pI .i64 (n:Int))] [] (.vec 0) [.vec F1 2 0 f false] []
 text:∀(w:Sl Eg) (e:Int),w.n*8<=140737488355328->WL S Ht [.p (vSl 2 A1 w),.p (pI .i64 e)] (.p (.str (if e=0 then Zd w else [45])))
 repI:∀(s:Sl Int) (c:Nat),s.n=1->c*8<=140737488355328->FunO S K7 [.p (vSl 1 (cI .i64) s),.p (pI .i64 (c:Int))] [] (.vec 0) [.vec D4 1 c (fun _=>cI .i64 (s.g 0)) false] []
 repW:∀(s:Sl (Sl Eg)) (c:Nat),s.n=1->c*24<=140737488355328->WL S C5 [.p (vSl 1 (cL 2 A1) s),.p (pI .i64 (c:Int))] (.p (vSl 1 (cL 2 A1) (Sl.rep c (s.g 0))))
def S0 (N:Nat)(x:Int):Option Int:=if 0<=x/\x<18446744073709551616 then some ((Lib.ctz 64 x.toNat:Nat):Int)else none
def ED (N:Nat)(s c:Str):Option Str:=if s.length<1000000000000/\c.length<1000000/\(c.all fun b=>decide (b.toNat<128)) then some (Lib.trimS s c)else none
def Q6 (N:Nat)(n:Int):Option (Sl Eg):=if 0<=n/\n*8<=140737488355328 then some (Sl.nil:Sl Eg)else none
section
variable {S:Q8}(hS:H1 S Tryz.prog) (hL:GL S)
include hS hL
theorem Ab {x y:Int}(h:S0 N x=some y):FunO S R8 [.p (pI .u64 x)] [] (.p (pI .i64 y)) [] []:=by
 obtain⟨⟨a,h1⟩,h⟩:=E8 h;obtain rfl:=C7 h
 have:=hL.tz (BitVec.ofNat 64 x.toNat)
 have e:(BitVec.ofNat 64 x.toNat).toNat=x.toNat:=by rw[AT3];omega
 have e2:U (BitVec.ofNat 64 x.toNat)=x:=by show ((BitVec.ofNat 64 x.toNat).toNat:Int)=x;rw[e];omega
 rw[e,e2]at this;exact this
theorem Pn {s c:Str}{y:Str}(h:ED N s c=some y):FunO S EL [.p (.str s),.p (.str c)] [] (.p (.str y)) [] []:=by obtain⟨⟨a,h1,d⟩,h⟩:=E8 h;obtain rfl:=C7 h;exact hL.trim s c a h1 fun b hb=>by simpa using AL8.1 d b hb
theorem Bd {n:Int}{y:Sl Eg}(h:Q6 N n=some y):FunO S I9 [.p G1,.p (pI .i64 n)] [] (.vec 0) [.vec F1 2 y.n (fun i=>A1 (y.g i)) false] []:=by
 obtain⟨⟨a,h1⟩,h⟩:=E8 h;obtain rfl:=C7 h
 have:=hL.growS (fun i=>A1 default) n.toNat (by omega)
 rw[show ((n.toNat:Nat):Int)=n by omega]at this;exact this
def B9 (N:Nat)(s:Sl Eg):Option (Sl Eg):=if (0+s.n)*8<=140737488355328/\0+s.n<=140737488355328 then some s else none
theorem P6 {s y:Sl Eg}(h:B9 N s=some y):FunO S I0 [.p (vSl 2 A1 s)] [] (.vec 0) [.vec F1 2 y.n (fun i=>A1 (y.g i)) true] []:=by
 unfold B9 at h;obtain⟨c1,h⟩:=E8 h;obtain rfl:=C7 h;refine A6 hS Tryz.func154 ?_;refine Az8 hS Df 3 (k:=2) (n:=s.n) (f:=fun i=>A1 (s.g i)) (fun a=>?_) ?_
 .obtain⟨n,g⟩:=s;obtain rfl:n=0:=a;exact B3 hS Df ⟨[(2,.vec 3700)],[(3700,.vec F1 2 0 (fun i=>A1 (g i)) true)]⟩ [3700] (ids:=[]) ⟨rfl,rfl,rfl⟩
 exact B3 hS (And.intro (rfl:true=true) c1) ⟨[(2,.vec 8000)],[(8000,.vec F1 2 s.n (fun i=>A1 (s.g i)) true)]⟩ [8000] (ids:=[(8000,8000)]) ⟨rfl,rfl,rfl⟩
  (hle:=klR [(0,.fn (0+s.n) s.n (AP 0 (D3 [pI .u32 0,pI .u32 0] []) (fun i=>A1 (s.g i))) (fun i=>A1 (s.g i)))] (al1 ⟨AO9 _,fun i _=>by simp[AP]⟩ al0))
def K3 (N:Nat)(s:Sl BD):Option (Sl BD):=if (0+s.n)*32<=140737488355328/\0+s.n<=140737488355328 then some s else none
theorem AA {s y:Sl Eg}(h:B9 N s=some y):FunO S I0 [.p (vSl 2 A1 s)] [] (.p (vSl 2 A1 y)) [] []:=by
 unfold B9 at h;obtain⟨c1,h⟩:=E8 h;obtain rfl:=C7 h;refine A6 hS Tryz.func154 ?_;refine Az8 hS Df 3 (k:=2) (n:=s.n) (f:=fun i=>A1 (s.g i)) (fun a=>?_) ?_
 .obtain⟨n,g⟩:=s;obtain rfl:n=0:=a;exact B3 hS Df ⟨[(2,.p (vSl 2 A1 ⟨0,g⟩))],[]⟩ [] (ids:=[]) ⟨rfl,rfl,rfl⟩
 exact B3 hS (And.intro (rfl:true=true) c1) ⟨[(2,.p (vSl 2 A1 s))],[]⟩ [] (ids:=[]) ⟨rfl,rfl,rfl⟩
  (hle:=klR [(0,.fn (0+s.n) s.n (AP 0 (D3 [pI .u32 0,pI .u32 0] []) (fun i=>A1 (s.g i))) (fun i=>A1 (s.g i)))] (al1 ⟨AO9 _,fun i _=>by simp[AP]⟩ al0))
theorem BB {s y:Sl BD}(h:K3 N s=some y):FunO S S7 [.p (vSl 6 S4 s)] [] (.p (vSl 6 S4 y)) [] []:=by
 unfold K3 at h;obtain⟨c1,h⟩:=E8 h;obtain rfl:=C7 h;refine A6 hS Tryz.func155 ?_;refine Az8 hS Df 3 (k:=6) (n:=s.n) (f:=fun i=>S4 (s.g i)) (fun a=>?_) ?_
 .obtain⟨n,g⟩:=s;obtain rfl:n=0:=a;exact B3 hS Df ⟨[(2,.p (vSl 6 S4 ⟨0,g⟩))],[]⟩ [] (ids:=[]) ⟨rfl,rfl,rfl⟩
 exact B3 hS (And.intro (rfl:true=true) c1) ⟨[(2,.p (vSl 6 S4 s))],[]⟩ [] (ids:=[]) ⟨rfl,rfl,rfl⟩
  (hle:=klR [(0,.fn (0+s.n) s.n (AP 0 (D3 [pI .i64 0,pI .u32 0,pI .u32 0,pI .u32 0,pI .u32 0,pI .i64 0] []) (fun i=>S4 (s.g i))) (fun i=>S4 (s.g i)))] (al1 ⟨AO9 _,fun i _=>by simp[AP]⟩ al0))
def HE (N:Nat)(w:Sl Eg)(e:Int):Option Str:=if w.n*8<=140737488355328 then some (if e=0 then Zd w else [45])else none
theorem Uf {w:Sl Eg}{e:Int}{y:Str}(h:HE N w e=some y):FunO S Ht [.p (vSl 2 A1 w),.p (pI .i64 e)] [] (.p (.str y)) [] []:=by unfold HE at h;obtain⟨c1,h⟩:=E8 h;obtain rfl:=C7 h;exact hL.text w e c1
end
end Go.AM
set_option maxRecDepth 100000
namespace Go.AM
open Go.Proofs
def Ze (v:Value)(w:World):(Instr.typeAssert (.iface 210 v) 20 210 true).run Tryz.prog w=.ok (.tuple #[v,.bool true]) w:=by kernel_rfl
def VZ (p:Value)(w:World):CallsDIn Fence.wide 0 Tryz.prog U4 #[p] .returning w fun e u' w'=>e=.returned (.tuple #[])/\u' = .returning/\w' = w:=by
 refine callsDIn_of_wpSIn Tryz.func141 rfl (by simp[Fence.wide]) fun c₀ cs a=>?_;apply wpSIn_seq;apply wpSIn_region;simp[wpOpsSIn,go_sem,recoverD,a,Tryz.f141,Exit.thenS];refine wpSIn_of_wpIn rfl (wpIn_block (wpIn_seq (wpIn_region ?_)));simp[wpOpsIn,Oper.wpIn,Oper.semAt,Oper.uponIn,go_sem,Exit.then];refine wpIn_cond (t:=true) (by simp[Act.eval]) ?_;simp only[Bq];refine wpIn_region ?_;simp[wpOpsIn,Oper.wpIn,Oper.semAt,Oper.uponIn,go_sem,Exit.inBlock,bodyPostS,results];cases c₀
 simp_all
def LY (p:Value)(c:Int)(older:List PanicEntry)(w w1:World)(a:(Instr.storeAt 30 p (.int .i64 c)).run Tryz.prog w=.ok () w1)(hn:∃b,p=.pointer (some b)) :CallsDIn Fence.wide 0 Tryz.prog U4 #[p] (.panicking ({ v:=.iface 210 (.int .i64 c),recovered:=false }::older)) w fun e u' w'=>
  e=.returned (.tuple #[])/\u' = .panicking ({ v:=.iface 210 (.int .i64 c),recovered:=true }::older)/\w' = w1:=by
 obtain⟨b,rfl⟩:=hn;refine callsDIn_of_wpSIn Tryz.func141 rfl (by simp[Fence.wide]) fun c₀ cs d=>?_;apply wpSIn_seq;apply wpSIn_region;simp[wpOpsSIn,go_sem,recoverD,d,Tryz.f141,Exit.thenS];refine wpSIn_of_wpIn rfl (wpIn_block (wpIn_seq (wpIn_region ?_)));simp[wpOpsIn,Oper.wpIn,Oper.semAt,Oper.uponIn,go_sem,Exit.then];refine wpIn_cond (t:=false) (by simp[Act.eval]) ?_;simp only[AK8,Cj];refine wpIn_seq (wpIn_region ?_);simp[wpOpsIn,Oper.wpIn,Oper.semAt,Oper.uponIn,go_sem,Exit.then,Ze];refine wpIn_cond (t:=true) (by simp[Act.eval]) ?_;simp only[Bq];refine wpIn_seq (wpIn_region ?_);simp[wpOpsIn,Oper.wpIn,Oper.semAt,Oper.uponIn,go_sem,Exit.then];refine wpIn_region ?_;simp[wpOpsIn,Oper.wpIn,Oper.semAt,Oper.uponIn,go_sem,a,Exit.inBlock,bodyPostS,results];simp[go_sem]at a;rw[a];simp[Result.andThen]
noncomputable def AC0:Code:=match Tryz.f140.body with
 |some (.seq _ c)=>c
 |_=>.skip
def AA7 {S:Q8}(hS:H1 S Tryz.prog){a:Sl Law}{b y:Sl Eg}(c:FunO S J2 [.p (vSl 18 B5 a),.p (vSl 2 A1 b)] [] (.p (vSl 2 A1 y)) [] []) :KG S Tryz.prog (Qu S (fun st=>N6 [0,1,2,3] st.regs [0,1,2,3]=some (VY 0 a b (vSl 2 A1 y))) fun _ _=>False) (.code AC0 [] ⟨argEnv Aq2,objRegs (VY 0 a b G1)⟩):=by refine C0 hS [] Df c ?_;exact K_upN hS Df ⟨[],[(3,.cells [.p (vSl 2 A1 y)]),(2,.cells [.p (vSl 2 A1 b)]),(1,.cells [.p (vSl 18 B5 a)]),(0,.cells [pN 0])]⟩ (ids:=[(0,0),(1,1),(2,2),(3,3)]) rfl
def Ag3 {S:Q8}(hS:H1 S Tryz.prog){a:Sl Law}{b:Sl Eg}{c:Int}(d:S.F J2 [.p (vSl 18 B5 a),.p (vSl 2 A1 b)] [] fun res o k=>res=.panic (.iface 210 (pI .i64 c))/\o=[]/\k=[]) :KG S Tryz.prog (Qu S (fun _=>False) fun x st=>x=.iface 210 (pI .i64 c)/\store Tryz.prog st.regs 30 (.reg 0 0) (.p (pI .i64 c))=some ([],ins 0 (.cells [pN c]) st.regs)/\N6 [0,1,2,3] (ins 0 (.cells [pN c]) st.regs) [0,1,2,3]=some (VY c a b G1)) (.code AC0 [] ⟨argEnv Aq2,objRegs (VY 0 a b G1)⟩):=by refine AA4 hS [] Df d ?_;exact K_upP hS Df ⟨rfl,by kernel_rfl,by kernel_rfl⟩
noncomputable def att1:Code:=match Tryz.f140.body with
 |some (.seq c _)=>c
 |_=>.skip
noncomputable def attOps:Array Oper:=match AC0 with
 |.region _ ops _=>ops
 |_=>#[]
def XA:AC0=.region 1 attOps false:=by kernel_rfl
def AI9:attOps.toList.all (Ii 7 attOps.toList)=true:=by kernel_rfl
def Aq3:¬Tryz.f140.name = "runtime.NumGoroutine" := by decide +kernel
def XB:Tryz.f140.body=some (.seq att1 AC0):=by kernel_rfl
def AA8 {C:Ctx}{vs:Array Value}{w:World}{rho:Nat->Value}{args:List AV}{objs:List Obj}{n:Nat}(hS:Sat C ⟨argEnv args,objRegs objs⟩ ⟨vs,[]⟩ w rho)(a:vs.size=args.length) :Sat C ⟨argEnv args,objRegs objs⟩ { tmps:=vs++Array.replicate n undef,defers:=[] } w rho:=by
 refine⟨hS.toSatE,fun t=>?_,hS.pin,hS.marks⟩
 have:=hS.env t
 by_cases ht:t<vs.size
 .simpa[AK1,AT2,ht]using this
 show RepA w _ _ _ _ (get (argEnv args) t);rw[BA,AJ9,AP0 (by omega)];exact .top _
def Oh {R:St->Prop}{X:PV->St->Prop}{a:Sl Law}{b:Sl Eg}{objs' : List Obj}
 (a1:KG (FL Tryz.prog) Tryz.prog (Qu (FL Tryz.prog) R X) (.code AC0 [] ⟨argEnv Aq2,objRegs (VY 0 a b G1)⟩))
 (hR:∀st,R st->N6 [0,1,2,3] st.regs [0,1,2,3]=some objs')
 (hX:∀x st,X x st->∃c regs',x=.iface 210 (pI .i64 c)/\store Tryz.prog st.regs 30 (.reg 0 0) (.p (pI .i64 c))=some ([],regs')/\N6 [0,1,2,3] regs' [0,1,2,3]=some objs') :
 FunO (FL Tryz.prog) K0 Aq2 (VY 0 a b G1) (.tup []) objs' [true,true,true,true]:=by
 intro 𝒢 C w vs rho hG hS t;obtain⟨l⟩:=vs
 match l,t with
 |[v0,v1,v2,v3],t=>?_
 refine⟨.enter K0 #[v0,v1,v2,v3],w,by simp[callFunc,Tryz.func140,XB,Aq3],?_⟩;refine callsIn_of_wp_marks Tryz.func140 XB Df ?_;have a2:=AA8 (n:=Tryz.f140.ntmps-4) hS t;have a9:Tryz.f140.ntmps-4=3:=rfl;rw[a9]at a2;have b1:((#[v0,v1,v2,v3]:Array Value)++Array.replicate 3 undef).size=7:=rfl;have hw:Kh (FL Tryz.prog) Tryz.prog attOps.toList attOps.toList (Qu (FL Tryz.prog) R X) ⟨argEnv Aq2,objRegs (VY 0 a b G1)⟩:=by
  have:=a1.out
  rw[XA]at this;simpa only[G,awp,kp,AK8,Cj]using this
 have a4:=Ny (𝒢:=𝒢.fix C.rho0) (n:=7) (ro:=none) (ops:=attOps) AI9 attOps.toList 0 rfl (by simp) ⟨hG,rfl⟩ a2 b1 hw;have a5:=JL [{ target:=.fn (.func U4) #[],args:=#[v0] }] _ _ _ a4;rw[Be0]at a5;obtain⟨b0,a6,u⟩:∃b0,v0=.pointer (some ⟨b0,0,none⟩)/\rho 0=.pointer (some ⟨b0,0,none⟩):=by
  have h0:RepA w _ _ rho v0 (.reg 0 0):=hS.env 0;cases h0 with
  |reg _ _ b0 _ h=>exact⟨b0,rfl,h⟩
 have s:∀{C' : Ctx}{st' : St}{a' : Act}{w' : World}{rho' : Nat->Value},(𝒢.fix C.rho0).G C' -> Sat C' st' a' w' rho' -> N6 [0,1,2,3] st'.regs [0,1,2,3]=some objs' ->
  LeavesInM Fence.wide 0 Tryz.prog Tryz.f140 a'.tmps (fun e w'=>∃C' r objs0 ks rho', 𝒢.G C' /\ (r=.ret (.tup [])/\objs0=objs' /\ ks=[true,true,true,true])/\SatE C' (objRegs objs0) w' rho' /\
   Ax5 w' (Prv C'.X (A4 (objRegs objs0)) rho') (Lv (A4 (objRegs objs0))) rho' e r/\∀i:Nat,ks[i]? = some true->i<objs0.length/\rho' i=rho i) [] .returning w':=by
  intro C' st' a' w' rho' d f m;obtain⟨g1,g2,g3⟩:=Nz f (by decide) m;obtain⟨hl,hg⟩:=Au m;refine⟨.tuple #[],by simp[results,Tryz.f140],C', .ret (.tup []),objs',_,_,d.1,⟨rfl,rfl,rfl⟩,g1,⟨_,rfl,.tup _ _ rfl fun i hi=>Bc hi (by simp)⟩,?_⟩;intro i hi;have y:i<4:=by
   have:=(AL1.1 hi).1
   simpa using this
  refine⟨by rw[hl];exact y,?_⟩;have e1:[0,1,2,3][i]? = some i:=by
   match i,y with
   |0,_=>rfl
   |1,_=>rfl
   |2,_=>rfl
   |3,_=>rfl
  obtain⟨o,_,ho,_⟩:=hg i i e1;show rho' ([0,1,2,3].getD i 0)=rho i;rw[CQ e1,f.pin i (by omega) (by simp[Lv,ho]),d.2];refine (hS.pin i (by omega) ?_).symm;rw[Lv,E2]
  match i,y with
  |0,_=>rfl
  |1,_=>rfl
  |2,_=>rfl
  |3,_=>rfl
 generalize hQ:bodyPostM _ _ _ _ _=QQ;refine wpIn_seq ?_;simp only[att1,Tryz.f140];refine wpIn_region ?_;simp[wpOpsIn,Oper.wpIn,Oper.semAt,Oper.uponIn,go_sem,Exit.then];subst hQ;rw[XA];refine wpIn_mono (wpIn_region (F:=FW none) a5) ?_;rintro e a' w' ⟨a0,rfl,z⟩;cases e with
 |exit id=>obtain⟨_,_,_,_,_,_,h⟩:=z;exact h.elim
 |goto l=>obtain⟨_,_,_,_,_,_,h⟩:=z;exact h.elim
 |ret=>obtain⟨_,_,_,_,_,_,h⟩:=z;exact h.elim
 |outgrown=>exact z.elim
 |normal=>
  obtain⟨C',st',rho',d,f,a7,hu⟩:=z;obtain⟨st2,rho2,hR2,_,hs2⟩:=hu C' a0 w' rho' f;refine Gf (C:=C') (st:=st2) (rho:=rho2) (by simp) ?_ a0.defers a0 w' rfl rfl hs2;intro a3 w3 q ht;refine⟨by simp,.inr ⟨by simp[Fence.wide],_,_,U4,#[v0],rfl,by simp[go_sem],fun _ _=>trivial,?_⟩⟩;refine (VZ v0 w3).mono ?_;rintro e u' w4 ⟨rfl,rfl,rfl⟩
  have:=s d q (hR st2 hR2)
  rw[ht]at this;exact this
 |panic chain=>
  obtain⟨C',st',rho',v,x,rfl,d,f,a7,hv,hXx⟩:=z;obtain⟨c,regs',rfl,g,m⟩:=hX x st' hXx;obtain rfl:v=.iface 210 (.int .i64 c):=by
   cases hv with
   |iface _ _ _ h=>cases h;rfl
  refine Gf (C:=C') (st:=st') (rho:=rho') (by simp) ?_ a0.defers a0 w' rfl rfl f;intro a3 w3 q ht;have j:Lv (A4 st'.regs) 0:=by
   cases hj:A4 st'.regs 0 with
   |some o=>simp[Lv,hj]
   |none=>
    unfold store at g;split at g
    .simp[hj]at g
    cases g
  have hr0:rho' 0=.pointer (some ⟨b0,0,none⟩):=by rw[q.pin 0 (by omega) j,d.2,<- u];exact (hS.pin 0 (by omega) rfl).symm
  have hva:RS C' st' w3 rho' v0 (.reg 0 0):=by rw[a6];exact .reg 0 0 b0 j hr0
  obtain⟨w4,a8,hs4,_⟩:=Nn q (vx:=.int .i64 c) hva (.p _ _ (.v _)) g Df;refine⟨by simp,.inr ⟨by simp[Fence.wide],_,_,U4,#[v0],rfl,by simp[go_sem],fun _ _=>trivial,?_⟩⟩;refine (LY v0 c [] w3 w4 a8 ⟨_,a6⟩).mono ?_;rintro e u' w5 ⟨rfl,rfl,rfl⟩
  have:=s d hs4 m
  rw[ht]at this;exact this
def Wa {a:Sl Law}{b y:Sl Eg}(c:FunO (FL Tryz.prog) J2 [.p (vSl 18 B5 a),.p (vSl 2 A1 b)] [] (.p (vSl 2 A1 y)) [] []) :FunO (FL Tryz.prog) K0 Aq2 (VY 0 a b G1) (.tup []) (VY 0 a b (vSl 2 A1 y)) [true,true,true,true]:=
 Oh (AA7 (Ar0 Tryz.prog) c) (fun st h=>h) (fun x st h=>h.elim)
def Sc {a:Sl Law}{b:Sl Eg}{c:Int}(d:(FL Tryz.prog).F J2 [.p (vSl 18 B5 a),.p (vSl 2 A1 b)] [] fun res o k=>res=.panic (.iface 210 (pI .i64 c))/\o=[]/\k=[]) :FunO (FL Tryz.prog) K0 Aq2 (VY 0 a b G1) (.tup []) (VY c a b G1) [true,true,true,true]:=
 Oh (Ag3 (Ar0 Tryz.prog) d) (fun st h=>h.elim) (fun x st h=>⟨c,_,h.1,h.2.1,h.2.2⟩)
end Go.AM
namespace Go.AM
variable {N:Nat}
open IntKind (wrap)
open Go.Proofs
set_option maxRecDepth 10000
set_option maxHeartbeats 2000000
variable {S:Q8}(hS:H1 S Tryz.prog) (hL:GL S)
include hS hL
def H7 (N:Nat)(a:Eg):Option Bool:= some (((E3 .and .u32 a.Plus a.Minus)==0)&&(decide ((E3 .or .u32 a.Plus a.Minus)<=16777215)))
theorem S8 {b:Eg}{y:Bool}(h:H7 N b=some y) :FunO S JU [.p (.agg (A1 b))] [] (pB y) ([]) []:=by unfold H7 at h;refine A6 hS Tryz.func120 ?_;refine kB hS (A5 hS) Df Df 7 (.n (.a ((E3 .and .u32 b.Plus b.Minus)==0)) (.a (decide ((E3 .or .u32 b.Plus b.Minus)<=16777215)))) ?_;cases h;exact kR hS
def Ck (N:Nat)(b:Eg)(a:Eg):Option Bool:= (H7 N b).bind fun y1=>lt (fun (z1:Bool)=>some z1) fun k1=>if y1 then (H7 N a).bind fun y3=>if y3 then if ((E3 .andNot .u32 a.Plus b.Plus)==0) then k1 ((E3 .andNot .u32 a.Minus b.Minus)==0) else k1 false else k1 false else k1 false
theorem KO {c:Eg}{a:Eg}{y:Bool}(h:Ck N c a=some y) :FunO S FB [.p (.agg (A1 c)),.p (.agg (A1 a))] [] (pB y) ([]) []:=by
 unfold Ck at h;refine A6 hS Tryz.func209 ?_;refine kC hS h (S8 hS hL) (fun y1 h=>?_);refine Ef hS Df (A5 hS) h 0 (fun z1=>⟨[(4,pB z1)],[]⟩) (fun M1 k1 b h=>?_) (fun z1 h=>?_)
 .refine kG hS h (fun h=>?_) (fun h=>?_)
  .refine kC hS h (S8 hS hL) (fun y3 h=>?_);refine kG hS h (fun h=>?_) (fun h=>?_)
   .refine kG hS h (fun h=>?_) (fun h=>?_)
    .exact b _ [] _ ((E3 .andNot .u32 a.Minus c.Minus)==0) Df h
    exact b _ [] _ false Df h
   exact b _ [] _ false Df h
  exact b _ [] _ false Df h
 cases h;exact kR hS
def Gl (N:Nat)(a:Eg):Option Int:= some (E3 .or .u32 a.Plus a.Minus)
theorem Oi {a:Eg}{y:Int}(h:Gl N a=some y) :FunO S Ob [.p (.agg (A1 a))] [] (pU y) ([]) []:=by unfold Gl at h;refine A6 hS Tryz.func220 ?_;cases h;exact kR hS
def Gm (N:Nat)(c:Eg)(b:Eg)(a:Int):Option Eg:= some (⟨E3 .or .u32 (E3 .andNot .u32 c.Plus a) (E3 .and .u32 b.Plus a),E3 .or .u32 (E3 .andNot .u32 c.Minus a) (E3 .and .u32 b.Minus a)⟩:Eg)
theorem Oj {c:Eg}{a:Eg}{b:Int}{y:Eg}(h:Gm N c a b=some y) :FunO S Oc [.p (.agg (A1 c)),.p (.agg (A1 a)),pU b] [] (.p (.agg (A1 y))) ([]) []:=by unfold Gm at h;refine A6 hS Tryz.func221 ?_;cases h;exact kR hS
def EN (N:Nat)(c:Eg)(a:Int)(b:Eg):Option (Eg×Int):= (H7 N c).bind fun y1=>lt (fun (z1:Bool)=>if z1 then some ((⟨0,0⟩:Eg),14) else lt (fun (z2:Bool)=>if z2 then some ((⟨0,0⟩:Eg),2) else (Gl N b).bind fun y6=>(Gm N c b (E3 .or .u32 a y6)).bind fun y7=>some (y7,0)) fun k2=>if (decide (16777215<a)) then k2 true else (Gl N b).bind fun y5=>k2 ((E3 .and .u32 a y5) != 0)) fun k1=>if (!y1) then k1 true else (H7 N b).bind fun y3=>k1 (!y3)
theorem Po {c:Eg}{a:Int}{b:Eg}{y:Eg×Int}(h:EN N c a b=some y) :FunO S IB [.p (.agg (A1 c)),pU a,.p (.agg (A1 b))] [] (.tup [.p (.agg (A1 y.1)),pN y.2]) ([]) []:=by
 unfold EN at h;refine A6 hS Tryz.func211 ?_;refine J3 hS Df 5 4000 [pI .u32 c.Plus,pI .u32 c.Minus] ?_;refine J3 hS Df 6 6000 [pI .u32 b.Plus,pI .u32 b.Minus] ?_;obtain⟨y1,e1,h⟩:=B8 h;refine C0 hS [] (by decide:(2:Nat)<=2) (S8 hS hL e1) ?_;refine Ef hS Df (A5 hS) h 0 (fun z1=>⟨[(15,pB z1),(6,.reg 7000 0),(5,.p (.ptr [pI .u32 b.Plus,pI .u32 b.Minus])),(3,.p (.ptr [pI .u32 c.Plus,pI .u32 c.Minus])),(1,pU a)],[(7000,.cells [pU 0,pU 0])]⟩) (fun M1 k1 d h=>?_) (fun z1 h=>?_)
 .refine kG hS h (fun h=>?_) (fun h=>?_)
  .exact d _ [(7000,7000)] _ true Df h
  obtain⟨y3,e3,h⟩:=B8 h;refine C0 hS [] (by decide:(2:Nat)<=2) (S8 hS hL e3) ?_;exact d _ [(7000,7000)] _ (!y3) Df h
 apply kI hS h<;>intro h
 .cases h;exact kR hS
 refine Ef hS Df (A5 hS) h 0 (fun z2=>⟨[(25,pB z2),(6,.reg 7000 0),(5,.p (.ptr [pI .u32 b.Plus,pI .u32 b.Minus])),(3,.p (.ptr [pI .u32 c.Plus,pI .u32 c.Minus])),(1,pU a)],[(7000,.cells [pU 0,pU 0])]⟩) (fun M2 k2 f h=>?_) (fun z2 h=>?_)
 .refine kG hS h (fun h=>?_) (fun h=>?_)
  .exact f _ [(7000,7000)] _ true Df h
  obtain⟨y5,e5,h⟩:=B8 h;refine C0 hS [] (by decide:(2:Nat)<=2) (Oi hS hL e5) ?_;exact f _ [(7000,7000)] _ ((E3 .and .u32 a y5) != 0) Df h
 apply kI hS h<;>intro h
 .cases h;exact kR hS
 refine G9 hS Df [0,1,3,4,6] ?_;obtain⟨y6,e6,h⟩:=B8 h;refine V7 (And.intro (And.intro (by decide:(2:Nat)<=2) (by decide:(2:Nat)<=2)) (by decide:(2:Nat)<=2)) (Oi hS hL e6) ?_;obtain⟨y7,e7,h⟩:=B8 h;refine V7 Df (Oj hS hL e7) ?_;refine O0 Df ?_;cases h;exact kR hS
def HF (N:Nat)(c:Eg)(a:Eg)(b:Int):Option (Eg×Int):= (H7 N c).bind fun y1=>lt (fun (z1:Bool)=>if z1 then some ((⟨0,0⟩:Eg),14) else if (decide (16777215<b)) then some ((⟨0,0⟩:Eg),2) else (Gm N c a b).bind fun y4=>some (y4,0)) fun k1=>if (!y1) then k1 true else (H7 N a).bind fun y3=>k1 (!y3)
theorem Ug {c:Eg}{a:Eg}{b:Int}{y:Eg×Int}(h:HF N c a b=some y) :FunO S LB [.p (.agg (A1 c)),.p (.agg (A1 a)),pU b] [] (.tup [.p (.agg (A1 y.1)),pN y.2]) ([]) []:=by
 unfold HF at h;refine A6 hS Tryz.func212 ?_;refine kC hS h (S8 hS hL) (fun y1 h=>?_);refine Ef hS Df (A5 hS) h 0 (fun z1=>⟨[(15,pB z1),(6,.reg 7000 0),(4,.reg 5000 0),(3,.reg 4000 0),(2,pU b)],[(7000,.cells [pU 0,pU 0]),(5000,.cells [pU a.Plus,pU a.Minus]),(4000,.cells [pU c.Plus,pU c.Minus])]⟩) (fun M1 k1 d h=>?_) (fun z1 h=>?_)
 .refine kG hS h (fun h=>?_) (fun h=>?_)
  .exact d _ [(4000,4000),(5000,5000),(7000,7000)] _ true Df h
  refine kC hS h (S8 hS hL) (fun y3 h=>?_);exact d _ [(4000,4000),(5000,5000),(7000,7000)] _ (!y3) Df h
 apply kI hS h<;>intro h
 .cases h;exact kR hS
 apply kI hS h<;>intro h
 .cases h;exact kR hS
 refine kC hS h (Oj hS hL) (fun y4 h=>?_);cases h;exact kR hS
def Ok (N:Nat)(a:Sl Eg)(b:Sl Eg):Option Bool:= if ((a.n:Int) != (b.n:Int)) then some false else Y1 N (fun c (x1:Int)=>if (decide (x1<(a.n:Int))) then if (((0:Int)<=x1/\x1<(a.n:Int))/\((0:Int)<=x1/\x1<(b.n:Int)))then if ((((a.g x1.toNat).Plus==(b.g x1.toNat).Plus)&&((a.g x1.toNat).Minus==(b.g x1.toNat).Minus)) != true) then some false else c (wrap .i64 (x1+1)) else none else some true) 0
theorem AA9 {a:Sl Eg}{b:Sl Eg}{y:Bool}(h:Ok N a b=some y) :FunO S NR [.p (vSl 2 A1 a),.p (vSl 2 A1 b)] [] (pB y) ([]) []:=by
 unfold Ok at h;refine A6 hS Tryz.func81 ?_;apply kI hS h<;>intro h
 .cases h;exact kR hS
 refine N4 hS Df h (fun x1=>⟨[(5,pN x1),(1,.p (vSl 2 A1 b)),(0,.p (vSl 2 A1 a))],[]⟩) (ids:=[]) (fun _ _ _ _ _ c x1 d h=>?_);apply kI hS h<;>intro h
 .refine G9 hS Df [2,3,6,7] ?_;obtain⟨c9,h⟩:=E8 h;refine O0 (And.intro (And.intro (And.intro (And.intro c9.1 (by decide:(2:Nat)<=2)) c9.2) (by decide:(2:Nat)<=2)) (by decide +kernel:Au2 Tryz.prog F1=true)) ?_;apply kI hS h<;>intro h
  .cases h;exact kR hS
  exact d _ [] _ (wrap .i64 (x1+1)) Df h
 cases h;exact kR hS
def Cx (N:Nat)(a:Eg):Option Bool:= some (((E3 .and .u32 a.Plus a.Minus)==0)&&((shI .shr .u32 (E3 .or .u32 a.Plus a.Minus) 24)==0))
theorem Uh {a:Eg}{y:Bool}(h:Cx N a=some y) :FunO S Lw [.p (.agg (A1 a))] [] (pB y) ([]) []:=by
 unfold Cx at h;refine A6 hS Tryz.func108 ?_;obtain⟨t1,c⟩:∃x:Bool,x=(((E3 .and .u32 a.Plus a.Minus)==0)&&((shI .shr .u32 (E3 .or .u32 a.Plus a.Minus) 24)==0)):=⟨_,rfl⟩;refine LH hS Df (A5 hS) 0 ⟨[(2,pB t1)],[]⟩ (fun M1 d=>?_) ?_
 .refine FG hS Df (b:=(E3 .and .u32 a.Plus a.Minus)==0) (fun c2=>?_) (fun c2=>?_)
  .exact d _ [] _ (by decide:(0:Int)<=24) (hle:=klR [(0,.eq (.bb ((shI .shr .u32 (E3 .or .u32 a.Plus a.Minus) 24)==0)) (.bb t1))] (al1 (by simp only[c,c2,Leaf.ok,pm,Bq,Cj]) al0))
  exact d _ [] _ Df (hle:=klR [(0,.eq (.bb false) (.bb t1))] (al1 (by simp only[c,c2,Leaf.ok,pm,Bq,Cj]) al0))
 subst c;cases h;exact kR hS
def CH (N:Nat)(a:Sl Eg):Option Int:= if (decide (32<(a.n:Int))) then some 11 else Y1 N (fun b (x1:Int)=>if (decide (x1<(a.n:Int))) then if ((0:Int)<=x1/\x1<(a.n:Int))then (Cx N (a.g x1.toNat)).bind fun y3=>if (!y3) then some 14 else b (wrap .i64 (x1+1)) else none else some 0) 0
theorem HG {a:Sl Eg}{y:Int}(h:CH N a=some y) :FunO S Lt [.p (vSl 2 A1 a)] [] (pN y) ([]) []:=by
 unfold CH at h;refine A6 hS Tryz.func75 ?_;apply kI hS h<;>intro h
 .cases h;exact kR hS
 refine N4 hS Df h (fun x1=>⟨[(10,pN x1),(9,pN (a.n:Int)),(8,.p (vSl 2 A1 a))],[]⟩) (ids:=[]) (fun _ _ _ _ _ b x1 c h=>?_);apply kI hS h<;>intro h
 .obtain⟨c9,h⟩:=E8 h;obtain⟨y3,e3,h⟩:=B8 h;refine C0 hS [] (And.intro c9 (by decide:(2:Nat)<=2)) (Uh hS hL e3) ?_;apply kI hS h<;>intro h
  .cases h;exact kR hS
  exact c _ [] _ (wrap .i64 (x1+1)) Df h
 cases h;exact kR hS
def Q1 (N:Nat)(a:Eg):Option Bool:= some (((E3 .and .u32 a.Plus a.Minus)==0)&&((shI .shr .u32 (E3 .or .u32 a.Plus a.Minus) 24)==0))
theorem Ex {a:Eg}{y:Bool}(h:Q1 N a=some y) :FunO S Lz [.p (.agg (A1 a))] [] (pB y) ([]) []:=by
 unfold Q1 at h;refine A6 hS Tryz.func171 ?_;obtain⟨t1,c⟩:∃x:Bool,x=(((E3 .and .u32 a.Plus a.Minus)==0)&&((shI .shr .u32 (E3 .or .u32 a.Plus a.Minus) 24)==0)):=⟨_,rfl⟩;refine LH hS Df (A5 hS) 0 ⟨[(2,pB t1)],[]⟩ (fun M1 d=>?_) ?_
 .refine FG hS Df (b:=(E3 .and .u32 a.Plus a.Minus)==0) (fun c2=>?_) (fun c2=>?_)
  .exact d _ [] _ (by decide:(0:Int)<=24) (hle:=klR [(0,.eq (.bb ((shI .shr .u32 (E3 .or .u32 a.Plus a.Minus) 24)==0)) (.bb t1))] (al1 (by simp only[c,c2,Leaf.ok,pm,Bq,Cj]) al0))
  exact d _ [] _ Df (hle:=klR [(0,.eq (.bb false) (.bb t1))] (al1 (by simp only[c,c2,Leaf.ok,pm,Bq,Cj]) al0))
 subst c;cases h;exact kR hS
def Ac (N:Nat)(b:Int):Option (Nat->Int):= BC N (fun a (x1:Nat->Int) (x2:Int)=>if (decide (x2<(wrap .i64 (b+1)))) then if (((0:Int)<=x2/\((0:Int)<=x2/\x2<33))/\(0+x2.toNat*1)<33)then a (Mm x1 (0+x2.toNat*1) (shI .shl .u64 1 x2)) (wrap .i64 (x2+1)) else none else some x1) (fun _=>0) 0
theorem DY {a:Int}{y:Nat->Int}(h:Ac N a=some y) :FunO S HD [pN a] [] (.p (.agg (cA 33 (pI .u64) y))) ([]) []:=by
 unfold Ac at h;refine A6 hS Tryz.func265 ?_;refine I8 hS Df h (fun x1 x2=>⟨[(7,pN x2),(6,pN (wrap .i64 (a+1))),(3,.reg 4000 0),(2,.reg 3000 0)],[(4000,.arr 33 (fun i=>pI .u64 (x1 i))),(3000,.arr 33 (fun i=>pI .u64 ((fun _=>0) i)))]⟩) (ids:=[(3000,3000),(4000,4000)]) (fun _ _ _ _ _ b x1 x2 d h=>?_) (hle:=klR [(2,.fn 33 33 (fun i=>[(fun i=>(List.replicate 33 (pI .u64 0)).getD i default) i]) (fun i=>[pI .u64 ((fun _=>0) i)])),(3,.fn 33 33 (fun i=>[(fun i=>(List.replicate 33 (pI .u64 0)).getD i default) i]) (fun i=>[pI .u64 ((fun _=>0) i)]))] (al1 ⟨rfl,BR (z:=pI .u64 0) rfl⟩ (al1 ⟨rfl,BR (z:=pI .u64 0) rfl⟩ al0)));apply kI hS h<;>intro h
 .obtain⟨c4,h⟩:=E8 h;exact d _ [(3000,3000),(4000,4000)] _ (Mm x1 (0+x2.toNat*1) (shI .shl .u64 1 x2)) (wrap .i64 (x2+1)) c4 h (hle:=klR [(2,.fn 33 33 (fun i=>[(fun i=>if i=(0+x2.toNat*1)then (pI .u64 (shI .shl .u64 1 x2))else (fun i=>pI .u64 (x1 i)) i) i]) (fun i=>[pI .u64 (Mm x1 (0+x2.toNat*1) (shI .shl .u64 1 x2) i)]))] (al1 ⟨rfl,At3 (c:=pI .u64) (v:=x1) (x:=shI .shl .u64 1 x2) (fun _ _=>rfl) rfl⟩ al0))
 obtain rfl:=C7 h;exact B3 hS (And.intro rfl (G5 _ _):(0:Nat)=0/\(BL 33 (fun i=>pI .u64 (x1 i))).length=33) ⟨[(2,.reg 3000 0)],[(3000,.arr 33 (fun i=>pI .u64 (x1 i)))]⟩ [] (ids:=[(3000,3000)]) ⟨rfl,rfl,rfl⟩ (hle:=klR [(0,.fn 33 33 (fun i=>[(fun i=>(cA 33 (pI .u64) x1).getD i default) i]) (fun i=>[pI .u64 (x1 i)]))] (al1 ⟨rfl,E9 33 (fun i=>pI .u64 (x1 i))⟩ al0))
def X6 (N:Nat)(p_x:Nat->Int)(b:Nat->Int):Option (Nat->Int):= BC N (fun a (x1:Nat->Int) (x2:Int)=>if (decide (x2<33)) then if (((0:Int)<=x2/\x2<33)/\(0+x2.toNat*1)<33)then if (((((0:Int)<=x2/\x2<33)/\(0+x2.toNat*1)<33)/\((0:Int)<=x2/\x2<33))/\(0+x2.toNat*1)<33)then a (Mm x1 (0+x2.toNat*1) (E3 .or .u64 (x1 (0+x2.toNat*1)) (b (0+x2.toNat*1)))) (wrap .i64 (x2+1)) else none else none else some x1) p_x 0
theorem Ey {p_x:Nat->Int}{a:Nat->Int}{y:Nat->Int}(h:X6 N p_x a=some y) :FunO S Ev [.reg 0 0,.reg 1 0] [.arr 33 (fun i=>pI .u64 (p_x i)),.arr 33 (fun i=>pI .u64 (a i))] (.tup []) ([.arr 33 (fun i=>pI .u64 (y i)),.arr 33 (fun i=>pI .u64 (a i))]) [true,true]:=by
 unfold X6 at h;refine A6 hS Tryz.func263 ?_;refine I8 hS Df h (fun x1 x2=>⟨[(7,pN x2),(6,.reg 1 0),(0,.reg 0 0)],[(1,.arr 33 (fun i=>pI .u64 (a i))),(0,.arr 33 (fun i=>pI .u64 (x1 i)))]⟩) (ids:=[(0,0),(1,1)]) (fun _ _ _ _ _ b x1 x2 d h=>?_);apply kI hS h<;>intro h
 .refine FP hS Df ?_;obtain⟨c8,h⟩:=E8 h;refine O0 c8 ?_;refine FP hS Df ?_;obtain⟨c9,h⟩:=E8 h;refine O0 c9 ?_;exact d _ [(0,0),(1,1)] _ (Mm x1 (0+x2.toNat*1) (E3 .or .u64 (x1 (0+x2.toNat*1)) (a (0+x2.toNat*1)))) (wrap .i64 (x2+1)) Df h (hle:=klR [(2,.fn 33 33 (fun i=>[(fun i=>if i=(0+x2.toNat*1)then (pI .u64 (E3 .or .u64 (x1 (0+x2.toNat*1)) (a (0+x2.toNat*1))))else (fun i=>pI .u64 (x1 i)) i) i]) (fun i=>[pI .u64 (Mm x1 (0+x2.toNat*1) (E3 .or .u64 (x1 (0+x2.toNat*1)) (a (0+x2.toNat*1))) i)]))] (al1 ⟨rfl,At3 (c:=pI .u64) (v:=x1) (x:=E3 .or .u64 (x1 (0+x2.toNat*1)) (a (0+x2.toNat*1))) (fun _ _=>rfl) rfl⟩ al0))
 obtain rfl:=C7 h;exact B3 hS Df ⟨[],[(1,.arr 33 (fun i=>pI .u64 (a i))),(0,.arr 33 (fun i=>pI .u64 (x1 i)))]⟩ [0,1] (ids:=[(0,0),(1,1)]) ⟨rfl,rfl,rfl⟩
def Dp (N:Nat)(b:Sl Eg)(a:Int):Option Int:= if ((decide (a<0))||(decide ((b.n:Int)<a))) then some 3 else some 0
theorem Kb {c:Sl Eg}{b:Int}{y:Int}(h:Dp N c b=some y) :FunO S JZ [.p (vSl 2 A1 c),pN b] [] (pN y) ([]) []:=by
 unfold Dp at h;refine A6 hS Tryz.func228 ?_;refine kB hS (A5 hS) Df Df 5 (.o (.a (decide (b<0))) (.a (decide ((c.n:Int)<b)))) ?_;apply kI hS h<;>intro h
 .cases h;exact kR hS
 cases h;exact kR hS
def AR (N:Nat)(a:Pat):Option Int:= if (if (a.Kind==0) then a.Kind==0 else (if (a.Kind==2) then a.Kind==2 else a.Kind==6)) then lt (fun (z1:Bool)=>if z1 then some 2 else (Q1 N a.Is).bind fun y1=>if (!y1) then some 14 else some 0) fun k1=>if (((a.Is.Plus==0)&&(a.Is.Minus==0)) != true) then k1 true else if a.Not then k1 true else if (a.Min != 0) then k1 true else if (a.Max != 0) then k1 true else k1 (decide (0<(a.L.n:Int))) else if (a.Kind==1) then lt (fun (z2:Bool)=>if z2 then some 2 else (Q1 N a.Is).bind fun y2=>if (!y2) then some 14 else some 0) fun k2=>if (((0==0)&&(0==0)) != true) then k2 true else if (a.Min != 0) then k2 true else if (a.Max != 0) then k2 true else k2 (decide (0<(a.L.n:Int))) else lt (fun (z3:Int×Int)=>if (((((((a.Is.Plus==0)&&(a.Is.Minus==0)) != true)||a.Not)||(z3.1 != 0))||(z3.2 != 0))||(decide (0<0))) then some 2 else (Q1 N a.Is).bind fun y3=>if (!y3) then some 14 else some 0) fun k3=>if (if (a.Kind==3) then a.Kind==3 else a.Kind==4) then k3 (a.Min,a.Max) else if (a.Kind==5) then if (((((a.L.n:Int) != 1)||(decide (a.Min<0)))||(decide (32<a.Min)))||((a.Max != (-1))&&((decide (a.Max<a.Min))||(decide (32<a.Max))))) then some 2 else k3 (0,0) else some 2
theorem Pp {c:Pat}{y:Int}(h:AR N c=some y) :FunO S Iz [.p (.agg (B7 c))] [] (pN y) ([]) []:=by
 unfold AR at h;refine A6 hS Tryz.func148 ?_;obtain⟨t1,f⟩:∃x:Bool,x=(if (c.Kind==0) then c.Kind==0 else (if (c.Kind==2) then c.Kind==2 else c.Kind==6)):=⟨_,rfl⟩;refine LH hS Df (A5 hS) 0 ⟨[(8,pB t1),(7,pN c.Kind),(3,.reg 4000 0),(1,.reg 2000 0)],[(4000,.cells [pN 0,pU c.Is.Plus,pU c.Is.Minus,pB c.Not,pN c.Min,pN c.Max,.p (.sl false 7 c.L.n (BY c))]),(2000,.cells ((B7 c).map .p))]⟩ (fun M1 l=>?_) ?_
 .refine D9 hS Df (b:=c.Kind==0) (fun c3=>?_) (fun c3=>?_)
  .exact l _ [(2000,2000),(4000,4000)] _ Df (hle:=klR [(0,.eq (.bb (c.Kind==0)) (.bb t1))] (al1 (by simp only[f,c3,Leaf.ok,pm,Bq,Cj]) al0))
  refine D9 hS Df (b:=c.Kind==2) (fun c4=>?_) (fun c4=>?_)
  .exact l _ [(2000,2000),(4000,4000)] _ Df (hle:=klR [(0,.eq (.bb (c.Kind==2)) (.bb t1))] (al1 (by simp only[f,c3,c4,Leaf.ok,pm,Bq,Cj]) al0))
  exact l _ [(2000,2000),(4000,4000)] _ Df (hle:=klR [(0,.eq (.bb (c.Kind==6)) (.bb t1))] (al1 (by simp only[f,c3,c4,Leaf.ok,pm,Bq,Cj]) al0))
 subst f;apply kI hS h<;>intro h
 .refine Ef hS (by decide +kernel:Au2 Tryz.prog F1=true) (A5 hS) h 0 (fun z1=>⟨[(57,pB z1),(1,.reg 2000 0)],[(2000,.cells ((B7 c).map .p))]⟩) (fun M3 k1 d h=>?_) (fun z1 h=>?_)
  .refine kG hS h (fun h=>?_) (fun h=>?_)
   .exact d _ [(2000,2000)] _ true Df h
   refine kG hS h (fun h=>?_) (fun h=>?_)
   .exact d _ [(2000,2000)] _ true Df h
   refine kG hS h (fun h=>?_) (fun h=>?_)
   .exact d _ [(2000,2000)] _ true Df h
   refine kG hS h (fun h=>?_) (fun h=>?_)
   .exact d _ [(2000,2000)] _ true Df h
   refine I7 hS Df 79 ⟨[(78,.p (vSl 7 B7 c.L)),(76,.p (.v (.bool false))),(1,.reg 2000 0)],[(2000,.cells ((B7 c).map .p))]⟩ (ids:=[(2000,2000)]) ?_ (hle:=klR [(0,.fn c.L.n c.L.n (BY c) (fun i=>B7 (c.L.g i)))] (al1 ⟨rfl,U8 c⟩ al0));exact d _ [(2000,2000)] _ (decide (0<(c.L.n:Int))) Df h
  apply kI hS h<;>intro h
  .cases h;exact kR hS
  refine kC hS h (Ex hS hL) (fun y1 h=>?_);apply kI hS h<;>intro h
  .cases h;exact kR hS
  cases h;exact kR hS
 apply kI hS h<;>intro h
 .refine Ef hS (by decide +kernel:Au2 Tryz.prog F1=true) (A5 hS) h 0 (fun z2=>⟨[(57,pB z2),(1,.reg 2000 0)],[(2000,.cells ((B7 c).map .p))]⟩) (fun M5 k2 j h=>?_) (fun z2 h=>?_)
  .refine kG hS h (fun h=>?_) (fun h=>?_)
   .exact j _ [(2000,2000)] _ true Df h
   refine FG hS Df (b:=false) (fun c54=>?_) (fun c54=>?_)
   .exact Bool.noConfusion ((rfl:false=false).symm.trans c54)
   refine kG hS h (fun h=>?_) (fun h=>?_)
   .exact j _ [(2000,2000)] _ true Df h
   refine kG hS h (fun h=>?_) (fun h=>?_)
   .exact j _ [(2000,2000)] _ true Df h
   refine I7 hS Df 79 ⟨[(78,.p (vSl 7 B7 c.L)),(76,.p (.v (.bool false))),(1,.reg 2000 0)],[(2000,.cells ((B7 c).map .p))]⟩ (ids:=[(2000,2000)]) ?_ (hle:=klR [(0,.fn c.L.n c.L.n (BY c) (fun i=>B7 (c.L.g i)))] (al1 ⟨rfl,U8 c⟩ al0));exact j _ [(2000,2000)] _ (decide (0<(c.L.n:Int))) Df h
  apply kI hS h<;>intro h
  .cases h;exact kR hS
  refine kC hS h (Ex hS hL) (fun y2 h=>?_);apply kI hS h<;>intro h
  .cases h;exact kR hS
  cases h;exact kR hS
 obtain⟨t4,m⟩:∃x:Bool,x=(if (c.Kind==3) then c.Kind==3 else c.Kind==4):=⟨_,rfl⟩;refine LH hS Df (A5 hS) 0 ⟨[(17,pB t4),(7,pN c.Kind),(3,.reg 4000 0),(1,.reg 2000 0)],[(4000,.cells [pN 0,pU c.Is.Plus,pU c.Is.Minus,pB c.Not,pN c.Min,pN c.Max,.p (.sl false 7 c.L.n (BY c))]),(2000,.cells ((B7 c).map .p))]⟩ (fun M6 q=>?_) ?_
 .refine D9 hS Df (b:=c.Kind==3) (fun c60=>?_) (fun c60=>?_)
  .exact q _ [(2000,2000),(4000,4000)] _ Df (hle:=klR [(0,.eq (.bb (c.Kind==3)) (.bb t4))] (al1 (by simp only[m,c60,Leaf.ok,pm,Bq,Cj]) al0))
  exact q _ [(2000,2000),(4000,4000)] _ Df (hle:=klR [(0,.eq (.bb (c.Kind==4)) (.bb t4))] (al1 (by simp only[m,c60,Leaf.ok,pm,Bq,Cj]) al0))
 subst m;refine Ef hS Df (A5 hS) h 0 (fun z3=>⟨[(3,.reg 4000 0),(1,.reg 2000 0)],[(4000,.cells [pN 0,pU c.Is.Plus,pU c.Is.Minus,pB c.Not,pN z3.1,pN z3.2,.p G1]),(2000,.cells ((B7 c).map .p))]⟩) (fun M7 k3 r h=>?_) (fun z3 h=>?_)
 .apply kI hS h<;>intro h
  .exact r _ [(2000,2000),(4000,4000)] _ (c.Min,c.Max) Df h
  apply kI hS h<;>intro h
  .refine I7 hS Df 25 ⟨[(24,.p (vSl 7 B7 c.L)),(3,.reg 4000 0),(1,.reg 2000 0)],[(4000,.cells [pN 0,pU c.Is.Plus,pU c.Is.Minus,pB c.Not,pN c.Min,pN c.Max,.p (.sl false 7 c.L.n (BY c))]),(2000,.cells ((B7 c).map .p))]⟩ (ids:=[(2000,2000),(4000,4000)]) ?_ (hle:=klR [(0,.fn c.L.n c.L.n (BY c) (fun i=>B7 (c.L.g i)))] (al1 ⟨rfl,U8 c⟩ al0));refine kB hS (A5 hS) Df Df 26 (.o (.o (.o (.a ((c.L.n:Int) != 1)) (.a (decide (c.Min<0)))) (.a (decide (32<c.Min)))) (.n (.a (c.Max != (-1))) (.o (.a (decide (c.Max<c.Min))) (.a (decide (32<c.Max)))))) ?_;apply kI hS h<;>intro h
   .cases h;exact kR hS
   exact r _ [(2000,2000),(4000,4000)] _ (0,0) Df h
  cases h;exact kR hS
 refine kB hS (A5 hS) (by decide +kernel:Au2 Tryz.prog F1=true) Df 19 (.o (.o (.o (.o (.a (((c.Is.Plus==0)&&(c.Is.Minus==0)) != true)) (.a c.Not)) (.a (z3.1 != 0))) (.a (z3.2 != 0))) (.a (decide (0<0)))) ?_;apply kI hS h<;>intro h
 .cases h;exact kR hS
 refine kC hS h (Ex hS hL) (fun y3 h=>?_);apply kI hS h<;>intro h
 .cases h;exact kR hS
 cases h;exact kR hS
end Go.AM
namespace Go.AM
open IntKind (wrap)
open Go.Proofs
set_option maxRecDepth 10000
set_option maxHeartbeats 2000000
variable {S:Q8}(hS:H1 S Tryz.prog) (hL:GL S)
include hS hL
def Ca (N:Nat)(a:Str):Option Bool:= Y1 N (fun b (x1:Int)=>if (decide (x1<(a.length:Int))) then if ((0:Int)<=x1/\x1<(a.length:Int))then if (!(((((decide (97<=(AE a x1)))&&(decide ((AE a x1)<=122)))||((decide (65<=(AE a x1)))&&(decide ((AE a x1)<=90))))||((decide (48<=(AE a x1)))&&(decide ((AE a x1)<=57))))||((AE a x1)==45))) then some false else b (wrap .i64 (x1+1)) else none else some ((decide (1<=(a.length:Int)))&&(decide ((a.length:Int)<=24)))) 0
end Go.AM
namespace Go.AM
variable {N:Nat}
open IntKind (wrap)
open Go.Proofs
set_option maxRecDepth 10000
set_option maxHeartbeats 2000000
variable {S:Q8}(hS:H1 S Tryz.prog) (hL:GL S)
include hS hL
def W6 (N:Nat)(q0:Int):Option (List (Int)):= Y1 N (fun a (x1:Int)=>if (x1 != 0) then (S0 N x1).bind fun y3=>if (0:Int)<=y3 then GM y3 (a (E3 .andNot .u64 x1 (shI .shl .u64 1 y3))) else none else some []) q0
theorem CU {q0:Int}{L:List (Int)}(h:W6 N q0=some L) :FX S Bh [] [.reg 0 0] [.cells [.p (pI .u64 q0)]] (L.map (fun (x:Int)=>[pI .i64 x])):=by
 unfold W6 at h;refine Gc hS Tryz.func236 ?_;refine Hn hS Df h (fun x1 L1=>⟨[(1,.reg 0 0),(0,.yf 1)],[(1,.yld (L1.map (fun (x:Int)=>[pI .i64 x])) true),(0,.cells [.p (pI .u64 x1)])]⟩) (ids:=[(0,0),(1,1)]) (fun _ _ _ _ _ d x1 L1 f h=>?_);apply kI hS h<;>intro h
 .refine kC hS h (Ab hS hL) (fun y3 h=>?_);refine FP hS Df ?_;obtain⟨c10,h⟩:=E8 h;refine O0 c10 ?_;obtain⟨L4,rfl,c⟩:=NH h;replace h:=c;refine DS hS Df (ys:=(fun (x:Int)=>[pI .i64 x]) y3) (rest:=L4.map (fun (x:Int)=>[pI .i64 x])) ?_ ?_
  .refine D9 hS Df (b:=false) (fun c11=>?_) (fun c11=>?_)
   .exact Bool.noConfusion ((rfl:false=false).symm.trans c11)
   exact f _ [(0,0),(1,1)] _ (E3 .andNot .u64 x1 (shI .shl .u64 1 y3)) L4 Df h
  refine D9 hS Df (b:=true) (fun c12=>?_) (fun c12=>?_)
  .exact B3 hS Df (a:=.tup []) (objs:=[(.cells [.p (pI .u64 (E3 .andNot .u64 x1 (shI .shl .u64 1 y3)))]),.yld [] false]) ⟨[],[(1,.yld [] false),(0,.cells [.p (pI .u64 (E3 .andNot .u64 x1 (shI .shl .u64 1 y3)))])]⟩ [0,1] (ids:=[(0,0),(1,1)]) ⟨false,rfl,rfl,_,rfl⟩
  exact Bool.noConfusion ((rfl:true=true).symm.trans c12)
 obtain rfl:=C7 h;exact B3 hS Df (a:=.tup []) (objs:=[(.cells [.p (pI .u64 x1)]),.yld [] true]) ⟨[],[(1,.yld [] true),(0,.cells [.p (pI .u64 x1)])]⟩ [0,1] (ids:=[(0,0),(1,1)]) ⟨true,rfl,rfl,_,rfl⟩
def Be (N:Nat)(a:Int):Option (Int):= some a
theorem EO {a:Int}{y:Int}(h:Be N a=some y) :FunO S IC [.p (pI .u64 a)] [] (.clo Bh [] [.reg 0 0]) ([.cells [.p (pI .u64 y)]]) []:=by unfold Be at h;refine A6 hS Tryz.func229 ?_;obtain rfl:=C7 h;exact B3 hS Df ⟨[(2,.clo Bh [] [.reg 2000 0])],[(2000,.cells [.p (pI .u64 a)])]⟩ [2000] (ids:=[(2000,2000)]) ⟨rfl,rfl,rfl⟩
def K4 (N:Nat)(p_x:Nat->Int)(c:Nat->Int):Option (Nat->Int):= BC N (fun a (x3:Nat->Int) (x4:Int)=>if (decide (x4<33)) then if (((0:Int)<=x4/\x4<33)/\(0+x4.toNat*1)<33)then (Be N (p_x (0+x4.toNat*1))).bind fun y3=>(W6 N y3).bind fun L3=>X0 L3 (fun b (x7:Int) (z3:Nat->Int)=>if (((((((0:Int)<=x4/\x4<33)/\(0+x4.toNat*1)<33)/\((0:Int)<=x7/\x7<33))/\(0+x7.toNat*1)<33)/\((0:Int)<=x4/\x4<33))/\(0+x4.toNat*1)<33)then b (Mm z3 (0+x4.toNat*1) (E3 .or .u64 (z3 (0+x4.toNat*1)) (c (0+x7.toNat*1)))) else none) (fun (z3:Nat->Int)=>a z3 (wrap .i64 (x4+1))) x3 else none else some x3) (fun _=>0) 0
theorem T6 {p_x:Nat->Int}{b:Nat->Int}{y:Nat->Int}(h:K4 N p_x b=some y) :FunO S AK [.reg 0 0,.reg 1 0] [.arr 33 (fun i=>pI .u64 (p_x i)),.arr 33 (fun i=>pI .u64 (b i))] (.p (.agg (cA 33 (pI .u64) y))) ([.arr 33 (fun i=>pI .u64 (p_x i)),.arr 33 (fun i=>pI .u64 (b i))]) [true,true]:=by
 unfold K4 at h;refine A6 hS Tryz.func266 ?_;refine I8 hS Df h (fun x3 x4=>⟨[(10,pN x4),(9,.reg 0 0),(5,.reg 6000 0),(4,.reg 5000 0),(3,.reg 4000 0)],[(6000,.arr 33 (fun i=>pI .u64 (x3 i))),(5000,.arr 33 (fun i=>pI .u64 ((fun _=>0) i))),(4000,.cells [.reg 1 0]),(1,.arr 33 (fun i=>pI .u64 (b i))),(0,.arr 33 (fun i=>pI .u64 (p_x i)))]⟩) (ids:=[(0,0),(1,1),(4000,4000),(5000,5000),(6000,6000)]) (fun _ _ _ _ _ d x3 x4 f h=>?_) (hle:=klR [(1,.fn 33 33 (fun i=>[(fun i=>(List.replicate 33 (pI .u64 0)).getD i default) i]) (fun i=>[pI .u64 ((fun _=>0) i)])),(2,.fn 33 33 (fun i=>[(fun i=>(List.replicate 33 (pI .u64 0)).getD i default) i]) (fun i=>[pI .u64 ((fun _=>0) i)]))] (al1 ⟨rfl,BR (z:=pI .u64 0) rfl⟩ (al1 ⟨rfl,BR (z:=pI .u64 0) rfl⟩ al0)));apply kI hS h<;>intro h
 .refine Av hS Df [(2,.l [0]),(3,.l [0]),(4,.a [7000]),(5,.a [7000])] ?_;obtain⟨c12,h⟩:=E8 h;refine O0 c12 ?_;refine J3 hS Df 16 7000 [pI .i64 x4] ?_;refine kC hS h (EO hS hL) (fun y3 h=>?_);obtain⟨L3,e6,h⟩:=B8 h;refine Gd hS Df [18000] [10,9,6,5,4,3] 905 (fun z3=>⟨[(10,pN x4),(9,.reg 0 0),(6,.p (.ptr [pI .i64 x4])),(5,.reg 6000 0),(4,.reg 5000 0),(3,.reg 4000 0)],[(6000,.arr 33 (fun i=>pI .u64 (z3 i))),(5000,.arr 33 (fun i=>pI .u64 ((fun _=>0) i))),(4000,.cells [.reg 1 0]),(1,.arr 33 (fun i=>pI .u64 (b i))),(0,.arr 33 (fun i=>pI .u64 (p_x i)))]⟩) (idl:=[(0,0),(1,1),(4000,4000),(5000,5000),(6000,6000)]) h (CU hS hL e6) (fun _=>by kernel_rfl) (fun _=>by kernel_rfl) (fun _=>by kernel_rfl) (fun _=>by kernel_rfl) (fun x7 _ g z3 j h=>?_) (fun z3 h=>?_)
  .refine JK hS Df ?_;refine Av hS Df [(0,.n),(1,.l [6000]),(2,.l [6000]),(3,.l [4000]),(6,.l [1]),(7,.l [1]),(9,.l [6000]),(10,.a [6000])] ?_;obtain⟨c15,h⟩:=E8 h;refine O0 c15 ?_;exact j _ [(0,0),(1,1),(905,905),(4000,4000),(5000,5000),(6000,6000)] _ (Mm z3 (0+x4.toNat*1) (E3 .or .u64 (z3 (0+x4.toNat*1)) (b (0+x7.toNat*1)))) Df h (hle:=klR [(0,.fn 33 33 (fun i=>[(fun i=>if i=(0+x4.toNat*1)then (pI .u64 (E3 .or .u64 (z3 (0+x4.toNat*1)) (b (0+x7.toNat*1))))else (fun i=>pI .u64 (z3 i)) i) i]) (fun i=>[pI .u64 (Mm z3 (0+x4.toNat*1) (E3 .or .u64 (z3 (0+x4.toNat*1)) (b (0+x7.toNat*1))) i)]))] (al1 ⟨rfl,At3 (c:=pI .u64) (v:=z3) (x:=E3 .or .u64 (z3 (0+x4.toNat*1)) (b (0+x7.toNat*1))) (fun _ _=>rfl) rfl⟩ al0))
  exact f _ [(0,0),(1,1),(4000,4000),(5000,5000),(6000,6000)] _ z3 (wrap .i64 (x4+1)) Df h
 obtain rfl:=C7 h;exact B3 hS (And.intro rfl (G5 _ _):(0:Nat)=0/\(BL 33 (fun i=>pI .u64 (x3 i))).length=33) ⟨[(4,.reg 5000 0)],[(5000,.arr 33 (fun i=>pI .u64 (x3 i))),(1,.arr 33 (fun i=>pI .u64 (b i))),(0,.arr 33 (fun i=>pI .u64 (p_x i)))]⟩ [0,1] (ids:=[(0,0),(1,1),(5000,5000)]) ⟨rfl,rfl,rfl⟩ (hle:=klR [(0,.fn 33 33 (fun i=>[(fun i=>(cA 33 (pI .u64) x3).getD i default) i]) (fun i=>[pI .u64 (x3 i)]))] (al1 ⟨rfl,E9 33 (fun i=>pI .u64 (x3 i))⟩ al0))
def S9 (N:Nat)(p_x:Nat->Int):Option (Nat->Int):= BC N (fun a (x3:Nat->Int) (x4:Int)=>if (decide (x4<33)) then if (((0:Int)<=x4/\x4<33)/\(0+x4.toNat*1)<33)then (Be N (p_x (0+x4.toNat*1))).bind fun y3=>(W6 N y3).bind fun L3=>X0 L3 (fun b (x7:Int) (z3:Nat->Int)=>if (((((((0:Int)<=x4/\x4<33)/\(0+x4.toNat*1)<33)/\((0:Int)<=x7/\x7<33))/\(0+x7.toNat*1)<33)/\((0:Int)<=x4/\x4<33))/\(0+x4.toNat*1)<33)then b (Mm z3 (0+x4.toNat*1) (E3 .or .u64 (z3 (0+x4.toNat*1)) (p_x (0+x7.toNat*1)))) else none) (fun (z3:Nat->Int)=>a z3 (wrap .i64 (x4+1))) x3 else none else some x3) (fun _=>0) 0
theorem CJ {p_x:Nat->Int}{y:Nat->Int}(h:S9 N p_x=some y) :FunO S AK [.reg 0 0,.reg 0 0] [.arr 33 (fun i=>pI .u64 (p_x i))] (.p (.agg (cA 33 (pI .u64) y))) ([.arr 33 (fun i=>pI .u64 (p_x i))]) [true]:=by
 unfold S9 at h;refine A6 hS Tryz.func266 ?_;refine I8 hS Df h (fun x3 x4=>⟨[(10,pN x4),(9,.reg 0 0),(5,.reg 6000 0),(4,.reg 5000 0),(3,.reg 4000 0)],[(6000,.arr 33 (fun i=>pI .u64 (x3 i))),(5000,.arr 33 (fun i=>pI .u64 ((fun _=>0) i))),(4000,.cells [.reg 0 0]),(0,.arr 33 (fun i=>pI .u64 (p_x i)))]⟩) (ids:=[(0,0),(4000,4000),(5000,5000),(6000,6000)]) (fun _ _ _ _ _ b x3 x4 d h=>?_) (hle:=klR [(1,.fn 33 33 (fun i=>[(fun i=>(List.replicate 33 (pI .u64 0)).getD i default) i]) (fun i=>[pI .u64 ((fun _=>0) i)])),(2,.fn 33 33 (fun i=>[(fun i=>(List.replicate 33 (pI .u64 0)).getD i default) i]) (fun i=>[pI .u64 ((fun _=>0) i)]))] (al1 ⟨rfl,BR (z:=pI .u64 0) rfl⟩ (al1 ⟨rfl,BR (z:=pI .u64 0) rfl⟩ al0)));apply kI hS h<;>intro h
 .refine Av hS Df [(2,.l [0]),(3,.l [0]),(4,.a [7000]),(5,.a [7000])] ?_;obtain⟨c12,h⟩:=E8 h;refine O0 c12 ?_;refine J3 hS Df 16 7000 [pI .i64 x4] ?_;refine kC hS h (EO hS hL) (fun y3 h=>?_);obtain⟨L3,e6,h⟩:=B8 h;refine Gd hS Df [18000] [10,9,6,5,4,3] 905 (fun z3=>⟨[(10,pN x4),(9,.reg 0 0),(6,.p (.ptr [pI .i64 x4])),(5,.reg 6000 0),(4,.reg 5000 0),(3,.reg 4000 0)],[(6000,.arr 33 (fun i=>pI .u64 (z3 i))),(5000,.arr 33 (fun i=>pI .u64 ((fun _=>0) i))),(4000,.cells [.reg 0 0]),(0,.arr 33 (fun i=>pI .u64 (p_x i)))]⟩) (idl:=[(0,0),(4000,4000),(5000,5000),(6000,6000)]) h (CU hS hL e6) (fun _=>by kernel_rfl) (fun _=>by kernel_rfl) (fun _=>by kernel_rfl) (fun _=>by kernel_rfl) (fun x7 _ f z3 g h=>?_) (fun z3 h=>?_)
  .refine JK hS Df ?_;refine Av hS Df [(0,.n),(1,.l [6000]),(2,.l [6000]),(3,.l [4000]),(6,.l [0]),(7,.l [0]),(9,.l [6000]),(10,.a [6000])] ?_;obtain⟨c15,h⟩:=E8 h;refine O0 c15 ?_;exact g _ [(0,0),(905,905),(4000,4000),(5000,5000),(6000,6000)] _ (Mm z3 (0+x4.toNat*1) (E3 .or .u64 (z3 (0+x4.toNat*1)) (p_x (0+x7.toNat*1)))) Df h (hle:=klR [(0,.fn 33 33 (fun i=>[(fun i=>if i=(0+x4.toNat*1)then (pI .u64 (E3 .or .u64 (z3 (0+x4.toNat*1)) (p_x (0+x7.toNat*1))))else (fun i=>pI .u64 (z3 i)) i) i]) (fun i=>[pI .u64 (Mm z3 (0+x4.toNat*1) (E3 .or .u64 (z3 (0+x4.toNat*1)) (p_x (0+x7.toNat*1))) i)]))] (al1 ⟨rfl,At3 (c:=pI .u64) (v:=z3) (x:=E3 .or .u64 (z3 (0+x4.toNat*1)) (p_x (0+x7.toNat*1))) (fun _ _=>rfl) rfl⟩ al0))
  exact d _ [(0,0),(4000,4000),(5000,5000),(6000,6000)] _ z3 (wrap .i64 (x4+1)) Df h
 obtain rfl:=C7 h;exact B3 hS (And.intro rfl (G5 _ _):(0:Nat)=0/\(BL 33 (fun i=>pI .u64 (x3 i))).length=33) ⟨[(4,.reg 5000 0)],[(5000,.arr 33 (fun i=>pI .u64 (x3 i))),(0,.arr 33 (fun i=>pI .u64 (p_x i)))]⟩ [0] (ids:=[(0,0),(5000,5000)]) ⟨rfl,rfl,rfl⟩ (hle:=klR [(0,.fn 33 33 (fun i=>[(fun i=>(cA 33 (pI .u64) x3).getD i default) i]) (fun i=>[pI .u64 (x3 i)]))] (al1 ⟨rfl,E9 33 (fun i=>pI .u64 (x3 i))⟩ al0))
def N7 (N:Nat)(p_x:Nat->Int)(b:Int)(c:Int):Option (Nat->Int):= (Ac N c).bind fun y1=>Ag7 N (fun a (x1:Int) (x2:Nat->Int) (x3:Nat->Int)=>if (decide (0<x1)) then if ((E3 .and .i64 x1 1)==1) then (K4 N x3 x2).bind fun y8=>(S9 N x2).bind fun y9=>a (shI .shr .i64 x1 1) y9 y8 else (S9 N x2).bind fun d=>a (shI .shr .i64 x1 1) d x3 else some x3) b p_x y1
theorem Ad {p_x:Nat->Int}{b:Int}{c:Int}{y:Nat->Int}(h:N7 N p_x b c=some y) :FunO S CG [.p (.agg (cA 33 (pI .u64) p_x)),pN b,pN c] [] (.p (.agg (cA 33 (pI .u64) y))) ([]) []:=by
 unfold N7 at h;refine A6 hS Tryz.func259 ?_;refine kC hS h (DY hS hL) (fun y1 h=>?_);refine KU hS (And.intro rfl (G5 _ _):(0:Nat)=0/\(BL 33 (fun i=>pI .u64 (y1 i))).length=33) h (fun x1 x2 x3=>⟨[(7,.reg 8000 0),(6,.reg 7000 0),(3,.reg 4000 0),(1,pN x1)],[(8000,.arr 33 (fun i=>pI .u64 (x3 i))),(7000,.arr 33 (fun i=>pI .u64 ((fun _=>0) i))),(4000,.arr 33 (fun i=>pI .u64 (x2 i)))]⟩) (ids:=[(4000,4000),(7000,7000),(8000,8000)]) (fun _ _ _ _ _ f x1 x2 x3 d h=>?_) (hle:=klR [(1,.fn 33 33 (fun i=>[(fun i=>(cA 33 (pI .u64) y1).getD i default) i]) (fun i=>[pI .u64 (y1 i)])),(2,.fn 33 33 (fun i=>[(fun i=>(List.replicate 33 (pI .u64 0)).getD i default) i]) (fun i=>[pI .u64 ((fun _=>0) i)])),(3,.fn 33 33 (fun i=>[(fun i=>(cA 33 (pI .u64) p_x).getD i default) i]) (fun i=>[pI .u64 (p_x i)]))] (al1 ⟨rfl,E9 33 (fun i=>pI .u64 (y1 i))⟩ (al1 ⟨rfl,BR (z:=pI .u64 0) rfl⟩ (al1 ⟨rfl,E9 33 (fun i=>pI .u64 (p_x i))⟩ al0))));apply kI hS h<;>intro h
 .apply kI hS h<;>intro h
  .obtain⟨y8,e8,h⟩:=B8 h;refine C0 hS [8000,4000] Df (T6 hS hL e8) ?_;obtain⟨y9,e9,h⟩:=B8 h;refine C0 hS [4000] (And.intro rfl (G5 _ _):(0:Nat)=0/\(BL 33 (fun i=>pI .u64 (y8 i))).length=33) (CJ hS hL e9) ?_;exact d _ [(4000,4000),(7000,7000),(8000,8000)] _ (shI .shr .i64 x1 1) y9 y8 (And.intro (And.intro rfl (G5 _ _):(0:Nat)=0/\(BL 33 (fun i=>pI .u64 (y9 i))).length=33) (by decide:(0:Int)<=1)) h (hle:=klR [(1,.fn 33 33 (fun i=>[(fun i=>(cA 33 (pI .u64) y8).getD i default) i]) (fun i=>[pI .u64 (y8 i)])),(3,.fn 33 33 (fun i=>[(fun i=>(cA 33 (pI .u64) y9).getD i default) i]) (fun i=>[pI .u64 (y9 i)]))] (al1 ⟨rfl,E9 33 (fun i=>pI .u64 (y8 i))⟩ (al1 ⟨rfl,E9 33 (fun i=>pI .u64 (y9 i))⟩ al0)))
  obtain⟨a,e10,h⟩:=B8 h;refine C0 hS [4000] Df (CJ hS hL e10) ?_;exact d _ [(4000,4000),(7000,7000),(8000,8000)] _ (shI .shr .i64 x1 1) a x3 (And.intro (And.intro rfl (G5 _ _):(0:Nat)=0/\(BL 33 (fun i=>pI .u64 (a i))).length=33) (by decide:(0:Int)<=1)) h (hle:=klR [(3,.fn 33 33 (fun i=>[(fun i=>(cA 33 (pI .u64) a).getD i default) i]) (fun i=>[pI .u64 (a i)]))] (al1 ⟨rfl,E9 33 (fun i=>pI .u64 (a i))⟩ al0))
 obtain rfl:=C7 h;exact B3 hS (And.intro rfl (G5 _ _):(0:Nat)=0/\(BL 33 (fun i=>pI .u64 (x3 i))).length=33) ⟨[(6,.reg 7000 0)],[(7000,.arr 33 (fun i=>pI .u64 (x3 i)))]⟩ [] (ids:=[(7000,7000)]) ⟨rfl,rfl,rfl⟩ (hle:=klR [(0,.fn 33 33 (fun i=>[(fun i=>(cA 33 (pI .u64) x3).getD i default) i]) (fun i=>[pI .u64 (x3 i)]))] (al1 ⟨rfl,E9 33 (fun i=>pI .u64 (x3 i))⟩ al0))
end Go.AM
namespace Go.AM
variable {N:Nat}
open IntKind (wrap)
open Go.Proofs
set_option maxRecDepth 10000
set_option maxHeartbeats 2000000
variable {S:Q8}(hS:H1 S Tryz.prog) (hL:GL S)
include hS hL
def DZ (N:Nat)(p_x:Af9)(b:Sl Eg):Option (Nat->Int):= BC N (fun a (x1:Nat->Int) (x2:Int)=>if (decide (x2<(b.n:Int))) then if ((0:Int)<=x2/\x2<(b.n:Int))then if ((((E3 .or .u32 (E3 .andNot .u32 p_x.is.Plus (b.g x2.toNat).Plus) (E3 .andNot .u32 p_x.is.Minus (b.g x2.toNat).Minus))==0)==p_x.not) != true) then if (((0:Int)<=(wrap .i64 (x2+1))/\((0:Int)<=x2/\x2<33))/\(0+x2.toNat*1)<33)then a (Mm x1 (0+x2.toNat*1) (shI .shl .u64 1 (wrap .i64 (x2+1)))) (wrap .i64 (x2+1)) else none else a x1 (wrap .i64 (x2+1)) else none else some x1) (fun _=>0) 0
theorem Ol {p_x:Af9}{a:Sl Eg}{y:Nat->Int}(h:DZ N p_x a=some y) :FunO S DX [.p (.agg (Xy p_x)),.p (vSl 2 A1 a)] [] (.p (.agg (cA 33 (pI .u64) y))) ([]) []:=by
 unfold DZ at h;refine A6 hS Tryz.func260 ?_;refine I8 hS Df h (fun x1 x2=>⟨[(9,pN x2),(8,pN (a.n:Int)),(7,.p (vSl 2 A1 a)),(4,.reg 5000 0),(2,.reg 3000 0)],[(5000,.arr 33 (fun i=>pI .u64 (x1 i))),(3000,.cells ((Xy p_x).map .p))]⟩) (ids:=[(3000,3000),(5000,5000)]) (fun _ _ _ _ _ f x1 x2 d h=>?_) (hle:=klR [(3,.fn 33 33 (fun i=>[(fun i=>(List.replicate 33 (pI .u64 0)).getD i default) i]) (fun i=>[pI .u64 ((fun _=>0) i)]))] (al1 ⟨rfl,BR (z:=pI .u64 0) rfl⟩ al0));apply kI hS h<;>intro h
 .obtain⟨c8,h⟩:=E8 h;refine D9 hS (And.intro c8 (by decide:(2:Nat)<=2)) (b:=(((E3 .or .u32 (E3 .andNot .u32 p_x.is.Plus (a.g x2.toNat).Plus) (E3 .andNot .u32 p_x.is.Minus (a.g x2.toNat).Minus))==0)==p_x.not) != true) (fun c9=>?_) (fun c9=>?_)
  .replace h:=itT c9 h;obtain⟨c10,h⟩:=E8 h;exact d _ [(3000,3000),(5000,5000)] _ (Mm x1 (0+x2.toNat*1) (shI .shl .u64 1 (wrap .i64 (x2+1)))) (wrap .i64 (x2+1)) c10 h (hle:=klR [(3,.fn 33 33 (fun i=>[(fun i=>if i=(0+x2.toNat*1)then (pI .u64 (shI .shl .u64 1 (wrap .i64 (x2+1))))else (fun i=>pI .u64 (x1 i)) i) i]) (fun i=>[pI .u64 (Mm x1 (0+x2.toNat*1) (shI .shl .u64 1 (wrap .i64 (x2+1))) i)]))] (al1 ⟨rfl,At3 (c:=pI .u64) (v:=x1) (x:=shI .shl .u64 1 (wrap .i64 (x2+1))) (fun _ _=>rfl) rfl⟩ al0))
  replace h:=itF c9 h;exact d _ [(3000,3000),(5000,5000)] _ x1 (wrap .i64 (x2+1)) Df h
 obtain rfl:=C7 h;exact B3 hS (And.intro rfl (G5 _ _):(0:Nat)=0/\(BL 33 (fun i=>pI .u64 (x1 i))).length=33) ⟨[(4,.reg 5000 0)],[(5000,.arr 33 (fun i=>pI .u64 (x1 i)))]⟩ [] (ids:=[(5000,5000)]) ⟨rfl,rfl,rfl⟩ (hle:=klR [(0,.fn 33 33 (fun i=>[(fun i=>(cA 33 (pI .u64) x1).getD i default) i]) (fun i=>[pI .u64 (x1 i)]))] (al1 ⟨rfl,E9 33 (fun i=>pI .u64 (x1 i))⟩ al0))
def EP (N:Nat)(p_x:AA5)(a:Sl Eg):Option (Nat->Int):= if p_x.end_ then if (((0:Int)<=(a.n:Int)/\((0:Int)<=(a.n:Int)/\(a.n:Int)<33))/\(0+(a.n:Int).toNat*1)<33)then some (Mm (fun _=>0) (0+(a.n:Int).toNat*1) (shI .shl .u64 1 (a.n:Int))) else none else if (((0:Int)<=0/\(0:Int)<33)/\(0+0*1)<33)then some (Mm (fun _=>0) (0+0*1) (shI .shl .u64 1 0)) else none
theorem Pq {p_x:AA5}{a:Sl Eg}{y:Nat->Int}(h:EP N p_x a=some y) :FunO S EM [.p (.agg (AA6 p_x)),.p (vSl 2 A1 a)] [] (.p (.agg (cA 33 (pI .u64) y))) ([]) []:=by
 unfold EP at h;refine A6 hS Tryz.func261 ?_;apply kI hS h<;>intro h
 .obtain⟨c2,h⟩:=E8 h;obtain rfl:=C7 h;exact B3 hS (And.intro (And.intro (And.intro c2.1.1 c2.1.2) c2.2) (And.intro rfl (G5 _ _):(0:Nat)=0/\(BL 33 (fun i=>if i=(0+(a.n:Int).toNat*1)then (pI .u64 (shI .shl .u64 1 (a.n:Int)))else (fun i=>(List.replicate 33 (pI .u64 0)).getD i default) i)).length=33)) ⟨[(4,.reg 5000 0)],[(5000,.arr 33 (fun i=>pI .u64 (Mm (fun _=>0) (0+(a.n:Int).toNat*1) (shI .shl .u64 1 (a.n:Int)) i)))]⟩ [] (ids:=[(5000,5000)]) ⟨rfl,rfl,rfl⟩ (hle:=klR [(0,.fn 33 33 (fun i=>[(fun i=>(BL 33 (fun i=>if i=(0+(a.n:Int).toNat*1)then (pI .u64 (shI .shl .u64 1 (a.n:Int)))else (fun i=>(List.replicate 33 (pI .u64 0)).getD i default) i)).getD i default) i]) (fun i=>[pI .u64 (Mm (fun _=>0) (0+(a.n:Int).toNat*1) (shI .shl .u64 1 (a.n:Int)) i)]))] (al1 ⟨rfl,fun i b=>(E9 33 (fun i=>if i=(0+(a.n:Int).toNat*1)then (pI .u64 (shI .shl .u64 1 (a.n:Int)))else (fun i=>(List.replicate 33 (pI .u64 0)).getD i default) i) i b).trans (At3 (c:=pI .u64) (v:=fun _=>0) (x:=shI .shl .u64 1 (a.n:Int)) (BR (z:=pI .u64 0) rfl) rfl i b)⟩ al0))
 obtain⟨c3,h⟩:=E8 h;obtain rfl:=C7 h;exact B3 hS (And.intro (And.intro (And.intro (by decide:(0:Int)<=0) c3.1) c3.2) (And.intro rfl (G5 _ _):(0:Nat)=0/\(BL 33 (fun i=>if i=(0+0*1)then (pI .u64 (shI .shl .u64 1 0))else (fun i=>(List.replicate 33 (pI .u64 0)).getD i default) i)).length=33)) ⟨[(4,.reg 5000 0)],[(5000,.arr 33 (fun i=>pI .u64 (Mm (fun _=>0) (0+0*1) (shI .shl .u64 1 0) i)))]⟩ [] (ids:=[(5000,5000)]) ⟨rfl,rfl,rfl⟩ (hle:=klR [(0,.fn 33 33 (fun i=>[(fun i=>(BL 33 (fun i=>if i=(0+0*1)then (pI .u64 (shI .shl .u64 1 0))else (fun i=>(List.replicate 33 (pI .u64 0)).getD i default) i)).getD i default) i]) (fun i=>[pI .u64 (Mm (fun _=>0) (0+0*1) (shI .shl .u64 1 0) i)]))] (al1 ⟨rfl,fun i b=>(E9 33 (fun i=>if i=(0+0*1)then (pI .u64 (shI .shl .u64 1 0))else (fun i=>(List.replicate 33 (pI .u64 0)).getD i default) i) i b).trans (At3 (c:=pI .u64) (v:=fun _=>0) (x:=shI .shl .u64 1 0) (BR (z:=pI .u64 0) rfl) rfl i b)⟩ al0))
def Gn (rec:Part->(Sl Eg)->Option (Nat->Int))(N:Nat)(p_x:Pseq)(b:Sl Eg):Option (Nat->Int):= (Ac N (b.n:Int)).bind fun y1=>BC N (fun a (x1:Nat->Int) (x2:Int)=>if (decide (x2<(p_x.l.n:Int))) then if ((0:Int)<=x2/\x2<(p_x.l.n:Int))then (rec (p_x.l.g x2.toNat) b).bind fun y6=>(K4 N x1 y6).bind fun y7=>a y7 (wrap .i64 (x2+1)) else none else some x1) y1 0
theorem Sd {rec:Part->(Sl Eg)->Option ((Nat->Int))}(b:∀{x:Part}{b0:(Sl Eg)}{y:(Nat->Int)},rec x b0=some y->AH8 S Tryz.prog (Hq x) "ablaut/pats.in" [(.p (vSl 2 A1 b0))] (.p (.agg (cA 33 (pI .u64) y)))){p_x:Pseq}{a:(Sl Eg)}{y:(Nat->Int)}(h:Gn rec N p_x a=some y) :FunO S Gk [(.p (.agg (AI8 p_x))),(.p (vSl 2 A1 a))] [] (.p (.agg (cA 33 (pI .u64) y))) ([]) []:=by
 unfold Gn at h;refine A6 hS Tryz.func267 ?_;refine kC hS h (DY hS hL) (fun y1 h=>?_);refine I8 hS (And.intro rfl (G5 _ _):(0:Nat)=0/\(BL 33 (fun i=>pI .u64 (y1 i))).length=33) h (fun x1 x2=>⟨[(15,(pN x2)),(14,(pN (p_x.l.n:Int))),(13,(.p (vSl 1 Fy p_x.l))),(5,(.reg 6000 0)),(4,(.reg 5000 0)),(1,(.p (vSl 2 A1 a)))],[(6000,(.arr 33 (fun i=>pI .u64 (x1 i)))),(5000,(.arr 33 (fun i=>pI .u64 ((fun _=>0) i))))]⟩) (ids:=[(5000,5000),(6000,6000)]) (fun _ _ _ _ _ c x1 x2 d h=>?_) (hle:=(klR [(4,.fn 33 33 (fun i=>[(fun i=>(cA 33 (pI .u64) y1).getD i default) i]) (fun i=>[pI .u64 (y1 i)])),(5,.fn 33 33 (fun i=>[(fun i=>(List.replicate 33 (pI .u64 0)).getD i default) i]) (fun i=>[pI .u64 ((fun _=>0) i)]))] (al1 ⟨rfl,(E9 33 (fun i=>pI .u64 (y1 i)))⟩ (al1 ⟨rfl,(BR (z:=pI .u64 0) rfl)⟩ al0))));apply kI hS h<;>intro h
 .obtain⟨c6,h⟩:=E8 h;obtain⟨y6,e6,h⟩:=B8 h;refine Ml hS c6 (b e6) ?_;refine DB hS (And.intro rfl (G5 _ _):(0:Nat)=0/\(BL 33 (fun i=>pI .u64 (y6 i))).length=33) ⟨[(15,(pN x2)),(14,(pN (p_x.l.n:Int))),(13,(.p (vSl 1 Fy p_x.l))),(8,(.reg 9000 0)),(5,(.reg 6000 0)),(4,(.reg 5000 0)),(1,(.p (vSl 2 A1 a)))],[(9000,(.arr 33 (fun i=>pI .u64 (y6 i)))),(6000,(.arr 33 (fun i=>pI .u64 (x1 i)))),(5000,(.arr 33 (fun i=>pI .u64 ((fun _=>0) i))))]⟩ (ids:=[(5000,5000),(6000,6000),(9000,9000)]) ?_ (hle:=(klR [(4,.fn 33 33 (fun i=>[(fun i=>(cA 33 (pI .u64) y6).getD i default) i]) (fun i=>[pI .u64 (y6 i)]))] (al1 ⟨rfl,(E9 33 (fun i=>pI .u64 (y6 i)))⟩ al0)));obtain⟨y7,e7,h⟩:=B8 h;refine C0 hS [6000,9000] Df (T6 hS hL e7) ?_;exact d _ [(5000,5000),(6000,6000)] _ y7 (wrap .i64 (x2+1)) (And.intro rfl (G5 _ _):(0:Nat)=0/\(BL 33 (fun i=>pI .u64 (y7 i))).length=33) h (hle:=klR [(4,.fn 33 33 (fun i=>[(fun i=>(cA 33 (pI .u64) y7).getD i default) i]) (fun i=>[pI .u64 (y7 i)]))] (al1 ⟨rfl,(E9 33 (fun i=>pI .u64 (y7 i)))⟩ al0))
 obtain rfl:=C7 h;exact B3 hS (And.intro rfl (G5 _ _):(0:Nat)=0/\(BL 33 (fun i=>pI .u64 (x1 i))).length=33) ⟨[(4,(.reg 5000 0))],[(5000,(.arr 33 (fun i=>pI .u64 (x1 i))))]⟩ [] (ids:=[(5000,5000)]) ⟨rfl,rfl,rfl⟩ (hle:=(klR [(0,.fn 33 33 (fun i=>[(fun i=>(cA 33 (pI .u64) x1).getD i default) i]) (fun i=>[pI .u64 (x1 i)]))] (al1 ⟨rfl,(E9 33 (fun i=>pI .u64 (x1 i)))⟩ al0)))
def Gp (rec:Part->(Sl Eg)->Option (Nat->Int))(N:Nat)(p_x:Palt)(b:Sl Eg):Option (Nat->Int):= BC N (fun a (x1:Nat->Int) (x2:Int)=>if (decide (x2<(p_x.l.n:Int))) then if ((0:Int)<=x2/\x2<(p_x.l.n:Int))then (rec (p_x.l.g x2.toNat) b).bind fun y5=>(X6 N x1 y5).bind fun y6=>a y6 (wrap .i64 (x2+1)) else none else some x1) (fun _=>0) 0
theorem Se {rec:Part->(Sl Eg)->Option ((Nat->Int))}(b:∀{x:Part}{b0:(Sl Eg)}{y:(Nat->Int)},rec x b0=some y->AH8 S Tryz.prog (Hq x) "ablaut/pats.in" [(.p (vSl 2 A1 b0))] (.p (.agg (cA 33 (pI .u64) y)))){p_x:Palt}{a:(Sl Eg)}{y:(Nat->Int)}(h:Gp rec N p_x a=some y) :FunO S Gi [(.p (.agg (AI6 p_x))),(.p (vSl 2 A1 a))] [] (.p (.agg (cA 33 (pI .u64) y))) ([]) []:=by
 unfold Gp at h;refine A6 hS Tryz.func262 ?_;refine I8 hS Df h (fun x1 x2=>⟨[(11,(pN x2)),(10,(pN (p_x.l.n:Int))),(9,(.p (vSl 1 Fy p_x.l))),(4,(.reg 5000 0)),(1,(.p (vSl 2 A1 a)))],[(5000,(.arr 33 (fun i=>pI .u64 (x1 i))))]⟩) (ids:=[(5000,5000)]) (fun _ _ _ _ _ c x1 x2 d h=>?_) (hle:=(klR [(4,.fn 33 33 (fun i=>[(fun i=>(List.replicate 33 (pI .u64 0)).getD i default) i]) (fun i=>[pI .u64 ((fun _=>0) i)]))] (al1 ⟨rfl,(BR (z:=pI .u64 0) rfl)⟩ al0)));apply kI hS h<;>intro h
 .obtain⟨c6,h⟩:=E8 h;obtain⟨y5,e5,h⟩:=B8 h;refine Ml hS c6 (b e5) ?_;refine DB hS (And.intro rfl (G5 _ _):(0:Nat)=0/\(BL 33 (fun i=>pI .u64 (y5 i))).length=33) ⟨[(11,(pN x2)),(10,(pN (p_x.l.n:Int))),(9,(.p (vSl 1 Fy p_x.l))),(7,(.reg 8000 0)),(4,(.reg 5000 0)),(1,(.p (vSl 2 A1 a)))],[(8000,(.arr 33 (fun i=>pI .u64 (y5 i)))),(5000,(.arr 33 (fun i=>pI .u64 (x1 i))))]⟩ (ids:=[(5000,5000),(8000,8000)]) ?_ (hle:=(klR [(4,.fn 33 33 (fun i=>[(fun i=>(cA 33 (pI .u64) y5).getD i default) i]) (fun i=>[pI .u64 (y5 i)]))] (al1 ⟨rfl,(E9 33 (fun i=>pI .u64 (y5 i)))⟩ al0)));obtain⟨y6,e6,h⟩:=B8 h;refine C0 hS [5000,8000] Df (Ey hS hL e6) ?_;exact d _ [(5000,5000)] _ y6 (wrap .i64 (x2+1)) Df h
 obtain rfl:=C7 h;exact B3 hS (And.intro rfl (G5 _ _):(0:Nat)=0/\(BL 33 (fun i=>pI .u64 (x1 i))).length=33) ⟨[(4,(.reg 5000 0))],[(5000,(.arr 33 (fun i=>pI .u64 (x1 i))))]⟩ [] (ids:=[(5000,5000)]) ⟨rfl,rfl,rfl⟩ (hle:=(klR [(0,.fn 33 33 (fun i=>[(fun i=>(cA 33 (pI .u64) x1).getD i default) i]) (fun i=>[pI .u64 (x1 i)]))] (al1 ⟨rfl,(E9 33 (fun i=>pI .u64 (x1 i)))⟩ al0)))
def Gq (rec:Part->(Sl Eg)->Option (Nat->Int))(N:Nat)(p_x:Prep)(a:Sl Eg):Option (Nat->Int):= (rec p_x.of a).bind fun y1=>(N7 N y1 p_x.min (a.n:Int)).bind fun y2=>(Ac N (a.n:Int)).bind fun y3=>(X6 N y1 y3).bind fun y4=>if (decide (p_x.max<0)) then (N7 N y4 (a.n:Int) (a.n:Int)).bind fun y5=>(K4 N y2 y5).bind fun y6=>some y6 else (N7 N y4 (wrap .i64 (p_x.max-p_x.min)) (a.n:Int)).bind fun y7=>(K4 N y2 y7).bind fun y8=>some y8
theorem Sf {rec:Part->(Sl Eg)->Option ((Nat->Int))}(b:∀{x:Part}{b0:(Sl Eg)}{y:(Nat->Int)},rec x b0=some y->AH8 S Tryz.prog (Hq x) "ablaut/pats.in" [(.p (vSl 2 A1 b0))] (.p (.agg (cA 33 (pI .u64) y)))){p_x:Prep}{a:(Sl Eg)}{y:(Nat->Int)}(h:Gq rec N p_x a=some y) :FunO S Gj [(.p (.agg (AI7 p_x))),(.p (vSl 2 A1 a))] [] (.p (.agg (cA 33 (pI .u64) y))) ([]) []:=by
 unfold Gq at h;refine A6 hS Tryz.func264 ?_;obtain⟨y1,e1,h⟩:=B8 h;refine Ml hS Df (b e1) ?_;refine DB hS (And.intro rfl (G5 _ _):(0:Nat)=0/\(BL 33 (fun i=>pI .u64 (y1 i))).length=33) ⟨[(18,(pN (a.n:Int))),(16,(pN p_x.min)),(14,(.p (.agg (cA 33 (pI .u64) y1)))),(5,(.reg 6000 0)),(4,(.reg 5000 0)),(2,(.reg 3000 0)),(1,(.p (vSl 2 A1 a)))],[(6000,(.arr 33 (fun i=>pI .u64 (y1 i)))),(5000,(.arr 33 (fun i=>pI .u64 ((fun _=>0) i)))),(3000,(.cells [(.p (Hq p_x.of)),(pN p_x.min),(pN p_x.max)]))]⟩ (ids:=[(3000,3000),(5000,5000),(6000,6000)]) ?_ (hle:=(klR [(2,.eq (.agg (BL 33 (fun i=>(cA 33 (pI .u64) y1).getD i default))) (.agg (cA 33 (pI .u64) y1))),(4,.fn 33 33 (fun i=>[(fun i=>(cA 33 (pI .u64) y1).getD i default) i]) (fun i=>[pI .u64 (y1 i)])),(5,.fn 33 33 (fun i=>[(fun i=>(List.replicate 33 (pI .u64 0)).getD i default) i]) (fun i=>[pI .u64 ((fun _=>0) i)]))] (al1 (congrArg PV.agg (YY (E9 33 (fun i=>pI .u64 (y1 i))))) (al1 ⟨rfl,(E9 33 (fun i=>pI .u64 (y1 i)))⟩ (al1 ⟨rfl,(BR (z:=pI .u64 0) rfl)⟩ al0)))));refine kC hS h (Ad hS hL) (fun y2 h=>?_);obtain⟨y3,e3,h⟩:=B8 h;refine C0 hS [] (And.intro (And.intro rfl (G5 _ _):(0:Nat)=0/\(BL 33 (fun i=>pI .u64 (y2 i))).length=33) (And.intro rfl (G5 _ _):(0:Nat)=0/\(BL 33 (fun i=>pI .u64 (y1 i))).length=33)) (DY hS hL e3) ?_;refine DB hS (And.intro rfl (G5 _ _):(0:Nat)=0/\(BL 33 (fun i=>pI .u64 (y3 i))).length=33) ⟨[(8,(.reg 9000 0)),(7,(.reg 8000 0)),(6,(.reg 7000 0)),(4,(.reg 5000 0)),(2,(.reg 3000 0)),(1,(.p (vSl 2 A1 a)))],[(9000,(.arr 33 (fun i=>pI .u64 (y3 i)))),(8000,(.arr 33 (fun i=>pI .u64 (y1 i)))),(7000,(.arr 33 (fun i=>pI .u64 (y2 i)))),(5000,(.arr 33 (fun i=>pI .u64 ((fun _=>0) i)))),(3000,(.cells [(.p (Hq p_x.of)),(pN p_x.min),(pN p_x.max)]))]⟩ (ids:=[(3000,3000),(5000,5000),(7000,7000),(8000,8000),(9000,9000)]) ?_ (hle:=(klR [(1,.fn 33 33 (fun i=>[(fun i=>(cA 33 (pI .u64) y3).getD i default) i]) (fun i=>[pI .u64 (y3 i)])),(2,.fn 33 33 (fun i=>[(fun i=>(cA 33 (pI .u64) y1).getD i default) i]) (fun i=>[pI .u64 (y1 i)])),(3,.fn 33 33 (fun i=>[(fun i=>(cA 33 (pI .u64) y2).getD i default) i]) (fun i=>[pI .u64 (y2 i)]))] (al1 ⟨rfl,(E9 33 (fun i=>pI .u64 (y3 i)))⟩ (al1 ⟨rfl,(E9 33 (fun i=>pI .u64 (y1 i)))⟩ (al1 ⟨rfl,(E9 33 (fun i=>pI .u64 (y2 i)))⟩ al0)))));obtain⟨y4,e4,h⟩:=B8 h;refine C0 hS [8000,9000] Df (Ey hS hL e4) ?_;apply kI hS h<;>intro h
 .refine kC hS h (Ad hS hL) (fun y5 h=>?_);refine DB hS (And.intro rfl (G5 _ _):(0:Nat)=0/\(BL 33 (fun i=>pI .u64 (y5 i))).length=33) ⟨[(7,(.reg 8000 0)),(6,(.reg 7000 0)),(4,(.reg 5000 0))],[(8000,(.arr 33 (fun i=>pI .u64 (y5 i)))),(7000,(.arr 33 (fun i=>pI .u64 (y2 i)))),(5000,(.arr 33 (fun i=>pI .u64 ((fun _=>0) i))))]⟩ (ids:=[(5000,5000),(7000,7000),(8000,8000)]) ?_ (hle:=(klR [(0,.fn 33 33 (fun i=>[(fun i=>(cA 33 (pI .u64) y5).getD i default) i]) (fun i=>[pI .u64 (y5 i)]))] (al1 ⟨rfl,(E9 33 (fun i=>pI .u64 (y5 i)))⟩ al0)));obtain⟨y6,e6,h⟩:=B8 h;refine C0 hS [7000,8000] Df (T6 hS hL e6) ?_;obtain rfl:=C7 h;exact B3 hS (And.intro rfl (G5 _ _):(0:Nat)=0/\(BL 33 (fun i=>pI .u64 (y6 i))).length=33) ⟨[(4,(.reg 5000 0))],[(5000,(.arr 33 (fun i=>pI .u64 (y6 i))))]⟩ [] (ids:=[(5000,5000)]) ⟨rfl,rfl,rfl⟩ (hle:=(klR [(0,.fn 33 33 (fun i=>[(fun i=>(cA 33 (pI .u64) y6).getD i default) i]) (fun i=>[pI .u64 (y6 i)]))] (al1 ⟨rfl,(E9 33 (fun i=>pI .u64 (y6 i)))⟩ al0)))
 refine kC hS h (Ad hS hL) (fun y7 h=>?_);refine DB hS (And.intro rfl (G5 _ _):(0:Nat)=0/\(BL 33 (fun i=>pI .u64 (y7 i))).length=33) ⟨[(7,(.reg 8000 0)),(6,(.reg 7000 0)),(4,(.reg 5000 0))],[(8000,(.arr 33 (fun i=>pI .u64 (y7 i)))),(7000,(.arr 33 (fun i=>pI .u64 (y2 i)))),(5000,(.arr 33 (fun i=>pI .u64 ((fun _=>0) i))))]⟩ (ids:=[(5000,5000),(7000,7000),(8000,8000)]) ?_ (hle:=(klR [(0,.fn 33 33 (fun i=>[(fun i=>(cA 33 (pI .u64) y7).getD i default) i]) (fun i=>[pI .u64 (y7 i)]))] (al1 ⟨rfl,(E9 33 (fun i=>pI .u64 (y7 i)))⟩ al0)));obtain⟨y8,e8,h⟩:=B8 h;refine C0 hS [7000,8000] Df (T6 hS hL e8) ?_;obtain rfl:=C7 h;exact B3 hS (And.intro rfl (G5 _ _):(0:Nat)=0/\(BL 33 (fun i=>pI .u64 (y8 i))).length=33) ⟨[(4,(.reg 5000 0))],[(5000,(.arr 33 (fun i=>pI .u64 (y8 i))))]⟩ [] (ids:=[(5000,5000)]) ⟨rfl,rfl,rfl⟩ (hle:=(klR [(0,.fn 33 33 (fun i=>[(fun i=>(cA 33 (pI .u64) y8).getD i default) i]) (fun i=>[pI .u64 (y8 i)]))] (al1 ⟨rfl,(E9 33 (fun i=>pI .u64 (y8 i)))⟩ al0)))
def CV (rec:Pat->Option Part)(N:Nat)(a:Pat):Option Part:= BC N (fun b (x1:Sl Part) (x2:Int)=>if (decide (x2<(a.L.n:Int))) then if ((0:Int)<=x2/\x2<(a.L.n:Int))then (rec (a.L.g x2.toNat)).bind fun y3=>if ((x1.n+(Sl.of [y3]:Sl Part).n)*16<=140737488355328/\x1.n+(Sl.of [y3]:Sl Part).n<=140737488355328)then b (x1.push y3) (wrap .i64 (x2+1)) else none else none else if (a.Kind==1) then some (Part.sound a.Is a.Not) else if (a.Kind==2) then some (Part.edge false) else if (a.Kind==6) then some (Part.edge true) else if (a.Kind==4) then some (Part.alt x1.n x1.g) else if (a.Kind==5) then if (((0:Int)<=0/\0<(x1.n:Int))/\0<x1.n)then some (Part.rep (x1.g 0) a.Min a.Max) else none else some (Part.seq x1.n x1.g)) (Sl.nil:Sl Part) 0
def EQ:Nat->Pat->Option Part
 |0=>fun _=>none
 |N+1=>CV (EQ N) N
theorem Om {rec:Pat->Option Part}(b:∀{a:Pat}{y:Part},rec a=some y->FunO S Cr [.p (.agg (B7 a))] [] (.p (Hq y)) ([]) []){a:Pat}{y:Part}(h:CV rec N a=some y) :FunO S Cr [.p (.agg (B7 a))] [] (.p (Hq y)) ([]) []:=by
 unfold CV at h;refine A6 hS Tryz.func235 ?_;refine J3 hS Df 2 2000 (B7 a) ?_;refine I7 hS Df 8 ⟨[(7,.p (vSl 7 B7 a.L)),(3,.p G1),(1,.p (.ptr (B7 a)))],[]⟩ (ids:=[]) ?_ (hle:=klR [(0,.fn a.L.n a.L.n (BY a) (fun i=>B7 (a.L.g i)))] (al1 ⟨rfl,U8 a⟩ al0));refine I8 hS Df h (fun x1 x2=>⟨[(9,pN x2),(8,pN (a.L.n:Int)),(7,.p (vSl 7 B7 a.L)),(3,.vec 4500),(1,.p (.ptr (B7 a)))],[(4500,.vec VX 1 x1.n (fun i=>Fy (x1.g i)) false)]⟩) (ids:=[]) (fun _ _ _ _ _ d x1 x2 f h=>?_);apply kI hS h<;>intro h
 .obtain⟨c6,h⟩:=E8 h;refine J3 hS (And.intro c6 (by decide:(7:Nat)<=7)) 13 6000 (B7 (a.L.g x2.toNat)) ?_;obtain⟨y3,e3,h⟩:=B8 h;refine C0 hS [] (by decide:(7:Nat)<=7) (b e3) ?_;obtain⟨c7,h⟩:=E8 h;exact f _ [(4500,18000)] _ (x1.push y3) (wrap .i64 (x2+1)) (And.intro (rfl:true=true) c7) h (hle:=klR [(4,.fn (x1.n+1) (x1.push y3).n (AP x1.n (fun i=>Fy (x1.g i)) (D3 [.v .nilIface] [(0,Fy y3)])) (fun i=>Fy ((x1.push y3).g i)))] (al1 ⟨rfl,LI (c:=Fy) (v:=x1) (x:=y3) (z:=[(.v .nilIface)]) same rfl rfl⟩ al0))
 apply kI hS h<;>intro h
 .obtain rfl:=C7 h;exact XU hS (by decide:(2:Nat)<=6) [] ⟨rfl,rfl,rfl⟩
 apply kI hS h<;>intro h
 .cases h;exact kR hS
 apply kI hS h<;>intro h
 .cases h;exact kR hS
 apply kI hS h<;>intro h
 .refine I7 hS Df 40 ⟨[(39,.p (vSl 1 Fy x1))],[]⟩ (ids:=[]) ?_;cases h;exact kR hS
 apply kI hS h<;>intro h
 .refine G9 hS Df [4,6] ?_;obtain⟨c13,h⟩:=E8 h;refine O0 c13 ?_;cases h;exact kR hS
 refine I7 hS Df 54 ⟨[(53,.p (vSl 1 Fy x1))],[]⟩ (ids:=[]) ?_;cases h;exact kR hS
theorem Pr {a:Pat}{y:Part}(h:EQ N a=some y) :FunO S Cr [.p (.agg (B7 a))] [] (.p (Hq y)) ([]) []:=by
 induction N generalizing a y with
 |zero=>cases (show (none:Option Part)=some y from h)
 |succ N ih=>exact Om hS hL (fun e=>ih e) h
end Go.AM
namespace Go.AM
open Go.Proofs
variable {S:Q8}(hS:H1 S Tryz.prog) (hL:GL S)
include hS hL
def HH:Nat->Part->Sl Eg->Option (Nat->Int)
 |0=>fun _ _=>none
 |N+1=>fun p w=>match p with
  |.nil=>none
  |.sound x no=>DZ N ⟨x,no⟩ w
  |.edge e=>EP N ⟨e⟩ w
  |.seq n g=>Gn (HH N) N ⟨⟨n,g⟩⟩ w
  |.alt n g=>Gp (HH N) N ⟨⟨n,g⟩⟩ w
  |.rep o mn mx=>Gq (HH N) N ⟨o,mn,mx⟩ w
theorem Ag4 {N:Nat}{x:Part}{w:Sl Eg}{y:Nat->Int}(h:HH N x w=some y):AH8 S Tryz.prog (Hq x) "ablaut/pats.in" [(.p (vSl 2 A1 w))] (.p (.agg (cA 33 (pI .u64) y))):=by
 induction N generalizing x w y with
 |zero=>cases h
 |succ N ih=>
  cases x with
  |nil=>cases h
  |sound s no=>exact⟨_,_,DX,rfl,by kernel_rfl,Ol hS hL (p_x:=⟨s,no⟩) h⟩
  |edge e=>exact⟨_,_,EM,rfl,by kernel_rfl,Pq hS hL (N:=N) (p_x:=⟨e⟩) h⟩
  |seq n g=>exact⟨_,_,Gk,rfl,by kernel_rfl,Sd hS hL (fun e=>ih e) (p_x:=⟨⟨n,g⟩⟩) h⟩
  |alt n g=>exact⟨_,_,Gi,rfl,by kernel_rfl,Se hS hL (fun e=>ih e) (p_x:=⟨⟨n,g⟩⟩) h⟩
  |rep o mn mx=>exact⟨_,_,Gj,rfl,by kernel_rfl,Sf hS hL (fun e=>ih e) (p_x:=⟨o,mn,mx⟩) h⟩
end Go.AM
namespace Go.AM
variable {N:Nat}
open IntKind (wrap)
open Go.Proofs
set_option maxRecDepth 10000
set_option maxHeartbeats 2000000
variable {S:Q8}(hS:H1 S Tryz.prog) (hL:GL S)
include hS hL
def Ea (N:Nat)(a:Eg):Option Bool:= (Q1 N a).bind fun y1=>some (!y1)
theorem Oo {a:Eg}{y:Bool}(h:Ea N a=some y) :FunO S Hz [.p (.agg (A1 a))] [] (pB y) ([]) []:=by unfold Ea at h;refine A6 hS Tryz.func234 ?_;refine kC hS h (Ex hS hL) (fun y1 h=>?_);cases h;exact kR hS
def E4 (N:Nat)(a:Sl Eg)(c:Eg->Option Bool):Option Int:= Y1 N (fun b (x1:Int)=>if (decide (x1<(a.n:Int))) then if ((0:Int)<=x1/\x1<(a.n:Int))then (c (a.g x1.toNat)).bind fun y3=>if y3 then some x1 else b (wrap .i64 (x1+1)) else none else some (-1)) 0
theorem X4 {a:Sl Eg}{c:Eg->Option Bool}{kp_f:Nat}(d:∀{a0:Eg}{b:Bool},c a0=some b->FunO S kp_f [.p (.agg (A1 a0))] [] (pB b) [] []){y:Int}(h:E4 N a c=some y) :FunO S L0 [.p (vSl 2 A1 a),.clo kp_f [] []] [] (pN y) ([]) []:=by
 unfold E4 at h;refine A6 hS Tryz.func150 ?_;refine N4 hS Df h (fun x1=>⟨[(8,pN x1),(7,pN (a.n:Int)),(1,.clo kp_f [] []),(0,.p (vSl 2 A1 a))],[]⟩) (ids:=[]) (fun _ _ _ _ _ f x1 g h=>?_);apply kI hS h<;>intro h
 .obtain⟨c8,h⟩:=E8 h;obtain⟨y3,e3,h⟩:=B8 h;refine C0 hS [] (And.intro c8 (by decide:(2:Nat)<=2)) (d e3) ?_;apply kI hS h<;>intro h
  .cases h;exact kR hS
  exact g _ [] _ (wrap .i64 (x1+1)) Df h
 cases h;exact kR hS
def B6 (N:Nat)(a:Sl Eg)(b:Eg->Option Bool):Option Bool:= (E4 N a b).bind fun y1=>some (decide (0<=y1))
theorem J7 {a:Sl Eg}{c:Eg->Option Bool}{kp_f:Nat}(d:∀{a0:Eg}{b:Bool},c a0=some b->FunO S kp_f [.p (.agg (A1 a0))] [] (pB b) [] []){y:Bool}(h:B6 N a c=some y) :FunO S J6 [.p (vSl 2 A1 a),.clo kp_f [] []] [] (pB y) ([]) []:=by unfold B6 at h;refine A6 hS Tryz.func123 ?_;refine kC hS h (X4 hS hL (fun e=>d e)) (fun y1 h=>?_);cases h;exact kR hS
def D5 (N:Nat)(q0:Sl Pat):Option (List (Int×Pat)):= Y1 N (fun a (x1:Int)=>if (decide (0<=x1)) then if ((0:Int)<=x1/\x1<(q0.n:Int))then GM (x1,q0.g x1.toNat) (a (wrap .i64 (x1-1))) else none else some []) (wrap .i64 ((q0.n:Int)-1))
theorem AB {q0:Sl Pat}{L:List (Int×Pat)}(h:D5 N q0=some L) :FX S F3 [] [.reg 0 0] [.cells [.p (vSl 7 B7 q0)]] (L.map (fun (x:Int×Pat)=>[pI .i64 x.1,(fun x=>.agg (B7 x)) x.2])):=by
 unfold D5 at h;refine Gc hS Tryz.func172 ?_;refine Hn hS Df h (fun x1 L1=>⟨[(3,pN x1),(1,.reg 0 0),(0,.yf 1)],[(1,.yld (L1.map (fun (x:Int×Pat)=>[pI .i64 x.1,(fun x=>.agg (B7 x)) x.2])) true),(0,.cells [.p (vSl 7 B7 q0)])]⟩) (ids:=[(0,0),(1,1)]) (fun _ _ _ _ _ d x1 L1 f h=>?_);apply kI hS h<;>intro h
 .obtain⟨c10,h⟩:=E8 h;obtain⟨L4,rfl,c⟩:=NH h;replace h:=c;refine DS hS (And.intro c10 (by decide:(7:Nat)<=7)) (ys:=(fun (x:Int×Pat)=>[pI .i64 x.1,(fun x=>.agg (B7 x)) x.2]) (x1,q0.g x1.toNat)) (rest:=L4.map (fun (x:Int×Pat)=>[pI .i64 x.1,(fun x=>.agg (B7 x)) x.2])) ?_ ?_
  .refine D9 hS Df (b:=false) (fun c11=>?_) (fun c11=>?_)
   .exact Bool.noConfusion ((rfl:false=false).symm.trans c11)
   exact f _ [(0,0),(1,1)] _ (wrap .i64 (x1-1)) L4 Df h
  refine D9 hS Df (b:=true) (fun c12=>?_) (fun c12=>?_)
  .exact B3 hS Df (a:=.tup []) (objs:=[(.cells [.p (vSl 7 B7 q0)]),.yld [] false]) ⟨[],[(1,.yld [] false),(0,.cells [.p (vSl 7 B7 q0)])]⟩ [0,1] (ids:=[(0,0),(1,1)]) ⟨false,rfl,rfl,_,rfl⟩
  exact Bool.noConfusion ((rfl:true=true).symm.trans c12)
 obtain rfl:=C7 h;exact B3 hS Df (a:=.tup []) (objs:=[(.cells [.p (vSl 7 B7 q0)]),.yld [] true]) ⟨[],[(1,.yld [] true),(0,.cells [.p (vSl 7 B7 q0)])]⟩ [0,1] (ids:=[(0,0),(1,1)]) ⟨true,rfl,rfl,_,rfl⟩
def J0 (N:Nat)(a:Sl Pat):Option (Sl Pat):= some a
theorem Bf {a:Sl Pat}{y:Sl Pat}(h:J0 N a=some y) :FunO S Q5 [.p (vSl 7 B7 a)] [] (.clo F3 [] [.reg 0 0]) ([.cells [.p (vSl 7 B7 y)]]) []:=by unfold J0 at h;refine A6 hS Tryz.func149 ?_;obtain rfl:=C7 h;exact B3 hS Df ⟨[(2,.clo F3 [] [.reg 2000 0])],[(2000,.cells [.p (vSl 7 B7 a)])]⟩ [2000] (ids:=[(2000,2000)]) ⟨rfl,rfl,rfl⟩
def Y9 (N:Nat)(c:Pat):Option Int:= BC N (fun a (x3:Sl Pat) (x4:Int)=>if (decide (0<(x3.n:Int))) then if (x4==40) then some 12 else if (((0:Int)<=(wrap .i64 ((x3.n:Int)-1))/\(wrap .i64 ((x3.n:Int)-1))<(x3.n:Int))/\(wrap .i64 ((x3.n:Int)-1)).toNat<x3.n)then if ((0:Int)<=(wrap .i64 ((x3.n:Int)-1))/\(wrap .i64 ((x3.n:Int)-1))<=(x3.n:Int))then (AR N (x3.g (wrap .i64 ((x3.n:Int)-1)).toNat)).bind fun y5=>if (y5 != 0) then some y5 else if ((0:Int)<=(if 41<((x3.g (wrap .i64 ((x3.n:Int)-1)).toNat).L.n:Int)then 41 else ((x3.g (wrap .i64 ((x3.n:Int)-1)).toNat).L.n:Int))/\(if 41<((x3.g (wrap .i64 ((x3.n:Int)-1)).toNat).L.n:Int)then 41 else ((x3.g (wrap .i64 ((x3.n:Int)-1)).toNat).L.n:Int))<=((x3.g (wrap .i64 ((x3.n:Int)-1)).toNat).L.n:Int))then (J0 N ((x3.g (wrap .i64 ((x3.n:Int)-1)).toNat).L.take (if 41<((x3.g (wrap .i64 ((x3.n:Int)-1)).toNat).L.n:Int)then 41 else ((x3.g (wrap .i64 ((x3.n:Int)-1)).toNat).L.n:Int)).toNat)).bind fun y6=>(D5 N y6).bind fun L3=>X0 L3 (fun b (x7:Int×Pat) (z3:Sl Pat)=>if ((((z3.n+(Sl.of [Pat.nil]:Sl Pat).n)*64<=140737488355328/\z3.n+(Sl.of [Pat.nil]:Sl Pat).n<=140737488355328)/\((0:Int)<=(z3.n:Int)/\(z3.n:Int)<((z3.push Pat.nil).n:Int)))/\(z3.n:Int).toNat<(z3.push Pat.nil).n)then b ((z3.push Pat.nil).upd (z3.n:Int).toNat x7.2) else none) (fun (z3:Sl Pat)=>a z3 (wrap .i64 (x4+1))) (x3.take (wrap .i64 ((x3.n:Int)-1)).toNat) else none else none else none else some 0) (Sl.of [c]:Sl Pat) 0
theorem HI {b:Pat}{y:Int}(h:Y9 N b=some y) :FunO S Lx [.p (.agg (B7 b))] [] (pN y) ([]) []:=by
 unfold Y9 at h;refine A6 hS Tryz.func122 ?_;refine J3 hS Df 2 2000 (B7 b) ?_;refine I8 hS (And.intro (by decide:(7:Nat)<=7) (rfl:true=true)) h (fun x3 x4=>⟨[(4,pN x4),(3,.reg 4000 0)],[(4501,.vec Fj 7 x3.n (fun i=>B7 (x3.g i)) false),(4000,.cells [.vec 4501])]⟩) (ids:=[(4000,4000),(4501,12000)]) (fun _ _ _ _ _ d x3 x4 j h=>?_) (hle:=klR [(1,.fn 1 (Sl.of [b]:Sl Pat).n (D3 [pI .i64 0,pI .u32 0,pI .u32 0,.v (.bool false),pI .i64 0,pI .i64 0,G1] [(0,B7 b)]) (fun i=>B7 ((Sl.of [b]:Sl Pat).g i)))] (al1 ⟨rfl,(fun i m=>match i,m with|0,_=>rfl|_+1,m=>Bc m (by omega))⟩ al0));apply kI hS h<;>intro h
 .apply kI hS h<;>intro h
  .cases h;exact kR hS
  obtain⟨c21,h⟩:=E8 h;refine J3 hS (And.intro (And.intro c21.1 (by decide:(7:Nat)<=7)) c21.2) 25 6000 (B7 (x3.g (wrap .i64 ((x3.n:Int)-1)).toNat)) ?_;obtain⟨c22,h⟩:=E8 h;refine Ar1 hS c22 30 4501 (wrap .i64 ((x3.n:Int)-1)).toNat 4508 (e:=Fj) (k:=7) (N:=x3.n) (f:=fun i=>B7 (x3.g i)) (by have r:=c22;omega) ?_;obtain⟨y5,e7,h⟩:=B8 h;refine C0 hS [] (by decide:(7:Nat)<=7) (Pp hS hL e7) ?_;apply kI hS h<;>intro h
  .cases h;exact kR hS
  refine I7 hS Df 39 ⟨[(38,.p (vSl 7 B7 (x3.g (wrap .i64 ((x3.n:Int)-1)).toNat).L)),(36,.p (vSl 7 B7 (x3.g (wrap .i64 ((x3.n:Int)-1)).toNat).L)),(4,pN x4),(3,.reg 4000 0)],[(4508,.vec Fj 7 (x3.take (wrap .i64 ((x3.n:Int)-1)).toNat).n (fun i=>B7 ((x3.take (wrap .i64 ((x3.n:Int)-1)).toNat).g i)) false),(4000,.cells [.vec 4508])]⟩ (ids:=[(4000,4000),(4508,4508)]) ?_ (hle:=klR [(0,.fn (x3.g (wrap .i64 ((x3.n:Int)-1)).toNat).L.n (x3.g (wrap .i64 ((x3.n:Int)-1)).toNat).L.n (BY (x3.g (wrap .i64 ((x3.n:Int)-1)).toNat)) (fun i=>B7 ((x3.g (wrap .i64 ((x3.n:Int)-1)).toNat).L.g i))),(1,.fn (x3.g (wrap .i64 ((x3.n:Int)-1)).toNat).L.n (x3.g (wrap .i64 ((x3.n:Int)-1)).toNat).L.n (BY (x3.g (wrap .i64 ((x3.n:Int)-1)).toNat)) (fun i=>B7 ((x3.g (wrap .i64 ((x3.n:Int)-1)).toNat).L.g i)))] (al1 ⟨rfl,U8 (x3.g (wrap .i64 ((x3.n:Int)-1)).toNat)⟩ (al1 ⟨rfl,U8 (x3.g (wrap .i64 ((x3.n:Int)-1)).toNat)⟩ al0)));obtain⟨c24,h⟩:=E8 h;obtain⟨y6,e8,h⟩:=B8 h;refine C0 hS [] c24 (Bf hS hL e8) ?_;obtain⟨L3,e9,h⟩:=B8 h;refine Gd hS Df [44000] [4,3] 905 (fun z3=>⟨[(4,pN x4),(3,.reg 4000 0)],[(4500,.vec Fj 7 z3.n (fun i=>B7 (z3.g i)) false),(4000,.cells [.vec 4500])]⟩) (idl:=[(4000,4000),(4500,4508)]) h (AB hS hL e9) (fun _=>by kernel_rfl) (fun _=>by kernel_rfl) (fun _=>by kernel_rfl) (fun _=>by kernel_rfl) (fun x7 _ o z3 q h=>?_) (fun z3 h=>?_)
  .refine JK hS Df ?_;refine QE hS Df 10000 (B7 x7.2) ?_;refine Av hS Df [(0,.l [4000]),(1,.n),(2,.l [4500]),(4,.a [51000,4500]),(5,.l [51000]),(6,.a [51000]),(7,.a [4000])] ?_;refine W9 (by decide:(7:Nat)<=7) (x:=.sl true 7 1 (D3 [pI .i64 0,pI .u32 0,pI .u32 0,.v (.bool false),pI .i64 0,pI .i64 0,G1] [(0,[pI .i64 0,pI .u32 0,pI .u32 0,.v (.bool false),pI .i64 0,pI .i64 0,G1])])) ?_;obtain⟨c27,h⟩:=E8 h;refine O0 (And.intro (And.intro c27.1.1 c27.1.2) (And.intro (rfl:(7:Nat)=7) (And.intro c27.2 (by decide:(7:Nat)<=7)))) ?_;exact q _ [(905,905),(4000,4000),(4500,51000)] _ ((z3.push Pat.nil).upd (z3.n:Int).toNat x7.2) Df h (hle:=klR [(0,.fn (z3.n+1) ((z3.push Pat.nil).upd (z3.n:Int).toNat x7.2).n (fun l=>if l=(z3.n:Int).toNat then splice (AP z3.n (fun i=>B7 (z3.g i)) (D3 [pI .i64 0,pI .u32 0,pI .u32 0,.v (.bool false),pI .i64 0,pI .i64 0,G1] [(0,[pI .i64 0,pI .u32 0,pI .u32 0,.v (.bool false),pI .i64 0,pI .i64 0,G1])]) l) 0 [pI .i64 x7.2.Kind,pI .u32 x7.2.Is.Plus,pI .u32 x7.2.Is.Minus,.bb x7.2.Not,pI .i64 x7.2.Min,pI .i64 x7.2.Max,.sl false 7 x7.2.L.n (BY x7.2)]else (AP z3.n (fun i=>B7 (z3.g i)) (D3 [pI .i64 0,pI .u32 0,pI .u32 0,.v (.bool false),pI .i64 0,pI .i64 0,G1] [(0,[pI .i64 0,pI .u32 0,pI .u32 0,.v (.bool false),pI .i64 0,pI .i64 0,G1])])) l) (fun i=>B7 (((z3.push Pat.nil).upd (z3.n:Int).toNat x7.2).g i)))] (al1 ⟨rfl,setH (c:=B7) (v:=z3.push Pat.nil) (x:=x7.2) (app1H (c:=B7) (v:=z3) (z:=Pat.nil) same rfl) (fun _=>by simp[AP,D3,splice])⟩ al0))
  exact j _ [(4000,4000),(4501,4500)] _ z3 (wrap .i64 (x4+1)) Df h
 cases h;exact kR hS
def Dq (N:Nat)(b:Pat)(a:Sl Eg):Option ((Nat->Int)×Int):= (Y9 N b).bind fun y1=>if (y1 != 0) then some (fun _=>0,y1) else if (decide (32<(a.n:Int))) then some (fun _=>0,11) else (B6 N a (fun (u1:Eg)=>Ea N u1)).bind fun y2=>if y2 then some (fun _=>0,14) else (EQ N b).bind fun y3=>(HH N y3 a).bind fun y4=>some (y4,0)
theorem Kc {a:Pat}{b:Sl Eg}{y:(Nat->Int)×Int}(h:Dq N a b=some y) :FunO S JY [.p (.agg (B7 a)),.p (vSl 2 A1 b)] [] (.tup [.p (.agg (cA 33 (pI .u64) y.1)),pN y.2]) ([]) []:=by
 unfold Dq at h;refine A6 hS Tryz.func227 ?_;refine kC hS h (HI hS hL) (fun y1 h=>?_);apply kI hS h<;>intro h
 .obtain rfl:=C7 h;exact B3 hS (And.intro rfl (G5 _ _):(0:Nat)=0/\(BL 33 (fun i=>pI .u64 ((fun _=>0) i))).length=33) ⟨[(5,pN y1),(4,.reg 5000 0)],[(5000,.arr 33 (fun i=>pI .u64 ((fun _=>0) i)))]⟩ [] (ids:=[(5000,5000)]) ⟨rfl,rfl,rfl⟩ (hle:=klR [(1,.fn 33 33 (fun i=>[(fun i=>(cA 33 (pI .u64) (fun _=>0)).getD i default) i]) (fun i=>[pI .u64 ((fun _=>0) i)]))] (al1 ⟨rfl,E9 33 (fun i=>pI .u64 ((fun _=>0) i))⟩ al0))
 apply kI hS h<;>intro h
 .obtain rfl:=C7 h;exact B3 hS (And.intro rfl (G5 _ _):(0:Nat)=0/\(BL 33 (fun i=>pI .u64 ((fun _=>0) i))).length=33) ⟨[(5,pN 11),(4,.reg 5000 0)],[(5000,.arr 33 (fun i=>pI .u64 ((fun _=>0) i)))]⟩ [] (ids:=[(5000,5000)]) ⟨rfl,rfl,rfl⟩ (hle:=klR [(1,.fn 33 33 (fun i=>[(fun i=>(cA 33 (pI .u64) (fun _=>0)).getD i default) i]) (fun i=>[pI .u64 ((fun _=>0) i)]))] (al1 ⟨rfl,E9 33 (fun i=>pI .u64 ((fun _=>0) i))⟩ al0))
 refine kC hS h (J7 hS hL (fun e=>Oo hS hL e)) (fun y2 h=>?_);apply kI hS h<;>intro h
 .obtain rfl:=C7 h;exact B3 hS (And.intro rfl (G5 _ _):(0:Nat)=0/\(BL 33 (fun i=>pI .u64 ((fun _=>0) i))).length=33) ⟨[(5,pN 14),(4,.reg 5000 0)],[(5000,.arr 33 (fun i=>pI .u64 ((fun _=>0) i)))]⟩ [] (ids:=[(5000,5000)]) ⟨rfl,rfl,rfl⟩ (hle:=klR [(1,.fn 33 33 (fun i=>[(fun i=>(cA 33 (pI .u64) (fun _=>0)).getD i default) i]) (fun i=>[pI .u64 ((fun _=>0) i)]))] (al1 ⟨rfl,E9 33 (fun i=>pI .u64 ((fun _=>0) i))⟩ al0))
 refine kC hS h (Pr hS hL) (fun y3 h=>?_);obtain⟨y4,e4,h⟩:=B8 h;refine Ml hS Df (Ag4 hS hL e4) ?_;obtain rfl:=C7 h;exact B3 hS (And.intro rfl (G5 _ _):(0:Nat)=0/\(BL 33 (fun i=>pI .u64 (y4 i))).length=33) ⟨[(5,pN 0),(4,.reg 5000 0)],[(5000,.arr 33 (fun i=>pI .u64 (y4 i)))]⟩ [] (ids:=[(5000,5000)]) ⟨rfl,rfl,rfl⟩ (hle:=klR [(1,.fn 33 33 (fun i=>[(fun i=>(cA 33 (pI .u64) y4).getD i default) i]) (fun i=>[pI .u64 (y4 i)]))] (al1 ⟨rfl,E9 33 (fun i=>pI .u64 (y4 i))⟩ al0))
def Gr (N:Nat)(d:Pat)(c:Sl Eg)(a:Int):Option ((Sl Int)×Int):= (Dq N d c).bind fun y1=>lt (fun (z1:Int)=>if (z1 != 0) then some ((Sl.nil:Sl Int),z1) else BC N (fun b (x2:Sl Int) (x3:Int)=>if (decide (x3<(wrap .i64 ((c.n:Int)+1)))) then if ((((0:Int)<=x3/\x3<33)/\(0+x3.toNat*1)<33)/\(0:Int)<=a)then if ((E3 .and .u64 (shI .shr .u64 (y1.1 (0+x3.toNat*1)) a) 1)==1) then if ((x2.n+(Sl.of [x3]:Sl Int).n)*8<=140737488355328/\x2.n+(Sl.of [x3]:Sl Int).n<=140737488355328)then b (x2.push x3) (wrap .i64 (x3+1)) else none else b x2 (wrap .i64 (x3+1)) else none else some (x2,0)) (Sl.nil:Sl Int) 0) fun k1=>if (y1.2==0) then (Dp N c a).bind fun y3=>k1 y3 else k1 y1.2
theorem Sg {f:Pat}{d:Sl Eg}{a:Int}{y:(Sl Int)×Int}(h:Gr N f d a=some y) :FunO S JX [.p (.agg (B7 f)),.p (vSl 2 A1 d),pN a] [] (.tup [.vec 0,pN y.2]) ([.vec D4 1 y.1.n (fun i=>cI .i64 (y.1.g i)) true]) []:=by
 unfold Gr at h;refine A6 hS Tryz.func218 ?_;refine kC hS h (Kc hS hL) (fun y1 h=>?_);refine Ef hS (And.intro rfl (G5 _ _):(0:Nat)=0/\(BL 33 (fun i=>pI .u64 (y1.1 i))).length=33) (A5 hS) h 0 (fun z1=>⟨[(9,pN z1),(8,.reg 9000 0),(2,pN a),(1,.p (vSl 2 A1 d))],[(9000,.arr 33 (fun i=>pI .u64 (y1.1 i)))]⟩) (fun M1 k1 j h=>?_) (fun z1 h=>?_)
 .apply kI hS h<;>intro h
  .refine kC hS h (Kb hS hL) (fun y3 h=>?_);exact j _ [(9000,9000)] _ y3 Df h (hle:=klR [(3,.fn 33 33 (fun i=>[(fun i=>(cA 33 (pI .u64) y1.1).getD i default) i]) (fun i=>[pI .u64 (y1.1 i)]))] (al1 ⟨rfl,E9 33 (fun i=>pI .u64 (y1.1 i))⟩ al0))
  exact j _ [(9000,9000)] _ y1.2 Df h (hle:=klR [(3,.fn 33 33 (fun i=>[(fun i=>(cA 33 (pI .u64) y1.1).getD i default) i]) (fun i=>[pI .u64 (y1.1 i)]))] (al1 ⟨rfl,E9 33 (fun i=>pI .u64 (y1.1 i))⟩ al0))
 apply kI hS h<;>intro h
 .obtain rfl:=C7 h;exact B3 hS Df ⟨[(7,pN z1),(6,.vec 7700)],[(7700,.vec D4 1 (Sl.nil:Sl Int).n (fun i=>cI .i64 ((Sl.nil:Sl Int).g i)) true)]⟩ [7700] (ids:=[]) ⟨rfl,rfl,rfl⟩
 refine I8 hS Df h (fun x2 x3=>⟨[(29,pN x3),(28,pN (wrap .i64 ((d.n:Int)+1))),(10,.vec 11500),(8,.reg 9000 0),(2,pN a)],[(11500,.vec D4 1 x2.n (fun i=>cI .i64 (x2.g i)) false),(9000,.arr 33 (fun i=>pI .u64 (y1.1 i)))]⟩) (ids:=[(9000,9000)]) (fun _ _ _ _ _ m x2 x3 l h=>?_);apply kI hS h<;>intro h
 .obtain⟨c12,h⟩:=E8 h;refine D9 hS c12 (b:=(E3 .and .u64 (shI .shr .u64 (y1.1 (0+x3.toNat*1)) a) 1)==1) (fun c13=>?_) (fun c13=>?_)
  .replace h:=itT c13 h;obtain⟨c14,h⟩:=E8 h;exact l _ [(9000,9000),(11500,43000)] _ (x2.push x3) (wrap .i64 (x3+1)) (And.intro (rfl:true=true) c14) h (hle:=klR [(3,.fn (x2.n+1) (x2.push x3).n (AP x2.n (fun i=>cI .i64 (x2.g i)) (D3 [pI .i64 0] [(0,cI .i64 x3)])) (fun i=>cI .i64 ((x2.push x3).g i)))] (al1 ⟨rfl,LI (c:=cI .i64) (v:=x2) (x:=x3) (z:=[(pI .i64 0)]) same rfl rfl⟩ al0))
  replace h:=itF c13 h;exact l _ [(9000,9000),(11500,11500)] _ x2 (wrap .i64 (x3+1)) Df h
 obtain rfl:=C7 h;exact B3 hS Df ⟨[(7,pN 0),(6,.vec 11500)],[(11500,.vec D4 1 x2.n (fun i=>cI .i64 (x2.g i)) true)]⟩ [11500] (ids:=[(11500,11500)]) ⟨rfl,rfl,rfl⟩
def N8 (N:Nat)(a:List (Int)):Option (Sl Int):= X0 a (fun b (x1:Int) (z1:Sl Int)=>if ((z1.n+(Sl.of [x1]:Sl Int).n)*8<=140737488355328/\z1.n+(Sl.of [x1]:Sl Int).n<=140737488355328)then b (z1.push x1) else none) (fun (z1:Sl Int)=>some z1) (Sl.nil:Sl Int)
theorem CK {b:List (Int)}{a:Int}{kp_seq:Nat}(fp_seq:∃fn,AJ8[kp_seq]? = some fn/\fn.body.isSome=true/\(fn.name == "runtime.NumGoroutine")=false)(d:FX S kp_seq [] [.reg 0 0] [(.cells [(.p (pI .u64 a))])] (b.map (fun (x:Int)=>[(pI .i64) x]))){y:(Sl Int)}(h:N8 N b=some y) :FunO S O7 [(.p G1),(.clo kp_seq [] [(.reg 0 0)])] [(.cells [(.p (pI .u64 a))])] (.vec 0) ([(.vec D4 1 y.n (fun i=>(cI .i64) (y.g i)) true)]) [false]:=by
 unfold N8 at h;refine A6 hS Tryz.func97 ?_;refine RC hS Df fp_seq [0] [2] 901 (fun z1=>⟨[(2,(.reg 3000 0))],[(3500,(.vec D4 1 z1.n (fun i=>(cI .i64) (z1.g i)) false)),(3000,(.cells [(.vec 3500)]))]⟩) (idl:=[(3000,3000)]) h d (fun _=>by kernel_rfl) (fun _=>by kernel_rfl) (fun _=>by kernel_rfl) (fun _=>by kernel_rfl) (fun x1 _ f z1 j h=>?_) (fun z1 h=>?_)
 .refine JK hS Df ?_;obtain⟨c1,h⟩:=E8 h;exact j _ [(901,901),(3000,3000),(3500,12000)] _ (z1.push x1) (And.intro (rfl:true=true) c1) h (hle:=klR [(0,.fn (z1.n+1) (z1.push x1).n (AP z1.n (fun i=>(cI .i64) (z1.g i)) (D3 [(pI .i64 0)] [(0,(cI .i64) x1)])) (fun i=>(cI .i64) ((z1.push x1).g i)))] (al1 ⟨rfl,(LI (c:=(cI .i64)) (v:=z1) (x:=x1) (z:=[(pI .i64 0)]) same rfl rfl)⟩ al0))
 obtain rfl:=C7 h;exact B3 hS Df ⟨[(4,(.vec 3500))],[(3500,(.vec D4 1 z1.n (fun i=>(cI .i64) (z1.g i)) true))]⟩ [3500] (ids:=[(3500,3500)]) ⟨rfl,rfl,rfl⟩
def Ae (N:Nat)(a:List (Int)):Option (Sl Int):= (N8 N a).bind fun y1=>some y1
theorem HJ {b:List (Int)}{a:Int}{kp_seq:Nat}(fp_seq:∃fn,AJ8[kp_seq]? = some fn/\fn.body.isSome=true/\(fn.name == "runtime.NumGoroutine")=false)(c:FX S kp_seq [] [.reg 0 0] [(.cells [(.p (pI .u64 a))])] (b.map (fun (x:Int)=>[(pI .i64) x]))){y:(Sl Int)}(h:Ae N b=some y) :FunO S AH [(.clo kp_seq [] [(.reg 0 0)])] [(.cells [(.p (pI .u64 a))])] (.vec 0) ([(.vec D4 1 y.n (fun i=>(cI .i64) (y.g i)) true)]) [false]:=by unfold Ae at h;refine A6 hS Tryz.func56 ?_;obtain⟨y1,e1,h⟩:=B8 h;refine C0 hS [0] Df (CK hS hL fp_seq c e1) ?_;obtain rfl:=C7 h;exact B3 hS Df ⟨[(2,(.vec 5000))],[(5000,(.vec D4 1 y1.n (fun i=>(cI .i64) (y1.g i)) true))]⟩ [5000] (ids:=[(5000,5000)]) ⟨rfl,rfl,rfl⟩
def IX (N:Nat)(c:Pat)(b:Sl Eg)(a:Int):Option ((Sl Int)×Int):= (Dq N c b).bind fun y1=>lt (fun (z1:Int)=>if (z1 != 0) then some ((Sl.nil:Sl Int),z1) else if (((0:Int)<=a/\a<33)/\(0+a.toNat*1)<33)then (Be N (y1.1 (0+a.toNat*1))).bind fun y4=>(W6 N y4).bind fun L1=>(Ae N L1).bind fun y5=>some (y5,0) else none) fun k1=>if (y1.2==0) then (Dp N b a).bind fun y3=>k1 y3 else k1 y1.2
theorem Wb {b:Pat}{c:Sl Eg}{a:Int}{y:(Sl Int)×Int}(h:IX N b c a=some y) :FunO S Oa [.p (.agg (B7 b)),.p (vSl 2 A1 c),pN a] [] (.tup [.vec 0,pN y.2]) ([.vec D4 1 y.1.n (fun i=>cI .i64 (y.1.g i)) true]) []:=by
 unfold IX at h;refine A6 hS Tryz.func219 ?_;refine kC hS h (Kc hS hL) (fun y1 h=>?_);refine Ef hS (And.intro rfl (G5 _ _):(0:Nat)=0/\(BL 33 (fun i=>pI .u64 (y1.1 i))).length=33) (A5 hS) h 0 (fun z1=>⟨[(9,pN z1),(8,.reg 9000 0),(2,pN a)],[(9000,.arr 33 (fun i=>pI .u64 (y1.1 i)))]⟩) (fun M1 k1 d h=>?_) (fun z1 h=>?_)
 .apply kI hS h<;>intro h
  .refine kC hS h (Kb hS hL) (fun y3 h=>?_);exact d _ [(9000,9000)] _ y3 Df h (hle:=klR [(2,.fn 33 33 (fun i=>[(fun i=>(cA 33 (pI .u64) y1.1).getD i default) i]) (fun i=>[pI .u64 (y1.1 i)]))] (al1 ⟨rfl,E9 33 (fun i=>pI .u64 (y1.1 i))⟩ al0))
  exact d _ [(9000,9000)] _ y1.2 Df h (hle:=klR [(2,.fn 33 33 (fun i=>[(fun i=>(cA 33 (pI .u64) y1.1).getD i default) i]) (fun i=>[pI .u64 (y1.1 i)]))] (al1 ⟨rfl,E9 33 (fun i=>pI .u64 (y1.1 i))⟩ al0))
 apply kI hS h<;>intro h
 .obtain rfl:=C7 h;exact B3 hS Df ⟨[(7,pN z1),(6,.vec 7700)],[(7700,.vec D4 1 (Sl.nil:Sl Int).n (fun i=>cI .i64 ((Sl.nil:Sl Int).g i)) true)]⟩ [7700] (ids:=[]) ⟨rfl,rfl,rfl⟩
 obtain⟨c5,h⟩:=E8 h;obtain⟨y4,e4,h⟩:=B8 h;refine C0 hS [] c5 (EO hS hL e4) ?_;obtain⟨L1,e5,h⟩:=B8 h;obtain⟨y5,e6,h⟩:=B8 h;refine C0 hS [28000] Df (HJ hS hL ⟨_,Tryz.func236,by decide +kernel,by decide +kernel⟩ (CU hS hL e5) e6) ?_;obtain rfl:=C7 h;exact B3 hS Df ⟨[(7,pN 0),(6,.vec 29000)],[(29000,.vec D4 1 y5.n (fun i=>cI .i64 (y5.g i)) true)]⟩ [29000] (ids:=[(29000,29000)]) ⟨rfl,rfl,rfl⟩
end Go.AM
namespace Go.AM
variable {N:Nat}
open IntKind (wrap)
open Go.Proofs
set_option maxRecDepth 10000
set_option maxHeartbeats 2000000
variable {S:Q8}(hS:H1 S Tryz.prog) (hL:GL S)
include hS hL
def Ce (N:Nat)(a:Str):Option Bool:= lt (fun (z1:Bool)=>some z1) fun k1=>if ((a==[]) != true) then if (decide ((a.length:Int)<=24)) then (ED N a [97,98,99,100,101,102,103,104,105,106,107,108,109,110,111,112,113,114,115,116,117,118,119,120,121,122,65,66,67,68,69,70,71,72,73,74,75,76,77,78,79,80,81,82,83,84,85,86,87,88,89,90,48,49,50,51,52,53,54,55,56,57,45]).bind fun y2=>k1 ((y2==[]) != false) else k1 false else k1 false
theorem Wc {b:Str}{y:Bool}(h:Ce N b=some y) :FunO S NU [.p (.str b)] [] (pB y) ([]) []:=by
 unfold Ce at h;refine A6 hS Tryz.func121 ?_;refine Ef hS Df (A5 hS) h 0 (fun z1=>⟨[(2,pB z1)],[]⟩) (fun M1 k1 a h=>?_) (fun z1 h=>?_)
 .refine kG hS h (fun h=>?_) (fun h=>?_)
  .refine kG hS h (fun h=>?_) (fun h=>?_)
   .refine kC hS h (Pn hS hL) (fun y2 h=>?_);exact a _ [] _ ((y2==[]) != false) Df h
   exact a _ [] _ false Df h
  exact a _ [] _ false Df h
 cases h;exact kR hS
def Bv (N:Nat)(p_x:BD)(a:Int):Option Bool:= lt (fun (z1:Bool)=>if z1 then some false else if ((((E3 .andNot .u32 (E3 .or .u32 p_x.Clear p_x.Take) 16777215) != 0)||((E3 .and .u32 p_x.Clear (E3 .or .u32 p_x.Set.Plus p_x.Set.Minus)) != 0))||((E3 .and .u32 p_x.Take (E3 .or .u32 (E3 .or .u32 p_x.Set.Plus p_x.Set.Minus) p_x.Clear)) != 0)) then some false else if (p_x.Take==0) then some (p_x.Of==0) else some ((decide (0<=p_x.Of))&&(decide (p_x.Of<a)))) fun k1=>if (decide (p_x.From<(-1))) then k1 true else if (decide (a<=p_x.From)) then k1 true else (H7 N p_x.Set).bind fun y2=>k1 (!y2)
theorem Zf {p_x:BD}{b:Int}{y:Bool}(h:Bv N p_x b=some y) :FunO S Qv [.p (.agg (S4 p_x)),pN b] [] (pB y) ([]) []:=by
 unfold Bv at h;refine A6 hS Tryz.func118 ?_;refine Ef hS Df (A5 hS) h 0 (fun z1=>⟨[(13,pB z1),(5,pU (E3 .or .u32 p_x.Set.Plus p_x.Set.Minus)),(2,.reg 3000 0),(1,pN b)],[(3000,.cells ((S4 p_x).map .p))]⟩) (fun M1 k1 c h=>?_) (fun z1 h=>?_)
 .refine kG hS h (fun h=>?_) (fun h=>?_)
  .exact c _ [(3000,3000)] _ true Df h
  refine kG hS h (fun h=>?_) (fun h=>?_)
  .exact c _ [(3000,3000)] _ true Df h
  refine kC hS h (S8 hS hL) (fun y2 h=>?_);exact c _ [(3000,3000)] _ (!y2) Df h
 apply kI hS h<;>intro h
 .cases h;exact kR hS
 refine kB hS (A5 hS) Df Df 16 (.o (.o (.a ((E3 .andNot .u32 (E3 .or .u32 p_x.Clear p_x.Take) 16777215) != 0)) (.a ((E3 .and .u32 p_x.Clear (E3 .or .u32 p_x.Set.Plus p_x.Set.Minus)) != 0))) (.a ((E3 .and .u32 p_x.Take (E3 .or .u32 (E3 .or .u32 p_x.Set.Plus p_x.Set.Minus) p_x.Clear)) != 0))) ?_;apply kI hS h<;>intro h
 .cases h;exact kR hS
 apply kI hS h<;>intro h
 .cases h;exact kR hS
 refine kB hS (A5 hS) Df Df 5 (.n (.a (decide (0<=p_x.Of))) (.a (decide (p_x.Of<b)))) ?_;cases h;exact kR hS
def Ap (N:Nat)(p_x:BD)(q0:Int):Option Bool:= (Bv N p_x q0).bind fun y1=>some (!y1)
theorem Sh {p_x:BD}{q0:Int}{y:Bool}(h:Ap N p_x q0=some y) :FunO S JS [.p (.agg (S4 p_x)),.reg 0 0] [.cells [pN q0]] (pB y) ([.cells [pN q0]]) [true]:=by unfold Ap at h;refine A6 hS Tryz.func117 ?_;refine kC hS h (Zf hS hL) (fun y1 h=>?_);obtain rfl:=C7 h;exact B3 hS Df ⟨[(3,pB (!y1))],[(0,.cells [pN q0])]⟩ [0] (ids:=[(0,0)]) ⟨rfl,rfl,rfl⟩
def Ao (N:Nat)(a:Eg):Option Bool:= (H7 N a).bind fun y1=>some (!y1)
theorem Si {a:Eg}{y:Bool}(h:Ao N a=some y) :FunO S JT [.p (.agg (A1 a))] [] (pB y) ([]) []:=by unfold Ao at h;refine A6 hS Tryz.func119 ?_;refine kC hS h (S8 hS hL) (fun y1 h=>?_);cases h;exact kR hS
def F6 (N:Nat)(a:Sl BD)(c:BD->Option Bool):Option Int:= Y1 N (fun b (x1:Int)=>if (decide (x1<(a.n:Int))) then if ((0:Int)<=x1/\x1<(a.n:Int))then (c (a.g x1.toNat)).bind fun y3=>if y3 then some x1 else b (wrap .i64 (x1+1)) else none else some (-1)) 0
theorem AL {c:Sl BD}{d:BD->Option Bool}{a:Int}{kp_f:Nat}(f:∀{a0:BD}{b:Bool},d a0=some b->FunO S kp_f [.p (.agg (S4 a0)),.reg 0 0] [.cells [pN a]] (pB b) [.cells [pN a]] [true]){y:Int}(h:F6 N c d=some y) :FunO S P3 [.p (vSl 6 S4 c),.clo kp_f [] [.reg 0 0]] [.cells [pN a]] (pN y) ([.cells [pN a]]) [true]:=by
 unfold F6 at h;refine A6 hS Tryz.func151 ?_;refine N4 hS Df h (fun x1=>⟨[(8,pN x1),(7,pN (c.n:Int)),(1,.clo kp_f [] [.reg 0 0]),(0,.p (vSl 6 S4 c))],[(0,.cells [pN a])]⟩) (ids:=[(0,0)]) (fun _ _ _ _ _ g x1 i h=>?_);apply kI hS h<;>intro h
 .obtain⟨c8,h⟩:=E8 h;obtain⟨y3,e3,h⟩:=B8 h;refine C0 hS [0] (And.intro c8 (by decide:(6:Nat)<=6)) (f e3) ?_;apply kI hS h<;>intro h
  .obtain rfl:=C7 h;exact B3 hS Df ⟨[(4,pN x1)],[(0,.cells [pN a])]⟩ [0] (ids:=[(0,0)]) ⟨rfl,rfl,rfl⟩
  exact i _ [(0,0)] _ (wrap .i64 (x1+1)) Df h
 obtain rfl:=C7 h;exact B3 hS Df ⟨[(4,pN (-1))],[(0,.cells [pN a])]⟩ [0] (ids:=[(0,0)]) ⟨rfl,rfl,rfl⟩
def D2 (N:Nat)(a:Sl BD)(b:BD->Option Bool):Option Bool:= (F6 N a b).bind fun y1=>some (decide (0<=y1))
theorem X9 {c:Sl BD}{d:BD->Option Bool}{a:Int}{kp_f:Nat}(f:∀{a0:BD}{b:Bool},d a0=some b->FunO S kp_f [.p (.agg (S4 a0)),.reg 0 0] [.cells [pN a]] (pB b) [.cells [pN a]] [true]){y:Bool}(h:D2 N c d=some y) :FunO S N1 [.p (vSl 6 S4 c),.clo kp_f [] [.reg 0 0]] [.cells [pN a]] (pB y) ([.cells [pN a]]) [true]:=by unfold D2 at h;refine A6 hS Tryz.func124 ?_;obtain⟨y1,e1,h⟩:=B8 h;refine C0 hS [0] Df (AL hS hL (fun e=>f e) e1) ?_;obtain rfl:=C7 h;exact B3 hS Df ⟨[(4,pB (decide (0<=y1)))],[(0,.cells [pN a])]⟩ [0] (ids:=[(0,0)]) ⟨rfl,rfl,rfl⟩
def U9 (N:Nat)(a:Law):Option Int:= (Ce N a.Name).bind fun y1=>if (!y1) then some 17 else (Y9 N a.Left).bind fun y2=>if (y2 != 0) then some 17 else (Y9 N a.Right).bind fun y3=>if (y3 != 0) then some 17 else if (decide (4<(a.If.n:Int))) then some 17 else if (decide (6<(a.Out.n:Int))) then some 17 else if ((wrap .i64 ((a.If.n:Int)+(a.Out.n:Int)))==0) then some 17 else if ((decide (a.Mode<1))||(decide (3<a.Mode))) then some 17 else (B6 N a.If (fun (u1:Eg)=>Ao N u1)).bind fun y4=>if y4 then some 17 else (D2 N a.Out (fun (u2:BD)=>Ap N u2 (a.If.n:Int))).bind fun y5=>if y5 then some 17 else some 0
theorem FH {c:Law}{y:Int}(h:U9 N c=some y) :FunO S NS [.p (.agg (B5 c))] [] (pN y) ([]) []:=by
 unfold U9 at h;refine A6 hS Tryz.func87 ?_;refine kC hS h (Wc hS hL) (fun y1 h=>?_);refine D9 hS Df (b:=!y1) (fun c1=>?_) (fun c1=>?_)
 .replace h:=itT c1 h;refine D9 hS Df (b:=!y1) (fun c2=>?_) (fun c2=>?_)
  .cases h;exact kR hS
  exact Bool.noConfusion (c1.symm.trans c2)
 replace h:=itF c1 h;refine kC hS h (HI hS hL) (fun y2 h=>?_);refine D9 hS Df (b:=y2 != 0) (fun c3=>?_) (fun c3=>?_)
 .replace h:=itT c3 h;refine D9 hS Df (b:=y2 != 0) (fun c4=>?_) (fun c4=>?_)
  .cases h;exact kR hS
  exact Bool.noConfusion (c3.symm.trans c4)
 replace h:=itF c3 h;refine kC hS h (HI hS hL) (fun y3 h=>?_);refine D9 hS Df (b:=y3 != 0) (fun c5=>?_) (fun c5=>?_)
 .replace h:=itT c5 h;refine D9 hS Df (b:=y3 != 0) (fun c6=>?_) (fun c6=>?_)
  .cases h;exact kR hS
  exact Bool.noConfusion (c5.symm.trans c6)
 replace h:=itF c5 h;refine D9 hS Df (b:=decide (4<(c.If.n:Int))) (fun c7=>?_) (fun c7=>?_)
 .replace h:=itT c7 h;refine D9 hS Df (b:=decide (4<(c.If.n:Int))) (fun c8=>?_) (fun c8=>?_)
  .cases h;exact kR hS
  exact Bool.noConfusion (c7.symm.trans c8)
 replace h:=itF c7 h;refine D9 hS Df (b:=decide (6<(c.Out.n:Int))) (fun c9=>?_) (fun c9=>?_)
 .replace h:=itT c9 h;refine D9 hS Df (b:=decide (6<(c.Out.n:Int))) (fun c10=>?_) (fun c10=>?_)
  .cases h;exact kR hS
  exact Bool.noConfusion (c9.symm.trans c10)
 replace h:=itF c9 h;refine D9 hS Df (b:=(wrap .i64 ((c.If.n:Int)+(c.Out.n:Int)))==0) (fun c11=>?_) (fun c11=>?_)
 .replace h:=itT c11 h;refine D9 hS Df (b:=(wrap .i64 ((c.If.n:Int)+(c.Out.n:Int)))==0) (fun c12=>?_) (fun c12=>?_)
  .cases h;exact kR hS
  exact Bool.noConfusion (c11.symm.trans c12)
 replace h:=itF c11 h;refine kB hS (A5 hS) Df Df 4 (.o (.a (decide (c.Mode<1))) (.a (decide (3<c.Mode)))) ?_;refine D9 hS Df (b:=(decide (c.Mode<1))||(decide (3<c.Mode))) (fun c13=>?_) (fun c13=>?_)
 .replace h:=itT c13 h;refine D9 hS Df (b:=(decide (c.Mode<1))||(decide (3<c.Mode))) (fun c14=>?_) (fun c14=>?_)
  .cases h;exact kR hS
  exact Bool.noConfusion (c13.symm.trans c14)
 replace h:=itF c13 h;refine kC hS h (J7 hS hL (fun e=>Si hS hL e)) (fun y4 h=>?_);refine D9 hS Df (b:=y4) (fun c15=>?_) (fun c15=>?_)
 .replace h:=itT c15 h;refine D9 hS Df (b:=y4) (fun c16=>?_) (fun c16=>?_)
  .cases h;exact kR hS
  exact Bool.noConfusion (c15.symm.trans c16)
 replace h:=itF c15 h;obtain⟨y5,e5,h⟩:=B8 h;refine C0 hS [4000] Df (X9 hS hL (fun e=>Sh hS hL e) e5) ?_;apply kI hS h<;>intro h
 .cases h;exact kR hS
 cases h;exact kR hS
def IY (N:Nat)(a:Law)(b:Sl Eg):Option Int:= (U9 N a).bind fun y1=>if (y1 != 0) then some y1 else (CH N b).bind fun y2=>some y2
theorem Wd {a:Law}{b:Sl Eg}{y:Int}(h:IY N a b=some y) :FunO S NZ [.p (.agg (B5 a)),.p (vSl 2 A1 b)] [] (pN y) ([]) []:=by
 unfold IY at h;refine A6 hS Tryz.func189 ?_;refine kC hS h (FH hS hL) (fun y1 h=>?_);apply kI hS h<;>intro h
 .cases h;exact kR hS
 refine kC hS h (HG hS hL) (fun y2 h=>?_);cases h;exact kR hS
def ER (N:Nat)(a:Int)(q0:Law)(q1:Sl Eg):Option Bool:= (Gr N q0.Left q1 a).bind fun y1=>if ((y1.1.n:Int)==0) then some false else (IX N q0.Right q1 (wrap .i64 (a+(q0.If.n:Int)))).bind fun y2=>some (decide (0<(y2.1.n:Int)))
theorem Ps {a:Int}{q0:Law}{q1:Sl Eg}{y:Bool}(h:ER N a q0 q1=some y) :FunO S W8 [pN a,.reg 0 0,.reg 1 0] [.cells ((B5 q0).map .p),.cells [.p (vSl 2 A1 q1)]] (pB y) ([.cells ((B5 q0).map .p),.cells [.p (vSl 2 A1 q1)]]) [true,true]:=by
 unfold ER at h;refine A6 hS Tryz.func217 ?_;refine kC hS h (Sg hS hL) (fun y1 h=>?_);apply kI hS h<;>intro h
 .obtain rfl:=C7 h;exact B3 hS Df ⟨[(4,pB false)],[(1,.cells [.p (vSl 2 A1 q1)]),(0,.cells ((B5 q0).map .p))]⟩ [0,1] (ids:=[(0,0),(1,1)]) ⟨rfl,rfl,rfl⟩
 refine kC hS h (Wb hS hL) (fun y2 h=>?_);obtain rfl:=C7 h;exact B3 hS Df ⟨[(4,pB (decide (0<(y2.1.n:Int))))],[(1,.cells [.p (vSl 2 A1 q1)]),(0,.cells ((B5 q0).map .p))]⟩ [0,1] (ids:=[(0,0),(1,1)]) ⟨rfl,rfl,rfl⟩
def HK (N:Nat)(a:Law)(b:Sl Eg):Option (Law×(Sl Eg)):= some (a,b)
theorem Ui {a:Law}{b:Sl Eg}{y:Law×(Sl Eg)}(h:HK N a b=some y) :FunO S LA [.p (.agg (B5 a)),.p (vSl 2 A1 b)] [] (.clo W8 [] [.reg 0 0,.reg 1 0]) ([.cells ((B5 y.1).map .p),.cells [.p (vSl 2 A1 y.2)]]) []:=by unfold HK at h;refine A6 hS Tryz.func208 ?_;obtain rfl:=C7 h;exact B3 hS Df ⟨[(4,.clo W8 [] [.reg 3000 0,.reg 4000 0])],[(4000,.cells [.p (vSl 2 A1 b)]),(3000,.cells ((B5 a).map .p))]⟩ [3000,4000] (ids:=[(3000,3000),(4000,4000)]) ⟨rfl,rfl,rfl⟩
def Kd (N:Nat)(a:Law)(b:Sl Eg):Option (Sl Eg):= BC N (fun c (x1:Sl Eg) (x2:Int)=>if (decide (x2<(a.Out.n:Int))) then if ((0:Int)<=x2/\x2<(a.Out.n:Int))then if ((decide (0<=(a.Out.g x2.toNat).From))=true->((0:Int)<=(a.Out.g x2.toNat).From/\(a.Out.g x2.toNat).From<(b.n:Int)))then (EN N (⟨(if (decide (0<=(a.Out.g x2.toNat).From)) then (b.g (a.Out.g x2.toNat).From.toNat).Plus else 0),(if (decide (0<=(a.Out.g x2.toNat).From)) then (b.g (a.Out.g x2.toNat).From.toNat).Minus else 0)⟩:Eg) (a.Out.g x2.toNat).Clear (a.Out.g x2.toNat).Set).bind fun y5=>if ((a.Out.g x2.toNat).Take != 0) then if ((0:Int)<=(a.Out.g x2.toNat).Of/\(a.Out.g x2.toNat).Of<(b.n:Int))then (HF N y5.1 (b.g (a.Out.g x2.toNat).Of.toNat) (a.Out.g x2.toNat).Take).bind fun y6=>if ((x1.n+(Sl.of [y6.1]:Sl Eg).n)*8<=140737488355328/\x1.n+(Sl.of [y6.1]:Sl Eg).n<=140737488355328)then c (x1.push y6.1) (wrap .i64 (x2+1)) else none else none else if ((x1.n+(Sl.of [y5.1]:Sl Eg).n)*8<=140737488355328/\x1.n+(Sl.of [y5.1]:Sl Eg).n<=140737488355328)then c (x1.push y5.1) (wrap .i64 (x2+1)) else none else none else none else some x1) (Sl.nil:Sl Eg) 0
theorem Uj {d:Law}{a:Sl Eg}{y:Sl Eg}(h:Kd N d a=some y) :FunO S Ua [.p (.agg (B5 d)),.p (vSl 2 A1 a)] [] (.p (vSl 2 A1 y)) ([]) []:=by
 unfold Kd at h;refine A6 hS Tryz.func199 ?_;refine J3 hS Df 4 3000 (B5 d) ?_;refine I8 hS Df h (fun x1 x2=>⟨[(12,pN x2),(11,pN (d.Out.n:Int)),(10,.p (vSl 6 S4 d.Out)),(5,.vec 6500),(1,.p (vSl 2 A1 a))],[(6500,.vec F1 2 x1.n (fun i=>A1 (x1.g i)) false)]⟩) (ids:=[]) (fun _ _ _ _ _ o x1 x2 l h=>?_);apply kI hS h<;>intro h
 .obtain⟨c16,h⟩:=E8 h;refine J3 hS (And.intro c16 (by decide:(6:Nat)<=6)) 8 8000 (S4 (d.Out.g x2.toNat)) ?_;obtain⟨c18,h⟩:=E8 h;obtain⟨t5,f⟩:∃x:Int,x=(if (decide (0<=(d.Out.g x2.toNat).From)) then (a.g (d.Out.g x2.toNat).From.toNat).Plus else 0):=⟨_,rfl⟩;obtain⟨t6,j⟩:∃x:Int,x=(if (decide (0<=(d.Out.g x2.toNat).From)) then (a.g (d.Out.g x2.toNat).From.toNat).Minus else 0):=⟨_,rfl⟩;refine LH hS Df (A5 hS) 0 ⟨[(12,pN x2),(11,pN (d.Out.n:Int)),(10,.p (vSl 6 S4 d.Out)),(8,.reg 9000 0),(7,.p (.ptr (S4 (d.Out.g x2.toNat)))),(5,.vec 6500),(1,.p (vSl 2 A1 a))],[(9000,.cells [pU t5,pU t6]),(6500,.vec F1 2 x1.n (fun i=>A1 (x1.g i)) false)]⟩ (fun M3 m=>?_) ?_
  .refine D9 hS Df (b:=decide (0<=(d.Out.g x2.toNat).From)) (fun c19=>?_) (fun c19=>?_)
   .exact m _ [(6500,6500),(9000,9000)] _ (And.intro (c18 c19) (by decide:(2:Nat)<=2)) (hle:=klR [(5,.eq (pI .u32 (a.g (d.Out.g x2.toNat).From.toNat).Plus) (pI .u32 t5)),(6,.eq (pI .u32 (a.g (d.Out.g x2.toNat).From.toNat).Minus) (pI .u32 t6))] (al1 (by simp only[f,j,c19,Leaf.ok,pm,Bq,Cj]) (al1 (by simp only[f,j,c19,Leaf.ok,pm,Bq,Cj]) al0)))
   exact m _ [(6500,6500),(9000,9000)] _ Df (hle:=klR [(5,.eq (pI .u32 0) (pI .u32 t5)),(6,.eq (pI .u32 0) (pI .u32 t6))] (al1 (by simp only[f,j,c19,Leaf.ok,pm,Bq,Cj]) (al1 (by simp only[f,j,c19,Leaf.ok,pm,Bq,Cj]) al0)))
  subst j;subst f;obtain⟨y5,e5,h⟩:=B8 h;refine C0 hS [] (by decide:(2:Nat)<=4) (Po hS hL e5) ?_;apply kI hS h<;>intro h
  .refine G9 hS Df [3,4,5,7,8] ?_;obtain⟨c21,h⟩:=E8 h;obtain⟨y6,e6,h⟩:=B8 h;refine V7 (And.intro c21 (by decide:(2:Nat)<=2)) (Ug hS hL e6) ?_;refine O0 Df ?_;obtain⟨c22,h⟩:=E8 h;exact l _ [(6500,52000)] _ (x1.push y6.1) (wrap .i64 (x2+1)) (And.intro (rfl:true=true) c22) h (hle:=klR [(4,.fn (x1.n+1) (x1.push y6.1).n (AP x1.n (fun i=>A1 (x1.g i)) (D3 [pI .u32 0,pI .u32 0] [(0,A1 y6.1)])) (fun i=>A1 ((x1.push y6.1).g i)))] (al1 ⟨rfl,LI (c:=A1) (v:=x1) (x:=y6.1) (z:=[(pI .u32 0),pI .u32 0]) same rfl rfl⟩ al0))
  obtain⟨c23,h⟩:=E8 h;exact l _ [(6500,52000)] _ (x1.push y5.1) (wrap .i64 (x2+1)) (And.intro (rfl:true=true) c23) h (hle:=klR [(4,.fn (x1.n+1) (x1.push y5.1).n (AP x1.n (fun i=>A1 (x1.g i)) (D3 [pI .u32 0,pI .u32 0] [(0,A1 y5.1)])) (fun i=>A1 ((x1.push y5.1).g i)))] (al1 ⟨rfl,LI (c:=A1) (v:=x1) (x:=y5.1) (z:=[(pI .u32 0),pI .u32 0]) same rfl rfl⟩ al0))
 obtain rfl:=C7 h;exact B3 hS Df ⟨[(4,.p (vSl 2 A1 x1))],[]⟩ [] (ids:=[]) ⟨rfl,rfl,rfl⟩
def F4 (N:Nat)(a:Sl (Sl Eg)):Option (Sl Eg):= BC N (fun b (x1:Int) (x2:Int)=>if (decide (x2<(a.n:Int))) then if ((0:Int)<=x2/\x2<(a.n:Int))then if (decide ((wrap .i64 (x1+((a.g x2.toNat).n:Int)))<0)) then none else b (wrap .i64 (x1+((a.g x2.toNat).n:Int))) (wrap .i64 (x2+1)) else none else (Q6 N x1).bind fun y1=>BC N (fun c (x3:Sl Eg) (x4:Int)=>if (decide (x4<(a.n:Int))) then if (((0:Int)<=x4/\x4<(a.n:Int))/\((x3.n+(a.g x4.toNat).n)*8<=140737488355328/\x3.n+(a.g x4.toNat).n<=140737488355328))then c (x3.app (a.g x4.toNat)) (wrap .i64 (x4+1)) else none else some x3) y1 0) 0 0
theorem O5 {a:Sl (Sl Eg)}{y:Sl Eg}(h:F4 N a=some y) :FunO S O4 [.p (vSl 1 (cL 2 A1) a)] [] (.vec 0) ([.vec F1 2 y.n (fun i=>A1 (y.g i)) true]) []:=by
 unfold F4 at h;refine A6 hS Tryz.func198 ?_;refine I8 hS Df h (fun x1 x2=>⟨[(11,pN x2),(10,pN (a.n:Int)),(9,.p (vSl 1 (cL 2 A1) a)),(3,pN x1),(0,.p (vSl 1 (cL 2 A1) a))],[]⟩) (ids:=[]) (fun _ _ _ _ _ d x1 x2 f h=>?_);apply kI hS h<;>intro h
 .obtain⟨c8,h⟩:=E8 h;refine D9 hS c8 (b:=decide ((wrap .i64 (x1+((a.g x2.toNat).n:Int)))<0)) (fun c9=>?_) (fun c9=>?_)
  .replace h:=itT c9 h;cases h
  replace h:=itF c9 h;exact f _ [] _ (wrap .i64 (x1+((a.g x2.toNat).n:Int))) (wrap .i64 (x2+1)) Df h
 refine kC hS h (Bd hS hL) (fun y1 h=>?_);refine I8 hS Df h (fun x3 x4=>⟨[(27,pN x4),(26,pN (a.n:Int)),(25,.p (vSl 1 (cL 2 A1) a)),(6,.vec 7500)],[(7500,.vec F1 2 x3.n (fun i=>A1 (x3.g i)) false)]⟩) (ids:=[(7500,25000)]) (fun _ _ _ _ _ j x3 x4 l h=>?_);apply kI hS h<;>intro h
 .obtain⟨c13,h⟩:=E8 h;exact l _ [(7500,34000)] _ (x3.app (a.g x4.toNat)) (wrap .i64 (x4+1)) c13 h (hle:=klR [(3,.fn (x3.n+(a.g x4.toNat).n) (x3.app (a.g x4.toNat)).n (AP x3.n (fun i=>A1 (x3.g i)) (fun i=>A1 ((a.g x4.toNat).g i))) (fun i=>A1 ((x3.app (a.g x4.toNat)).g i)))] (al1 ⟨rfl,Au3 (c:=A1) (v:=x3) (w:=a.g x4.toNat) same rfl same rfl⟩ al0))
 obtain rfl:=C7 h;exact B3 hS Df ⟨[(2,.vec 7500)],[(7500,.vec F1 2 x3.n (fun i=>A1 (x3.g i)) true)]⟩ [7500] (ids:=[(7500,7500)]) ⟨rfl,rfl,rfl⟩
def Dr (N:Nat)(b:Law)(c:Sl Eg)(a:Int):Option (Sl Eg):= if (((0:Int)<=a/\a<=(c.n:Int))/\((0:Int)<=a/\a<=(wrap .i64 (a+(b.If.n:Int)))/\(wrap .i64 (a+(b.If.n:Int)))<=(c.n:Int)))then (Kd N b (c.sub a.toNat (wrap .i64 (a+(b.If.n:Int))).toNat)).bind fun y1=>if ((0:Int)<=(wrap .i64 (a+(b.If.n:Int)))/\(wrap .i64 (a+(b.If.n:Int)))<=(c.n:Int))then (F4 N (Sl.of [c.take a.toNat,y1,c.drop (wrap .i64 (a+(b.If.n:Int))).toNat]:Sl (Sl Eg))).bind fun y2=>some y2 else none else none
theorem Ke {c:Law}{b:Sl Eg}{a:Int}{y:Sl Eg}(h:Dr N c b a=some y) :FunO S JW [.p (.agg (B5 c)),.p (vSl 2 A1 b),pN a] [] (.vec 0) ([.vec F1 2 y.n (fun i=>A1 (y.g i)) true]) []:=by unfold Dr at h;refine A6 hS Tryz.func201 ?_;refine J3 hS Df 6 4000 (B5 c) ?_;refine G9 hS Df [3,8] ?_;obtain⟨c1,h⟩:=E8 h;obtain⟨y1,e1,h⟩:=B8 h;refine V7 (And.intro (And.intro c1.1 (by decide:(18:Nat)<=18)) c1.2) (Uj hS hL e1) ?_;obtain⟨c2,h⟩:=E8 h;refine W9 c2 (x:=.sl true 1 3 (D3 [G1] [(0,cL 2 A1 (b.take a.toNat)),(1,cL 2 A1 y1),(2,cL 2 A1 (b.drop (wrap .i64 (a+(c.If.n:Int))).toNat))])) ?_;obtain⟨y2,e2,h⟩:=B8 h;refine Sy [] Df (FunO.le hS (args:=[.p (.sl true 1 3 (D3 [G1] [(0,cL 2 A1 (b.take a.toNat)),(1,cL 2 A1 y1),(2,cL 2 A1 (b.drop (wrap .i64 (a+(c.If.n:Int))).toNat))]))]) (by exact⟨WC rfl (fun i d=>match i,d with|0,_=>rfl|1,_=>rfl|2,_=>rfl|_+3,d=>Bc d (by omega)),trivial⟩) (O5 hS hL e2)) ?_;refine O0 Df ?_;obtain rfl:=C7 h;exact B3 hS Df ⟨[(6,.vec 27000)],[(27000,.vec F1 2 y2.n (fun i=>A1 (y2.g i)) true)]⟩ [27000] (ids:=[(27000,27000)]) ⟨rfl,rfl,rfl⟩
def Ez (N:Nat)(q0:Law)(q1:Sl Eg)(q2:Int):Option (List (Int)):= (HK N q0 q1).bind fun y1=>Y1 N (fun a (x2:Int)=>if (decide ((wrap .i64 (x2+(q0.If.n:Int)))<=(q1.n:Int))) then Y1 N (fun b (x4:Int)=>if (decide (x4<(q0.If.n:Int))) then if ((0:Int)<=x4/\x4<(q0.If.n:Int))then if ((0:Int)<=(wrap .i64 (x2+x4))/\(wrap .i64 (x2+x4))<(q1.n:Int))then (Ck N (q1.g (wrap .i64 (x2+x4)).toNat) (q0.If.g x4.toNat)).bind fun c=>if (!c) then a (wrap .i64 (x2+1)) else b (wrap .i64 (x4+1)) else none else none else (ER N x2 y1.1 y1.2).bind fun d=>if d then GM x2 (a (wrap .i64 (x2+1))) else a (wrap .i64 (x2+1))) 0 else some []) q2
theorem LC {q0:Law}{q1:Sl Eg}{q2:Int}{L:List (Int)}(h:Ez N q0 q1 q2=some L) :FX S Eu [] [.reg 0 0,.reg 1 0,.reg 2 0] [.cells ((B5 q0).map .p),.cells [.p (vSl 2 A1 q1)],.cells [pN q2]] (L.map (fun (x:Int)=>[pI .i64 x])):=by
 unfold Ez at h;refine Gc hS Tryz.func207 ?_;refine kC hS h (Ui hS hL) (fun y1 h=>?_);refine Hn hS Df h (fun x2 L1=>⟨[(6,pN x2),(5,.clo W8 [] [.reg 12000 0,.reg 12001 0]),(2,.reg 1 0),(1,.reg 0 0),(0,.yf 3)],[(12001,.cells [.p (vSl 2 A1 y1.2)]),(12000,.cells ((B5 y1.1).map .p)),(3,.yld (L1.map (fun (x:Int)=>[pI .i64 x])) true),(2,.cells [pN q2]),(1,.cells [.p (vSl 2 A1 q1)]),(0,.cells ((B5 q0).map .p))]⟩) (ids:=[(0,0),(1,1),(2,2),(3,3),(12000,12000),(12001,12001)]) (fun _ _ _ _ _ f x2 L1 c h=>?_);apply kI hS h<;>intro h
 .refine Hn hS Df h (fun x4 L8=>⟨[(26,pN x4),(25,pN (q0.If.n:Int)),(24,.p (vSl 2 A1 q0.If)),(6,pN x2),(5,.clo W8 [] [.reg 12000 0,.reg 12001 0]),(2,.reg 1 0),(1,.reg 0 0),(0,.yf 3)],[(12001,.cells [.p (vSl 2 A1 y1.2)]),(12000,.cells ((B5 y1.1).map .p)),(3,.yld (L8.map (fun (x:Int)=>[pI .i64 x])) true),(2,.cells [pN q2]),(1,.cells [.p (vSl 2 A1 q1)]),(0,.cells ((B5 q0).map .p))]⟩) (ids:=[(0,0),(1,1),(2,2),(3,3),(12000,12000),(12001,12001)]) (fun _ _ _ _ _ i x4 L8 j h=>?_);apply kI hS h<;>intro h
  .obtain⟨c47,h⟩:=E8 h;refine QE hS (And.intro c47 (by decide:(2:Nat)<=2)) 9000 [pI .u32 (q0.If.g x4.toNat).Plus,pI .u32 (q0.If.g x4.toNat).Minus] ?_;refine G9 hS Df [4,5,6,7] ?_;obtain⟨c48,h⟩:=E8 h;obtain⟨l,e12,h⟩:=B8 h;refine V7 (And.intro (And.intro c48 (by decide:(2:Nat)<=2)) (by decide:(2:Nat)<=2)) (KO hS hL e12) ?_;refine O0 Df ?_;apply kI hS h<;>intro h
   .exact c _ [(0,0),(1,1),(2,2),(3,3),(12000,12000),(12001,12001)] _ (wrap .i64 (x2+1)) L8 Df h
   exact j _ [(0,0),(1,1),(2,2),(3,3),(12000,12000),(12001,12001)] _ (wrap .i64 (x4+1)) L8 Df h
  obtain⟨m,e13,h⟩:=B8 h;refine C0 hS [12000,12001] Df (Ps hS hL e13) ?_;refine kG hS h (fun h=>?_) (fun h=>?_)
  .obtain⟨L10,rfl,d⟩:=NH h;replace h:=d;refine DS hS Df (ys:=(fun (x:Int)=>[pI .i64 x]) x2) (rest:=L10.map (fun (x:Int)=>[pI .i64 x])) ?_ ?_
   .refine D9 hS Df (b:=false) (fun c53=>?_) (fun c53=>?_)
    .exact Bool.noConfusion ((rfl:false=false).symm.trans c53)
    exact c _ [(0,0),(1,1),(2,2),(3,3),(12000,12000),(12001,12001)] _ (wrap .i64 (x2+1)) L10 Df h
   refine D9 hS Df (b:=true) (fun c54=>?_) (fun c54=>?_)
   .exact B3 hS Df (a:=.tup []) (objs:=[(.cells ((B5 q0).map .p)),.cells [.p (vSl 2 A1 q1)],.cells [pN q2],.yld [] false]) ⟨[],[(3,.yld [] false),(2,.cells [pN q2]),(1,.cells [.p (vSl 2 A1 q1)]),(0,.cells ((B5 q0).map .p))]⟩ [0,1,2,3] (ids:=[(0,0),(1,1),(2,2),(3,3)]) ⟨false,rfl,rfl,_,rfl⟩
   exact Bool.noConfusion ((rfl:true=true).symm.trans c54)
  exact c _ [(0,0),(1,1),(2,2),(3,3),(12000,12000),(12001,12001)] _ (wrap .i64 (x2+1)) L8 Df h
 obtain rfl:=C7 h;exact B3 hS Df (a:=.tup []) (objs:=[(.cells ((B5 q0).map .p)),.cells [.p (vSl 2 A1 q1)],.cells [pN q2],.yld [] true]) ⟨[],[(3,.yld [] true),(2,.cells [pN q2]),(1,.cells [.p (vSl 2 A1 q1)]),(0,.cells ((B5 q0).map .p))]⟩ [0,1,2,3] (ids:=[(0,0),(1,1),(2,2),(3,3)]) ⟨true,rfl,rfl,_,rfl⟩
def HV (N:Nat)(b:Law)(c:Sl Eg)(a:Int):Option (Law×(Sl Eg)×Int):= some (b,c,a)
theorem Qx {b:Law}{c:Sl Eg}{a:Int}{y:Law×(Sl Eg)×Int}(h:HV N b c a=some y) :FunO S Qw [.p (.agg (B5 b)),.p (vSl 2 A1 c),pN a] [] (.clo Eu [] [.reg 0 0,.reg 1 0,.reg 2 0]) ([.cells ((B5 y.1).map .p),.cells [.p (vSl 2 A1 y.2.1)],.cells [pN y.2.2]]) []:=by unfold HV at h;refine A6 hS Tryz.func197 ?_;obtain rfl:=C7 h;exact B3 hS Df ⟨[(6,.clo Eu [] [.reg 4000 0,.reg 5000 0,.reg 6000 0])],[(6000,.cells [pN a]),(5000,.cells [.p (vSl 2 A1 c)]),(4000,.cells ((B5 b).map .p))]⟩ [4000,5000,6000] (ids:=[(4000,4000),(5000,5000),(6000,6000)]) ⟨rfl,rfl,rfl⟩
def Kf (N:Nat)(b:Law)(c:Sl Eg)(a:Int):Option Bool:= (HV N b c a).bind fun y1=>(Ez N y1.1 y1.2.1 y1.2.2).bind fun L1=>X0 L1 (fun d (x1:Int) (_:Unit)=>some (x1==a)) (fun (_:Unit)=>some false) ()
theorem Uk {b:Law}{c:Sl Eg}{a:Int}{y:Bool}(h:Kf N b c a=some y) :FunO S Ub [.p (.agg (B5 b)),.p (vSl 2 A1 c),pN a] [] (pB y) ([]) []:=by
 unfold Kf at h;refine A6 hS Tryz.func200 ?_;refine kC hS h (Qx hS hL) (fun y1 h=>?_);obtain⟨L1,e2,h⟩:=B8 h;refine Gd hS Df [12000,12001,12002] [6,5] 901 (fun _=>⟨[(6,.reg 7000 0),(5,.reg 6000 0)],[(7000,.cells [.p (.v (.bool false))]),(6000,.cells [pN a])]⟩) (idl:=[(6000,6000),(7000,7000)]) h (LC hS hL e2) (fun _=>by kernel_rfl) (fun _=>by kernel_rfl) (fun _=>by kernel_rfl) (fun _=>by kernel_rfl) (fun x1 _ d _ f h=>?_) (fun _ h=>?_)
 .refine JK hS Df ?_;refine RF hS Df ⟨[(6,.reg 7000 0),(5,.reg 6000 0)],[(7000,.cells [pB (x1==a)]),(6000,.cells [pN a])]⟩ (ids:=[(901,901),(6000,6000),(7000,7000)]) ?_;cases h;exact kR hS
 cases h;exact kR hS
def IZ (N:Nat)(q0:Sl Eg)(q1:Law)(q2:Int)(q3:Int):Option (List (Int×(Sl Eg))):= if (q1.Mode==1) then (HV N q1 q0 0).bind fun y1=>(Ez N y1.1 y1.2.1 y1.2.2).bind fun L1=>X0 L1 (fun b (x1:Int) (z1:(Sl Eg)×Int×Int)=>if (decide (x1<z1.2.1)) then b (z1.1,z1.2.1,z1.2.2) else if (((0:Int)<=(wrap .i64 (x1+z1.2.2))/\(wrap .i64 (x1+z1.2.2))<=(z1.1.n:Int))/\((0:Int)<=x1/\x1<=(wrap .i64 (x1+q2))/\(wrap .i64 (x1+q2))<=(q0.n:Int)))then (Kd N q1 (q0.sub x1.toNat (wrap .i64 (x1+q2)).toNat)).bind fun y6=>if ((0:Int)<=(wrap .i64 (x1+q2))/\(wrap .i64 (x1+q2))<=(q0.n:Int))then (F4 N (Sl.of [z1.1.take (wrap .i64 (x1+z1.2.2)).toNat,y6,q0.drop (wrap .i64 (x1+q2)).toNat]:Sl (Sl Eg))).bind fun y7=>GM (x1,y7) (b (y7,wrap .i64 (x1+(if q2<1 then 1 else q2)),wrap .i64 ((wrap .i64 (z1.2.2+q3))-q2))) else none else none) (fun (z1:(Sl Eg)×Int×Int)=>some []) (q0,0,0) else if (q1.Mode==2) then BC N (fun a (x5:Sl Eg) (x6:Int)=>if (decide ((wrap .i64 (x6+q2))<=(x5.n:Int))) then (Kf N q1 x5 x6).bind fun g=>if (!g) then a x5 (wrap .i64 (x6+1)) else (Dr N q1 x5 x6).bind fun d=>GM (x6,d) (if (q2==0) then a d (wrap .i64 ((wrap .i64 (x6+q3))+1)) else a d (wrap .i64 (x6+q3))) else some []) q0 0 else if (q1.Mode==3) then BC N (fun c (x7:Sl Eg) (x8:Int)=>if (decide (0<=x8)) then (Kf N q1 x7 x8).bind fun i=>if (!i) then c x7 (wrap .i64 (x8-1)) else (Dr N q1 x7 x8).bind fun f=>GM (x8,f) (c f (wrap .i64 (x8-(if q2<1 then 1 else q2)))) else some []) q0 (wrap .i64 ((q0.n:Int)-q2)) else some []
theorem We {q0:Sl Eg}{q1:Law}{q2:Int}{q3:Int}{L:List (Int×(Sl Eg))}(h:IZ N q0 q1 q2 q3=some L) :FX S Gh [] [.reg 0 0,.reg 1 0,.reg 2 0,.reg 3 0] [.cells [.p (vSl 2 A1 q0)],.cells ((B5 q1).map .p),.cells [pN q2],.cells [pN q3]] (L.map (fun (x:Int×(Sl Eg))=>[pI .i64 x.1,vSl 2 A1 x.2])):=by
 unfold IZ at h;refine Gc hS Tryz.func196 ?_;apply kI hS h<;>intro h
 .refine kC hS h (Qx hS hL) (fun y1 h=>?_);obtain⟨L1,e2,h⟩:=B8 h;refine Ap2 hS Df [20000,20001,20002] [8,7,6,5,4,3,2,1] 900 (fun z1 L2=>⟨[(8,.reg 9000 0),(7,.reg 8000 0),(6,.reg 7000 0),(5,.reg 6000 0),(4,.reg 3 0),(3,.reg 2 0),(2,.reg 1 0),(1,.reg 0 0)],[(9000,.cells [pN z1.2.2]),(8000,.cells [pN z1.2.1]),(7000,.cells [.p (vSl 2 A1 z1.1)]),(6000,.cells [.yf 4]),(4,.yld (L2.map (fun (x:Int×(Sl Eg))=>[pI .i64 x.1,vSl 2 A1 x.2])) true),(3,.cells [pN q3]),(2,.cells [pN q2]),(1,.cells ((B5 q1).map .p)),(0,.cells [.p (vSl 2 A1 q0)])]⟩) (idl:=[(0,0),(1,1),(2,2),(3,3),(4,4),(6000,6000),(7000,7000),(8000,8000),(9000,9000)]) h (LC hS hL e2) (fun _=>by kernel_rfl) (fun _ _=>by kernel_rfl) (fun _ _=>by kernel_rfl) (fun _ _=>by kernel_rfl) (fun x1 _ s z1 L2 j h=>?_) (fun z1 L2 h=>?_)
  .refine JK hS Df ?_;apply kI hS h<;>intro h
   .exact j _ [(0,0),(1,1),(2,2),(3,3),(4,4),(900,900),(6000,6000),(7000,7000),(8000,8000),(9000,9000)] _ (z1.1,z1.2.1,z1.2.2) L2 Df h
   refine Av hS Df [(0,.l [7000]),(2,.l [9000]),(5,.l [1]),(6,.l [0]),(9,.l [2]),(12,.n),(13,.l [0]),(15,.l [2]),(20,.a [7000])] ?_;obtain⟨c13,h⟩:=E8 h;obtain⟨y6,e7,h⟩:=B8 h;refine V7 c13 (Uj hS hL e7) ?_;obtain⟨c14,h⟩:=E8 h;refine W9 c14 (x:=.sl true 1 3 (D3 [G1] [(0,cL 2 A1 (z1.1.take (wrap .i64 (x1+z1.2.2)).toNat)),(1,cL 2 A1 y6),(2,cL 2 A1 (q0.drop (wrap .i64 (x1+q2)).toNat))])) ?_;obtain⟨y7,e8,h⟩:=B8 h;refine Sy [] Df (FunO.le hS (args:=[.p (.sl true 1 3 (D3 [G1] [(0,cL 2 A1 (z1.1.take (wrap .i64 (x1+z1.2.2)).toNat)),(1,cL 2 A1 y6),(2,cL 2 A1 (q0.drop (wrap .i64 (x1+q2)).toNat))]))]) (by exact⟨WC rfl (fun i t=>match i,t with|0,_=>rfl|1,_=>rfl|2,_=>rfl|_+3,t=>Bc t (by omega)),trivial⟩) (O5 hS hL e8)) ?_;refine O0 Df ?_;obtain⟨L5,rfl,m⟩:=NH h;replace h:=m;refine DS hS Df (ys:=(fun (x:Int×(Sl Eg))=>[pI .i64 x.1,vSl 2 A1 x.2]) (x1,y7)) (rest:=L5.map (fun (x:Int×(Sl Eg))=>[pI .i64 x.1,vSl 2 A1 x.2])) ?_ ?_
   .refine D9 hS Df (b:=false) (fun c15=>?_) (fun c15=>?_)
    .exact Bool.noConfusion ((rfl:false=false).symm.trans c15)
    refine Av hS Df [(1,.l [2]),(4,.l [9000]),(5,.l [3]),(7,.l [2]),(9,.a [8000]),(10,.a [9000])] ?_;refine O0 Df ?_;exact j _ [(0,0),(1,1),(2,2),(3,3),(4,4),(900,900),(6000,6000),(7000,7000),(8000,8000),(9000,9000)] _ (y7,wrap .i64 (x1+(if q2<1 then 1 else q2)),wrap .i64 ((wrap .i64 (z1.2.2+q3))-q2)) L5 Df h
   refine D9 hS Df (b:=true) (fun c16=>?_) (fun c16=>?_)
   .refine RF hS Df ⟨[(8,.reg 9000 0),(7,.reg 8000 0),(6,.reg 7000 0),(5,.reg 6000 0),(4,.reg 3 0),(3,.reg 2 0),(2,.reg 1 0),(1,.reg 0 0)],[(44000,.vec F1 2 y7.n (fun i=>A1 (y7.g i)) true),(9000,.cells [pN z1.2.2]),(8000,.cells [pN z1.2.1]),(7000,.cells [.vec 44000]),(6000,.cells [.yf 4]),(4,.yld [] false),(3,.cells [pN q3]),(2,.cells [pN q2]),(1,.cells ((B5 q1).map .p)),(0,.cells [.p (vSl 2 A1 q0)])]⟩ (ids:=[(0,0),(1,1),(2,2),(3,3),(4,4),(900,900),(6000,6000),(7000,7000),(8000,8000),(9000,9000),(44000,44000)]) ?_;exact B3 hS Df (a:=.tup []) (objs:=[(.cells [.p (vSl 2 A1 q0)]),.cells ((B5 q1).map .p),.cells [pN q2],.cells [pN q3],.yld [] false]) ⟨[],[(4,.yld [] false),(3,.cells [pN q3]),(2,.cells [pN q2]),(1,.cells ((B5 q1).map .p)),(0,.cells [.p (vSl 2 A1 q0)])]⟩ [0,1,2,3,4] (ids:=[(0,0),(1,1),(2,2),(3,3),(4,4)]) ⟨false,rfl,rfl,_,rfl⟩
   exact Bool.noConfusion ((rfl:true=true).symm.trans c16)
  obtain rfl:=C7 h;exact B3 hS Df (a:=.tup []) (objs:=[(.cells [.p (vSl 2 A1 q0)]),.cells ((B5 q1).map .p),.cells [pN q2],.cells [pN q3],.yld [] true]) ⟨[],[(4,.yld [] true),(3,.cells [pN q3]),(2,.cells [pN q2]),(1,.cells ((B5 q1).map .p)),(0,.cells [.p (vSl 2 A1 q0)])]⟩ [0,1,2,3,4] (ids:=[(0,0),(1,1),(2,2),(3,3),(4,4)]) ⟨true,rfl,rfl,_,rfl⟩
 apply kI hS h<;>intro h
 .refine RB hS Df h (fun x5 x6 L6=>⟨[(10,pN x6),(6,.reg 7000 0),(5,.reg 6000 0),(4,.reg 3 0),(3,.reg 2 0),(2,.reg 1 0)],[(7000,.cells [.p (vSl 2 A1 x5)]),(6000,.cells [.yf 4]),(4,.yld (L6.map (fun (x:Int×(Sl Eg))=>[pI .i64 x.1,vSl 2 A1 x.2])) true),(3,.cells [pN q3]),(2,.cells [pN q2]),(1,.cells ((B5 q1).map .p)),(0,.cells [.p (vSl 2 A1 q0)])]⟩) (ids:=[(0,0),(1,1),(2,2),(3,3),(4,4),(6000,6000),(7000,7000)]) (fun _ _ _ _ _ u x5 x6 L6 c h=>?_);apply kI hS h<;>intro h
  .refine kC hS h (Uk hS hL) (fun w h=>?_);apply kI hS h<;>intro h
   .exact c _ [(0,0),(1,1),(2,2),(3,3),(4,4),(6000,6000),(7000,7000)] _ x5 (wrap .i64 (x6+1)) L6 Df h
   refine kC hS h (Ke hS hL) (fun d h=>?_);obtain⟨L9,rfl,o⟩:=NH h;replace h:=o;refine DS hS Df (ys:=(fun (x:Int×(Sl Eg))=>[pI .i64 x.1,vSl 2 A1 x.2]) (x6,d)) (rest:=L9.map (fun (x:Int×(Sl Eg))=>[pI .i64 x.1,vSl 2 A1 x.2])) ?_ ?_
   .refine D9 hS Df (b:=false) (fun c30=>?_) (fun c30=>?_)
    .exact Bool.noConfusion ((rfl:false=false).symm.trans c30)
    apply kI hS h<;>intro h
    .exact c _ [(0,0),(1,1),(2,2),(3,3),(4,4),(6000,6000),(7000,7000)] _ d (wrap .i64 ((wrap .i64 (x6+q3))+1)) L9 Df h
    exact c _ [(0,0),(1,1),(2,2),(3,3),(4,4),(6000,6000),(7000,7000)] _ d (wrap .i64 (x6+q3)) L9 Df h
   refine D9 hS Df (b:=true) (fun c32=>?_) (fun c32=>?_)
   .exact B3 hS Df (a:=.tup []) (objs:=[(.cells [.p (vSl 2 A1 q0)]),.cells ((B5 q1).map .p),.cells [pN q2],.cells [pN q3],.yld [] false]) ⟨[],[(4,.yld [] false),(3,.cells [pN q3]),(2,.cells [pN q2]),(1,.cells ((B5 q1).map .p)),(0,.cells [.p (vSl 2 A1 q0)])]⟩ [0,1,2,3,4] (ids:=[(0,0),(1,1),(2,2),(3,3),(4,4)]) ⟨false,rfl,rfl,_,rfl⟩
   exact Bool.noConfusion ((rfl:true=true).symm.trans c32)
  obtain rfl:=C7 h;exact B3 hS Df (a:=.tup []) (objs:=[(.cells [.p (vSl 2 A1 q0)]),.cells ((B5 q1).map .p),.cells [pN q2],.cells [pN q3],.yld [] true]) ⟨[],[(4,.yld [] true),(3,.cells [pN q3]),(2,.cells [pN q2]),(1,.cells ((B5 q1).map .p)),(0,.cells [.p (vSl 2 A1 q0)])]⟩ [0,1,2,3,4] (ids:=[(0,0),(1,1),(2,2),(3,3),(4,4)]) ⟨true,rfl,rfl,_,rfl⟩
 apply kI hS h<;>intro h
 .refine RB hS Df h (fun x7 x8 L10=>⟨[(11,pN x8),(6,.reg 7000 0),(5,.reg 6000 0),(3,.reg 2 0),(2,.reg 1 0)],[(7000,.cells [.p (vSl 2 A1 x7)]),(6000,.cells [.yf 4]),(4,.yld (L10.map (fun (x:Int×(Sl Eg))=>[pI .i64 x.1,vSl 2 A1 x.2])) true),(3,.cells [pN q3]),(2,.cells [pN q2]),(1,.cells ((B5 q1).map .p)),(0,.cells [.p (vSl 2 A1 q0)])]⟩) (ids:=[(0,0),(1,1),(2,2),(3,3),(4,4),(6000,6000),(7000,7000)]) (fun _ _ _ _ _ v x7 x8 L10 q h=>?_);apply kI hS h<;>intro h
  .refine kC hS h (Uk hS hL) (fun y h=>?_);apply kI hS h<;>intro h
   .exact q _ [(0,0),(1,1),(2,2),(3,3),(4,4),(6000,6000),(7000,7000)] _ x7 (wrap .i64 (x8-1)) L10 Df h
   refine kC hS h (Ke hS hL) (fun r h=>?_);obtain⟨L13,rfl,f⟩:=NH h;replace h:=f;refine DS hS Df (ys:=(fun (x:Int×(Sl Eg))=>[pI .i64 x.1,vSl 2 A1 x.2]) (x8,r)) (rest:=L13.map (fun (x:Int×(Sl Eg))=>[pI .i64 x.1,vSl 2 A1 x.2])) ?_ ?_
   .refine D9 hS Df (b:=false) (fun c44=>?_) (fun c44=>?_)
    .exact Bool.noConfusion ((rfl:false=false).symm.trans c44)
    exact q _ [(0,0),(1,1),(2,2),(3,3),(4,4),(6000,6000),(7000,7000)] _ r (wrap .i64 (x8-(if q2<1 then 1 else q2))) L13 Df h
   refine D9 hS Df (b:=true) (fun c45=>?_) (fun c45=>?_)
   .exact B3 hS Df (a:=.tup []) (objs:=[(.cells [.p (vSl 2 A1 q0)]),.cells ((B5 q1).map .p),.cells [pN q2],.cells [pN q3],.yld [] false]) ⟨[],[(4,.yld [] false),(3,.cells [pN q3]),(2,.cells [pN q2]),(1,.cells ((B5 q1).map .p)),(0,.cells [.p (vSl 2 A1 q0)])]⟩ [0,1,2,3,4] (ids:=[(0,0),(1,1),(2,2),(3,3),(4,4)]) ⟨false,rfl,rfl,_,rfl⟩
   exact Bool.noConfusion ((rfl:true=true).symm.trans c45)
  obtain rfl:=C7 h;exact B3 hS Df (a:=.tup []) (objs:=[(.cells [.p (vSl 2 A1 q0)]),.cells ((B5 q1).map .p),.cells [pN q2],.cells [pN q3],.yld [] true]) ⟨[],[(4,.yld [] true),(3,.cells [pN q3]),(2,.cells [pN q2]),(1,.cells ((B5 q1).map .p)),(0,.cells [.p (vSl 2 A1 q0)])]⟩ [0,1,2,3,4] (ids:=[(0,0),(1,1),(2,2),(3,3),(4,4)]) ⟨true,rfl,rfl,_,rfl⟩
 obtain rfl:=C7 h;exact B3 hS Df (a:=.tup []) (objs:=[(.cells [.p (vSl 2 A1 q0)]),.cells ((B5 q1).map .p),.cells [pN q2],.cells [pN q3],.yld [] true]) ⟨[],[(4,.yld [] true),(3,.cells [pN q3]),(2,.cells [pN q2]),(1,.cells ((B5 q1).map .p)),(0,.cells [.p (vSl 2 A1 q0)])]⟩ [0,1,2,3,4] (ids:=[(0,0),(1,1),(2,2),(3,3),(4,4)]) ⟨true,rfl,rfl,_,rfl⟩
def Oq (N:Nat)(a:Law)(b:Sl Eg):Option ((Sl Eg)×Law×Int×Int):= some (b,a,(a.If.n:Int),(a.Out.n:Int))
theorem Ag5 {b:Law}{c:Sl Eg}{y:(Sl Eg)×Law×Int×Int}(h:Oq N b c=some y) :FunO S TZ [.p (.agg (B5 b)),.p (vSl 2 A1 c)] [] (.clo Gh [] [.reg 0 0,.reg 1 0,.reg 2 0,.reg 3 0]) ([.cells [.p (vSl 2 A1 y.1)],.cells ((B5 y.2.1).map .p),.cells [pN y.2.2.1],.cells [pN y.2.2.2]]) []:=by unfold Oq at h;refine A6 hS Tryz.func190 ?_;refine Av hS Df [(1,.l [3000]),(2,.n),(4,.l [3000]),(5,.n),(6,.a [6000]),(7,.a [7000]),(8,.a [6000]),(9,.a [7000])] ?_;refine O0 Df ?_;obtain rfl:=C7 h;exact B3 hS Df ⟨[(4,.clo Gh [] [.reg 4000 0,.reg 3000 0,.reg 6000 0,.reg 7000 0])],[(7000,.cells [pN (b.Out.n:Int)]),(6000,.cells [pN (b.If.n:Int)]),(4000,.cells [.p (vSl 2 A1 c)]),(3000,.cells ((B5 b).map .p))]⟩ [4000,3000,6000,7000] (ids:=[(3000,3000),(4000,4000),(6000,6000),(7000,7000)]) ⟨rfl,rfl,rfl⟩
def Ja (N:Nat)(b:Law)(c:Sl Eg):Option ((Sl Int)×(Sl (Sl Eg))×Int):= (IY N b c).bind fun y1=>if (y1 != 0) then some ((Sl.nil:Sl Int),(Sl.nil:Sl (Sl Eg)),y1) else (Oq N b c).bind fun y2=>(IZ N y2.1 y2.2.1 y2.2.2.1 y2.2.2.2).bind fun L1=>X0 L1 (fun a (x1:Int×(Sl Eg)) (z1:(Sl Int)×(Sl (Sl Eg)))=>if (decide (32<(x1.2.n:Int))) then some ((Sl.nil:Sl Int),(Sl.nil:Sl (Sl Eg)),11) else if ((z1.1.n+(Sl.of [x1.1]:Sl Int).n)*8<=140737488355328/\z1.1.n+(Sl.of [x1.1]:Sl Int).n<=140737488355328)then if ((z1.2.n+(Sl.of [x1.2]:Sl (Sl Eg)).n)*24<=140737488355328/\z1.2.n+(Sl.of [x1.2]:Sl (Sl Eg)).n<=140737488355328)then a (z1.1.push x1.1,z1.2.push x1.2) else none else none) (fun (z1:(Sl Int)×(Sl (Sl Eg)))=>some (z1.1,z1.2,0)) ((Sl.nil:Sl Int),(Sl.nil:Sl (Sl Eg)))
theorem Wf {b:Law}{d:Sl Eg}{y:(Sl Int)×(Sl (Sl Eg))×Int}(h:Ja N b d=some y) :FunO S NY [.p (.agg (B5 b)),.p (vSl 2 A1 d)] [] (.tup [.vec 0,.vec 1,pN y.2.2]) ([.vec D4 1 y.1.n (fun i=>cI .i64 (y.1.g i)) true,.vec T2 1 y.2.1.n (fun i=>cL 2 A1 (y.2.1.g i)) true]) []:=by
 unfold Ja at h;refine A6 hS Tryz.func182 ?_;refine J3 hS Df 4 3000 (B5 b) ?_;obtain⟨y1,e1,h⟩:=B8 h;refine C0 hS [] (by decide:(18:Nat)<=18) (Wd hS hL e1) ?_;apply kI hS h<;>intro h
 .obtain rfl:=C7 h;exact B3 hS Df ⟨[(6,.reg 7000 0),(5,.reg 6000 0),(4,.reg 5000 0)],[(7000,.cells [pN y1]),(6701,.vec T2 1 (Sl.nil:Sl (Sl Eg)).n (fun i=>cL 2 A1 ((Sl.nil:Sl (Sl Eg)).g i)) true),(6000,.cells [.vec 6701]),(5700,.vec D4 1 (Sl.nil:Sl Int).n (fun i=>cI .i64 ((Sl.nil:Sl Int).g i)) true),(5000,.cells [.vec 5700])]⟩ [5700,6701] (ids:=[(5000,5000),(6000,6000),(7000,7000)]) ⟨rfl,rfl,rfl⟩
 obtain⟨y2,e2,h⟩:=B8 h;refine C0 hS [] (by decide:(18:Nat)<=18) (Ag5 hS hL e2) ?_;obtain⟨L1,e3,h⟩:=B8 h;refine Gd hS Df [21000,21001,21002,21003] [9,8,6,5,4] 901 (fun z1=>⟨[(9,.reg 10000 0),(8,.reg 9000 0),(6,.reg 7000 0),(5,.reg 6000 0),(4,.reg 5000 0)],[(10500,.vec T2 1 z1.2.n (fun i=>cL 2 A1 (z1.2.g i)) false),(10000,.cells [.vec 10500]),(9500,.vec D4 1 z1.1.n (fun i=>cI .i64 (z1.1.g i)) false),(9000,.cells [.vec 9500]),(7000,.cells [pN 0]),(6000,.cells [.p G1]),(5000,.cells [.p G1])]⟩) (idl:=[(5000,5000),(6000,6000),(7000,7000),(9000,9000),(10000,10000)]) h (We hS hL e3) (fun _=>by kernel_rfl) (fun _=>by kernel_rfl) (fun _=>by kernel_rfl) (fun _=>by kernel_rfl) (fun x1 _ f z1 j h=>?_) (fun z1 h=>?_)
 .refine JK hS Df ?_;apply kI hS h<;>intro h
  .refine RF hS Df ⟨[(9,.reg 10000 0),(8,.reg 9000 0),(6,.reg 7000 0),(5,.reg 6000 0),(4,.reg 5000 0)],[(10500,.vec T2 1 z1.2.n (fun i=>cL 2 A1 (z1.2.g i)) false),(10000,.cells [.vec 10500]),(9500,.vec D4 1 z1.1.n (fun i=>cI .i64 (z1.1.g i)) false),(9000,.cells [.vec 9500]),(7000,.cells [pN 11]),(6000,.cells [.p G1]),(5000,.cells [.p G1])]⟩ (ids:=[(901,901),(5000,5000),(6000,6000),(7000,7000),(9000,9000),(9500,9500),(10000,10000),(10500,10500)]) ?_;obtain rfl:=C7 h;exact B3 hS Df ⟨[(6,.reg 7000 0),(5,.reg 6000 0),(4,.reg 5000 0)],[(7000,.cells [pN 11]),(6701,.vec T2 1 (Sl.nil:Sl (Sl Eg)).n (fun i=>cL 2 A1 ((Sl.nil:Sl (Sl Eg)).g i)) true),(6000,.cells [.vec 6701]),(5700,.vec D4 1 (Sl.nil:Sl Int).n (fun i=>cI .i64 ((Sl.nil:Sl Int).g i)) true),(5000,.cells [.vec 5700])]⟩ [5700,6701] (ids:=[(5000,5000),(6000,6000),(7000,7000)]) ⟨rfl,rfl,rfl⟩
  refine Av hS Df [(0,.l [9000]),(3,.a [30000,9500]),(4,.l [10000]),(7,.a [34000,10500]),(8,.a [9000]),(9,.a [10000])] ?_;refine W9 Df (x:=.sl true 1 1 (D3 [pI .i64 0] [(0,cI .i64 x1.1)])) ?_;obtain⟨c9,h⟩:=E8 h;refine W9 c9 (x:=.sl true 1 1 (D3 [G1] [(0,cL 2 A1 x1.2)])) ?_;obtain⟨c10,h⟩:=E8 h;refine O0 c10 ?_;exact j _ [(901,901),(5000,5000),(6000,6000),(7000,7000),(9000,9000),(9500,30000),(10000,10000),(10500,34000)] _ (z1.1.push x1.1,z1.2.push x1.2) Df h (hle:=klR [(0,.fn (z1.2.n+1) (z1.2.push x1.2).n (AP z1.2.n (fun i=>cL 2 A1 (z1.2.g i)) (D3 [G1] [(0,cL 2 A1 x1.2)])) (fun i=>cL 2 A1 ((z1.2.push x1.2).g i))),(1,.fn (z1.1.n+1) (z1.1.push x1.1).n (AP z1.1.n (fun i=>cI .i64 (z1.1.g i)) (D3 [pI .i64 0] [(0,cI .i64 x1.1)])) (fun i=>cI .i64 ((z1.1.push x1.1).g i)))] (al1 ⟨rfl,LI (c:=cL 2 A1) (v:=z1.2) (x:=x1.2) (z:=[G1]) same rfl rfl⟩ (al1 ⟨rfl,LI (c:=cI .i64) (v:=z1.1) (x:=x1.1) (z:=[(pI .i64 0)]) same rfl rfl⟩ al0)))
 refine Av hS Df [(0,.l [9000]),(1,.l [10000]),(2,.a [5000]),(3,.a [6000]),(4,.a [7000])] ?_;refine O0 Df ?_;obtain rfl:=C7 h;exact B3 hS Df ⟨[(6,.reg 7000 0),(5,.reg 6000 0),(4,.reg 5000 0)],[(10500,.vec T2 1 z1.2.n (fun i=>cL 2 A1 (z1.2.g i)) true),(9500,.vec D4 1 z1.1.n (fun i=>cI .i64 (z1.1.g i)) true),(7000,.cells [pN 0]),(6000,.cells [.vec 10500]),(5000,.cells [.vec 9500])]⟩ [9500,10500] (ids:=[(5000,5000),(6000,6000),(7000,7000),(9500,9500),(10500,10500)]) ⟨rfl,rfl,rfl⟩
def Jb (N:Nat)(b:Law)(a:Sl Eg):Option ((Sl Eg)×Int):= (Ja N b a).bind fun y1=>if (y1.2.2 != 0) then some ((Sl.nil:Sl Eg),y1.2.2) else if (decide (0<(y1.2.1.n:Int))) then if (((0:Int)<=(wrap .i64 ((y1.2.1.n:Int)-1))/\(wrap .i64 ((y1.2.1.n:Int)-1))<(y1.2.1.n:Int))/\(wrap .i64 ((y1.2.1.n:Int)-1)).toNat<y1.2.1.n)then some (y1.2.1.g (wrap .i64 ((y1.2.1.n:Int)-1)).toNat,0) else none else (B9 N a).bind fun y2=>some (y2,0)
theorem Wg {a:Law}{b:Sl Eg}{y:(Sl Eg)×Int}(h:Jb N a b=some y) :FunO S NX [.p (.agg (B5 a)),.p (vSl 2 A1 b)] [] (.tup [.p (vSl 2 A1 y.1),pN y.2]) ([]) []:=by
 unfold Jb at h;refine A6 hS Tryz.func176 ?_;refine kC hS h (Wf hS hL) (fun y1 h=>?_);apply kI hS h<;>intro h
 .obtain rfl:=C7 h;exact B3 hS Df ⟨[(5,pN y1.2.2),(4,.p (vSl 2 A1 (Sl.nil:Sl Eg)))],[]⟩ [] (ids:=[]) ⟨rfl,rfl,rfl⟩
 apply kI hS h<;>intro h
 .obtain⟨c3,h⟩:=E8 h;obtain rfl:=C7 h;exact XU hS c3 [] ⟨rfl,rfl,rfl⟩
 refine kC hS h (P6 hS hL) (fun y2 h=>?_);obtain rfl:=C7 h;exact B3 hS Df ⟨[(5,pN 0),(4,.p (vSl 2 A1 y2))],[]⟩ [] (ids:=[]) ⟨rfl,rfl,rfl⟩
end Go.AM
namespace Go.AM
variable {N:Nat}
open IntKind (wrap)
open Go.Proofs
set_option maxRecDepth 10000
set_option maxHeartbeats 2000000
variable {S:Q8}(hS:H1 S Tryz.prog) (hL:GL S)
include hS hL
def CW (N:Nat)(a:Law):Option Bool:= (U9 N a).bind fun y1=>some (y1 != 0)
theorem LZ {a:Law}{y:Bool}(h:CW N a=some y) :FunO S GG [.p (.agg (B5 a))] [] (pB y) ([]) []:=by unfold CW at h;refine A6 hS Tryz.func160 ?_;refine kC hS h (FH hS hL) (fun y1 h=>?_);cases h;exact kR hS
def I1 (N:Nat)(a:Sl Law)(c:Law->Option Bool):Option Int:= Y1 N (fun b (x1:Int)=>if (decide (x1<(a.n:Int))) then if ((0:Int)<=x1/\x1<(a.n:Int))then (c (a.g x1.toNat)).bind fun y3=>if y3 then some x1 else b (wrap .i64 (x1+1)) else none else some (-1)) 0
theorem AN {a:Sl Law}{c:Law->Option Bool}{kp_f:Nat}(d:∀{a0:Law}{b:Bool},c a0=some b->FunO S kp_f [.p (.agg (B5 a0))] [] (pB b) [] []){y:Int}(h:I1 N a c=some y) :FunO S P5 [.p (vSl 18 B5 a),.clo kp_f [] []] [] (pN y) ([]) []:=by
 unfold I1 at h;refine A6 hS Tryz.func174 ?_;refine N4 hS Df h (fun x1=>⟨[(8,pN x1),(7,pN (a.n:Int)),(1,.clo kp_f [] []),(0,.p (vSl 18 B5 a))],[]⟩) (ids:=[]) (fun _ _ _ _ _ f x1 g h=>?_);apply kI hS h<;>intro h
 .obtain⟨c8,h⟩:=E8 h;obtain⟨y3,e3,h⟩:=B8 h;refine C0 hS [] (And.intro c8 (by decide:(18:Nat)<=18)) (d e3) ?_;apply kI hS h<;>intro h
  .cases h;exact kR hS
  exact g _ [] _ (wrap .i64 (x1+1)) Df h
 cases h;exact kR hS
def H2 (N:Nat)(a:Sl Law)(b:Law->Option Bool):Option Bool:= (I1 N a b).bind fun y1=>some (decide (0<=y1))
theorem Y0 {a:Sl Law}{c:Law->Option Bool}{kp_f:Nat}(d:∀{a0:Law}{b:Bool},c a0=some b->FunO S kp_f [.p (.agg (B5 a0))] [] (pB b) [] []){y:Bool}(h:H2 N a c=some y) :FunO S N2 [.p (vSl 18 B5 a),.clo kp_f [] []] [] (pB y) ([]) []:=by unfold H2 at h;refine A6 hS Tryz.func159 ?_;refine kC hS h (AN hS hL (fun e=>d e)) (fun y1 h=>?_);cases h;exact kR hS
def ES (N:Nat)(a:Sl Law):Option Int:= if (decide (64<(a.n:Int))) then some 12 else (H2 N a (fun (u1:Law)=>CW N u1)).bind fun y1=>if y1 then some 17 else some 0
theorem Pt {a:Sl Law}{y:Int}(h:ES N a=some y) :FunO S Iy [.p (vSl 18 B5 a)] [] (pN y) ([]) []:=by
 unfold ES at h;refine A6 hS Tryz.func139 ?_;apply kI hS h<;>intro h
 .cases h;exact kR hS
 refine kC hS h (Y0 hS hL (fun e=>LZ hS hL e)) (fun y1 h=>?_);apply kI hS h<;>intro h
 .cases h;exact kR hS
 cases h;exact kR hS
def ET (N:Nat)(b:Sl Law)(a:Sl (Sl Eg)):Option Int:= (ES N b).bind fun y1=>if (y1 != 0) then some y1 else if (decide (256<(a.n:Int))) then some 12 else Y1 N (fun c (x1:Int)=>if (decide (x1<(a.n:Int))) then if ((0:Int)<=x1/\x1<(a.n:Int))then (CH N (a.g x1.toNat)).bind fun y4=>if (y4 != 0) then some y4 else c (wrap .i64 (x1+1)) else none else some 0) 0
theorem Pu {b:Sl Law}{a:Sl (Sl Eg)}{y:Int}(h:ET N b a=some y) :FunO S Ix [.p (vSl 18 B5 b),.p (vSl 1 (cL 2 A1) a)] [] (pN y) ([]) []:=by
 unfold ET at h;refine A6 hS Tryz.func111 ?_;refine kC hS h (Pt hS hL) (fun y1 h=>?_);apply kI hS h<;>intro h
 .cases h;exact kR hS
 apply kI hS h<;>intro h
 .cases h;exact kR hS
 refine N4 hS Df h (fun x1=>⟨[(19,pN x1),(18,pN (a.n:Int)),(17,.p (vSl 1 (cL 2 A1) a))],[]⟩) (ids:=[]) (fun _ _ _ _ _ c x1 d h=>?_);apply kI hS h<;>intro h
 .obtain⟨c10,h⟩:=E8 h;obtain⟨y4,e4,h⟩:=B8 h;refine C0 hS [] c10 (HG hS hL e4) ?_;apply kI hS h<;>intro h
  .cases h;exact kR hS
  exact d _ [] _ (wrap .i64 (x1+1)) Df h
 cases h;exact kR hS
end Go.AM
namespace Go.AM
variable {N:Nat}
open IntKind (wrap)
open Go.Proofs
set_option maxRecDepth 10000
set_option maxHeartbeats 2000000
variable {S:Q8}(hS:H1 S Tryz.prog) (hL:GL S)
include hS hL
def Aq4 (c:Int):Option PV:=if c=0 then none else some (.iface 210 (pI .i64 c))
def CX (N:Nat)(c:Int)(q0:Sl Eg)(q1:Sl Law):Option (List (Int×(Sl Eg))):= (B9 N q0).bind fun y1=>GM (0,y1) (BC N (fun a (x1:Sl Eg) (x2:Int)=>if (decide (x2<(q1.n:Int))) then if ((0:Int)<=x2/\x2<(q1.n:Int))then (Jb N (q1.g x2.toNat) x1).bind fun y4=>if (y4.2 != 0) then if y4.2=c then some []else none else GM (wrap .i64 (x2+1),y4.1) (a y4.1 (wrap .i64 (x2+1))) else none else if c=0 then some []else none) y1 0)
theorem GI {q0:Sl Eg}{q1:Sl Law}{c:Int}{L:List (Int×(Sl Eg))}(h:CX N c q0 q1=some L) :NJ S S3 [] [.reg 0 0,.reg 1 0] [.cells [.p (vSl 2 A1 q0)],.cells [.p (vSl 18 B5 q1)]] (L.map (fun (x:Int×(Sl Eg))=>[pI .i64 x.1,vSl 2 A1 x.2])) (Aq4 c):=by
 unfold CX at h;refine Af7 hS Tryz.func175 ?_;refine kC hS h (P6 hS hL) (fun y1 h=>?_);obtain⟨L1,rfl,d⟩:=NH h;replace h:=d;refine DS hS Df (ys:=(fun (x:Int×(Sl Eg))=>[pI .i64 x.1,vSl 2 A1 x.2]) (0,y1)) (rest:=L1.map (fun (x:Int×(Sl Eg))=>[pI .i64 x.1,vSl 2 A1 x.2])) ?_ ?_
 .refine D9 hS Df (b:=false) (fun c1=>?_) (fun c1=>?_)
  .exact Bool.noConfusion ((rfl:false=false).symm.trans c1)
  refine RB hS Df h (fun x1 x2 L2=>⟨[(17,pN x2),(16,pN (q1.n:Int)),(15,.p (vSl 18 B5 q1)),(4,.p (vSl 2 A1 x1)),(0,.yf 2)],[(2,.yld (L2.map (fun (x:Int×(Sl Eg))=>[pI .i64 x.1,vSl 2 A1 x.2])) true),(1,.cells [.p (vSl 18 B5 q1)]),(0,.cells [.p (vSl 2 A1 q0)])]⟩) (ids:=[(0,0),(1,1),(2,2)]) (fun _ _ _ _ _ g x1 x2 L2 i h=>?_);apply kI hS h<;>intro h
  .obtain⟨c13,h⟩:=E8 h;obtain⟨y4,e4,h⟩:=B8 h;refine C0 hS [] (And.intro c13 (by decide:(18:Nat)<=18)) (Wg hS hL e4) ?_;refine D9 hS Df (b:=y4.2 != 0) (fun c14=>?_) (fun c14=>?_)
   .replace h:=itT c14 h;obtain⟨c0,h⟩:=E8 h;obtain rfl:=C7 h;have j:Aq4 c=some (.iface 210 (pI .i64 y4.2)):=by
     have:¬y4.2=0:=by simpa using c14
     rw[<- c0];simp[Aq4,this]
    refine AA2 hS Df (x:=.iface 210 (pI .i64 y4.2)) ?_;exact At4 hS Df (x:=.iface 210 (pI .i64 y4.2)) (objs:=[(.cells [.p (vSl 2 A1 q0)]),.cells [.p (vSl 18 B5 q1)],.yld [] true]) [0,1,2] ⟨true,rfl,rfl,fun _=>by rw[j];rfl,fun e=>nomatch e⟩
   replace h:=itF c14 h;obtain⟨L5,rfl,f⟩:=NH h;replace h:=f;refine DS hS Df (ys:=(fun (x:Int×(Sl Eg))=>[pI .i64 x.1,vSl 2 A1 x.2]) (wrap .i64 (x2+1),y4.1)) (rest:=L5.map (fun (x:Int×(Sl Eg))=>[pI .i64 x.1,vSl 2 A1 x.2])) ?_ ?_
   .refine D9 hS Df (b:=false) (fun c15=>?_) (fun c15=>?_)
    .exact Bool.noConfusion ((rfl:false=false).symm.trans c15)
    exact i _ [(0,0),(1,1),(2,2)] _ y4.1 (wrap .i64 (x2+1)) L5 Df h
   refine D9 hS Df (b:=true) (fun c16=>?_) (fun c16=>?_)
   .exact B3 hS Df (a:=.tup []) (objs:=[(.cells [.p (vSl 2 A1 q0)]),.cells [.p (vSl 18 B5 q1)],.yld [] false]) ⟨[],[(2,.yld [] false),(1,.cells [.p (vSl 18 B5 q1)]),(0,.cells [.p (vSl 2 A1 q0)])]⟩ [0,1,2] (ids:=[(0,0),(1,1),(2,2)]) ⟨false,rfl,rfl,fun e=>(nomatch e),fun _=>⟨_,rfl⟩⟩
   exact Bool.noConfusion ((rfl:true=true).symm.trans c16)
  obtain⟨c0,h⟩:=E8 h;obtain rfl:=C7 h;exact B3 hS Df (a:=.tup []) (objs:=[(.cells [.p (vSl 2 A1 q0)]),.cells [.p (vSl 18 B5 q1)],.yld [] true]) ⟨[],[(2,.yld [] true),(1,.cells [.p (vSl 18 B5 q1)]),(0,.cells [.p (vSl 2 A1 q0)])]⟩ [0,1,2] (ids:=[(0,0),(1,1),(2,2)]) ⟨true,rfl,rfl,fun _=>by subst c0;exact⟨_,rfl⟩,fun e=>(nomatch e)⟩
 refine D9 hS Df (b:=true) (fun c17=>?_) (fun c17=>?_)
 .exact B3 hS Df (a:=.tup []) (objs:=[(.cells [.p (vSl 2 A1 q0)]),.cells [.p (vSl 18 B5 q1)],.yld [] false]) ⟨[],[(2,.yld [] false),(1,.cells [.p (vSl 18 B5 q1)]),(0,.cells [.p (vSl 2 A1 q0)])]⟩ [0,1,2] (ids:=[(0,0),(1,1),(2,2)]) ⟨false,rfl,rfl,fun e=>(nomatch e),fun _=>⟨_,rfl⟩⟩
 exact Bool.noConfusion ((rfl:true=true).symm.trans c17)
def EU (N:Nat)(a:Sl Law)(b:Sl Eg):Option ((Sl Eg)×(Sl Law)):= some (b,a)
theorem ID {a:Sl Law}{b:Sl Eg}{y:(Sl Eg)×(Sl Law)}(h:EU N a b=some y) :FunO S IA [.p (vSl 18 B5 a),.p (vSl 2 A1 b)] [] (.clo S3 [] [.reg 0 0,.reg 1 0]) ([.cells [.p (vSl 2 A1 y.1)],.cells [.p (vSl 18 B5 y.2)]]) []:=by unfold EU at h;refine A6 hS Tryz.func161 ?_;obtain rfl:=C7 h;exact B3 hS Df ⟨[(4,.clo S3 [] [.reg 4000 0,.reg 3000 0])],[(4000,.cells [.p (vSl 2 A1 b)]),(3000,.cells [.p (vSl 18 B5 a)])]⟩ [4000,3000] (ids:=[(3000,3000),(4000,4000)]) ⟨rfl,rfl,rfl⟩
def O8 (N:Nat)(c:Int)(a:Sl Law)(d:Sl Eg):Option (Sl Eg):= (EU N a d).bind fun y1=>(CX N c y1.1 y1.2).bind fun L1=>X0 L1 (fun b (x1:Int×(Sl Eg)) (z1:Sl Eg)=>b x1.2) (fun (z1:Sl Eg)=>some z1) (Sl.nil:Sl Eg)
theorem KP {a:Sl Law}{b:Sl Eg}{y:Sl Eg}(h:O8 N 0 a b=some y) :FunO S J2 [.p (vSl 18 B5 a),.p (vSl 2 A1 b)] [] (.p (vSl 2 A1 y)) ([]) []:=by
 unfold O8 at h;refine A6 hS Tryz.func142 ?_;refine kC hS h (ID hS hL) (fun y1 h=>?_);obtain⟨L1,e2,h⟩:=B8 h;have f:NJ S S3 [] [.reg 0 0,.reg 1 0] [.cells [.p (vSl 2 A1 y1.1)],.cells [.p (vSl 18 B5 y1.2)]] (L1.map (fun (x:Int×(Sl Eg))=>[pI .i64 x.1,vSl 2 A1 x.2])) none:=GI hS hL e2;refine Xx hS Df [8000,8001] [4] 901 (fun z1=>⟨[(4,.reg 5000 0)],[(5000,.cells [.p (vSl 2 A1 z1)])]⟩) (idl:=[(5000,5000)]) h f (fun _=>by kernel_rfl) (fun _=>by kernel_rfl) (fun _=>by kernel_rfl) (fun _=>by kernel_rfl) (fun x1 _ c z1 d h=>?_) (fun z1 h=>?_)
 .refine JK hS Df ?_;exact d _ [(901,901),(5000,5000)] _ x1.2 Df h
 cases h;exact kR hS
theorem KQ {c:Int}{a:Sl Law}{b:Sl Eg}{y:Sl Eg}(hc:c≠0)(h:O8 N c a b=some y) :S.F J2 [.p (vSl 18 B5 a),.p (vSl 2 A1 b)] [] fun res o k=>res=.panic (.iface 210 (pI .i64 c))/\o=[]/\k=[]:=by
 unfold O8 at h;refine Aq0 hS Tryz.func142 ?_;refine kC hS h (ID hS hL) (fun y1 h=>?_);obtain⟨L1,e2,h⟩:=B8 h;have g:NJ S S3 [] [.reg 0 0,.reg 1 0] [.cells [.p (vSl 2 A1 y1.1)],.cells [.p (vSl 18 B5 y1.2)]] (L1.map (fun (x:Int×(Sl Eg))=>[pI .i64 x.1,vSl 2 A1 x.2])) (some (.iface 210 (pI .i64 c))):=by
  have:=GI hS hL e2
  simpa[Aq4,hc]using this
 refine Xx hS Df [8000,8001] [4] 901 (fun z1=>⟨[(4,.reg 5000 0)],[(5000,.cells [.p (vSl 2 A1 z1)])]⟩) (idl:=[(5000,5000)]) h g (fun _=>by kernel_rfl) (fun _=>by kernel_rfl) (fun _=>by kernel_rfl) (fun _=>by kernel_rfl) (fun x1 _ d z1 f h=>?_) (fun z1 h=>?_)
 .refine JK hS Df ?_;exact f _ [(901,901),(5000,5000)] _ x1.2 Df h
 exact At4 hS Df (x:=.iface 210 (pI .i64 c)) (objs:=[]) [] ⟨rfl,rfl,rfl⟩
def CY (N:Nat)(a:Sl Law)(b:Sl Eg):Option ((Sl Eg)×Bool):=
 match O8 N 0 a b with
 |some y=>some (y,true)
 |none=>(O8 N 11 a b).bind fun _=>some ((Sl.nil:Sl Eg),false)
theorem Ma {b:Sl Law}{c:Sl Eg}{y:(Sl Eg)×Bool}(h:CY N b c=some y) :FunO S GD [.p (vSl 18 B5 b),.p (vSl 2 A1 c)] [] (.tup [.p (vSl 2 A1 y.1),pB y.2]) ([]) []:=by
 unfold CY at h;refine A6 hS Tryz.func112 ?_;rcases e:O8 N 0 b c with _|z
 .rw[e]at h;obtain⟨z,e1,h⟩:=B8 h;obtain rfl:=C7 h;refine C0 hS [7000,3000,4000,5000] Df (hL.attP (KQ hS hL (by decide) e1)) ?_;refine Av hS Df [(0,.l [5000]),(1,.l [7000]),(3,.a [5000])] ?_;refine O0 Df ?_;exact B3 hS Df ⟨[(5,pB false),(4,.reg 5000 0)],[(5000,.cells [.p (vSl 2 A1 Sl.nil)])]⟩ [] (ids:=[(5000,5000)]) ⟨rfl,rfl,rfl⟩
 rw[e]at h;obtain rfl:=C7 h;refine C0 hS [7000,3000,4000,5000] Df (hL.attR (KP hS hL e)) ?_;refine Av hS Df [(0,.l [5000]),(1,.l [7000]),(3,.a [5000])] ?_;refine O0 Df ?_;exact B3 hS Df ⟨[(5,pB true),(4,.reg 5000 0)],[(5000,.cells [.p (vSl 2 A1 z)])]⟩ [] (ids:=[(5000,5000)]) ⟨rfl,rfl,rfl⟩
end Go.AM
namespace Go.AM
open Go.Proofs
set_option maxRecDepth 10000
set_option maxHeartbeats 2000000
variable {S:Q8}(hS:H1 S Tryz.prog) (hL:GL S)
include hS hL
def Eb (N:Nat)(a:Sl Law)(b:Sl Eg):Option ((Sl Eg)×Int):= (ET N a (Sl.of [b]:Sl (Sl Eg))).bind fun y1=>if (y1 != 0) then some ((Sl.nil:Sl Eg),y1) else (CY N a b).bind fun y2=>if (!y2.2) then some ((Sl.nil:Sl Eg),11) else some (y2.1,0)
theorem Ot {N:Nat}{a:Sl Law}{b:Sl Eg}{y:(Sl Eg)×Int}(h:Eb N a b=some y) :FunO S Hu [.p (vSl 18 B5 a),.p (vSl 2 A1 b)] [] (.tup [.p (vSl 2 A1 y.1),pN y.2]) ([]) []:=by
 unfold Eb at h;refine A6 hS Tryz.func78 ?_;refine DB hS (rfl:true=true) ⟨[(11,.vec 12000),(9,.p (vSl 18 B5 a)),(1,.p (vSl 2 A1 b)),(0,.p (vSl 18 B5 a))],[(12000,.vec T2 1 (Sl.of [b]:Sl (Sl Eg)).n (fun i=>cL 2 A1 ((Sl.of [b]:Sl (Sl Eg)).g i)) false)]⟩ (ids:=[(12000,12000)]) ?_ (hle:=klR [(3,.fn 1 (Sl.of [b]:Sl (Sl Eg)).n (D3 [G1] [(0,cL 2 A1 b)]) (fun i=>cL 2 A1 ((Sl.of [b]:Sl (Sl Eg)).g i)))] (al1 ⟨rfl,(fun i c=>match i,c with|0,_=>rfl|_+1,c=>Bc c (by omega))⟩ al0));refine kC hS h (Pu hS hL) (fun y1 h=>?_);apply kI hS h<;>intro h
 .obtain rfl:=C7 h;exact B3 hS Df ⟨[(5,pN y1),(4,.p (vSl 2 A1 (Sl.nil:Sl Eg)))],[]⟩ [] (ids:=[]) ⟨rfl,rfl,rfl⟩
 refine kC hS h (Ma hS hL) (fun y2 h=>?_);apply kI hS h<;>intro h
 .obtain rfl:=C7 h;exact B3 hS Df ⟨[(5,pN 11),(4,.p (vSl 2 A1 (Sl.nil:Sl Eg)))],[]⟩ [] (ids:=[]) ⟨rfl,rfl,rfl⟩
 cases h;exact kR hS
end Go.AM
