/- Part 6. -/
import Derived.Test.YtodhnkfgkgkngaaGreatDoorXD
import Derived.Test.YtodhnkfgkgkngaaGreatDoorXC
import Derived.RecoverIn
import Derived.Test.YtodhnkfgkgkngaaGreatDoorProg
import Derived.Lib.SlTrimSet
import Derived.TacticsInMore
import Derived.Test.YtodhnkfgkgkngaaGreatDoorXE
set_option linter.defProp false
set_option linter.unusedSimpArgs false
set_option linter.unusedVariables false
set_option linter.unusedSectionVars false
namespace Go.AM
abbrev Na:Sl Int:=Sl.nil
def L7:true=true:=rfl
def Kz:(18:Nat)<=18:=by decide
def Ky:(7:Nat)<=7:=by decide
def Kw:(2:Nat)<=2:=by decide
noncomputable abbrev Ai9:=Go.Proofs.Tryz.prog.funcs
theorem Di (D:List Deferred)(a:Act)(d:Option Tmp)(v:Value):(Kj D a).put d v=Kj D (a.put d v):=by cases d<;>rfl
theorem Gr {F:Fence}{n:Nat}{P:Program}{ops:Array Oper}{Q:Exit->Act->World->Prop}(D:List Deferred):∀(l:List Nat) (a:Act) (w:World),wpOpsIn F n P ops Q l a w ->
 wpOpsIn F n P ops (fun e a' w'=>∃a0,a' = Kj D a0/\Q e a0 w') l (Kj D a) w
 |[],a,w,h=>⟨a,rfl,h⟩
 |i::l,a,w,h=>by
  have ih:=Gr (F:=F) (n:=n) (P:=P) (ops:=ops) (Q:=Q) D l;simp only[wpOpsIn]at h⊢;have e1:(Kj D a).eval=a.eval:=by funext x;cases x<;>rfl
  have e2:(Kj D a).tmps=a.tmps:=rfl;cases j:ops[i]? with
  |none=>simp only[j]at h⊢;exact ih a w h
  |some o=>
   simp only[j]at h⊢;rw[e2,e1];by_cases hw:Region.wanted o (yielded ops a.tmps)=true
   .rw[Jl hw]at h⊢;refine⟨by rw[e1];exact h.1,?_⟩;have b:=h.2;rw[e1];generalize (o.semAt F.round a.eval).run P w=r at b;unfold Oper.uponIn at b⊢;split at b
    .rw[Di];exact ih _ _ b
    .rw[Di];exact ih _ _ b
    .exact ih _ _ b |> fun x=>by
      rename_i d w'
      have:({ (Kj D a)with defers:=d::(Kj D a).defers }:Act).put o.dst undef=Kj D (({ a with defers:=d::a.defers }:Act).put o.dst undef):=by rw[<- Di];rfl
      rw[this];exact x
    .refine⟨b.1,b.2.mono ?_⟩;intro e w' f;cases e with
     |returned v=>have:=ih _ _ f;rw[<- Di]at this;exact this
     |panicked ch=>exact⟨a,rfl,f⟩
     |outgrown=>obtain⟨a1,w1,g⟩:=f;exact⟨Kj D a1,w1,a1,rfl,g⟩
    .refine⟨b.1,fun c cs m=>?_⟩;obtain⟨v,w',g1,g2⟩:=b.2 c cs m;exact⟨v,w',by have:=ih _ _ g1;rw[<- Di]at this;exact this,g2⟩
    .refine⟨b.1,b.2.mono ?_⟩;intro e w' f;cases e with
     |returned v=>have:=ih _ _ f;rw[<- Di]at this;exact this
     |panicked ch=>exact⟨a,rfl,f⟩
     |outgrown=>obtain⟨a1,w1,g⟩:=f;exact⟨Kj D a1,w1,a1,rfl,g⟩
    .exact⟨a,rfl,b⟩
    exact b.elim
   rw[Jm hw]at h⊢;rw[Di];exact⟨h.1,ih _ _ h.2⟩
section
variable {P:Program}{C:Ctx}{st:St}{rho:Nat->Value}
theorem Dj {fn:Func}{R:Ending->World->Prop}{u:FrameMode}(c:u ≠ .run){tmps:Array Value}{D:List Deferred}(b:∀a w,Sat C st a w rho->a.tmps=tmps->LeavesInM Fence.wide 0 P fn tmps R D u w) :∀(ds:List Deferred) (a:Act) (w:World),a.defers=ds->a.tmps=tmps->Sat C st a w rho->LeavesInM Fence.wide 0 P fn tmps R (ds++D) u w
 |[],a,w,hd,ht,h=>b a w h ht
 |d::ds,a,w,hd,ht,h=>by obtain⟨r,w',h1,f,g⟩:=h.unmark hd;exact⟨c,.inl ⟨r,w',h1,f,Dj c b ds { a with defers:=ds } w' rfl ht g⟩⟩
end
end Go.AM
namespace Go.AM
structure G2 where
 Parent:Int
 Name:Str
 deriving Inhabited,DecidableEq
abbrev B0 (x:G2):List PV:=[(pI .i64 x.Parent),.str x.Name]
structure Nd where
 Plus:Int
 Minus:Int
 deriving Inhabited,DecidableEq
abbrev A0 (x:Nd):List PV:=[(pI .u32 x.Plus),pI .u32 x.Minus]
inductive Pat where
 |nil
 |mk (Kind:Int) (Is:Nd) (Not:Bool) (Min:Int) (Max:Int) (n:Nat) (g:Nat->Pat)
instance:Inhabited Pat:=⟨.nil⟩
def Pat.Kind:Pat->Int
 |.nil=>0
 |.mk x _ _ _ _ _ _=>x
def Pat.Is:Pat->Nd
 |.nil=>default
 |.mk _ x _ _ _ _ _=>x
def Pat.Not:Pat->Bool
 |.nil=>false
 |.mk _ _ x _ _ _ _=>x
def Pat.Min:Pat->Int
 |.nil=>0
 |.mk _ _ _ x _ _ _=>x
def Pat.Max:Pat->Int
 |.nil=>0
 |.mk _ _ _ _ x _ _=>x
def Pat.L:Pat->Sl Pat
 |.nil=>⟨0,fun _=>.nil⟩
 |.mk _ _ _ _ _ n g=>⟨n,g⟩
def Z6:Pat->Nat->List PV
 |.nil=>fun _=>[]
 |.mk _ _ _ _ _ n g=>fun i=>[(pI .i64 (g i).Kind),pI .u32 (g i).Is.Plus,pI .u32 (g i).Is.Minus,.bb (g i).Not,pI .i64 (g i).Min,pI .i64 (g i).Max,.sl false 7 (g i).L.n (Z6 (g i))]
abbrev B1 (x:Pat):List PV:=[(pI .i64 x.Kind),pI .u32 x.Is.Plus,pI .u32 x.Is.Minus,.bb x.Not,pI .i64 x.Min,pI .i64 x.Max,.sl false 7 x.L.n (Z6 x)]
def N1 (x:Pat):∀i,i<x.L.n->Z6 x i=B1 (x.L.g i):=by
 cases x with
 |nil=>intro i a;exact Jo (show i<0 from a) (by omega)
 |mk Kind Is Not Min Max n g=>exact fun _ _=>rfl
structure Z7 where
 From:Int
 Clear:Int
 Set:Nd
 Take:Int
 Of:Int
 deriving Inhabited,DecidableEq
abbrev O2 (x:Z7):List PV:=[(pI .i64 x.From),pI .u32 x.Clear,pI .u32 x.Set.Plus,pI .u32 x.Set.Minus,pI .u32 x.Take,pI .i64 x.Of]
structure Law where
 Name:Str
 Left:Pat
 Right:Pat
 If:(Sl Nd)
 Out:(Sl Z7)
 Mode:Int
 deriving Inhabited
abbrev A7 (x:Law):List PV:=[(.str x.Name),pI .i64 x.Left.Kind,pI .u32 x.Left.Is.Plus,pI .u32 x.Left.Is.Minus,.bb x.Left.Not,pI .i64 x.Left.Min,pI .i64 x.Left.Max,.sl false 7 x.Left.L.n (Z6 x.Left),pI .i64 x.Right.Kind,pI .u32 x.Right.Is.Plus,pI .u32 x.Right.Is.Minus,.bb x.Right.Not,pI .i64 x.Right.Min,pI .i64 x.Right.Max,.sl false 7 x.Right.L.n (Z6 x.Right),vSl 2 A0 x.If,vSl 6 O2 x.Out,pI .i64 x.Mode]
structure A5 where
 Tree:(Sl G2)
 Laws:(Sl Law)
 On:(Sl (Sl Int))
 deriving Inhabited
abbrev A2 (x:A5):List PV:=[(vSl 2 B0 x.Tree),vSl 18 A7 x.Laws,vSl 1 (cL 1 (cI .i64)) x.On]
structure P6 where
 w:(Sl Nd)
 e:Int
 deriving Inhabited
abbrev I2 (x:P6):List PV:=[(vSl 2 A0 x.w),pI .i64 x.e]
inductive Part where
 |nil
 |sound (x:Nd) (no:Bool)
 |edge (e:Bool)
 |seq (n:Nat) (g:Nat->Part)
 |alt (n:Nat) (g:Nat->Part)
 |rep (o:Part) (mn mx:Int)
instance:Inhabited Part:=⟨.nil⟩
def Part.t:Part->Nat
 |.nil=>0
 |.sound _ _=>221
 |.edge _=>223
 |.seq _ _=>228
 |.alt _ _=>225
 |.rep _ _ _=>227
def Part.v:Part->PV
 |.nil=>.bb false
 |.sound x no=>.agg [pI .u32 x.Plus,pI .u32 x.Minus,.bb no]
 |.edge e=>.agg [.bb e]
 |.seq n g=>.agg [.sl false 1 n fun i=>[.iface (g i).t (g i).v]]
 |.alt n g=>.agg [.sl false 1 n fun i=>[.iface (g i).t (g i).v]]
 |.rep o mn mx=>.agg [.iface o.t o.v,pI .i64 mn,pI .i64 mx]
abbrev Ec (x:Part):PV:=.iface x.t x.v
abbrev CK (x:Part):List PV:=[Ec x]
structure VB where
 is:Nd
 not:Bool
 deriving Inhabited,DecidableEq
abbrev Sn (x:VB):List PV:=[(pI .u32 x.is.Plus),pI .u32 x.is.Minus,.bb x.not]
structure ZW where
 end_:Bool
 deriving Inhabited,DecidableEq
abbrev ZX (x:ZW):List PV:=[(.bb x.end_)]
structure Palt where
 l:(Sl Part)
 deriving Inhabited
abbrev Ag6 (x:Palt):List PV:=[(vSl 1 CK x.l)]
structure Prep where
 of:Part
 min:Int
 max:Int
 deriving Inhabited
abbrev Ag7 (x:Prep):List PV:=[(Ec x.of),pI .i64 x.min,pI .i64 x.max]
structure Pseq where
 l:(Sl Part)
 deriving Inhabited
abbrev Ag8 (x:Pseq):List PV:=[(vSl 1 CK x.l)]
end Go.AM
namespace Go.AM
open Go.Proofs
abbrev Y3:Nat:=5
abbrev Jg:Nat:=12
abbrev Jh:Nat:=13
abbrev HE:Nat:=14
abbrev Ed:Nat:=16
abbrev DJ:Nat:=18
abbrev Jj:Nat:=20
abbrev Jk:Nat:=21
abbrev EW:Nat:=23
abbrev Hf:Nat:=25
abbrev LL:Nat:=26
abbrev Cg:Nat:=27
abbrev LM:Nat:=28
abbrev Ee:Nat:=30
abbrev Gs:Nat:=31
abbrev Ef:Nat:=32
abbrev EY:Nat:=33
abbrev Jn:Nat:=34
abbrev VC:Nat:=35
abbrev VD:Nat:=36
abbrev Gt:Nat:=47
abbrev Eg:Nat:=48
abbrev VE:Nat:=49
abbrev Jp:Nat:=54
abbrev LN:Nat:=55
abbrev LO:Nat:=56
abbrev LP:Nat:=57
abbrev Eh:Nat:=58
abbrev EZ:Nat:=59
abbrev Gu:Nat:=60
abbrev Fa:Nat:=61
abbrev LQ:Nat:=63
abbrev Gv:Nat:=65
abbrev F7:Nat:=66
abbrev HF:Nat:=69
abbrev HG:Nat:=70
abbrev G9:Nat:=72
abbrev DK:Nat:=73
abbrev V8:Nat:=74
abbrev Jr:Nat:=76
abbrev HH:Nat:=78
abbrev Ei:Nat:=79
abbrev Gw:Nat:=80
abbrev Fb:Nat:=81
abbrev DL:Nat:=82
abbrev P9:Nat:=83
abbrev EJ:Nat:=84
abbrev Jt:Nat:=85
abbrev Ju:Nat:=86
abbrev LR:Nat:=87
abbrev Bd:Nat:=88
abbrev Dk:Nat:=89
abbrev Y9:Nat:=90
abbrev HI:Nat:=93
abbrev J9:Nat:=94
abbrev Jw:Nat:=95
abbrev T3:Nat:=96
abbrev N6:Nat:=97
abbrev Gx:Nat:=98
abbrev LT:Nat:=99
abbrev Gy:Nat:=100
abbrev Gz:Nat:=101
abbrev Jx:Nat:=102
abbrev HJ:Nat:=103
abbrev H2:Nat:=104
abbrev I5:Nat:=105
abbrev HK:Nat:=106
abbrev Ej:Nat:=107
abbrev Fc:Nat:=108
abbrev H5:Nat:=109
abbrev O5:Nat:=110
abbrev G8:Nat:=111
abbrev V9:Nat:=112
abbrev LU:Nat:=113
abbrev LW:Nat:=114
abbrev Jz:Nat:=115
abbrev JA:Nat:=116
abbrev LX:Nat:=117
abbrev Be:Nat:=118
abbrev Cj:Nat:=120
abbrev Fd:Nat:=121
abbrev K5:Nat:=122
abbrev I3:Nat:=123
abbrev K0:Nat:=124
abbrev GA:Nat:=125
abbrev I6:Nat:=126
abbrev DN:Nat:=127
abbrev Fe:Nat:=128
abbrev HL:Nat:=129
abbrev EK:Nat:=130
abbrev HM:Nat:=141
abbrev D5:Nat:=142
abbrev K3:Nat:=143
abbrev N2:Nat:=144
abbrev JB:Nat:=145
abbrev LY:Nat:=146
abbrev JC:Nat:=152
abbrev JD:Nat:=160
abbrev Pc:Nat:=161
abbrev Dl:Nat:=169
abbrev LZ:Nat:=170
abbrev J4:Nat:=171
abbrev Pd:Nat:=172
abbrev Pe:Nat:=173
abbrev GB:Nat:=174
abbrev BU:Nat:=181
abbrev HN:Nat:=182
abbrev CL:Nat:=183
abbrev G5:Nat:=184
abbrev Ff:Nat:=185
abbrev HO:Nat:=186
abbrev P1:Nat:=192
abbrev GC:Nat:=193
abbrev JE:Nat:=194
abbrev JF:Nat:=195
abbrev JG:Nat:=196
abbrev GD:Nat:=203
abbrev GE:Nat:=204
abbrev AX:Nat:=205
abbrev Fg:Nat:=206
abbrev El:Nat:=207
abbrev Av:Nat:=208
abbrev O9:Nat:=209
abbrev W9:Nat:=210
abbrev M0:Nat:=211
abbrev AC:Nat:=227
abbrev BA:Nat:=228
abbrev Ck:Nat:=229
abbrev Dm:Nat:=230
abbrev BV:Nat:=231
abbrev Dn:Nat:=232
abbrev En:Nat:=233
abbrev U7:Nat:=234
abbrev Dp:Nat:=235
abbrev B2:Nat:=3
abbrev YL:Nat:=4
abbrev Dq:Nat:=9
abbrev Nn:Nat:=26
abbrev B4:Nat:=27
abbrev B6:Nat:=48
abbrev B5:Nat:=51
abbrev CM:Nat:=54
abbrev D9:Nat:=57
abbrev F2:Nat:=58
abbrev E6:Nat:=96
abbrev Pj:Nat:=114
abbrev QR:Nat:=214
end Go.AM
namespace Go.AM
abbrev U (x:BitVec 64):Int:=(x.toNat:Int)
end Go.AM
namespace Go.AM
open Go.Proofs.Tryz
variable {N:Nat}
open Go.Proofs
abbrev XT:List AV:=[.reg 0 0,.reg 1 0,.reg 2 0,.reg 3 0]
abbrev QS (c:Int)(a:Sl Law)(b:Sl Nd)(y:PV):List Obj:=[.cells [pN c],.cells [.p (vSl 18 A7 a)],.cells [.p (vSl 2 A0 b)],.cells [.p y]]
structure Ip (S:Q8):Prop where
 attR:∀{a:Sl Law}{b y:Sl Nd},FunO S G8 [.p (vSl 18 A7 a),.p (vSl 2 A0 b)] [] (.p (vSl 2 A0 y)) [] []->FunO S H5 XT (QS 0 a b E3) (.tup []) (QS 0 a b (vSl 2 A0 y)) [true,true,true,true]
 attP:∀{a:Sl Law}{b:Sl Nd}{c:Int},(S.F G8 [.p (vSl 18 A7 a),.p (vSl 2 A0 b)] [] fun res o k=>res=.panic (.iface 149 (pI .i64 c))/\o=[]/\k=[])->FunO S H5 XT (QS 0 a b E3) (.tup []) (QS c a b E3) [true,true,true,true]
 tz:∀x:BitVec 64,WL S M0 [.p (pI .u64 (U x))] (.p (pI .i64 (Lib.ctz 64 x.toNat:Nat)))
 trim:∀s c:Str,s.length<1000000000000->c.length<1000000->(∀b∈c,b.toNat<128)->WL S Cj [.p (.str s),.p (.str c)] (.p (.str (Lib.trimS s c)))
 growS:∀(f:Nat->List PV) (n:Nat),n*8<=140737488355328->FunO S G5 [.p E3,.p (pI .i64 (n:Int))] [] (.vec 0) [.vec B5 2 0 f false] []
def R5 (N:Nat)(x:Int):Option Int:=if 0<=x/\x<18446744073709551616 then some ((Lib.ctz 64 x.toNat:Nat):Int)else none
def Cl (N:Nat)(s c:Str):Option Str:=if s.length<1000000000000/\c.length<1000000/\(c.all fun b=>decide (b.toNat<128)) then some (Lib.trimS s c)else none
def K6 (N:Nat)(n:Int):Option (Sl Nd):=if 0<=n/\n*8<=140737488355328 then some (Sl.nil:Sl Nd)else none
section
variable {S:Q8}(Z:F5 S Tryz.prog) (Y:Ip S)
include Z Y
theorem BB {x y:Int}(h:R5 N x=some y):FunO S M0 [.p (pI .u64 x)] [] (.p (pI .i64 y)) [] []:=by
 obtain⟨⟨a,h1⟩,h⟩:=E2 h;obtain rfl:=C6 h
 have:=Y.tz (BitVec.ofNat 64 x.toNat)
 have e:(BitVec.ofNat 64 x.toNat).toNat=x.toNat:=by rw[BitVec.toNat_ofNat];omega
 have e2:U (BitVec.ofNat 64 x.toNat)=x:=by show ((BitVec.ofNat 64 x.toNat).toNat:Int)=x;rw[e];omega
 rw[e,e2]at this;exact this
theorem KK {s c:Str}{y:Str}(h:Cl N s c=some y):FunO S Cj [.p (.str s),.p (.str c)] [] (.p (.str y)) [] []:=by obtain⟨⟨a,h1,d⟩,h⟩:=E2 h;obtain rfl:=C6 h;exact Y.trim s c a h1 fun b hb=>by simpa using List.all_eq_true.1 d b hb
theorem W2 {n:Int}{y:Sl Nd}(h:K6 N n=some y):FunO S G5 [.p E3,.p (pI .i64 n)] [] (.vec 0) [.vec B5 2 y.n (fun i=>A0 (y.g i)) false] []:=by
 obtain⟨⟨a,h1⟩,h⟩:=E2 h;obtain rfl:=C6 h
 have:=Y.growS (fun i=>A0 default) n.toNat (by omega)
 rw[show ((n.toNat:Nat):Int)=n by omega]at this;exact this
def A8 (N:Nat)(s:Sl Nd):Option (Sl Nd):=if (0+s.n)*8<=140737488355328/\0+s.n<=140737488355328 then some s else none
theorem F8 {s y:Sl Nd}(h:A8 N s=some y):FunO S F7 [.p (vSl 2 A0 s)] [] (.vec 0) [.vec B5 2 y.n (fun i=>A0 (y.g i)) true] []:=by
 unfold A8 at h;obtain⟨c1,h⟩:=E2 h;obtain rfl:=C6 h;refine A4 Z func66 ?_;refine Tt Z Jy 3 (k:=2) (n:=s.n) (f:=fun i=>A0 (s.g i)) (fun a=>?_) ?_
 .obtain⟨n,g⟩:=s;obtain rfl:n=0:=a;exact A9 Z Jy ⟨[(2,.vec 3700)],[(3700,.vec B5 2 0 (fun i=>A0 (g i)) true)]⟩ [3700] (ids:=[]) ⟨rfl,rfl,rfl⟩
 exact A9 Z (And.intro L7 c1) ⟨[(2,.vec 8000)],[(8000,.vec B5 2 s.n (fun i=>A0 (s.g i)) true)]⟩ [8000] (ids:=[(8000,8000)]) ⟨rfl,rfl,rfl⟩
  (hle:=klR [(0,.fn (0+s.n) s.n (U3 0 (E5 [pI .u32 0,pI .u32 0] []) (fun i=>A0 (s.g i))) (fun i=>A0 (s.g i)))] (al1 ⟨Nat.zero_add _,fun i _=>by simp[U3]⟩ al0))
def E7 (N:Nat)(s:Sl Z7):Option (Sl Z7):=if (0+s.n)*32<=140737488355328/\0+s.n<=140737488355328 then some s else none
theorem T6 {s y:Sl Nd}(h:A8 N s=some y):FunO S F7 [.p (vSl 2 A0 s)] [] (.p (vSl 2 A0 y)) [] []:=by
 unfold A8 at h;obtain⟨c1,h⟩:=E2 h;obtain rfl:=C6 h;refine A4 Z func66 ?_;refine Tt Z Jy 3 (k:=2) (n:=s.n) (f:=fun i=>A0 (s.g i)) (fun a=>?_) ?_
 .obtain⟨n,g⟩:=s;obtain rfl:n=0:=a;exact A9 Z Jy ⟨[(2,.p (vSl 2 A0 ⟨0,g⟩))],[]⟩ [] (ids:=[]) ⟨rfl,rfl,rfl⟩
 exact A9 Z (And.intro L7 c1) ⟨[(2,.p (vSl 2 A0 s))],[]⟩ [] (ids:=[]) ⟨rfl,rfl,rfl⟩
  (hle:=klR [(0,.fn (0+s.n) s.n (U3 0 (E5 [pI .u32 0,pI .u32 0] []) (fun i=>A0 (s.g i))) (fun i=>A0 (s.g i)))] (al1 ⟨Nat.zero_add _,fun i _=>by simp[U3]⟩ al0))
theorem Y2 {s y:Sl Z7}(h:E7 N s=some y):FunO S N6 [.p (vSl 6 O2 s)] [] (.p (vSl 6 O2 y)) [] []:=by
 unfold E7 at h;obtain⟨c1,h⟩:=E2 h;obtain rfl:=C6 h;refine A4 Z func97 ?_;refine Tt Z Jy 3 (k:=6) (n:=s.n) (f:=fun i=>O2 (s.g i)) (fun a=>?_) ?_
 .obtain⟨n,g⟩:=s;obtain rfl:n=0:=a;exact A9 Z Jy ⟨[(2,.p (vSl 6 O2 ⟨0,g⟩))],[]⟩ [] (ids:=[]) ⟨rfl,rfl,rfl⟩
 exact A9 Z (And.intro L7 c1) ⟨[(2,.p (vSl 6 O2 s))],[]⟩ [] (ids:=[]) ⟨rfl,rfl,rfl⟩
  (hle:=klR [(0,.fn (0+s.n) s.n (U3 0 (E5 [pI .i64 0,pI .u32 0,pI .u32 0,pI .u32 0,pI .u32 0,pI .i64 0] []) (fun i=>O2 (s.g i))) (fun i=>O2 (s.g i)))] (al1 ⟨Nat.zero_add _,fun i _=>by simp[U3]⟩ al0))
end
end Go.AM
set_option maxRecDepth 100000
namespace Go.AM
open Go.Proofs.Tryz
open Go.Proofs
def TO (v:Value)(w:World):(Instr.typeAssert (.iface 149 v) 20 149 true).run Tryz.prog w=.ok (.tuple #[v,.bool true]) w:=by kernel_rfl
def QT (p:Value)(w:World):CallsDIn Fence.wide 0 Tryz.prog O5 #[p] .returning w fun e u' w'=>e=.returned (.tuple #[])/\u' = .returning/\w' = w:=by
 refine callsDIn_of_wpSIn func110 rfl (by simp[Fence.wide]) fun c₀ cs a=>?_;apply wpSIn_seq;apply wpSIn_region;simp[wpOpsSIn,go_sem,recoverD,a,f110,Exit.thenS];refine wpSIn_of_wpIn rfl (wpIn_block (wpIn_seq (wpIn_region ?_)));simp[wpOpsIn,Oper.wpIn,Oper.semAt,Oper.uponIn,go_sem,Exit.then];refine wpIn_cond (t:=true) (by simp[Act.eval]) ?_;simp only[Jq];refine wpIn_region ?_;simp[wpOpsIn,Oper.wpIn,Oper.semAt,Oper.uponIn,go_sem,Exit.inBlock,bodyPostS,results];cases c₀
 simp_all
def Ib (p:Value)(c:Int)(older:List PanicEntry)(w w1:World)(a:(Instr.storeAt 30 p (.int .i64 c)).run Tryz.prog w=.ok () w1)(hn:∃b,p=.pointer (some b)) :CallsDIn Fence.wide 0 Tryz.prog O5 #[p] (.panicking ({ v:=.iface 149 (.int .i64 c),recovered:=false }::older)) w fun e u' w'=>
  e=.returned (.tuple #[])/\u' = .panicking ({ v:=.iface 149 (.int .i64 c),recovered:=true }::older)/\w' = w1:=by
 obtain⟨b,rfl⟩:=hn;refine callsDIn_of_wpSIn func110 rfl (by simp[Fence.wide]) fun c₀ cs d=>?_;apply wpSIn_seq;apply wpSIn_region;simp[wpOpsSIn,go_sem,recoverD,d,f110,Exit.thenS];refine wpSIn_of_wpIn rfl (wpIn_block (wpIn_seq (wpIn_region ?_)));simp[wpOpsIn,Oper.wpIn,Oper.semAt,Oper.uponIn,go_sem,Exit.then];refine wpIn_cond (t:=false) (by simp[Act.eval]) ?_;simp only[Bool.false_eq_true,Js];refine wpIn_seq (wpIn_region ?_);simp[wpOpsIn,Oper.wpIn,Oper.semAt,Oper.uponIn,go_sem,Exit.then,TO];refine wpIn_cond (t:=true) (by simp[Act.eval]) ?_;simp only[Jq];refine wpIn_seq (wpIn_region ?_);simp[wpOpsIn,Oper.wpIn,Oper.semAt,Oper.uponIn,go_sem,Exit.then];refine wpIn_region ?_;simp[wpOpsIn,Oper.wpIn,Oper.semAt,Oper.uponIn,go_sem,a,Exit.inBlock,bodyPostS,results];simp[go_sem]at a;rw[a];simp[Result.andThen]
noncomputable def Ab4:Code:=match Tryz.f109.body with
 |some (.seq _ c)=>c
 |_=>.skip
def Aa1 {S:Q8}(Z:F5 S Tryz.prog){a:Sl Law}{b y:Sl Nd}(c:FunO S G8 [.p (vSl 18 A7 a),.p (vSl 2 A0 b)] [] (.p (vSl 2 A0 y)) [] []) :KG S Tryz.prog (LI S (fun st=>I9 [0,1,2,3] st.regs [0,1,2,3]=some (QS 0 a b (vSl 2 A0 y))) fun _ _=>False) (.code Ab4 [] ⟨argEnv XT,objRegs (QS 0 a b E3)⟩):=by refine B9 Z [] Jy c ?_;exact K_upN Z Jy ⟨[],[(3,.cells [.p (vSl 2 A0 y)]),(2,.cells [.p (vSl 2 A0 b)]),(1,.cells [.p (vSl 18 A7 a)]),(0,.cells [pN 0])]⟩ (ids:=[(0,0),(1,1),(2,2),(3,3)]) rfl
def VJ {S:Q8}(Z:F5 S Tryz.prog){a:Sl Law}{b:Sl Nd}{c:Int}(d:S.F G8 [.p (vSl 18 A7 a),.p (vSl 2 A0 b)] [] fun res o k=>res=.panic (.iface 149 (pI .i64 c))/\o=[]/\k=[]) :KG S Tryz.prog (LI S (fun _=>False) fun x st=>x=.iface 149 (pI .i64 c)/\store Tryz.prog st.regs 30 (.reg 0 0) (.p (pI .i64 c))=some ([],ins 0 (.cells [pN c]) st.regs)/\I9 [0,1,2,3] (ins 0 (.cells [pN c]) st.regs) [0,1,2,3]=some (QS c a b E3)) (.code Ab4 [] ⟨argEnv XT,objRegs (QS 0 a b E3)⟩):=by refine ZU Z [] Jy d ?_;exact K_upP Z Jy ⟨rfl,by kernel_rfl,by kernel_rfl⟩
noncomputable def att1:Code:=match Tryz.f109.body with
 |some (.seq c _)=>c
 |_=>.skip
noncomputable def attOps:Array Oper:=match Ab4 with
 |.region _ ops _=>ops
 |_=>#[]
def So:Ab4=.region 1 attOps false:=by kernel_rfl
def Ag9:attOps.toList.all (ER 7 attOps.toList)=true:=by kernel_rfl
def XU:¬Tryz.f109.name = "runtime.NumGoroutine" := by decide +kernel
def Sp:Tryz.f109.body=some (.seq att1 Ab4):=by kernel_rfl
def Aa2 {C:Ctx}{vs:Array Value}{w:World}{rho:Nat->Value}{args:List AV}{objs:List Obj}{n:Nat}(Z:Sat C ⟨argEnv args,objRegs objs⟩ ⟨vs,[]⟩ w rho)(a:vs.size=args.length) :Sat C ⟨argEnv args,objRegs objs⟩ { tmps:=vs++Array.replicate n undef,defers:=[] } w rho:=by
 refine⟨Z.toSatE,fun t=>?_,Z.pin,Z.marks⟩
 have:=Z.env t
 by_cases ht:t<vs.size
 .simpa[Array.getD_eq_getD_getElem?,Array.getElem?_append,ht]using this
 show RepA w _ _ _ _ (get (argEnv args) t);rw[T1,List.getD_eq_getElem?_getD,List.getElem?_eq_none (by omega)];exact .top _
def JK {R:St->Prop}{X:PV->St->Prop}{a:Sl Law}{b:Sl Nd}{objs' : List Obj}
 (a1:KG (EM Tryz.prog) Tryz.prog (LI (EM Tryz.prog) R X) (.code Ab4 [] ⟨argEnv XT,objRegs (QS 0 a b E3)⟩))
 (hR:∀st,R st->I9 [0,1,2,3] st.regs [0,1,2,3]=some objs')
 (hX:∀x st,X x st->∃c regs',x=.iface 149 (pI .i64 c)/\store Tryz.prog st.regs 30 (.reg 0 0) (.p (pI .i64 c))=some ([],regs')/\I9 [0,1,2,3] regs' [0,1,2,3]=some objs') :
 FunO (EM Tryz.prog) H5 XT (QS 0 a b E3) (.tup []) objs' [true,true,true,true]:=by
 intro 𝒢 C w vs rho hG Z t;obtain⟨l⟩:=vs
 match l,t with
 |[v0,v1,v2,v3],t=>?_
 refine⟨.enter H5 #[v0,v1,v2,v3],w,by simp[callFunc,func109,Sp,XU],?_⟩;refine callsIn_of_wp_marks func109 Sp Jy ?_;have a2:=Aa2 (n:=Tryz.f109.ntmps-4) Z t;have a9:Tryz.f109.ntmps-4=3:=rfl;rw[a9]at a2;have b1:((#[v0,v1,v2,v3]:Array Value)++Array.replicate 3 undef).size=7:=rfl;have hw:GR (EM Tryz.prog) Tryz.prog attOps.toList attOps.toList (LI (EM Tryz.prog) R X) ⟨argEnv XT,objRegs (QS 0 a b E3)⟩:=by
  have:=a1.out
  rw[So]at this;simpa only[G,awp,kp,Bool.false_eq_true,Js]using this
 have a4:=IP (𝒢:=𝒢.fix C.rho0) (n:=7) (ro:=none) (ops:=attOps) Ag9 attOps.toList 0 rfl (by simp) ⟨hG,rfl⟩ a2 b1 hw;have a5:=Gr [{ target:=.fn (.func O5) #[],args:=#[v0] }] _ _ _ a4;rw[List.drop_zero]at a5;obtain⟨b0,a6,u⟩:∃b0,v0=.pointer (some ⟨b0,0,none⟩)/\rho 0=.pointer (some ⟨b0,0,none⟩):=by
  have h0:RepA w _ _ rho v0 (.reg 0 0):=Z.env 0;cases h0 with
  |reg _ _ b0 _ h=>exact⟨b0,rfl,h⟩
 have s:∀{C' : Ctx}{st' : St}{a' : Act}{w' : World}{rho' : Nat->Value},(𝒢.fix C.rho0).G C' -> Sat C' st' a' w' rho' -> I9 [0,1,2,3] st'.regs [0,1,2,3]=some objs' ->
  LeavesInM Fence.wide 0 Tryz.prog f109 a'.tmps (fun e w'=>∃C' r objs0 ks rho', 𝒢.G C' /\ (r=.ret (.tup [])/\objs0=objs' /\ ks=[true,true,true,true])/\SatE C' (objRegs objs0) w' rho' /\
   Yx w' (Prv C'.X (A1 (objRegs objs0)) rho') (Lv (A1 (objRegs objs0))) rho' e r/\∀i:Nat,ks[i]? = some true->i<objs0.length/\rho' i=rho i) [] .returning w':=by
  intro C' st' a' w' rho' d f m;obtain⟨g1,g2,g3⟩:=IQ f (by decide) m;obtain⟨hl,hg⟩:=T2 m;refine⟨.tuple #[],by simp[results,f109],C', .ret (.tup []),objs',_,_,d.1,⟨rfl,rfl,rfl⟩,g1,⟨_,rfl,.tup _ _ rfl fun i hi=>Jo hi (by simp)⟩,?_⟩;intro i hi;have y:i<4:=by
   have:=(List.getElem?_eq_some_iff.1 hi).1
   simpa using this
  refine⟨by rw[hl];exact y,?_⟩;have e1:[0,1,2,3][i]? = some i:=by
   match i,y with
   |0,_=>rfl
   |1,_=>rfl
   |2,_=>rfl
   |3,_=>rfl
  obtain⟨o,_,ho,_⟩:=hg i i e1;show rho' ([0,1,2,3].getD i 0)=rho i;rw[AK e1,f.pin i (by omega) (by simp[Lv,ho]),d.2];refine (Z.pin i (by omega) ?_).symm;rw[Lv,C9]
  match i,y with
  |0,_=>rfl
  |1,_=>rfl
  |2,_=>rfl
  |3,_=>rfl
 generalize hQ:bodyPostM _ _ _ _ _=QQ;refine wpIn_seq ?_;simp only[att1,f109];refine wpIn_region ?_;simp[wpOpsIn,Oper.wpIn,Oper.semAt,Oper.uponIn,go_sem,Exit.then];subst hQ;rw[So];refine wpIn_mono (wpIn_region (F:=FW none) a5) ?_;rintro e a' w' ⟨a0,rfl,z⟩;cases e with
 |exit id=>obtain⟨_,_,_,_,_,_,h⟩:=z;exact h.elim
 |goto l=>obtain⟨_,_,_,_,_,_,h⟩:=z;exact h.elim
 |ret=>obtain⟨_,_,_,_,_,_,h⟩:=z;exact h.elim
 |outgrown=>exact z.elim
 |normal=>
  obtain⟨C',st',rho',d,f,a7,hu⟩:=z;obtain⟨st2,rho2,hR2,_,hs2⟩:=hu C' a0 w' rho' f;refine Dj (C:=C') (st:=st2) (rho:=rho2) (by simp) ?_ a0.defers a0 w' rfl rfl hs2;intro a3 w3 q ht;refine⟨by simp,.inr ⟨by simp[Fence.wide],_,_,O5,#[v0],rfl,by simp[go_sem],fun _ _=>trivial,?_⟩⟩;refine (QT v0 w3).mono ?_;rintro e u' w4 ⟨rfl,rfl,rfl⟩
  have:=s d q (hR st2 hR2)
  rw[ht]at this;exact this
 |panic chain=>
  obtain⟨C',st',rho',v,x,rfl,d,f,a7,hv,hXx⟩:=z;obtain⟨c,regs',rfl,g,m⟩:=hX x st' hXx;obtain rfl:v=.iface 149 (.int .i64 c):=by
   cases hv with
   |iface _ _ _ h=>cases h;rfl
  refine Dj (C:=C') (st:=st') (rho:=rho') (by simp) ?_ a0.defers a0 w' rfl rfl f;intro a3 w3 q ht;have j:Lv (A1 st'.regs) 0:=by
   cases hj:A1 st'.regs 0 with
   |some o=>simp[Lv,hj]
   |none=>
    unfold store at g;split at g
    .simp[hj]at g
    cases g
  have hr0:rho' 0=.pointer (some ⟨b0,0,none⟩):=by rw[q.pin 0 (by omega) j,d.2,<- u];exact (Z.pin 0 (by omega) rfl).symm
  have hva:RS C' st' w3 rho' v0 (.reg 0 0):=by rw[a6];exact .reg 0 0 b0 j hr0
  obtain⟨w4,a8,hs4,_⟩:=IE q (vx:=.int .i64 c) hva (.p _ _ (.v _)) g Jy;refine⟨by simp,.inr ⟨by simp[Fence.wide],_,_,O5,#[v0],rfl,by simp[go_sem],fun _ _=>trivial,?_⟩⟩;refine (Ib v0 c [] w3 w4 a8 ⟨_,a6⟩).mono ?_;rintro e u' w5 ⟨rfl,rfl,rfl⟩
  have:=s d hs4 m
  rw[ht]at this;exact this
def QU {a:Sl Law}{b y:Sl Nd}(c:FunO (EM Tryz.prog) G8 [.p (vSl 18 A7 a),.p (vSl 2 A0 b)] [] (.p (vSl 2 A0 y)) [] []) :FunO (EM Tryz.prog) H5 XT (QS 0 a b E3) (.tup []) (QS 0 a b (vSl 2 A0 y)) [true,true,true,true]:=
 JK (Aa1 (good Tryz.prog) c) (fun st h=>h) (fun x st h=>h.elim)
def No {a:Sl Law}{b:Sl Nd}{c:Int}(d:(EM Tryz.prog).F G8 [.p (vSl 18 A7 a),.p (vSl 2 A0 b)] [] fun res o k=>res=.panic (.iface 149 (pI .i64 c))/\o=[]/\k=[]) :FunO (EM Tryz.prog) H5 XT (QS 0 a b E3) (.tup []) (QS c a b E3) [true,true,true,true]:=
 JK (VJ (good Tryz.prog) d) (fun st h=>h.elim) (fun x st h=>⟨c,_,h.1,h.2.1,h.2.2⟩)
end Go.AM
namespace Go.AM
open Go.Proofs.Tryz
variable {N:Nat}
open IntKind (wrap)
open Go.Proofs
set_option maxRecDepth 10000
set_option maxHeartbeats 2000000
variable {S:Q8}(Z:F5 S Tryz.prog) (Y:Ip S)
include Z Y
def F3 (N:Nat)(a:Nd):Option Bool:= some (((I8 .and .u32 a.Plus a.Minus)==0)&&(decide ((I8 .or .u32 a.Plus a.Minus)<=16777215)))
theorem N7 {b:Nd}{y:Bool}(h:F3 N b=some y) :FunO S Gz [.p (.agg (A0 b))] [] (pB y) ([]) []:=by unfold F3 at h;refine A4 Z func101 ?_;refine kB Z (A6 Z) Jy Jy 7 (.n (.a ((I8 .and .u32 b.Plus b.Minus)==0)) (.a (decide ((I8 .or .u32 b.Plus b.Minus)<=16777215)))) ?_;cases h;exact kR Z
def Ag (N:Nat)(b:Nd)(a:Nd):Option Bool:= (F3 N b).bind fun y1=>lt (fun (z1:Bool)=>some z1) fun k1=>if y1 then (F3 N a).bind fun y3=>if y3 then if ((I8 .andNot .u32 a.Plus b.Plus)==0) then k1 ((I8 .andNot .u32 a.Minus b.Minus)==0) else k1 false else k1 false else k1 false
theorem Hi {c:Nd}{a:Nd}{y:Bool}(h:Ag N c a=some y) :FunO S CL [.p (.agg (A0 c)),.p (.agg (A0 a))] [] (pB y) ([]) []:=by
 unfold Ag at h;refine A4 Z func183 ?_;refine kC Z h (N7 Z Y) (fun y1 h=>?_);refine Hd Z Jy (A6 Z) h 0 (fun z1=>⟨[(4,pB z1)],[]⟩) (fun M1 k1 b h=>?_) (fun z1 h=>?_)
 .refine kG Z h (fun h=>?_) (fun h=>?_)
  .refine kC Z h (N7 Z Y) (fun y3 h=>?_);refine kG Z h (fun h=>?_) (fun h=>?_)
   .refine kG Z h (fun h=>?_) (fun h=>?_)
    .exact b _ [] _ ((I8 .andNot .u32 a.Minus c.Minus)==0) Jy h
    exact b _ [] _ false Jy h
   exact b _ [] _ false Jy h
  exact b _ [] _ false Jy h
 cases h;exact kR Z
def Dr (N:Nat)(a:Nd):Option Int:= some (I8 .or .u32 a.Plus a.Minus)
theorem JL {a:Nd}{y:Int}(h:Dr N a=some y) :FunO S JF [.p (.agg (A0 a))] [] (pU y) ([]) []:=by unfold Dr at h;refine A4 Z func195 ?_;cases h;exact kR Z
def Ds (N:Nat)(c:Nd)(b:Nd)(a:Int):Option Nd:= some (⟨I8 .or .u32 (I8 .andNot .u32 c.Plus a) (I8 .and .u32 b.Plus a),I8 .or .u32 (I8 .andNot .u32 c.Minus a) (I8 .and .u32 b.Minus a)⟩:Nd)
theorem JM {c:Nd}{a:Nd}{b:Int}{y:Nd}(h:Ds N c a b=some y) :FunO S JG [.p (.agg (A0 c)),.p (.agg (A0 a)),pU b] [] (.p (.agg (A0 y))) ([]) []:=by unfold Ds at h;refine A4 Z func196 ?_;cases h;exact kR Z
def Cm (N:Nat)(c:Nd)(a:Int)(b:Nd):Option (Nd×Int):= (F3 N c).bind fun y1=>lt (fun (z1:Bool)=>if z1 then some ((⟨0,0⟩:Nd),14) else lt (fun (z2:Bool)=>if z2 then some ((⟨0,0⟩:Nd),2) else (Dr N b).bind fun y6=>(Ds N c b (I8 .or .u32 a y6)).bind fun y7=>some (y7,0)) fun k2=>if (decide (16777215<a)) then k2 true else (Dr N b).bind fun y5=>k2 ((I8 .and .u32 a y5) != 0)) fun k1=>if (!y1) then k1 true else (F3 N b).bind fun y3=>k1 (!y3)
theorem KL {c:Nd}{a:Int}{b:Nd}{y:Nd×Int}(h:Cm N c a b=some y) :FunO S Ff [.p (.agg (A0 c)),pU a,.p (.agg (A0 b))] [] (.tup [.p (.agg (A0 y.1)),pN y.2]) ([]) []:=by
 unfold Cm at h;refine A4 Z func185 ?_;refine I1 Z Jy 5 4000 [pI .u32 c.Plus,pI .u32 c.Minus] ?_;refine I1 Z Jy 6 6000 [pI .u32 b.Plus,pI .u32 b.Minus] ?_;obtain⟨y1,e1,h⟩:=B7 h;refine B9 Z [] Kw (N7 Z Y e1) ?_;refine Hd Z Jy (A6 Z) h 0 (fun z1=>⟨[(15,pB z1),(6,.reg 7000 0),(5,.p (.ptr [pI .u32 b.Plus,pI .u32 b.Minus])),(3,.p (.ptr [pI .u32 c.Plus,pI .u32 c.Minus])),(1,pU a)],[(7000,.cells [pU 0,pU 0])]⟩) (fun M1 k1 d h=>?_) (fun z1 h=>?_)
 .refine kG Z h (fun h=>?_) (fun h=>?_)
  .exact d _ [(7000,7000)] _ true Jy h
  obtain⟨y3,e3,h⟩:=B7 h;refine B9 Z [] Kw (N7 Z Y e3) ?_;exact d _ [(7000,7000)] _ (!y3) Jy h
 apply kI Z h<;>intro h
 .cases h;exact kR Z
 refine Hd Z Jy (A6 Z) h 0 (fun z2=>⟨[(25,pB z2),(6,.reg 7000 0),(5,.p (.ptr [pI .u32 b.Plus,pI .u32 b.Minus])),(3,.p (.ptr [pI .u32 c.Plus,pI .u32 c.Minus])),(1,pU a)],[(7000,.cells [pU 0,pU 0])]⟩) (fun M2 k2 f h=>?_) (fun z2 h=>?_)
 .refine kG Z h (fun h=>?_) (fun h=>?_)
  .exact f _ [(7000,7000)] _ true Jy h
  obtain⟨y5,e5,h⟩:=B7 h;refine B9 Z [] Kw (JL Z Y e5) ?_;exact f _ [(7000,7000)] _ ((I8 .and .u32 a y5) != 0) Jy h
 apply kI Z h<;>intro h
 .cases h;exact kR Z
 refine E9 Z Jy [0,1,3,4,6] ?_;obtain⟨y6,e6,h⟩:=B7 h;refine V7 (And.intro (And.intro Kw Kw) Kw) (JL Z Y e6) ?_;obtain⟨y7,e7,h⟩:=B7 h;refine V7 Jy (JM Z Y e7) ?_;refine H9 Jy ?_;cases h;exact kR Z
def Eo (N:Nat)(c:Nd)(a:Nd)(b:Int):Option (Nd×Int):= (F3 N c).bind fun y1=>lt (fun (z1:Bool)=>if z1 then some ((⟨0,0⟩:Nd),14) else if (decide (16777215<b)) then some ((⟨0,0⟩:Nd),2) else (Ds N c a b).bind fun y4=>some (y4,0)) fun k1=>if (!y1) then k1 true else (F3 N a).bind fun y3=>k1 (!y3)
theorem Pk {c:Nd}{a:Nd}{b:Int}{y:Nd×Int}(h:Eo N c a b=some y) :FunO S HO [.p (.agg (A0 c)),.p (.agg (A0 a)),pU b] [] (.tup [.p (.agg (A0 y.1)),pN y.2]) ([]) []:=by
 unfold Eo at h;refine A4 Z func186 ?_;refine kC Z h (N7 Z Y) (fun y1 h=>?_);refine Hd Z Jy (A6 Z) h 0 (fun z1=>⟨[(15,pB z1),(6,.reg 7000 0),(4,.reg 5000 0),(3,.reg 4000 0),(2,pU b)],[(7000,.cells [pU 0,pU 0]),(5000,.cells [pU a.Plus,pU a.Minus]),(4000,.cells [pU c.Plus,pU c.Minus])]⟩) (fun M1 k1 d h=>?_) (fun z1 h=>?_)
 .refine kG Z h (fun h=>?_) (fun h=>?_)
  .exact d _ [(4000,4000),(5000,5000),(7000,7000)] _ true Jy h
  refine kC Z h (N7 Z Y) (fun y3 h=>?_);exact d _ [(4000,4000),(5000,5000),(7000,7000)] _ (!y3) Jy h
 apply kI Z h<;>intro h
 .cases h;exact kR Z
 apply kI Z h<;>intro h
 .cases h;exact kR Z
 refine kC Z h (JM Z Y) (fun y4 h=>?_);cases h;exact kR Z
def R6 (N:Nat)(a:Nd):Option Bool:= R4 N (fun b (x1:Int)=>if (decide (x1<32)) then if ((0:Int)<=x1/\(0:Int)<=x1)then if ((((I8 .and .u32 (shI .shr .u32 a.Plus x1) 1)==1)&&((I8 .and .u32 (shI .shr .u32 a.Minus x1) 1)==1))||((((I8 .and .u32 (shI .shr .u32 a.Plus x1) 1)==1)||((I8 .and .u32 (shI .shr .u32 a.Minus x1) 1)==1))&&(decide (24<=x1)))) then some false else b (wrap .i64 (x1+1)) else none else some true) 0
theorem JN {b:Nd}{y:Bool}(h:R6 N b=some y) :FunO S JA [.p (.agg (A0 b))] [] (pB y) ([]) []:=by
 unfold R6 at h;refine A4 Z func116 ?_;refine I0 Z Jy h (fun x1=>⟨[(3,pN x1),(1,.reg 2000 0)],[(2000,.cells [pU b.Plus,pU b.Minus])]⟩) (ids:=[(2000,2000)]) (fun _ _ _ _ _ c x1 d h=>?_);apply kI Z h<;>intro h
 .obtain⟨c7,h⟩:=E2 h;refine kB Z (A6 Z) c7 Jy 12 (.o (.n (.a ((I8 .and .u32 (shI .shr .u32 b.Plus x1) 1)==1)) (.a ((I8 .and .u32 (shI .shr .u32 b.Minus x1) 1)==1))) (.n (.o (.a ((I8 .and .u32 (shI .shr .u32 b.Plus x1) 1)==1)) (.a ((I8 .and .u32 (shI .shr .u32 b.Minus x1) 1)==1))) (.a (decide (24<=x1))))) ?_;apply kI Z h<;>intro h
  .cases h;exact kR Z
  exact d _ [(2000,2000)] _ (wrap .i64 (x1+1)) Jy h
 cases h;exact kR Z
def R7 (N:Nat)(a:Nd):Option Bool:= some ((((I8 .and .u32 a.Plus a.Minus)==0)&&(decide (a.Plus<16777216)))&&(decide (a.Minus<16777216)))
theorem QV {b:Nd}{y:Bool}(h:R7 N b=some y) :FunO S Jw [.p (.agg (A0 b))] [] (pB y) ([]) []:=by unfold R7 at h;refine A4 Z func95 ?_;refine kB Z (A6 Z) Jy Jy 9 (.n (.n (.a ((I8 .and .u32 b.Plus b.Minus)==0)) (.a (decide (b.Plus<16777216)))) (.a (decide (b.Minus<16777216)))) ?_;cases h;exact kR Z
def BC (N:Nat)(a:Sl Nd)(b:Sl Nd):Option Bool:= if ((a.n:Int) != (b.n:Int)) then some false else R4 N (fun c (x1:Int)=>if (decide (x1<(a.n:Int))) then if (((0:Int)<=x1/\x1<(a.n:Int))/\((0:Int)<=x1/\x1<(b.n:Int)))then if ((((a.g x1.toNat).Plus==(b.g x1.toNat).Plus)&&((a.g x1.toNat).Minus==(b.g x1.toNat).Minus)) != true) then some false else c (wrap .i64 (x1+1)) else none else some true) 0
theorem FC {a:Sl Nd}{b:Sl Nd}{y:Bool}(h:BC N a b=some y) :FunO S Jj [.p (vSl 2 A0 a),.p (vSl 2 A0 b)] [] (pB y) ([]) []:=by
 unfold BC at h;refine A4 Z func20 ?_;apply kI Z h<;>intro h
 .cases h;exact kR Z
 refine I0 Z Jy h (fun x1=>⟨[(5,pN x1),(1,.p (vSl 2 A0 b)),(0,.p (vSl 2 A0 a))],[]⟩) (ids:=[]) (fun _ _ _ _ _ c x1 d h=>?_);apply kI Z h<;>intro h
 .refine E9 Z Jy [2,3,6,7] ?_;obtain⟨c9,h⟩:=E2 h;refine H9 (And.intro (And.intro (And.intro (And.intro c9.1 Kw) c9.2) Kw) (by decide +kernel:Up Tryz.prog B5=true)) ?_;apply kI Z h<;>intro h
  .cases h;exact kR Z
  exact d _ [] _ (wrap .i64 (x1+1)) Jy h
 cases h;exact kR Z
def AD (N:Nat)(a:Nd):Option Bool:= some (((I8 .and .u32 a.Plus a.Minus)==0)&&((shI .shr .u32 (I8 .or .u32 a.Plus a.Minus) 24)==0))
theorem Pl {a:Nd}{y:Bool}(h:AD N a=some y) :FunO S HI [.p (.agg (A0 a))] [] (pB y) ([]) []:=by
 unfold AD at h;refine A4 Z func93 ?_;obtain⟨t1,c⟩:∃x:Bool,x=(((I8 .and .u32 a.Plus a.Minus)==0)&&((shI .shr .u32 (I8 .or .u32 a.Plus a.Minus) 24)==0)):=⟨_,rfl⟩;refine OI Z Jy (A6 Z) 0 ⟨[(2,pB t1)],[]⟩ (fun M1 d=>?_) ?_
 .refine Df Z Jy (b:=(I8 .and .u32 a.Plus a.Minus)==0) (fun c2=>?_) (fun c2=>?_)
  .exact d _ [] _ (by decide:(0:Int)<=24) (hle:=klR [(0,.eq (.bb ((shI .shr .u32 (I8 .or .u32 a.Plus a.Minus) 24)==0)) (.bb t1))] (al1 (by simp only[c,c2,Leaf.ok,pm,Jq,Js]) al0))
  exact d _ [] _ Jy (hle:=klR [(0,.eq (.bb false) (.bb t1))] (al1 (by simp only[c,c2,Leaf.ok,pm,Jq,Js]) al0))
 subst c;cases h;exact kR Z
def N8 (N:Nat)(a:Sl Nd):Option Int:= if (decide (32<(a.n:Int))) then some 11 else R4 N (fun b (x1:Int)=>if (decide (x1<(a.n:Int))) then if ((0:Int)<=x1/\x1<(a.n:Int))then (AD N (a.g x1.toNat)).bind fun y3=>if (!y3) then some 14 else b (wrap .i64 (x1+1)) else none else some 0) 0
theorem BW {a:Sl Nd}{y:Int}(h:N8 N a=some y) :FunO S HF [.p (vSl 2 A0 a)] [] (pN y) ([]) []:=by
 unfold N8 at h;refine A4 Z func69 ?_;apply kI Z h<;>intro h
 .cases h;exact kR Z
 refine I0 Z Jy h (fun x1=>⟨[(10,pN x1),(9,pN (a.n:Int)),(8,.p (vSl 2 A0 a))],[]⟩) (ids:=[]) (fun _ _ _ _ _ b x1 c h=>?_);apply kI Z h<;>intro h
 .obtain⟨c9,h⟩:=E2 h;obtain⟨y3,e3,h⟩:=B7 h;refine B9 Z [] (And.intro c9 Kw) (Pl Z Y e3) ?_;apply kI Z h<;>intro h
  .cases h;exact kR Z
  exact c _ [] _ (wrap .i64 (x1+1)) Jy h
 cases h;exact kR Z
def F9 (N:Nat)(a:Sl Nd)(b:Sl Nd):Option Bool:= if ((a.n:Int) != (b.n:Int)) then some false else R4 N (fun c (x1:Int)=>if (decide (x1<(a.n:Int))) then if (((0:Int)<=x1/\x1<(a.n:Int))/\((0:Int)<=x1/\x1<(b.n:Int)))then if ((((a.g x1.toNat).Plus==(b.g x1.toNat).Plus)&&((a.g x1.toNat).Minus==(b.g x1.toNat).Minus)) != true) then some false else c (wrap .i64 (x1+1)) else none else some true) 0
theorem U8 {a:Sl Nd}{b:Sl Nd}{y:Bool}(h:F9 N a b=some y) :FunO S J9 [.p (vSl 2 A0 a),.p (vSl 2 A0 b)] [] (pB y) ([]) []:=by
 unfold F9 at h;refine A4 Z func94 ?_;apply kI Z h<;>intro h
 .cases h;exact kR Z
 refine I0 Z Jy h (fun x1=>⟨[(13,pN x1),(12,pN (a.n:Int)),(1,.p (vSl 2 A0 b)),(0,.p (vSl 2 A0 a))],[]⟩) (ids:=[]) (fun _ _ _ _ _ c x1 d h=>?_);apply kI Z h<;>intro h
 .refine E9 Z Jy [2,3,6,7] ?_;obtain⟨c9,h⟩:=E2 h;refine H9 (And.intro (And.intro (And.intro (And.intro c9.1 Kw) c9.2) Kw) (by decide +kernel:Up Tryz.prog B5=true)) ?_;apply kI Z h<;>intro h
  .cases h;exact kR Z
  exact d _ [] _ (wrap .i64 (x1+1)) Jy h
 cases h;exact kR Z
def X9 (N:Nat)(a:Sl Nd)(b:Sl Nd):Option Bool:= (F9 N a b).bind fun y1=>some y1
theorem Pm {a:Sl Nd}{b:Sl Nd}{y:Bool}(h:X9 N a b=some y) :FunO S HG [.p (vSl 2 A0 a),.p (vSl 2 A0 b)] [] (pB y) ([]) []:=by unfold X9 at h;refine A4 Z func70 ?_;refine kC Z h (U8 Z Y) (fun y1 h=>?_);cases h;exact kR Z
def K7 (N:Nat)(a:Nd):Option Bool:= some (((I8 .and .u32 a.Plus a.Minus)==0)&&((shI .shr .u32 (I8 .or .u32 a.Plus a.Minus) 24)==0))
theorem BX {a:Nd}{y:Bool}(h:K7 N a=some y) :FunO S HM [.p (.agg (A0 a))] [] (pB y) ([]) []:=by
 unfold K7 at h;refine A4 Z func141 ?_;obtain⟨t1,c⟩:∃x:Bool,x=(((I8 .and .u32 a.Plus a.Minus)==0)&&((shI .shr .u32 (I8 .or .u32 a.Plus a.Minus) 24)==0)):=⟨_,rfl⟩;refine OI Z Jy (A6 Z) 0 ⟨[(2,pB t1)],[]⟩ (fun M1 d=>?_) ?_
 .refine Df Z Jy (b:=(I8 .and .u32 a.Plus a.Minus)==0) (fun c2=>?_) (fun c2=>?_)
  .exact d _ [] _ (by decide:(0:Int)<=24) (hle:=klR [(0,.eq (.bb ((shI .shr .u32 (I8 .or .u32 a.Plus a.Minus) 24)==0)) (.bb t1))] (al1 (by simp only[c,c2,Leaf.ok,pm,Jq,Js]) al0))
  exact d _ [] _ Jy (hle:=klR [(0,.eq (.bb false) (.bb t1))] (al1 (by simp only[c,c2,Leaf.ok,pm,Jq,Js]) al0))
 subst c;cases h;exact kR Z
def R8 (N:Nat)(b:Int):Option (Nat->Int):= BQ N (fun a (x1:Nat->Int) (x2:Int)=>if (decide (x2<(wrap .i64 (b+1)))) then if (((0:Int)<=x2/\((0:Int)<=x2/\x2<33))/\(0+x2.toNat*1)<33)then a (Ku x1 (0+x2.toNat*1) (shI .shl .u64 1 x2)) (wrap .i64 (x2+1)) else none else some x1) (fun _=>0) 0
theorem BD {a:Int}{y:Nat->Int}(h:R8 N a=some y) :FunO S En [pN a] [] (.p (.agg (cA 33 (pI .u64) y))) ([]) []:=by
 unfold R8 at h;refine A4 Z func233 ?_;refine H4 Z Jy h (fun x1 x2=>⟨[(7,pN x2),(6,pN (wrap .i64 (a+1))),(3,.reg 4000 0),(2,.reg 3000 0)],[(4000,.arr 33 (fun i=>pI .u64 (x1 i))),(3000,.arr 33 (fun i=>pI .u64 ((fun _=>0) i)))]⟩) (ids:=[(3000,3000),(4000,4000)]) (fun _ _ _ _ _ b x1 x2 d h=>?_) (hle:=klR [(2,.fn 33 33 (fun i=>[(fun i=>(List.replicate 33 (pI .u64 0)).getD i default) i]) (fun i=>[pI .u64 ((fun _=>0) i)])),(3,.fn 33 33 (fun i=>[(fun i=>(List.replicate 33 (pI .u64 0)).getD i default) i]) (fun i=>[pI .u64 ((fun _=>0) i)]))] (al1 ⟨rfl,Ae (z:=pI .u64 0) rfl⟩ (al1 ⟨rfl,Ae (z:=pI .u64 0) rfl⟩ al0)));apply kI Z h<;>intro h
 .obtain⟨c4,h⟩:=E2 h;exact d _ [(3000,3000),(4000,4000)] _ (Ku x1 (0+x2.toNat*1) (shI .shl .u64 1 x2)) (wrap .i64 (x2+1)) c4 h (hle:=klR [(2,.fn 33 33 (fun i=>[(fun i=>if i=(0+x2.toNat*1)then (pI .u64 (shI .shl .u64 1 x2))else (fun i=>pI .u64 (x1 i)) i) i]) (fun i=>[pI .u64 (Ku x1 (0+x2.toNat*1) (shI .shl .u64 1 x2) i)]))] (al1 ⟨rfl,ZO (c:=pI .u64) (v:=x1) (x:=shI .shl .u64 1 x2) (fun _ _=>rfl) rfl⟩ al0))
 obtain rfl:=C6 h;exact A9 Z (And.intro rfl (E4 _ _):(0:Nat)=0/\(AI 33 (fun i=>pI .u64 (x1 i))).length=33) ⟨[(2,.reg 3000 0)],[(3000,.arr 33 (fun i=>pI .u64 (x1 i)))]⟩ [] (ids:=[(3000,3000)]) ⟨rfl,rfl,rfl⟩ (hle:=klR [(0,.fn 33 33 (fun i=>[(fun i=>(cA 33 (pI .u64) x1).getD i default) i]) (fun i=>[pI .u64 (x1 i)]))] (al1 ⟨rfl,D3 33 (fun i=>pI .u64 (x1 i))⟩ al0))
def Q0 (N:Nat)(p_x:Nat->Int)(b:Nat->Int):Option (Nat->Int):= BQ N (fun a (x1:Nat->Int) (x2:Int)=>if (decide (x2<33)) then if (((0:Int)<=x2/\x2<33)/\(0+x2.toNat*1)<33)then if (((((0:Int)<=x2/\x2<33)/\(0+x2.toNat*1)<33)/\((0:Int)<=x2/\x2<33))/\(0+x2.toNat*1)<33)then a (Ku x1 (0+x2.toNat*1) (I8 .or .u64 (x1 (0+x2.toNat*1)) (b (0+x2.toNat*1)))) (wrap .i64 (x2+1)) else none else none else some x1) p_x 0
theorem BY {p_x:Nat->Int}{a:Nat->Int}{y:Nat->Int}(h:Q0 N p_x a=some y) :FunO S BV [.reg 0 0,.reg 1 0] [.arr 33 (fun i=>pI .u64 (p_x i)),.arr 33 (fun i=>pI .u64 (a i))] (.tup []) ([.arr 33 (fun i=>pI .u64 (y i)),.arr 33 (fun i=>pI .u64 (a i))]) [true,true]:=by
 unfold Q0 at h;refine A4 Z func231 ?_;refine H4 Z Jy h (fun x1 x2=>⟨[(7,pN x2),(6,.reg 1 0),(0,.reg 0 0)],[(1,.arr 33 (fun i=>pI .u64 (a i))),(0,.arr 33 (fun i=>pI .u64 (x1 i)))]⟩) (ids:=[(0,0),(1,1)]) (fun _ _ _ _ _ b x1 x2 d h=>?_);apply kI Z h<;>intro h
 .refine MO Z Jy ?_;obtain⟨c8,h⟩:=E2 h;refine H9 c8 ?_;refine MO Z Jy ?_;obtain⟨c9,h⟩:=E2 h;refine H9 c9 ?_;exact d _ [(0,0),(1,1)] _ (Ku x1 (0+x2.toNat*1) (I8 .or .u64 (x1 (0+x2.toNat*1)) (a (0+x2.toNat*1)))) (wrap .i64 (x2+1)) Jy h (hle:=klR [(2,.fn 33 33 (fun i=>[(fun i=>if i=(0+x2.toNat*1)then (pI .u64 (I8 .or .u64 (x1 (0+x2.toNat*1)) (a (0+x2.toNat*1))))else (fun i=>pI .u64 (x1 i)) i) i]) (fun i=>[pI .u64 (Ku x1 (0+x2.toNat*1) (I8 .or .u64 (x1 (0+x2.toNat*1)) (a (0+x2.toNat*1))) i)]))] (al1 ⟨rfl,ZO (c:=pI .u64) (v:=x1) (x:=I8 .or .u64 (x1 (0+x2.toNat*1)) (a (0+x2.toNat*1))) (fun _ _=>rfl) rfl⟩ al0))
 obtain rfl:=C6 h;exact A9 Z Jy ⟨[],[(1,.arr 33 (fun i=>pI .u64 (a i))),(0,.arr 33 (fun i=>pI .u64 (x1 i)))]⟩ [0,1] (ids:=[(0,0),(1,1)]) ⟨rfl,rfl,rfl⟩
def Bf (N:Nat)(b:Sl Nd)(a:Int):Option Int:= if ((decide (a<0))||(decide ((b.n:Int)<a))) then some 3 else some 0
theorem GG {c:Sl Nd}{b:Int}{y:Int}(h:Bf N c b=some y) :FunO S GE [.p (vSl 2 A0 c),pN b] [] (pN y) ([]) []:=by
 unfold Bf at h;refine A4 Z func204 ?_;refine kB Z (A6 Z) Jy Jy 5 (.o (.a (decide (b<0))) (.a (decide ((c.n:Int)<b)))) ?_;apply kI Z h<;>intro h
 .cases h;exact kR Z
 cases h;exact kR Z
def W3 (N:Nat)(a:Pat):Option Int:= if (if (a.Kind==0) then a.Kind==0 else (if (a.Kind==2) then a.Kind==2 else a.Kind==6)) then lt (fun (z1:Bool)=>if z1 then some 2 else (K7 N a.Is).bind fun y1=>if (!y1) then some 14 else some 0) fun k1=>if (((a.Is.Plus==0)&&(a.Is.Minus==0)) != true) then k1 true else if a.Not then k1 true else if (a.Min != 0) then k1 true else if (a.Max != 0) then k1 true else k1 (decide (0<(a.L.n:Int))) else if (a.Kind==1) then lt (fun (z2:Bool)=>if z2 then some 2 else (K7 N a.Is).bind fun y2=>if (!y2) then some 14 else some 0) fun k2=>if (((0==0)&&(0==0)) != true) then k2 true else if (a.Min != 0) then k2 true else if (a.Max != 0) then k2 true else k2 (decide (0<(a.L.n:Int))) else lt (fun (z3:Int×Int)=>if (((((((a.Is.Plus==0)&&(a.Is.Minus==0)) != true)||a.Not)||(z3.1 != 0))||(z3.2 != 0))||(decide (0<0))) then some 2 else (K7 N a.Is).bind fun y3=>if (!y3) then some 14 else some 0) fun k3=>if (if (a.Kind==3) then a.Kind==3 else a.Kind==4) then k3 (a.Min,a.Max) else if (a.Kind==5) then if (((((a.L.n:Int) != 1)||(decide (a.Min<0)))||(decide (32<a.Min)))||((a.Max != (-1))&&((decide (a.Max<a.Min))||(decide (32<a.Max))))) then some 2 else k3 (0,0) else some 2
theorem KM {c:Pat}{y:Int}(h:W3 N c=some y) :FunO S Fd [.p (.agg (B1 c))] [] (pN y) ([]) []:=by
 unfold W3 at h;refine A4 Z func121 ?_;obtain⟨t1,f⟩:∃x:Bool,x=(if (c.Kind==0) then c.Kind==0 else (if (c.Kind==2) then c.Kind==2 else c.Kind==6)):=⟨_,rfl⟩;refine OI Z Jy (A6 Z) 0 ⟨[(8,pB t1),(7,pN c.Kind),(3,.reg 4000 0),(1,.reg 2000 0)],[(4000,.cells [pN 0,pU c.Is.Plus,pU c.Is.Minus,pB c.Not,pN c.Min,pN c.Max,.p (.sl false 7 c.L.n (Z6 c))]),(2000,.cells ((B1 c).map .p))]⟩ (fun M1 l=>?_) ?_
 .refine E1 Z Jy (b:=c.Kind==0) (fun c3=>?_) (fun c3=>?_)
  .exact l _ [(2000,2000),(4000,4000)] _ Jy (hle:=klR [(0,.eq (.bb (c.Kind==0)) (.bb t1))] (al1 (by simp only[f,c3,Leaf.ok,pm,Jq,Js]) al0))
  refine E1 Z Jy (b:=c.Kind==2) (fun c4=>?_) (fun c4=>?_)
  .exact l _ [(2000,2000),(4000,4000)] _ Jy (hle:=klR [(0,.eq (.bb (c.Kind==2)) (.bb t1))] (al1 (by simp only[f,c3,c4,Leaf.ok,pm,Jq,Js]) al0))
  exact l _ [(2000,2000),(4000,4000)] _ Jy (hle:=klR [(0,.eq (.bb (c.Kind==6)) (.bb t1))] (al1 (by simp only[f,c3,c4,Leaf.ok,pm,Jq,Js]) al0))
 subst f;apply kI Z h<;>intro h
 .refine Hd Z (by decide +kernel:Up Tryz.prog B5=true) (A6 Z) h 0 (fun z1=>⟨[(57,pB z1),(1,.reg 2000 0)],[(2000,.cells ((B1 c).map .p))]⟩) (fun M3 k1 d h=>?_) (fun z1 h=>?_)
  .refine kG Z h (fun h=>?_) (fun h=>?_)
   .exact d _ [(2000,2000)] _ true Jy h
   refine kG Z h (fun h=>?_) (fun h=>?_)
   .exact d _ [(2000,2000)] _ true Jy h
   refine kG Z h (fun h=>?_) (fun h=>?_)
   .exact d _ [(2000,2000)] _ true Jy h
   refine kG Z h (fun h=>?_) (fun h=>?_)
   .exact d _ [(2000,2000)] _ true Jy h
   refine F6 Z Jy 79 ⟨[(78,.p (vSl 7 B1 c.L)),(76,.p (.v (.bool false))),(1,.reg 2000 0)],[(2000,.cells ((B1 c).map .p))]⟩ (ids:=[(2000,2000)]) ?_ (hle:=klR [(0,.fn c.L.n c.L.n (Z6 c) (fun i=>B1 (c.L.g i)))] (al1 ⟨rfl,N1 c⟩ al0));exact d _ [(2000,2000)] _ (decide (0<(c.L.n:Int))) Jy h
  apply kI Z h<;>intro h
  .cases h;exact kR Z
  refine kC Z h (BX Z Y) (fun y1 h=>?_);apply kI Z h<;>intro h
  .cases h;exact kR Z
  cases h;exact kR Z
 apply kI Z h<;>intro h
 .refine Hd Z (by decide +kernel:Up Tryz.prog B5=true) (A6 Z) h 0 (fun z2=>⟨[(57,pB z2),(1,.reg 2000 0)],[(2000,.cells ((B1 c).map .p))]⟩) (fun M5 k2 j h=>?_) (fun z2 h=>?_)
  .refine kG Z h (fun h=>?_) (fun h=>?_)
   .exact j _ [(2000,2000)] _ true Jy h
   refine Df Z Jy (b:=false) (fun c54=>?_) (fun c54=>?_)
   .exact Bool.noConfusion ((rfl:false=false).symm.trans c54)
   refine kG Z h (fun h=>?_) (fun h=>?_)
   .exact j _ [(2000,2000)] _ true Jy h
   refine kG Z h (fun h=>?_) (fun h=>?_)
   .exact j _ [(2000,2000)] _ true Jy h
   refine F6 Z Jy 79 ⟨[(78,.p (vSl 7 B1 c.L)),(76,.p (.v (.bool false))),(1,.reg 2000 0)],[(2000,.cells ((B1 c).map .p))]⟩ (ids:=[(2000,2000)]) ?_ (hle:=klR [(0,.fn c.L.n c.L.n (Z6 c) (fun i=>B1 (c.L.g i)))] (al1 ⟨rfl,N1 c⟩ al0));exact j _ [(2000,2000)] _ (decide (0<(c.L.n:Int))) Jy h
  apply kI Z h<;>intro h
  .cases h;exact kR Z
  refine kC Z h (BX Z Y) (fun y2 h=>?_);apply kI Z h<;>intro h
  .cases h;exact kR Z
  cases h;exact kR Z
 obtain⟨t4,m⟩:∃x:Bool,x=(if (c.Kind==3) then c.Kind==3 else c.Kind==4):=⟨_,rfl⟩;refine OI Z Jy (A6 Z) 0 ⟨[(17,pB t4),(7,pN c.Kind),(3,.reg 4000 0),(1,.reg 2000 0)],[(4000,.cells [pN 0,pU c.Is.Plus,pU c.Is.Minus,pB c.Not,pN c.Min,pN c.Max,.p (.sl false 7 c.L.n (Z6 c))]),(2000,.cells ((B1 c).map .p))]⟩ (fun M6 q=>?_) ?_
 .refine E1 Z Jy (b:=c.Kind==3) (fun c60=>?_) (fun c60=>?_)
  .exact q _ [(2000,2000),(4000,4000)] _ Jy (hle:=klR [(0,.eq (.bb (c.Kind==3)) (.bb t4))] (al1 (by simp only[m,c60,Leaf.ok,pm,Jq,Js]) al0))
  exact q _ [(2000,2000),(4000,4000)] _ Jy (hle:=klR [(0,.eq (.bb (c.Kind==4)) (.bb t4))] (al1 (by simp only[m,c60,Leaf.ok,pm,Jq,Js]) al0))
 subst m;refine Hd Z Jy (A6 Z) h 0 (fun z3=>⟨[(3,.reg 4000 0),(1,.reg 2000 0)],[(4000,.cells [pN 0,pU c.Is.Plus,pU c.Is.Minus,pB c.Not,pN z3.1,pN z3.2,.p E3]),(2000,.cells ((B1 c).map .p))]⟩) (fun M7 k3 r h=>?_) (fun z3 h=>?_)
 .apply kI Z h<;>intro h
  .exact r _ [(2000,2000),(4000,4000)] _ (c.Min,c.Max) Jy h
  apply kI Z h<;>intro h
  .refine F6 Z Jy 25 ⟨[(24,.p (vSl 7 B1 c.L)),(3,.reg 4000 0),(1,.reg 2000 0)],[(4000,.cells [pN 0,pU c.Is.Plus,pU c.Is.Minus,pB c.Not,pN c.Min,pN c.Max,.p (.sl false 7 c.L.n (Z6 c))]),(2000,.cells ((B1 c).map .p))]⟩ (ids:=[(2000,2000),(4000,4000)]) ?_ (hle:=klR [(0,.fn c.L.n c.L.n (Z6 c) (fun i=>B1 (c.L.g i)))] (al1 ⟨rfl,N1 c⟩ al0));refine kB Z (A6 Z) Jy Jy 26 (.o (.o (.o (.a ((c.L.n:Int) != 1)) (.a (decide (c.Min<0)))) (.a (decide (32<c.Min)))) (.n (.a (c.Max != (-1))) (.o (.a (decide (c.Max<c.Min))) (.a (decide (32<c.Max)))))) ?_;apply kI Z h<;>intro h
   .cases h;exact kR Z
   exact r _ [(2000,2000),(4000,4000)] _ (0,0) Jy h
  cases h;exact kR Z
 refine kB Z (A6 Z) (by decide +kernel:Up Tryz.prog B5=true) Jy 19 (.o (.o (.o (.o (.a (((c.Is.Plus==0)&&(c.Is.Minus==0)) != true)) (.a c.Not)) (.a (z3.1 != 0))) (.a (z3.2 != 0))) (.a (decide (0<0)))) ?_;apply kI Z h<;>intro h
 .cases h;exact kR Z
 refine kC Z h (BX Z Y) (fun y3 h=>?_);apply kI Z h<;>intro h
 .cases h;exact kR Z
 cases h;exact kR Z
def CN (N:Nat)(a:Pat):Option Int:= if ((decide (a.Kind<0))||(decide (6<a.Kind))) then some 2 else if ((a.Kind != 1)&&((((a.Is.Plus==0)&&(a.Is.Minus==0)) != true)||a.Not)) then some 2 else lt (fun (z1:Bool)=>if z1 then some 2 else if ((a.Kind != 5)&&((a.Min != 0)||(a.Max != 0))) then some 2 else lt (fun (z2:Bool)=>if z2 then some 2 else (R7 N a.Is).bind fun y1=>if (!y1) then some 14 else some 0) fun k2=>if (a.Kind==5) then if ((a.L.n:Int) != 1) then k2 true else if (decide (a.Min<0)) then k2 true else if (decide (32<a.Min)) then k2 true else if (a.Max != (-1)) then if (decide (a.Max<a.Min)) then k2 true else k2 (decide (32<a.Max)) else k2 false else k2 false) fun k1=>if (a.Kind != 3) then if (a.Kind != 4) then if (a.Kind != 5) then k1 (decide (0<(a.L.n:Int))) else k1 false else k1 false else k1 false
theorem TP {c:Pat}{y:Int}(h:CN N c=some y) :FunO S LY [.p (.agg (B1 c))] [] (pN y) ([]) []:=by
 unfold CN at h;refine A4 Z func146 ?_;refine kB Z (A6 Z) Jy Jy 4 (.o (.a (decide (c.Kind<0))) (.a (decide (6<c.Kind)))) ?_;apply kI Z h<;>intro h
 .cases h;exact kR Z
 obtain⟨t1,f⟩:∃x:Bool,x=((c.Kind != 1)&&((((c.Is.Plus==0)&&(c.Is.Minus==0)) != true)||c.Not)):=⟨_,rfl⟩;refine OI Z Jy (A6 Z) 0 ⟨[(23,pB t1),(1,.reg 2000 0)],[(2000,.cells ((B1 c).map .p))]⟩ (fun M1 l=>?_) ?_
 .refine Df Z Jy (b:=c.Kind != 1) (fun c4=>?_) (fun c4=>?_)
  .refine Df Z (by decide +kernel:Up Tryz.prog B5=true) (b:=((c.Is.Plus==0)&&(c.Is.Minus==0)) != true) (fun c5=>?_) (fun c5=>?_)
   .exact l _ [(2000,2000)] _ Jy (hle:=klR [(0,.eq (.bb true) (.bb t1))] (al1 (by simp only[f,c4,c5,Leaf.ok,pm,Jq,Js]) al0))
   exact l _ [(2000,2000)] _ Jy (hle:=klR [(0,.eq (.bb c.Not) (.bb t1))] (al1 (by simp only[f,c4,c5,Leaf.ok,pm,Jq,Js]) al0))
  exact l _ [(2000,2000)] _ Jy (hle:=klR [(0,.eq (.bb false) (.bb t1))] (al1 (by simp only[f,c4,Leaf.ok,pm,Jq,Js]) al0))
 subst f;apply kI Z h<;>intro h
 .cases h;exact kR Z
 refine Hd Z Jy (A6 Z) h 0 (fun z1=>⟨[(42,pB z1),(1,.reg 2000 0)],[(2000,.cells ((B1 c).map .p))]⟩) (fun M2 k1 j h=>?_) (fun z1 h=>?_)
 .refine kG Z h (fun h=>?_) (fun h=>?_)
  .refine kG Z h (fun h=>?_) (fun h=>?_)
   .refine kG Z h (fun h=>?_) (fun h=>?_)
    .refine F6 Z Jy 40 ⟨[(39,.p (vSl 7 B1 c.L)),(37,.p (.v (.bool true))),(1,.reg 2000 0)],[(2000,.cells ((B1 c).map .p))]⟩ (ids:=[(2000,2000)]) ?_ (hle:=klR [(0,.fn c.L.n c.L.n (Z6 c) (fun i=>B1 (c.L.g i)))] (al1 ⟨rfl,N1 c⟩ al0));exact j _ [(2000,2000)] _ (decide (0<(c.L.n:Int))) Jy h
    exact j _ [(2000,2000)] _ false Jy h
   exact j _ [(2000,2000)] _ false Jy h
  exact j _ [(2000,2000)] _ false Jy h
 apply kI Z h<;>intro h
 .cases h;exact kR Z
 refine kB Z (A6 Z) Jy Jy 9 (.n (.a (c.Kind != 5)) (.o (.a (c.Min != 0)) (.a (c.Max != 0)))) ?_;apply kI Z h<;>intro h
 .cases h;exact kR Z
 refine Hd Z Jy (A6 Z) h 0 (fun z2=>⟨[(91,pB z2),(1,.reg 2000 0)],[(2000,.cells ((B1 c).map .p))]⟩) (fun M3 k2 d h=>?_) (fun z2 h=>?_)
 .refine kG Z h (fun h=>?_) (fun h=>?_)
  .refine F6 Z Jy 62 ⟨[(61,.p (vSl 7 B1 c.L)),(59,.p (.v (.bool true))),(1,.reg 2000 0)],[(2000,.cells ((B1 c).map .p))]⟩ (ids:=[(2000,2000)]) ?_ (hle:=klR [(0,.fn c.L.n c.L.n (Z6 c) (fun i=>B1 (c.L.g i)))] (al1 ⟨rfl,N1 c⟩ al0));refine kG Z h (fun h=>?_) (fun h=>?_)
   .exact d _ [(2000,2000)] _ true Jy h
   refine kG Z h (fun h=>?_) (fun h=>?_)
   .exact d _ [(2000,2000)] _ true Jy h
   refine kG Z h (fun h=>?_) (fun h=>?_)
   .exact d _ [(2000,2000)] _ true Jy h
   refine kG Z h (fun h=>?_) (fun h=>?_)
   .refine kG Z h (fun h=>?_) (fun h=>?_)
    .exact d _ [(2000,2000)] _ true Jy h
    exact d _ [(2000,2000)] _ (decide (32<c.Max)) Jy h
   exact d _ [(2000,2000)] _ false Jy h
  exact d _ [(2000,2000)] _ false Jy h
 apply kI Z h<;>intro h
 .cases h;exact kR Z
 refine kC Z h (QV Z Y) (fun y1 h=>?_);apply kI Z h<;>intro h
 .cases h;exact kR Z
 cases h;exact kR Z
end Go.AM
namespace Go.AM
open Go.Proofs.Tryz
variable {N:Nat}
open IntKind (wrap)
open Go.Proofs
set_option maxRecDepth 10000
set_option maxHeartbeats 2000000
variable {S:Q8}(Z:F5 S Tryz.prog) (Y:Ip S)
include Z Y
def Z1 (rec:Pat->Int->Option Int)(N:Nat)(b:Pat)(a:Int):Option Int:= BQ N (fun c (x1:Int) (x2:Int)=>if ((decide (x2<(b.L.n:Int)))&&(decide (x1<=40))) then if ((0:Int)<=x2/\x2<(b.L.n:Int))then (rec (b.L.g x2.toNat) x1).bind fun y3=>c y3 (wrap .i64 (x2+1)) else none else some x1) (wrap .i64 (a+1)) 0
def X1:Nat->Pat->Int->Option Int
 |0=>fun _ _=>none
 |N+1=>Z1 (X1 N) N
theorem Pn {rec:Pat->Int->Option Int}(d:∀{b:Pat}{c:Int}{y:Int},rec b c=some y->FunO S Dk [.p (.agg (B1 b)),pN c] [] (pN y) ([]) []){b:Pat}{c:Int}{y:Int}(h:Z1 rec N b c=some y) :FunO S Dk [.p (.agg (B1 b)),pN c] [] (pN y) ([]) []:=by
 unfold Z1 at h;refine A4 Z func89 ?_;refine H4 Z Jy h (fun x1 x2=>⟨[(6,pN x2),(5,pN x1),(2,.reg 3000 0)],[(3000,.cells ((B1 b).map .p))]⟩) (ids:=[(3000,3000)]) (fun _ _ _ _ _ f x1 x2 j h=>?_);refine F6 Z Jy 12 ⟨[(11,.p (vSl 7 B1 b.L)),(9,pN x2),(6,pN x2),(5,pN x1),(2,.reg 3000 0)],[(3000,.cells ((B1 b).map .p))]⟩ (ids:=[(3000,3000)]) ?_ (hle:=klR [(0,.fn b.L.n b.L.n (Z6 b) (fun i=>B1 (b.L.g i)))] (al1 ⟨rfl,N1 b⟩ al0));refine kB Z (A6 Z) Jy Jy 3 (.n (.a (decide (x2<(b.L.n:Int)))) (.a (decide (x1<=40)))) ?_;apply kI Z h<;>intro h
 .refine F6 Z Jy 23 ⟨[(22,pN x2),(21,.p (vSl 7 B1 b.L)),(6,pN x2),(5,pN x1),(2,.reg 3000 0)],[(3000,.cells ((B1 b).map .p))]⟩ (ids:=[(3000,3000)]) ?_ (hle:=klR [(1,.fn b.L.n b.L.n (Z6 b) (fun i=>B1 (b.L.g i)))] (al1 ⟨rfl,N1 b⟩ al0));obtain⟨c6,h⟩:=E2 h;obtain⟨y3,e3,h⟩:=B7 h;refine B9 Z [] (And.intro c6 Ky) (d e3) ?_;exact j _ [(3000,3000)] _ y3 (wrap .i64 (x2+1)) Jy h
 cases h;exact kR Z
theorem QW {b:Pat}{a:Int}{y:Int}(h:X1 N b a=some y) :FunO S Dk [.p (.agg (B1 b)),pN a] [] (pN y) ([]) []:=by
 induction N generalizing b a y with
 |zero=>cases (show (none:Option Int)=some y from h)
 |succ N ih=>exact Pn Z Y (fun e=>ih e) h
def Ah (N:Nat)(a:Pat):Option Int:= (X1 N a 0).bind fun y1=>some y1
theorem Hj {a:Pat}{y:Int}(h:Ah N a=some y) :FunO S LP [.p (.agg (B1 a))] [] (pN y) ([]) []:=by unfold Ah at h;refine A4 Z func57 ?_;refine kC Z h (QW Z Y) (fun y1 h=>?_);cases h;exact kR Z
def R9 (rec:Pat->Option Int)(N:Nat)(a:Pat):Option Int:= BQ N (fun b (x1:Int) (x2:Int)=>if (decide (x2<(a.L.n:Int))) then if ((0:Int)<=x2/\x2<(a.L.n:Int))then (rec (a.L.g x2.toNat)).bind fun y3=>b (wrap .i64 (x1+y3)) (wrap .i64 (x2+1)) else none else some x1) (if (a.Kind==5) then 1 else 0) 0
def T7:Nat->Pat->Option Int
 |0=>fun _=>none
 |N+1=>R9 (T7 N) N
theorem KN {rec:Pat->Option Int}(d:∀{a:Pat}{y:Int},rec a=some y->FunO S Bd [.p (.agg (B1 a))] [] (pN y) ([]) []){a:Pat}{y:Int}(h:R9 rec N a=some y) :FunO S Bd [.p (.agg (B1 a))] [] (pN y) ([]) []:=by
 unfold R9 at h;refine A4 Z func88 ?_;obtain⟨t1,c⟩:∃x:Int,x=(if (a.Kind==5) then 1 else 0):=⟨_,rfl⟩;refine OI Z Jy (A6 Z) 0 ⟨[(3,pN t1),(1,.reg 2000 0)],[(2000,.cells ((B1 a).map .p))]⟩ (fun M1 f=>?_) ?_
 .refine E1 Z Jy (b:=a.Kind==5) (fun c2=>?_) (fun c2=>?_)
  .exact f _ [(2000,2000)] _ Jy (hle:=klR [(0,.eq (pI .i64 1) (pI .i64 t1))] (al1 (by simp only[c,c2,Leaf.ok,pm,Jq,Js]) al0))
  exact f _ [(2000,2000)] _ Jy (hle:=klR [(0,.eq (pI .i64 0) (pI .i64 t1))] (al1 (by simp only[c,c2,Leaf.ok,pm,Jq,Js]) al0))
 subst c;refine H4 Z Jy h (fun x1 x2=>⟨[(4,pN x2),(3,pN x1),(1,.reg 2000 0)],[(2000,.cells ((B1 a).map .p))]⟩) (ids:=[(2000,2000)]) (fun _ _ _ _ _ j x1 x2 l h=>?_);refine F6 Z Jy 11 ⟨[(10,.p (vSl 7 B1 a.L)),(8,pN x2),(4,pN x2),(3,pN x1),(1,.reg 2000 0)],[(2000,.cells ((B1 a).map .p))]⟩ (ids:=[(2000,2000)]) ?_ (hle:=klR [(0,.fn a.L.n a.L.n (Z6 a) (fun i=>B1 (a.L.g i)))] (al1 ⟨rfl,N1 a⟩ al0));apply kI Z h<;>intro h
 .refine F6 Z Jy 19 ⟨[(18,pN x2),(17,.p (vSl 7 B1 a.L)),(15,pN x1),(4,pN x2),(1,.reg 2000 0)],[(2000,.cells ((B1 a).map .p))]⟩ (ids:=[(2000,2000)]) ?_ (hle:=klR [(1,.fn a.L.n a.L.n (Z6 a) (fun i=>B1 (a.L.g i)))] (al1 ⟨rfl,N1 a⟩ al0));obtain⟨c8,h⟩:=E2 h;obtain⟨y3,e3,h⟩:=B7 h;refine B9 Z [] (And.intro c8 Ky) (d e3) ?_;exact l _ [(2000,2000)] _ (wrap .i64 (x1+y3)) (wrap .i64 (x2+1)) Jy h
 cases h;exact kR Z
theorem Np {a:Pat}{y:Int}(h:T7 N a=some y) :FunO S Bd [.p (.agg (B1 a))] [] (pN y) ([]) []:=by
 induction N generalizing a y with
 |zero=>cases (show (none:Option Int)=some y from h)
 |succ N ih=>exact KN Z Y (fun e=>ih e) h
def Bm (N:Nat)(a:Sl Law):Option Int:= BQ N (fun c (x3:Int) (x4:Int)=>if ((decide (x4<(a.n:Int)))&&(decide (x4<=300))) then if (((0:Int)<=x4/\x4<(a.n:Int))/\((0:Int)<=x4/\x4<(a.n:Int)))then BQ N (fun b (x7:Int) (x8:Int)=>if (decide (x8<((Sl.of [(a.g x4.toNat).Left,(a.g x4.toNat).Right]:Sl Pat).n:Int))) then if ((0:Int)<=x8/\x8<((Sl.of [(a.g x4.toNat).Left,(a.g x4.toNat).Right]:Sl Pat).n:Int))then (Ah N ((Sl.of [(a.g x4.toNat).Left,(a.g x4.toNat).Right]:Sl Pat).g x8.toNat)).bind fun d=>if (decide (d<=40)) then (T7 N ((Sl.of [(a.g x4.toNat).Left,(a.g x4.toNat).Right]:Sl Pat).g x8.toNat)).bind fun f=>b (wrap .i64 (x7+f)) (wrap .i64 (x8+1)) else b x7 (wrap .i64 (x8+1)) else none else c (if x3<x7 then x7 else x3) (wrap .i64 (x4+1))) 0 0 else none else some x3) 0 0
theorem TQ {b:Sl Law}{y:Int}(h:Bm N b=some y) :FunO S LO [.p (vSl 18 A7 b)] [] (pN y) ([]) []:=by
 unfold Bm at h;refine A4 Z func56 ?_;refine H4 Z Jy h (fun x3 x4=>⟨[(4,pN x4),(3,pN x3),(0,.p (vSl 18 A7 b))],[]⟩) (ids:=[]) (fun _ _ _ _ _ d x3 x4 f h=>?_);refine kB Z (A6 Z) Jy Jy 3 (.n (.a (decide (x4<(b.n:Int)))) (.a (decide (x4<=300)))) ?_;apply kI Z h<;>intro h
 .refine E9 Z Jy [2,4,7,9] ?_;obtain⟨c24,h⟩:=E2 h;refine Dg (And.intro (And.intro (And.intro c24.1 (by decide:(7:Nat)<=17)) c24.2) (by decide:(7:Nat)<=10)) (x:=.sl true 7 2 (E5 [pI .i64 0,pI .u32 0,pI .u32 0,.v (.bool false),pI .i64 0,pI .i64 0,E3] [(0,B1 (b.g x4.toNat).Left),(1,B1 (b.g x4.toNat).Right)])) ?_;refine H9 Jy ?_;refine H4 Z Jy h (fun x7 x8=>⟨[(30,pN x8),(29,pN ((Sl.of [(b.g x4.toNat).Left,(b.g x4.toNat).Right]:Sl Pat).n:Int)),(28,.p (vSl 7 B1 (Sl.of [(b.g x4.toNat).Left,(b.g x4.toNat).Right]:Sl Pat))),(5,pN x7),(4,pN x4),(3,pN x3),(0,.p (vSl 18 A7 b))],[]⟩) (ids:=[]) (fun _ _ _ _ _ j x7 x8 c h=>?_) (hle:=klR [(2,.fn 2 (Sl.of [(b.g x4.toNat).Left,(b.g x4.toNat).Right]:Sl Pat).n (E5 [pI .i64 0,pI .u32 0,pI .u32 0,.v (.bool false),pI .i64 0,pI .i64 0,E3] [(0,B1 (b.g x4.toNat).Left),(1,B1 (b.g x4.toNat).Right)]) (fun i=>B1 ((Sl.of [(b.g x4.toNat).Left,(b.g x4.toNat).Right]:Sl Pat).g i)))] (al1 ⟨rfl,(fun i l=>match i,l with|0,_=>rfl|1,_=>rfl|_+2,l=>Jo l (by omega))⟩ al0));apply kI Z h<;>intro h
  .obtain⟨c32,h⟩:=E2 h;refine I1 Z (And.intro c32 Ky) 34 8000 (B1 ((Sl.of [(b.g x4.toNat).Left,(b.g x4.toNat).Right]:Sl Pat).g x8.toNat)) ?_;obtain⟨o,e17,h⟩:=B7 h;refine B9 Z [] Ky (Hj Z Y e17) ?_;apply kI Z h<;>intro h
   .obtain⟨m,e18,h⟩:=B7 h;refine B9 Z [] Ky (Np Z Y e18) ?_;exact c _ [] _ (wrap .i64 (x7+m)) (wrap .i64 (x8+1)) Jy h
   exact c _ [] _ x7 (wrap .i64 (x8+1)) Jy h
  exact f _ [] _ (if x3<x7 then x7 else x3) (wrap .i64 (x4+1)) Jy h
 cases h;exact kR Z
def S0 (rec:Pat->Int->Option (Int×Int))(N:Nat)(b:Pat)(a:Int):Option (Int×Int):= if (a==40) then some (a,12) else (CN N b).bind fun y1=>if (y1 != 0) then some (a,y1) else BQ N (fun c (x1:Int) (x2:Int)=>if (decide (x2<(b.L.n:Int))) then if ((0:Int)<=x2/\x2<(b.L.n:Int))then (rec (b.L.g x2.toNat) x1).bind fun y4=>if (y4.2 != 0) then some (y4.1,y4.2) else c y4.1 (wrap .i64 (x2+1)) else none else some (x1,0)) (wrap .i64 (a+1)) 0
def Bn:Nat->Pat->Int->Option (Int×Int)
 |0=>fun _ _=>none
 |N+1=>S0 (Bn N) N
theorem QX {rec:Pat->Int->Option (Int×Int)}(c:∀{a:Pat}{b:Int}{y:Int×Int},rec a b=some y->FunO S EK [.p (.agg (B1 a)),pN b] [] (.tup [pN y.1,pN y.2]) ([]) []){a:Pat}{b:Int}{y:Int×Int}(h:S0 rec N a b=some y) :FunO S EK [.p (.agg (B1 a)),pN b] [] (.tup [pN y.1,pN y.2]) ([]) []:=by
 unfold S0 at h;refine A4 Z func130 ?_;apply kI Z h<;>intro h
 .cases h;exact kR Z
 refine kC Z h (TP Z Y) (fun y1 h=>?_);apply kI Z h<;>intro h
 .cases h;exact kR Z
 refine H4 Z Jy h (fun x1 x2=>⟨[(8,pN x2),(7,pN x1),(2,.reg 3000 0)],[(3000,.cells ((B1 a).map .p))]⟩) (ids:=[(3000,3000)]) (fun _ _ _ _ _ d x1 x2 f h=>?_);refine F6 Z Jy 23 ⟨[(22,.p (vSl 7 B1 a.L)),(20,pN x2),(8,pN x2),(7,pN x1),(2,.reg 3000 0)],[(3000,.cells ((B1 a).map .p))]⟩ (ids:=[(3000,3000)]) ?_ (hle:=klR [(0,.fn a.L.n a.L.n (Z6 a) (fun i=>B1 (a.L.g i)))] (al1 ⟨rfl,N1 a⟩ al0));apply kI Z h<;>intro h
 .refine F6 Z Jy 31 ⟨[(30,pN x2),(29,.p (vSl 7 B1 a.L)),(8,pN x2),(7,pN x1),(2,.reg 3000 0)],[(3000,.cells ((B1 a).map .p))]⟩ (ids:=[(3000,3000)]) ?_ (hle:=klR [(1,.fn a.L.n a.L.n (Z6 a) (fun i=>B1 (a.L.g i)))] (al1 ⟨rfl,N1 a⟩ al0));obtain⟨c10,h⟩:=E2 h;obtain⟨y4,e4,h⟩:=B7 h;refine B9 Z [] (And.intro c10 Ky) (c e4) ?_;apply kI Z h<;>intro h
  .cases h;exact kR Z
  exact f _ [(3000,3000)] _ y4.1 (wrap .i64 (x2+1)) Jy h
 cases h;exact kR Z
theorem TR {b:Pat}{a:Int}{y:Int×Int}(h:Bn N b a=some y) :FunO S EK [.p (.agg (B1 b)),pN a] [] (.tup [pN y.1,pN y.2]) ([]) []:=by
 induction N generalizing b a y with
 |zero=>cases (show (none:Option (Int×Int))=some y from h)
 |succ N ih=>exact QX Z Y (fun e=>ih e) h
def Ai (N:Nat)(a:Pat):Option Int:= (Bn N a 0).bind fun y1=>some y1.2
theorem JO {a:Pat}{y:Int}(h:Ai N a=some y) :FunO S Jz [.p (.agg (B1 a))] [] (pN y) ([]) []:=by unfold Ai at h;refine A4 Z func115 ?_;refine kC Z h (TR Z Y) (fun y1 h=>?_);cases h;exact kR Z
def Aj (N:Nat)(a:Str):Option Bool:= R4 N (fun b (x1:Int)=>if (decide (x1<(a.length:Int))) then if ((0:Int)<=x1/\x1<(a.length:Int))then if (!(((((decide (97<=(U2 a x1)))&&(decide ((U2 a x1)<=122)))||((decide (65<=(U2 a x1)))&&(decide ((U2 a x1)<=90))))||((decide (48<=(U2 a x1)))&&(decide ((U2 a x1)<=57))))||((U2 a x1)==45))) then some false else b (wrap .i64 (x1+1)) else none else some ((decide (1<=(a.length:Int)))&&(decide ((a.length:Int)<=24)))) 0
theorem TT {b:Str}{y:Bool}(h:Aj N b=some y) :FunO S LW [.p (.str b)] [] (pB y) ([]) []:=by
 unfold Aj at h;refine A4 Z func114 ?_;refine I0 Z Jy h (fun x1=>⟨[(3,pN x1),(0,.p (.str b))],[]⟩) (ids:=[]) (fun _ _ _ _ _ c x1 d h=>?_);apply kI Z h<;>intro h
 .obtain⟨c8,h⟩:=E2 h;refine kB Z (A6 Z) c8 Jy 23 (.o (.o (.o (.n (.a (decide (97<=(U2 b x1)))) (.a (decide ((U2 b x1)<=122)))) (.n (.a (decide (65<=(U2 b x1)))) (.a (decide ((U2 b x1)<=90))))) (.n (.a (decide (48<=(U2 b x1)))) (.a (decide ((U2 b x1)<=57))))) (.a ((U2 b x1)==45))) ?_;apply kI Z h<;>intro h
  .cases h;exact kR Z
  exact d _ [] _ (wrap .i64 (x1+1)) Jy h
 refine kB Z (A6 Z) Jy Jy 4 (.n (.a (decide (1<=(b.length:Int)))) (.a (decide ((b.length:Int)<=24)))) ?_;cases h;exact kR Z
def CO (N:Nat)(p_x:Z7)(a:Int):Option Bool:= lt (fun (z1:Bool)=>if z1 then some false else if ((((I8 .and .u32 p_x.Clear (I8 .or .u32 p_x.Set.Plus p_x.Set.Minus)) != 0)||((I8 .and .u32 p_x.Take (I8 .or .u32 p_x.Set.Plus p_x.Set.Minus)) != 0))||((I8 .and .u32 p_x.Take p_x.Clear) != 0)) then some false else if (p_x.Take==0) then some (p_x.Of==0) else some ((decide (0<=p_x.Of))&&(decide (p_x.Of<a)))) fun k1=>if (decide (p_x.From<(-1))) then k1 true else if (decide (a<=p_x.From)) then k1 true else (R6 N p_x.Set).bind fun y2=>if (!y2) then k1 true else if ((I8 .andNot .u32 p_x.Clear 16777215) != 0) then k1 true else k1 ((I8 .andNot .u32 p_x.Take 16777215) != 0)
theorem TU {p_x:Z7}{c:Int}{y:Bool}(h:CO N p_x c=some y) :FunO S LX [.p (.agg (O2 p_x)),pN c] [] (pB y) ([]) []:=by
 unfold CO at h;refine A4 Z func117 ?_;refine Hd Z Jy (A6 Z) h 0 (fun z1=>⟨[(32,pB z1),(2,.reg 3000 0),(1,pN c)],[(3000,.cells ((O2 p_x).map .p))]⟩) (fun M1 k1 b h=>?_) (fun z1 h=>?_)
 .refine kG Z h (fun h=>?_) (fun h=>?_)
  .exact b _ [(3000,3000)] _ true Jy h
  refine kG Z h (fun h=>?_) (fun h=>?_)
  .exact b _ [(3000,3000)] _ true Jy h
  refine kC Z h (JN Z Y) (fun y2 h=>?_);refine kG Z h (fun h=>?_) (fun h=>?_)
  .exact b _ [(3000,3000)] _ true Jy h
  refine kG Z h (fun h=>?_) (fun h=>?_)
  .exact b _ [(3000,3000)] _ true Jy h
  exact b _ [(3000,3000)] _ ((I8 .andNot .u32 p_x.Take 16777215) != 0) Jy h
 apply kI Z h<;>intro h
 .cases h;exact kR Z
 refine kB Z (A6 Z) Jy Jy 14 (.o (.o (.a ((I8 .and .u32 p_x.Clear (I8 .or .u32 p_x.Set.Plus p_x.Set.Minus)) != 0)) (.a ((I8 .and .u32 p_x.Take (I8 .or .u32 p_x.Set.Plus p_x.Set.Minus)) != 0))) (.a ((I8 .and .u32 p_x.Take p_x.Clear) != 0))) ?_;apply kI Z h<;>intro h
 .cases h;exact kR Z
 apply kI Z h<;>intro h
 .cases h;exact kR Z
 refine kB Z (A6 Z) Jy Jy 5 (.n (.a (decide (0<=p_x.Of))) (.a (decide (p_x.Of<c)))) ?_;cases h;exact kR Z
def Ak (N:Nat)(a:Law):Option Int:= (Aj N a.Name).bind fun y1=>lt (fun (z1:Bool)=>if z1 then some 17 else if (((((decide (4<(a.If.n:Int)))||(decide (6<(a.Out.n:Int))))||((wrap .i64 ((a.If.n:Int)+(a.Out.n:Int)))==0))||(decide (a.Mode<1)))||(decide (3<a.Mode))) then some 17 else R4 N (fun b (x2:Int)=>if (decide (x2<(a.If.n:Int))) then if ((0:Int)<=x2/\x2<(a.If.n:Int))then (R6 N (a.If.g x2.toNat)).bind fun y8=>if (!y8) then some 17 else b (wrap .i64 (x2+1)) else none else R4 N (fun c (x3:Int)=>if (decide (x3<(a.Out.n:Int))) then if ((0:Int)<=x3/\x3<(a.Out.n:Int))then (CO N (a.Out.g x3.toNat) (a.If.n:Int)).bind fun d=>if (!d) then some 17 else c (wrap .i64 (x3+1)) else none else some 0) 0) 0) fun k1=>if (!y1) then k1 true else (Ai N a.Left).bind fun y4=>if (y4 != 0) then k1 true else (Ai N a.Right).bind fun y5=>k1 (y5 != 0)
theorem QY {b:Law}{y:Int}(h:Ak N b=some y) :FunO S Ju [.p (.agg (A7 b))] [] (pN y) ([]) []:=by
 unfold Ak at h;refine A4 Z func86 ?_;refine I1 Z Jy 2 2000 (A7 b) ?_;refine kC Z h (TT Z Y) (fun y1 h=>?_);refine Hd Z Jy (A6 Z) h 0 (fun z1=>⟨[(20,pB z1),(1,.p (.ptr (A7 b)))],[]⟩) (fun M1 k1 c h=>?_) (fun z1 h=>?_)
 .refine kG Z h (fun h=>?_) (fun h=>?_)
  .exact c _ [] _ true Jy h
  obtain⟨y4,e4,h⟩:=B7 h;refine B9 Z [] (by decide:(7:Nat)<=17) (JO Z Y e4) ?_;refine kG Z h (fun h=>?_) (fun h=>?_)
  .exact c _ [] _ true Jy h
  obtain⟨y5,e5,h⟩:=B7 h;refine B9 Z [] (by decide:(7:Nat)<=10) (JO Z Y e5) ?_;exact c _ [] _ (y5 != 0) Jy h
 apply kI Z h<;>intro h
 .cases h;exact kR Z
 refine kB Z (A6 Z) Jy Jy 25 (.o (.o (.o (.o (.a (decide (4<(b.If.n:Int)))) (.a (decide (6<(b.Out.n:Int))))) (.a ((wrap .i64 ((b.If.n:Int)+(b.Out.n:Int)))==0))) (.a (decide (b.Mode<1)))) (.a (decide (3<b.Mode)))) ?_;apply kI Z h<;>intro h
 .cases h;exact kR Z
 refine I0 Z Jy h (fun x2=>⟨[(3,pN x2),(1,.p (.ptr (A7 b)))],[]⟩) (ids:=[]) (fun _ _ _ _ _ d x2 f h=>?_);apply kI Z h<;>intro h
 .obtain⟨c15,h⟩:=E2 h;obtain⟨y8,e8,h⟩:=B7 h;refine B9 Z [] (And.intro c15 Kw) (JN Z Y e8) ?_;apply kI Z h<;>intro h
  .cases h;exact kR Z
  exact f _ [] _ (wrap .i64 (x2+1)) Jy h
 refine I0 Z Jy h (fun x3=>⟨[(4,pN x3),(1,.p (.ptr (A7 b)))],[]⟩) (ids:=[]) (fun _ _ _ _ _ g x3 i h=>?_);apply kI Z h<;>intro h
 .refine E9 Z Jy [1,3,4,6,8] ?_;obtain⟨c24,h⟩:=E2 h;obtain⟨j,e11,h⟩:=B7 h;refine V7 (And.intro c24 (by decide:(6:Nat)<=6)) (TU Z Y e11) ?_;refine H9 Jy ?_;apply kI Z h<;>intro h
  .cases h;exact kR Z
  exact i _ [] _ (wrap .i64 (x3+1)) Jy h
 cases h;exact kR Z
end Go.AM
namespace Go.AM
open Go.Proofs.Tryz
variable {N:Nat}
open IntKind (wrap)
open Go.Proofs
set_option maxRecDepth 10000
set_option maxHeartbeats 2000000
variable {S:Q8}(Z:F5 S Tryz.prog) (Y:Ip S)
include Z Y
def P0 (N:Nat)(q0:Int):Option (List (Int)):= R4 N (fun a (x1:Int)=>if (x1 != 0) then (R5 N x1).bind fun y3=>if (0:Int)<=y3 then HV y3 (a (I8 .andNot .u64 x1 (shI .shl .u64 1 y3))) else none else some []) q0
theorem AN {q0:Int}{L:List (Int)}(h:P0 N q0=some L) :Fv S W9 [] [.reg 0 0] [.cells [.p (pI .u64 q0)]] (L.map (fun (x:Int)=>[pI .i64 x])):=by
 unfold P0 at h;refine Gq Z func210 ?_;refine He Z Jy h (fun x1 L1=>⟨[(1,.reg 0 0),(0,.yf 1)],[(1,.yld (L1.map (fun (x:Int)=>[pI .i64 x])) true),(0,.cells [.p (pI .u64 x1)])]⟩) (ids:=[(0,0),(1,1)]) (fun _ _ _ _ _ d x1 L1 f h=>?_);apply kI Z h<;>intro h
 .refine kC Z h (BB Z Y) (fun y3 h=>?_);refine MO Z Jy ?_;obtain⟨c10,h⟩:=E2 h;refine H9 c10 ?_;obtain⟨L4,rfl,c⟩:=MP h;replace h:=c;refine Dh Z Jy (ys:=(fun (x:Int)=>[pI .i64 x]) y3) (rest:=L4.map (fun (x:Int)=>[pI .i64 x])) ?_ ?_
  .refine E1 Z Jy (b:=false) (fun c11=>?_) (fun c11=>?_)
   .exact Bool.noConfusion ((rfl:false=false).symm.trans c11)
   exact f _ [(0,0),(1,1)] _ (I8 .andNot .u64 x1 (shI .shl .u64 1 y3)) L4 Jy h
  refine E1 Z Jy (b:=true) (fun c12=>?_) (fun c12=>?_)
  .exact A9 Z Jy (a:=.tup []) (objs:=[(.cells [.p (pI .u64 (I8 .andNot .u64 x1 (shI .shl .u64 1 y3)))]),.yld [] false]) ⟨[],[(1,.yld [] false),(0,.cells [.p (pI .u64 (I8 .andNot .u64 x1 (shI .shl .u64 1 y3)))])]⟩ [0,1] (ids:=[(0,0),(1,1)]) ⟨false,rfl,rfl,_,rfl⟩
  exact Bool.noConfusion (L7.symm.trans c12)
 obtain rfl:=C6 h;exact A9 Z Jy (a:=.tup []) (objs:=[(.cells [.p (pI .u64 x1)]),.yld [] true]) ⟨[],[(1,.yld [] true),(0,.cells [.p (pI .u64 x1)])]⟩ [0,1] (ids:=[(0,0),(1,1)]) ⟨true,rfl,rfl,_,rfl⟩
def W4 (N:Nat)(a:Int):Option (Int):= some a
theorem Cn {a:Int}{y:Int}(h:W4 N a=some y) :FunO S Fg [.p (pI .u64 a)] [] (.clo W9 [] [.reg 0 0]) ([.cells [.p (pI .u64 y)]]) []:=by unfold W4 at h;refine A4 Z func206 ?_;obtain rfl:=C6 h;exact A9 Z Jy ⟨[(2,.clo W9 [] [.reg 2000 0])],[(2000,.cells [.p (pI .u64 a)])]⟩ [2000] (ids:=[(2000,2000)]) ⟨rfl,rfl,rfl⟩
def H8 (N:Nat)(p_x:Nat->Int)(c:Nat->Int):Option (Nat->Int):= BQ N (fun a (x3:Nat->Int) (x4:Int)=>if (decide (x4<33)) then if (((0:Int)<=x4/\x4<33)/\(0+x4.toNat*1)<33)then (W4 N (p_x (0+x4.toNat*1))).bind fun y3=>(P0 N y3).bind fun L3=>AB L3 (fun b (x7:Int) (z3:Nat->Int)=>if (((((((0:Int)<=x4/\x4<33)/\(0+x4.toNat*1)<33)/\((0:Int)<=x7/\x7<33))/\(0+x7.toNat*1)<33)/\((0:Int)<=x4/\x4<33))/\(0+x4.toNat*1)<33)then b (Ku z3 (0+x4.toNat*1) (I8 .or .u64 (z3 (0+x4.toNat*1)) (c (0+x7.toNat*1)))) else none) (fun (z3:Nat->Int)=>a z3 (wrap .i64 (x4+1))) x3 else none else some x3) (fun _=>0) 0
theorem O3 {p_x:Nat->Int}{b:Nat->Int}{y:Nat->Int}(h:H8 N p_x b=some y) :FunO S U7 [.reg 0 0,.reg 1 0] [.arr 33 (fun i=>pI .u64 (p_x i)),.arr 33 (fun i=>pI .u64 (b i))] (.p (.agg (cA 33 (pI .u64) y))) ([.arr 33 (fun i=>pI .u64 (p_x i)),.arr 33 (fun i=>pI .u64 (b i))]) [true,true]:=by
 unfold H8 at h;refine A4 Z func234 ?_;refine H4 Z Jy h (fun x3 x4=>⟨[(10,pN x4),(9,.reg 0 0),(5,.reg 6000 0),(4,.reg 5000 0),(3,.reg 4000 0)],[(6000,.arr 33 (fun i=>pI .u64 (x3 i))),(5000,.arr 33 (fun i=>pI .u64 ((fun _=>0) i))),(4000,.cells [.reg 1 0]),(1,.arr 33 (fun i=>pI .u64 (b i))),(0,.arr 33 (fun i=>pI .u64 (p_x i)))]⟩) (ids:=[(0,0),(1,1),(4000,4000),(5000,5000),(6000,6000)]) (fun _ _ _ _ _ d x3 x4 f h=>?_) (hle:=klR [(1,.fn 33 33 (fun i=>[(fun i=>(List.replicate 33 (pI .u64 0)).getD i default) i]) (fun i=>[pI .u64 ((fun _=>0) i)])),(2,.fn 33 33 (fun i=>[(fun i=>(List.replicate 33 (pI .u64 0)).getD i default) i]) (fun i=>[pI .u64 ((fun _=>0) i)]))] (al1 ⟨rfl,Ae (z:=pI .u64 0) rfl⟩ (al1 ⟨rfl,Ae (z:=pI .u64 0) rfl⟩ al0)));apply kI Z h<;>intro h
 .refine G7 Z Jy [(2,.l [0]),(3,.l [0]),(4,.a [7000]),(5,.a [7000])] ?_;obtain⟨c12,h⟩:=E2 h;refine H9 c12 ?_;refine I1 Z Jy 16 7000 [pI .i64 x4] ?_;refine kC Z h (Cn Z Y) (fun y3 h=>?_);obtain⟨L3,e6,h⟩:=B7 h;refine FB Z Jy [18000] [10,9,6,5,4,3] 905 (fun z3=>⟨[(10,pN x4),(9,.reg 0 0),(6,.p (.ptr [pI .i64 x4])),(5,.reg 6000 0),(4,.reg 5000 0),(3,.reg 4000 0)],[(6000,.arr 33 (fun i=>pI .u64 (z3 i))),(5000,.arr 33 (fun i=>pI .u64 ((fun _=>0) i))),(4000,.cells [.reg 1 0]),(1,.arr 33 (fun i=>pI .u64 (b i))),(0,.arr 33 (fun i=>pI .u64 (p_x i)))]⟩) (idl:=[(0,0),(1,1),(4000,4000),(5000,5000),(6000,6000)]) h (AN Z Y e6) (fun _=>by kernel_rfl) (fun _=>by kernel_rfl) (fun _=>by kernel_rfl) (fun _=>by kernel_rfl) (fun x7 _ g z3 j h=>?_) (fun z3 h=>?_)
  .refine Jc Z Jy ?_;refine G7 Z Jy [(0,.n),(1,.l [6000]),(2,.l [6000]),(3,.l [4000]),(6,.l [1]),(7,.l [1]),(9,.l [6000]),(10,.a [6000])] ?_;obtain⟨c15,h⟩:=E2 h;refine H9 c15 ?_;exact j _ [(0,0),(1,1),(905,905),(4000,4000),(5000,5000),(6000,6000)] _ (Ku z3 (0+x4.toNat*1) (I8 .or .u64 (z3 (0+x4.toNat*1)) (b (0+x7.toNat*1)))) Jy h (hle:=klR [(0,.fn 33 33 (fun i=>[(fun i=>if i=(0+x4.toNat*1)then (pI .u64 (I8 .or .u64 (z3 (0+x4.toNat*1)) (b (0+x7.toNat*1))))else (fun i=>pI .u64 (z3 i)) i) i]) (fun i=>[pI .u64 (Ku z3 (0+x4.toNat*1) (I8 .or .u64 (z3 (0+x4.toNat*1)) (b (0+x7.toNat*1))) i)]))] (al1 ⟨rfl,ZO (c:=pI .u64) (v:=z3) (x:=I8 .or .u64 (z3 (0+x4.toNat*1)) (b (0+x7.toNat*1))) (fun _ _=>rfl) rfl⟩ al0))
  exact f _ [(0,0),(1,1),(4000,4000),(5000,5000),(6000,6000)] _ z3 (wrap .i64 (x4+1)) Jy h
 obtain rfl:=C6 h;exact A9 Z (And.intro rfl (E4 _ _):(0:Nat)=0/\(AI 33 (fun i=>pI .u64 (x3 i))).length=33) ⟨[(4,.reg 5000 0)],[(5000,.arr 33 (fun i=>pI .u64 (x3 i))),(1,.arr 33 (fun i=>pI .u64 (b i))),(0,.arr 33 (fun i=>pI .u64 (p_x i)))]⟩ [0,1] (ids:=[(0,0),(1,1),(5000,5000)]) ⟨rfl,rfl,rfl⟩ (hle:=klR [(0,.fn 33 33 (fun i=>[(fun i=>(cA 33 (pI .u64) x3).getD i default) i]) (fun i=>[pI .u64 (x3 i)]))] (al1 ⟨rfl,D3 33 (fun i=>pI .u64 (x3 i))⟩ al0))
def N9 (N:Nat)(p_x:Nat->Int):Option (Nat->Int):= BQ N (fun a (x3:Nat->Int) (x4:Int)=>if (decide (x4<33)) then if (((0:Int)<=x4/\x4<33)/\(0+x4.toNat*1)<33)then (W4 N (p_x (0+x4.toNat*1))).bind fun y3=>(P0 N y3).bind fun L3=>AB L3 (fun b (x7:Int) (z3:Nat->Int)=>if (((((((0:Int)<=x4/\x4<33)/\(0+x4.toNat*1)<33)/\((0:Int)<=x7/\x7<33))/\(0+x7.toNat*1)<33)/\((0:Int)<=x4/\x4<33))/\(0+x4.toNat*1)<33)then b (Ku z3 (0+x4.toNat*1) (I8 .or .u64 (z3 (0+x4.toNat*1)) (p_x (0+x7.toNat*1)))) else none) (fun (z3:Nat->Int)=>a z3 (wrap .i64 (x4+1))) x3 else none else some x3) (fun _=>0) 0
theorem AE {p_x:Nat->Int}{y:Nat->Int}(h:N9 N p_x=some y) :FunO S U7 [.reg 0 0,.reg 0 0] [.arr 33 (fun i=>pI .u64 (p_x i))] (.p (.agg (cA 33 (pI .u64) y))) ([.arr 33 (fun i=>pI .u64 (p_x i))]) [true]:=by
 unfold N9 at h;refine A4 Z func234 ?_;refine H4 Z Jy h (fun x3 x4=>⟨[(10,pN x4),(9,.reg 0 0),(5,.reg 6000 0),(4,.reg 5000 0),(3,.reg 4000 0)],[(6000,.arr 33 (fun i=>pI .u64 (x3 i))),(5000,.arr 33 (fun i=>pI .u64 ((fun _=>0) i))),(4000,.cells [.reg 0 0]),(0,.arr 33 (fun i=>pI .u64 (p_x i)))]⟩) (ids:=[(0,0),(4000,4000),(5000,5000),(6000,6000)]) (fun _ _ _ _ _ b x3 x4 d h=>?_) (hle:=klR [(1,.fn 33 33 (fun i=>[(fun i=>(List.replicate 33 (pI .u64 0)).getD i default) i]) (fun i=>[pI .u64 ((fun _=>0) i)])),(2,.fn 33 33 (fun i=>[(fun i=>(List.replicate 33 (pI .u64 0)).getD i default) i]) (fun i=>[pI .u64 ((fun _=>0) i)]))] (al1 ⟨rfl,Ae (z:=pI .u64 0) rfl⟩ (al1 ⟨rfl,Ae (z:=pI .u64 0) rfl⟩ al0)));apply kI Z h<;>intro h
 .refine G7 Z Jy [(2,.l [0]),(3,.l [0]),(4,.a [7000]),(5,.a [7000])] ?_;obtain⟨c12,h⟩:=E2 h;refine H9 c12 ?_;refine I1 Z Jy 16 7000 [pI .i64 x4] ?_;refine kC Z h (Cn Z Y) (fun y3 h=>?_);obtain⟨L3,e6,h⟩:=B7 h;refine FB Z Jy [18000] [10,9,6,5,4,3] 905 (fun z3=>⟨[(10,pN x4),(9,.reg 0 0),(6,.p (.ptr [pI .i64 x4])),(5,.reg 6000 0),(4,.reg 5000 0),(3,.reg 4000 0)],[(6000,.arr 33 (fun i=>pI .u64 (z3 i))),(5000,.arr 33 (fun i=>pI .u64 ((fun _=>0) i))),(4000,.cells [.reg 0 0]),(0,.arr 33 (fun i=>pI .u64 (p_x i)))]⟩) (idl:=[(0,0),(4000,4000),(5000,5000),(6000,6000)]) h (AN Z Y e6) (fun _=>by kernel_rfl) (fun _=>by kernel_rfl) (fun _=>by kernel_rfl) (fun _=>by kernel_rfl) (fun x7 _ f z3 g h=>?_) (fun z3 h=>?_)
  .refine Jc Z Jy ?_;refine G7 Z Jy [(0,.n),(1,.l [6000]),(2,.l [6000]),(3,.l [4000]),(6,.l [0]),(7,.l [0]),(9,.l [6000]),(10,.a [6000])] ?_;obtain⟨c15,h⟩:=E2 h;refine H9 c15 ?_;exact g _ [(0,0),(905,905),(4000,4000),(5000,5000),(6000,6000)] _ (Ku z3 (0+x4.toNat*1) (I8 .or .u64 (z3 (0+x4.toNat*1)) (p_x (0+x7.toNat*1)))) Jy h (hle:=klR [(0,.fn 33 33 (fun i=>[(fun i=>if i=(0+x4.toNat*1)then (pI .u64 (I8 .or .u64 (z3 (0+x4.toNat*1)) (p_x (0+x7.toNat*1))))else (fun i=>pI .u64 (z3 i)) i) i]) (fun i=>[pI .u64 (Ku z3 (0+x4.toNat*1) (I8 .or .u64 (z3 (0+x4.toNat*1)) (p_x (0+x7.toNat*1))) i)]))] (al1 ⟨rfl,ZO (c:=pI .u64) (v:=z3) (x:=I8 .or .u64 (z3 (0+x4.toNat*1)) (p_x (0+x7.toNat*1))) (fun _ _=>rfl) rfl⟩ al0))
  exact d _ [(0,0),(4000,4000),(5000,5000),(6000,6000)] _ z3 (wrap .i64 (x4+1)) Jy h
 obtain rfl:=C6 h;exact A9 Z (And.intro rfl (E4 _ _):(0:Nat)=0/\(AI 33 (fun i=>pI .u64 (x3 i))).length=33) ⟨[(4,.reg 5000 0)],[(5000,.arr 33 (fun i=>pI .u64 (x3 i))),(0,.arr 33 (fun i=>pI .u64 (p_x i)))]⟩ [0] (ids:=[(0,0),(5000,5000)]) ⟨rfl,rfl,rfl⟩ (hle:=klR [(0,.fn 33 33 (fun i=>[(fun i=>(cA 33 (pI .u64) x3).getD i default) i]) (fun i=>[pI .u64 (x3 i)]))] (al1 ⟨rfl,D3 33 (fun i=>pI .u64 (x3 i))⟩ al0))
def J0 (N:Nat)(p_x:Nat->Int)(b:Int)(c:Int):Option (Nat->Int):= (R8 N c).bind fun y1=>Ai7 N (fun a (x1:Int) (x2:Nat->Int) (x3:Nat->Int)=>if (decide (0<x1)) then if ((I8 .and .i64 x1 1)==1) then (H8 N x3 x2).bind fun y8=>(N9 N x2).bind fun y9=>a (shI .shr .i64 x1 1) y9 y8 else (N9 N x2).bind fun d=>a (shI .shr .i64 x1 1) d x3 else some x3) b p_x y1
theorem S1 {p_x:Nat->Int}{b:Int}{c:Int}{y:Nat->Int}(h:J0 N p_x b c=some y) :FunO S AC [.p (.agg (cA 33 (pI .u64) p_x)),pN b,pN c] [] (.p (.agg (cA 33 (pI .u64) y))) ([]) []:=by
 unfold J0 at h;refine A4 Z func227 ?_;refine kC Z h (BD Z Y) (fun y1 h=>?_);refine YH Z (And.intro rfl (E4 _ _):(0:Nat)=0/\(AI 33 (fun i=>pI .u64 (y1 i))).length=33) h (fun x1 x2 x3=>⟨[(7,.reg 8000 0),(6,.reg 7000 0),(3,.reg 4000 0),(1,pN x1)],[(8000,.arr 33 (fun i=>pI .u64 (x3 i))),(7000,.arr 33 (fun i=>pI .u64 ((fun _=>0) i))),(4000,.arr 33 (fun i=>pI .u64 (x2 i)))]⟩) (ids:=[(4000,4000),(7000,7000),(8000,8000)]) (fun _ _ _ _ _ f x1 x2 x3 d h=>?_) (hle:=klR [(1,.fn 33 33 (fun i=>[(fun i=>(cA 33 (pI .u64) y1).getD i default) i]) (fun i=>[pI .u64 (y1 i)])),(2,.fn 33 33 (fun i=>[(fun i=>(List.replicate 33 (pI .u64 0)).getD i default) i]) (fun i=>[pI .u64 ((fun _=>0) i)])),(3,.fn 33 33 (fun i=>[(fun i=>(cA 33 (pI .u64) p_x).getD i default) i]) (fun i=>[pI .u64 (p_x i)]))] (al1 ⟨rfl,D3 33 (fun i=>pI .u64 (y1 i))⟩ (al1 ⟨rfl,Ae (z:=pI .u64 0) rfl⟩ (al1 ⟨rfl,D3 33 (fun i=>pI .u64 (p_x i))⟩ al0))));apply kI Z h<;>intro h
 .apply kI Z h<;>intro h
  .obtain⟨y8,e8,h⟩:=B7 h;refine B9 Z [8000,4000] Jy (O3 Z Y e8) ?_;obtain⟨y9,e9,h⟩:=B7 h;refine B9 Z [4000] (And.intro rfl (E4 _ _):(0:Nat)=0/\(AI 33 (fun i=>pI .u64 (y8 i))).length=33) (AE Z Y e9) ?_;exact d _ [(4000,4000),(7000,7000),(8000,8000)] _ (shI .shr .i64 x1 1) y9 y8 (And.intro (And.intro rfl (E4 _ _):(0:Nat)=0/\(AI 33 (fun i=>pI .u64 (y9 i))).length=33) (by decide:(0:Int)<=1)) h (hle:=klR [(1,.fn 33 33 (fun i=>[(fun i=>(cA 33 (pI .u64) y8).getD i default) i]) (fun i=>[pI .u64 (y8 i)])),(3,.fn 33 33 (fun i=>[(fun i=>(cA 33 (pI .u64) y9).getD i default) i]) (fun i=>[pI .u64 (y9 i)]))] (al1 ⟨rfl,D3 33 (fun i=>pI .u64 (y8 i))⟩ (al1 ⟨rfl,D3 33 (fun i=>pI .u64 (y9 i))⟩ al0)))
  obtain⟨a,e10,h⟩:=B7 h;refine B9 Z [4000] Jy (AE Z Y e10) ?_;exact d _ [(4000,4000),(7000,7000),(8000,8000)] _ (shI .shr .i64 x1 1) a x3 (And.intro (And.intro rfl (E4 _ _):(0:Nat)=0/\(AI 33 (fun i=>pI .u64 (a i))).length=33) (by decide:(0:Int)<=1)) h (hle:=klR [(3,.fn 33 33 (fun i=>[(fun i=>(cA 33 (pI .u64) a).getD i default) i]) (fun i=>[pI .u64 (a i)]))] (al1 ⟨rfl,D3 33 (fun i=>pI .u64 (a i))⟩ al0))
 obtain rfl:=C6 h;exact A9 Z (And.intro rfl (E4 _ _):(0:Nat)=0/\(AI 33 (fun i=>pI .u64 (x3 i))).length=33) ⟨[(6,.reg 7000 0)],[(7000,.arr 33 (fun i=>pI .u64 (x3 i)))]⟩ [] (ids:=[(7000,7000)]) ⟨rfl,rfl,rfl⟩ (hle:=klR [(0,.fn 33 33 (fun i=>[(fun i=>(cA 33 (pI .u64) x3).getD i default) i]) (fun i=>[pI .u64 (x3 i)]))] (al1 ⟨rfl,D3 33 (fun i=>pI .u64 (x3 i))⟩ al0))
end Go.AM
namespace Go.AM
open Go.Proofs.Tryz
variable {N:Nat}
open IntKind (wrap)
open Go.Proofs
set_option maxRecDepth 10000
set_option maxHeartbeats 2000000
variable {S:Q8}(Z:F5 S Tryz.prog) (Y:Ip S)
include Z Y
def BF (N:Nat)(p_x:VB)(b:Sl Nd):Option (Nat->Int):= BQ N (fun a (x1:Nat->Int) (x2:Int)=>if (decide (x2<(b.n:Int))) then if ((0:Int)<=x2/\x2<(b.n:Int))then if ((((I8 .or .u32 (I8 .andNot .u32 p_x.is.Plus (b.g x2.toNat).Plus) (I8 .andNot .u32 p_x.is.Minus (b.g x2.toNat).Minus))==0)==p_x.not) != true) then if (((0:Int)<=(wrap .i64 (x2+1))/\((0:Int)<=x2/\x2<33))/\(0+x2.toNat*1)<33)then a (Ku x1 (0+x2.toNat*1) (shI .shl .u64 1 (wrap .i64 (x2+1)))) (wrap .i64 (x2+1)) else none else a x1 (wrap .i64 (x2+1)) else none else some x1) (fun _=>0) 0
theorem JP {p_x:VB}{a:Sl Nd}{y:Nat->Int}(h:BF N p_x a=some y) :FunO S BA [.p (.agg (Sn p_x)),.p (vSl 2 A0 a)] [] (.p (.agg (cA 33 (pI .u64) y))) ([]) []:=by
 unfold BF at h;refine A4 Z func228 ?_;refine H4 Z Jy h (fun x1 x2=>⟨[(9,pN x2),(8,pN (a.n:Int)),(7,.p (vSl 2 A0 a)),(4,.reg 5000 0),(2,.reg 3000 0)],[(5000,.arr 33 (fun i=>pI .u64 (x1 i))),(3000,.cells ((Sn p_x).map .p))]⟩) (ids:=[(3000,3000),(5000,5000)]) (fun _ _ _ _ _ f x1 x2 d h=>?_) (hle:=klR [(3,.fn 33 33 (fun i=>[(fun i=>(List.replicate 33 (pI .u64 0)).getD i default) i]) (fun i=>[pI .u64 ((fun _=>0) i)]))] (al1 ⟨rfl,Ae (z:=pI .u64 0) rfl⟩ al0));apply kI Z h<;>intro h
 .obtain⟨c8,h⟩:=E2 h;refine E1 Z (And.intro c8 Kw) (b:=(((I8 .or .u32 (I8 .andNot .u32 p_x.is.Plus (a.g x2.toNat).Plus) (I8 .andNot .u32 p_x.is.Minus (a.g x2.toNat).Minus))==0)==p_x.not) != true) (fun c9=>?_) (fun c9=>?_)
  .replace h:=itT c9 h;obtain⟨c10,h⟩:=E2 h;exact d _ [(3000,3000),(5000,5000)] _ (Ku x1 (0+x2.toNat*1) (shI .shl .u64 1 (wrap .i64 (x2+1)))) (wrap .i64 (x2+1)) c10 h (hle:=klR [(3,.fn 33 33 (fun i=>[(fun i=>if i=(0+x2.toNat*1)then (pI .u64 (shI .shl .u64 1 (wrap .i64 (x2+1))))else (fun i=>pI .u64 (x1 i)) i) i]) (fun i=>[pI .u64 (Ku x1 (0+x2.toNat*1) (shI .shl .u64 1 (wrap .i64 (x2+1))) i)]))] (al1 ⟨rfl,ZO (c:=pI .u64) (v:=x1) (x:=shI .shl .u64 1 (wrap .i64 (x2+1))) (fun _ _=>rfl) rfl⟩ al0))
  replace h:=itF c9 h;exact d _ [(3000,3000),(5000,5000)] _ x1 (wrap .i64 (x2+1)) Jy h
 obtain rfl:=C6 h;exact A9 Z (And.intro rfl (E4 _ _):(0:Nat)=0/\(AI 33 (fun i=>pI .u64 (x1 i))).length=33) ⟨[(4,.reg 5000 0)],[(5000,.arr 33 (fun i=>pI .u64 (x1 i)))]⟩ [] (ids:=[(5000,5000)]) ⟨rfl,rfl,rfl⟩ (hle:=klR [(0,.fn 33 33 (fun i=>[(fun i=>(cA 33 (pI .u64) x1).getD i default) i]) (fun i=>[pI .u64 (x1 i)]))] (al1 ⟨rfl,D3 33 (fun i=>pI .u64 (x1 i))⟩ al0))
def Co (N:Nat)(p_x:ZW)(a:Sl Nd):Option (Nat->Int):= if p_x.end_ then if (((0:Int)<=(a.n:Int)/\((0:Int)<=(a.n:Int)/\(a.n:Int)<33))/\(0+(a.n:Int).toNat*1)<33)then some (Ku (fun _=>0) (0+(a.n:Int).toNat*1) (shI .shl .u64 1 (a.n:Int))) else none else if (((0:Int)<=0/\(0:Int)<33)/\(0+0*1)<33)then some (Ku (fun _=>0) (0+0*1) (shI .shl .u64 1 0)) else none
theorem KO {p_x:ZW}{a:Sl Nd}{y:Nat->Int}(h:Co N p_x a=some y) :FunO S Ck [.p (.agg (ZX p_x)),.p (vSl 2 A0 a)] [] (.p (.agg (cA 33 (pI .u64) y))) ([]) []:=by
 unfold Co at h;refine A4 Z func229 ?_;apply kI Z h<;>intro h
 .obtain⟨c2,h⟩:=E2 h;obtain rfl:=C6 h;exact A9 Z (And.intro (And.intro (And.intro c2.1.1 c2.1.2) c2.2) (And.intro rfl (E4 _ _):(0:Nat)=0/\(AI 33 (fun i=>if i=(0+(a.n:Int).toNat*1)then (pI .u64 (shI .shl .u64 1 (a.n:Int)))else (fun i=>(List.replicate 33 (pI .u64 0)).getD i default) i)).length=33)) ⟨[(4,.reg 5000 0)],[(5000,.arr 33 (fun i=>pI .u64 (Ku (fun _=>0) (0+(a.n:Int).toNat*1) (shI .shl .u64 1 (a.n:Int)) i)))]⟩ [] (ids:=[(5000,5000)]) ⟨rfl,rfl,rfl⟩ (hle:=klR [(0,.fn 33 33 (fun i=>[(fun i=>(AI 33 (fun i=>if i=(0+(a.n:Int).toNat*1)then (pI .u64 (shI .shl .u64 1 (a.n:Int)))else (fun i=>(List.replicate 33 (pI .u64 0)).getD i default) i)).getD i default) i]) (fun i=>[pI .u64 (Ku (fun _=>0) (0+(a.n:Int).toNat*1) (shI .shl .u64 1 (a.n:Int)) i)]))] (al1 ⟨rfl,fun i b=>(D3 33 (fun i=>if i=(0+(a.n:Int).toNat*1)then (pI .u64 (shI .shl .u64 1 (a.n:Int)))else (fun i=>(List.replicate 33 (pI .u64 0)).getD i default) i) i b).trans (ZO (c:=pI .u64) (v:=fun _=>0) (x:=shI .shl .u64 1 (a.n:Int)) (Ae (z:=pI .u64 0) rfl) rfl i b)⟩ al0))
 obtain⟨c3,h⟩:=E2 h;obtain rfl:=C6 h;exact A9 Z (And.intro (And.intro (And.intro (by decide:(0:Int)<=0) c3.1) c3.2) (And.intro rfl (E4 _ _):(0:Nat)=0/\(AI 33 (fun i=>if i=(0+0*1)then (pI .u64 (shI .shl .u64 1 0))else (fun i=>(List.replicate 33 (pI .u64 0)).getD i default) i)).length=33)) ⟨[(4,.reg 5000 0)],[(5000,.arr 33 (fun i=>pI .u64 (Ku (fun _=>0) (0+0*1) (shI .shl .u64 1 0) i)))]⟩ [] (ids:=[(5000,5000)]) ⟨rfl,rfl,rfl⟩ (hle:=klR [(0,.fn 33 33 (fun i=>[(fun i=>(AI 33 (fun i=>if i=(0+0*1)then (pI .u64 (shI .shl .u64 1 0))else (fun i=>(List.replicate 33 (pI .u64 0)).getD i default) i)).getD i default) i]) (fun i=>[pI .u64 (Ku (fun _=>0) (0+0*1) (shI .shl .u64 1 0) i)]))] (al1 ⟨rfl,fun i b=>(D3 33 (fun i=>if i=(0+0*1)then (pI .u64 (shI .shl .u64 1 0))else (fun i=>(List.replicate 33 (pI .u64 0)).getD i default) i) i b).trans (ZO (c:=pI .u64) (v:=fun _=>0) (x:=shI .shl .u64 1 0) (Ae (z:=pI .u64 0) rfl) rfl i b)⟩ al0))
def Dt (rec:Part->(Sl Nd)->Option (Nat->Int))(N:Nat)(p_x:Pseq)(b:Sl Nd):Option (Nat->Int):= (R8 N (b.n:Int)).bind fun y1=>BQ N (fun a (x1:Nat->Int) (x2:Int)=>if (decide (x2<(p_x.l.n:Int))) then if ((0:Int)<=x2/\x2<(p_x.l.n:Int))then (rec (p_x.l.g x2.toNat) b).bind fun y6=>(H8 N x1 y6).bind fun y7=>a y7 (wrap .i64 (x2+1)) else none else some x1) y1 0
theorem Nq {rec:Part->(Sl Nd)->Option ((Nat->Int))}(b:∀{x:Part}{b0:(Sl Nd)}{y:(Nat->Int)},rec x b0=some y->Af6 S Tryz.prog (Ec x) "ablaut/pats.in" [(.p (vSl 2 A0 b0))] (.p (.agg (cA 33 (pI .u64) y)))){p_x:Pseq}{a:(Sl Nd)}{y:(Nat->Int)}(h:Dt rec N p_x a=some y) :FunO S Dp [(.p (.agg (Ag8 p_x))),(.p (vSl 2 A0 a))] [] (.p (.agg (cA 33 (pI .u64) y))) ([]) []:=by
 unfold Dt at h;refine A4 Z func235 ?_;refine kC Z h (BD Z Y) (fun y1 h=>?_);refine H4 Z (And.intro rfl (E4 _ _):(0:Nat)=0/\(AI 33 (fun i=>pI .u64 (y1 i))).length=33) h (fun x1 x2=>⟨[(15,(pN x2)),(14,(pN (p_x.l.n:Int))),(13,(.p (vSl 1 CK p_x.l))),(5,(.reg 6000 0)),(4,(.reg 5000 0)),(1,(.p (vSl 2 A0 a)))],[(6000,(.arr 33 (fun i=>pI .u64 (x1 i)))),(5000,(.arr 33 (fun i=>pI .u64 ((fun _=>0) i))))]⟩) (ids:=[(5000,5000),(6000,6000)]) (fun _ _ _ _ _ c x1 x2 d h=>?_) (hle:=(klR [(4,.fn 33 33 (fun i=>[(fun i=>(cA 33 (pI .u64) y1).getD i default) i]) (fun i=>[pI .u64 (y1 i)])),(5,.fn 33 33 (fun i=>[(fun i=>(List.replicate 33 (pI .u64 0)).getD i default) i]) (fun i=>[pI .u64 ((fun _=>0) i)]))] (al1 ⟨rfl,(D3 33 (fun i=>pI .u64 (y1 i)))⟩ (al1 ⟨rfl,(Ae (z:=pI .u64 0) rfl)⟩ al0))));apply kI Z h<;>intro h
 .obtain⟨c6,h⟩:=E2 h;obtain⟨y6,e6,h⟩:=B7 h;refine Io Z c6 (b e6) ?_;refine BR Z (And.intro rfl (E4 _ _):(0:Nat)=0/\(AI 33 (fun i=>pI .u64 (y6 i))).length=33) ⟨[(15,(pN x2)),(14,(pN (p_x.l.n:Int))),(13,(.p (vSl 1 CK p_x.l))),(8,(.reg 9000 0)),(5,(.reg 6000 0)),(4,(.reg 5000 0)),(1,(.p (vSl 2 A0 a)))],[(9000,(.arr 33 (fun i=>pI .u64 (y6 i)))),(6000,(.arr 33 (fun i=>pI .u64 (x1 i)))),(5000,(.arr 33 (fun i=>pI .u64 ((fun _=>0) i))))]⟩ (ids:=[(5000,5000),(6000,6000),(9000,9000)]) ?_ (hle:=(klR [(4,.fn 33 33 (fun i=>[(fun i=>(cA 33 (pI .u64) y6).getD i default) i]) (fun i=>[pI .u64 (y6 i)]))] (al1 ⟨rfl,(D3 33 (fun i=>pI .u64 (y6 i)))⟩ al0)));obtain⟨y7,e7,h⟩:=B7 h;refine B9 Z [6000,9000] Jy (O3 Z Y e7) ?_;exact d _ [(5000,5000),(6000,6000)] _ y7 (wrap .i64 (x2+1)) (And.intro rfl (E4 _ _):(0:Nat)=0/\(AI 33 (fun i=>pI .u64 (y7 i))).length=33) h (hle:=klR [(4,.fn 33 33 (fun i=>[(fun i=>(cA 33 (pI .u64) y7).getD i default) i]) (fun i=>[pI .u64 (y7 i)]))] (al1 ⟨rfl,(D3 33 (fun i=>pI .u64 (y7 i)))⟩ al0))
 obtain rfl:=C6 h;exact A9 Z (And.intro rfl (E4 _ _):(0:Nat)=0/\(AI 33 (fun i=>pI .u64 (x1 i))).length=33) ⟨[(4,(.reg 5000 0))],[(5000,(.arr 33 (fun i=>pI .u64 (x1 i))))]⟩ [] (ids:=[(5000,5000)]) ⟨rfl,rfl,rfl⟩ (hle:=(klR [(0,.fn 33 33 (fun i=>[(fun i=>(cA 33 (pI .u64) x1).getD i default) i]) (fun i=>[pI .u64 (x1 i)]))] (al1 ⟨rfl,(D3 33 (fun i=>pI .u64 (x1 i)))⟩ al0)))
def Du (rec:Part->(Sl Nd)->Option (Nat->Int))(N:Nat)(p_x:Palt)(b:Sl Nd):Option (Nat->Int):= BQ N (fun a (x1:Nat->Int) (x2:Int)=>if (decide (x2<(p_x.l.n:Int))) then if ((0:Int)<=x2/\x2<(p_x.l.n:Int))then (rec (p_x.l.g x2.toNat) b).bind fun y5=>(Q0 N x1 y5).bind fun y6=>a y6 (wrap .i64 (x2+1)) else none else some x1) (fun _=>0) 0
theorem Nr {rec:Part->(Sl Nd)->Option ((Nat->Int))}(b:∀{x:Part}{b0:(Sl Nd)}{y:(Nat->Int)},rec x b0=some y->Af6 S Tryz.prog (Ec x) "ablaut/pats.in" [(.p (vSl 2 A0 b0))] (.p (.agg (cA 33 (pI .u64) y)))){p_x:Palt}{a:(Sl Nd)}{y:(Nat->Int)}(h:Du rec N p_x a=some y) :FunO S Dm [(.p (.agg (Ag6 p_x))),(.p (vSl 2 A0 a))] [] (.p (.agg (cA 33 (pI .u64) y))) ([]) []:=by
 unfold Du at h;refine A4 Z func230 ?_;refine H4 Z Jy h (fun x1 x2=>⟨[(11,(pN x2)),(10,(pN (p_x.l.n:Int))),(9,(.p (vSl 1 CK p_x.l))),(4,(.reg 5000 0)),(1,(.p (vSl 2 A0 a)))],[(5000,(.arr 33 (fun i=>pI .u64 (x1 i))))]⟩) (ids:=[(5000,5000)]) (fun _ _ _ _ _ c x1 x2 d h=>?_) (hle:=(klR [(4,.fn 33 33 (fun i=>[(fun i=>(List.replicate 33 (pI .u64 0)).getD i default) i]) (fun i=>[pI .u64 ((fun _=>0) i)]))] (al1 ⟨rfl,(Ae (z:=pI .u64 0) rfl)⟩ al0)));apply kI Z h<;>intro h
 .obtain⟨c6,h⟩:=E2 h;obtain⟨y5,e5,h⟩:=B7 h;refine Io Z c6 (b e5) ?_;refine BR Z (And.intro rfl (E4 _ _):(0:Nat)=0/\(AI 33 (fun i=>pI .u64 (y5 i))).length=33) ⟨[(11,(pN x2)),(10,(pN (p_x.l.n:Int))),(9,(.p (vSl 1 CK p_x.l))),(7,(.reg 8000 0)),(4,(.reg 5000 0)),(1,(.p (vSl 2 A0 a)))],[(8000,(.arr 33 (fun i=>pI .u64 (y5 i)))),(5000,(.arr 33 (fun i=>pI .u64 (x1 i))))]⟩ (ids:=[(5000,5000),(8000,8000)]) ?_ (hle:=(klR [(4,.fn 33 33 (fun i=>[(fun i=>(cA 33 (pI .u64) y5).getD i default) i]) (fun i=>[pI .u64 (y5 i)]))] (al1 ⟨rfl,(D3 33 (fun i=>pI .u64 (y5 i)))⟩ al0)));obtain⟨y6,e6,h⟩:=B7 h;refine B9 Z [5000,8000] Jy (BY Z Y e6) ?_;exact d _ [(5000,5000)] _ y6 (wrap .i64 (x2+1)) Jy h
 obtain rfl:=C6 h;exact A9 Z (And.intro rfl (E4 _ _):(0:Nat)=0/\(AI 33 (fun i=>pI .u64 (x1 i))).length=33) ⟨[(4,(.reg 5000 0))],[(5000,(.arr 33 (fun i=>pI .u64 (x1 i))))]⟩ [] (ids:=[(5000,5000)]) ⟨rfl,rfl,rfl⟩ (hle:=(klR [(0,.fn 33 33 (fun i=>[(fun i=>(cA 33 (pI .u64) x1).getD i default) i]) (fun i=>[pI .u64 (x1 i)]))] (al1 ⟨rfl,(D3 33 (fun i=>pI .u64 (x1 i)))⟩ al0)))
def Dv (rec:Part->(Sl Nd)->Option (Nat->Int))(N:Nat)(p_x:Prep)(a:Sl Nd):Option (Nat->Int):= (rec p_x.of a).bind fun y1=>(J0 N y1 p_x.min (a.n:Int)).bind fun y2=>(R8 N (a.n:Int)).bind fun y3=>(Q0 N y1 y3).bind fun y4=>if (decide (p_x.max<0)) then (J0 N y4 (a.n:Int) (a.n:Int)).bind fun y5=>(H8 N y2 y5).bind fun y6=>some y6 else (J0 N y4 (wrap .i64 (p_x.max-p_x.min)) (a.n:Int)).bind fun y7=>(H8 N y2 y7).bind fun y8=>some y8
theorem Ns {rec:Part->(Sl Nd)->Option ((Nat->Int))}(b:∀{x:Part}{b0:(Sl Nd)}{y:(Nat->Int)},rec x b0=some y->Af6 S Tryz.prog (Ec x) "ablaut/pats.in" [(.p (vSl 2 A0 b0))] (.p (.agg (cA 33 (pI .u64) y)))){p_x:Prep}{a:(Sl Nd)}{y:(Nat->Int)}(h:Dv rec N p_x a=some y) :FunO S Dn [(.p (.agg (Ag7 p_x))),(.p (vSl 2 A0 a))] [] (.p (.agg (cA 33 (pI .u64) y))) ([]) []:=by
 unfold Dv at h;refine A4 Z func232 ?_;obtain⟨y1,e1,h⟩:=B7 h;refine Io Z Jy (b e1) ?_;refine BR Z (And.intro rfl (E4 _ _):(0:Nat)=0/\(AI 33 (fun i=>pI .u64 (y1 i))).length=33) ⟨[(18,(pN (a.n:Int))),(16,(pN p_x.min)),(14,(.p (.agg (cA 33 (pI .u64) y1)))),(5,(.reg 6000 0)),(4,(.reg 5000 0)),(2,(.reg 3000 0)),(1,(.p (vSl 2 A0 a)))],[(6000,(.arr 33 (fun i=>pI .u64 (y1 i)))),(5000,(.arr 33 (fun i=>pI .u64 ((fun _=>0) i)))),(3000,(.cells [(.p (Ec p_x.of)),(pN p_x.min),(pN p_x.max)]))]⟩ (ids:=[(3000,3000),(5000,5000),(6000,6000)]) ?_ (hle:=(klR [(2,.eq (.agg (AI 33 (fun i=>(cA 33 (pI .u64) y1).getD i default))) (.agg (cA 33 (pI .u64) y1))),(4,.fn 33 33 (fun i=>[(fun i=>(cA 33 (pI .u64) y1).getD i default) i]) (fun i=>[pI .u64 (y1 i)])),(5,.fn 33 33 (fun i=>[(fun i=>(List.replicate 33 (pI .u64 0)).getD i default) i]) (fun i=>[pI .u64 ((fun _=>0) i)]))] (al1 (congrArg PV.agg (Tv (D3 33 (fun i=>pI .u64 (y1 i))))) (al1 ⟨rfl,(D3 33 (fun i=>pI .u64 (y1 i)))⟩ (al1 ⟨rfl,(Ae (z:=pI .u64 0) rfl)⟩ al0)))));refine kC Z h (S1 Z Y) (fun y2 h=>?_);obtain⟨y3,e3,h⟩:=B7 h;refine B9 Z [] (And.intro (And.intro rfl (E4 _ _):(0:Nat)=0/\(AI 33 (fun i=>pI .u64 (y2 i))).length=33) (And.intro rfl (E4 _ _):(0:Nat)=0/\(AI 33 (fun i=>pI .u64 (y1 i))).length=33)) (BD Z Y e3) ?_;refine BR Z (And.intro rfl (E4 _ _):(0:Nat)=0/\(AI 33 (fun i=>pI .u64 (y3 i))).length=33) ⟨[(8,(.reg 9000 0)),(7,(.reg 8000 0)),(6,(.reg 7000 0)),(4,(.reg 5000 0)),(2,(.reg 3000 0)),(1,(.p (vSl 2 A0 a)))],[(9000,(.arr 33 (fun i=>pI .u64 (y3 i)))),(8000,(.arr 33 (fun i=>pI .u64 (y1 i)))),(7000,(.arr 33 (fun i=>pI .u64 (y2 i)))),(5000,(.arr 33 (fun i=>pI .u64 ((fun _=>0) i)))),(3000,(.cells [(.p (Ec p_x.of)),(pN p_x.min),(pN p_x.max)]))]⟩ (ids:=[(3000,3000),(5000,5000),(7000,7000),(8000,8000),(9000,9000)]) ?_ (hle:=(klR [(1,.fn 33 33 (fun i=>[(fun i=>(cA 33 (pI .u64) y3).getD i default) i]) (fun i=>[pI .u64 (y3 i)])),(2,.fn 33 33 (fun i=>[(fun i=>(cA 33 (pI .u64) y1).getD i default) i]) (fun i=>[pI .u64 (y1 i)])),(3,.fn 33 33 (fun i=>[(fun i=>(cA 33 (pI .u64) y2).getD i default) i]) (fun i=>[pI .u64 (y2 i)]))] (al1 ⟨rfl,(D3 33 (fun i=>pI .u64 (y3 i)))⟩ (al1 ⟨rfl,(D3 33 (fun i=>pI .u64 (y1 i)))⟩ (al1 ⟨rfl,(D3 33 (fun i=>pI .u64 (y2 i)))⟩ al0)))));obtain⟨y4,e4,h⟩:=B7 h;refine B9 Z [8000,9000] Jy (BY Z Y e4) ?_;apply kI Z h<;>intro h
 .refine kC Z h (S1 Z Y) (fun y5 h=>?_);refine BR Z (And.intro rfl (E4 _ _):(0:Nat)=0/\(AI 33 (fun i=>pI .u64 (y5 i))).length=33) ⟨[(7,(.reg 8000 0)),(6,(.reg 7000 0)),(4,(.reg 5000 0))],[(8000,(.arr 33 (fun i=>pI .u64 (y5 i)))),(7000,(.arr 33 (fun i=>pI .u64 (y2 i)))),(5000,(.arr 33 (fun i=>pI .u64 ((fun _=>0) i))))]⟩ (ids:=[(5000,5000),(7000,7000),(8000,8000)]) ?_ (hle:=(klR [(0,.fn 33 33 (fun i=>[(fun i=>(cA 33 (pI .u64) y5).getD i default) i]) (fun i=>[pI .u64 (y5 i)]))] (al1 ⟨rfl,(D3 33 (fun i=>pI .u64 (y5 i)))⟩ al0)));obtain⟨y6,e6,h⟩:=B7 h;refine B9 Z [7000,8000] Jy (O3 Z Y e6) ?_;obtain rfl:=C6 h;exact A9 Z (And.intro rfl (E4 _ _):(0:Nat)=0/\(AI 33 (fun i=>pI .u64 (y6 i))).length=33) ⟨[(4,(.reg 5000 0))],[(5000,(.arr 33 (fun i=>pI .u64 (y6 i))))]⟩ [] (ids:=[(5000,5000)]) ⟨rfl,rfl,rfl⟩ (hle:=(klR [(0,.fn 33 33 (fun i=>[(fun i=>(cA 33 (pI .u64) y6).getD i default) i]) (fun i=>[pI .u64 (y6 i)]))] (al1 ⟨rfl,(D3 33 (fun i=>pI .u64 (y6 i)))⟩ al0)))
 refine kC Z h (S1 Z Y) (fun y7 h=>?_);refine BR Z (And.intro rfl (E4 _ _):(0:Nat)=0/\(AI 33 (fun i=>pI .u64 (y7 i))).length=33) ⟨[(7,(.reg 8000 0)),(6,(.reg 7000 0)),(4,(.reg 5000 0))],[(8000,(.arr 33 (fun i=>pI .u64 (y7 i)))),(7000,(.arr 33 (fun i=>pI .u64 (y2 i)))),(5000,(.arr 33 (fun i=>pI .u64 ((fun _=>0) i))))]⟩ (ids:=[(5000,5000),(7000,7000),(8000,8000)]) ?_ (hle:=(klR [(0,.fn 33 33 (fun i=>[(fun i=>(cA 33 (pI .u64) y7).getD i default) i]) (fun i=>[pI .u64 (y7 i)]))] (al1 ⟨rfl,(D3 33 (fun i=>pI .u64 (y7 i)))⟩ al0)));obtain⟨y8,e8,h⟩:=B7 h;refine B9 Z [7000,8000] Jy (O3 Z Y e8) ?_;obtain rfl:=C6 h;exact A9 Z (And.intro rfl (E4 _ _):(0:Nat)=0/\(AI 33 (fun i=>pI .u64 (y8 i))).length=33) ⟨[(4,(.reg 5000 0))],[(5000,(.arr 33 (fun i=>pI .u64 (y8 i))))]⟩ [] (ids:=[(5000,5000)]) ⟨rfl,rfl,rfl⟩ (hle:=(klR [(0,.fn 33 33 (fun i=>[(fun i=>(cA 33 (pI .u64) y8).getD i default) i]) (fun i=>[pI .u64 (y8 i)]))] (al1 ⟨rfl,(D3 33 (fun i=>pI .u64 (y8 i)))⟩ al0)))
def AO (rec:Pat->Option Part)(N:Nat)(a:Pat):Option Part:= BQ N (fun b (x1:Sl Part) (x2:Int)=>if (decide (x2<(a.L.n:Int))) then if ((0:Int)<=x2/\x2<(a.L.n:Int))then (rec (a.L.g x2.toNat)).bind fun y3=>if ((x1.n+(Sl.of [y3]:Sl Part).n)*16<=140737488355328/\x1.n+(Sl.of [y3]:Sl Part).n<=140737488355328)then b (x1.push y3) (wrap .i64 (x2+1)) else none else none else if (a.Kind==1) then some (Part.sound a.Is a.Not) else if (a.Kind==2) then some (Part.edge false) else if (a.Kind==6) then some (Part.edge true) else if (a.Kind==4) then some (Part.alt x1.n x1.g) else if (a.Kind==5) then if (((0:Int)<=0/\0<(x1.n:Int))/\0<x1.n)then some (Part.rep (x1.g 0) a.Min a.Max) else none else some (Part.seq x1.n x1.g)) (Sl.nil:Sl Part) 0
def Cp:Nat->Pat->Option Part
 |0=>fun _=>none
 |N+1=>AO (Cp N) N
theorem JQ {rec:Pat->Option Part}(b:∀{a:Pat}{y:Part},rec a=some y->FunO S Av [.p (.agg (B1 a))] [] (.p (Ec y)) ([]) []){a:Pat}{y:Part}(h:AO rec N a=some y) :FunO S Av [.p (.agg (B1 a))] [] (.p (Ec y)) ([]) []:=by
 unfold AO at h;refine A4 Z func208 ?_;refine I1 Z Jy 2 2000 (B1 a) ?_;refine F6 Z Jy 8 ⟨[(7,.p (vSl 7 B1 a.L)),(3,.p E3),(1,.p (.ptr (B1 a)))],[]⟩ (ids:=[]) ?_ (hle:=klR [(0,.fn a.L.n a.L.n (Z6 a) (fun i=>B1 (a.L.g i)))] (al1 ⟨rfl,N1 a⟩ al0));refine H4 Z Jy h (fun x1 x2=>⟨[(9,pN x2),(8,pN (a.L.n:Int)),(7,.p (vSl 7 B1 a.L)),(3,.vec 4500),(1,.p (.ptr (B1 a)))],[(4500,.vec QR 1 x1.n (fun i=>CK (x1.g i)) false)]⟩) (ids:=[]) (fun _ _ _ _ _ d x1 x2 f h=>?_);apply kI Z h<;>intro h
 .obtain⟨c6,h⟩:=E2 h;refine I1 Z (And.intro c6 Ky) 13 6000 (B1 (a.L.g x2.toNat)) ?_;obtain⟨y3,e3,h⟩:=B7 h;refine B9 Z [] Ky (b e3) ?_;obtain⟨c7,h⟩:=E2 h;exact f _ [(4500,18000)] _ (x1.push y3) (wrap .i64 (x2+1)) (And.intro L7 c7) h (hle:=klR [(4,.fn (x1.n+1) (x1.push y3).n (U3 x1.n (fun i=>CK (x1.g i)) (E5 [.v .nilIface] [(0,CK y3)])) (fun i=>CK ((x1.push y3).g i)))] (al1 ⟨rfl,OE (c:=CK) (v:=x1) (x:=y3) (z:=[(.v .nilIface)]) same rfl rfl⟩ al0))
 apply kI Z h<;>intro h
 .obtain rfl:=C6 h;exact ZL Z (by decide:(2:Nat)<=6) [] ⟨rfl,rfl,rfl⟩
 apply kI Z h<;>intro h
 .cases h;exact kR Z
 apply kI Z h<;>intro h
 .cases h;exact kR Z
 apply kI Z h<;>intro h
 .refine F6 Z Jy 40 ⟨[(39,.p (vSl 1 CK x1))],[]⟩ (ids:=[]) ?_;cases h;exact kR Z
 apply kI Z h<;>intro h
 .refine E9 Z Jy [4,6] ?_;obtain⟨c13,h⟩:=E2 h;refine H9 c13 ?_;cases h;exact kR Z
 refine F6 Z Jy 54 ⟨[(53,.p (vSl 1 CK x1))],[]⟩ (ids:=[]) ?_;cases h;exact kR Z
theorem KP {a:Pat}{y:Part}(h:Cp N a=some y) :FunO S Av [.p (.agg (B1 a))] [] (.p (Ec y)) ([]) []:=by
 induction N generalizing a y with
 |zero=>cases (show (none:Option Part)=some y from h)
 |succ N ih=>exact JQ Z Y (fun e=>ih e) h
end Go.AM
namespace Go.AM
open Go.Proofs
variable {S:Q8}(Z:F5 S Tryz.prog) (Y:Ip S)
include Z Y
def Ep:Nat->Part->Sl Nd->Option (Nat->Int)
 |0=>fun _ _=>none
 |N+1=>fun p w=>match p with
  |.nil=>none
  |.sound x no=>BF N ⟨x,no⟩ w
  |.edge e=>Co N ⟨e⟩ w
  |.seq n g=>Dt (Ep N) N ⟨⟨n,g⟩⟩ w
  |.alt n g=>Du (Ep N) N ⟨⟨n,g⟩⟩ w
  |.rep o mn mx=>Dv (Ep N) N ⟨o,mn,mx⟩ w
theorem VK {N:Nat}{x:Part}{w:Sl Nd}{y:Nat->Int}(h:Ep N x w=some y):Af6 S Tryz.prog (Ec x) "ablaut/pats.in" [(.p (vSl 2 A0 w))] (.p (.agg (cA 33 (pI .u64) y))):=by
 induction N generalizing x w y with
 |zero=>cases h
 |succ N ih=>
  cases x with
  |nil=>cases h
  |sound s no=>exact⟨_,_,BA,rfl,by kernel_rfl,JP Z Y (p_x:=⟨s,no⟩) h⟩
  |edge e=>exact⟨_,_,Ck,rfl,by kernel_rfl,KO Z Y (N:=N) (p_x:=⟨e⟩) h⟩
  |seq n g=>exact⟨_,_,Dp,rfl,by kernel_rfl,Nq Z Y (fun e=>ih e) (p_x:=⟨⟨n,g⟩⟩) h⟩
  |alt n g=>exact⟨_,_,Dm,rfl,by kernel_rfl,Nr Z Y (fun e=>ih e) (p_x:=⟨⟨n,g⟩⟩) h⟩
  |rep o mn mx=>exact⟨_,_,Dn,rfl,by kernel_rfl,Ns Z Y (fun e=>ih e) (p_x:=⟨o,mn,mx⟩) h⟩
end Go.AM
namespace Go.AM
open Go.Proofs.Tryz
variable {N:Nat}
open IntKind (wrap)
open Go.Proofs
set_option maxRecDepth 10000
set_option maxHeartbeats 2000000
variable {S:Q8}(Z:F5 S Tryz.prog) (Y:Ip S)
include Z Y
def BG (N:Nat)(a:Nd):Option Bool:= (K7 N a).bind fun y1=>some (!y1)
theorem JR {a:Nd}{y:Bool}(h:BG N a=some y) :FunO S El [.p (.agg (A0 a))] [] (pB y) ([]) []:=by unfold BG at h;refine A4 Z func207 ?_;refine kC Z h (BX Z Y) (fun y1 h=>?_);cases h;exact kR Z
def D1 (N:Nat)(a:Sl Nd)(c:Nd->Option Bool):Option Int:= R4 N (fun b (x1:Int)=>if (decide (x1<(a.n:Int))) then if ((0:Int)<=x1/\x1<(a.n:Int))then (c (a.g x1.toNat)).bind fun y3=>if y3 then some x1 else b (wrap .i64 (x1+1)) else none else some (-1)) 0
theorem P8 {a:Sl Nd}{c:Nd->Option Bool}{kp_f:Nat}(d:∀{a0:Nd}{b:Bool},c a0=some b->FunO S kp_f [.p (.agg (A0 a0))] [] (pB b) [] []){y:Int}(h:D1 N a c=some y) :FunO S I3 [.p (vSl 2 A0 a),.clo kp_f [] []] [] (pN y) ([]) []:=by
 unfold D1 at h;refine A4 Z func123 ?_;refine I0 Z Jy h (fun x1=>⟨[(8,pN x1),(7,pN (a.n:Int)),(1,.clo kp_f [] []),(0,.p (vSl 2 A0 a))],[]⟩) (ids:=[]) (fun _ _ _ _ _ f x1 g h=>?_);apply kI Z h<;>intro h
 .obtain⟨c8,h⟩:=E2 h;obtain⟨y3,e3,h⟩:=B7 h;refine B9 Z [] (And.intro c8 Kw) (d e3) ?_;apply kI Z h<;>intro h
  .cases h;exact kR Z
  exact g _ [] _ (wrap .i64 (x1+1)) Jy h
 cases h;exact kR Z
def B3 (N:Nat)(a:Sl Nd)(b:Nd->Option Bool):Option Bool:= (D1 N a b).bind fun y1=>some (decide (0<=y1))
theorem H3 {a:Sl Nd}{c:Nd->Option Bool}{kp_f:Nat}(d:∀{a0:Nd}{b:Bool},c a0=some b->FunO S kp_f [.p (.agg (A0 a0))] [] (pB b) [] []){y:Bool}(h:B3 N a c=some y) :FunO S H2 [.p (vSl 2 A0 a),.clo kp_f [] []] [] (pB y) ([]) []:=by unfold B3 at h;refine A4 Z func104 ?_;refine kC Z h (P8 Z Y (fun e=>d e)) (fun y1 h=>?_);cases h;exact kR Z
def C5 (N:Nat)(q0:Sl Pat):Option (List (Int×Pat)):= R4 N (fun a (x1:Int)=>if (decide (0<=x1)) then if ((0:Int)<=x1/\x1<(q0.n:Int))then HV (x1,q0.g x1.toNat) (a (wrap .i64 (x1-1))) else none else some []) (wrap .i64 ((q0.n:Int)-1))
theorem T8 {q0:Sl Pat}{L:List (Int×Pat)}(h:C5 N q0=some L) :Fv S D5 [] [.reg 0 0] [.cells [.p (vSl 7 B1 q0)]] (L.map (fun (x:Int×Pat)=>[pI .i64 x.1,(fun x=>.agg (B1 x)) x.2])):=by
 unfold C5 at h;refine Gq Z func142 ?_;refine He Z Jy h (fun x1 L1=>⟨[(3,pN x1),(1,.reg 0 0),(0,.yf 1)],[(1,.yld (L1.map (fun (x:Int×Pat)=>[pI .i64 x.1,(fun x=>.agg (B1 x)) x.2])) true),(0,.cells [.p (vSl 7 B1 q0)])]⟩) (ids:=[(0,0),(1,1)]) (fun _ _ _ _ _ d x1 L1 f h=>?_);apply kI Z h<;>intro h
 .obtain⟨c10,h⟩:=E2 h;obtain⟨L4,rfl,c⟩:=MP h;replace h:=c;refine Dh Z (And.intro c10 Ky) (ys:=(fun (x:Int×Pat)=>[pI .i64 x.1,(fun x=>.agg (B1 x)) x.2]) (x1,q0.g x1.toNat)) (rest:=L4.map (fun (x:Int×Pat)=>[pI .i64 x.1,(fun x=>.agg (B1 x)) x.2])) ?_ ?_
  .refine E1 Z Jy (b:=false) (fun c11=>?_) (fun c11=>?_)
   .exact Bool.noConfusion ((rfl:false=false).symm.trans c11)
   exact f _ [(0,0),(1,1)] _ (wrap .i64 (x1-1)) L4 Jy h
  refine E1 Z Jy (b:=true) (fun c12=>?_) (fun c12=>?_)
  .exact A9 Z Jy (a:=.tup []) (objs:=[(.cells [.p (vSl 7 B1 q0)]),.yld [] false]) ⟨[],[(1,.yld [] false),(0,.cells [.p (vSl 7 B1 q0)])]⟩ [0,1] (ids:=[(0,0),(1,1)]) ⟨false,rfl,rfl,_,rfl⟩
  exact Bool.noConfusion (L7.symm.trans c12)
 obtain rfl:=C6 h;exact A9 Z Jy (a:=.tup []) (objs:=[(.cells [.p (vSl 7 B1 q0)]),.yld [] true]) ⟨[],[(1,.yld [] true),(0,.cells [.p (vSl 7 B1 q0)])]⟩ [0,1] (ids:=[(0,0),(1,1)]) ⟨true,rfl,rfl,_,rfl⟩
def G6 (N:Nat)(a:Sl Pat):Option (Sl Pat):= some a
theorem W5 {a:Sl Pat}{y:Sl Pat}(h:G6 N a=some y) :FunO S K5 [.p (vSl 7 B1 a)] [] (.clo D5 [] [.reg 0 0]) ([.cells [.p (vSl 7 B1 y)]]) []:=by unfold G6 at h;refine A4 Z func122 ?_;obtain rfl:=C6 h;exact A9 Z Jy ⟨[(2,.clo D5 [] [.reg 2000 0])],[(2000,.cells [.p (vSl 7 B1 a)])]⟩ [2000] (ids:=[(2000,2000)]) ⟨rfl,rfl,rfl⟩
def S2 (N:Nat)(c:Pat):Option Int:= BQ N (fun a (x3:Sl Pat) (x4:Int)=>if (decide (0<(x3.n:Int))) then if (x4==40) then some 12 else if (((0:Int)<=(wrap .i64 ((x3.n:Int)-1))/\(wrap .i64 ((x3.n:Int)-1))<(x3.n:Int))/\(wrap .i64 ((x3.n:Int)-1)).toNat<x3.n)then if ((0:Int)<=(wrap .i64 ((x3.n:Int)-1))/\(wrap .i64 ((x3.n:Int)-1))<=(x3.n:Int))then (W3 N (x3.g (wrap .i64 ((x3.n:Int)-1)).toNat)).bind fun y5=>if (y5 != 0) then some y5 else if ((0:Int)<=(if 41<((x3.g (wrap .i64 ((x3.n:Int)-1)).toNat).L.n:Int)then 41 else ((x3.g (wrap .i64 ((x3.n:Int)-1)).toNat).L.n:Int))/\(if 41<((x3.g (wrap .i64 ((x3.n:Int)-1)).toNat).L.n:Int)then 41 else ((x3.g (wrap .i64 ((x3.n:Int)-1)).toNat).L.n:Int))<=((x3.g (wrap .i64 ((x3.n:Int)-1)).toNat).L.n:Int))then (G6 N ((x3.g (wrap .i64 ((x3.n:Int)-1)).toNat).L.take (if 41<((x3.g (wrap .i64 ((x3.n:Int)-1)).toNat).L.n:Int)then 41 else ((x3.g (wrap .i64 ((x3.n:Int)-1)).toNat).L.n:Int)).toNat)).bind fun y6=>(C5 N y6).bind fun L3=>AB L3 (fun b (x7:Int×Pat) (z3:Sl Pat)=>if ((((z3.n+(Sl.of [Pat.nil]:Sl Pat).n)*64<=140737488355328/\z3.n+(Sl.of [Pat.nil]:Sl Pat).n<=140737488355328)/\((0:Int)<=(z3.n:Int)/\(z3.n:Int)<((z3.push Pat.nil).n:Int)))/\(z3.n:Int).toNat<(z3.push Pat.nil).n)then b ((z3.push Pat.nil).upd (z3.n:Int).toNat x7.2) else none) (fun (z3:Sl Pat)=>a z3 (wrap .i64 (x4+1))) (x3.take (wrap .i64 ((x3.n:Int)-1)).toNat) else none else none else none else some 0) (Sl.of [c]:Sl Pat) 0
theorem Er {b:Pat}{y:Int}(h:S2 N b=some y) :FunO S HJ [.p (.agg (B1 b))] [] (pN y) ([]) []:=by
 unfold S2 at h;refine A4 Z func103 ?_;refine I1 Z Jy 2 2000 (B1 b) ?_;refine H4 Z (And.intro Ky L7) h (fun x3 x4=>⟨[(4,pN x4),(3,.reg 4000 0)],[(4501,.vec CM 7 x3.n (fun i=>B1 (x3.g i)) false),(4000,.cells [.vec 4501])]⟩) (ids:=[(4000,4000),(4501,12000)]) (fun _ _ _ _ _ d x3 x4 j h=>?_) (hle:=klR [(1,.fn 1 (Sl.of [b]:Sl Pat).n (E5 [pI .i64 0,pI .u32 0,pI .u32 0,.v (.bool false),pI .i64 0,pI .i64 0,E3] [(0,B1 b)]) (fun i=>B1 ((Sl.of [b]:Sl Pat).g i)))] (al1 ⟨rfl,(fun i m=>match i,m with|0,_=>rfl|_+1,m=>Jo m (by omega))⟩ al0));apply kI Z h<;>intro h
 .apply kI Z h<;>intro h
  .cases h;exact kR Z
  obtain⟨c21,h⟩:=E2 h;refine I1 Z (And.intro (And.intro c21.1 Ky) c21.2) 25 6000 (B1 (x3.g (wrap .i64 ((x3.n:Int)-1)).toNat)) ?_;obtain⟨c22,h⟩:=E2 h;refine Af7 Z c22 30 4501 (wrap .i64 ((x3.n:Int)-1)).toNat 4508 (e:=CM) (k:=7) (N:=x3.n) (f:=fun i=>B1 (x3.g i)) (by have r:=c22;omega) ?_;obtain⟨y5,e7,h⟩:=B7 h;refine B9 Z [] Ky (KM Z Y e7) ?_;apply kI Z h<;>intro h
  .cases h;exact kR Z
  refine F6 Z Jy 39 ⟨[(38,.p (vSl 7 B1 (x3.g (wrap .i64 ((x3.n:Int)-1)).toNat).L)),(36,.p (vSl 7 B1 (x3.g (wrap .i64 ((x3.n:Int)-1)).toNat).L)),(4,pN x4),(3,.reg 4000 0)],[(4508,.vec CM 7 (x3.take (wrap .i64 ((x3.n:Int)-1)).toNat).n (fun i=>B1 ((x3.take (wrap .i64 ((x3.n:Int)-1)).toNat).g i)) false),(4000,.cells [.vec 4508])]⟩ (ids:=[(4000,4000),(4508,4508)]) ?_ (hle:=klR [(0,.fn (x3.g (wrap .i64 ((x3.n:Int)-1)).toNat).L.n (x3.g (wrap .i64 ((x3.n:Int)-1)).toNat).L.n (Z6 (x3.g (wrap .i64 ((x3.n:Int)-1)).toNat)) (fun i=>B1 ((x3.g (wrap .i64 ((x3.n:Int)-1)).toNat).L.g i))),(1,.fn (x3.g (wrap .i64 ((x3.n:Int)-1)).toNat).L.n (x3.g (wrap .i64 ((x3.n:Int)-1)).toNat).L.n (Z6 (x3.g (wrap .i64 ((x3.n:Int)-1)).toNat)) (fun i=>B1 ((x3.g (wrap .i64 ((x3.n:Int)-1)).toNat).L.g i)))] (al1 ⟨rfl,N1 (x3.g (wrap .i64 ((x3.n:Int)-1)).toNat)⟩ (al1 ⟨rfl,N1 (x3.g (wrap .i64 ((x3.n:Int)-1)).toNat)⟩ al0)));obtain⟨c24,h⟩:=E2 h;obtain⟨y6,e8,h⟩:=B7 h;refine B9 Z [] c24 (W5 Z Y e8) ?_;obtain⟨L3,e9,h⟩:=B7 h;refine FB Z Jy [44000] [4,3] 905 (fun z3=>⟨[(4,pN x4),(3,.reg 4000 0)],[(4500,.vec CM 7 z3.n (fun i=>B1 (z3.g i)) false),(4000,.cells [.vec 4500])]⟩) (idl:=[(4000,4000),(4500,4508)]) h (T8 Z Y e9) (fun _=>by kernel_rfl) (fun _=>by kernel_rfl) (fun _=>by kernel_rfl) (fun _=>by kernel_rfl) (fun x7 _ o z3 q h=>?_) (fun z3 h=>?_)
  .refine Jc Z Jy ?_;refine XH Z Jy 10000 (B1 x7.2) ?_;refine G7 Z Jy [(0,.l [4000]),(1,.n),(2,.l [4500]),(4,.a [51000,4500]),(5,.l [51000]),(6,.a [51000]),(7,.a [4000])] ?_;refine Dg Ky (x:=.sl true 7 1 (E5 [pI .i64 0,pI .u32 0,pI .u32 0,.v (.bool false),pI .i64 0,pI .i64 0,E3] [(0,[pI .i64 0,pI .u32 0,pI .u32 0,.v (.bool false),pI .i64 0,pI .i64 0,E3])])) ?_;obtain⟨c27,h⟩:=E2 h;refine H9 (And.intro (And.intro c27.1.1 c27.1.2) (And.intro (rfl:(7:Nat)=7) (And.intro c27.2 Ky))) ?_;exact q _ [(905,905),(4000,4000),(4500,51000)] _ ((z3.push Pat.nil).upd (z3.n:Int).toNat x7.2) Jy h (hle:=klR [(0,.fn (z3.n+1) ((z3.push Pat.nil).upd (z3.n:Int).toNat x7.2).n (fun l=>if l=(z3.n:Int).toNat then splice (U3 z3.n (fun i=>B1 (z3.g i)) (E5 [pI .i64 0,pI .u32 0,pI .u32 0,.v (.bool false),pI .i64 0,pI .i64 0,E3] [(0,[pI .i64 0,pI .u32 0,pI .u32 0,.v (.bool false),pI .i64 0,pI .i64 0,E3])]) l) 0 [pI .i64 x7.2.Kind,pI .u32 x7.2.Is.Plus,pI .u32 x7.2.Is.Minus,.bb x7.2.Not,pI .i64 x7.2.Min,pI .i64 x7.2.Max,.sl false 7 x7.2.L.n (Z6 x7.2)]else (U3 z3.n (fun i=>B1 (z3.g i)) (E5 [pI .i64 0,pI .u32 0,pI .u32 0,.v (.bool false),pI .i64 0,pI .i64 0,E3] [(0,[pI .i64 0,pI .u32 0,pI .u32 0,.v (.bool false),pI .i64 0,pI .i64 0,E3])])) l) (fun i=>B1 (((z3.push Pat.nil).upd (z3.n:Int).toNat x7.2).g i)))] (al1 ⟨rfl,setH (c:=B1) (v:=z3.push Pat.nil) (x:=x7.2) (app1H (c:=B1) (v:=z3) (z:=Pat.nil) same rfl) (fun _=>by simp[U3,E5,splice])⟩ al0))
  exact j _ [(4000,4000),(4501,4500)] _ z3 (wrap .i64 (x4+1)) Jy h
 cases h;exact kR Z
def Bg (N:Nat)(b:Pat)(a:Sl Nd):Option ((Nat->Int)×Int):= (S2 N b).bind fun y1=>if (y1 != 0) then some (fun _=>0,y1) else if (decide (32<(a.n:Int))) then some (fun _=>0,11) else (B3 N a (fun (u1:Nd)=>BG N u1)).bind fun y2=>if y2 then some (fun _=>0,14) else (Cp N b).bind fun y3=>(Ep N y3 a).bind fun y4=>some (y4,0)
theorem GH {a:Pat}{b:Sl Nd}{y:(Nat->Int)×Int}(h:Bg N a b=some y) :FunO S GD [.p (.agg (B1 a)),.p (vSl 2 A0 b)] [] (.tup [.p (.agg (cA 33 (pI .u64) y.1)),pN y.2]) ([]) []:=by
 unfold Bg at h;refine A4 Z func203 ?_;refine kC Z h (Er Z Y) (fun y1 h=>?_);apply kI Z h<;>intro h
 .obtain rfl:=C6 h;exact A9 Z (And.intro rfl (E4 _ _):(0:Nat)=0/\(AI 33 (fun i=>pI .u64 ((fun _=>0) i))).length=33) ⟨[(5,pN y1),(4,.reg 5000 0)],[(5000,.arr 33 (fun i=>pI .u64 ((fun _=>0) i)))]⟩ [] (ids:=[(5000,5000)]) ⟨rfl,rfl,rfl⟩ (hle:=klR [(1,.fn 33 33 (fun i=>[(fun i=>(cA 33 (pI .u64) (fun _=>0)).getD i default) i]) (fun i=>[pI .u64 ((fun _=>0) i)]))] (al1 ⟨rfl,D3 33 (fun i=>pI .u64 ((fun _=>0) i))⟩ al0))
 apply kI Z h<;>intro h
 .obtain rfl:=C6 h;exact A9 Z (And.intro rfl (E4 _ _):(0:Nat)=0/\(AI 33 (fun i=>pI .u64 ((fun _=>0) i))).length=33) ⟨[(5,pN 11),(4,.reg 5000 0)],[(5000,.arr 33 (fun i=>pI .u64 ((fun _=>0) i)))]⟩ [] (ids:=[(5000,5000)]) ⟨rfl,rfl,rfl⟩ (hle:=klR [(1,.fn 33 33 (fun i=>[(fun i=>(cA 33 (pI .u64) (fun _=>0)).getD i default) i]) (fun i=>[pI .u64 ((fun _=>0) i)]))] (al1 ⟨rfl,D3 33 (fun i=>pI .u64 ((fun _=>0) i))⟩ al0))
 refine kC Z h (H3 Z Y (fun e=>JR Z Y e)) (fun y2 h=>?_);apply kI Z h<;>intro h
 .obtain rfl:=C6 h;exact A9 Z (And.intro rfl (E4 _ _):(0:Nat)=0/\(AI 33 (fun i=>pI .u64 ((fun _=>0) i))).length=33) ⟨[(5,pN 14),(4,.reg 5000 0)],[(5000,.arr 33 (fun i=>pI .u64 ((fun _=>0) i)))]⟩ [] (ids:=[(5000,5000)]) ⟨rfl,rfl,rfl⟩ (hle:=klR [(1,.fn 33 33 (fun i=>[(fun i=>(cA 33 (pI .u64) (fun _=>0)).getD i default) i]) (fun i=>[pI .u64 ((fun _=>0) i)]))] (al1 ⟨rfl,D3 33 (fun i=>pI .u64 ((fun _=>0) i))⟩ al0))
 refine kC Z h (KP Z Y) (fun y3 h=>?_);obtain⟨y4,e4,h⟩:=B7 h;refine Io Z Jy (VK Z Y e4) ?_;obtain rfl:=C6 h;exact A9 Z (And.intro rfl (E4 _ _):(0:Nat)=0/\(AI 33 (fun i=>pI .u64 (y4 i))).length=33) ⟨[(5,pN 0),(4,.reg 5000 0)],[(5000,.arr 33 (fun i=>pI .u64 (y4 i)))]⟩ [] (ids:=[(5000,5000)]) ⟨rfl,rfl,rfl⟩ (hle:=klR [(1,.fn 33 33 (fun i=>[(fun i=>(cA 33 (pI .u64) y4).getD i default) i]) (fun i=>[pI .u64 (y4 i)]))] (al1 ⟨rfl,D3 33 (fun i=>pI .u64 (y4 i))⟩ al0))
def Dw (N:Nat)(d:Pat)(c:Sl Nd)(a:Int):Option ((Sl Int)×Int):= (Bg N d c).bind fun y1=>lt (fun (z1:Int)=>if (z1 != 0) then some (Na,z1) else BQ N (fun b (x2:Sl Int) (x3:Int)=>if (decide (x3<(wrap .i64 ((c.n:Int)+1)))) then if ((((0:Int)<=x3/\x3<33)/\(0+x3.toNat*1)<33)/\(0:Int)<=a)then if ((I8 .and .u64 (shI .shr .u64 (y1.1 (0+x3.toNat*1)) a) 1)==1) then if ((x2.n+(Sl.of [x3]:Sl Int).n)*8<=140737488355328/\x2.n+(Sl.of [x3]:Sl Int).n<=140737488355328)then b (x2.push x3) (wrap .i64 (x3+1)) else none else b x2 (wrap .i64 (x3+1)) else none else some (x2,0)) Na 0) fun k1=>if (y1.2==0) then (Bf N c a).bind fun y3=>k1 y3 else k1 y1.2
theorem Nt {f:Pat}{d:Sl Nd}{a:Int}{y:(Sl Int)×Int}(h:Dw N f d a=some y) :FunO S GC [.p (.agg (B1 f)),.p (vSl 2 A0 d),pN a] [] (.tup [.vec 0,pN y.2]) ([.vec B2 1 y.1.n (fun i=>cI .i64 (y.1.g i)) true]) []:=by
 unfold Dw at h;refine A4 Z func193 ?_;refine kC Z h (GH Z Y) (fun y1 h=>?_);refine Hd Z (And.intro rfl (E4 _ _):(0:Nat)=0/\(AI 33 (fun i=>pI .u64 (y1.1 i))).length=33) (A6 Z) h 0 (fun z1=>⟨[(9,pN z1),(8,.reg 9000 0),(2,pN a),(1,.p (vSl 2 A0 d))],[(9000,.arr 33 (fun i=>pI .u64 (y1.1 i)))]⟩) (fun M1 k1 j h=>?_) (fun z1 h=>?_)
 .apply kI Z h<;>intro h
  .refine kC Z h (GG Z Y) (fun y3 h=>?_);exact j _ [(9000,9000)] _ y3 Jy h (hle:=klR [(3,.fn 33 33 (fun i=>[(fun i=>(cA 33 (pI .u64) y1.1).getD i default) i]) (fun i=>[pI .u64 (y1.1 i)]))] (al1 ⟨rfl,D3 33 (fun i=>pI .u64 (y1.1 i))⟩ al0))
  exact j _ [(9000,9000)] _ y1.2 Jy h (hle:=klR [(3,.fn 33 33 (fun i=>[(fun i=>(cA 33 (pI .u64) y1.1).getD i default) i]) (fun i=>[pI .u64 (y1.1 i)]))] (al1 ⟨rfl,D3 33 (fun i=>pI .u64 (y1.1 i))⟩ al0))
 apply kI Z h<;>intro h
 .obtain rfl:=C6 h;exact A9 Z Jy ⟨[(7,pN z1),(6,.vec 7700)],[(7700,.vec B2 1 Na.n (fun i=>cI .i64 (Na.g i)) true)]⟩ [7700] (ids:=[]) ⟨rfl,rfl,rfl⟩
 refine H4 Z Jy h (fun x2 x3=>⟨[(29,pN x3),(28,pN (wrap .i64 ((d.n:Int)+1))),(10,.vec 11500),(8,.reg 9000 0),(2,pN a)],[(11500,.vec B2 1 x2.n (fun i=>cI .i64 (x2.g i)) false),(9000,.arr 33 (fun i=>pI .u64 (y1.1 i)))]⟩) (ids:=[(9000,9000)]) (fun _ _ _ _ _ m x2 x3 l h=>?_);apply kI Z h<;>intro h
 .obtain⟨c12,h⟩:=E2 h;refine E1 Z c12 (b:=(I8 .and .u64 (shI .shr .u64 (y1.1 (0+x3.toNat*1)) a) 1)==1) (fun c13=>?_) (fun c13=>?_)
  .replace h:=itT c13 h;obtain⟨c14,h⟩:=E2 h;exact l _ [(9000,9000),(11500,43000)] _ (x2.push x3) (wrap .i64 (x3+1)) (And.intro L7 c14) h (hle:=klR [(3,.fn (x2.n+1) (x2.push x3).n (U3 x2.n (fun i=>cI .i64 (x2.g i)) (E5 [pI .i64 0] [(0,cI .i64 x3)])) (fun i=>cI .i64 ((x2.push x3).g i)))] (al1 ⟨rfl,OE (c:=cI .i64) (v:=x2) (x:=x3) (z:=[(pI .i64 0)]) same rfl rfl⟩ al0))
  replace h:=itF c13 h;exact l _ [(9000,9000),(11500,11500)] _ x2 (wrap .i64 (x3+1)) Jy h
 obtain rfl:=C6 h;exact A9 Z Jy ⟨[(7,pN 0),(6,.vec 11500)],[(11500,.vec B2 1 x2.n (fun i=>cI .i64 (x2.g i)) true)]⟩ [11500] (ids:=[(11500,11500)]) ⟨rfl,rfl,rfl⟩
def J1 (N:Nat)(a:List (Int)):Option (Sl Int):= AB a (fun b (x1:Int) (z1:Sl Int)=>if ((z1.n+(Sl.of [x1]:Sl Int).n)*8<=140737488355328/\z1.n+(Sl.of [x1]:Sl Int).n<=140737488355328)then b (z1.push x1) else none) (fun (z1:Sl Int)=>some z1) Na
theorem AF {b:List (Int)}{a:Int}{kp_seq:Nat}(fp_seq:∃fn,Ai9[kp_seq]? = some fn/\fn.body.isSome=true/\(fn.name == "runtime.NumGoroutine")=false)(d:Fv S kp_seq [] [.reg 0 0] [(.cells [(.p (pI .u64 a))])] (b.map (fun (x:Int)=>[(pI .i64) x]))){y:(Sl Int)}(h:J1 N b=some y) :FunO S O9 [(.p E3),(.clo kp_seq [] [(.reg 0 0)])] [(.cells [(.p (pI .u64 a))])] (.vec 0) ([(.vec B2 1 y.n (fun i=>(cI .i64) (y.g i)) true)]) [false]:=by
 unfold J1 at h;refine A4 Z func209 ?_;refine Sg Z Jy fp_seq [0] [2] 901 (fun z1=>⟨[(2,(.reg 3000 0))],[(3500,(.vec B2 1 z1.n (fun i=>(cI .i64) (z1.g i)) false)),(3000,(.cells [(.vec 3500)]))]⟩) (idl:=[(3000,3000)]) h d (fun _=>by kernel_rfl) (fun _=>by kernel_rfl) (fun _=>by kernel_rfl) (fun _=>by kernel_rfl) (fun x1 _ f z1 j h=>?_) (fun z1 h=>?_)
 .refine Jc Z Jy ?_;obtain⟨c1,h⟩:=E2 h;exact j _ [(901,901),(3000,3000),(3500,12000)] _ (z1.push x1) (And.intro L7 c1) h (hle:=klR [(0,.fn (z1.n+1) (z1.push x1).n (U3 z1.n (fun i=>(cI .i64) (z1.g i)) (E5 [(pI .i64 0)] [(0,(cI .i64) x1)])) (fun i=>(cI .i64) ((z1.push x1).g i)))] (al1 ⟨rfl,(OE (c:=(cI .i64)) (v:=z1) (x:=x1) (z:=[(pI .i64 0)]) same rfl rfl)⟩ al0))
 obtain rfl:=C6 h;exact A9 Z Jy ⟨[(4,(.vec 3500))],[(3500,(.vec B2 1 z1.n (fun i=>(cI .i64) (z1.g i)) true))]⟩ [3500] (ids:=[(3500,3500)]) ⟨rfl,rfl,rfl⟩
def S3 (N:Nat)(a:List (Int)):Option (Sl Int):= (J1 N a).bind fun y1=>some y1
theorem Es {b:List (Int)}{a:Int}{kp_seq:Nat}(fp_seq:∃fn,Ai9[kp_seq]? = some fn/\fn.body.isSome=true/\(fn.name == "runtime.NumGoroutine")=false)(c:Fv S kp_seq [] [.reg 0 0] [(.cells [(.p (pI .u64 a))])] (b.map (fun (x:Int)=>[(pI .i64) x]))){y:(Sl Int)}(h:S3 N b=some y) :FunO S AX [(.clo kp_seq [] [(.reg 0 0)])] [(.cells [(.p (pI .u64 a))])] (.vec 0) ([(.vec B2 1 y.n (fun i=>(cI .i64) (y.g i)) true)]) [false]:=by unfold S3 at h;refine A4 Z func205 ?_;obtain⟨y1,e1,h⟩:=B7 h;refine B9 Z [0] Jy (AF Z Y fp_seq c e1) ?_;obtain rfl:=C6 h;exact A9 Z Jy ⟨[(2,(.vec 5000))],[(5000,(.vec B2 1 y1.n (fun i=>(cI .i64) (y1.g i)) true))]⟩ [5000] (ids:=[(5000,5000)]) ⟨rfl,rfl,rfl⟩
def FD (N:Nat)(c:Pat)(b:Sl Nd)(a:Int):Option ((Sl Int)×Int):= (Bg N c b).bind fun y1=>lt (fun (z1:Int)=>if (z1 != 0) then some (Na,z1) else if (((0:Int)<=a/\a<33)/\(0+a.toNat*1)<33)then (W4 N (y1.1 (0+a.toNat*1))).bind fun y4=>(P0 N y4).bind fun L1=>(S3 N L1).bind fun y5=>some (y5,0) else none) fun k1=>if (y1.2==0) then (Bf N b a).bind fun y3=>k1 y3 else k1 y1.2
theorem QZ {b:Pat}{c:Sl Nd}{a:Int}{y:(Sl Int)×Int}(h:FD N b c a=some y) :FunO S JE [.p (.agg (B1 b)),.p (vSl 2 A0 c),pN a] [] (.tup [.vec 0,pN y.2]) ([.vec B2 1 y.1.n (fun i=>cI .i64 (y.1.g i)) true]) []:=by
 unfold FD at h;refine A4 Z func194 ?_;refine kC Z h (GH Z Y) (fun y1 h=>?_);refine Hd Z (And.intro rfl (E4 _ _):(0:Nat)=0/\(AI 33 (fun i=>pI .u64 (y1.1 i))).length=33) (A6 Z) h 0 (fun z1=>⟨[(9,pN z1),(8,.reg 9000 0),(2,pN a)],[(9000,.arr 33 (fun i=>pI .u64 (y1.1 i)))]⟩) (fun M1 k1 d h=>?_) (fun z1 h=>?_)
 .apply kI Z h<;>intro h
  .refine kC Z h (GG Z Y) (fun y3 h=>?_);exact d _ [(9000,9000)] _ y3 Jy h (hle:=klR [(2,.fn 33 33 (fun i=>[(fun i=>(cA 33 (pI .u64) y1.1).getD i default) i]) (fun i=>[pI .u64 (y1.1 i)]))] (al1 ⟨rfl,D3 33 (fun i=>pI .u64 (y1.1 i))⟩ al0))
  exact d _ [(9000,9000)] _ y1.2 Jy h (hle:=klR [(2,.fn 33 33 (fun i=>[(fun i=>(cA 33 (pI .u64) y1.1).getD i default) i]) (fun i=>[pI .u64 (y1.1 i)]))] (al1 ⟨rfl,D3 33 (fun i=>pI .u64 (y1.1 i))⟩ al0))
 apply kI Z h<;>intro h
 .obtain rfl:=C6 h;exact A9 Z Jy ⟨[(7,pN z1),(6,.vec 7700)],[(7700,.vec B2 1 Na.n (fun i=>cI .i64 (Na.g i)) true)]⟩ [7700] (ids:=[]) ⟨rfl,rfl,rfl⟩
 obtain⟨c5,h⟩:=E2 h;obtain⟨y4,e4,h⟩:=B7 h;refine B9 Z [] c5 (Cn Z Y e4) ?_;obtain⟨L1,e5,h⟩:=B7 h;obtain⟨y5,e6,h⟩:=B7 h;refine B9 Z [28000] Jy (Es Z Y ⟨_,func210,by decide +kernel,by decide +kernel⟩ (AN Z Y e5) e6) ?_;obtain rfl:=C6 h;exact A9 Z Jy ⟨[(7,pN 0),(6,.vec 29000)],[(29000,.vec B2 1 y5.n (fun i=>cI .i64 (y5.g i)) true)]⟩ [29000] (ids:=[(29000,29000)]) ⟨rfl,rfl,rfl⟩
end Go.AM
namespace Go.AM
open Go.Proofs.Tryz
variable {N:Nat}
open IntKind (wrap)
open Go.Proofs
set_option maxRecDepth 10000
set_option maxHeartbeats 2000000
variable {S:Q8}(Z:F5 S Tryz.prog) (Y:Ip S)
include Z Y
def Al (N:Nat)(a:Str):Option Bool:= lt (fun (z1:Bool)=>some z1) fun k1=>if ((a==[]) != true) then if (decide ((a.length:Int)<=24)) then (Cl N a [97,98,99,100,101,102,103,104,105,106,107,108,109,110,111,112,113,114,115,116,117,118,119,120,121,122,65,66,67,68,69,70,71,72,73,74,75,76,77,78,79,80,81,82,83,84,85,86,87,88,89,90,48,49,50,51,52,53,54,55,56,57,45]).bind fun y2=>k1 ((y2==[]) != false) else k1 false else k1 false
theorem Ra {b:Str}{y:Bool}(h:Al N b=some y) :FunO S Jx [.p (.str b)] [] (pB y) ([]) []:=by
 unfold Al at h;refine A4 Z func102 ?_;refine Hd Z Jy (A6 Z) h 0 (fun z1=>⟨[(2,pB z1)],[]⟩) (fun M1 k1 a h=>?_) (fun z1 h=>?_)
 .refine kG Z h (fun h=>?_) (fun h=>?_)
  .refine kG Z h (fun h=>?_) (fun h=>?_)
   .refine kC Z h (KK Z Y) (fun y2 h=>?_);exact a _ [] _ ((y2==[]) != false) Jy h
   exact a _ [] _ false Jy h
  exact a _ [] _ false Jy h
 cases h;exact kR Z
def P2 (N:Nat)(p_x:Z7)(a:Int):Option Bool:= lt (fun (z1:Bool)=>if z1 then some false else if ((((I8 .andNot .u32 (I8 .or .u32 p_x.Clear p_x.Take) 16777215) != 0)||((I8 .and .u32 p_x.Clear (I8 .or .u32 p_x.Set.Plus p_x.Set.Minus)) != 0))||((I8 .and .u32 p_x.Take (I8 .or .u32 (I8 .or .u32 p_x.Set.Plus p_x.Set.Minus) p_x.Clear)) != 0)) then some false else if (p_x.Take==0) then some (p_x.Of==0) else some ((decide (0<=p_x.Of))&&(decide (p_x.Of<a)))) fun k1=>if (decide (p_x.From<(-1))) then k1 true else if (decide (a<=p_x.From)) then k1 true else (F3 N p_x.Set).bind fun y2=>k1 (!y2)
theorem TV {p_x:Z7}{b:Int}{y:Bool}(h:P2 N p_x b=some y) :FunO S LT [.p (.agg (O2 p_x)),pN b] [] (pB y) ([]) []:=by
 unfold P2 at h;refine A4 Z func99 ?_;refine Hd Z Jy (A6 Z) h 0 (fun z1=>⟨[(13,pB z1),(5,pU (I8 .or .u32 p_x.Set.Plus p_x.Set.Minus)),(2,.reg 3000 0),(1,pN b)],[(3000,.cells ((O2 p_x).map .p))]⟩) (fun M1 k1 c h=>?_) (fun z1 h=>?_)
 .refine kG Z h (fun h=>?_) (fun h=>?_)
  .exact c _ [(3000,3000)] _ true Jy h
  refine kG Z h (fun h=>?_) (fun h=>?_)
  .exact c _ [(3000,3000)] _ true Jy h
  refine kC Z h (N7 Z Y) (fun y2 h=>?_);exact c _ [(3000,3000)] _ (!y2) Jy h
 apply kI Z h<;>intro h
 .cases h;exact kR Z
 refine kB Z (A6 Z) Jy Jy 16 (.o (.o (.a ((I8 .andNot .u32 (I8 .or .u32 p_x.Clear p_x.Take) 16777215) != 0)) (.a ((I8 .and .u32 p_x.Clear (I8 .or .u32 p_x.Set.Plus p_x.Set.Minus)) != 0))) (.a ((I8 .and .u32 p_x.Take (I8 .or .u32 (I8 .or .u32 p_x.Set.Plus p_x.Set.Minus) p_x.Clear)) != 0))) ?_;apply kI Z h<;>intro h
 .cases h;exact kR Z
 apply kI Z h<;>intro h
 .cases h;exact kR Z
 refine kB Z (A6 Z) Jy Jy 5 (.n (.a (decide (0<=p_x.Of))) (.a (decide (p_x.Of<b)))) ?_;cases h;exact kR Z
def T9 (N:Nat)(p_x:Z7)(q0:Int):Option Bool:= (P2 N p_x q0).bind fun y1=>some (!y1)
theorem Nu {p_x:Z7}{q0:Int}{y:Bool}(h:T9 N p_x q0=some y) :FunO S Gx [.p (.agg (O2 p_x)),.reg 0 0] [.cells [pN q0]] (pB y) ([.cells [pN q0]]) [true]:=by unfold T9 at h;refine A4 Z func98 ?_;refine kC Z h (TV Z Y) (fun y1 h=>?_);obtain rfl:=C6 h;exact A9 Z Jy ⟨[(3,pB (!y1))],[(0,.cells [pN q0])]⟩ [0] (ids:=[(0,0)]) ⟨rfl,rfl,rfl⟩
def U0 (N:Nat)(a:Nd):Option Bool:= (F3 N a).bind fun y1=>some (!y1)
theorem Nv {a:Nd}{y:Bool}(h:U0 N a=some y) :FunO S Gy [.p (.agg (A0 a))] [] (pB y) ([]) []:=by unfold U0 at h;refine A4 Z func100 ?_;refine kC Z h (N7 Z Y) (fun y1 h=>?_);cases h;exact kR Z
def D8 (N:Nat)(a:Sl Z7)(c:Z7->Option Bool):Option Int:= R4 N (fun b (x1:Int)=>if (decide (x1<(a.n:Int))) then if ((0:Int)<=x1/\x1<(a.n:Int))then (c (a.g x1.toNat)).bind fun y3=>if y3 then some x1 else b (wrap .i64 (x1+1)) else none else some (-1)) 0
theorem U9 {c:Sl Z7}{d:Z7->Option Bool}{a:Int}{kp_f:Nat}(f:∀{a0:Z7}{b:Bool},d a0=some b->FunO S kp_f [.p (.agg (O2 a0)),.reg 0 0] [.cells [pN a]] (pB b) [.cells [pN a]] [true]){y:Int}(h:D8 N c d=some y) :FunO S K0 [.p (vSl 6 O2 c),.clo kp_f [] [.reg 0 0]] [.cells [pN a]] (pN y) ([.cells [pN a]]) [true]:=by
 unfold D8 at h;refine A4 Z func124 ?_;refine I0 Z Jy h (fun x1=>⟨[(8,pN x1),(7,pN (c.n:Int)),(1,.clo kp_f [] [.reg 0 0]),(0,.p (vSl 6 O2 c))],[(0,.cells [pN a])]⟩) (ids:=[(0,0)]) (fun _ _ _ _ _ g x1 i h=>?_);apply kI Z h<;>intro h
 .obtain⟨c8,h⟩:=E2 h;obtain⟨y3,e3,h⟩:=B7 h;refine B9 Z [0] (And.intro c8 (by decide:(6:Nat)<=6)) (f e3) ?_;apply kI Z h<;>intro h
  .obtain rfl:=C6 h;exact A9 Z Jy ⟨[(4,pN x1)],[(0,.cells [pN a])]⟩ [0] (ids:=[(0,0)]) ⟨rfl,rfl,rfl⟩
  exact i _ [(0,0)] _ (wrap .i64 (x1+1)) Jy h
 obtain rfl:=C6 h;exact A9 Z Jy ⟨[(4,pN (-1))],[(0,.cells [pN a])]⟩ [0] (ids:=[(0,0)]) ⟨rfl,rfl,rfl⟩
def C0 (N:Nat)(a:Sl Z7)(b:Z7->Option Bool):Option Bool:= (D8 N a b).bind fun y1=>some (decide (0<=y1))
theorem Q5 {c:Sl Z7}{d:Z7->Option Bool}{a:Int}{kp_f:Nat}(f:∀{a0:Z7}{b:Bool},d a0=some b->FunO S kp_f [.p (.agg (O2 a0)),.reg 0 0] [.cells [pN a]] (pB b) [.cells [pN a]] [true]){y:Bool}(h:C0 N c d=some y) :FunO S I5 [.p (vSl 6 O2 c),.clo kp_f [] [.reg 0 0]] [.cells [pN a]] (pB y) ([.cells [pN a]]) [true]:=by unfold C0 at h;refine A4 Z func105 ?_;obtain⟨y1,e1,h⟩:=B7 h;refine B9 Z [0] Jy (U9 Z Y (fun e=>f e) e1) ?_;obtain rfl:=C6 h;exact A9 Z Jy ⟨[(4,pB (decide (0<=y1)))],[(0,.cells [pN a])]⟩ [0] (ids:=[(0,0)]) ⟨rfl,rfl,rfl⟩
def S4 (N:Nat)(a:Law):Option Int:= (Al N a.Name).bind fun y1=>if (!y1) then some 17 else (S2 N a.Left).bind fun y2=>if (y2 != 0) then some 17 else (S2 N a.Right).bind fun y3=>if (y3 != 0) then some 17 else if (decide (4<(a.If.n:Int))) then some 17 else if (decide (6<(a.Out.n:Int))) then some 17 else if ((wrap .i64 ((a.If.n:Int)+(a.Out.n:Int)))==0) then some 17 else if ((decide (a.Mode<1))||(decide (3<a.Mode))) then some 17 else (B3 N a.If (fun (u1:Nd)=>U0 N u1)).bind fun y4=>if y4 then some 17 else (C0 N a.Out (fun (u2:Z7)=>T9 N u2 (a.If.n:Int))).bind fun y5=>if y5 then some 17 else some 0
theorem FE {c:Law}{y:Int}(h:S4 N c=some y) :FunO S Jr [.p (.agg (A7 c))] [] (pN y) ([]) []:=by
 unfold S4 at h;refine A4 Z func76 ?_;refine kC Z h (Ra Z Y) (fun y1 h=>?_);refine E1 Z Jy (b:=!y1) (fun c1=>?_) (fun c1=>?_)
 .replace h:=itT c1 h;refine E1 Z Jy (b:=!y1) (fun c2=>?_) (fun c2=>?_)
  .cases h;exact kR Z
  exact Bool.noConfusion (c1.symm.trans c2)
 replace h:=itF c1 h;refine kC Z h (Er Z Y) (fun y2 h=>?_);refine E1 Z Jy (b:=y2 != 0) (fun c3=>?_) (fun c3=>?_)
 .replace h:=itT c3 h;refine E1 Z Jy (b:=y2 != 0) (fun c4=>?_) (fun c4=>?_)
  .cases h;exact kR Z
  exact Bool.noConfusion (c3.symm.trans c4)
 replace h:=itF c3 h;refine kC Z h (Er Z Y) (fun y3 h=>?_);refine E1 Z Jy (b:=y3 != 0) (fun c5=>?_) (fun c5=>?_)
 .replace h:=itT c5 h;refine E1 Z Jy (b:=y3 != 0) (fun c6=>?_) (fun c6=>?_)
  .cases h;exact kR Z
  exact Bool.noConfusion (c5.symm.trans c6)
 replace h:=itF c5 h;refine E1 Z Jy (b:=decide (4<(c.If.n:Int))) (fun c7=>?_) (fun c7=>?_)
 .replace h:=itT c7 h;refine E1 Z Jy (b:=decide (4<(c.If.n:Int))) (fun c8=>?_) (fun c8=>?_)
  .cases h;exact kR Z
  exact Bool.noConfusion (c7.symm.trans c8)
 replace h:=itF c7 h;refine E1 Z Jy (b:=decide (6<(c.Out.n:Int))) (fun c9=>?_) (fun c9=>?_)
 .replace h:=itT c9 h;refine E1 Z Jy (b:=decide (6<(c.Out.n:Int))) (fun c10=>?_) (fun c10=>?_)
  .cases h;exact kR Z
  exact Bool.noConfusion (c9.symm.trans c10)
 replace h:=itF c9 h;refine E1 Z Jy (b:=(wrap .i64 ((c.If.n:Int)+(c.Out.n:Int)))==0) (fun c11=>?_) (fun c11=>?_)
 .replace h:=itT c11 h;refine E1 Z Jy (b:=(wrap .i64 ((c.If.n:Int)+(c.Out.n:Int)))==0) (fun c12=>?_) (fun c12=>?_)
  .cases h;exact kR Z
  exact Bool.noConfusion (c11.symm.trans c12)
 replace h:=itF c11 h;refine kB Z (A6 Z) Jy Jy 4 (.o (.a (decide (c.Mode<1))) (.a (decide (3<c.Mode)))) ?_;refine E1 Z Jy (b:=(decide (c.Mode<1))||(decide (3<c.Mode))) (fun c13=>?_) (fun c13=>?_)
 .replace h:=itT c13 h;refine E1 Z Jy (b:=(decide (c.Mode<1))||(decide (3<c.Mode))) (fun c14=>?_) (fun c14=>?_)
  .cases h;exact kR Z
  exact Bool.noConfusion (c13.symm.trans c14)
 replace h:=itF c13 h;refine kC Z h (H3 Z Y (fun e=>Nv Z Y e)) (fun y4 h=>?_);refine E1 Z Jy (b:=y4) (fun c15=>?_) (fun c15=>?_)
 .replace h:=itT c15 h;refine E1 Z Jy (b:=y4) (fun c16=>?_) (fun c16=>?_)
  .cases h;exact kR Z
  exact Bool.noConfusion (c15.symm.trans c16)
 replace h:=itF c15 h;obtain⟨y5,e5,h⟩:=B7 h;refine B9 Z [4000] Jy (Q5 Z Y (fun e=>Nu Z Y e) e5) ?_;apply kI Z h<;>intro h
 .cases h;exact kR Z
 cases h;exact kR Z
def FF (N:Nat)(a:Law)(b:Sl Nd):Option Int:= (S4 N a).bind fun y1=>if (y1 != 0) then some y1 else (N8 N b).bind fun y2=>some y2
theorem Rb {a:Law}{b:Sl Nd}{y:Int}(h:FF N a b=some y) :FunO S JD [.p (.agg (A7 a)),.p (vSl 2 A0 b)] [] (pN y) ([]) []:=by
 unfold FF at h;refine A4 Z func160 ?_;refine kC Z h (FE Z Y) (fun y1 h=>?_);apply kI Z h<;>intro h
 .cases h;exact kR Z
 refine kC Z h (BW Z Y) (fun y2 h=>?_);cases h;exact kR Z
def Cq (N:Nat)(a:Int)(q0:Law)(q1:Sl Nd):Option Bool:= (Dw N q0.Left q1 a).bind fun y1=>if ((y1.1.n:Int)==0) then some false else (FD N q0.Right q1 (wrap .i64 (a+(q0.If.n:Int)))).bind fun y2=>some (decide (0<(y2.1.n:Int)))
theorem KQ {a:Int}{q0:Law}{q1:Sl Nd}{y:Bool}(h:Cq N a q0 q1=some y) :FunO S P1 [pN a,.reg 0 0,.reg 1 0] [.cells ((A7 q0).map .p),.cells [.p (vSl 2 A0 q1)]] (pB y) ([.cells ((A7 q0).map .p),.cells [.p (vSl 2 A0 q1)]]) [true,true]:=by
 unfold Cq at h;refine A4 Z func192 ?_;refine kC Z h (Nt Z Y) (fun y1 h=>?_);apply kI Z h<;>intro h
 .obtain rfl:=C6 h;exact A9 Z Jy ⟨[(4,pB false)],[(1,.cells [.p (vSl 2 A0 q1)]),(0,.cells ((A7 q0).map .p))]⟩ [0,1] (ids:=[(0,0),(1,1)]) ⟨rfl,rfl,rfl⟩
 refine kC Z h (QZ Z Y) (fun y2 h=>?_);obtain rfl:=C6 h;exact A9 Z Jy ⟨[(4,pB (decide (0<(y2.1.n:Int))))],[(1,.cells [.p (vSl 2 A0 q1)]),(0,.cells ((A7 q0).map .p))]⟩ [0,1] (ids:=[(0,0),(1,1)]) ⟨rfl,rfl,rfl⟩
def Et (N:Nat)(a:Law)(b:Sl Nd):Option (Law×(Sl Nd)):= some (a,b)
theorem Po {a:Law}{b:Sl Nd}{y:Law×(Sl Nd)}(h:Et N a b=some y) :FunO S HN [.p (.agg (A7 a)),.p (vSl 2 A0 b)] [] (.clo P1 [] [.reg 0 0,.reg 1 0]) ([.cells ((A7 y.1).map .p),.cells [.p (vSl 2 A0 y.2)]]) []:=by unfold Et at h;refine A4 Z func182 ?_;obtain rfl:=C6 h;exact A9 Z Jy ⟨[(4,.clo P1 [] [.reg 3000 0,.reg 4000 0])],[(4000,.cells [.p (vSl 2 A0 b)]),(3000,.cells ((A7 a).map .p))]⟩ [3000,4000] (ids:=[(3000,3000),(4000,4000)]) ⟨rfl,rfl,rfl⟩
def GI (N:Nat)(a:Law)(b:Sl Nd):Option (Sl Nd):= BQ N (fun c (x1:Sl Nd) (x2:Int)=>if (decide (x2<(a.Out.n:Int))) then if ((0:Int)<=x2/\x2<(a.Out.n:Int))then if ((decide (0<=(a.Out.g x2.toNat).From))=true->((0:Int)<=(a.Out.g x2.toNat).From/\(a.Out.g x2.toNat).From<(b.n:Int)))then (Cm N (⟨(if (decide (0<=(a.Out.g x2.toNat).From)) then (b.g (a.Out.g x2.toNat).From.toNat).Plus else 0),(if (decide (0<=(a.Out.g x2.toNat).From)) then (b.g (a.Out.g x2.toNat).From.toNat).Minus else 0)⟩:Nd) (a.Out.g x2.toNat).Clear (a.Out.g x2.toNat).Set).bind fun y5=>if ((a.Out.g x2.toNat).Take != 0) then if ((0:Int)<=(a.Out.g x2.toNat).Of/\(a.Out.g x2.toNat).Of<(b.n:Int))then (Eo N y5.1 (b.g (a.Out.g x2.toNat).Of.toNat) (a.Out.g x2.toNat).Take).bind fun y6=>if ((x1.n+(Sl.of [y6.1]:Sl Nd).n)*8<=140737488355328/\x1.n+(Sl.of [y6.1]:Sl Nd).n<=140737488355328)then c (x1.push y6.1) (wrap .i64 (x2+1)) else none else none else if ((x1.n+(Sl.of [y5.1]:Sl Nd).n)*8<=140737488355328/\x1.n+(Sl.of [y5.1]:Sl Nd).n<=140737488355328)then c (x1.push y5.1) (wrap .i64 (x2+1)) else none else none else none else some x1) (Sl.nil:Sl Nd) 0
theorem Pp {d:Law}{a:Sl Nd}{y:Sl Nd}(h:GI N d a=some y) :FunO S Pd [.p (.agg (A7 d)),.p (vSl 2 A0 a)] [] (.p (vSl 2 A0 y)) ([]) []:=by
 unfold GI at h;refine A4 Z func172 ?_;refine I1 Z Jy 4 3000 (A7 d) ?_;refine H4 Z Jy h (fun x1 x2=>⟨[(12,pN x2),(11,pN (d.Out.n:Int)),(10,.p (vSl 6 O2 d.Out)),(5,.vec 6500),(1,.p (vSl 2 A0 a))],[(6500,.vec B5 2 x1.n (fun i=>A0 (x1.g i)) false)]⟩) (ids:=[]) (fun _ _ _ _ _ o x1 x2 l h=>?_);apply kI Z h<;>intro h
 .obtain⟨c16,h⟩:=E2 h;refine I1 Z (And.intro c16 (by decide:(6:Nat)<=6)) 8 8000 (O2 (d.Out.g x2.toNat)) ?_;obtain⟨c18,h⟩:=E2 h;obtain⟨t5,f⟩:∃x:Int,x=(if (decide (0<=(d.Out.g x2.toNat).From)) then (a.g (d.Out.g x2.toNat).From.toNat).Plus else 0):=⟨_,rfl⟩;obtain⟨t6,j⟩:∃x:Int,x=(if (decide (0<=(d.Out.g x2.toNat).From)) then (a.g (d.Out.g x2.toNat).From.toNat).Minus else 0):=⟨_,rfl⟩;refine OI Z Jy (A6 Z) 0 ⟨[(12,pN x2),(11,pN (d.Out.n:Int)),(10,.p (vSl 6 O2 d.Out)),(8,.reg 9000 0),(7,.p (.ptr (O2 (d.Out.g x2.toNat)))),(5,.vec 6500),(1,.p (vSl 2 A0 a))],[(9000,.cells [pU t5,pU t6]),(6500,.vec B5 2 x1.n (fun i=>A0 (x1.g i)) false)]⟩ (fun M3 m=>?_) ?_
  .refine E1 Z Jy (b:=decide (0<=(d.Out.g x2.toNat).From)) (fun c19=>?_) (fun c19=>?_)
   .exact m _ [(6500,6500),(9000,9000)] _ (And.intro (c18 c19) Kw) (hle:=klR [(5,.eq (pI .u32 (a.g (d.Out.g x2.toNat).From.toNat).Plus) (pI .u32 t5)),(6,.eq (pI .u32 (a.g (d.Out.g x2.toNat).From.toNat).Minus) (pI .u32 t6))] (al1 (by simp only[f,j,c19,Leaf.ok,pm,Jq,Js]) (al1 (by simp only[f,j,c19,Leaf.ok,pm,Jq,Js]) al0)))
   exact m _ [(6500,6500),(9000,9000)] _ Jy (hle:=klR [(5,.eq (pI .u32 0) (pI .u32 t5)),(6,.eq (pI .u32 0) (pI .u32 t6))] (al1 (by simp only[f,j,c19,Leaf.ok,pm,Jq,Js]) (al1 (by simp only[f,j,c19,Leaf.ok,pm,Jq,Js]) al0)))
  subst j;subst f;obtain⟨y5,e5,h⟩:=B7 h;refine B9 Z [] (by decide:(2:Nat)<=4) (KL Z Y e5) ?_;apply kI Z h<;>intro h
  .refine E9 Z Jy [3,4,5,7,8] ?_;obtain⟨c21,h⟩:=E2 h;obtain⟨y6,e6,h⟩:=B7 h;refine V7 (And.intro c21 Kw) (Pk Z Y e6) ?_;refine H9 Jy ?_;obtain⟨c22,h⟩:=E2 h;exact l _ [(6500,52000)] _ (x1.push y6.1) (wrap .i64 (x2+1)) (And.intro L7 c22) h (hle:=klR [(4,.fn (x1.n+1) (x1.push y6.1).n (U3 x1.n (fun i=>A0 (x1.g i)) (E5 [pI .u32 0,pI .u32 0] [(0,A0 y6.1)])) (fun i=>A0 ((x1.push y6.1).g i)))] (al1 ⟨rfl,OE (c:=A0) (v:=x1) (x:=y6.1) (z:=[(pI .u32 0),pI .u32 0]) same rfl rfl⟩ al0))
  obtain⟨c23,h⟩:=E2 h;exact l _ [(6500,52000)] _ (x1.push y5.1) (wrap .i64 (x2+1)) (And.intro L7 c23) h (hle:=klR [(4,.fn (x1.n+1) (x1.push y5.1).n (U3 x1.n (fun i=>A0 (x1.g i)) (E5 [pI .u32 0,pI .u32 0] [(0,A0 y5.1)])) (fun i=>A0 ((x1.push y5.1).g i)))] (al1 ⟨rfl,OE (c:=A0) (v:=x1) (x:=y5.1) (z:=[(pI .u32 0),pI .u32 0]) same rfl rfl⟩ al0))
 obtain rfl:=C6 h;exact A9 Z Jy ⟨[(4,.p (vSl 2 A0 x1))],[]⟩ [] (ids:=[]) ⟨rfl,rfl,rfl⟩
def D6 (N:Nat)(a:Sl (Sl Nd)):Option (Sl Nd):= BQ N (fun b (x1:Int) (x2:Int)=>if (decide (x2<(a.n:Int))) then if ((0:Int)<=x2/\x2<(a.n:Int))then if (decide ((wrap .i64 (x1+((a.g x2.toNat).n:Int)))<0)) then none else b (wrap .i64 (x1+((a.g x2.toNat).n:Int))) (wrap .i64 (x2+1)) else none else (K6 N x1).bind fun y1=>BQ N (fun c (x3:Sl Nd) (x4:Int)=>if (decide (x4<(a.n:Int))) then if (((0:Int)<=x4/\x4<(a.n:Int))/\((x3.n+(a.g x4.toNat).n)*8<=140737488355328/\x3.n+(a.g x4.toNat).n<=140737488355328))then c (x3.app (a.g x4.toNat)) (wrap .i64 (x4+1)) else none else some x3) y1 0) 0 0
theorem J5 {a:Sl (Sl Nd)}{y:Sl Nd}(h:D6 N a=some y) :FunO S J4 [.p (vSl 1 (cL 2 A0) a)] [] (.vec 0) ([.vec B5 2 y.n (fun i=>A0 (y.g i)) true]) []:=by
 unfold D6 at h;refine A4 Z func171 ?_;refine H4 Z Jy h (fun x1 x2=>⟨[(11,pN x2),(10,pN (a.n:Int)),(9,.p (vSl 1 (cL 2 A0) a)),(3,pN x1),(0,.p (vSl 1 (cL 2 A0) a))],[]⟩) (ids:=[]) (fun _ _ _ _ _ d x1 x2 f h=>?_);apply kI Z h<;>intro h
 .obtain⟨c8,h⟩:=E2 h;refine E1 Z c8 (b:=decide ((wrap .i64 (x1+((a.g x2.toNat).n:Int)))<0)) (fun c9=>?_) (fun c9=>?_)
  .replace h:=itT c9 h;cases h
  replace h:=itF c9 h;exact f _ [] _ (wrap .i64 (x1+((a.g x2.toNat).n:Int))) (wrap .i64 (x2+1)) Jy h
 refine kC Z h (W2 Z Y) (fun y1 h=>?_);refine H4 Z Jy h (fun x3 x4=>⟨[(27,pN x4),(26,pN (a.n:Int)),(25,.p (vSl 1 (cL 2 A0) a)),(6,.vec 7500)],[(7500,.vec B5 2 x3.n (fun i=>A0 (x3.g i)) false)]⟩) (ids:=[(7500,25000)]) (fun _ _ _ _ _ j x3 x4 l h=>?_);apply kI Z h<;>intro h
 .obtain⟨c13,h⟩:=E2 h;exact l _ [(7500,34000)] _ (x3.app (a.g x4.toNat)) (wrap .i64 (x4+1)) c13 h (hle:=klR [(3,.fn (x3.n+(a.g x4.toNat).n) (x3.app (a.g x4.toNat)).n (U3 x3.n (fun i=>A0 (x3.g i)) (fun i=>A0 ((a.g x4.toNat).g i))) (fun i=>A0 ((x3.app (a.g x4.toNat)).g i)))] (al1 ⟨rfl,appL (c:=A0) (v:=x3) (w:=a.g x4.toNat) same rfl same rfl⟩ al0))
 obtain rfl:=C6 h;exact A9 Z Jy ⟨[(2,.vec 7500)],[(7500,.vec B5 2 x3.n (fun i=>A0 (x3.g i)) true)]⟩ [7500] (ids:=[(7500,7500)]) ⟨rfl,rfl,rfl⟩
def Bh (N:Nat)(b:Law)(c:Sl Nd)(a:Int):Option (Sl Nd):= if (((0:Int)<=a/\a<=(c.n:Int))/\((0:Int)<=a/\a<=(wrap .i64 (a+(b.If.n:Int)))/\(wrap .i64 (a+(b.If.n:Int)))<=(c.n:Int)))then (GI N b (c.sub a.toNat (wrap .i64 (a+(b.If.n:Int))).toNat)).bind fun y1=>if ((0:Int)<=(wrap .i64 (a+(b.If.n:Int)))/\(wrap .i64 (a+(b.If.n:Int)))<=(c.n:Int))then (D6 N (Sl.of [c.take a.toNat,y1,c.drop (wrap .i64 (a+(b.If.n:Int))).toNat]:Sl (Sl Nd))).bind fun y2=>some y2 else none else none
theorem GJ {c:Law}{b:Sl Nd}{a:Int}{y:Sl Nd}(h:Bh N c b a=some y) :FunO S GB [.p (.agg (A7 c)),.p (vSl 2 A0 b),pN a] [] (.vec 0) ([.vec B5 2 y.n (fun i=>A0 (y.g i)) true]) []:=by unfold Bh at h;refine A4 Z func174 ?_;refine I1 Z Jy 6 4000 (A7 c) ?_;refine E9 Z Jy [3,8] ?_;obtain⟨c1,h⟩:=E2 h;obtain⟨y1,e1,h⟩:=B7 h;refine V7 (And.intro (And.intro c1.1 Kz) c1.2) (Pp Z Y e1) ?_;obtain⟨c2,h⟩:=E2 h;refine Dg c2 (x:=.sl true 1 3 (E5 [E3] [(0,cL 2 A0 (b.take a.toNat)),(1,cL 2 A0 y1),(2,cL 2 A0 (b.drop (wrap .i64 (a+(c.If.n:Int))).toNat))])) ?_;obtain⟨y2,e2,h⟩:=B7 h;refine Ja [] Jy (FunO.le Z (args:=[.p (.sl true 1 3 (E5 [E3] [(0,cL 2 A0 (b.take a.toNat)),(1,cL 2 A0 y1),(2,cL 2 A0 (b.drop (wrap .i64 (a+(c.If.n:Int))).toNat))]))]) (by exact⟨Yu rfl (fun i d=>match i,d with|0,_=>rfl|1,_=>rfl|2,_=>rfl|_+3,d=>Jo d (by omega)),trivial⟩) (J5 Z Y e2)) ?_;refine H9 Jy ?_;obtain rfl:=C6 h;exact A9 Z Jy ⟨[(6,.vec 27000)],[(27000,.vec B5 2 y2.n (fun i=>A0 (y2.g i)) true)]⟩ [27000] (ids:=[(27000,27000)]) ⟨rfl,rfl,rfl⟩
def BZ (N:Nat)(q0:Law)(q1:Sl Nd)(q2:Int):Option (List (Int)):= (Et N q0 q1).bind fun y1=>R4 N (fun a (x2:Int)=>if (decide ((wrap .i64 (x2+(q0.If.n:Int)))<=(q1.n:Int))) then R4 N (fun b (x4:Int)=>if (decide (x4<(q0.If.n:Int))) then if ((0:Int)<=x4/\x4<(q0.If.n:Int))then if ((0:Int)<=(wrap .i64 (x2+x4))/\(wrap .i64 (x2+x4))<(q1.n:Int))then (Ag N (q1.g (wrap .i64 (x2+x4)).toNat) (q0.If.g x4.toNat)).bind fun c=>if (!c) then a (wrap .i64 (x2+1)) else b (wrap .i64 (x4+1)) else none else none else (Cq N x2 y1.1 y1.2).bind fun d=>if d then HV x2 (a (wrap .i64 (x2+1))) else a (wrap .i64 (x2+1))) 0 else some []) q2
theorem HP {q0:Law}{q1:Sl Nd}{q2:Int}{L:List (Int)}(h:BZ N q0 q1 q2=some L) :Fv S BU [] [.reg 0 0,.reg 1 0,.reg 2 0] [.cells ((A7 q0).map .p),.cells [.p (vSl 2 A0 q1)],.cells [pN q2]] (L.map (fun (x:Int)=>[pI .i64 x])):=by
 unfold BZ at h;refine Gq Z func181 ?_;refine kC Z h (Po Z Y) (fun y1 h=>?_);refine He Z Jy h (fun x2 L1=>⟨[(6,pN x2),(5,.clo P1 [] [.reg 12000 0,.reg 12001 0]),(2,.reg 1 0),(1,.reg 0 0),(0,.yf 3)],[(12001,.cells [.p (vSl 2 A0 y1.2)]),(12000,.cells ((A7 y1.1).map .p)),(3,.yld (L1.map (fun (x:Int)=>[pI .i64 x])) true),(2,.cells [pN q2]),(1,.cells [.p (vSl 2 A0 q1)]),(0,.cells ((A7 q0).map .p))]⟩) (ids:=[(0,0),(1,1),(2,2),(3,3),(12000,12000),(12001,12001)]) (fun _ _ _ _ _ f x2 L1 c h=>?_);apply kI Z h<;>intro h
 .refine He Z Jy h (fun x4 L8=>⟨[(26,pN x4),(25,pN (q0.If.n:Int)),(24,.p (vSl 2 A0 q0.If)),(6,pN x2),(5,.clo P1 [] [.reg 12000 0,.reg 12001 0]),(2,.reg 1 0),(1,.reg 0 0),(0,.yf 3)],[(12001,.cells [.p (vSl 2 A0 y1.2)]),(12000,.cells ((A7 y1.1).map .p)),(3,.yld (L8.map (fun (x:Int)=>[pI .i64 x])) true),(2,.cells [pN q2]),(1,.cells [.p (vSl 2 A0 q1)]),(0,.cells ((A7 q0).map .p))]⟩) (ids:=[(0,0),(1,1),(2,2),(3,3),(12000,12000),(12001,12001)]) (fun _ _ _ _ _ i x4 L8 j h=>?_);apply kI Z h<;>intro h
  .obtain⟨c47,h⟩:=E2 h;refine XH Z (And.intro c47 Kw) 9000 [pI .u32 (q0.If.g x4.toNat).Plus,pI .u32 (q0.If.g x4.toNat).Minus] ?_;refine E9 Z Jy [4,5,6,7] ?_;obtain⟨c48,h⟩:=E2 h;obtain⟨l,e12,h⟩:=B7 h;refine V7 (And.intro (And.intro c48 Kw) Kw) (Hi Z Y e12) ?_;refine H9 Jy ?_;apply kI Z h<;>intro h
   .exact c _ [(0,0),(1,1),(2,2),(3,3),(12000,12000),(12001,12001)] _ (wrap .i64 (x2+1)) L8 Jy h
   exact j _ [(0,0),(1,1),(2,2),(3,3),(12000,12000),(12001,12001)] _ (wrap .i64 (x4+1)) L8 Jy h
  obtain⟨m,e13,h⟩:=B7 h;refine B9 Z [12000,12001] Jy (KQ Z Y e13) ?_;refine kG Z h (fun h=>?_) (fun h=>?_)
  .obtain⟨L10,rfl,d⟩:=MP h;replace h:=d;refine Dh Z Jy (ys:=(fun (x:Int)=>[pI .i64 x]) x2) (rest:=L10.map (fun (x:Int)=>[pI .i64 x])) ?_ ?_
   .refine E1 Z Jy (b:=false) (fun c53=>?_) (fun c53=>?_)
    .exact Bool.noConfusion ((rfl:false=false).symm.trans c53)
    exact c _ [(0,0),(1,1),(2,2),(3,3),(12000,12000),(12001,12001)] _ (wrap .i64 (x2+1)) L10 Jy h
   refine E1 Z Jy (b:=true) (fun c54=>?_) (fun c54=>?_)
   .exact A9 Z Jy (a:=.tup []) (objs:=[(.cells ((A7 q0).map .p)),.cells [.p (vSl 2 A0 q1)],.cells [pN q2],.yld [] false]) ⟨[],[(3,.yld [] false),(2,.cells [pN q2]),(1,.cells [.p (vSl 2 A0 q1)]),(0,.cells ((A7 q0).map .p))]⟩ [0,1,2,3] (ids:=[(0,0),(1,1),(2,2),(3,3)]) ⟨false,rfl,rfl,_,rfl⟩
   exact Bool.noConfusion (L7.symm.trans c54)
  exact c _ [(0,0),(1,1),(2,2),(3,3),(12000,12000),(12001,12001)] _ (wrap .i64 (x2+1)) L8 Jy h
 obtain rfl:=C6 h;exact A9 Z Jy (a:=.tup []) (objs:=[(.cells ((A7 q0).map .p)),.cells [.p (vSl 2 A0 q1)],.cells [pN q2],.yld [] true]) ⟨[],[(3,.yld [] true),(2,.cells [pN q2]),(1,.cells [.p (vSl 2 A0 q1)]),(0,.cells ((A7 q0).map .p))]⟩ [0,1,2,3] (ids:=[(0,0),(1,1),(2,2),(3,3)]) ⟨true,rfl,rfl,_,rfl⟩
def EL (N:Nat)(b:Law)(c:Sl Nd)(a:Int):Option (Law×(Sl Nd)×Int):= some (b,c,a)
theorem Ma {b:Law}{c:Sl Nd}{a:Int}{y:Law×(Sl Nd)×Int}(h:EL N b c a=some y) :FunO S LZ [.p (.agg (A7 b)),.p (vSl 2 A0 c),pN a] [] (.clo BU [] [.reg 0 0,.reg 1 0,.reg 2 0]) ([.cells ((A7 y.1).map .p),.cells [.p (vSl 2 A0 y.2.1)],.cells [pN y.2.2]]) []:=by unfold EL at h;refine A4 Z func170 ?_;obtain rfl:=C6 h;exact A9 Z Jy ⟨[(6,.clo BU [] [.reg 4000 0,.reg 5000 0,.reg 6000 0])],[(6000,.cells [pN a]),(5000,.cells [.p (vSl 2 A0 c)]),(4000,.cells ((A7 b).map .p))]⟩ [4000,5000,6000] (ids:=[(4000,4000),(5000,5000),(6000,6000)]) ⟨rfl,rfl,rfl⟩
def GK (N:Nat)(b:Law)(c:Sl Nd)(a:Int):Option Bool:= (EL N b c a).bind fun y1=>(BZ N y1.1 y1.2.1 y1.2.2).bind fun L1=>AB L1 (fun d (x1:Int) (_:Unit)=>some (x1==a)) (fun (_:Unit)=>some false) ()
theorem Pq {b:Law}{c:Sl Nd}{a:Int}{y:Bool}(h:GK N b c a=some y) :FunO S Pe [.p (.agg (A7 b)),.p (vSl 2 A0 c),pN a] [] (pB y) ([]) []:=by
 unfold GK at h;refine A4 Z func173 ?_;refine kC Z h (Ma Z Y) (fun y1 h=>?_);obtain⟨L1,e2,h⟩:=B7 h;refine FB Z Jy [12000,12001,12002] [6,5] 901 (fun _=>⟨[(6,.reg 7000 0),(5,.reg 6000 0)],[(7000,.cells [.p (.v (.bool false))]),(6000,.cells [pN a])]⟩) (idl:=[(6000,6000),(7000,7000)]) h (HP Z Y e2) (fun _=>by kernel_rfl) (fun _=>by kernel_rfl) (fun _=>by kernel_rfl) (fun _=>by kernel_rfl) (fun x1 _ d _ f h=>?_) (fun _ h=>?_)
 .refine Jc Z Jy ?_;refine Im Z Jy ⟨[(6,.reg 7000 0),(5,.reg 6000 0)],[(7000,.cells [pB (x1==a)]),(6000,.cells [pN a])]⟩ (ids:=[(901,901),(6000,6000),(7000,7000)]) ?_;cases h;exact kR Z
 cases h;exact kR Z
def FG (N:Nat)(q0:Sl Nd)(q1:Law)(q2:Int)(q3:Int):Option (List (Int×(Sl Nd))):= if (q1.Mode==1) then (EL N q1 q0 0).bind fun y1=>(BZ N y1.1 y1.2.1 y1.2.2).bind fun L1=>AB L1 (fun b (x1:Int) (z1:(Sl Nd)×Int×Int)=>if (decide (x1<z1.2.1)) then b (z1.1,z1.2.1,z1.2.2) else if (((0:Int)<=(wrap .i64 (x1+z1.2.2))/\(wrap .i64 (x1+z1.2.2))<=(z1.1.n:Int))/\((0:Int)<=x1/\x1<=(wrap .i64 (x1+q2))/\(wrap .i64 (x1+q2))<=(q0.n:Int)))then (GI N q1 (q0.sub x1.toNat (wrap .i64 (x1+q2)).toNat)).bind fun y6=>if ((0:Int)<=(wrap .i64 (x1+q2))/\(wrap .i64 (x1+q2))<=(q0.n:Int))then (D6 N (Sl.of [z1.1.take (wrap .i64 (x1+z1.2.2)).toNat,y6,q0.drop (wrap .i64 (x1+q2)).toNat]:Sl (Sl Nd))).bind fun y7=>HV (x1,y7) (b (y7,wrap .i64 (x1+(if q2<1 then 1 else q2)),wrap .i64 ((wrap .i64 (z1.2.2+q3))-q2))) else none else none) (fun (z1:(Sl Nd)×Int×Int)=>some []) (q0,0,0) else if (q1.Mode==2) then BQ N (fun a (x5:Sl Nd) (x6:Int)=>if (decide ((wrap .i64 (x6+q2))<=(x5.n:Int))) then (GK N q1 x5 x6).bind fun g=>if (!g) then a x5 (wrap .i64 (x6+1)) else (Bh N q1 x5 x6).bind fun d=>HV (x6,d) (if (q2==0) then a d (wrap .i64 ((wrap .i64 (x6+q3))+1)) else a d (wrap .i64 (x6+q3))) else some []) q0 0 else if (q1.Mode==3) then BQ N (fun c (x7:Sl Nd) (x8:Int)=>if (decide (0<=x8)) then (GK N q1 x7 x8).bind fun i=>if (!i) then c x7 (wrap .i64 (x8-1)) else (Bh N q1 x7 x8).bind fun f=>HV (x8,f) (c f (wrap .i64 (x8-(if q2<1 then 1 else q2)))) else some []) q0 (wrap .i64 ((q0.n:Int)-q2)) else some []
theorem Rc {q0:Sl Nd}{q1:Law}{q2:Int}{q3:Int}{L:List (Int×(Sl Nd))}(h:FG N q0 q1 q2 q3=some L) :Fv S Dl [] [.reg 0 0,.reg 1 0,.reg 2 0,.reg 3 0] [.cells [.p (vSl 2 A0 q0)],.cells ((A7 q1).map .p),.cells [pN q2],.cells [pN q3]] (L.map (fun (x:Int×(Sl Nd))=>[pI .i64 x.1,vSl 2 A0 x.2])):=by
 unfold FG at h;refine Gq Z func169 ?_;apply kI Z h<;>intro h
 .refine kC Z h (Ma Z Y) (fun y1 h=>?_);obtain⟨L1,e2,h⟩:=B7 h;refine XG Z Jy [20000,20001,20002] [8,7,6,5,4,3,2,1] 900 (fun z1 L2=>⟨[(8,.reg 9000 0),(7,.reg 8000 0),(6,.reg 7000 0),(5,.reg 6000 0),(4,.reg 3 0),(3,.reg 2 0),(2,.reg 1 0),(1,.reg 0 0)],[(9000,.cells [pN z1.2.2]),(8000,.cells [pN z1.2.1]),(7000,.cells [.p (vSl 2 A0 z1.1)]),(6000,.cells [.yf 4]),(4,.yld (L2.map (fun (x:Int×(Sl Nd))=>[pI .i64 x.1,vSl 2 A0 x.2])) true),(3,.cells [pN q3]),(2,.cells [pN q2]),(1,.cells ((A7 q1).map .p)),(0,.cells [.p (vSl 2 A0 q0)])]⟩) (idl:=[(0,0),(1,1),(2,2),(3,3),(4,4),(6000,6000),(7000,7000),(8000,8000),(9000,9000)]) h (HP Z Y e2) (fun _=>by kernel_rfl) (fun _ _=>by kernel_rfl) (fun _ _=>by kernel_rfl) (fun _ _=>by kernel_rfl) (fun x1 _ s z1 L2 j h=>?_) (fun z1 L2 h=>?_)
  .refine Jc Z Jy ?_;apply kI Z h<;>intro h
   .exact j _ [(0,0),(1,1),(2,2),(3,3),(4,4),(900,900),(6000,6000),(7000,7000),(8000,8000),(9000,9000)] _ (z1.1,z1.2.1,z1.2.2) L2 Jy h
   refine G7 Z Jy [(0,.l [7000]),(2,.l [9000]),(5,.l [1]),(6,.l [0]),(9,.l [2]),(12,.n),(13,.l [0]),(15,.l [2]),(20,.a [7000])] ?_;obtain⟨c13,h⟩:=E2 h;obtain⟨y6,e7,h⟩:=B7 h;refine V7 c13 (Pp Z Y e7) ?_;obtain⟨c14,h⟩:=E2 h;refine Dg c14 (x:=.sl true 1 3 (E5 [E3] [(0,cL 2 A0 (z1.1.take (wrap .i64 (x1+z1.2.2)).toNat)),(1,cL 2 A0 y6),(2,cL 2 A0 (q0.drop (wrap .i64 (x1+q2)).toNat))])) ?_;obtain⟨y7,e8,h⟩:=B7 h;refine Ja [] Jy (FunO.le Z (args:=[.p (.sl true 1 3 (E5 [E3] [(0,cL 2 A0 (z1.1.take (wrap .i64 (x1+z1.2.2)).toNat)),(1,cL 2 A0 y6),(2,cL 2 A0 (q0.drop (wrap .i64 (x1+q2)).toNat))]))]) (by exact⟨Yu rfl (fun i t=>match i,t with|0,_=>rfl|1,_=>rfl|2,_=>rfl|_+3,t=>Jo t (by omega)),trivial⟩) (J5 Z Y e8)) ?_;refine H9 Jy ?_;obtain⟨L5,rfl,m⟩:=MP h;replace h:=m;refine Dh Z Jy (ys:=(fun (x:Int×(Sl Nd))=>[pI .i64 x.1,vSl 2 A0 x.2]) (x1,y7)) (rest:=L5.map (fun (x:Int×(Sl Nd))=>[pI .i64 x.1,vSl 2 A0 x.2])) ?_ ?_
   .refine E1 Z Jy (b:=false) (fun c15=>?_) (fun c15=>?_)
    .exact Bool.noConfusion ((rfl:false=false).symm.trans c15)
    refine G7 Z Jy [(1,.l [2]),(4,.l [9000]),(5,.l [3]),(7,.l [2]),(9,.a [8000]),(10,.a [9000])] ?_;refine H9 Jy ?_;exact j _ [(0,0),(1,1),(2,2),(3,3),(4,4),(900,900),(6000,6000),(7000,7000),(8000,8000),(9000,9000)] _ (y7,wrap .i64 (x1+(if q2<1 then 1 else q2)),wrap .i64 ((wrap .i64 (z1.2.2+q3))-q2)) L5 Jy h
   refine E1 Z Jy (b:=true) (fun c16=>?_) (fun c16=>?_)
   .refine Im Z Jy ⟨[(8,.reg 9000 0),(7,.reg 8000 0),(6,.reg 7000 0),(5,.reg 6000 0),(4,.reg 3 0),(3,.reg 2 0),(2,.reg 1 0),(1,.reg 0 0)],[(44000,.vec B5 2 y7.n (fun i=>A0 (y7.g i)) true),(9000,.cells [pN z1.2.2]),(8000,.cells [pN z1.2.1]),(7000,.cells [.vec 44000]),(6000,.cells [.yf 4]),(4,.yld [] false),(3,.cells [pN q3]),(2,.cells [pN q2]),(1,.cells ((A7 q1).map .p)),(0,.cells [.p (vSl 2 A0 q0)])]⟩ (ids:=[(0,0),(1,1),(2,2),(3,3),(4,4),(900,900),(6000,6000),(7000,7000),(8000,8000),(9000,9000),(44000,44000)]) ?_;exact A9 Z Jy (a:=.tup []) (objs:=[(.cells [.p (vSl 2 A0 q0)]),.cells ((A7 q1).map .p),.cells [pN q2],.cells [pN q3],.yld [] false]) ⟨[],[(4,.yld [] false),(3,.cells [pN q3]),(2,.cells [pN q2]),(1,.cells ((A7 q1).map .p)),(0,.cells [.p (vSl 2 A0 q0)])]⟩ [0,1,2,3,4] (ids:=[(0,0),(1,1),(2,2),(3,3),(4,4)]) ⟨false,rfl,rfl,_,rfl⟩
   exact Bool.noConfusion (L7.symm.trans c16)
  obtain rfl:=C6 h;exact A9 Z Jy (a:=.tup []) (objs:=[(.cells [.p (vSl 2 A0 q0)]),.cells ((A7 q1).map .p),.cells [pN q2],.cells [pN q3],.yld [] true]) ⟨[],[(4,.yld [] true),(3,.cells [pN q3]),(2,.cells [pN q2]),(1,.cells ((A7 q1).map .p)),(0,.cells [.p (vSl 2 A0 q0)])]⟩ [0,1,2,3,4] (ids:=[(0,0),(1,1),(2,2),(3,3),(4,4)]) ⟨true,rfl,rfl,_,rfl⟩
 apply kI Z h<;>intro h
 .refine MQ Z Jy h (fun x5 x6 L6=>⟨[(10,pN x6),(6,.reg 7000 0),(5,.reg 6000 0),(4,.reg 3 0),(3,.reg 2 0),(2,.reg 1 0)],[(7000,.cells [.p (vSl 2 A0 x5)]),(6000,.cells [.yf 4]),(4,.yld (L6.map (fun (x:Int×(Sl Nd))=>[pI .i64 x.1,vSl 2 A0 x.2])) true),(3,.cells [pN q3]),(2,.cells [pN q2]),(1,.cells ((A7 q1).map .p)),(0,.cells [.p (vSl 2 A0 q0)])]⟩) (ids:=[(0,0),(1,1),(2,2),(3,3),(4,4),(6000,6000),(7000,7000)]) (fun _ _ _ _ _ u x5 x6 L6 c h=>?_);apply kI Z h<;>intro h
  .refine kC Z h (Pq Z Y) (fun w h=>?_);apply kI Z h<;>intro h
   .exact c _ [(0,0),(1,1),(2,2),(3,3),(4,4),(6000,6000),(7000,7000)] _ x5 (wrap .i64 (x6+1)) L6 Jy h
   refine kC Z h (GJ Z Y) (fun d h=>?_);obtain⟨L9,rfl,o⟩:=MP h;replace h:=o;refine Dh Z Jy (ys:=(fun (x:Int×(Sl Nd))=>[pI .i64 x.1,vSl 2 A0 x.2]) (x6,d)) (rest:=L9.map (fun (x:Int×(Sl Nd))=>[pI .i64 x.1,vSl 2 A0 x.2])) ?_ ?_
   .refine E1 Z Jy (b:=false) (fun c30=>?_) (fun c30=>?_)
    .exact Bool.noConfusion ((rfl:false=false).symm.trans c30)
    apply kI Z h<;>intro h
    .exact c _ [(0,0),(1,1),(2,2),(3,3),(4,4),(6000,6000),(7000,7000)] _ d (wrap .i64 ((wrap .i64 (x6+q3))+1)) L9 Jy h
    exact c _ [(0,0),(1,1),(2,2),(3,3),(4,4),(6000,6000),(7000,7000)] _ d (wrap .i64 (x6+q3)) L9 Jy h
   refine E1 Z Jy (b:=true) (fun c32=>?_) (fun c32=>?_)
   .exact A9 Z Jy (a:=.tup []) (objs:=[(.cells [.p (vSl 2 A0 q0)]),.cells ((A7 q1).map .p),.cells [pN q2],.cells [pN q3],.yld [] false]) ⟨[],[(4,.yld [] false),(3,.cells [pN q3]),(2,.cells [pN q2]),(1,.cells ((A7 q1).map .p)),(0,.cells [.p (vSl 2 A0 q0)])]⟩ [0,1,2,3,4] (ids:=[(0,0),(1,1),(2,2),(3,3),(4,4)]) ⟨false,rfl,rfl,_,rfl⟩
   exact Bool.noConfusion (L7.symm.trans c32)
  obtain rfl:=C6 h;exact A9 Z Jy (a:=.tup []) (objs:=[(.cells [.p (vSl 2 A0 q0)]),.cells ((A7 q1).map .p),.cells [pN q2],.cells [pN q3],.yld [] true]) ⟨[],[(4,.yld [] true),(3,.cells [pN q3]),(2,.cells [pN q2]),(1,.cells ((A7 q1).map .p)),(0,.cells [.p (vSl 2 A0 q0)])]⟩ [0,1,2,3,4] (ids:=[(0,0),(1,1),(2,2),(3,3),(4,4)]) ⟨true,rfl,rfl,_,rfl⟩
 apply kI Z h<;>intro h
 .refine MQ Z Jy h (fun x7 x8 L10=>⟨[(11,pN x8),(6,.reg 7000 0),(5,.reg 6000 0),(3,.reg 2 0),(2,.reg 1 0)],[(7000,.cells [.p (vSl 2 A0 x7)]),(6000,.cells [.yf 4]),(4,.yld (L10.map (fun (x:Int×(Sl Nd))=>[pI .i64 x.1,vSl 2 A0 x.2])) true),(3,.cells [pN q3]),(2,.cells [pN q2]),(1,.cells ((A7 q1).map .p)),(0,.cells [.p (vSl 2 A0 q0)])]⟩) (ids:=[(0,0),(1,1),(2,2),(3,3),(4,4),(6000,6000),(7000,7000)]) (fun _ _ _ _ _ v x7 x8 L10 q h=>?_);apply kI Z h<;>intro h
  .refine kC Z h (Pq Z Y) (fun y h=>?_);apply kI Z h<;>intro h
   .exact q _ [(0,0),(1,1),(2,2),(3,3),(4,4),(6000,6000),(7000,7000)] _ x7 (wrap .i64 (x8-1)) L10 Jy h
   refine kC Z h (GJ Z Y) (fun r h=>?_);obtain⟨L13,rfl,f⟩:=MP h;replace h:=f;refine Dh Z Jy (ys:=(fun (x:Int×(Sl Nd))=>[pI .i64 x.1,vSl 2 A0 x.2]) (x8,r)) (rest:=L13.map (fun (x:Int×(Sl Nd))=>[pI .i64 x.1,vSl 2 A0 x.2])) ?_ ?_
   .refine E1 Z Jy (b:=false) (fun c44=>?_) (fun c44=>?_)
    .exact Bool.noConfusion ((rfl:false=false).symm.trans c44)
    exact q _ [(0,0),(1,1),(2,2),(3,3),(4,4),(6000,6000),(7000,7000)] _ r (wrap .i64 (x8-(if q2<1 then 1 else q2))) L13 Jy h
   refine E1 Z Jy (b:=true) (fun c45=>?_) (fun c45=>?_)
   .exact A9 Z Jy (a:=.tup []) (objs:=[(.cells [.p (vSl 2 A0 q0)]),.cells ((A7 q1).map .p),.cells [pN q2],.cells [pN q3],.yld [] false]) ⟨[],[(4,.yld [] false),(3,.cells [pN q3]),(2,.cells [pN q2]),(1,.cells ((A7 q1).map .p)),(0,.cells [.p (vSl 2 A0 q0)])]⟩ [0,1,2,3,4] (ids:=[(0,0),(1,1),(2,2),(3,3),(4,4)]) ⟨false,rfl,rfl,_,rfl⟩
   exact Bool.noConfusion (L7.symm.trans c45)
  obtain rfl:=C6 h;exact A9 Z Jy (a:=.tup []) (objs:=[(.cells [.p (vSl 2 A0 q0)]),.cells ((A7 q1).map .p),.cells [pN q2],.cells [pN q3],.yld [] true]) ⟨[],[(4,.yld [] true),(3,.cells [pN q3]),(2,.cells [pN q2]),(1,.cells ((A7 q1).map .p)),(0,.cells [.p (vSl 2 A0 q0)])]⟩ [0,1,2,3,4] (ids:=[(0,0),(1,1),(2,2),(3,3),(4,4)]) ⟨true,rfl,rfl,_,rfl⟩
 obtain rfl:=C6 h;exact A9 Z Jy (a:=.tup []) (objs:=[(.cells [.p (vSl 2 A0 q0)]),.cells ((A7 q1).map .p),.cells [pN q2],.cells [pN q3],.yld [] true]) ⟨[],[(4,.yld [] true),(3,.cells [pN q3]),(2,.cells [pN q2]),(1,.cells ((A7 q1).map .p)),(0,.cells [.p (vSl 2 A0 q0)])]⟩ [0,1,2,3,4] (ids:=[(0,0),(1,1),(2,2),(3,3),(4,4)]) ⟨true,rfl,rfl,_,rfl⟩
def JS (N:Nat)(a:Law)(b:Sl Nd):Option ((Sl Nd)×Law×Int×Int):= some (b,a,(a.If.n:Int),(a.Out.n:Int))
theorem VL {b:Law}{c:Sl Nd}{y:(Sl Nd)×Law×Int×Int}(h:JS N b c=some y) :FunO S Pc [.p (.agg (A7 b)),.p (vSl 2 A0 c)] [] (.clo Dl [] [.reg 0 0,.reg 1 0,.reg 2 0,.reg 3 0]) ([.cells [.p (vSl 2 A0 y.1)],.cells ((A7 y.2.1).map .p),.cells [pN y.2.2.1],.cells [pN y.2.2.2]]) []:=by unfold JS at h;refine A4 Z func161 ?_;refine G7 Z Jy [(1,.l [3000]),(2,.n),(4,.l [3000]),(5,.n),(6,.a [6000]),(7,.a [7000]),(8,.a [6000]),(9,.a [7000])] ?_;refine H9 Jy ?_;obtain rfl:=C6 h;exact A9 Z Jy ⟨[(4,.clo Dl [] [.reg 4000 0,.reg 3000 0,.reg 6000 0,.reg 7000 0])],[(7000,.cells [pN (b.Out.n:Int)]),(6000,.cells [pN (b.If.n:Int)]),(4000,.cells [.p (vSl 2 A0 c)]),(3000,.cells ((A7 b).map .p))]⟩ [4000,3000,6000,7000] (ids:=[(3000,3000),(4000,4000),(6000,6000),(7000,7000)]) ⟨rfl,rfl,rfl⟩
def FH (N:Nat)(b:Law)(c:Sl Nd):Option ((Sl Int)×(Sl (Sl Nd))×Int):= (FF N b c).bind fun y1=>if (y1 != 0) then some (Na,(Sl.nil:Sl (Sl Nd)),y1) else (JS N b c).bind fun y2=>(FG N y2.1 y2.2.1 y2.2.2.1 y2.2.2.2).bind fun L1=>AB L1 (fun a (x1:Int×(Sl Nd)) (z1:(Sl Int)×(Sl (Sl Nd)))=>if (decide (32<(x1.2.n:Int))) then some (Na,(Sl.nil:Sl (Sl Nd)),11) else if ((z1.1.n+(Sl.of [x1.1]:Sl Int).n)*8<=140737488355328/\z1.1.n+(Sl.of [x1.1]:Sl Int).n<=140737488355328)then if ((z1.2.n+(Sl.of [x1.2]:Sl (Sl Nd)).n)*24<=140737488355328/\z1.2.n+(Sl.of [x1.2]:Sl (Sl Nd)).n<=140737488355328)then a (z1.1.push x1.1,z1.2.push x1.2) else none else none) (fun (z1:(Sl Int)×(Sl (Sl Nd)))=>some (z1.1,z1.2,0)) (Na,(Sl.nil:Sl (Sl Nd)))
theorem Rd {b:Law}{d:Sl Nd}{y:(Sl Int)×(Sl (Sl Nd))×Int}(h:FH N b d=some y) :FunO S JC [.p (.agg (A7 b)),.p (vSl 2 A0 d)] [] (.tup [.vec 0,.vec 1,pN y.2.2]) ([.vec B2 1 y.1.n (fun i=>cI .i64 (y.1.g i)) true,.vec B4 1 y.2.1.n (fun i=>cL 2 A0 (y.2.1.g i)) true]) []:=by
 unfold FH at h;refine A4 Z func152 ?_;refine I1 Z Jy 4 3000 (A7 b) ?_;obtain⟨y1,e1,h⟩:=B7 h;refine B9 Z [] Kz (Rb Z Y e1) ?_;apply kI Z h<;>intro h
 .obtain rfl:=C6 h;exact A9 Z Jy ⟨[(6,.reg 7000 0),(5,.reg 6000 0),(4,.reg 5000 0)],[(7000,.cells [pN y1]),(6701,.vec B4 1 (Sl.nil:Sl (Sl Nd)).n (fun i=>cL 2 A0 ((Sl.nil:Sl (Sl Nd)).g i)) true),(6000,.cells [.vec 6701]),(5700,.vec B2 1 Na.n (fun i=>cI .i64 (Na.g i)) true),(5000,.cells [.vec 5700])]⟩ [5700,6701] (ids:=[(5000,5000),(6000,6000),(7000,7000)]) ⟨rfl,rfl,rfl⟩
 obtain⟨y2,e2,h⟩:=B7 h;refine B9 Z [] Kz (VL Z Y e2) ?_;obtain⟨L1,e3,h⟩:=B7 h;refine FB Z Jy [21000,21001,21002,21003] [9,8,6,5,4] 901 (fun z1=>⟨[(9,.reg 10000 0),(8,.reg 9000 0),(6,.reg 7000 0),(5,.reg 6000 0),(4,.reg 5000 0)],[(10500,.vec B4 1 z1.2.n (fun i=>cL 2 A0 (z1.2.g i)) false),(10000,.cells [.vec 10500]),(9500,.vec B2 1 z1.1.n (fun i=>cI .i64 (z1.1.g i)) false),(9000,.cells [.vec 9500]),(7000,.cells [pN 0]),(6000,.cells [.p E3]),(5000,.cells [.p E3])]⟩) (idl:=[(5000,5000),(6000,6000),(7000,7000),(9000,9000),(10000,10000)]) h (Rc Z Y e3) (fun _=>by kernel_rfl) (fun _=>by kernel_rfl) (fun _=>by kernel_rfl) (fun _=>by kernel_rfl) (fun x1 _ f z1 j h=>?_) (fun z1 h=>?_)
 .refine Jc Z Jy ?_;apply kI Z h<;>intro h
  .refine Im Z Jy ⟨[(9,.reg 10000 0),(8,.reg 9000 0),(6,.reg 7000 0),(5,.reg 6000 0),(4,.reg 5000 0)],[(10500,.vec B4 1 z1.2.n (fun i=>cL 2 A0 (z1.2.g i)) false),(10000,.cells [.vec 10500]),(9500,.vec B2 1 z1.1.n (fun i=>cI .i64 (z1.1.g i)) false),(9000,.cells [.vec 9500]),(7000,.cells [pN 11]),(6000,.cells [.p E3]),(5000,.cells [.p E3])]⟩ (ids:=[(901,901),(5000,5000),(6000,6000),(7000,7000),(9000,9000),(9500,9500),(10000,10000),(10500,10500)]) ?_;obtain rfl:=C6 h;exact A9 Z Jy ⟨[(6,.reg 7000 0),(5,.reg 6000 0),(4,.reg 5000 0)],[(7000,.cells [pN 11]),(6701,.vec B4 1 (Sl.nil:Sl (Sl Nd)).n (fun i=>cL 2 A0 ((Sl.nil:Sl (Sl Nd)).g i)) true),(6000,.cells [.vec 6701]),(5700,.vec B2 1 Na.n (fun i=>cI .i64 (Na.g i)) true),(5000,.cells [.vec 5700])]⟩ [5700,6701] (ids:=[(5000,5000),(6000,6000),(7000,7000)]) ⟨rfl,rfl,rfl⟩
  refine G7 Z Jy [(0,.l [9000]),(3,.a [30000,9500]),(4,.l [10000]),(7,.a [34000,10500]),(8,.a [9000]),(9,.a [10000])] ?_;refine Dg Jy (x:=.sl true 1 1 (E5 [pI .i64 0] [(0,cI .i64 x1.1)])) ?_;obtain⟨c9,h⟩:=E2 h;refine Dg c9 (x:=.sl true 1 1 (E5 [E3] [(0,cL 2 A0 x1.2)])) ?_;obtain⟨c10,h⟩:=E2 h;refine H9 c10 ?_;exact j _ [(901,901),(5000,5000),(6000,6000),(7000,7000),(9000,9000),(9500,30000),(10000,10000),(10500,34000)] _ (z1.1.push x1.1,z1.2.push x1.2) Jy h (hle:=klR [(0,.fn (z1.2.n+1) (z1.2.push x1.2).n (U3 z1.2.n (fun i=>cL 2 A0 (z1.2.g i)) (E5 [E3] [(0,cL 2 A0 x1.2)])) (fun i=>cL 2 A0 ((z1.2.push x1.2).g i))),(1,.fn (z1.1.n+1) (z1.1.push x1.1).n (U3 z1.1.n (fun i=>cI .i64 (z1.1.g i)) (E5 [pI .i64 0] [(0,cI .i64 x1.1)])) (fun i=>cI .i64 ((z1.1.push x1.1).g i)))] (al1 ⟨rfl,OE (c:=cL 2 A0) (v:=z1.2) (x:=x1.2) (z:=[E3]) same rfl rfl⟩ (al1 ⟨rfl,OE (c:=cI .i64) (v:=z1.1) (x:=x1.1) (z:=[(pI .i64 0)]) same rfl rfl⟩ al0)))
 refine G7 Z Jy [(0,.l [9000]),(1,.l [10000]),(2,.a [5000]),(3,.a [6000]),(4,.a [7000])] ?_;refine H9 Jy ?_;obtain rfl:=C6 h;exact A9 Z Jy ⟨[(6,.reg 7000 0),(5,.reg 6000 0),(4,.reg 5000 0)],[(10500,.vec B4 1 z1.2.n (fun i=>cL 2 A0 (z1.2.g i)) true),(9500,.vec B2 1 z1.1.n (fun i=>cI .i64 (z1.1.g i)) true),(7000,.cells [pN 0]),(6000,.cells [.vec 10500]),(5000,.cells [.vec 9500])]⟩ [9500,10500] (ids:=[(5000,5000),(6000,6000),(7000,7000),(9500,9500),(10500,10500)]) ⟨rfl,rfl,rfl⟩
def FI (N:Nat)(b:Law)(a:Sl Nd):Option ((Sl Nd)×Int):= (FH N b a).bind fun y1=>if (y1.2.2 != 0) then some ((Sl.nil:Sl Nd),y1.2.2) else if (decide (0<(y1.2.1.n:Int))) then if (((0:Int)<=(wrap .i64 ((y1.2.1.n:Int)-1))/\(wrap .i64 ((y1.2.1.n:Int)-1))<(y1.2.1.n:Int))/\(wrap .i64 ((y1.2.1.n:Int)-1)).toNat<y1.2.1.n)then some (y1.2.1.g (wrap .i64 ((y1.2.1.n:Int)-1)).toNat,0) else none else (A8 N a).bind fun y2=>some (y2,0)
theorem Re {a:Law}{b:Sl Nd}{y:(Sl Nd)×Int}(h:FI N a b=some y) :FunO S JB [.p (.agg (A7 a)),.p (vSl 2 A0 b)] [] (.tup [.p (vSl 2 A0 y.1),pN y.2]) ([]) []:=by
 unfold FI at h;refine A4 Z func145 ?_;refine kC Z h (Rd Z Y) (fun y1 h=>?_);apply kI Z h<;>intro h
 .obtain rfl:=C6 h;exact A9 Z Jy ⟨[(5,pN y1.2.2),(4,.p (vSl 2 A0 (Sl.nil:Sl Nd)))],[]⟩ [] (ids:=[]) ⟨rfl,rfl,rfl⟩
 apply kI Z h<;>intro h
 .obtain⟨c3,h⟩:=E2 h;obtain rfl:=C6 h;exact ZL Z c3 [] ⟨rfl,rfl,rfl⟩
 refine kC Z h (F8 Z Y) (fun y2 h=>?_);obtain rfl:=C6 h;exact A9 Z Jy ⟨[(5,pN 0),(4,.p (vSl 2 A0 y2))],[]⟩ [] (ids:=[]) ⟨rfl,rfl,rfl⟩
end Go.AM
namespace Go.AM
open Go.Proofs.Tryz
variable {N:Nat}
open IntKind (wrap)
open Go.Proofs
set_option maxRecDepth 10000
set_option maxHeartbeats 2000000
variable {S:Q8}(Z:F5 S Tryz.prog) (Y:Ip S)
include Z Y
def AP (N:Nat)(a:Law):Option Bool:= (S4 N a).bind fun y1=>some (y1 != 0)
theorem Ic {a:Law}{y:Bool}(h:AP N a=some y) :FunO S DN [.p (.agg (A7 a))] [] (pB y) ([]) []:=by unfold AP at h;refine A4 Z func127 ?_;refine kC Z h (FE Z Y) (fun y1 h=>?_);cases h;exact kR Z
def G0 (N:Nat)(a:Sl Law)(c:Law->Option Bool):Option Int:= R4 N (fun b (x1:Int)=>if (decide (x1<(a.n:Int))) then if ((0:Int)<=x1/\x1<(a.n:Int))then (c (a.g x1.toNat)).bind fun y3=>if y3 then some x1 else b (wrap .i64 (x1+1)) else none else some (-1)) 0
theorem V2 {a:Sl Law}{c:Law->Option Bool}{kp_f:Nat}(d:∀{a0:Law}{b:Bool},c a0=some b->FunO S kp_f [.p (.agg (A7 a0))] [] (pB b) [] []){y:Int}(h:G0 N a c=some y) :FunO S K3 [.p (vSl 18 A7 a),.clo kp_f [] []] [] (pN y) ([]) []:=by
 unfold G0 at h;refine A4 Z func143 ?_;refine I0 Z Jy h (fun x1=>⟨[(8,pN x1),(7,pN (a.n:Int)),(1,.clo kp_f [] []),(0,.p (vSl 18 A7 a))],[]⟩) (ids:=[]) (fun _ _ _ _ _ f x1 g h=>?_);apply kI Z h<;>intro h
 .obtain⟨c8,h⟩:=E2 h;obtain⟨y3,e3,h⟩:=B7 h;refine B9 Z [] (And.intro c8 Kz) (d e3) ?_;apply kI Z h<;>intro h
  .cases h;exact kR Z
  exact g _ [] _ (wrap .i64 (x1+1)) Jy h
 cases h;exact kR Z
def E8 (N:Nat)(a:Sl Law)(b:Law->Option Bool):Option Bool:= (G0 N a b).bind fun y1=>some (decide (0<=y1))
theorem Q6 {a:Sl Law}{c:Law->Option Bool}{kp_f:Nat}(d:∀{a0:Law}{b:Bool},c a0=some b->FunO S kp_f [.p (.agg (A7 a0))] [] (pB b) [] []){y:Bool}(h:E8 N a c=some y) :FunO S I6 [.p (vSl 18 A7 a),.clo kp_f [] []] [] (pB y) ([]) []:=by unfold E8 at h;refine A4 Z func126 ?_;refine kC Z h (V2 Z Y (fun e=>d e)) (fun y1 h=>?_);cases h;exact kR Z
def Cr (N:Nat)(a:Sl Law):Option Int:= if (decide (64<(a.n:Int))) then some 12 else (E8 N a (fun (u1:Law)=>AP N u1)).bind fun y1=>if y1 then some 17 else some 0
theorem KR {a:Sl Law}{y:Int}(h:Cr N a=some y) :FunO S Fc [.p (vSl 18 A7 a)] [] (pN y) ([]) []:=by
 unfold Cr at h;refine A4 Z func108 ?_;apply kI Z h<;>intro h
 .cases h;exact kR Z
 refine kC Z h (Q6 Z Y (fun e=>Ic Z Y e)) (fun y1 h=>?_);apply kI Z h<;>intro h
 .cases h;exact kR Z
 cases h;exact kR Z
def Cs (N:Nat)(b:Sl Law)(a:Sl (Sl Nd)):Option Int:= (Cr N b).bind fun y1=>if (y1 != 0) then some y1 else if (decide (256<(a.n:Int))) then some 12 else R4 N (fun c (x1:Int)=>if (decide (x1<(a.n:Int))) then if ((0:Int)<=x1/\x1<(a.n:Int))then (N8 N (a.g x1.toNat)).bind fun y4=>if (y4 != 0) then some y4 else c (wrap .i64 (x1+1)) else none else some 0) 0
theorem KS {b:Sl Law}{a:Sl (Sl Nd)}{y:Int}(h:Cs N b a=some y) :FunO S Fb [.p (vSl 18 A7 b),.p (vSl 1 (cL 2 A0) a)] [] (pN y) ([]) []:=by
 unfold Cs at h;refine A4 Z func81 ?_;refine kC Z h (KR Z Y) (fun y1 h=>?_);apply kI Z h<;>intro h
 .cases h;exact kR Z
 apply kI Z h<;>intro h
 .cases h;exact kR Z
 refine I0 Z Jy h (fun x1=>⟨[(19,pN x1),(18,pN (a.n:Int)),(17,.p (vSl 1 (cL 2 A0) a))],[]⟩) (ids:=[]) (fun _ _ _ _ _ c x1 d h=>?_);apply kI Z h<;>intro h
 .obtain⟨c10,h⟩:=E2 h;obtain⟨y4,e4,h⟩:=B7 h;refine B9 Z [] c10 (BW Z Y e4) ?_;apply kI Z h<;>intro h
  .cases h;exact kR Z
  exact d _ [] _ (wrap .i64 (x1+1)) Jy h
 cases h;exact kR Z
end Go.AM
