/- Part 5. -/
import Derived.Test.YtodhnkfgkgkngaaGreatDoorKD
import Derived.Test.YtodhnkfgkgkngaaGreatDoorKC
import Derived.RecoverIn
import Derived.Test.YtodhnkfgkgkngaaGreatDoorProg
import Derived.Lib.SlTrimSet
import Derived.TacticsInMore
set_option linter.defProp false
set_option linter.unusedSimpArgs false
set_option linter.unusedVariables false
set_option linter.unusedSectionVars false
namespace Go.AM
abbrev Gg:Sl Int:=Sl.nil
def Gf:true=true:=rfl
def Fx:(18:Nat)<=18:=by decide
def Ea:(7:Nat)<=7:=by decide
def Dn:(2:Nat)<=2:=by decide
noncomputable abbrev VY:=Go.Proofs.Tryz.prog.funcs
theorem Cj (D:List Deferred)(a:Act)(d:Option Tmp)(v:Value):(IJ D a).put d v=IJ D (a.put d v):=by cases d<;>rfl
theorem Fv {F:Fence}{n:Nat}{P:Program}{ops:Array Oper}{Q:Exit->Act->World->Prop}(D:List Deferred):∀(l:List Nat) (a:Act) (w:World),wpOpsIn F n P ops Q l a w ->
 wpOpsIn F n P ops (fun e a' w'=>∃a0,a' = IJ D a0/\Q e a0 w') l (IJ D a) w
 |[],a,w,h=>⟨a,rfl,h⟩
 |i::l,a,w,h=>by
  have ih:=Fv (F:=F) (n:=n) (P:=P) (ops:=ops) (Q:=Q) D l;simp only[wpOpsIn]at h⊢;have e1:(IJ D a).eval=a.eval:=by funext x;cases x<;>rfl
  have e2:(IJ D a).tmps=a.tmps:=rfl;cases j:ops[i]? with
  |none=>simp only[j]at h⊢;exact ih a w h
  |some o=>
   simp only[j]at h⊢;rw[e2,e1];by_cases m:Region.wanted o (yielded ops a.tmps)=true
   .rw[Au m]at h⊢;refine⟨by rw[e1];exact h.1,?_⟩;have b:=h.2;rw[e1];generalize (o.semAt F.round a.eval).run P w=r at b;unfold Oper.uponIn at b⊢;split at b
    .rw[Cj];exact ih _ _ b
    .rw[Cj];exact ih _ _ b
    .exact ih _ _ b |> fun x=>by
      rename_i d w'
      have:({ (IJ D a)with defers:=d::(IJ D a).defers }:Act).put o.dst undef=IJ D (({ a with defers:=d::a.defers }:Act).put o.dst undef):=by rw[<- Cj];rfl
      rw[this];exact x
    .refine⟨b.1,b.2.mono ?_⟩;intro e w' f;cases e with
     |returned v=>have:=ih _ _ f;rw[<- Cj]at this;exact this
     |panicked ch=>exact⟨a,rfl,f⟩
     |outgrown=>obtain⟨a1,w1,g⟩:=f;exact⟨IJ D a1,w1,a1,rfl,g⟩
    .refine⟨b.1,fun c cs q=>?_⟩;obtain⟨v,w',g1,g2⟩:=b.2 c cs q;exact⟨v,w',by have:=ih _ _ g1;rw[<- Cj]at this;exact this,g2⟩
    .refine⟨b.1,b.2.mono ?_⟩;intro e w' f;cases e with
     |returned v=>have:=ih _ _ f;rw[<- Cj]at this;exact this
     |panicked ch=>exact⟨a,rfl,f⟩
     |outgrown=>obtain⟨a1,w1,g⟩:=f;exact⟨IJ D a1,w1,a1,rfl,g⟩
    .exact⟨a,rfl,b⟩
    exact b.elim
   rw[Ay m]at h⊢;rw[Cj];exact⟨h.1,ih _ _ h.2⟩
section
variable {P:Program}{C:Ctx}{st:St}{rho:Nat->Value}
theorem Ck {fn:Func}{R:Ending->World->Prop}{u:FrameMode}(c:u ≠ .run){tmps:Array Value}{D:List Deferred}(b:∀a w,Sat C st a w rho->a.tmps=tmps->LeavesInM Fence.wide 0 P fn tmps R D u w) :∀(ds:List Deferred) (a:Act) (w:World),a.defers=ds->a.tmps=tmps->Sat C st a w rho->LeavesInM Fence.wide 0 P fn tmps R (ds++D) u w
 |[],a,w,hd,ht,h=>b a w h ht
 |d::ds,a,w,hd,ht,h=>by obtain⟨r,w',h1,f,g⟩:=h.unmark hd;exact⟨c,.inl ⟨r,w',h1,f,Ck c b ds { a with defers:=ds } w' rfl ht g⟩⟩
end
end Go.AM
namespace Go.AM
structure C8 where
 Parent:Int
 Name:Str
 deriving Inhabited,DecidableEq
abbrev A9 (x:C8):List PV:=[(pI .i64 x.Parent),.str x.Name]
structure A1 where
 Plus:Int
 Minus:Int
 deriving Inhabited,DecidableEq
abbrev A0 (x:A1):List PV:=[(pI .u32 x.Plus),pI .u32 x.Minus]
inductive Pat where
 |nil
 |mk (Kind:Int) (Is:A1) (Not:Bool) (Min:Int) (Max:Int) (n:Nat) (g:Nat->Pat)
instance:Inhabited Pat:=⟨.nil⟩
def Pat.Kind:Pat->Int
 |.nil=>0
 |.mk x _ _ _ _ _ _=>x
def Pat.Is:Pat->A1
 |.nil=>default
 |.mk _ x _ _ _ _ _=>x
def Pat.Not:Pat->Bool
 |.nil=>false
 |.mk _ _ x _ _ _ _=>x
def Pat.Min:Pat->Int
 |.nil=>0
 |.mk _ _ _ x _ _ _=>x
def Pat.Max:Pat->Int
 |.nil=>0
 |.mk _ _ _ _ x _ _=>x
def Pat.L:Pat->Sl Pat
 |.nil=>⟨0,fun _=>.nil⟩
 |.mk _ _ _ _ _ n g=>⟨n,g⟩
def Dd:Pat->Nat->List PV
 |.nil=>fun _=>[]
 |.mk _ _ _ _ _ n g=>fun i=>[(pI .i64 (g i).Kind),pI .u32 (g i).Is.Plus,pI .u32 (g i).Is.Minus,.bb (g i).Not,pI .i64 (g i).Min,pI .i64 (g i).Max,.sl false 7 (g i).L.n (Dd (g i))]
abbrev C7 (x:Pat):List PV:=[(pI .i64 x.Kind),pI .u32 x.Is.Plus,pI .u32 x.Is.Minus,.bb x.Not,pI .i64 x.Min,pI .i64 x.Max,.sl false 7 x.L.n (Dd x)]
def Cl (x:Pat):∀i,i<x.L.n->Dd x i=C7 (x.L.g i):=by
 cases x with
 |nil=>intro i a;exact Ba (show i<0 from a) (by omega)
 |mk Kind Is Not Min Max n g=>exact fun _ _=>rfl
structure P5 where
 From:Int
 Clear:Int
 Set:A1
 Take:Int
 Of:Int
 deriving Inhabited,DecidableEq
abbrev K3 (x:P5):List PV:=[(pI .i64 x.From),pI .u32 x.Clear,pI .u32 x.Set.Plus,pI .u32 x.Set.Minus,pI .u32 x.Take,pI .i64 x.Of]
structure Law where
 Name:Str
 Left:Pat
 Right:Pat
 If:(Sl A1)
 Out:(Sl P5)
 Mode:Int
 deriving Inhabited
abbrev A8 (x:Law):List PV:=[(.str x.Name),pI .i64 x.Left.Kind,pI .u32 x.Left.Is.Plus,pI .u32 x.Left.Is.Minus,.bb x.Left.Not,pI .i64 x.Left.Min,pI .i64 x.Left.Max,.sl false 7 x.Left.L.n (Dd x.Left),pI .i64 x.Right.Kind,pI .u32 x.Right.Is.Plus,pI .u32 x.Right.Is.Minus,.bb x.Right.Not,pI .i64 x.Right.Min,pI .i64 x.Right.Max,.sl false 7 x.Right.L.n (Dd x.Right),vSl 2 A0 x.If,vSl 6 K3 x.Out,pI .i64 x.Mode]
structure B1 where
 Tree:(Sl C8)
 Laws:(Sl Law)
 On:(Sl (Sl Int))
 deriving Inhabited
abbrev A5 (x:B1):List PV:=[(vSl 2 A9 x.Tree),vSl 18 A8 x.Laws,vSl 1 (cL 1 (cI .i64)) x.On]
structure O4 where
 w:(Sl A1)
 e:Int
 deriving Inhabited
abbrev G9 (x:O4):List PV:=[(vSl 2 A0 x.w),pI .i64 x.e]
inductive Part where
 |nil
 |sound (x:A1) (no:Bool)
 |edge (e:Bool)
 |seq (n:Nat) (g:Nat->Part)
 |alt (n:Nat) (g:Nat->Part)
 |rep (o:Part) (mn mx:Int)
instance:Inhabited Part:=⟨.nil⟩
def Part.t:Part->Nat
 |.nil=>0
 |.sound _ _=>221
 |.edge _=>223
 |.seq _ _=>228
 |.alt _ _=>225
 |.rep _ _ _=>227
def Part.v:Part->PV
 |.nil=>.bb false
 |.sound x no=>.agg [pI .u32 x.Plus,pI .u32 x.Minus,.bb no]
 |.edge e=>.agg [.bb e]
 |.seq n g=>.agg [.sl false 1 n fun i=>[.iface (g i).t (g i).v]]
 |.alt n g=>.agg [.sl false 1 n fun i=>[.iface (g i).t (g i).v]]
 |.rep o mn mx=>.agg [.iface o.t o.v,pI .i64 mn,pI .i64 mx]
abbrev De (x:Part):PV:=.iface x.t x.v
abbrev BW (x:Part):List PV:=[De x]
structure QU where
 is:A1
 not:Bool
 deriving Inhabited,DecidableEq
abbrev OL (x:QU):List PV:=[(pI .u32 x.is.Plus),pI .u32 x.is.Minus,.bb x.not]
structure Uk where
 end_:Bool
 deriving Inhabited,DecidableEq
abbrev Ul (x:Uk):List PV:=[(.bb x.end_)]
structure Palt where
 l:(Sl Part)
 deriving Inhabited
abbrev Vv (x:Palt):List PV:=[(vSl 1 BW x.l)]
structure Prep where
 of:Part
 min:Int
 max:Int
 deriving Inhabited
abbrev Vw (x:Prep):List PV:=[(De x.of),pI .i64 x.min,pI .i64 x.max]
structure Pseq where
 l:(Sl Part)
 deriving Inhabited
abbrev Vx (x:Pseq):List PV:=[(vSl 1 BW x.l)]
end Go.AM
namespace Go.AM
open Go.Proofs
abbrev V6:Nat:=9
abbrev HV:Nat:=13
abbrev GA:Nat:=14
abbrev Df:Nat:=16
abbrev CL:Nat:=18
abbrev HX:Nat:=20
abbrev HY:Nat:=21
abbrev Ei:Nat:=23
abbrev Ej:Nat:=27
abbrev Dg:Nat:=30
abbrev Fw:Nat:=31
abbrev Dh:Nat:=32
abbrev Ek:Nat:=33
abbrev Ib:Nat:=34
abbrev QV:Nat:=35
abbrev QW:Nat:=36
abbrev Aj:Nat:=37
abbrev Ak:Nat:=38
abbrev Al:Nat:=39
abbrev Am:Nat:=40
abbrev An:Nat:=41
abbrev Ao:Nat:=42
abbrev Ap:Nat:=43
abbrev Aq:Nat:=44
abbrev Ar:Nat:=45
abbrev Z0:Nat:=46
abbrev Cm:Nat:=47
abbrev Dj:Nat:=48
abbrev QX:Nat:=49
abbrev Dk:Nat:=58
abbrev El:Nat:=59
abbrev Fy:Nat:=60
abbrev Em:Nat:=61
abbrev Fz:Nat:=65
abbrev E8:Nat:=66
abbrev GB:Nat:=69
abbrev GC:Nat:=70
abbrev J6:Nat:=72
abbrev CM:Nat:=73
abbrev S7:Nat:=74
abbrev Ie:Nat:=76
abbrev GD:Nat:=78
abbrev Dl:Nat:=79
abbrev FA:Nat:=80
abbrev En:Nat:=81
abbrev CN:Nat:=82
abbrev O8:Nat:=83
abbrev W3:Nat:=90
abbrev GE:Nat:=93
abbrev I5:Nat:=94
abbrev Q7:Nat:=96
abbrev K5:Nat:=97
abbrev FB:Nat:=98
abbrev JX:Nat:=99
abbrev FC:Nat:=100
abbrev FD:Nat:=101
abbrev Ii:Nat:=102
abbrev GF:Nat:=103
abbrev G1:Nat:=104
abbrev H2:Nat:=105
abbrev GG:Nat:=106
abbrev Dm:Nat:=107
abbrev Eo:Nat:=108
abbrev G3:Nat:=109
abbrev N2:Nat:=110
abbrev F8:Nat:=111
abbrev S8:Nat:=112
abbrev Bt:Nat:=120
abbrev Ep:Nat:=121
abbrev J1:Nat:=122
abbrev H0:Nat:=123
abbrev I6:Nat:=124
abbrev FE:Nat:=125
abbrev H3:Nat:=126
abbrev CP:Nat:=127
abbrev Er:Nat:=128
abbrev GH:Nat:=141
abbrev D1:Nat:=142
abbrev I7:Nat:=143
abbrev K4:Nat:=144
abbrev Ik:Nat:=145
abbrev Il:Nat:=152
abbrev Im:Nat:=160
abbrev Mq:Nat:=161
abbrev Cn:Nat:=169
abbrev JY:Nat:=170
abbrev I1:Nat:=171
abbrev Mr:Nat:=172
abbrev Ms:Nat:=173
abbrev FF:Nat:=174
abbrev Bf:Nat:=181
abbrev GI:Nat:=182
abbrev BX:Nat:=183
abbrev F6:Nat:=184
abbrev Es:Nat:=185
abbrev GJ:Nat:=186
abbrev O0:Nat:=192
abbrev FG:Nat:=193
abbrev Io:Nat:=194
abbrev Ip:Nat:=195
abbrev Iq:Nat:=196
abbrev FH:Nat:=203
abbrev FI:Nat:=204
abbrev At:Nat:=205
abbrev Et:Nat:=206
abbrev Dp:Nat:=207
abbrev Y2:Nat:=208
abbrev N8:Nat:=209
abbrev T6:Nat:=210
abbrev J7:Nat:=211
abbrev Z1:Nat:=227
abbrev AO:Nat:=228
abbrev Bu:Nat:=229
abbrev Co:Nat:=230
abbrev Bg:Nat:=231
abbrev Cp:Nat:=232
abbrev Dr:Nat:=233
abbrev S0:Nat:=234
abbrev Cq:Nat:=235
abbrev C0:Nat:=3
abbrev Tg:Nat:=4
abbrev Cr:Nat:=9
abbrev B0:Nat:=27
abbrev E2:Nat:=48
abbrev B3:Nat:=51
abbrev Ds:Nat:=54
abbrev K6:Nat:=57
abbrev T7:Nat:=58
abbrev D6:Nat:=96
abbrev NF:Nat:=214
end Go.AM
namespace Go.AM
abbrev U (x:BitVec 64):Int:=(x.toNat:Int)
end Go.AM
namespace Go.AM
open Go.Proofs.Tryz
variable {N:Nat}
open Go.Proofs
abbrev SA:List AV:=[.reg 0 0,.reg 1 0,.reg 2 0,.reg 3 0]
abbrev NG (c:Int)(a:Sl Law)(b:Sl A1)(y:PV):List Obj:=[.cells [pN c],.cells [.p (vSl 18 A8 a)],.cells [.p (vSl 2 A0 b)],.cells [.p y]]
structure GK (S:O7):Prop where
 attR:∀{a:Sl Law}{b y:Sl A1},FunO S F8 [.p (vSl 18 A8 a),.p (vSl 2 A0 b)] [] (.p (vSl 2 A0 y)) [] []->FunO S G3 SA (NG 0 a b E3) (.tup []) (NG 0 a b (vSl 2 A0 y)) [true,true,true,true]
 attP:∀{a:Sl Law}{b:Sl A1}{c:Int},(S.F F8 [.p (vSl 18 A8 a),.p (vSl 2 A0 b)] [] fun res o k=>res=.panic (.iface 149 (pI .i64 c))/\o=[]/\k=[])->FunO S G3 SA (NG 0 a b E3) (.tup []) (NG c a b E3) [true,true,true,true]
 tz:∀x:BitVec 64,Rp S J7 [.p (pI .u64 (U x))] (.p (pI .i64 (Lib.ctz 64 x.toNat:Nat)))
 trim:∀s c:Str,s.length<1000000000000->c.length<1000000->(∀b∈c,b.toNat<128)->Rp S Bt [.p (.str s),.p (.str c)] (.p (.str (Lib.trimS s c)))
 growS:∀(f:Nat->List PV) (n:Nat),n*8<=140737488355328->FunO S F6 [.p E3,.p (pI .i64 (n:Int))] [] (.vec 0) [.vec B3 2 0 f false] []
def P9 (N:Nat)(x:Int):Option Int:=if 0<=x/\x<18446744073709551616 then some ((Lib.ctz 64 x.toNat:Nat):Int)else none
def Eu (N:Nat)(s c:Str):Option Str:=if s.length<1000000000000/\c.length<1000000/\(c.all fun b=>decide (b.toNat<128)) then some (Lib.trimS s c)else none
def J2 (N:Nat)(n:Int):Option (Sl A1):=if 0<=n/\n*8<=140737488355328 then some (Sl.nil:Sl A1)else none
section
variable {S:O7}(Z:E7 S Tryz.prog) (Y:GK S)
include Z Y
theorem AP {x y:Int}(h:P9 N x=some y):FunO S J7 [.p (pI .u64 x)] [] (.p (pI .i64 y)) [] []:=by
 obtain⟨⟨a,h1⟩,h⟩:=H1 h;obtain rfl:=C6 h
 have:=Y.tz (BitVec.ofNat 64 x.toNat)
 have e:(BitVec.ofNat 64 x.toNat).toNat=x.toNat:=by rw[BitVec.toNat_ofNat];omega
 have e2:U (BitVec.ofNat 64 x.toNat)=x:=by show ((BitVec.ofNat 64 x.toNat).toNat:Int)=x;rw[e];omega
 rw[e,e2]at this;exact this
theorem Jk {s c:Str}{y:Str}(h:Eu N s c=some y):FunO S Bt [.p (.str s),.p (.str c)] [] (.p (.str y)) [] []:=by obtain⟨⟨a,h1,d⟩,h⟩:=H1 h;obtain rfl:=C6 h;exact Y.trim s c a h1 fun b hb=>by simpa using Wn.1 d b hb
theorem T1 {n:Int}{y:Sl A1}(h:J2 N n=some y):FunO S F6 [.p E3,.p (pI .i64 n)] [] (.vec 0) [.vec B3 2 y.n (fun i=>A0 (y.g i)) false] []:=by
 obtain⟨⟨a,h1⟩,h⟩:=H1 h;obtain rfl:=C6 h
 have:=Y.growS (fun i=>A0 default) n.toNat (by omega)
 rw[show ((n.toNat:Nat):Int)=n by omega]at this;exact this
def A7 (N:Nat)(s:Sl A1):Option (Sl A1):=if (0+s.n)*8<=140737488355328/\0+s.n<=140737488355328 then some s else none
theorem E9 {s y:Sl A1}(h:A7 N s=some y):FunO S E8 [.p (vSl 2 A0 s)] [] (.vec 0) [.vec B3 2 y.n (fun i=>A0 (y.g i)) true] []:=by
 unfold A7 at h;obtain⟨c1,h⟩:=H1 h;obtain rfl:=C6 h;refine A4 Z func66 ?_;refine QP Z Bs 3 (k:=2) (n:=s.n) (f:=fun i=>A0 (s.g i)) (fun a=>?_) ?_
 .obtain⟨n,g⟩:=s;obtain rfl:n=0:=a;exact A6 Z Bs ⟨[(2,.vec 3700)],[(3700,.vec B3 2 0 (fun i=>A0 (g i)) true)]⟩ [3700] (ids:=[]) ⟨rfl,rfl,rfl⟩
 exact A6 Z (And.intro Gf c1) ⟨[(2,.vec 8000)],[(8000,.vec B3 2 s.n (fun i=>A0 (s.g i)) true)]⟩ [8000] (ids:=[(8000,8000)]) ⟨rfl,rfl,rfl⟩
  (hle:=klR [(0,.fn (0+s.n) s.n (V7 0 (B8 [pI .u32 0,pI .u32 0] []) (fun i=>A0 (s.g i))) (fun i=>A0 (s.g i)))] (al1 ⟨WG _,fun i _=>by simp[V7]⟩ al0))
def G4 (N:Nat)(s:Sl P5):Option (Sl P5):=if (0+s.n)*32<=140737488355328/\0+s.n<=140737488355328 then some s else none
theorem R0 {s y:Sl A1}(h:A7 N s=some y):FunO S E8 [.p (vSl 2 A0 s)] [] (.p (vSl 2 A0 y)) [] []:=by
 unfold A7 at h;obtain⟨c1,h⟩:=H1 h;obtain rfl:=C6 h;refine A4 Z func66 ?_;refine QP Z Bs 3 (k:=2) (n:=s.n) (f:=fun i=>A0 (s.g i)) (fun a=>?_) ?_
 .obtain⟨n,g⟩:=s;obtain rfl:n=0:=a;exact A6 Z Bs ⟨[(2,.p (vSl 2 A0 ⟨0,g⟩))],[]⟩ [] (ids:=[]) ⟨rfl,rfl,rfl⟩
 exact A6 Z (And.intro Gf c1) ⟨[(2,.p (vSl 2 A0 s))],[]⟩ [] (ids:=[]) ⟨rfl,rfl,rfl⟩
  (hle:=klR [(0,.fn (0+s.n) s.n (V7 0 (B8 [pI .u32 0,pI .u32 0] []) (fun i=>A0 (s.g i))) (fun i=>A0 (s.g i)))] (al1 ⟨WG _,fun i _=>by simp[V7]⟩ al0))
theorem V5 {s y:Sl P5}(h:G4 N s=some y):FunO S K5 [.p (vSl 6 K3 s)] [] (.p (vSl 6 K3 y)) [] []:=by
 unfold G4 at h;obtain⟨c1,h⟩:=H1 h;obtain rfl:=C6 h;refine A4 Z func97 ?_;refine QP Z Bs 3 (k:=6) (n:=s.n) (f:=fun i=>K3 (s.g i)) (fun a=>?_) ?_
 .obtain⟨n,g⟩:=s;obtain rfl:n=0:=a;exact A6 Z Bs ⟨[(2,.p (vSl 6 K3 ⟨0,g⟩))],[]⟩ [] (ids:=[]) ⟨rfl,rfl,rfl⟩
 exact A6 Z (And.intro Gf c1) ⟨[(2,.p (vSl 6 K3 s))],[]⟩ [] (ids:=[]) ⟨rfl,rfl,rfl⟩
  (hle:=klR [(0,.fn (0+s.n) s.n (V7 0 (B8 [pI .i64 0,pI .u32 0,pI .u32 0,pI .u32 0,pI .u32 0,pI .i64 0] []) (fun i=>K3 (s.g i))) (fun i=>K3 (s.g i)))] (al1 ⟨WG _,fun i _=>by simp[V7]⟩ al0))
end
end Go.AM
set_option maxRecDepth 100000
namespace Go.AM
open Go.Proofs.Tryz
open Go.Proofs
def PE (v:Value)(w:World):(Instr.typeAssert (.iface 149 v) 20 149 true).run Tryz.prog w=.ok (.tuple #[v,.bool true]) w:=by kernel_rfl
def NH (p:Value)(w:World):CallsDIn Fence.wide 0 Tryz.prog N2 #[p] .returning w fun e u' w'=>e=.returned (.tuple #[])/\u' = .returning/\w' = w:=by
 refine callsDIn_of_wpSIn func110 rfl (by simp[Fence.wide]) fun c₀ cs a=>?_;apply wpSIn_seq;apply wpSIn_region;simp[wpOpsSIn,go_sem,recoverD,a,f110,Exit.thenS];refine wpSIn_of_wpIn rfl (wpIn_block (wpIn_seq (wpIn_region ?_)));simp[wpOpsIn,Oper.wpIn,Oper.semAt,Oper.uponIn,go_sem,Exit.then];refine wpIn_cond (t:=true) (by simp[Act.eval]) ?_;simp only[Be];refine wpIn_region ?_;simp[wpOpsIn,Oper.wpIn,Oper.semAt,Oper.uponIn,go_sem,Exit.inBlock,bodyPostS,results];cases c₀
 simp_all
def GU (p:Value)(c:Int)(older:List PanicEntry)(w w1:World)(a:(Instr.storeAt 30 p (.int .i64 c)).run Tryz.prog w=.ok () w1)(hn:∃b,p=.pointer (some b)) :CallsDIn Fence.wide 0 Tryz.prog N2 #[p] (.panicking ({ v:=.iface 149 (.int .i64 c),recovered:=false }::older)) w fun e u' w'=>
  e=.returned (.tuple #[])/\u' = .panicking ({ v:=.iface 149 (.int .i64 c),recovered:=true }::older)/\w' = w1:=by
 obtain⟨b,rfl⟩:=hn;refine callsDIn_of_wpSIn func110 rfl (by simp[Fence.wide]) fun c₀ cs d=>?_;apply wpSIn_seq;apply wpSIn_region;simp[wpOpsSIn,go_sem,recoverD,d,f110,Exit.thenS];refine wpSIn_of_wpIn rfl (wpIn_block (wpIn_seq (wpIn_region ?_)));simp[wpOpsIn,Oper.wpIn,Oper.semAt,Oper.uponIn,go_sem,Exit.then];refine wpIn_cond (t:=false) (by simp[Act.eval]) ?_;simp only[Wg,Br];refine wpIn_seq (wpIn_region ?_);simp[wpOpsIn,Oper.wpIn,Oper.semAt,Oper.uponIn,go_sem,Exit.then,PE];refine wpIn_cond (t:=true) (by simp[Act.eval]) ?_;simp only[Be];refine wpIn_seq (wpIn_region ?_);simp[wpOpsIn,Oper.wpIn,Oper.semAt,Oper.uponIn,go_sem,Exit.then];refine wpIn_region ?_;simp[wpOpsIn,Oper.wpIn,Oper.semAt,Oper.uponIn,go_sem,a,Exit.inBlock,bodyPostS,results];simp[go_sem]at a;rw[a];simp[Result.andThen]
noncomputable def Uz:Code:=match Tryz.f109.body with
 |some (.seq _ c)=>c
 |_=>.skip
def Up {S:O7}(Z:E7 S Tryz.prog){a:Sl Law}{b y:Sl A1}(c:FunO S F8 [.p (vSl 18 A8 a),.p (vSl 2 A0 b)] [] (.p (vSl 2 A0 y)) [] []) :KG S Tryz.prog (JW S (fun st=>H6 [0,1,2,3] st.regs [0,1,2,3]=some (NG 0 a b (vSl 2 A0 y))) fun _ _=>False) (.code Uz [] ⟨argEnv SA,objRegs (NG 0 a b E3)⟩):=by refine B7 Z [] Bs c ?_;exact K_upN Z Bs ⟨[],[(3,.cells [.p (vSl 2 A0 y)]),(2,.cells [.p (vSl 2 A0 b)]),(1,.cells [.p (vSl 18 A8 a)]),(0,.cells [pN 0])]⟩ (ids:=[(0,0),(1,1),(2,2),(3,3)]) rfl
def Rb {S:O7}(Z:E7 S Tryz.prog){a:Sl Law}{b:Sl A1}{c:Int}(d:S.F F8 [.p (vSl 18 A8 a),.p (vSl 2 A0 b)] [] fun res o k=>res=.panic (.iface 149 (pI .i64 c))/\o=[]/\k=[]) :KG S Tryz.prog (JW S (fun _=>False) fun x st=>x=.iface 149 (pI .i64 c)/\store Tryz.prog st.regs 30 (.reg 0 0) (.p (pI .i64 c))=some ([],ins 0 (.cells [pN c]) st.regs)/\H6 [0,1,2,3] (ins 0 (.cells [pN c]) st.regs) [0,1,2,3]=some (NG c a b E3)) (.code Uz [] ⟨argEnv SA,objRegs (NG 0 a b E3)⟩):=by refine Uj Z [] Bs d ?_;exact K_upP Z Bs ⟨rfl,by kernel_rfl,by kernel_rfl⟩
noncomputable def att1:Code:=match Tryz.f109.body with
 |some (.seq c _)=>c
 |_=>.skip
noncomputable def attOps:Array Oper:=match Uz with
 |.region _ ops _=>ops
 |_=>#[]
def OM:Uz=.region 1 attOps false:=by kernel_rfl
def Vy:attOps.toList.all (Ec 7 attOps.toList)=true:=by kernel_rfl
def SB:¬Tryz.f109.name = "runtime.NumGoroutine" := by decide +kernel
def ON:Tryz.f109.body=some (.seq att1 Uz):=by kernel_rfl
def Uq {C:Ctx}{vs:Array Value}{w:World}{rho:Nat->Value}{args:List AV}{objs:List Obj}{n:Nat}(Z:Sat C ⟨argEnv args,objRegs objs⟩ ⟨vs,[]⟩ w rho)(a:vs.size=args.length) :Sat C ⟨argEnv args,objRegs objs⟩ { tmps:=vs++Array.replicate n undef,defers:=[] } w rho:=by
 refine⟨Z.toSatE,fun t=>?_,Z.pin,Z.marks⟩
 have:=Z.env t
 by_cases b:t<vs.size
 .simpa[VV,Xf,b]using this
 show RepA w _ _ _ _ (get (argEnv args) t);rw[Q5,VW,Wx (by omega)];exact .top _
def Iw {R:St->Prop}{X:PV->St->Prop}{a:Sl Law}{b:Sl A1}{objs' : List Obj}
 (a1:KG (DO Tryz.prog) Tryz.prog (JW (DO Tryz.prog) R X) (.code Uz [] ⟨argEnv SA,objRegs (NG 0 a b E3)⟩))
 (hR:∀st,R st->H6 [0,1,2,3] st.regs [0,1,2,3]=some objs')
 (hX:∀x st,X x st->∃c regs',x=.iface 149 (pI .i64 c)/\store Tryz.prog st.regs 30 (.reg 0 0) (.p (pI .i64 c))=some ([],regs')/\H6 [0,1,2,3] regs' [0,1,2,3]=some objs') :
 FunO (DO Tryz.prog) G3 SA (NG 0 a b E3) (.tup []) objs' [true,true,true,true]:=by
 intro 𝒢 C w vs rho hG Z t;obtain⟨l⟩:=vs
 match l,t with
 |[v0,v1,v2,v3],t=>?_
 refine⟨.enter G3 #[v0,v1,v2,v3],w,by simp[callFunc,func109,ON,SB],?_⟩;refine callsIn_of_wp_marks func109 ON Bs ?_;have a2:=Uq (n:=Tryz.f109.ntmps-4) Z t;have a9:Tryz.f109.ntmps-4=3:=rfl;rw[a9]at a2;have b1:((#[v0,v1,v2,v3]:Array Value)++Array.replicate 3 undef).size=7:=rfl;have hw:FR (DO Tryz.prog) Tryz.prog attOps.toList attOps.toList (JW (DO Tryz.prog) R X) ⟨argEnv SA,objRegs (NG 0 a b E3)⟩:=by
  have:=a1.out
  rw[OM]at this;simpa only[G,awp,kp,Wg,Br]using this
 have a4:=HD (𝒢:=𝒢.fix C.rho0) (n:=7) (ro:=none) (ops:=attOps) Vy attOps.toList 0 rfl (by simp) ⟨hG,rfl⟩ a2 b1 hw;have a5:=Fv [{ target:=.fn (.func N2) #[],args:=#[v0] }] _ _ _ a4;rw[List.drop_zero]at a5;obtain⟨b0,a6,u⟩:∃b0,v0=.pointer (some ⟨b0,0,none⟩)/\rho 0=.pointer (some ⟨b0,0,none⟩):=by
  have h0:RepA w _ _ rho v0 (.reg 0 0):=Z.env 0;cases h0 with
  |reg _ _ b0 _ h=>exact⟨b0,rfl,h⟩
 have s:∀{C' : Ctx}{st' : St}{a' : Act}{w' : World}{rho' : Nat->Value},(𝒢.fix C.rho0).G C' -> Sat C' st' a' w' rho' -> H6 [0,1,2,3] st'.regs [0,1,2,3]=some objs' ->
  LeavesInM Fence.wide 0 Tryz.prog f109 a'.tmps (fun e w'=>∃C' r objs0 ks rho', 𝒢.G C' /\ (r=.ret (.tup [])/\objs0=objs' /\ ks=[true,true,true,true])/\SatE C' (objRegs objs0) w' rho' /\
   ST w' (Prv C'.X (A2 (objRegs objs0)) rho') (Lv (A2 (objRegs objs0))) rho' e r/\∀i:Nat,ks[i]? = some true->i<objs0.length/\rho' i=rho i) [] .returning w':=by
  intro C' st' a' w' rho' d f m;obtain⟨g1,g2,g3⟩:=HE f (by decide) m;obtain⟨hl,hg⟩:=Q6 m;refine⟨.tuple #[],by simp[results,f109],C', .ret (.tup []),objs',_,_,d.1,⟨rfl,rfl,rfl⟩,g1,⟨_,rfl,.tup _ _ rfl fun i hi=>Ba hi (by simp)⟩,?_⟩;intro i hi;have y:i<4:=by
   have:=(Wh.1 hi).1
   simpa using this
  refine⟨by rw[hl];exact y,?_⟩;have e1:[0,1,2,3][i]? = some i:=by
   match i,y with
   |0,_=>rfl
   |1,_=>rfl
   |2,_=>rfl
   |3,_=>rfl
  obtain⟨o,_,ho,_⟩:=hg i i e1;show rho' ([0,1,2,3].getD i 0)=rho i;rw[Z7 e1,f.pin i (by omega) (by simp[Lv,ho]),d.2];refine (Z.pin i (by omega) ?_).symm;rw[Lv,C5]
  match i,y with
  |0,_=>rfl
  |1,_=>rfl
  |2,_=>rfl
  |3,_=>rfl
 generalize hQ:bodyPostM _ _ _ _ _=QQ;refine wpIn_seq ?_;simp only[att1,f109];refine wpIn_region ?_;simp[wpOpsIn,Oper.wpIn,Oper.semAt,Oper.uponIn,go_sem,Exit.then];subst hQ;rw[OM];refine wpIn_mono (wpIn_region (F:=FW none) a5) ?_;rintro e a' w' ⟨a0,rfl,z⟩;cases e with
 |exit id=>obtain⟨_,_,_,_,_,_,h⟩:=z;exact h.elim
 |goto l=>obtain⟨_,_,_,_,_,_,h⟩:=z;exact h.elim
 |ret=>obtain⟨_,_,_,_,_,_,h⟩:=z;exact h.elim
 |outgrown=>exact z.elim
 |normal=>
  obtain⟨C',st',rho',d,f,a7,hu⟩:=z;obtain⟨st2,rho2,hR2,_,hs2⟩:=hu C' a0 w' rho' f;refine Ck (C:=C') (st:=st2) (rho:=rho2) (by simp) ?_ a0.defers a0 w' rfl rfl hs2;intro a3 w3 q ht;refine⟨by simp,.inr ⟨by simp[Fence.wide],_,_,N2,#[v0],rfl,by simp[go_sem],fun _ _=>trivial,?_⟩⟩;refine (NH v0 w3).mono ?_;rintro e u' w4 ⟨rfl,rfl,rfl⟩
  have:=s d q (hR st2 hR2)
  rw[ht]at this;exact this
 |panic chain=>
  obtain⟨C',st',rho',v,x,rfl,d,f,a7,hv,hXx⟩:=z;obtain⟨c,regs',rfl,g,m⟩:=hX x st' hXx;obtain rfl:v=.iface 149 (.int .i64 c):=by
   cases hv with
   |iface _ _ _ h=>cases h;rfl
  refine Ck (C:=C') (st:=st') (rho:=rho') (by simp) ?_ a0.defers a0 w' rfl rfl f;intro a3 w3 q ht;have j:Lv (A2 st'.regs) 0:=by
   cases hj:A2 st'.regs 0 with
   |some o=>simp[Lv,hj]
   |none=>
    unfold store at g;split at g
    .simp[hj]at g
    cases g
  have hr0:rho' 0=.pointer (some ⟨b0,0,none⟩):=by rw[q.pin 0 (by omega) j,d.2,<- u];exact (Z.pin 0 (by omega) rfl).symm
  have hva:RS C' st' w3 rho' v0 (.reg 0 0):=by rw[a6];exact .reg 0 0 b0 j hr0
  obtain⟨w4,a8,hs4,_⟩:=Hs q (vx:=.int .i64 c) hva (.p _ _ (.v _)) g Bs;refine⟨by simp,.inr ⟨by simp[Fence.wide],_,_,N2,#[v0],rfl,by simp[go_sem],fun _ _=>trivial,?_⟩⟩;refine (GU v0 c [] w3 w4 a8 ⟨_,a6⟩).mono ?_;rintro e u' w5 ⟨rfl,rfl,rfl⟩
  have:=s d hs4 m
  rw[ht]at this;exact this
def NI {a:Sl Law}{b y:Sl A1}(c:FunO (DO Tryz.prog) F8 [.p (vSl 18 A8 a),.p (vSl 2 A0 b)] [] (.p (vSl 2 A0 y)) [] []) :FunO (DO Tryz.prog) G3 SA (NG 0 a b E3) (.tup []) (NG 0 a b (vSl 2 A0 y)) [true,true,true,true]:=
 Iw (Up (good Tryz.prog) c) (fun st h=>h) (fun x st h=>h.elim)
def KX {a:Sl Law}{b:Sl A1}{c:Int}(d:(DO Tryz.prog).F F8 [.p (vSl 18 A8 a),.p (vSl 2 A0 b)] [] fun res o k=>res=.panic (.iface 149 (pI .i64 c))/\o=[]/\k=[]) :FunO (DO Tryz.prog) G3 SA (NG 0 a b E3) (.tup []) (NG c a b E3) [true,true,true,true]:=
 Iw (Rb (good Tryz.prog) d) (fun st h=>h.elim) (fun x st h=>⟨c,_,h.1,h.2.1,h.2.2⟩)
end Go.AM
namespace Go.AM
open Go.Proofs.Tryz
variable {N:Nat}
open IntKind (wrap)
open Go.Proofs
set_option maxRecDepth 10000
set_option maxHeartbeats 2000000
variable {S:O7}(Z:E7 S Tryz.prog) (Y:GK S)
include Z Y
def H5 (N:Nat)(a:A1):Option Bool:= some (((N7 .and .u32 a.Plus a.Minus)==0)&&(decide ((N7 .or .u32 a.Plus a.Minus)<=16777215)))
theorem K7 {b:A1}{y:Bool}(h:H5 N b=some y) :FunO S FD [.p (.agg (A0 b))] [] (pB y) ([]) []:=by unfold H5 at h;refine A4 Z func101 ?_;refine kB Z (B2 Z) Bs Bs 7 (.n (.a ((N7 .and .u32 b.Plus b.Minus)==0)) (.a (decide ((N7 .or .u32 b.Plus b.Minus)<=16777215)))) ?_;cases h;exact kR Z
def X6 (N:Nat)(b:A1)(a:A1):Option Bool:= (H5 N b).bind fun y1=>lt (fun (z1:Bool)=>some z1) fun k1=>if y1 then (H5 N a).bind fun y3=>if y3 then if ((N7 .andNot .u32 a.Plus b.Plus)==0) then k1 ((N7 .andNot .u32 a.Minus b.Minus)==0) else k1 false else k1 false else k1 false
theorem Gh {c:A1}{a:A1}{y:Bool}(h:X6 N c a=some y) :FunO S BX [.p (.agg (A0 c)),.p (.agg (A0 a))] [] (pB y) ([]) []:=by
 unfold X6 at h;refine A4 Z func183 ?_;refine kC Z h (K7 Z Y) (fun y1 h=>?_);refine Lm Z Bs (B2 Z) h 0 (fun z1=>⟨[(4,pB z1)],[]⟩) (fun M1 k1 b h=>?_) (fun z1 h=>?_)
 .refine kG Z h (fun h=>?_) (fun h=>?_)
  .refine kC Z h (K7 Z Y) (fun y3 h=>?_);refine kG Z h (fun h=>?_) (fun h=>?_)
   .refine kG Z h (fun h=>?_) (fun h=>?_)
    .exact b _ [] _ ((N7 .andNot .u32 a.Minus c.Minus)==0) Bs h
    exact b _ [] _ false Bs h
   exact b _ [] _ false Bs h
  exact b _ [] _ false Bs h
 cases h;exact kR Z
def Cs (N:Nat)(a:A1):Option Int:= some (N7 .or .u32 a.Plus a.Minus)
theorem Ix {a:A1}{y:Int}(h:Cs N a=some y) :FunO S Ip [.p (.agg (A0 a))] [] (pU y) ([]) []:=by unfold Cs at h;refine A4 Z func195 ?_;cases h;exact kR Z
def Ct (N:Nat)(c:A1)(b:A1)(a:Int):Option A1:= some (⟨N7 .or .u32 (N7 .andNot .u32 c.Plus a) (N7 .and .u32 b.Plus a),N7 .or .u32 (N7 .andNot .u32 c.Minus a) (N7 .and .u32 b.Minus a)⟩:A1)
theorem Iy {c:A1}{a:A1}{b:Int}{y:A1}(h:Ct N c a b=some y) :FunO S Iq [.p (.agg (A0 c)),.p (.agg (A0 a)),pU b] [] (.p (.agg (A0 y))) ([]) []:=by unfold Ct at h;refine A4 Z func196 ?_;cases h;exact kR Z
def Bv (N:Nat)(c:A1)(a:Int)(b:A1):Option (A1×Int):= (H5 N c).bind fun y1=>lt (fun (z1:Bool)=>if z1 then some ((⟨0,0⟩:A1),14) else lt (fun (z2:Bool)=>if z2 then some ((⟨0,0⟩:A1),2) else (Cs N b).bind fun y6=>(Ct N c b (N7 .or .u32 a y6)).bind fun y7=>some (y7,0)) fun k2=>if (decide (16777215<a)) then k2 true else (Cs N b).bind fun y5=>k2 ((N7 .and .u32 a y5) != 0)) fun k1=>if (!y1) then k1 true else (H5 N b).bind fun y3=>k1 (!y3)
theorem Jl {c:A1}{a:Int}{b:A1}{y:A1×Int}(h:Bv N c a b=some y) :FunO S Es [.p (.agg (A0 c)),pU a,.p (.agg (A0 b))] [] (.tup [.p (.agg (A0 y.1)),pN y.2]) ([]) []:=by
 unfold Bv at h;refine A4 Z func185 ?_;refine J0 Z Bs 5 4000 [pI .u32 c.Plus,pI .u32 c.Minus] ?_;refine J0 Z Bs 6 6000 [pI .u32 b.Plus,pI .u32 b.Minus] ?_;obtain⟨y1,e1,h⟩:=B6 h;refine B7 Z [] Dn (K7 Z Y e1) ?_;refine Lm Z Bs (B2 Z) h 0 (fun z1=>⟨[(15,pB z1),(6,.reg 7000 0),(5,.p (.ptr [pI .u32 b.Plus,pI .u32 b.Minus])),(3,.p (.ptr [pI .u32 c.Plus,pI .u32 c.Minus])),(1,pU a)],[(7000,.cells [pU 0,pU 0])]⟩) (fun M1 k1 d h=>?_) (fun z1 h=>?_)
 .refine kG Z h (fun h=>?_) (fun h=>?_)
  .exact d _ [(7000,7000)] _ true Bs h
  obtain⟨y3,e3,h⟩:=B6 h;refine B7 Z [] Dn (K7 Z Y e3) ?_;exact d _ [(7000,7000)] _ (!y3) Bs h
 apply kI Z h<;>intro h
 .cases h;exact kR Z
 refine Lm Z Bs (B2 Z) h 0 (fun z2=>⟨[(25,pB z2),(6,.reg 7000 0),(5,.p (.ptr [pI .u32 b.Plus,pI .u32 b.Minus])),(3,.p (.ptr [pI .u32 c.Plus,pI .u32 c.Minus])),(1,pU a)],[(7000,.cells [pU 0,pU 0])]⟩) (fun M2 k2 f h=>?_) (fun z2 h=>?_)
 .refine kG Z h (fun h=>?_) (fun h=>?_)
  .exact f _ [(7000,7000)] _ true Bs h
  obtain⟨y5,e5,h⟩:=B6 h;refine B7 Z [] Dn (Ix Z Y e5) ?_;exact f _ [(7000,7000)] _ ((N7 .and .u32 a y5) != 0) Bs h
 apply kI Z h<;>intro h
 .cases h;exact kR Z
 refine I8 Z Bs [0,1,3,4,6] ?_;obtain⟨y6,e6,h⟩:=B6 h;refine Y9 (And.intro (And.intro Dn Dn) Dn) (Ix Z Y e6) ?_;obtain⟨y7,e7,h⟩:=B6 h;refine Y9 Bs (Iy Z Y e7) ?_;refine K0 Bs ?_;cases h;exact kR Z
def Dt (N:Nat)(c:A1)(a:A1)(b:Int):Option (A1×Int):= (H5 N c).bind fun y1=>lt (fun (z1:Bool)=>if z1 then some ((⟨0,0⟩:A1),14) else if (decide (16777215<b)) then some ((⟨0,0⟩:A1),2) else (Ct N c a b).bind fun y4=>some (y4,0)) fun k1=>if (!y1) then k1 true else (H5 N a).bind fun y3=>k1 (!y3)
theorem Mw {c:A1}{a:A1}{b:Int}{y:A1×Int}(h:Dt N c a b=some y) :FunO S GJ [.p (.agg (A0 c)),.p (.agg (A0 a)),pU b] [] (.tup [.p (.agg (A0 y.1)),pN y.2]) ([]) []:=by
 unfold Dt at h;refine A4 Z func186 ?_;refine kC Z h (K7 Z Y) (fun y1 h=>?_);refine Lm Z Bs (B2 Z) h 0 (fun z1=>⟨[(15,pB z1),(6,.reg 7000 0),(4,.reg 5000 0),(3,.reg 4000 0),(2,pU b)],[(7000,.cells [pU 0,pU 0]),(5000,.cells [pU a.Plus,pU a.Minus]),(4000,.cells [pU c.Plus,pU c.Minus])]⟩) (fun M1 k1 d h=>?_) (fun z1 h=>?_)
 .refine kG Z h (fun h=>?_) (fun h=>?_)
  .exact d _ [(4000,4000),(5000,5000),(7000,7000)] _ true Bs h
  refine kC Z h (K7 Z Y) (fun y3 h=>?_);exact d _ [(4000,4000),(5000,5000),(7000,7000)] _ (!y3) Bs h
 apply kI Z h<;>intro h
 .cases h;exact kR Z
 apply kI Z h<;>intro h
 .cases h;exact kR Z
 refine kC Z h (Iy Z Y) (fun y4 h=>?_);cases h;exact kR Z
def U1 (N:Nat)(a:Sl A1)(b:Sl A1):Option Bool:= if ((a.n:Int) != (b.n:Int)) then some false else BV N (fun c (x1:Int)=>if (decide (x1<(a.n:Int))) then if (((0:Int)<=x1/\x1<(a.n:Int))/\((0:Int)<=x1/\x1<(b.n:Int)))then if ((((a.g x1.toNat).Plus==(b.g x1.toNat).Plus)&&((a.g x1.toNat).Minus==(b.g x1.toNat).Minus)) != true) then some false else c (wrap .i64 (x1+1)) else none else some true) 0
theorem AQ {a:Sl A1}{b:Sl A1}{y:Bool}(h:U1 N a b=some y) :FunO S HX [.p (vSl 2 A0 a),.p (vSl 2 A0 b)] [] (pB y) ([]) []:=by
 unfold U1 at h;refine A4 Z func20 ?_;apply kI Z h<;>intro h
 .cases h;exact kR Z
 refine Y8 Z Bs h (fun x1=>⟨[(5,pN x1),(1,.p (vSl 2 A0 b)),(0,.p (vSl 2 A0 a))],[]⟩) (ids:=[]) (fun _ _ _ _ _ c x1 d h=>?_);apply kI Z h<;>intro h
 .refine I8 Z Bs [2,3,6,7] ?_;obtain⟨c9,h⟩:=H1 h;refine K0 (And.intro (And.intro (And.intro (And.intro c9.1 Dn) c9.2) Dn) (by decide +kernel:Tj Tryz.prog B3=true)) ?_;apply kI Z h<;>intro h
  .cases h;exact kR Z
  exact d _ [] _ (wrap .i64 (x1+1)) Bs h
 cases h;exact kR Z
def Du (N:Nat)(a:A1):Option Bool:= some (((N7 .and .u32 a.Plus a.Minus)==0)&&((shI .shr .u32 (N7 .or .u32 a.Plus a.Minus) 24)==0))
theorem Mx {a:A1}{y:Bool}(h:Du N a=some y) :FunO S GE [.p (.agg (A0 a))] [] (pB y) ([]) []:=by
 unfold Du at h;refine A4 Z func93 ?_;obtain⟨t1,c⟩:∃x:Bool,x=(((N7 .and .u32 a.Plus a.Minus)==0)&&((shI .shr .u32 (N7 .or .u32 a.Plus a.Minus) 24)==0)):=⟨_,rfl⟩;refine Py Z Bs (B2 Z) 0 ⟨[(2,pB t1)],[]⟩ (fun M1 d=>?_) ?_
 .refine KA Z Bs (b:=(N7 .and .u32 a.Plus a.Minus)==0) (fun c2=>?_) (fun c2=>?_)
  .exact d _ [] _ (by decide:(0:Int)<=24) (hle:=klR [(0,.eq (.bb ((shI .shr .u32 (N7 .or .u32 a.Plus a.Minus) 24)==0)) (.bb t1))] (al1 (by simp only[c,c2,Leaf.ok,pm,Be,Br]) al0))
  exact d _ [] _ Bs (hle:=klR [(0,.eq (.bb false) (.bb t1))] (al1 (by simp only[c,c2,Leaf.ok,pm,Be,Br]) al0))
 subst c;cases h;exact kR Z
def K8 (N:Nat)(a:Sl A1):Option Int:= if (decide (32<(a.n:Int))) then some 11 else BV N (fun b (x1:Int)=>if (decide (x1<(a.n:Int))) then if ((0:Int)<=x1/\x1<(a.n:Int))then (Du N (a.g x1.toNat)).bind fun y3=>if (!y3) then some 14 else b (wrap .i64 (x1+1)) else none else some 0) 0
theorem Bh {a:Sl A1}{y:Int}(h:K8 N a=some y) :FunO S GB [.p (vSl 2 A0 a)] [] (pN y) ([]) []:=by
 unfold K8 at h;refine A4 Z func69 ?_;apply kI Z h<;>intro h
 .cases h;exact kR Z
 refine Y8 Z Bs h (fun x1=>⟨[(10,pN x1),(9,pN (a.n:Int)),(8,.p (vSl 2 A0 a))],[]⟩) (ids:=[]) (fun _ _ _ _ _ b x1 c h=>?_);apply kI Z h<;>intro h
 .obtain⟨c9,h⟩:=H1 h;obtain⟨y3,e3,h⟩:=B6 h;refine B7 Z [] (And.intro c9 Dn) (Mx Z Y e3) ?_;apply kI Z h<;>intro h
  .cases h;exact kR Z
  exact c _ [] _ (wrap .i64 (x1+1)) Bs h
 cases h;exact kR Z
def F0 (N:Nat)(a:Sl A1)(b:Sl A1):Option Bool:= if ((a.n:Int) != (b.n:Int)) then some false else BV N (fun c (x1:Int)=>if (decide (x1<(a.n:Int))) then if (((0:Int)<=x1/\x1<(a.n:Int))/\((0:Int)<=x1/\x1<(b.n:Int)))then if ((((a.g x1.toNat).Plus==(b.g x1.toNat).Plus)&&((a.g x1.toNat).Minus==(b.g x1.toNat).Minus)) != true) then some false else c (wrap .i64 (x1+1)) else none else some true) 0
theorem S1 {a:Sl A1}{b:Sl A1}{y:Bool}(h:F0 N a b=some y) :FunO S I5 [.p (vSl 2 A0 a),.p (vSl 2 A0 b)] [] (pB y) ([]) []:=by
 unfold F0 at h;refine A4 Z func94 ?_;apply kI Z h<;>intro h
 .cases h;exact kR Z
 refine Y8 Z Bs h (fun x1=>⟨[(13,pN x1),(12,pN (a.n:Int)),(1,.p (vSl 2 A0 b)),(0,.p (vSl 2 A0 a))],[]⟩) (ids:=[]) (fun _ _ _ _ _ c x1 d h=>?_);apply kI Z h<;>intro h
 .refine I8 Z Bs [2,3,6,7] ?_;obtain⟨c9,h⟩:=H1 h;refine K0 (And.intro (And.intro (And.intro (And.intro c9.1 Dn) c9.2) Dn) (by decide +kernel:Tj Tryz.prog B3=true)) ?_;apply kI Z h<;>intro h
  .cases h;exact kR Z
  exact d _ [] _ (wrap .i64 (x1+1)) Bs h
 cases h;exact kR Z
def U9 (N:Nat)(a:Sl A1)(b:Sl A1):Option Bool:= (F0 N a b).bind fun y1=>some y1
theorem My {a:Sl A1}{b:Sl A1}{y:Bool}(h:U9 N a b=some y) :FunO S GC [.p (vSl 2 A0 a),.p (vSl 2 A0 b)] [] (pB y) ([]) []:=by unfold U9 at h;refine A4 Z func70 ?_;refine kC Z h (S1 Z Y) (fun y1 h=>?_);cases h;exact kR Z
def V2 (N:Nat)(a:A1):Option Bool:= some (((N7 .and .u32 a.Plus a.Minus)==0)&&((shI .shr .u32 (N7 .or .u32 a.Plus a.Minus) 24)==0))
theorem Bi {a:A1}{y:Bool}(h:V2 N a=some y) :FunO S GH [.p (.agg (A0 a))] [] (pB y) ([]) []:=by
 unfold V2 at h;refine A4 Z func141 ?_;obtain⟨t1,c⟩:∃x:Bool,x=(((N7 .and .u32 a.Plus a.Minus)==0)&&((shI .shr .u32 (N7 .or .u32 a.Plus a.Minus) 24)==0)):=⟨_,rfl⟩;refine Py Z Bs (B2 Z) 0 ⟨[(2,pB t1)],[]⟩ (fun M1 d=>?_) ?_
 .refine KA Z Bs (b:=(N7 .and .u32 a.Plus a.Minus)==0) (fun c2=>?_) (fun c2=>?_)
  .exact d _ [] _ (by decide:(0:Int)<=24) (hle:=klR [(0,.eq (.bb ((shI .shr .u32 (N7 .or .u32 a.Plus a.Minus) 24)==0)) (.bb t1))] (al1 (by simp only[c,c2,Leaf.ok,pm,Be,Br]) al0))
  exact d _ [] _ Bs (hle:=klR [(0,.eq (.bb false) (.bb t1))] (al1 (by simp only[c,c2,Leaf.ok,pm,Be,Br]) al0))
 subst c;cases h;exact kR Z
def Q0 (N:Nat)(b:Int):Option (Nat->Int):= Eg N (fun a (x1:Nat->Int) (x2:Int)=>if (decide (x2<(wrap .i64 (b+1)))) then if (((0:Int)<=x2/\((0:Int)<=x2/\x2<33))/\(0+x2.toNat*1)<33)then a (IU x1 (0+x2.toNat*1) (shI .shl .u64 1 x2)) (wrap .i64 (x2+1)) else none else some x1) (fun _=>0) 0
theorem AR {a:Int}{y:Nat->Int}(h:Q0 N a=some y) :FunO S Dr [pN a] [] (.p (.agg (cA 33 (pI .u64) y))) ([]) []:=by
 unfold Q0 at h;refine A4 Z func233 ?_;refine N4 Z Bs h (fun x1 x2=>⟨[(7,pN x2),(6,pN (wrap .i64 (a+1))),(3,.reg 4000 0),(2,.reg 3000 0)],[(4000,.arr 33 (fun i=>pI .u64 (x1 i))),(3000,.arr 33 (fun i=>pI .u64 ((fun _=>0) i)))]⟩) (ids:=[(3000,3000),(4000,4000)]) (fun _ _ _ _ _ b x1 x2 d h=>?_) (hle:=klR [(2,.fn 33 33 (fun i=>[(fun i=>(List.replicate 33 (pI .u64 0)).getD i default) i]) (fun i=>[pI .u64 ((fun _=>0) i)])),(3,.fn 33 33 (fun i=>[(fun i=>(List.replicate 33 (pI .u64 0)).getD i default) i]) (fun i=>[pI .u64 ((fun _=>0) i)]))] (al1 ⟨rfl,X5 (z:=pI .u64 0) rfl⟩ (al1 ⟨rfl,X5 (z:=pI .u64 0) rfl⟩ al0)));apply kI Z h<;>intro h
 .obtain⟨c4,h⟩:=H1 h;exact d _ [(3000,3000),(4000,4000)] _ (IU x1 (0+x2.toNat*1) (shI .shl .u64 1 x2)) (wrap .i64 (x2+1)) c4 h (hle:=klR [(2,.fn 33 33 (fun i=>[(fun i=>if i=(0+x2.toNat*1)then (pI .u64 (shI .shl .u64 1 x2))else (fun i=>pI .u64 (x1 i)) i) i]) (fun i=>[pI .u64 (IU x1 (0+x2.toNat*1) (shI .shl .u64 1 x2) i)]))] (al1 ⟨rfl,Ud (c:=pI .u64) (v:=x1) (x:=shI .shl .u64 1 x2) (fun _ _=>rfl) rfl⟩ al0))
 obtain rfl:=C6 h;exact A6 Z (And.intro rfl (D4 _ _):(0:Nat)=0/\(Z5 33 (fun i=>pI .u64 (x1 i))).length=33) ⟨[(2,.reg 3000 0)],[(3000,.arr 33 (fun i=>pI .u64 (x1 i)))]⟩ [] (ids:=[(3000,3000)]) ⟨rfl,rfl,rfl⟩ (hle:=klR [(0,.fn 33 33 (fun i=>[(fun i=>(cA 33 (pI .u64) x1).getD i default) i]) (fun i=>[pI .u64 (x1 i)]))] (al1 ⟨rfl,D0 33 (fun i=>pI .u64 (x1 i))⟩ al0))
def O9 (N:Nat)(p_x:Nat->Int)(b:Nat->Int):Option (Nat->Int):= Eg N (fun a (x1:Nat->Int) (x2:Int)=>if (decide (x2<33)) then if (((0:Int)<=x2/\x2<33)/\(0+x2.toNat*1)<33)then if (((((0:Int)<=x2/\x2<33)/\(0+x2.toNat*1)<33)/\((0:Int)<=x2/\x2<33))/\(0+x2.toNat*1)<33)then a (IU x1 (0+x2.toNat*1) (N7 .or .u64 (x1 (0+x2.toNat*1)) (b (0+x2.toNat*1)))) (wrap .i64 (x2+1)) else none else none else some x1) p_x 0
theorem Bj {p_x:Nat->Int}{a:Nat->Int}{y:Nat->Int}(h:O9 N p_x a=some y) :FunO S Bg [.reg 0 0,.reg 1 0] [.arr 33 (fun i=>pI .u64 (p_x i)),.arr 33 (fun i=>pI .u64 (a i))] (.tup []) ([.arr 33 (fun i=>pI .u64 (y i)),.arr 33 (fun i=>pI .u64 (a i))]) [true,true]:=by
 unfold O9 at h;refine A4 Z func231 ?_;refine N4 Z Bs h (fun x1 x2=>⟨[(7,pN x2),(6,.reg 1 0),(0,.reg 0 0)],[(1,.arr 33 (fun i=>pI .u64 (a i))),(0,.arr 33 (fun i=>pI .u64 (x1 i)))]⟩) (ids:=[(0,0),(1,1)]) (fun _ _ _ _ _ b x1 x2 d h=>?_);apply kI Z h<;>intro h
 .refine HO Z Bs ?_;obtain⟨c8,h⟩:=H1 h;refine K0 c8 ?_;refine HO Z Bs ?_;obtain⟨c9,h⟩:=H1 h;refine K0 c9 ?_;exact d _ [(0,0),(1,1)] _ (IU x1 (0+x2.toNat*1) (N7 .or .u64 (x1 (0+x2.toNat*1)) (a (0+x2.toNat*1)))) (wrap .i64 (x2+1)) Bs h (hle:=klR [(2,.fn 33 33 (fun i=>[(fun i=>if i=(0+x2.toNat*1)then (pI .u64 (N7 .or .u64 (x1 (0+x2.toNat*1)) (a (0+x2.toNat*1))))else (fun i=>pI .u64 (x1 i)) i) i]) (fun i=>[pI .u64 (IU x1 (0+x2.toNat*1) (N7 .or .u64 (x1 (0+x2.toNat*1)) (a (0+x2.toNat*1))) i)]))] (al1 ⟨rfl,Ud (c:=pI .u64) (v:=x1) (x:=N7 .or .u64 (x1 (0+x2.toNat*1)) (a (0+x2.toNat*1))) (fun _ _=>rfl) rfl⟩ al0))
 obtain rfl:=C6 h;exact A6 Z Bs ⟨[],[(1,.arr 33 (fun i=>pI .u64 (a i))),(0,.arr 33 (fun i=>pI .u64 (x1 i)))]⟩ [0,1] (ids:=[(0,0),(1,1)]) ⟨rfl,rfl,rfl⟩
def Az (N:Nat)(b:Sl A1)(a:Int):Option Int:= if ((decide (a<0))||(decide ((b.n:Int)<a))) then some 3 else some 0
theorem FK {c:Sl A1}{b:Int}{y:Int}(h:Az N c b=some y) :FunO S FI [.p (vSl 2 A0 c),pN b] [] (pN y) ([]) []:=by
 unfold Az at h;refine A4 Z func204 ?_;refine kB Z (B2 Z) Bs Bs 5 (.o (.a (decide (b<0))) (.a (decide ((c.n:Int)<b)))) ?_;apply kI Z h<;>intro h
 .cases h;exact kR Z
 cases h;exact kR Z
def Bw (N:Nat)(a:Pat):Option Int:= if (if (a.Kind==0) then a.Kind==0 else (if (a.Kind==2) then a.Kind==2 else a.Kind==6)) then lt (fun (z1:Bool)=>if z1 then some 2 else (V2 N a.Is).bind fun y1=>if (!y1) then some 14 else some 0) fun k1=>if (((a.Is.Plus==0)&&(a.Is.Minus==0)) != true) then k1 true else if a.Not then k1 true else if (a.Min != 0) then k1 true else if (a.Max != 0) then k1 true else k1 (decide (0<(a.L.n:Int))) else if (a.Kind==1) then lt (fun (z2:Bool)=>if z2 then some 2 else (V2 N a.Is).bind fun y2=>if (!y2) then some 14 else some 0) fun k2=>if (((0==0)&&(0==0)) != true) then k2 true else if (a.Min != 0) then k2 true else if (a.Max != 0) then k2 true else k2 (decide (0<(a.L.n:Int))) else lt (fun (z3:Int×Int)=>if (((((((a.Is.Plus==0)&&(a.Is.Minus==0)) != true)||a.Not)||(z3.1 != 0))||(z3.2 != 0))||(decide (0<0))) then some 2 else (V2 N a.Is).bind fun y3=>if (!y3) then some 14 else some 0) fun k3=>if (if (a.Kind==3) then a.Kind==3 else a.Kind==4) then k3 (a.Min,a.Max) else if (a.Kind==5) then if (((((a.L.n:Int) != 1)||(decide (a.Min<0)))||(decide (32<a.Min)))||((a.Max != (-1))&&((decide (a.Max<a.Min))||(decide (32<a.Max))))) then some 2 else k3 (0,0) else some 2
theorem Jm {c:Pat}{y:Int}(h:Bw N c=some y) :FunO S Ep [.p (.agg (C7 c))] [] (pN y) ([]) []:=by
 unfold Bw at h;refine A4 Z func121 ?_;obtain⟨t1,f⟩:∃x:Bool,x=(if (c.Kind==0) then c.Kind==0 else (if (c.Kind==2) then c.Kind==2 else c.Kind==6)):=⟨_,rfl⟩;refine Py Z Bs (B2 Z) 0 ⟨[(8,pB t1),(7,pN c.Kind),(3,.reg 4000 0),(1,.reg 2000 0)],[(4000,.cells [pN 0,pU c.Is.Plus,pU c.Is.Minus,pB c.Not,pN c.Min,pN c.Max,.p (.sl false 7 c.L.n (Dd c))]),(2000,.cells ((C7 c).map .p))]⟩ (fun M1 l=>?_) ?_
 .refine D7 Z Bs (b:=c.Kind==0) (fun c3=>?_) (fun c3=>?_)
  .exact l _ [(2000,2000),(4000,4000)] _ Bs (hle:=klR [(0,.eq (.bb (c.Kind==0)) (.bb t1))] (al1 (by simp only[f,c3,Leaf.ok,pm,Be,Br]) al0))
  refine D7 Z Bs (b:=c.Kind==2) (fun c4=>?_) (fun c4=>?_)
  .exact l _ [(2000,2000),(4000,4000)] _ Bs (hle:=klR [(0,.eq (.bb (c.Kind==2)) (.bb t1))] (al1 (by simp only[f,c3,c4,Leaf.ok,pm,Be,Br]) al0))
  exact l _ [(2000,2000),(4000,4000)] _ Bs (hle:=klR [(0,.eq (.bb (c.Kind==6)) (.bb t1))] (al1 (by simp only[f,c3,c4,Leaf.ok,pm,Be,Br]) al0))
 subst f;apply kI Z h<;>intro h
 .refine Lm Z (by decide +kernel:Tj Tryz.prog B3=true) (B2 Z) h 0 (fun z1=>⟨[(57,pB z1),(1,.reg 2000 0)],[(2000,.cells ((C7 c).map .p))]⟩) (fun M3 k1 d h=>?_) (fun z1 h=>?_)
  .refine kG Z h (fun h=>?_) (fun h=>?_)
   .exact d _ [(2000,2000)] _ true Bs h
   refine kG Z h (fun h=>?_) (fun h=>?_)
   .exact d _ [(2000,2000)] _ true Bs h
   refine kG Z h (fun h=>?_) (fun h=>?_)
   .exact d _ [(2000,2000)] _ true Bs h
   refine kG Z h (fun h=>?_) (fun h=>?_)
   .exact d _ [(2000,2000)] _ true Bs h
   refine J5 Z Bs 79 ⟨[(78,.p (vSl 7 C7 c.L)),(76,.p (.v (.bool false))),(1,.reg 2000 0)],[(2000,.cells ((C7 c).map .p))]⟩ (ids:=[(2000,2000)]) ?_ (hle:=klR [(0,.fn c.L.n c.L.n (Dd c) (fun i=>C7 (c.L.g i)))] (al1 ⟨rfl,Cl c⟩ al0));exact d _ [(2000,2000)] _ (decide (0<(c.L.n:Int))) Bs h
  apply kI Z h<;>intro h
  .cases h;exact kR Z
  refine kC Z h (Bi Z Y) (fun y1 h=>?_);apply kI Z h<;>intro h
  .cases h;exact kR Z
  cases h;exact kR Z
 apply kI Z h<;>intro h
 .refine Lm Z (by decide +kernel:Tj Tryz.prog B3=true) (B2 Z) h 0 (fun z2=>⟨[(57,pB z2),(1,.reg 2000 0)],[(2000,.cells ((C7 c).map .p))]⟩) (fun M5 k2 j h=>?_) (fun z2 h=>?_)
  .refine kG Z h (fun h=>?_) (fun h=>?_)
   .exact j _ [(2000,2000)] _ true Bs h
   refine KA Z Bs (b:=false) (fun c54=>?_) (fun c54=>?_)
   .exact Bool.noConfusion ((rfl:false=false).symm.trans c54)
   refine kG Z h (fun h=>?_) (fun h=>?_)
   .exact j _ [(2000,2000)] _ true Bs h
   refine kG Z h (fun h=>?_) (fun h=>?_)
   .exact j _ [(2000,2000)] _ true Bs h
   refine J5 Z Bs 79 ⟨[(78,.p (vSl 7 C7 c.L)),(76,.p (.v (.bool false))),(1,.reg 2000 0)],[(2000,.cells ((C7 c).map .p))]⟩ (ids:=[(2000,2000)]) ?_ (hle:=klR [(0,.fn c.L.n c.L.n (Dd c) (fun i=>C7 (c.L.g i)))] (al1 ⟨rfl,Cl c⟩ al0));exact j _ [(2000,2000)] _ (decide (0<(c.L.n:Int))) Bs h
  apply kI Z h<;>intro h
  .cases h;exact kR Z
  refine kC Z h (Bi Z Y) (fun y2 h=>?_);apply kI Z h<;>intro h
  .cases h;exact kR Z
  cases h;exact kR Z
 obtain⟨t4,m⟩:∃x:Bool,x=(if (c.Kind==3) then c.Kind==3 else c.Kind==4):=⟨_,rfl⟩;refine Py Z Bs (B2 Z) 0 ⟨[(17,pB t4),(7,pN c.Kind),(3,.reg 4000 0),(1,.reg 2000 0)],[(4000,.cells [pN 0,pU c.Is.Plus,pU c.Is.Minus,pB c.Not,pN c.Min,pN c.Max,.p (.sl false 7 c.L.n (Dd c))]),(2000,.cells ((C7 c).map .p))]⟩ (fun M6 q=>?_) ?_
 .refine D7 Z Bs (b:=c.Kind==3) (fun c60=>?_) (fun c60=>?_)
  .exact q _ [(2000,2000),(4000,4000)] _ Bs (hle:=klR [(0,.eq (.bb (c.Kind==3)) (.bb t4))] (al1 (by simp only[m,c60,Leaf.ok,pm,Be,Br]) al0))
  exact q _ [(2000,2000),(4000,4000)] _ Bs (hle:=klR [(0,.eq (.bb (c.Kind==4)) (.bb t4))] (al1 (by simp only[m,c60,Leaf.ok,pm,Be,Br]) al0))
 subst m;refine Lm Z Bs (B2 Z) h 0 (fun z3=>⟨[(3,.reg 4000 0),(1,.reg 2000 0)],[(4000,.cells [pN 0,pU c.Is.Plus,pU c.Is.Minus,pB c.Not,pN z3.1,pN z3.2,.p E3]),(2000,.cells ((C7 c).map .p))]⟩) (fun M7 k3 r h=>?_) (fun z3 h=>?_)
 .apply kI Z h<;>intro h
  .exact r _ [(2000,2000),(4000,4000)] _ (c.Min,c.Max) Bs h
  apply kI Z h<;>intro h
  .refine J5 Z Bs 25 ⟨[(24,.p (vSl 7 C7 c.L)),(3,.reg 4000 0),(1,.reg 2000 0)],[(4000,.cells [pN 0,pU c.Is.Plus,pU c.Is.Minus,pB c.Not,pN c.Min,pN c.Max,.p (.sl false 7 c.L.n (Dd c))]),(2000,.cells ((C7 c).map .p))]⟩ (ids:=[(2000,2000),(4000,4000)]) ?_ (hle:=klR [(0,.fn c.L.n c.L.n (Dd c) (fun i=>C7 (c.L.g i)))] (al1 ⟨rfl,Cl c⟩ al0));refine kB Z (B2 Z) Bs Bs 26 (.o (.o (.o (.a ((c.L.n:Int) != 1)) (.a (decide (c.Min<0)))) (.a (decide (32<c.Min)))) (.n (.a (c.Max != (-1))) (.o (.a (decide (c.Max<c.Min))) (.a (decide (32<c.Max)))))) ?_;apply kI Z h<;>intro h
   .cases h;exact kR Z
   exact r _ [(2000,2000),(4000,4000)] _ (0,0) Bs h
  cases h;exact kR Z
 refine kB Z (B2 Z) (by decide +kernel:Tj Tryz.prog B3=true) Bs 19 (.o (.o (.o (.o (.a (((c.Is.Plus==0)&&(c.Is.Minus==0)) != true)) (.a c.Not)) (.a (z3.1 != 0))) (.a (z3.2 != 0))) (.a (decide (0<0)))) ?_;apply kI Z h<;>intro h
 .cases h;exact kR Z
 refine kC Z h (Bi Z Y) (fun y3 h=>?_);apply kI Z h<;>intro h
 .cases h;exact kR Z
 cases h;exact kR Z
end Go.AM
namespace Go.AM
open IntKind (wrap)
open Go.Proofs
set_option maxRecDepth 10000
set_option maxHeartbeats 2000000
variable {S:O7}(Z:E7 S Tryz.prog) (Y:GK S)
include Z Y
def PF (N:Nat)(a:Str):Option Bool:= BV N (fun b (x1:Int)=>if (decide (x1<(a.length:Int))) then if ((0:Int)<=x1/\x1<(a.length:Int))then if (!(((((decide (97<=(Gz a x1)))&&(decide ((Gz a x1)<=122)))||((decide (65<=(Gz a x1)))&&(decide ((Gz a x1)<=90))))||((decide (48<=(Gz a x1)))&&(decide ((Gz a x1)<=57))))||((Gz a x1)==45))) then some false else b (wrap .i64 (x1+1)) else none else some ((decide (1<=(a.length:Int)))&&(decide ((a.length:Int)<=24)))) 0
end Go.AM
namespace Go.AM
open Go.Proofs.Tryz
variable {N:Nat}
open IntKind (wrap)
open Go.Proofs
set_option maxRecDepth 10000
set_option maxHeartbeats 2000000
variable {S:O7}(Z:E7 S Tryz.prog) (Y:GK S)
include Z Y
def N9 (N:Nat)(q0:Int):Option (List (Int)):= BV N (fun a (x1:Int)=>if (x1 != 0) then (P9 N x1).bind fun y3=>if (0:Int)<=y3 then HQ y3 (a (N7 .andNot .u64 x1 (shI .shl .u64 1 y3))) else none else some []) q0
theorem Aa {q0:Int}{L:List (Int)}(h:N9 N q0=some L) :EI S T6 [] [.reg 0 0] [.cells [.p (pI .u64 q0)]] (L.map (fun (x:Int)=>[pI .i64 x])):=by
 unfold N9 at h;refine Ft Z func210 ?_;refine Ge Z Bs h (fun x1 L1=>⟨[(1,.reg 0 0),(0,.yf 1)],[(1,.yld (L1.map (fun (x:Int)=>[pI .i64 x])) true),(0,.cells [.p (pI .u64 x1)])]⟩) (ids:=[(0,0),(1,1)]) (fun _ _ _ _ _ d x1 L1 f h=>?_);apply kI Z h<;>intro h
 .refine kC Z h (AP Z Y) (fun y3 h=>?_);refine HO Z Bs ?_;obtain⟨c10,h⟩:=H1 h;refine K0 c10 ?_;obtain⟨L4,rfl,c⟩:=KC h;replace h:=c;refine Ci Z Bs (ys:=(fun (x:Int)=>[pI .i64 x]) y3) (rest:=L4.map (fun (x:Int)=>[pI .i64 x])) ?_ ?_
  .refine D7 Z Bs (b:=false) (fun c11=>?_) (fun c11=>?_)
   .exact Bool.noConfusion ((rfl:false=false).symm.trans c11)
   exact f _ [(0,0),(1,1)] _ (N7 .andNot .u64 x1 (shI .shl .u64 1 y3)) L4 Bs h
  refine D7 Z Bs (b:=true) (fun c12=>?_) (fun c12=>?_)
  .exact A6 Z Bs (a:=.tup []) (objs:=[(.cells [.p (pI .u64 (N7 .andNot .u64 x1 (shI .shl .u64 1 y3)))]),.yld [] false]) ⟨[],[(1,.yld [] false),(0,.cells [.p (pI .u64 (N7 .andNot .u64 x1 (shI .shl .u64 1 y3)))])]⟩ [0,1] (ids:=[(0,0),(1,1)]) ⟨false,rfl,rfl,_,rfl⟩
  exact Bool.noConfusion (Gf.symm.trans c12)
 obtain rfl:=C6 h;exact A6 Z Bs (a:=.tup []) (objs:=[(.cells [.p (pI .u64 x1)]),.yld [] true]) ⟨[],[(1,.yld [] true),(0,.cells [.p (pI .u64 x1)])]⟩ [0,1] (ids:=[(0,0),(1,1)]) ⟨true,rfl,rfl,_,rfl⟩
def T2 (N:Nat)(a:Int):Option (Int):= some a
theorem Bx {a:Int}{y:Int}(h:T2 N a=some y) :FunO S Et [.p (pI .u64 a)] [] (.clo T6 [] [.reg 0 0]) ([.cells [.p (pI .u64 y)]]) []:=by unfold T2 at h;refine A4 Z func206 ?_;obtain rfl:=C6 h;exact A6 Z Bs ⟨[(2,.clo T6 [] [.reg 2000 0])],[(2000,.cells [.p (pI .u64 a)])]⟩ [2000] (ids:=[(2000,2000)]) ⟨rfl,rfl,rfl⟩
def G7 (N:Nat)(p_x:Nat->Int)(c:Nat->Int):Option (Nat->Int):= Eg N (fun a (x3:Nat->Int) (x4:Int)=>if (decide (x4<33)) then if (((0:Int)<=x4/\x4<33)/\(0+x4.toNat*1)<33)then (T2 N (p_x (0+x4.toNat*1))).bind fun y3=>(N9 N y3).bind fun L3=>Z8 L3 (fun b (x7:Int) (z3:Nat->Int)=>if (((((((0:Int)<=x4/\x4<33)/\(0+x4.toNat*1)<33)/\((0:Int)<=x7/\x7<33))/\(0+x7.toNat*1)<33)/\((0:Int)<=x4/\x4<33))/\(0+x4.toNat*1)<33)then b (IU z3 (0+x4.toNat*1) (N7 .or .u64 (z3 (0+x4.toNat*1)) (c (0+x7.toNat*1)))) else none) (fun (z3:Nat->Int)=>a z3 (wrap .i64 (x4+1))) x3 else none else some x3) (fun _=>0) 0
theorem N0 {p_x:Nat->Int}{b:Nat->Int}{y:Nat->Int}(h:G7 N p_x b=some y) :FunO S S0 [.reg 0 0,.reg 1 0] [.arr 33 (fun i=>pI .u64 (p_x i)),.arr 33 (fun i=>pI .u64 (b i))] (.p (.agg (cA 33 (pI .u64) y))) ([.arr 33 (fun i=>pI .u64 (p_x i)),.arr 33 (fun i=>pI .u64 (b i))]) [true,true]:=by
 unfold G7 at h;refine A4 Z func234 ?_;refine N4 Z Bs h (fun x3 x4=>⟨[(10,pN x4),(9,.reg 0 0),(5,.reg 6000 0),(4,.reg 5000 0),(3,.reg 4000 0)],[(6000,.arr 33 (fun i=>pI .u64 (x3 i))),(5000,.arr 33 (fun i=>pI .u64 ((fun _=>0) i))),(4000,.cells [.reg 1 0]),(1,.arr 33 (fun i=>pI .u64 (b i))),(0,.arr 33 (fun i=>pI .u64 (p_x i)))]⟩) (ids:=[(0,0),(1,1),(4000,4000),(5000,5000),(6000,6000)]) (fun _ _ _ _ _ d x3 x4 f h=>?_) (hle:=klR [(1,.fn 33 33 (fun i=>[(fun i=>(List.replicate 33 (pI .u64 0)).getD i default) i]) (fun i=>[pI .u64 ((fun _=>0) i)])),(2,.fn 33 33 (fun i=>[(fun i=>(List.replicate 33 (pI .u64 0)).getD i default) i]) (fun i=>[pI .u64 ((fun _=>0) i)]))] (al1 ⟨rfl,X5 (z:=pI .u64 0) rfl⟩ (al1 ⟨rfl,X5 (z:=pI .u64 0) rfl⟩ al0)));apply kI Z h<;>intro h
 .refine G8 Z Bs [(2,.l [0]),(3,.l [0]),(4,.a [7000]),(5,.a [7000])] ?_;obtain⟨c12,h⟩:=H1 h;refine K0 c12 ?_;refine J0 Z Bs 16 7000 [pI .i64 x4] ?_;refine kC Z h (Bx Z Y) (fun y3 h=>?_);obtain⟨L3,e6,h⟩:=B6 h;refine EL Z Bs [18000] [10,9,6,5,4,3] 905 (fun z3=>⟨[(10,pN x4),(9,.reg 0 0),(6,.p (.ptr [pI .i64 x4])),(5,.reg 6000 0),(4,.reg 5000 0),(3,.reg 4000 0)],[(6000,.arr 33 (fun i=>pI .u64 (z3 i))),(5000,.arr 33 (fun i=>pI .u64 ((fun _=>0) i))),(4000,.cells [.reg 1 0]),(1,.arr 33 (fun i=>pI .u64 (b i))),(0,.arr 33 (fun i=>pI .u64 (p_x i)))]⟩) (idl:=[(0,0),(1,1),(4000,4000),(5000,5000),(6000,6000)]) h (Aa Z Y e6) (fun _=>by kernel_rfl) (fun _=>by kernel_rfl) (fun _=>by kernel_rfl) (fun _=>by kernel_rfl) (fun x7 _ g z3 j h=>?_) (fun z3 h=>?_)
  .refine HS Z Bs ?_;refine G8 Z Bs [(0,.n),(1,.l [6000]),(2,.l [6000]),(3,.l [4000]),(6,.l [1]),(7,.l [1]),(9,.l [6000]),(10,.a [6000])] ?_;obtain⟨c15,h⟩:=H1 h;refine K0 c15 ?_;exact j _ [(0,0),(1,1),(905,905),(4000,4000),(5000,5000),(6000,6000)] _ (IU z3 (0+x4.toNat*1) (N7 .or .u64 (z3 (0+x4.toNat*1)) (b (0+x7.toNat*1)))) Bs h (hle:=klR [(0,.fn 33 33 (fun i=>[(fun i=>if i=(0+x4.toNat*1)then (pI .u64 (N7 .or .u64 (z3 (0+x4.toNat*1)) (b (0+x7.toNat*1))))else (fun i=>pI .u64 (z3 i)) i) i]) (fun i=>[pI .u64 (IU z3 (0+x4.toNat*1) (N7 .or .u64 (z3 (0+x4.toNat*1)) (b (0+x7.toNat*1))) i)]))] (al1 ⟨rfl,Ud (c:=pI .u64) (v:=z3) (x:=N7 .or .u64 (z3 (0+x4.toNat*1)) (b (0+x7.toNat*1))) (fun _ _=>rfl) rfl⟩ al0))
  exact f _ [(0,0),(1,1),(4000,4000),(5000,5000),(6000,6000)] _ z3 (wrap .i64 (x4+1)) Bs h
 obtain rfl:=C6 h;exact A6 Z (And.intro rfl (D4 _ _):(0:Nat)=0/\(Z5 33 (fun i=>pI .u64 (x3 i))).length=33) ⟨[(4,.reg 5000 0)],[(5000,.arr 33 (fun i=>pI .u64 (x3 i))),(1,.arr 33 (fun i=>pI .u64 (b i))),(0,.arr 33 (fun i=>pI .u64 (p_x i)))]⟩ [0,1] (ids:=[(0,0),(1,1),(5000,5000)]) ⟨rfl,rfl,rfl⟩ (hle:=klR [(0,.fn 33 33 (fun i=>[(fun i=>(cA 33 (pI .u64) x3).getD i default) i]) (fun i=>[pI .u64 (x3 i)]))] (al1 ⟨rfl,D0 33 (fun i=>pI .u64 (x3 i))⟩ al0))
def K9 (N:Nat)(p_x:Nat->Int):Option (Nat->Int):= Eg N (fun a (x3:Nat->Int) (x4:Int)=>if (decide (x4<33)) then if (((0:Int)<=x4/\x4<33)/\(0+x4.toNat*1)<33)then (T2 N (p_x (0+x4.toNat*1))).bind fun y3=>(N9 N y3).bind fun L3=>Z8 L3 (fun b (x7:Int) (z3:Nat->Int)=>if (((((((0:Int)<=x4/\x4<33)/\(0+x4.toNat*1)<33)/\((0:Int)<=x7/\x7<33))/\(0+x7.toNat*1)<33)/\((0:Int)<=x4/\x4<33))/\(0+x4.toNat*1)<33)then b (IU z3 (0+x4.toNat*1) (N7 .or .u64 (z3 (0+x4.toNat*1)) (p_x (0+x7.toNat*1)))) else none) (fun (z3:Nat->Int)=>a z3 (wrap .i64 (x4+1))) x3 else none else some x3) (fun _=>0) 0
theorem Z2 {p_x:Nat->Int}{y:Nat->Int}(h:K9 N p_x=some y) :FunO S S0 [.reg 0 0,.reg 0 0] [.arr 33 (fun i=>pI .u64 (p_x i))] (.p (.agg (cA 33 (pI .u64) y))) ([.arr 33 (fun i=>pI .u64 (p_x i))]) [true]:=by
 unfold K9 at h;refine A4 Z func234 ?_;refine N4 Z Bs h (fun x3 x4=>⟨[(10,pN x4),(9,.reg 0 0),(5,.reg 6000 0),(4,.reg 5000 0),(3,.reg 4000 0)],[(6000,.arr 33 (fun i=>pI .u64 (x3 i))),(5000,.arr 33 (fun i=>pI .u64 ((fun _=>0) i))),(4000,.cells [.reg 0 0]),(0,.arr 33 (fun i=>pI .u64 (p_x i)))]⟩) (ids:=[(0,0),(4000,4000),(5000,5000),(6000,6000)]) (fun _ _ _ _ _ b x3 x4 d h=>?_) (hle:=klR [(1,.fn 33 33 (fun i=>[(fun i=>(List.replicate 33 (pI .u64 0)).getD i default) i]) (fun i=>[pI .u64 ((fun _=>0) i)])),(2,.fn 33 33 (fun i=>[(fun i=>(List.replicate 33 (pI .u64 0)).getD i default) i]) (fun i=>[pI .u64 ((fun _=>0) i)]))] (al1 ⟨rfl,X5 (z:=pI .u64 0) rfl⟩ (al1 ⟨rfl,X5 (z:=pI .u64 0) rfl⟩ al0)));apply kI Z h<;>intro h
 .refine G8 Z Bs [(2,.l [0]),(3,.l [0]),(4,.a [7000]),(5,.a [7000])] ?_;obtain⟨c12,h⟩:=H1 h;refine K0 c12 ?_;refine J0 Z Bs 16 7000 [pI .i64 x4] ?_;refine kC Z h (Bx Z Y) (fun y3 h=>?_);obtain⟨L3,e6,h⟩:=B6 h;refine EL Z Bs [18000] [10,9,6,5,4,3] 905 (fun z3=>⟨[(10,pN x4),(9,.reg 0 0),(6,.p (.ptr [pI .i64 x4])),(5,.reg 6000 0),(4,.reg 5000 0),(3,.reg 4000 0)],[(6000,.arr 33 (fun i=>pI .u64 (z3 i))),(5000,.arr 33 (fun i=>pI .u64 ((fun _=>0) i))),(4000,.cells [.reg 0 0]),(0,.arr 33 (fun i=>pI .u64 (p_x i)))]⟩) (idl:=[(0,0),(4000,4000),(5000,5000),(6000,6000)]) h (Aa Z Y e6) (fun _=>by kernel_rfl) (fun _=>by kernel_rfl) (fun _=>by kernel_rfl) (fun _=>by kernel_rfl) (fun x7 _ f z3 g h=>?_) (fun z3 h=>?_)
  .refine HS Z Bs ?_;refine G8 Z Bs [(0,.n),(1,.l [6000]),(2,.l [6000]),(3,.l [4000]),(6,.l [0]),(7,.l [0]),(9,.l [6000]),(10,.a [6000])] ?_;obtain⟨c15,h⟩:=H1 h;refine K0 c15 ?_;exact g _ [(0,0),(905,905),(4000,4000),(5000,5000),(6000,6000)] _ (IU z3 (0+x4.toNat*1) (N7 .or .u64 (z3 (0+x4.toNat*1)) (p_x (0+x7.toNat*1)))) Bs h (hle:=klR [(0,.fn 33 33 (fun i=>[(fun i=>if i=(0+x4.toNat*1)then (pI .u64 (N7 .or .u64 (z3 (0+x4.toNat*1)) (p_x (0+x7.toNat*1))))else (fun i=>pI .u64 (z3 i)) i) i]) (fun i=>[pI .u64 (IU z3 (0+x4.toNat*1) (N7 .or .u64 (z3 (0+x4.toNat*1)) (p_x (0+x7.toNat*1))) i)]))] (al1 ⟨rfl,Ud (c:=pI .u64) (v:=z3) (x:=N7 .or .u64 (z3 (0+x4.toNat*1)) (p_x (0+x7.toNat*1))) (fun _ _=>rfl) rfl⟩ al0))
  exact d _ [(0,0),(4000,4000),(5000,5000),(6000,6000)] _ z3 (wrap .i64 (x4+1)) Bs h
 obtain rfl:=C6 h;exact A6 Z (And.intro rfl (D4 _ _):(0:Nat)=0/\(Z5 33 (fun i=>pI .u64 (x3 i))).length=33) ⟨[(4,.reg 5000 0)],[(5000,.arr 33 (fun i=>pI .u64 (x3 i))),(0,.arr 33 (fun i=>pI .u64 (p_x i)))]⟩ [0] (ids:=[(0,0),(5000,5000)]) ⟨rfl,rfl,rfl⟩ (hle:=klR [(0,.fn 33 33 (fun i=>[(fun i=>(cA 33 (pI .u64) x3).getD i default) i]) (fun i=>[pI .u64 (x3 i)]))] (al1 ⟨rfl,D0 33 (fun i=>pI .u64 (x3 i))⟩ al0))
def H7 (N:Nat)(p_x:Nat->Int)(b:Int)(c:Int):Option (Nat->Int):= (Q0 N c).bind fun y1=>fix3 N (fun a (x1:Int) (x2:Nat->Int) (x3:Nat->Int)=>if (decide (0<x1)) then if ((N7 .and .i64 x1 1)==1) then (G7 N x3 x2).bind fun y8=>(K9 N x2).bind fun y9=>a (shI .shr .i64 x1 1) y9 y8 else (K9 N x2).bind fun d=>a (shI .shr .i64 x1 1) d x3 else some x3) b p_x y1
theorem Q1 {p_x:Nat->Int}{b:Int}{c:Int}{y:Nat->Int}(h:H7 N p_x b c=some y) :FunO S Z1 [.p (.agg (cA 33 (pI .u64) p_x)),pN b,pN c] [] (.p (.agg (cA 33 (pI .u64) y))) ([]) []:=by
 unfold H7 at h;refine A4 Z func227 ?_;refine kC Z h (AR Z Y) (fun y1 h=>?_);refine Tc Z (And.intro rfl (D4 _ _):(0:Nat)=0/\(Z5 33 (fun i=>pI .u64 (y1 i))).length=33) h (fun x1 x2 x3=>⟨[(7,.reg 8000 0),(6,.reg 7000 0),(3,.reg 4000 0),(1,pN x1)],[(8000,.arr 33 (fun i=>pI .u64 (x3 i))),(7000,.arr 33 (fun i=>pI .u64 ((fun _=>0) i))),(4000,.arr 33 (fun i=>pI .u64 (x2 i)))]⟩) (ids:=[(4000,4000),(7000,7000),(8000,8000)]) (fun _ _ _ _ _ f x1 x2 x3 d h=>?_) (hle:=klR [(1,.fn 33 33 (fun i=>[(fun i=>(cA 33 (pI .u64) y1).getD i default) i]) (fun i=>[pI .u64 (y1 i)])),(2,.fn 33 33 (fun i=>[(fun i=>(List.replicate 33 (pI .u64 0)).getD i default) i]) (fun i=>[pI .u64 ((fun _=>0) i)])),(3,.fn 33 33 (fun i=>[(fun i=>(cA 33 (pI .u64) p_x).getD i default) i]) (fun i=>[pI .u64 (p_x i)]))] (al1 ⟨rfl,D0 33 (fun i=>pI .u64 (y1 i))⟩ (al1 ⟨rfl,X5 (z:=pI .u64 0) rfl⟩ (al1 ⟨rfl,D0 33 (fun i=>pI .u64 (p_x i))⟩ al0))));apply kI Z h<;>intro h
 .apply kI Z h<;>intro h
  .obtain⟨y8,e8,h⟩:=B6 h;refine B7 Z [8000,4000] Bs (N0 Z Y e8) ?_;obtain⟨y9,e9,h⟩:=B6 h;refine B7 Z [4000] (And.intro rfl (D4 _ _):(0:Nat)=0/\(Z5 33 (fun i=>pI .u64 (y8 i))).length=33) (Z2 Z Y e9) ?_;exact d _ [(4000,4000),(7000,7000),(8000,8000)] _ (shI .shr .i64 x1 1) y9 y8 (And.intro (And.intro rfl (D4 _ _):(0:Nat)=0/\(Z5 33 (fun i=>pI .u64 (y9 i))).length=33) (by decide:(0:Int)<=1)) h (hle:=klR [(1,.fn 33 33 (fun i=>[(fun i=>(cA 33 (pI .u64) y8).getD i default) i]) (fun i=>[pI .u64 (y8 i)])),(3,.fn 33 33 (fun i=>[(fun i=>(cA 33 (pI .u64) y9).getD i default) i]) (fun i=>[pI .u64 (y9 i)]))] (al1 ⟨rfl,D0 33 (fun i=>pI .u64 (y8 i))⟩ (al1 ⟨rfl,D0 33 (fun i=>pI .u64 (y9 i))⟩ al0)))
  obtain⟨a,e10,h⟩:=B6 h;refine B7 Z [4000] Bs (Z2 Z Y e10) ?_;exact d _ [(4000,4000),(7000,7000),(8000,8000)] _ (shI .shr .i64 x1 1) a x3 (And.intro (And.intro rfl (D4 _ _):(0:Nat)=0/\(Z5 33 (fun i=>pI .u64 (a i))).length=33) (by decide:(0:Int)<=1)) h (hle:=klR [(3,.fn 33 33 (fun i=>[(fun i=>(cA 33 (pI .u64) a).getD i default) i]) (fun i=>[pI .u64 (a i)]))] (al1 ⟨rfl,D0 33 (fun i=>pI .u64 (a i))⟩ al0))
 obtain rfl:=C6 h;exact A6 Z (And.intro rfl (D4 _ _):(0:Nat)=0/\(Z5 33 (fun i=>pI .u64 (x3 i))).length=33) ⟨[(6,.reg 7000 0)],[(7000,.arr 33 (fun i=>pI .u64 (x3 i)))]⟩ [] (ids:=[(7000,7000)]) ⟨rfl,rfl,rfl⟩ (hle:=klR [(0,.fn 33 33 (fun i=>[(fun i=>(cA 33 (pI .u64) x3).getD i default) i]) (fun i=>[pI .u64 (x3 i)]))] (al1 ⟨rfl,D0 33 (fun i=>pI .u64 (x3 i))⟩ al0))
end Go.AM
namespace Go.AM
open Go.Proofs.Tryz
variable {N:Nat}
open IntKind (wrap)
open Go.Proofs
set_option maxRecDepth 10000
set_option maxHeartbeats 2000000
variable {S:O7}(Z:E7 S Tryz.prog) (Y:GK S)
include Z Y
def AS (N:Nat)(p_x:QU)(b:Sl A1):Option (Nat->Int):= Eg N (fun a (x1:Nat->Int) (x2:Int)=>if (decide (x2<(b.n:Int))) then if ((0:Int)<=x2/\x2<(b.n:Int))then if ((((N7 .or .u32 (N7 .andNot .u32 p_x.is.Plus (b.g x2.toNat).Plus) (N7 .andNot .u32 p_x.is.Minus (b.g x2.toNat).Minus))==0)==p_x.not) != true) then if (((0:Int)<=(wrap .i64 (x2+1))/\((0:Int)<=x2/\x2<33))/\(0+x2.toNat*1)<33)then a (IU x1 (0+x2.toNat*1) (shI .shl .u64 1 (wrap .i64 (x2+1)))) (wrap .i64 (x2+1)) else none else a x1 (wrap .i64 (x2+1)) else none else some x1) (fun _=>0) 0
theorem Iz {p_x:QU}{a:Sl A1}{y:Nat->Int}(h:AS N p_x a=some y) :FunO S AO [.p (.agg (OL p_x)),.p (vSl 2 A0 a)] [] (.p (.agg (cA 33 (pI .u64) y))) ([]) []:=by
 unfold AS at h;refine A4 Z func228 ?_;refine N4 Z Bs h (fun x1 x2=>⟨[(9,pN x2),(8,pN (a.n:Int)),(7,.p (vSl 2 A0 a)),(4,.reg 5000 0),(2,.reg 3000 0)],[(5000,.arr 33 (fun i=>pI .u64 (x1 i))),(3000,.cells ((OL p_x).map .p))]⟩) (ids:=[(3000,3000),(5000,5000)]) (fun _ _ _ _ _ f x1 x2 d h=>?_) (hle:=klR [(3,.fn 33 33 (fun i=>[(fun i=>(List.replicate 33 (pI .u64 0)).getD i default) i]) (fun i=>[pI .u64 ((fun _=>0) i)]))] (al1 ⟨rfl,X5 (z:=pI .u64 0) rfl⟩ al0));apply kI Z h<;>intro h
 .obtain⟨c8,h⟩:=H1 h;refine D7 Z (And.intro c8 Dn) (b:=(((N7 .or .u32 (N7 .andNot .u32 p_x.is.Plus (a.g x2.toNat).Plus) (N7 .andNot .u32 p_x.is.Minus (a.g x2.toNat).Minus))==0)==p_x.not) != true) (fun c9=>?_) (fun c9=>?_)
  .replace h:=itT c9 h;obtain⟨c10,h⟩:=H1 h;exact d _ [(3000,3000),(5000,5000)] _ (IU x1 (0+x2.toNat*1) (shI .shl .u64 1 (wrap .i64 (x2+1)))) (wrap .i64 (x2+1)) c10 h (hle:=klR [(3,.fn 33 33 (fun i=>[(fun i=>if i=(0+x2.toNat*1)then (pI .u64 (shI .shl .u64 1 (wrap .i64 (x2+1))))else (fun i=>pI .u64 (x1 i)) i) i]) (fun i=>[pI .u64 (IU x1 (0+x2.toNat*1) (shI .shl .u64 1 (wrap .i64 (x2+1))) i)]))] (al1 ⟨rfl,Ud (c:=pI .u64) (v:=x1) (x:=shI .shl .u64 1 (wrap .i64 (x2+1))) (fun _ _=>rfl) rfl⟩ al0))
  replace h:=itF c9 h;exact d _ [(3000,3000),(5000,5000)] _ x1 (wrap .i64 (x2+1)) Bs h
 obtain rfl:=C6 h;exact A6 Z (And.intro rfl (D4 _ _):(0:Nat)=0/\(Z5 33 (fun i=>pI .u64 (x1 i))).length=33) ⟨[(4,.reg 5000 0)],[(5000,.arr 33 (fun i=>pI .u64 (x1 i)))]⟩ [] (ids:=[(5000,5000)]) ⟨rfl,rfl,rfl⟩ (hle:=klR [(0,.fn 33 33 (fun i=>[(fun i=>(cA 33 (pI .u64) x1).getD i default) i]) (fun i=>[pI .u64 (x1 i)]))] (al1 ⟨rfl,D0 33 (fun i=>pI .u64 (x1 i))⟩ al0))
def By (N:Nat)(p_x:Uk)(a:Sl A1):Option (Nat->Int):= if p_x.end_ then if (((0:Int)<=(a.n:Int)/\((0:Int)<=(a.n:Int)/\(a.n:Int)<33))/\(0+(a.n:Int).toNat*1)<33)then some (IU (fun _=>0) (0+(a.n:Int).toNat*1) (shI .shl .u64 1 (a.n:Int))) else none else if (((0:Int)<=0/\(0:Int)<33)/\(0+0*1)<33)then some (IU (fun _=>0) (0+0*1) (shI .shl .u64 1 0)) else none
theorem Jn {p_x:Uk}{a:Sl A1}{y:Nat->Int}(h:By N p_x a=some y) :FunO S Bu [.p (.agg (Ul p_x)),.p (vSl 2 A0 a)] [] (.p (.agg (cA 33 (pI .u64) y))) ([]) []:=by
 unfold By at h;refine A4 Z func229 ?_;apply kI Z h<;>intro h
 .obtain⟨c2,h⟩:=H1 h;obtain rfl:=C6 h;exact A6 Z (And.intro (And.intro (And.intro c2.1.1 c2.1.2) c2.2) (And.intro rfl (D4 _ _):(0:Nat)=0/\(Z5 33 (fun i=>if i=(0+(a.n:Int).toNat*1)then (pI .u64 (shI .shl .u64 1 (a.n:Int)))else (fun i=>(List.replicate 33 (pI .u64 0)).getD i default) i)).length=33)) ⟨[(4,.reg 5000 0)],[(5000,.arr 33 (fun i=>pI .u64 (IU (fun _=>0) (0+(a.n:Int).toNat*1) (shI .shl .u64 1 (a.n:Int)) i)))]⟩ [] (ids:=[(5000,5000)]) ⟨rfl,rfl,rfl⟩ (hle:=klR [(0,.fn 33 33 (fun i=>[(fun i=>(Z5 33 (fun i=>if i=(0+(a.n:Int).toNat*1)then (pI .u64 (shI .shl .u64 1 (a.n:Int)))else (fun i=>(List.replicate 33 (pI .u64 0)).getD i default) i)).getD i default) i]) (fun i=>[pI .u64 (IU (fun _=>0) (0+(a.n:Int).toNat*1) (shI .shl .u64 1 (a.n:Int)) i)]))] (al1 ⟨rfl,fun i b=>(D0 33 (fun i=>if i=(0+(a.n:Int).toNat*1)then (pI .u64 (shI .shl .u64 1 (a.n:Int)))else (fun i=>(List.replicate 33 (pI .u64 0)).getD i default) i) i b).trans (Ud (c:=pI .u64) (v:=fun _=>0) (x:=shI .shl .u64 1 (a.n:Int)) (X5 (z:=pI .u64 0) rfl) rfl i b)⟩ al0))
 obtain⟨c3,h⟩:=H1 h;obtain rfl:=C6 h;exact A6 Z (And.intro (And.intro (And.intro (by decide:(0:Int)<=0) c3.1) c3.2) (And.intro rfl (D4 _ _):(0:Nat)=0/\(Z5 33 (fun i=>if i=(0+0*1)then (pI .u64 (shI .shl .u64 1 0))else (fun i=>(List.replicate 33 (pI .u64 0)).getD i default) i)).length=33)) ⟨[(4,.reg 5000 0)],[(5000,.arr 33 (fun i=>pI .u64 (IU (fun _=>0) (0+0*1) (shI .shl .u64 1 0) i)))]⟩ [] (ids:=[(5000,5000)]) ⟨rfl,rfl,rfl⟩ (hle:=klR [(0,.fn 33 33 (fun i=>[(fun i=>(Z5 33 (fun i=>if i=(0+0*1)then (pI .u64 (shI .shl .u64 1 0))else (fun i=>(List.replicate 33 (pI .u64 0)).getD i default) i)).getD i default) i]) (fun i=>[pI .u64 (IU (fun _=>0) (0+0*1) (shI .shl .u64 1 0) i)]))] (al1 ⟨rfl,fun i b=>(D0 33 (fun i=>if i=(0+0*1)then (pI .u64 (shI .shl .u64 1 0))else (fun i=>(List.replicate 33 (pI .u64 0)).getD i default) i) i b).trans (Ud (c:=pI .u64) (v:=fun _=>0) (x:=shI .shl .u64 1 0) (X5 (z:=pI .u64 0) rfl) rfl i b)⟩ al0))
def Cu (rec:Part->(Sl A1)->Option (Nat->Int))(N:Nat)(p_x:Pseq)(b:Sl A1):Option (Nat->Int):= (Q0 N (b.n:Int)).bind fun y1=>Eg N (fun a (x1:Nat->Int) (x2:Int)=>if (decide (x2<(p_x.l.n:Int))) then if ((0:Int)<=x2/\x2<(p_x.l.n:Int))then (rec (p_x.l.g x2.toNat) b).bind fun y6=>(G7 N x1 y6).bind fun y7=>a y7 (wrap .i64 (x2+1)) else none else some x1) y1 0
theorem KY {rec:Part->(Sl A1)->Option ((Nat->Int))}(b:∀{x:Part}{b0:(Sl A1)}{y:(Nat->Int)},rec x b0=some y->Vm S Tryz.prog (De x) "ablaut/pats.in" [(.p (vSl 2 A0 b0))] (.p (.agg (cA 33 (pI .u64) y)))){p_x:Pseq}{a:(Sl A1)}{y:(Nat->Int)}(h:Cu rec N p_x a=some y) :FunO S Cq [(.p (.agg (Vx p_x))),(.p (vSl 2 A0 a))] [] (.p (.agg (cA 33 (pI .u64) y))) ([]) []:=by
 unfold Cu at h;refine A4 Z func235 ?_;refine kC Z h (AR Z Y) (fun y1 h=>?_);refine N4 Z (And.intro rfl (D4 _ _):(0:Nat)=0/\(Z5 33 (fun i=>pI .u64 (y1 i))).length=33) h (fun x1 x2=>⟨[(15,(pN x2)),(14,(pN (p_x.l.n:Int))),(13,(.p (vSl 1 BW p_x.l))),(5,(.reg 6000 0)),(4,(.reg 5000 0)),(1,(.p (vSl 2 A0 a)))],[(6000,(.arr 33 (fun i=>pI .u64 (x1 i)))),(5000,(.arr 33 (fun i=>pI .u64 ((fun _=>0) i))))]⟩) (ids:=[(5000,5000),(6000,6000)]) (fun _ _ _ _ _ c x1 x2 d h=>?_) (hle:=(klR [(4,.fn 33 33 (fun i=>[(fun i=>(cA 33 (pI .u64) y1).getD i default) i]) (fun i=>[pI .u64 (y1 i)])),(5,.fn 33 33 (fun i=>[(fun i=>(List.replicate 33 (pI .u64 0)).getD i default) i]) (fun i=>[pI .u64 ((fun _=>0) i)]))] (al1 ⟨rfl,(D0 33 (fun i=>pI .u64 (y1 i)))⟩ (al1 ⟨rfl,(X5 (z:=pI .u64 0) rfl)⟩ al0))));apply kI Z h<;>intro h
 .obtain⟨c6,h⟩:=H1 h;obtain⟨y6,e6,h⟩:=B6 h;refine Hf Z c6 (b e6) ?_;refine W9 Z (And.intro rfl (D4 _ _):(0:Nat)=0/\(Z5 33 (fun i=>pI .u64 (y6 i))).length=33) ⟨[(15,(pN x2)),(14,(pN (p_x.l.n:Int))),(13,(.p (vSl 1 BW p_x.l))),(8,(.reg 9000 0)),(5,(.reg 6000 0)),(4,(.reg 5000 0)),(1,(.p (vSl 2 A0 a)))],[(9000,(.arr 33 (fun i=>pI .u64 (y6 i)))),(6000,(.arr 33 (fun i=>pI .u64 (x1 i)))),(5000,(.arr 33 (fun i=>pI .u64 ((fun _=>0) i))))]⟩ (ids:=[(5000,5000),(6000,6000),(9000,9000)]) ?_ (hle:=(klR [(4,.fn 33 33 (fun i=>[(fun i=>(cA 33 (pI .u64) y6).getD i default) i]) (fun i=>[pI .u64 (y6 i)]))] (al1 ⟨rfl,(D0 33 (fun i=>pI .u64 (y6 i)))⟩ al0)));obtain⟨y7,e7,h⟩:=B6 h;refine B7 Z [6000,9000] Bs (N0 Z Y e7) ?_;exact d _ [(5000,5000),(6000,6000)] _ y7 (wrap .i64 (x2+1)) (And.intro rfl (D4 _ _):(0:Nat)=0/\(Z5 33 (fun i=>pI .u64 (y7 i))).length=33) h (hle:=klR [(4,.fn 33 33 (fun i=>[(fun i=>(cA 33 (pI .u64) y7).getD i default) i]) (fun i=>[pI .u64 (y7 i)]))] (al1 ⟨rfl,(D0 33 (fun i=>pI .u64 (y7 i)))⟩ al0))
 obtain rfl:=C6 h;exact A6 Z (And.intro rfl (D4 _ _):(0:Nat)=0/\(Z5 33 (fun i=>pI .u64 (x1 i))).length=33) ⟨[(4,(.reg 5000 0))],[(5000,(.arr 33 (fun i=>pI .u64 (x1 i))))]⟩ [] (ids:=[(5000,5000)]) ⟨rfl,rfl,rfl⟩ (hle:=(klR [(0,.fn 33 33 (fun i=>[(fun i=>(cA 33 (pI .u64) x1).getD i default) i]) (fun i=>[pI .u64 (x1 i)]))] (al1 ⟨rfl,(D0 33 (fun i=>pI .u64 (x1 i)))⟩ al0)))
def Cv (rec:Part->(Sl A1)->Option (Nat->Int))(N:Nat)(p_x:Palt)(b:Sl A1):Option (Nat->Int):= Eg N (fun a (x1:Nat->Int) (x2:Int)=>if (decide (x2<(p_x.l.n:Int))) then if ((0:Int)<=x2/\x2<(p_x.l.n:Int))then (rec (p_x.l.g x2.toNat) b).bind fun y5=>(O9 N x1 y5).bind fun y6=>a y6 (wrap .i64 (x2+1)) else none else some x1) (fun _=>0) 0
theorem KZ {rec:Part->(Sl A1)->Option ((Nat->Int))}(b:∀{x:Part}{b0:(Sl A1)}{y:(Nat->Int)},rec x b0=some y->Vm S Tryz.prog (De x) "ablaut/pats.in" [(.p (vSl 2 A0 b0))] (.p (.agg (cA 33 (pI .u64) y)))){p_x:Palt}{a:(Sl A1)}{y:(Nat->Int)}(h:Cv rec N p_x a=some y) :FunO S Co [(.p (.agg (Vv p_x))),(.p (vSl 2 A0 a))] [] (.p (.agg (cA 33 (pI .u64) y))) ([]) []:=by
 unfold Cv at h;refine A4 Z func230 ?_;refine N4 Z Bs h (fun x1 x2=>⟨[(11,(pN x2)),(10,(pN (p_x.l.n:Int))),(9,(.p (vSl 1 BW p_x.l))),(4,(.reg 5000 0)),(1,(.p (vSl 2 A0 a)))],[(5000,(.arr 33 (fun i=>pI .u64 (x1 i))))]⟩) (ids:=[(5000,5000)]) (fun _ _ _ _ _ c x1 x2 d h=>?_) (hle:=(klR [(4,.fn 33 33 (fun i=>[(fun i=>(List.replicate 33 (pI .u64 0)).getD i default) i]) (fun i=>[pI .u64 ((fun _=>0) i)]))] (al1 ⟨rfl,(X5 (z:=pI .u64 0) rfl)⟩ al0)));apply kI Z h<;>intro h
 .obtain⟨c6,h⟩:=H1 h;obtain⟨y5,e5,h⟩:=B6 h;refine Hf Z c6 (b e5) ?_;refine W9 Z (And.intro rfl (D4 _ _):(0:Nat)=0/\(Z5 33 (fun i=>pI .u64 (y5 i))).length=33) ⟨[(11,(pN x2)),(10,(pN (p_x.l.n:Int))),(9,(.p (vSl 1 BW p_x.l))),(7,(.reg 8000 0)),(4,(.reg 5000 0)),(1,(.p (vSl 2 A0 a)))],[(8000,(.arr 33 (fun i=>pI .u64 (y5 i)))),(5000,(.arr 33 (fun i=>pI .u64 (x1 i))))]⟩ (ids:=[(5000,5000),(8000,8000)]) ?_ (hle:=(klR [(4,.fn 33 33 (fun i=>[(fun i=>(cA 33 (pI .u64) y5).getD i default) i]) (fun i=>[pI .u64 (y5 i)]))] (al1 ⟨rfl,(D0 33 (fun i=>pI .u64 (y5 i)))⟩ al0)));obtain⟨y6,e6,h⟩:=B6 h;refine B7 Z [5000,8000] Bs (Bj Z Y e6) ?_;exact d _ [(5000,5000)] _ y6 (wrap .i64 (x2+1)) Bs h
 obtain rfl:=C6 h;exact A6 Z (And.intro rfl (D4 _ _):(0:Nat)=0/\(Z5 33 (fun i=>pI .u64 (x1 i))).length=33) ⟨[(4,(.reg 5000 0))],[(5000,(.arr 33 (fun i=>pI .u64 (x1 i))))]⟩ [] (ids:=[(5000,5000)]) ⟨rfl,rfl,rfl⟩ (hle:=(klR [(0,.fn 33 33 (fun i=>[(fun i=>(cA 33 (pI .u64) x1).getD i default) i]) (fun i=>[pI .u64 (x1 i)]))] (al1 ⟨rfl,(D0 33 (fun i=>pI .u64 (x1 i)))⟩ al0)))
def Cw (rec:Part->(Sl A1)->Option (Nat->Int))(N:Nat)(p_x:Prep)(a:Sl A1):Option (Nat->Int):= (rec p_x.of a).bind fun y1=>(H7 N y1 p_x.min (a.n:Int)).bind fun y2=>(Q0 N (a.n:Int)).bind fun y3=>(O9 N y1 y3).bind fun y4=>if (decide (p_x.max<0)) then (H7 N y4 (a.n:Int) (a.n:Int)).bind fun y5=>(G7 N y2 y5).bind fun y6=>some y6 else (H7 N y4 (wrap .i64 (p_x.max-p_x.min)) (a.n:Int)).bind fun y7=>(G7 N y2 y7).bind fun y8=>some y8
theorem La {rec:Part->(Sl A1)->Option ((Nat->Int))}(b:∀{x:Part}{b0:(Sl A1)}{y:(Nat->Int)},rec x b0=some y->Vm S Tryz.prog (De x) "ablaut/pats.in" [(.p (vSl 2 A0 b0))] (.p (.agg (cA 33 (pI .u64) y)))){p_x:Prep}{a:(Sl A1)}{y:(Nat->Int)}(h:Cw rec N p_x a=some y) :FunO S Cp [(.p (.agg (Vw p_x))),(.p (vSl 2 A0 a))] [] (.p (.agg (cA 33 (pI .u64) y))) ([]) []:=by
 unfold Cw at h;refine A4 Z func232 ?_;obtain⟨y1,e1,h⟩:=B6 h;refine Hf Z Bs (b e1) ?_;refine W9 Z (And.intro rfl (D4 _ _):(0:Nat)=0/\(Z5 33 (fun i=>pI .u64 (y1 i))).length=33) ⟨[(18,(pN (a.n:Int))),(16,(pN p_x.min)),(14,(.p (.agg (cA 33 (pI .u64) y1)))),(5,(.reg 6000 0)),(4,(.reg 5000 0)),(2,(.reg 3000 0)),(1,(.p (vSl 2 A0 a)))],[(6000,(.arr 33 (fun i=>pI .u64 (y1 i)))),(5000,(.arr 33 (fun i=>pI .u64 ((fun _=>0) i)))),(3000,(.cells [(.p (De p_x.of)),(pN p_x.min),(pN p_x.max)]))]⟩ (ids:=[(3000,3000),(5000,5000),(6000,6000)]) ?_ (hle:=(klR [(2,.eq (.agg (Z5 33 (fun i=>(cA 33 (pI .u64) y1).getD i default))) (.agg (cA 33 (pI .u64) y1))),(4,.fn 33 33 (fun i=>[(fun i=>(cA 33 (pI .u64) y1).getD i default) i]) (fun i=>[pI .u64 (y1 i)])),(5,.fn 33 33 (fun i=>[(fun i=>(List.replicate 33 (pI .u64 0)).getD i default) i]) (fun i=>[pI .u64 ((fun _=>0) i)]))] (al1 (congrArg PV.agg (PA (D0 33 (fun i=>pI .u64 (y1 i))))) (al1 ⟨rfl,(D0 33 (fun i=>pI .u64 (y1 i)))⟩ (al1 ⟨rfl,(X5 (z:=pI .u64 0) rfl)⟩ al0)))));refine kC Z h (Q1 Z Y) (fun y2 h=>?_);obtain⟨y3,e3,h⟩:=B6 h;refine B7 Z [] (And.intro (And.intro rfl (D4 _ _):(0:Nat)=0/\(Z5 33 (fun i=>pI .u64 (y2 i))).length=33) (And.intro rfl (D4 _ _):(0:Nat)=0/\(Z5 33 (fun i=>pI .u64 (y1 i))).length=33)) (AR Z Y e3) ?_;refine W9 Z (And.intro rfl (D4 _ _):(0:Nat)=0/\(Z5 33 (fun i=>pI .u64 (y3 i))).length=33) ⟨[(8,(.reg 9000 0)),(7,(.reg 8000 0)),(6,(.reg 7000 0)),(4,(.reg 5000 0)),(2,(.reg 3000 0)),(1,(.p (vSl 2 A0 a)))],[(9000,(.arr 33 (fun i=>pI .u64 (y3 i)))),(8000,(.arr 33 (fun i=>pI .u64 (y1 i)))),(7000,(.arr 33 (fun i=>pI .u64 (y2 i)))),(5000,(.arr 33 (fun i=>pI .u64 ((fun _=>0) i)))),(3000,(.cells [(.p (De p_x.of)),(pN p_x.min),(pN p_x.max)]))]⟩ (ids:=[(3000,3000),(5000,5000),(7000,7000),(8000,8000),(9000,9000)]) ?_ (hle:=(klR [(1,.fn 33 33 (fun i=>[(fun i=>(cA 33 (pI .u64) y3).getD i default) i]) (fun i=>[pI .u64 (y3 i)])),(2,.fn 33 33 (fun i=>[(fun i=>(cA 33 (pI .u64) y1).getD i default) i]) (fun i=>[pI .u64 (y1 i)])),(3,.fn 33 33 (fun i=>[(fun i=>(cA 33 (pI .u64) y2).getD i default) i]) (fun i=>[pI .u64 (y2 i)]))] (al1 ⟨rfl,(D0 33 (fun i=>pI .u64 (y3 i)))⟩ (al1 ⟨rfl,(D0 33 (fun i=>pI .u64 (y1 i)))⟩ (al1 ⟨rfl,(D0 33 (fun i=>pI .u64 (y2 i)))⟩ al0)))));obtain⟨y4,e4,h⟩:=B6 h;refine B7 Z [8000,9000] Bs (Bj Z Y e4) ?_;apply kI Z h<;>intro h
 .refine kC Z h (Q1 Z Y) (fun y5 h=>?_);refine W9 Z (And.intro rfl (D4 _ _):(0:Nat)=0/\(Z5 33 (fun i=>pI .u64 (y5 i))).length=33) ⟨[(7,(.reg 8000 0)),(6,(.reg 7000 0)),(4,(.reg 5000 0))],[(8000,(.arr 33 (fun i=>pI .u64 (y5 i)))),(7000,(.arr 33 (fun i=>pI .u64 (y2 i)))),(5000,(.arr 33 (fun i=>pI .u64 ((fun _=>0) i))))]⟩ (ids:=[(5000,5000),(7000,7000),(8000,8000)]) ?_ (hle:=(klR [(0,.fn 33 33 (fun i=>[(fun i=>(cA 33 (pI .u64) y5).getD i default) i]) (fun i=>[pI .u64 (y5 i)]))] (al1 ⟨rfl,(D0 33 (fun i=>pI .u64 (y5 i)))⟩ al0)));obtain⟨y6,e6,h⟩:=B6 h;refine B7 Z [7000,8000] Bs (N0 Z Y e6) ?_;obtain rfl:=C6 h;exact A6 Z (And.intro rfl (D4 _ _):(0:Nat)=0/\(Z5 33 (fun i=>pI .u64 (y6 i))).length=33) ⟨[(4,(.reg 5000 0))],[(5000,(.arr 33 (fun i=>pI .u64 (y6 i))))]⟩ [] (ids:=[(5000,5000)]) ⟨rfl,rfl,rfl⟩ (hle:=(klR [(0,.fn 33 33 (fun i=>[(fun i=>(cA 33 (pI .u64) y6).getD i default) i]) (fun i=>[pI .u64 (y6 i)]))] (al1 ⟨rfl,(D0 33 (fun i=>pI .u64 (y6 i)))⟩ al0)))
 refine kC Z h (Q1 Z Y) (fun y7 h=>?_);refine W9 Z (And.intro rfl (D4 _ _):(0:Nat)=0/\(Z5 33 (fun i=>pI .u64 (y7 i))).length=33) ⟨[(7,(.reg 8000 0)),(6,(.reg 7000 0)),(4,(.reg 5000 0))],[(8000,(.arr 33 (fun i=>pI .u64 (y7 i)))),(7000,(.arr 33 (fun i=>pI .u64 (y2 i)))),(5000,(.arr 33 (fun i=>pI .u64 ((fun _=>0) i))))]⟩ (ids:=[(5000,5000),(7000,7000),(8000,8000)]) ?_ (hle:=(klR [(0,.fn 33 33 (fun i=>[(fun i=>(cA 33 (pI .u64) y7).getD i default) i]) (fun i=>[pI .u64 (y7 i)]))] (al1 ⟨rfl,(D0 33 (fun i=>pI .u64 (y7 i)))⟩ al0)));obtain⟨y8,e8,h⟩:=B6 h;refine B7 Z [7000,8000] Bs (N0 Z Y e8) ?_;obtain rfl:=C6 h;exact A6 Z (And.intro rfl (D4 _ _):(0:Nat)=0/\(Z5 33 (fun i=>pI .u64 (y8 i))).length=33) ⟨[(4,(.reg 5000 0))],[(5000,(.arr 33 (fun i=>pI .u64 (y8 i))))]⟩ [] (ids:=[(5000,5000)]) ⟨rfl,rfl,rfl⟩ (hle:=(klR [(0,.fn 33 33 (fun i=>[(fun i=>(cA 33 (pI .u64) y8).getD i default) i]) (fun i=>[pI .u64 (y8 i)]))] (al1 ⟨rfl,(D0 33 (fun i=>pI .u64 (y8 i)))⟩ al0)))
def Ab (rec:Pat->Option Part)(N:Nat)(a:Pat):Option Part:= Eg N (fun b (x1:Sl Part) (x2:Int)=>if (decide (x2<(a.L.n:Int))) then if ((0:Int)<=x2/\x2<(a.L.n:Int))then (rec (a.L.g x2.toNat)).bind fun y3=>if ((x1.n+(Sl.of [y3]:Sl Part).n)*16<=140737488355328/\x1.n+(Sl.of [y3]:Sl Part).n<=140737488355328)then b (x1.push y3) (wrap .i64 (x2+1)) else none else none else if (a.Kind==1) then some (Part.sound a.Is a.Not) else if (a.Kind==2) then some (Part.edge false) else if (a.Kind==6) then some (Part.edge true) else if (a.Kind==4) then some (Part.alt x1.n x1.g) else if (a.Kind==5) then if (((0:Int)<=0/\0<(x1.n:Int))/\0<x1.n)then some (Part.rep (x1.g 0) a.Min a.Max) else none else some (Part.seq x1.n x1.g)) (Sl.nil:Sl Part) 0
def Bz:Nat->Pat->Option Part
 |0=>fun _=>none
 |N+1=>Ab (Bz N) N
theorem IA {rec:Pat->Option Part}(b:∀{a:Pat}{y:Part},rec a=some y->FunO S Y2 [.p (.agg (C7 a))] [] (.p (De y)) ([]) []){a:Pat}{y:Part}(h:Ab rec N a=some y) :FunO S Y2 [.p (.agg (C7 a))] [] (.p (De y)) ([]) []:=by
 unfold Ab at h;refine A4 Z func208 ?_;refine J0 Z Bs 2 2000 (C7 a) ?_;refine J5 Z Bs 8 ⟨[(7,.p (vSl 7 C7 a.L)),(3,.p E3),(1,.p (.ptr (C7 a)))],[]⟩ (ids:=[]) ?_ (hle:=klR [(0,.fn a.L.n a.L.n (Dd a) (fun i=>C7 (a.L.g i)))] (al1 ⟨rfl,Cl a⟩ al0));refine N4 Z Bs h (fun x1 x2=>⟨[(9,pN x2),(8,pN (a.L.n:Int)),(7,.p (vSl 7 C7 a.L)),(3,.vec 4500),(1,.p (.ptr (C7 a)))],[(4500,.vec NF 1 x1.n (fun i=>BW (x1.g i)) false)]⟩) (ids:=[]) (fun _ _ _ _ _ d x1 x2 f h=>?_);apply kI Z h<;>intro h
 .obtain⟨c6,h⟩:=H1 h;refine J0 Z (And.intro c6 Ea) 13 6000 (C7 (a.L.g x2.toNat)) ?_;obtain⟨y3,e3,h⟩:=B6 h;refine B7 Z [] Ea (b e3) ?_;obtain⟨c7,h⟩:=H1 h;exact f _ [(4500,18000)] _ (x1.push y3) (wrap .i64 (x2+1)) (And.intro Gf c7) h (hle:=klR [(4,.fn (x1.n+1) (x1.push y3).n (V7 x1.n (fun i=>BW (x1.g i)) (B8 [.v .nilIface] [(0,BW y3)])) (fun i=>BW ((x1.push y3).g i)))] (al1 ⟨rfl,MI (c:=BW) (v:=x1) (x:=y3) (z:=[(.v .nilIface)]) same rfl rfl⟩ al0))
 apply kI Z h<;>intro h
 .obtain rfl:=C6 h;exact Ua Z (by decide:(2:Nat)<=6) [] ⟨rfl,rfl,rfl⟩
 apply kI Z h<;>intro h
 .cases h;exact kR Z
 apply kI Z h<;>intro h
 .cases h;exact kR Z
 apply kI Z h<;>intro h
 .refine J5 Z Bs 40 ⟨[(39,.p (vSl 1 BW x1))],[]⟩ (ids:=[]) ?_;cases h;exact kR Z
 apply kI Z h<;>intro h
 .refine I8 Z Bs [4,6] ?_;obtain⟨c13,h⟩:=H1 h;refine K0 c13 ?_;cases h;exact kR Z
 refine J5 Z Bs 54 ⟨[(53,.p (vSl 1 BW x1))],[]⟩ (ids:=[]) ?_;cases h;exact kR Z
theorem Jo {a:Pat}{y:Part}(h:Bz N a=some y) :FunO S Y2 [.p (.agg (C7 a))] [] (.p (De y)) ([]) []:=by
 induction N generalizing a y with
 |zero=>cases (show (none:Option Part)=some y from h)
 |succ N ih=>exact IA Z Y (fun e=>ih e) h
end Go.AM
namespace Go.AM
open Go.Proofs
variable {S:O7}(Z:E7 S Tryz.prog) (Y:GK S)
include Z Y
def Dv:Nat->Part->Sl A1->Option (Nat->Int)
 |0=>fun _ _=>none
 |N+1=>fun p w=>match p with
  |.nil=>none
  |.sound x no=>AS N ⟨x,no⟩ w
  |.edge e=>By N ⟨e⟩ w
  |.seq n g=>Cu (Dv N) N ⟨⟨n,g⟩⟩ w
  |.alt n g=>Cv (Dv N) N ⟨⟨n,g⟩⟩ w
  |.rep o mn mx=>Cw (Dv N) N ⟨o,mn,mx⟩ w
theorem Rc {N:Nat}{x:Part}{w:Sl A1}{y:Nat->Int}(h:Dv N x w=some y):Vm S Tryz.prog (De x) "ablaut/pats.in" [(.p (vSl 2 A0 w))] (.p (.agg (cA 33 (pI .u64) y))):=by
 induction N generalizing x w y with
 |zero=>cases h
 |succ N ih=>
  cases x with
  |nil=>cases h
  |sound s no=>exact⟨_,_,AO,rfl,by kernel_rfl,Iz Z Y (p_x:=⟨s,no⟩) h⟩
  |edge e=>exact⟨_,_,Bu,rfl,by kernel_rfl,Jn Z Y (N:=N) (p_x:=⟨e⟩) h⟩
  |seq n g=>exact⟨_,_,Cq,rfl,by kernel_rfl,KY Z Y (fun e=>ih e) (p_x:=⟨⟨n,g⟩⟩) h⟩
  |alt n g=>exact⟨_,_,Co,rfl,by kernel_rfl,KZ Z Y (fun e=>ih e) (p_x:=⟨⟨n,g⟩⟩) h⟩
  |rep o mn mx=>exact⟨_,_,Cp,rfl,by kernel_rfl,La Z Y (fun e=>ih e) (p_x:=⟨o,mn,mx⟩) h⟩
end Go.AM
namespace Go.AM
open Go.Proofs.Tryz
variable {N:Nat}
open IntKind (wrap)
open Go.Proofs
set_option maxRecDepth 10000
set_option maxHeartbeats 2000000
variable {S:O7}(Z:E7 S Tryz.prog) (Y:GK S)
include Z Y
def AT (N:Nat)(a:A1):Option Bool:= (V2 N a).bind fun y1=>some (!y1)
theorem IB {a:A1}{y:Bool}(h:AT N a=some y) :FunO S Dp [.p (.agg (A0 a))] [] (pB y) ([]) []:=by unfold AT at h;refine A4 Z func207 ?_;refine kC Z h (Bi Z Y) (fun y1 h=>?_);cases h;exact kR Z
def D8 (N:Nat)(a:Sl A1)(c:A1->Option Bool):Option Int:= BV N (fun b (x1:Int)=>if (decide (x1<(a.n:Int))) then if ((0:Int)<=x1/\x1<(a.n:Int))then (c (a.g x1.toNat)).bind fun y3=>if y3 then some x1 else b (wrap .i64 (x1+1)) else none else some (-1)) 0
theorem O6 {a:Sl A1}{c:A1->Option Bool}{kp_f:Nat}(d:∀{a0:A1}{b:Bool},c a0=some b->FunO S kp_f [.p (.agg (A0 a0))] [] (pB b) [] []){y:Int}(h:D8 N a c=some y) :FunO S H0 [.p (vSl 2 A0 a),.clo kp_f [] []] [] (pN y) ([]) []:=by
 unfold D8 at h;refine A4 Z func123 ?_;refine Y8 Z Bs h (fun x1=>⟨[(8,pN x1),(7,pN (a.n:Int)),(1,.clo kp_f [] []),(0,.p (vSl 2 A0 a))],[]⟩) (ids:=[]) (fun _ _ _ _ _ f x1 g h=>?_);apply kI Z h<;>intro h
 .obtain⟨c8,h⟩:=H1 h;obtain⟨y3,e3,h⟩:=B6 h;refine B7 Z [] (And.intro c8 Dn) (d e3) ?_;apply kI Z h<;>intro h
  .cases h;exact kR Z
  exact g _ [] _ (wrap .i64 (x1+1)) Bs h
 cases h;exact kR Z
def B9 (N:Nat)(a:Sl A1)(b:A1->Option Bool):Option Bool:= (D8 N a b).bind fun y1=>some (decide (0<=y1))
theorem G2 {a:Sl A1}{c:A1->Option Bool}{kp_f:Nat}(d:∀{a0:A1}{b:Bool},c a0=some b->FunO S kp_f [.p (.agg (A0 a0))] [] (pB b) [] []){y:Bool}(h:B9 N a c=some y) :FunO S G1 [.p (vSl 2 A0 a),.clo kp_f [] []] [] (pB y) ([]) []:=by unfold B9 at h;refine A4 Z func104 ?_;refine kC Z h (O6 Z Y (fun e=>d e)) (fun y1 h=>?_);cases h;exact kR Z
def E5 (N:Nat)(q0:Sl Pat):Option (List (Int×Pat)):= BV N (fun a (x1:Int)=>if (decide (0<=x1)) then if ((0:Int)<=x1/\x1<(q0.n:Int))then HQ (x1,q0.g x1.toNat) (a (wrap .i64 (x1-1))) else none else some []) (wrap .i64 ((q0.n:Int)-1))
theorem R4 {q0:Sl Pat}{L:List (Int×Pat)}(h:E5 N q0=some L) :EI S D1 [] [.reg 0 0] [.cells [.p (vSl 7 C7 q0)]] (L.map (fun (x:Int×Pat)=>[pI .i64 x.1,(fun x=>.agg (C7 x)) x.2])):=by
 unfold E5 at h;refine Ft Z func142 ?_;refine Ge Z Bs h (fun x1 L1=>⟨[(3,pN x1),(1,.reg 0 0),(0,.yf 1)],[(1,.yld (L1.map (fun (x:Int×Pat)=>[pI .i64 x.1,(fun x=>.agg (C7 x)) x.2])) true),(0,.cells [.p (vSl 7 C7 q0)])]⟩) (ids:=[(0,0),(1,1)]) (fun _ _ _ _ _ d x1 L1 f h=>?_);apply kI Z h<;>intro h
 .obtain⟨c10,h⟩:=H1 h;obtain⟨L4,rfl,c⟩:=KC h;replace h:=c;refine Ci Z (And.intro c10 Ea) (ys:=(fun (x:Int×Pat)=>[pI .i64 x.1,(fun x=>.agg (C7 x)) x.2]) (x1,q0.g x1.toNat)) (rest:=L4.map (fun (x:Int×Pat)=>[pI .i64 x.1,(fun x=>.agg (C7 x)) x.2])) ?_ ?_
  .refine D7 Z Bs (b:=false) (fun c11=>?_) (fun c11=>?_)
   .exact Bool.noConfusion ((rfl:false=false).symm.trans c11)
   exact f _ [(0,0),(1,1)] _ (wrap .i64 (x1-1)) L4 Bs h
  refine D7 Z Bs (b:=true) (fun c12=>?_) (fun c12=>?_)
  .exact A6 Z Bs (a:=.tup []) (objs:=[(.cells [.p (vSl 7 C7 q0)]),.yld [] false]) ⟨[],[(1,.yld [] false),(0,.cells [.p (vSl 7 C7 q0)])]⟩ [0,1] (ids:=[(0,0),(1,1)]) ⟨false,rfl,rfl,_,rfl⟩
  exact Bool.noConfusion (Gf.symm.trans c12)
 obtain rfl:=C6 h;exact A6 Z Bs (a:=.tup []) (objs:=[(.cells [.p (vSl 7 C7 q0)]),.yld [] true]) ⟨[],[(1,.yld [] true),(0,.cells [.p (vSl 7 C7 q0)])]⟩ [0,1] (ids:=[(0,0),(1,1)]) ⟨true,rfl,rfl,_,rfl⟩
def F7 (N:Nat)(a:Sl Pat):Option (Sl Pat):= some a
theorem T3 {a:Sl Pat}{y:Sl Pat}(h:F7 N a=some y) :FunO S J1 [.p (vSl 7 C7 a)] [] (.clo D1 [] [.reg 0 0]) ([.cells [.p (vSl 7 C7 y)]]) []:=by unfold F7 at h;refine A4 Z func122 ?_;obtain rfl:=C6 h;exact A6 Z Bs ⟨[(2,.clo D1 [] [.reg 2000 0])],[(2000,.cells [.p (vSl 7 C7 a)])]⟩ [2000] (ids:=[(2000,2000)]) ⟨rfl,rfl,rfl⟩
def Z3 (N:Nat)(c:Pat):Option Int:= Eg N (fun a (x3:Sl Pat) (x4:Int)=>if (decide (0<(x3.n:Int))) then if (x4==40) then some 12 else if (((0:Int)<=(wrap .i64 ((x3.n:Int)-1))/\(wrap .i64 ((x3.n:Int)-1))<(x3.n:Int))/\(wrap .i64 ((x3.n:Int)-1)).toNat<x3.n)then if ((0:Int)<=(wrap .i64 ((x3.n:Int)-1))/\(wrap .i64 ((x3.n:Int)-1))<=(x3.n:Int))then (Bw N (x3.g (wrap .i64 ((x3.n:Int)-1)).toNat)).bind fun y5=>if (y5 != 0) then some y5 else if ((0:Int)<=(if 41<((x3.g (wrap .i64 ((x3.n:Int)-1)).toNat).L.n:Int)then 41 else ((x3.g (wrap .i64 ((x3.n:Int)-1)).toNat).L.n:Int))/\(if 41<((x3.g (wrap .i64 ((x3.n:Int)-1)).toNat).L.n:Int)then 41 else ((x3.g (wrap .i64 ((x3.n:Int)-1)).toNat).L.n:Int))<=((x3.g (wrap .i64 ((x3.n:Int)-1)).toNat).L.n:Int))then (F7 N ((x3.g (wrap .i64 ((x3.n:Int)-1)).toNat).L.take (if 41<((x3.g (wrap .i64 ((x3.n:Int)-1)).toNat).L.n:Int)then 41 else ((x3.g (wrap .i64 ((x3.n:Int)-1)).toNat).L.n:Int)).toNat)).bind fun y6=>(E5 N y6).bind fun L3=>Z8 L3 (fun b (x7:Int×Pat) (z3:Sl Pat)=>if ((((z3.n+(Sl.of [Pat.nil]:Sl Pat).n)*64<=140737488355328/\z3.n+(Sl.of [Pat.nil]:Sl Pat).n<=140737488355328)/\((0:Int)<=(z3.n:Int)/\(z3.n:Int)<((z3.push Pat.nil).n:Int)))/\(z3.n:Int).toNat<(z3.push Pat.nil).n)then b ((z3.push Pat.nil).upd (z3.n:Int).toNat x7.2) else none) (fun (z3:Sl Pat)=>a z3 (wrap .i64 (x4+1))) (x3.take (wrap .i64 ((x3.n:Int)-1)).toNat) else none else none else none else some 0) (Sl.of [c]:Sl Pat) 0
theorem Dw {b:Pat}{y:Int}(h:Z3 N b=some y) :FunO S GF [.p (.agg (C7 b))] [] (pN y) ([]) []:=by
 unfold Z3 at h;refine A4 Z func103 ?_;refine J0 Z Bs 2 2000 (C7 b) ?_;refine N4 Z (And.intro Ea Gf) h (fun x3 x4=>⟨[(4,pN x4),(3,.reg 4000 0)],[(4501,.vec Ds 7 x3.n (fun i=>C7 (x3.g i)) false),(4000,.cells [.vec 4501])]⟩) (ids:=[(4000,4000),(4501,12000)]) (fun _ _ _ _ _ d x3 x4 j h=>?_) (hle:=klR [(1,.fn 1 (Sl.of [b]:Sl Pat).n (B8 [pI .i64 0,pI .u32 0,pI .u32 0,.v (.bool false),pI .i64 0,pI .i64 0,E3] [(0,C7 b)]) (fun i=>C7 ((Sl.of [b]:Sl Pat).g i)))] (al1 ⟨rfl,(fun i m=>match i,m with|0,_=>rfl|_+1,m=>Ba m (by omega))⟩ al0));apply kI Z h<;>intro h
 .apply kI Z h<;>intro h
  .cases h;exact kR Z
  obtain⟨c21,h⟩:=H1 h;refine J0 Z (And.intro (And.intro c21.1 Ea) c21.2) 25 6000 (C7 (x3.g (wrap .i64 ((x3.n:Int)-1)).toNat)) ?_;obtain⟨c22,h⟩:=H1 h;refine Vn Z c22 30 4501 (wrap .i64 ((x3.n:Int)-1)).toNat 4508 (e:=Ds) (k:=7) (N:=x3.n) (f:=fun i=>C7 (x3.g i)) (by have r:=c22;omega) ?_;obtain⟨y5,e7,h⟩:=B6 h;refine B7 Z [] Ea (Jm Z Y e7) ?_;apply kI Z h<;>intro h
  .cases h;exact kR Z
  refine J5 Z Bs 39 ⟨[(38,.p (vSl 7 C7 (x3.g (wrap .i64 ((x3.n:Int)-1)).toNat).L)),(36,.p (vSl 7 C7 (x3.g (wrap .i64 ((x3.n:Int)-1)).toNat).L)),(4,pN x4),(3,.reg 4000 0)],[(4508,.vec Ds 7 (x3.take (wrap .i64 ((x3.n:Int)-1)).toNat).n (fun i=>C7 ((x3.take (wrap .i64 ((x3.n:Int)-1)).toNat).g i)) false),(4000,.cells [.vec 4508])]⟩ (ids:=[(4000,4000),(4508,4508)]) ?_ (hle:=klR [(0,.fn (x3.g (wrap .i64 ((x3.n:Int)-1)).toNat).L.n (x3.g (wrap .i64 ((x3.n:Int)-1)).toNat).L.n (Dd (x3.g (wrap .i64 ((x3.n:Int)-1)).toNat)) (fun i=>C7 ((x3.g (wrap .i64 ((x3.n:Int)-1)).toNat).L.g i))),(1,.fn (x3.g (wrap .i64 ((x3.n:Int)-1)).toNat).L.n (x3.g (wrap .i64 ((x3.n:Int)-1)).toNat).L.n (Dd (x3.g (wrap .i64 ((x3.n:Int)-1)).toNat)) (fun i=>C7 ((x3.g (wrap .i64 ((x3.n:Int)-1)).toNat).L.g i)))] (al1 ⟨rfl,Cl (x3.g (wrap .i64 ((x3.n:Int)-1)).toNat)⟩ (al1 ⟨rfl,Cl (x3.g (wrap .i64 ((x3.n:Int)-1)).toNat)⟩ al0)));obtain⟨c24,h⟩:=H1 h;obtain⟨y6,e8,h⟩:=B6 h;refine B7 Z [] c24 (T3 Z Y e8) ?_;obtain⟨L3,e9,h⟩:=B6 h;refine EL Z Bs [44000] [4,3] 905 (fun z3=>⟨[(4,pN x4),(3,.reg 4000 0)],[(4500,.vec Ds 7 z3.n (fun i=>C7 (z3.g i)) false),(4000,.cells [.vec 4500])]⟩) (idl:=[(4000,4000),(4500,4508)]) h (R4 Z Y e9) (fun _=>by kernel_rfl) (fun _=>by kernel_rfl) (fun _=>by kernel_rfl) (fun _=>by kernel_rfl) (fun x7 _ o z3 q h=>?_) (fun z3 h=>?_)
  .refine HS Z Bs ?_;refine Uc Z Bs 10000 (C7 x7.2) ?_;refine G8 Z Bs [(0,.l [4000]),(1,.n),(2,.l [4500]),(4,.a [51000,4500]),(5,.l [51000]),(6,.a [51000]),(7,.a [4000])] ?_;refine Bq Ea (x:=.sl true 7 1 (B8 [pI .i64 0,pI .u32 0,pI .u32 0,.v (.bool false),pI .i64 0,pI .i64 0,E3] [(0,[pI .i64 0,pI .u32 0,pI .u32 0,.v (.bool false),pI .i64 0,pI .i64 0,E3])])) ?_;obtain⟨c27,h⟩:=H1 h;refine K0 (And.intro (And.intro c27.1.1 c27.1.2) (And.intro (rfl:(7:Nat)=7) (And.intro c27.2 Ea))) ?_;exact q _ [(905,905),(4000,4000),(4500,51000)] _ ((z3.push Pat.nil).upd (z3.n:Int).toNat x7.2) Bs h (hle:=klR [(0,.fn (z3.n+1) ((z3.push Pat.nil).upd (z3.n:Int).toNat x7.2).n (fun l=>if l=(z3.n:Int).toNat then splice (V7 z3.n (fun i=>C7 (z3.g i)) (B8 [pI .i64 0,pI .u32 0,pI .u32 0,.v (.bool false),pI .i64 0,pI .i64 0,E3] [(0,[pI .i64 0,pI .u32 0,pI .u32 0,.v (.bool false),pI .i64 0,pI .i64 0,E3])]) l) 0 [pI .i64 x7.2.Kind,pI .u32 x7.2.Is.Plus,pI .u32 x7.2.Is.Minus,.bb x7.2.Not,pI .i64 x7.2.Min,pI .i64 x7.2.Max,.sl false 7 x7.2.L.n (Dd x7.2)]else (V7 z3.n (fun i=>C7 (z3.g i)) (B8 [pI .i64 0,pI .u32 0,pI .u32 0,.v (.bool false),pI .i64 0,pI .i64 0,E3] [(0,[pI .i64 0,pI .u32 0,pI .u32 0,.v (.bool false),pI .i64 0,pI .i64 0,E3])])) l) (fun i=>C7 (((z3.push Pat.nil).upd (z3.n:Int).toNat x7.2).g i)))] (al1 ⟨rfl,setH (c:=C7) (v:=z3.push Pat.nil) (x:=x7.2) (app1H (c:=C7) (v:=z3) (z:=Pat.nil) same rfl) (fun _=>by simp[V7,B8,splice])⟩ al0))
  exact j _ [(4000,4000),(4501,4500)] _ z3 (wrap .i64 (x4+1)) Bs h
 cases h;exact kR Z
def AA (N:Nat)(b:Pat)(a:Sl A1):Option ((Nat->Int)×Int):= (Z3 N b).bind fun y1=>if (y1 != 0) then some (fun _=>0,y1) else if (decide (32<(a.n:Int))) then some (fun _=>0,11) else (B9 N a (fun (u1:A1)=>AT N u1)).bind fun y2=>if y2 then some (fun _=>0,14) else (Bz N b).bind fun y3=>(Dv N y3 a).bind fun y4=>some (y4,0)
theorem FL {a:Pat}{b:Sl A1}{y:(Nat->Int)×Int}(h:AA N a b=some y) :FunO S FH [.p (.agg (C7 a)),.p (vSl 2 A0 b)] [] (.tup [.p (.agg (cA 33 (pI .u64) y.1)),pN y.2]) ([]) []:=by
 unfold AA at h;refine A4 Z func203 ?_;refine kC Z h (Dw Z Y) (fun y1 h=>?_);apply kI Z h<;>intro h
 .obtain rfl:=C6 h;exact A6 Z (And.intro rfl (D4 _ _):(0:Nat)=0/\(Z5 33 (fun i=>pI .u64 ((fun _=>0) i))).length=33) ⟨[(5,pN y1),(4,.reg 5000 0)],[(5000,.arr 33 (fun i=>pI .u64 ((fun _=>0) i)))]⟩ [] (ids:=[(5000,5000)]) ⟨rfl,rfl,rfl⟩ (hle:=klR [(1,.fn 33 33 (fun i=>[(fun i=>(cA 33 (pI .u64) (fun _=>0)).getD i default) i]) (fun i=>[pI .u64 ((fun _=>0) i)]))] (al1 ⟨rfl,D0 33 (fun i=>pI .u64 ((fun _=>0) i))⟩ al0))
 apply kI Z h<;>intro h
 .obtain rfl:=C6 h;exact A6 Z (And.intro rfl (D4 _ _):(0:Nat)=0/\(Z5 33 (fun i=>pI .u64 ((fun _=>0) i))).length=33) ⟨[(5,pN 11),(4,.reg 5000 0)],[(5000,.arr 33 (fun i=>pI .u64 ((fun _=>0) i)))]⟩ [] (ids:=[(5000,5000)]) ⟨rfl,rfl,rfl⟩ (hle:=klR [(1,.fn 33 33 (fun i=>[(fun i=>(cA 33 (pI .u64) (fun _=>0)).getD i default) i]) (fun i=>[pI .u64 ((fun _=>0) i)]))] (al1 ⟨rfl,D0 33 (fun i=>pI .u64 ((fun _=>0) i))⟩ al0))
 refine kC Z h (G2 Z Y (fun e=>IB Z Y e)) (fun y2 h=>?_);apply kI Z h<;>intro h
 .obtain rfl:=C6 h;exact A6 Z (And.intro rfl (D4 _ _):(0:Nat)=0/\(Z5 33 (fun i=>pI .u64 ((fun _=>0) i))).length=33) ⟨[(5,pN 14),(4,.reg 5000 0)],[(5000,.arr 33 (fun i=>pI .u64 ((fun _=>0) i)))]⟩ [] (ids:=[(5000,5000)]) ⟨rfl,rfl,rfl⟩ (hle:=klR [(1,.fn 33 33 (fun i=>[(fun i=>(cA 33 (pI .u64) (fun _=>0)).getD i default) i]) (fun i=>[pI .u64 ((fun _=>0) i)]))] (al1 ⟨rfl,D0 33 (fun i=>pI .u64 ((fun _=>0) i))⟩ al0))
 refine kC Z h (Jo Z Y) (fun y3 h=>?_);obtain⟨y4,e4,h⟩:=B6 h;refine Hf Z Bs (Rc Z Y e4) ?_;obtain rfl:=C6 h;exact A6 Z (And.intro rfl (D4 _ _):(0:Nat)=0/\(Z5 33 (fun i=>pI .u64 (y4 i))).length=33) ⟨[(5,pN 0),(4,.reg 5000 0)],[(5000,.arr 33 (fun i=>pI .u64 (y4 i)))]⟩ [] (ids:=[(5000,5000)]) ⟨rfl,rfl,rfl⟩ (hle:=klR [(1,.fn 33 33 (fun i=>[(fun i=>(cA 33 (pI .u64) y4).getD i default) i]) (fun i=>[pI .u64 (y4 i)]))] (al1 ⟨rfl,D0 33 (fun i=>pI .u64 (y4 i))⟩ al0))
def Cx (N:Nat)(d:Pat)(c:Sl A1)(a:Int):Option ((Sl Int)×Int):= (AA N d c).bind fun y1=>lt (fun (z1:Int)=>if (z1 != 0) then some (Gg,z1) else Eg N (fun b (x2:Sl Int) (x3:Int)=>if (decide (x3<(wrap .i64 ((c.n:Int)+1)))) then if ((((0:Int)<=x3/\x3<33)/\(0+x3.toNat*1)<33)/\(0:Int)<=a)then if ((N7 .and .u64 (shI .shr .u64 (y1.1 (0+x3.toNat*1)) a) 1)==1) then if ((x2.n+(Sl.of [x3]:Sl Int).n)*8<=140737488355328/\x2.n+(Sl.of [x3]:Sl Int).n<=140737488355328)then b (x2.push x3) (wrap .i64 (x3+1)) else none else b x2 (wrap .i64 (x3+1)) else none else some (x2,0)) Gg 0) fun k1=>if (y1.2==0) then (Az N c a).bind fun y3=>k1 y3 else k1 y1.2
theorem Lb {f:Pat}{d:Sl A1}{a:Int}{y:(Sl Int)×Int}(h:Cx N f d a=some y) :FunO S FG [.p (.agg (C7 f)),.p (vSl 2 A0 d),pN a] [] (.tup [.vec 0,pN y.2]) ([.vec C0 1 y.1.n (fun i=>cI .i64 (y.1.g i)) true]) []:=by
 unfold Cx at h;refine A4 Z func193 ?_;refine kC Z h (FL Z Y) (fun y1 h=>?_);refine Lm Z (And.intro rfl (D4 _ _):(0:Nat)=0/\(Z5 33 (fun i=>pI .u64 (y1.1 i))).length=33) (B2 Z) h 0 (fun z1=>⟨[(9,pN z1),(8,.reg 9000 0),(2,pN a),(1,.p (vSl 2 A0 d))],[(9000,.arr 33 (fun i=>pI .u64 (y1.1 i)))]⟩) (fun M1 k1 j h=>?_) (fun z1 h=>?_)
 .apply kI Z h<;>intro h
  .refine kC Z h (FK Z Y) (fun y3 h=>?_);exact j _ [(9000,9000)] _ y3 Bs h (hle:=klR [(3,.fn 33 33 (fun i=>[(fun i=>(cA 33 (pI .u64) y1.1).getD i default) i]) (fun i=>[pI .u64 (y1.1 i)]))] (al1 ⟨rfl,D0 33 (fun i=>pI .u64 (y1.1 i))⟩ al0))
  exact j _ [(9000,9000)] _ y1.2 Bs h (hle:=klR [(3,.fn 33 33 (fun i=>[(fun i=>(cA 33 (pI .u64) y1.1).getD i default) i]) (fun i=>[pI .u64 (y1.1 i)]))] (al1 ⟨rfl,D0 33 (fun i=>pI .u64 (y1.1 i))⟩ al0))
 apply kI Z h<;>intro h
 .obtain rfl:=C6 h;exact A6 Z Bs ⟨[(7,pN z1),(6,.vec 7700)],[(7700,.vec C0 1 Gg.n (fun i=>cI .i64 (Gg.g i)) true)]⟩ [7700] (ids:=[]) ⟨rfl,rfl,rfl⟩
 refine N4 Z Bs h (fun x2 x3=>⟨[(29,pN x3),(28,pN (wrap .i64 ((d.n:Int)+1))),(10,.vec 11500),(8,.reg 9000 0),(2,pN a)],[(11500,.vec C0 1 x2.n (fun i=>cI .i64 (x2.g i)) false),(9000,.arr 33 (fun i=>pI .u64 (y1.1 i)))]⟩) (ids:=[(9000,9000)]) (fun _ _ _ _ _ m x2 x3 l h=>?_);apply kI Z h<;>intro h
 .obtain⟨c12,h⟩:=H1 h;refine D7 Z c12 (b:=(N7 .and .u64 (shI .shr .u64 (y1.1 (0+x3.toNat*1)) a) 1)==1) (fun c13=>?_) (fun c13=>?_)
  .replace h:=itT c13 h;obtain⟨c14,h⟩:=H1 h;exact l _ [(9000,9000),(11500,43000)] _ (x2.push x3) (wrap .i64 (x3+1)) (And.intro Gf c14) h (hle:=klR [(3,.fn (x2.n+1) (x2.push x3).n (V7 x2.n (fun i=>cI .i64 (x2.g i)) (B8 [pI .i64 0] [(0,cI .i64 x3)])) (fun i=>cI .i64 ((x2.push x3).g i)))] (al1 ⟨rfl,MI (c:=cI .i64) (v:=x2) (x:=x3) (z:=[(pI .i64 0)]) same rfl rfl⟩ al0))
  replace h:=itF c13 h;exact l _ [(9000,9000),(11500,11500)] _ x2 (wrap .i64 (x3+1)) Bs h
 obtain rfl:=C6 h;exact A6 Z Bs ⟨[(7,pN 0),(6,.vec 11500)],[(11500,.vec C0 1 x2.n (fun i=>cI .i64 (x2.g i)) true)]⟩ [11500] (ids:=[(11500,11500)]) ⟨rfl,rfl,rfl⟩
def H8 (N:Nat)(a:List (Int)):Option (Sl Int):= Z8 a (fun b (x1:Int) (z1:Sl Int)=>if ((z1.n+(Sl.of [x1]:Sl Int).n)*8<=140737488355328/\z1.n+(Sl.of [x1]:Sl Int).n<=140737488355328)then b (z1.push x1) else none) (fun (z1:Sl Int)=>some z1) Gg
theorem Z4 {b:List (Int)}{a:Int}{kp_seq:Nat}(fp_seq:∃fn,VY[kp_seq]? = some fn/\fn.body.isSome=true/\(fn.name == "runtime.NumGoroutine")=false)(d:EI S kp_seq [] [.reg 0 0] [(.cells [(.p (pI .u64 a))])] (b.map (fun (x:Int)=>[(pI .i64) x]))){y:(Sl Int)}(h:H8 N b=some y) :FunO S N8 [(.p E3),(.clo kp_seq [] [(.reg 0 0)])] [(.cells [(.p (pI .u64 a))])] (.vec 0) ([(.vec C0 1 y.n (fun i=>(cI .i64) (y.g i)) true)]) [false]:=by
 unfold H8 at h;refine A4 Z func209 ?_;refine OF Z Bs fp_seq [0] [2] 901 (fun z1=>⟨[(2,(.reg 3000 0))],[(3500,(.vec C0 1 z1.n (fun i=>(cI .i64) (z1.g i)) false)),(3000,(.cells [(.vec 3500)]))]⟩) (idl:=[(3000,3000)]) h d (fun _=>by kernel_rfl) (fun _=>by kernel_rfl) (fun _=>by kernel_rfl) (fun _=>by kernel_rfl) (fun x1 _ f z1 j h=>?_) (fun z1 h=>?_)
 .refine HS Z Bs ?_;obtain⟨c1,h⟩:=H1 h;exact j _ [(901,901),(3000,3000),(3500,12000)] _ (z1.push x1) (And.intro Gf c1) h (hle:=klR [(0,.fn (z1.n+1) (z1.push x1).n (V7 z1.n (fun i=>(cI .i64) (z1.g i)) (B8 [(pI .i64 0)] [(0,(cI .i64) x1)])) (fun i=>(cI .i64) ((z1.push x1).g i)))] (al1 ⟨rfl,(MI (c:=(cI .i64)) (v:=z1) (x:=x1) (z:=[(pI .i64 0)]) same rfl rfl)⟩ al0))
 obtain rfl:=C6 h;exact A6 Z Bs ⟨[(4,(.vec 3500))],[(3500,(.vec C0 1 z1.n (fun i=>(cI .i64) (z1.g i)) true))]⟩ [3500] (ids:=[(3500,3500)]) ⟨rfl,rfl,rfl⟩
def Q2 (N:Nat)(a:List (Int)):Option (Sl Int):= (H8 N a).bind fun y1=>some y1
theorem Dx {b:List (Int)}{a:Int}{kp_seq:Nat}(fp_seq:∃fn,VY[kp_seq]? = some fn/\fn.body.isSome=true/\(fn.name == "runtime.NumGoroutine")=false)(c:EI S kp_seq [] [.reg 0 0] [(.cells [(.p (pI .u64 a))])] (b.map (fun (x:Int)=>[(pI .i64) x]))){y:(Sl Int)}(h:Q2 N b=some y) :FunO S At [(.clo kp_seq [] [(.reg 0 0)])] [(.cells [(.p (pI .u64 a))])] (.vec 0) ([(.vec C0 1 y.n (fun i=>(cI .i64) (y.g i)) true)]) [false]:=by unfold Q2 at h;refine A4 Z func205 ?_;obtain⟨y1,e1,h⟩:=B6 h;refine B7 Z [0] Bs (Z4 Z Y fp_seq c e1) ?_;obtain rfl:=C6 h;exact A6 Z Bs ⟨[(2,(.vec 5000))],[(5000,(.vec C0 1 y1.n (fun i=>(cI .i64) (y1.g i)) true))]⟩ [5000] (ids:=[(5000,5000)]) ⟨rfl,rfl,rfl⟩
def EM (N:Nat)(c:Pat)(b:Sl A1)(a:Int):Option ((Sl Int)×Int):= (AA N c b).bind fun y1=>lt (fun (z1:Int)=>if (z1 != 0) then some (Gg,z1) else if (((0:Int)<=a/\a<33)/\(0+a.toNat*1)<33)then (T2 N (y1.1 (0+a.toNat*1))).bind fun y4=>(N9 N y4).bind fun L1=>(Q2 N L1).bind fun y5=>some (y5,0) else none) fun k1=>if (y1.2==0) then (Az N b a).bind fun y3=>k1 y3 else k1 y1.2
theorem NJ {b:Pat}{c:Sl A1}{a:Int}{y:(Sl Int)×Int}(h:EM N b c a=some y) :FunO S Io [.p (.agg (C7 b)),.p (vSl 2 A0 c),pN a] [] (.tup [.vec 0,pN y.2]) ([.vec C0 1 y.1.n (fun i=>cI .i64 (y.1.g i)) true]) []:=by
 unfold EM at h;refine A4 Z func194 ?_;refine kC Z h (FL Z Y) (fun y1 h=>?_);refine Lm Z (And.intro rfl (D4 _ _):(0:Nat)=0/\(Z5 33 (fun i=>pI .u64 (y1.1 i))).length=33) (B2 Z) h 0 (fun z1=>⟨[(9,pN z1),(8,.reg 9000 0),(2,pN a)],[(9000,.arr 33 (fun i=>pI .u64 (y1.1 i)))]⟩) (fun M1 k1 d h=>?_) (fun z1 h=>?_)
 .apply kI Z h<;>intro h
  .refine kC Z h (FK Z Y) (fun y3 h=>?_);exact d _ [(9000,9000)] _ y3 Bs h (hle:=klR [(2,.fn 33 33 (fun i=>[(fun i=>(cA 33 (pI .u64) y1.1).getD i default) i]) (fun i=>[pI .u64 (y1.1 i)]))] (al1 ⟨rfl,D0 33 (fun i=>pI .u64 (y1.1 i))⟩ al0))
  exact d _ [(9000,9000)] _ y1.2 Bs h (hle:=klR [(2,.fn 33 33 (fun i=>[(fun i=>(cA 33 (pI .u64) y1.1).getD i default) i]) (fun i=>[pI .u64 (y1.1 i)]))] (al1 ⟨rfl,D0 33 (fun i=>pI .u64 (y1.1 i))⟩ al0))
 apply kI Z h<;>intro h
 .obtain rfl:=C6 h;exact A6 Z Bs ⟨[(7,pN z1),(6,.vec 7700)],[(7700,.vec C0 1 Gg.n (fun i=>cI .i64 (Gg.g i)) true)]⟩ [7700] (ids:=[]) ⟨rfl,rfl,rfl⟩
 obtain⟨c5,h⟩:=H1 h;obtain⟨y4,e4,h⟩:=B6 h;refine B7 Z [] c5 (Bx Z Y e4) ?_;obtain⟨L1,e5,h⟩:=B6 h;obtain⟨y5,e6,h⟩:=B6 h;refine B7 Z [28000] Bs (Dx Z Y ⟨_,func210,by decide +kernel,by decide +kernel⟩ (Aa Z Y e5) e6) ?_;obtain rfl:=C6 h;exact A6 Z Bs ⟨[(7,pN 0),(6,.vec 29000)],[(29000,.vec C0 1 y5.n (fun i=>cI .i64 (y5.g i)) true)]⟩ [29000] (ids:=[(29000,29000)]) ⟨rfl,rfl,rfl⟩
end Go.AM
namespace Go.AM
open Go.Proofs.Tryz
variable {N:Nat}
open IntKind (wrap)
open Go.Proofs
set_option maxRecDepth 10000
set_option maxHeartbeats 2000000
variable {S:O7}(Z:E7 S Tryz.prog) (Y:GK S)
include Z Y
def EN (N:Nat)(a:Str):Option Bool:= lt (fun (z1:Bool)=>some z1) fun k1=>if ((a==[]) != true) then if (decide ((a.length:Int)<=24)) then (Eu N a [97,98,99,100,101,102,103,104,105,106,107,108,109,110,111,112,113,114,115,116,117,118,119,120,121,122,65,66,67,68,69,70,71,72,73,74,75,76,77,78,79,80,81,82,83,84,85,86,87,88,89,90,48,49,50,51,52,53,54,55,56,57,45]).bind fun y2=>k1 ((y2==[]) != false) else k1 false else k1 false
theorem NK {b:Str}{y:Bool}(h:EN N b=some y) :FunO S Ii [.p (.str b)] [] (pB y) ([]) []:=by
 unfold EN at h;refine A4 Z func102 ?_;refine Lm Z Bs (B2 Z) h 0 (fun z1=>⟨[(2,pB z1)],[]⟩) (fun M1 k1 a h=>?_) (fun z1 h=>?_)
 .refine kG Z h (fun h=>?_) (fun h=>?_)
  .refine kG Z h (fun h=>?_) (fun h=>?_)
   .refine kC Z h (Jk Z Y) (fun y2 h=>?_);exact a _ [] _ ((y2==[]) != false) Bs h
   exact a _ [] _ false Bs h
  exact a _ [] _ false Bs h
 cases h;exact kR Z
def DM (N:Nat)(p_x:P5)(a:Int):Option Bool:= lt (fun (z1:Bool)=>if z1 then some false else if ((((N7 .andNot .u32 (N7 .or .u32 p_x.Clear p_x.Take) 16777215) != 0)||((N7 .and .u32 p_x.Clear (N7 .or .u32 p_x.Set.Plus p_x.Set.Minus)) != 0))||((N7 .and .u32 p_x.Take (N7 .or .u32 (N7 .or .u32 p_x.Set.Plus p_x.Set.Minus) p_x.Clear)) != 0)) then some false else if (p_x.Take==0) then some (p_x.Of==0) else some ((decide (0<=p_x.Of))&&(decide (p_x.Of<a)))) fun k1=>if (decide (p_x.From<(-1))) then k1 true else if (decide (a<=p_x.From)) then k1 true else (H5 N p_x.Set).bind fun y2=>k1 (!y2)
theorem PG {p_x:P5}{b:Int}{y:Bool}(h:DM N p_x b=some y) :FunO S JX [.p (.agg (K3 p_x)),pN b] [] (pB y) ([]) []:=by
 unfold DM at h;refine A4 Z func99 ?_;refine Lm Z Bs (B2 Z) h 0 (fun z1=>⟨[(13,pB z1),(5,pU (N7 .or .u32 p_x.Set.Plus p_x.Set.Minus)),(2,.reg 3000 0),(1,pN b)],[(3000,.cells ((K3 p_x).map .p))]⟩) (fun M1 k1 c h=>?_) (fun z1 h=>?_)
 .refine kG Z h (fun h=>?_) (fun h=>?_)
  .exact c _ [(3000,3000)] _ true Bs h
  refine kG Z h (fun h=>?_) (fun h=>?_)
  .exact c _ [(3000,3000)] _ true Bs h
  refine kC Z h (K7 Z Y) (fun y2 h=>?_);exact c _ [(3000,3000)] _ (!y2) Bs h
 apply kI Z h<;>intro h
 .cases h;exact kR Z
 refine kB Z (B2 Z) Bs Bs 16 (.o (.o (.a ((N7 .andNot .u32 (N7 .or .u32 p_x.Clear p_x.Take) 16777215) != 0)) (.a ((N7 .and .u32 p_x.Clear (N7 .or .u32 p_x.Set.Plus p_x.Set.Minus)) != 0))) (.a ((N7 .and .u32 p_x.Take (N7 .or .u32 (N7 .or .u32 p_x.Set.Plus p_x.Set.Minus) p_x.Clear)) != 0))) ?_;apply kI Z h<;>intro h
 .cases h;exact kR Z
 apply kI Z h<;>intro h
 .cases h;exact kR Z
 refine kB Z (B2 Z) Bs Bs 5 (.n (.a (decide (0<=p_x.Of))) (.a (decide (p_x.Of<b)))) ?_;cases h;exact kR Z
def Cy (N:Nat)(p_x:P5)(q0:Int):Option Bool:= (DM N p_x q0).bind fun y1=>some (!y1)
theorem Lc {p_x:P5}{q0:Int}{y:Bool}(h:Cy N p_x q0=some y) :FunO S FB [.p (.agg (K3 p_x)),.reg 0 0] [.cells [pN q0]] (pB y) ([.cells [pN q0]]) [true]:=by unfold Cy at h;refine A4 Z func98 ?_;refine kC Z h (PG Z Y) (fun y1 h=>?_);obtain rfl:=C6 h;exact A6 Z Bs ⟨[(3,pB (!y1))],[(0,.cells [pN q0])]⟩ [0] (ids:=[(0,0)]) ⟨rfl,rfl,rfl⟩
def Cz (N:Nat)(a:A1):Option Bool:= (H5 N a).bind fun y1=>some (!y1)
theorem Ld {a:A1}{y:Bool}(h:Cz N a=some y) :FunO S FC [.p (.agg (A0 a))] [] (pB y) ([]) []:=by unfold Cz at h;refine A4 Z func100 ?_;refine kC Z h (K7 Z Y) (fun y1 h=>?_);cases h;exact kR Z
def F1 (N:Nat)(a:Sl P5)(c:P5->Option Bool):Option Int:= BV N (fun b (x1:Int)=>if (decide (x1<(a.n:Int))) then if ((0:Int)<=x1/\x1<(a.n:Int))then (c (a.g x1.toNat)).bind fun y3=>if y3 then some x1 else b (wrap .i64 (x1+1)) else none else some (-1)) 0
theorem S2 {c:Sl P5}{d:P5->Option Bool}{a:Int}{kp_f:Nat}(f:∀{a0:P5}{b:Bool},d a0=some b->FunO S kp_f [.p (.agg (K3 a0)),.reg 0 0] [.cells [pN a]] (pB b) [.cells [pN a]] [true]){y:Int}(h:F1 N c d=some y) :FunO S I6 [.p (vSl 6 K3 c),.clo kp_f [] [.reg 0 0]] [.cells [pN a]] (pN y) ([.cells [pN a]]) [true]:=by
 unfold F1 at h;refine A4 Z func124 ?_;refine Y8 Z Bs h (fun x1=>⟨[(8,pN x1),(7,pN (c.n:Int)),(1,.clo kp_f [] [.reg 0 0]),(0,.p (vSl 6 K3 c))],[(0,.cells [pN a])]⟩) (ids:=[(0,0)]) (fun _ _ _ _ _ g x1 i h=>?_);apply kI Z h<;>intro h
 .obtain⟨c8,h⟩:=H1 h;obtain⟨y3,e3,h⟩:=B6 h;refine B7 Z [0] (And.intro c8 (by decide:(6:Nat)<=6)) (f e3) ?_;apply kI Z h<;>intro h
  .obtain rfl:=C6 h;exact A6 Z Bs ⟨[(4,pN x1)],[(0,.cells [pN a])]⟩ [0] (ids:=[(0,0)]) ⟨rfl,rfl,rfl⟩
  exact i _ [(0,0)] _ (wrap .i64 (x1+1)) Bs h
 obtain rfl:=C6 h;exact A6 Z Bs ⟨[(4,pN (-1))],[(0,.cells [pN a])]⟩ [0] (ids:=[(0,0)]) ⟨rfl,rfl,rfl⟩
def D9 (N:Nat)(a:Sl P5)(b:P5->Option Bool):Option Bool:= (F1 N a b).bind fun y1=>some (decide (0<=y1))
theorem P3 {c:Sl P5}{d:P5->Option Bool}{a:Int}{kp_f:Nat}(f:∀{a0:P5}{b:Bool},d a0=some b->FunO S kp_f [.p (.agg (K3 a0)),.reg 0 0] [.cells [pN a]] (pB b) [.cells [pN a]] [true]){y:Bool}(h:D9 N c d=some y) :FunO S H2 [.p (vSl 6 K3 c),.clo kp_f [] [.reg 0 0]] [.cells [pN a]] (pB y) ([.cells [pN a]]) [true]:=by unfold D9 at h;refine A4 Z func105 ?_;obtain⟨y1,e1,h⟩:=B6 h;refine B7 Z [0] Bs (S2 Z Y (fun e=>f e) e1) ?_;obtain rfl:=C6 h;exact A6 Z Bs ⟨[(4,pB (decide (0<=y1)))],[(0,.cells [pN a])]⟩ [0] (ids:=[(0,0)]) ⟨rfl,rfl,rfl⟩
def AU (N:Nat)(a:Law):Option Int:= (EN N a.Name).bind fun y1=>if (!y1) then some 17 else (Z3 N a.Left).bind fun y2=>if (y2 != 0) then some 17 else (Z3 N a.Right).bind fun y3=>if (y3 != 0) then some 17 else if (decide (4<(a.If.n:Int))) then some 17 else if (decide (6<(a.Out.n:Int))) then some 17 else if ((wrap .i64 ((a.If.n:Int)+(a.Out.n:Int)))==0) then some 17 else if ((decide (a.Mode<1))||(decide (3<a.Mode))) then some 17 else (B9 N a.If (fun (u1:A1)=>Cz N u1)).bind fun y4=>if y4 then some 17 else (D9 N a.Out (fun (u2:P5)=>Cy N u2 (a.If.n:Int))).bind fun y5=>if y5 then some 17 else some 0
theorem EO {c:Law}{y:Int}(h:AU N c=some y) :FunO S Ie [.p (.agg (A8 c))] [] (pN y) ([]) []:=by
 unfold AU at h;refine A4 Z func76 ?_;refine kC Z h (NK Z Y) (fun y1 h=>?_);refine D7 Z Bs (b:=!y1) (fun c1=>?_) (fun c1=>?_)
 .replace h:=itT c1 h;refine D7 Z Bs (b:=!y1) (fun c2=>?_) (fun c2=>?_)
  .cases h;exact kR Z
  exact Bool.noConfusion (c1.symm.trans c2)
 replace h:=itF c1 h;refine kC Z h (Dw Z Y) (fun y2 h=>?_);refine D7 Z Bs (b:=y2 != 0) (fun c3=>?_) (fun c3=>?_)
 .replace h:=itT c3 h;refine D7 Z Bs (b:=y2 != 0) (fun c4=>?_) (fun c4=>?_)
  .cases h;exact kR Z
  exact Bool.noConfusion (c3.symm.trans c4)
 replace h:=itF c3 h;refine kC Z h (Dw Z Y) (fun y3 h=>?_);refine D7 Z Bs (b:=y3 != 0) (fun c5=>?_) (fun c5=>?_)
 .replace h:=itT c5 h;refine D7 Z Bs (b:=y3 != 0) (fun c6=>?_) (fun c6=>?_)
  .cases h;exact kR Z
  exact Bool.noConfusion (c5.symm.trans c6)
 replace h:=itF c5 h;refine D7 Z Bs (b:=decide (4<(c.If.n:Int))) (fun c7=>?_) (fun c7=>?_)
 .replace h:=itT c7 h;refine D7 Z Bs (b:=decide (4<(c.If.n:Int))) (fun c8=>?_) (fun c8=>?_)
  .cases h;exact kR Z
  exact Bool.noConfusion (c7.symm.trans c8)
 replace h:=itF c7 h;refine D7 Z Bs (b:=decide (6<(c.Out.n:Int))) (fun c9=>?_) (fun c9=>?_)
 .replace h:=itT c9 h;refine D7 Z Bs (b:=decide (6<(c.Out.n:Int))) (fun c10=>?_) (fun c10=>?_)
  .cases h;exact kR Z
  exact Bool.noConfusion (c9.symm.trans c10)
 replace h:=itF c9 h;refine D7 Z Bs (b:=(wrap .i64 ((c.If.n:Int)+(c.Out.n:Int)))==0) (fun c11=>?_) (fun c11=>?_)
 .replace h:=itT c11 h;refine D7 Z Bs (b:=(wrap .i64 ((c.If.n:Int)+(c.Out.n:Int)))==0) (fun c12=>?_) (fun c12=>?_)
  .cases h;exact kR Z
  exact Bool.noConfusion (c11.symm.trans c12)
 replace h:=itF c11 h;refine kB Z (B2 Z) Bs Bs 4 (.o (.a (decide (c.Mode<1))) (.a (decide (3<c.Mode)))) ?_;refine D7 Z Bs (b:=(decide (c.Mode<1))||(decide (3<c.Mode))) (fun c13=>?_) (fun c13=>?_)
 .replace h:=itT c13 h;refine D7 Z Bs (b:=(decide (c.Mode<1))||(decide (3<c.Mode))) (fun c14=>?_) (fun c14=>?_)
  .cases h;exact kR Z
  exact Bool.noConfusion (c13.symm.trans c14)
 replace h:=itF c13 h;refine kC Z h (G2 Z Y (fun e=>Ld Z Y e)) (fun y4 h=>?_);refine D7 Z Bs (b:=y4) (fun c15=>?_) (fun c15=>?_)
 .replace h:=itT c15 h;refine D7 Z Bs (b:=y4) (fun c16=>?_) (fun c16=>?_)
  .cases h;exact kR Z
  exact Bool.noConfusion (c15.symm.trans c16)
 replace h:=itF c15 h;obtain⟨y5,e5,h⟩:=B6 h;refine B7 Z [4000] Bs (P3 Z Y (fun e=>Lc Z Y e) e5) ?_;apply kI Z h<;>intro h
 .cases h;exact kR Z
 cases h;exact kR Z
def EP (N:Nat)(a:Law)(b:Sl A1):Option Int:= (AU N a).bind fun y1=>if (y1 != 0) then some y1 else (K8 N b).bind fun y2=>some y2
theorem NL {a:Law}{b:Sl A1}{y:Int}(h:EP N a b=some y) :FunO S Im [.p (.agg (A8 a)),.p (vSl 2 A0 b)] [] (pN y) ([]) []:=by
 unfold EP at h;refine A4 Z func160 ?_;refine kC Z h (EO Z Y) (fun y1 h=>?_);apply kI Z h<;>intro h
 .cases h;exact kR Z
 refine kC Z h (Bh Z Y) (fun y2 h=>?_);cases h;exact kR Z
def BA (N:Nat)(a:Int)(q0:Law)(q1:Sl A1):Option Bool:= (Cx N q0.Left q1 a).bind fun y1=>if ((y1.1.n:Int)==0) then some false else (EM N q0.Right q1 (wrap .i64 (a+(q0.If.n:Int)))).bind fun y2=>some (decide (0<(y2.1.n:Int)))
theorem Jp {a:Int}{q0:Law}{q1:Sl A1}{y:Bool}(h:BA N a q0 q1=some y) :FunO S O0 [pN a,.reg 0 0,.reg 1 0] [.cells ((A8 q0).map .p),.cells [.p (vSl 2 A0 q1)]] (pB y) ([.cells ((A8 q0).map .p),.cells [.p (vSl 2 A0 q1)]]) [true,true]:=by
 unfold BA at h;refine A4 Z func192 ?_;refine kC Z h (Lb Z Y) (fun y1 h=>?_);apply kI Z h<;>intro h
 .obtain rfl:=C6 h;exact A6 Z Bs ⟨[(4,pB false)],[(1,.cells [.p (vSl 2 A0 q1)]),(0,.cells ((A8 q0).map .p))]⟩ [0,1] (ids:=[(0,0),(1,1)]) ⟨rfl,rfl,rfl⟩
 refine kC Z h (NJ Z Y) (fun y2 h=>?_);obtain rfl:=C6 h;exact A6 Z Bs ⟨[(4,pB (decide (0<(y2.1.n:Int))))],[(1,.cells [.p (vSl 2 A0 q1)]),(0,.cells ((A8 q0).map .p))]⟩ [0,1] (ids:=[(0,0),(1,1)]) ⟨rfl,rfl,rfl⟩
def Dy (N:Nat)(a:Law)(b:Sl A1):Option (Law×(Sl A1)):= some (a,b)
theorem Mz {a:Law}{b:Sl A1}{y:Law×(Sl A1)}(h:Dy N a b=some y) :FunO S GI [.p (.agg (A8 a)),.p (vSl 2 A0 b)] [] (.clo O0 [] [.reg 0 0,.reg 1 0]) ([.cells ((A8 y.1).map .p),.cells [.p (vSl 2 A0 y.2)]]) []:=by unfold Dy at h;refine A4 Z func182 ?_;obtain rfl:=C6 h;exact A6 Z Bs ⟨[(4,.clo O0 [] [.reg 3000 0,.reg 4000 0])],[(4000,.cells [.p (vSl 2 A0 b)]),(3000,.cells ((A8 a).map .p))]⟩ [3000,4000] (ids:=[(3000,3000),(4000,4000)]) ⟨rfl,rfl,rfl⟩
def FM (N:Nat)(a:Law)(b:Sl A1):Option (Sl A1):= Eg N (fun c (x1:Sl A1) (x2:Int)=>if (decide (x2<(a.Out.n:Int))) then if ((0:Int)<=x2/\x2<(a.Out.n:Int))then if ((decide (0<=(a.Out.g x2.toNat).From))=true->((0:Int)<=(a.Out.g x2.toNat).From/\(a.Out.g x2.toNat).From<(b.n:Int)))then (Bv N (⟨(if (decide (0<=(a.Out.g x2.toNat).From)) then (b.g (a.Out.g x2.toNat).From.toNat).Plus else 0),(if (decide (0<=(a.Out.g x2.toNat).From)) then (b.g (a.Out.g x2.toNat).From.toNat).Minus else 0)⟩:A1) (a.Out.g x2.toNat).Clear (a.Out.g x2.toNat).Set).bind fun y5=>if ((a.Out.g x2.toNat).Take != 0) then if ((0:Int)<=(a.Out.g x2.toNat).Of/\(a.Out.g x2.toNat).Of<(b.n:Int))then (Dt N y5.1 (b.g (a.Out.g x2.toNat).Of.toNat) (a.Out.g x2.toNat).Take).bind fun y6=>if ((x1.n+(Sl.of [y6.1]:Sl A1).n)*8<=140737488355328/\x1.n+(Sl.of [y6.1]:Sl A1).n<=140737488355328)then c (x1.push y6.1) (wrap .i64 (x2+1)) else none else none else if ((x1.n+(Sl.of [y5.1]:Sl A1).n)*8<=140737488355328/\x1.n+(Sl.of [y5.1]:Sl A1).n<=140737488355328)then c (x1.push y5.1) (wrap .i64 (x2+1)) else none else none else none else some x1) (Sl.nil:Sl A1) 0
theorem MA {d:Law}{a:Sl A1}{y:Sl A1}(h:FM N d a=some y) :FunO S Mr [.p (.agg (A8 d)),.p (vSl 2 A0 a)] [] (.p (vSl 2 A0 y)) ([]) []:=by
 unfold FM at h;refine A4 Z func172 ?_;refine J0 Z Bs 4 3000 (A8 d) ?_;refine N4 Z Bs h (fun x1 x2=>⟨[(12,pN x2),(11,pN (d.Out.n:Int)),(10,.p (vSl 6 K3 d.Out)),(5,.vec 6500),(1,.p (vSl 2 A0 a))],[(6500,.vec B3 2 x1.n (fun i=>A0 (x1.g i)) false)]⟩) (ids:=[]) (fun _ _ _ _ _ o x1 x2 l h=>?_);apply kI Z h<;>intro h
 .obtain⟨c16,h⟩:=H1 h;refine J0 Z (And.intro c16 (by decide:(6:Nat)<=6)) 8 8000 (K3 (d.Out.g x2.toNat)) ?_;obtain⟨c18,h⟩:=H1 h;obtain⟨t5,f⟩:∃x:Int,x=(if (decide (0<=(d.Out.g x2.toNat).From)) then (a.g (d.Out.g x2.toNat).From.toNat).Plus else 0):=⟨_,rfl⟩;obtain⟨t6,j⟩:∃x:Int,x=(if (decide (0<=(d.Out.g x2.toNat).From)) then (a.g (d.Out.g x2.toNat).From.toNat).Minus else 0):=⟨_,rfl⟩;refine Py Z Bs (B2 Z) 0 ⟨[(12,pN x2),(11,pN (d.Out.n:Int)),(10,.p (vSl 6 K3 d.Out)),(8,.reg 9000 0),(7,.p (.ptr (K3 (d.Out.g x2.toNat)))),(5,.vec 6500),(1,.p (vSl 2 A0 a))],[(9000,.cells [pU t5,pU t6]),(6500,.vec B3 2 x1.n (fun i=>A0 (x1.g i)) false)]⟩ (fun M3 m=>?_) ?_
  .refine D7 Z Bs (b:=decide (0<=(d.Out.g x2.toNat).From)) (fun c19=>?_) (fun c19=>?_)
   .exact m _ [(6500,6500),(9000,9000)] _ (And.intro (c18 c19) Dn) (hle:=klR [(5,.eq (pI .u32 (a.g (d.Out.g x2.toNat).From.toNat).Plus) (pI .u32 t5)),(6,.eq (pI .u32 (a.g (d.Out.g x2.toNat).From.toNat).Minus) (pI .u32 t6))] (al1 (by simp only[f,j,c19,Leaf.ok,pm,Be,Br]) (al1 (by simp only[f,j,c19,Leaf.ok,pm,Be,Br]) al0)))
   exact m _ [(6500,6500),(9000,9000)] _ Bs (hle:=klR [(5,.eq (pI .u32 0) (pI .u32 t5)),(6,.eq (pI .u32 0) (pI .u32 t6))] (al1 (by simp only[f,j,c19,Leaf.ok,pm,Be,Br]) (al1 (by simp only[f,j,c19,Leaf.ok,pm,Be,Br]) al0)))
  subst j;subst f;obtain⟨y5,e5,h⟩:=B6 h;refine B7 Z [] (by decide:(2:Nat)<=4) (Jl Z Y e5) ?_;apply kI Z h<;>intro h
  .refine I8 Z Bs [3,4,5,7,8] ?_;obtain⟨c21,h⟩:=H1 h;obtain⟨y6,e6,h⟩:=B6 h;refine Y9 (And.intro c21 Dn) (Mw Z Y e6) ?_;refine K0 Bs ?_;obtain⟨c22,h⟩:=H1 h;exact l _ [(6500,52000)] _ (x1.push y6.1) (wrap .i64 (x2+1)) (And.intro Gf c22) h (hle:=klR [(4,.fn (x1.n+1) (x1.push y6.1).n (V7 x1.n (fun i=>A0 (x1.g i)) (B8 [pI .u32 0,pI .u32 0] [(0,A0 y6.1)])) (fun i=>A0 ((x1.push y6.1).g i)))] (al1 ⟨rfl,MI (c:=A0) (v:=x1) (x:=y6.1) (z:=[(pI .u32 0),pI .u32 0]) same rfl rfl⟩ al0))
  obtain⟨c23,h⟩:=H1 h;exact l _ [(6500,52000)] _ (x1.push y5.1) (wrap .i64 (x2+1)) (And.intro Gf c23) h (hle:=klR [(4,.fn (x1.n+1) (x1.push y5.1).n (V7 x1.n (fun i=>A0 (x1.g i)) (B8 [pI .u32 0,pI .u32 0] [(0,A0 y5.1)])) (fun i=>A0 ((x1.push y5.1).g i)))] (al1 ⟨rfl,MI (c:=A0) (v:=x1) (x:=y5.1) (z:=[(pI .u32 0),pI .u32 0]) same rfl rfl⟩ al0))
 obtain rfl:=C6 h;exact A6 Z Bs ⟨[(4,.p (vSl 2 A0 x1))],[]⟩ [] (ids:=[]) ⟨rfl,rfl,rfl⟩
def D2 (N:Nat)(a:Sl (Sl A1)):Option (Sl A1):= Eg N (fun b (x1:Int) (x2:Int)=>if (decide (x2<(a.n:Int))) then if ((0:Int)<=x2/\x2<(a.n:Int))then if (decide ((wrap .i64 (x1+((a.g x2.toNat).n:Int)))<0)) then none else b (wrap .i64 (x1+((a.g x2.toNat).n:Int))) (wrap .i64 (x2+1)) else none else (J2 N x1).bind fun y1=>Eg N (fun c (x3:Sl A1) (x4:Int)=>if (decide (x4<(a.n:Int))) then if (((0:Int)<=x4/\x4<(a.n:Int))/\((x3.n+(a.g x4.toNat).n)*8<=140737488355328/\x3.n+(a.g x4.toNat).n<=140737488355328))then c (x3.app (a.g x4.toNat)) (wrap .i64 (x4+1)) else none else some x3) y1 0) 0 0
theorem I2 {a:Sl (Sl A1)}{y:Sl A1}(h:D2 N a=some y) :FunO S I1 [.p (vSl 1 (cL 2 A0) a)] [] (.vec 0) ([.vec B3 2 y.n (fun i=>A0 (y.g i)) true]) []:=by
 unfold D2 at h;refine A4 Z func171 ?_;refine N4 Z Bs h (fun x1 x2=>⟨[(11,pN x2),(10,pN (a.n:Int)),(9,.p (vSl 1 (cL 2 A0) a)),(3,pN x1),(0,.p (vSl 1 (cL 2 A0) a))],[]⟩) (ids:=[]) (fun _ _ _ _ _ d x1 x2 f h=>?_);apply kI Z h<;>intro h
 .obtain⟨c8,h⟩:=H1 h;refine D7 Z c8 (b:=decide ((wrap .i64 (x1+((a.g x2.toNat).n:Int)))<0)) (fun c9=>?_) (fun c9=>?_)
  .replace h:=itT c9 h;cases h
  replace h:=itF c9 h;exact f _ [] _ (wrap .i64 (x1+((a.g x2.toNat).n:Int))) (wrap .i64 (x2+1)) Bs h
 refine kC Z h (T1 Z Y) (fun y1 h=>?_);refine N4 Z Bs h (fun x3 x4=>⟨[(27,pN x4),(26,pN (a.n:Int)),(25,.p (vSl 1 (cL 2 A0) a)),(6,.vec 7500)],[(7500,.vec B3 2 x3.n (fun i=>A0 (x3.g i)) false)]⟩) (ids:=[(7500,25000)]) (fun _ _ _ _ _ j x3 x4 l h=>?_);apply kI Z h<;>intro h
 .obtain⟨c13,h⟩:=H1 h;exact l _ [(7500,34000)] _ (x3.app (a.g x4.toNat)) (wrap .i64 (x4+1)) c13 h (hle:=klR [(3,.fn (x3.n+(a.g x4.toNat).n) (x3.app (a.g x4.toNat)).n (V7 x3.n (fun i=>A0 (x3.g i)) (fun i=>A0 ((a.g x4.toNat).g i))) (fun i=>A0 ((x3.app (a.g x4.toNat)).g i)))] (al1 ⟨rfl,appL (c:=A0) (v:=x3) (w:=a.g x4.toNat) same rfl same rfl⟩ al0))
 obtain rfl:=C6 h;exact A6 Z Bs ⟨[(2,.vec 7500)],[(7500,.vec B3 2 x3.n (fun i=>A0 (x3.g i)) true)]⟩ [7500] (ids:=[(7500,7500)]) ⟨rfl,rfl,rfl⟩
def AB (N:Nat)(b:Law)(c:Sl A1)(a:Int):Option (Sl A1):= if (((0:Int)<=a/\a<=(c.n:Int))/\((0:Int)<=a/\a<=(wrap .i64 (a+(b.If.n:Int)))/\(wrap .i64 (a+(b.If.n:Int)))<=(c.n:Int)))then (FM N b (c.sub a.toNat (wrap .i64 (a+(b.If.n:Int))).toNat)).bind fun y1=>if ((0:Int)<=(wrap .i64 (a+(b.If.n:Int)))/\(wrap .i64 (a+(b.If.n:Int)))<=(c.n:Int))then (D2 N (Sl.of [c.take a.toNat,y1,c.drop (wrap .i64 (a+(b.If.n:Int))).toNat]:Sl (Sl A1))).bind fun y2=>some y2 else none else none
theorem FN {c:Law}{b:Sl A1}{a:Int}{y:Sl A1}(h:AB N c b a=some y) :FunO S FF [.p (.agg (A8 c)),.p (vSl 2 A0 b),pN a] [] (.vec 0) ([.vec B3 2 y.n (fun i=>A0 (y.g i)) true]) []:=by unfold AB at h;refine A4 Z func174 ?_;refine J0 Z Bs 6 4000 (A8 c) ?_;refine I8 Z Bs [3,8] ?_;obtain⟨c1,h⟩:=H1 h;obtain⟨y1,e1,h⟩:=B6 h;refine Y9 (And.intro (And.intro c1.1 Fx) c1.2) (MA Z Y e1) ?_;obtain⟨c2,h⟩:=H1 h;refine Bq c2 (x:=.sl true 1 3 (B8 [E3] [(0,cL 2 A0 (b.take a.toNat)),(1,cL 2 A0 y1),(2,cL 2 A0 (b.drop (wrap .i64 (a+(c.If.n:Int))).toNat))])) ?_;obtain⟨y2,e2,h⟩:=B6 h;refine HP [] Bs (FunO.le Z (args:=[.p (.sl true 1 3 (B8 [E3] [(0,cL 2 A0 (b.take a.toNat)),(1,cL 2 A0 y1),(2,cL 2 A0 (b.drop (wrap .i64 (a+(c.If.n:Int))).toNat))]))]) (by exact⟨SP rfl (fun i d=>match i,d with|0,_=>rfl|1,_=>rfl|2,_=>rfl|_+3,d=>Ba d (by omega)),trivial⟩) (I2 Z Y e2)) ?_;refine K0 Bs ?_;obtain rfl:=C6 h;exact A6 Z Bs ⟨[(6,.vec 27000)],[(27000,.vec B3 2 y2.n (fun i=>A0 (y2.g i)) true)]⟩ [27000] (ids:=[(27000,27000)]) ⟨rfl,rfl,rfl⟩
def Bk (N:Nat)(q0:Law)(q1:Sl A1)(q2:Int):Option (List (Int)):= (Dy N q0 q1).bind fun y1=>BV N (fun a (x2:Int)=>if (decide ((wrap .i64 (x2+(q0.If.n:Int)))<=(q1.n:Int))) then BV N (fun b (x4:Int)=>if (decide (x4<(q0.If.n:Int))) then if ((0:Int)<=x4/\x4<(q0.If.n:Int))then if ((0:Int)<=(wrap .i64 (x2+x4))/\(wrap .i64 (x2+x4))<(q1.n:Int))then (X6 N (q1.g (wrap .i64 (x2+x4)).toNat) (q0.If.g x4.toNat)).bind fun c=>if (!c) then a (wrap .i64 (x2+1)) else b (wrap .i64 (x4+1)) else none else none else (BA N x2 y1.1 y1.2).bind fun d=>if d then HQ x2 (a (wrap .i64 (x2+1))) else a (wrap .i64 (x2+1))) 0 else some []) q2
theorem GL {q0:Law}{q1:Sl A1}{q2:Int}{L:List (Int)}(h:Bk N q0 q1 q2=some L) :EI S Bf [] [.reg 0 0,.reg 1 0,.reg 2 0] [.cells ((A8 q0).map .p),.cells [.p (vSl 2 A0 q1)],.cells [pN q2]] (L.map (fun (x:Int)=>[pI .i64 x])):=by
 unfold Bk at h;refine Ft Z func181 ?_;refine kC Z h (Mz Z Y) (fun y1 h=>?_);refine Ge Z Bs h (fun x2 L1=>⟨[(6,pN x2),(5,.clo O0 [] [.reg 12000 0,.reg 12001 0]),(2,.reg 1 0),(1,.reg 0 0),(0,.yf 3)],[(12001,.cells [.p (vSl 2 A0 y1.2)]),(12000,.cells ((A8 y1.1).map .p)),(3,.yld (L1.map (fun (x:Int)=>[pI .i64 x])) true),(2,.cells [pN q2]),(1,.cells [.p (vSl 2 A0 q1)]),(0,.cells ((A8 q0).map .p))]⟩) (ids:=[(0,0),(1,1),(2,2),(3,3),(12000,12000),(12001,12001)]) (fun _ _ _ _ _ f x2 L1 c h=>?_);apply kI Z h<;>intro h
 .refine Ge Z Bs h (fun x4 L8=>⟨[(26,pN x4),(25,pN (q0.If.n:Int)),(24,.p (vSl 2 A0 q0.If)),(6,pN x2),(5,.clo O0 [] [.reg 12000 0,.reg 12001 0]),(2,.reg 1 0),(1,.reg 0 0),(0,.yf 3)],[(12001,.cells [.p (vSl 2 A0 y1.2)]),(12000,.cells ((A8 y1.1).map .p)),(3,.yld (L8.map (fun (x:Int)=>[pI .i64 x])) true),(2,.cells [pN q2]),(1,.cells [.p (vSl 2 A0 q1)]),(0,.cells ((A8 q0).map .p))]⟩) (ids:=[(0,0),(1,1),(2,2),(3,3),(12000,12000),(12001,12001)]) (fun _ _ _ _ _ i x4 L8 j h=>?_);apply kI Z h<;>intro h
  .obtain⟨c47,h⟩:=H1 h;refine Uc Z (And.intro c47 Dn) 9000 [pI .u32 (q0.If.g x4.toNat).Plus,pI .u32 (q0.If.g x4.toNat).Minus] ?_;refine I8 Z Bs [4,5,6,7] ?_;obtain⟨c48,h⟩:=H1 h;obtain⟨l,e12,h⟩:=B6 h;refine Y9 (And.intro (And.intro c48 Dn) Dn) (Gh Z Y e12) ?_;refine K0 Bs ?_;apply kI Z h<;>intro h
   .exact c _ [(0,0),(1,1),(2,2),(3,3),(12000,12000),(12001,12001)] _ (wrap .i64 (x2+1)) L8 Bs h
   exact j _ [(0,0),(1,1),(2,2),(3,3),(12000,12000),(12001,12001)] _ (wrap .i64 (x4+1)) L8 Bs h
  obtain⟨m,e13,h⟩:=B6 h;refine B7 Z [12000,12001] Bs (Jp Z Y e13) ?_;refine kG Z h (fun h=>?_) (fun h=>?_)
  .obtain⟨L10,rfl,d⟩:=KC h;replace h:=d;refine Ci Z Bs (ys:=(fun (x:Int)=>[pI .i64 x]) x2) (rest:=L10.map (fun (x:Int)=>[pI .i64 x])) ?_ ?_
   .refine D7 Z Bs (b:=false) (fun c53=>?_) (fun c53=>?_)
    .exact Bool.noConfusion ((rfl:false=false).symm.trans c53)
    exact c _ [(0,0),(1,1),(2,2),(3,3),(12000,12000),(12001,12001)] _ (wrap .i64 (x2+1)) L10 Bs h
   refine D7 Z Bs (b:=true) (fun c54=>?_) (fun c54=>?_)
   .exact A6 Z Bs (a:=.tup []) (objs:=[(.cells ((A8 q0).map .p)),.cells [.p (vSl 2 A0 q1)],.cells [pN q2],.yld [] false]) ⟨[],[(3,.yld [] false),(2,.cells [pN q2]),(1,.cells [.p (vSl 2 A0 q1)]),(0,.cells ((A8 q0).map .p))]⟩ [0,1,2,3] (ids:=[(0,0),(1,1),(2,2),(3,3)]) ⟨false,rfl,rfl,_,rfl⟩
   exact Bool.noConfusion (Gf.symm.trans c54)
  exact c _ [(0,0),(1,1),(2,2),(3,3),(12000,12000),(12001,12001)] _ (wrap .i64 (x2+1)) L8 Bs h
 obtain rfl:=C6 h;exact A6 Z Bs (a:=.tup []) (objs:=[(.cells ((A8 q0).map .p)),.cells [.p (vSl 2 A0 q1)],.cells [pN q2],.yld [] true]) ⟨[],[(3,.yld [] true),(2,.cells [pN q2]),(1,.cells [.p (vSl 2 A0 q1)]),(0,.cells ((A8 q0).map .p))]⟩ [0,1,2,3] (ids:=[(0,0),(1,1),(2,2),(3,3)]) ⟨true,rfl,rfl,_,rfl⟩
def DN (N:Nat)(b:Law)(c:Sl A1)(a:Int):Option (Law×(Sl A1)×Int):= some (b,c,a)
theorem JZ {b:Law}{c:Sl A1}{a:Int}{y:Law×(Sl A1)×Int}(h:DN N b c a=some y) :FunO S JY [.p (.agg (A8 b)),.p (vSl 2 A0 c),pN a] [] (.clo Bf [] [.reg 0 0,.reg 1 0,.reg 2 0]) ([.cells ((A8 y.1).map .p),.cells [.p (vSl 2 A0 y.2.1)],.cells [pN y.2.2]]) []:=by unfold DN at h;refine A4 Z func170 ?_;obtain rfl:=C6 h;exact A6 Z Bs ⟨[(6,.clo Bf [] [.reg 4000 0,.reg 5000 0,.reg 6000 0])],[(6000,.cells [pN a]),(5000,.cells [.p (vSl 2 A0 c)]),(4000,.cells ((A8 b).map .p))]⟩ [4000,5000,6000] (ids:=[(4000,4000),(5000,5000),(6000,6000)]) ⟨rfl,rfl,rfl⟩
def FO (N:Nat)(b:Law)(c:Sl A1)(a:Int):Option Bool:= (DN N b c a).bind fun y1=>(Bk N y1.1 y1.2.1 y1.2.2).bind fun L1=>Z8 L1 (fun d (x1:Int) (_:Unit)=>some (x1==a)) (fun (_:Unit)=>some false) ()
theorem MB {b:Law}{c:Sl A1}{a:Int}{y:Bool}(h:FO N b c a=some y) :FunO S Ms [.p (.agg (A8 b)),.p (vSl 2 A0 c),pN a] [] (pB y) ([]) []:=by
 unfold FO at h;refine A4 Z func173 ?_;refine kC Z h (JZ Z Y) (fun y1 h=>?_);obtain⟨L1,e2,h⟩:=B6 h;refine EL Z Bs [12000,12001,12002] [6,5] 901 (fun _=>⟨[(6,.reg 7000 0),(5,.reg 6000 0)],[(7000,.cells [.p (.v (.bool false))]),(6000,.cells [pN a])]⟩) (idl:=[(6000,6000),(7000,7000)]) h (GL Z Y e2) (fun _=>by kernel_rfl) (fun _=>by kernel_rfl) (fun _=>by kernel_rfl) (fun _=>by kernel_rfl) (fun x1 _ d _ f h=>?_) (fun _ h=>?_)
 .refine HS Z Bs ?_;refine He Z Bs ⟨[(6,.reg 7000 0),(5,.reg 6000 0)],[(7000,.cells [pB (x1==a)]),(6000,.cells [pN a])]⟩ (ids:=[(901,901),(6000,6000),(7000,7000)]) ?_;cases h;exact kR Z
 cases h;exact kR Z
def EQ (N:Nat)(q0:Sl A1)(q1:Law)(q2:Int)(q3:Int):Option (List (Int×(Sl A1))):= if (q1.Mode==1) then (DN N q1 q0 0).bind fun y1=>(Bk N y1.1 y1.2.1 y1.2.2).bind fun L1=>Z8 L1 (fun b (x1:Int) (z1:(Sl A1)×Int×Int)=>if (decide (x1<z1.2.1)) then b (z1.1,z1.2.1,z1.2.2) else if (((0:Int)<=(wrap .i64 (x1+z1.2.2))/\(wrap .i64 (x1+z1.2.2))<=(z1.1.n:Int))/\((0:Int)<=x1/\x1<=(wrap .i64 (x1+q2))/\(wrap .i64 (x1+q2))<=(q0.n:Int)))then (FM N q1 (q0.sub x1.toNat (wrap .i64 (x1+q2)).toNat)).bind fun y6=>if ((0:Int)<=(wrap .i64 (x1+q2))/\(wrap .i64 (x1+q2))<=(q0.n:Int))then (D2 N (Sl.of [z1.1.take (wrap .i64 (x1+z1.2.2)).toNat,y6,q0.drop (wrap .i64 (x1+q2)).toNat]:Sl (Sl A1))).bind fun y7=>HQ (x1,y7) (b (y7,wrap .i64 (x1+(if q2<1 then 1 else q2)),wrap .i64 ((wrap .i64 (z1.2.2+q3))-q2))) else none else none) (fun (z1:(Sl A1)×Int×Int)=>some []) (q0,0,0) else if (q1.Mode==2) then Eg N (fun a (x5:Sl A1) (x6:Int)=>if (decide ((wrap .i64 (x6+q2))<=(x5.n:Int))) then (FO N q1 x5 x6).bind fun g=>if (!g) then a x5 (wrap .i64 (x6+1)) else (AB N q1 x5 x6).bind fun d=>HQ (x6,d) (if (q2==0) then a d (wrap .i64 ((wrap .i64 (x6+q3))+1)) else a d (wrap .i64 (x6+q3))) else some []) q0 0 else if (q1.Mode==3) then Eg N (fun c (x7:Sl A1) (x8:Int)=>if (decide (0<=x8)) then (FO N q1 x7 x8).bind fun i=>if (!i) then c x7 (wrap .i64 (x8-1)) else (AB N q1 x7 x8).bind fun f=>HQ (x8,f) (c f (wrap .i64 (x8-(if q2<1 then 1 else q2)))) else some []) q0 (wrap .i64 ((q0.n:Int)-q2)) else some []
theorem NM {q0:Sl A1}{q1:Law}{q2:Int}{q3:Int}{L:List (Int×(Sl A1))}(h:EQ N q0 q1 q2 q3=some L) :EI S Cn [] [.reg 0 0,.reg 1 0,.reg 2 0,.reg 3 0] [.cells [.p (vSl 2 A0 q0)],.cells ((A8 q1).map .p),.cells [pN q2],.cells [pN q3]] (L.map (fun (x:Int×(Sl A1))=>[pI .i64 x.1,vSl 2 A0 x.2])):=by
 unfold EQ at h;refine Ft Z func169 ?_;apply kI Z h<;>intro h
 .refine kC Z h (JZ Z Y) (fun y1 h=>?_);obtain⟨L1,e2,h⟩:=B6 h;refine So Z Bs [20000,20001,20002] [8,7,6,5,4,3,2,1] 900 (fun z1 L2=>⟨[(8,.reg 9000 0),(7,.reg 8000 0),(6,.reg 7000 0),(5,.reg 6000 0),(4,.reg 3 0),(3,.reg 2 0),(2,.reg 1 0),(1,.reg 0 0)],[(9000,.cells [pN z1.2.2]),(8000,.cells [pN z1.2.1]),(7000,.cells [.p (vSl 2 A0 z1.1)]),(6000,.cells [.yf 4]),(4,.yld (L2.map (fun (x:Int×(Sl A1))=>[pI .i64 x.1,vSl 2 A0 x.2])) true),(3,.cells [pN q3]),(2,.cells [pN q2]),(1,.cells ((A8 q1).map .p)),(0,.cells [.p (vSl 2 A0 q0)])]⟩) (idl:=[(0,0),(1,1),(2,2),(3,3),(4,4),(6000,6000),(7000,7000),(8000,8000),(9000,9000)]) h (GL Z Y e2) (fun _=>by kernel_rfl) (fun _ _=>by kernel_rfl) (fun _ _=>by kernel_rfl) (fun _ _=>by kernel_rfl) (fun x1 _ s z1 L2 j h=>?_) (fun z1 L2 h=>?_)
  .refine HS Z Bs ?_;apply kI Z h<;>intro h
   .exact j _ [(0,0),(1,1),(2,2),(3,3),(4,4),(900,900),(6000,6000),(7000,7000),(8000,8000),(9000,9000)] _ (z1.1,z1.2.1,z1.2.2) L2 Bs h
   refine G8 Z Bs [(0,.l [7000]),(2,.l [9000]),(5,.l [1]),(6,.l [0]),(9,.l [2]),(12,.n),(13,.l [0]),(15,.l [2]),(20,.a [7000])] ?_;obtain⟨c13,h⟩:=H1 h;obtain⟨y6,e7,h⟩:=B6 h;refine Y9 c13 (MA Z Y e7) ?_;obtain⟨c14,h⟩:=H1 h;refine Bq c14 (x:=.sl true 1 3 (B8 [E3] [(0,cL 2 A0 (z1.1.take (wrap .i64 (x1+z1.2.2)).toNat)),(1,cL 2 A0 y6),(2,cL 2 A0 (q0.drop (wrap .i64 (x1+q2)).toNat))])) ?_;obtain⟨y7,e8,h⟩:=B6 h;refine HP [] Bs (FunO.le Z (args:=[.p (.sl true 1 3 (B8 [E3] [(0,cL 2 A0 (z1.1.take (wrap .i64 (x1+z1.2.2)).toNat)),(1,cL 2 A0 y6),(2,cL 2 A0 (q0.drop (wrap .i64 (x1+q2)).toNat))]))]) (by exact⟨SP rfl (fun i t=>match i,t with|0,_=>rfl|1,_=>rfl|2,_=>rfl|_+3,t=>Ba t (by omega)),trivial⟩) (I2 Z Y e8)) ?_;refine K0 Bs ?_;obtain⟨L5,rfl,m⟩:=KC h;replace h:=m;refine Ci Z Bs (ys:=(fun (x:Int×(Sl A1))=>[pI .i64 x.1,vSl 2 A0 x.2]) (x1,y7)) (rest:=L5.map (fun (x:Int×(Sl A1))=>[pI .i64 x.1,vSl 2 A0 x.2])) ?_ ?_
   .refine D7 Z Bs (b:=false) (fun c15=>?_) (fun c15=>?_)
    .exact Bool.noConfusion ((rfl:false=false).symm.trans c15)
    refine G8 Z Bs [(1,.l [2]),(4,.l [9000]),(5,.l [3]),(7,.l [2]),(9,.a [8000]),(10,.a [9000])] ?_;refine K0 Bs ?_;exact j _ [(0,0),(1,1),(2,2),(3,3),(4,4),(900,900),(6000,6000),(7000,7000),(8000,8000),(9000,9000)] _ (y7,wrap .i64 (x1+(if q2<1 then 1 else q2)),wrap .i64 ((wrap .i64 (z1.2.2+q3))-q2)) L5 Bs h
   refine D7 Z Bs (b:=true) (fun c16=>?_) (fun c16=>?_)
   .refine He Z Bs ⟨[(8,.reg 9000 0),(7,.reg 8000 0),(6,.reg 7000 0),(5,.reg 6000 0),(4,.reg 3 0),(3,.reg 2 0),(2,.reg 1 0),(1,.reg 0 0)],[(44000,.vec B3 2 y7.n (fun i=>A0 (y7.g i)) true),(9000,.cells [pN z1.2.2]),(8000,.cells [pN z1.2.1]),(7000,.cells [.vec 44000]),(6000,.cells [.yf 4]),(4,.yld [] false),(3,.cells [pN q3]),(2,.cells [pN q2]),(1,.cells ((A8 q1).map .p)),(0,.cells [.p (vSl 2 A0 q0)])]⟩ (ids:=[(0,0),(1,1),(2,2),(3,3),(4,4),(900,900),(6000,6000),(7000,7000),(8000,8000),(9000,9000),(44000,44000)]) ?_;exact A6 Z Bs (a:=.tup []) (objs:=[(.cells [.p (vSl 2 A0 q0)]),.cells ((A8 q1).map .p),.cells [pN q2],.cells [pN q3],.yld [] false]) ⟨[],[(4,.yld [] false),(3,.cells [pN q3]),(2,.cells [pN q2]),(1,.cells ((A8 q1).map .p)),(0,.cells [.p (vSl 2 A0 q0)])]⟩ [0,1,2,3,4] (ids:=[(0,0),(1,1),(2,2),(3,3),(4,4)]) ⟨false,rfl,rfl,_,rfl⟩
   exact Bool.noConfusion (Gf.symm.trans c16)
  obtain rfl:=C6 h;exact A6 Z Bs (a:=.tup []) (objs:=[(.cells [.p (vSl 2 A0 q0)]),.cells ((A8 q1).map .p),.cells [pN q2],.cells [pN q3],.yld [] true]) ⟨[],[(4,.yld [] true),(3,.cells [pN q3]),(2,.cells [pN q2]),(1,.cells ((A8 q1).map .p)),(0,.cells [.p (vSl 2 A0 q0)])]⟩ [0,1,2,3,4] (ids:=[(0,0),(1,1),(2,2),(3,3),(4,4)]) ⟨true,rfl,rfl,_,rfl⟩
 apply kI Z h<;>intro h
 .refine KD Z Bs h (fun x5 x6 L6=>⟨[(10,pN x6),(6,.reg 7000 0),(5,.reg 6000 0),(4,.reg 3 0),(3,.reg 2 0),(2,.reg 1 0)],[(7000,.cells [.p (vSl 2 A0 x5)]),(6000,.cells [.yf 4]),(4,.yld (L6.map (fun (x:Int×(Sl A1))=>[pI .i64 x.1,vSl 2 A0 x.2])) true),(3,.cells [pN q3]),(2,.cells [pN q2]),(1,.cells ((A8 q1).map .p)),(0,.cells [.p (vSl 2 A0 q0)])]⟩) (ids:=[(0,0),(1,1),(2,2),(3,3),(4,4),(6000,6000),(7000,7000)]) (fun _ _ _ _ _ u x5 x6 L6 c h=>?_);apply kI Z h<;>intro h
  .refine kC Z h (MB Z Y) (fun w h=>?_);apply kI Z h<;>intro h
   .exact c _ [(0,0),(1,1),(2,2),(3,3),(4,4),(6000,6000),(7000,7000)] _ x5 (wrap .i64 (x6+1)) L6 Bs h
   refine kC Z h (FN Z Y) (fun d h=>?_);obtain⟨L9,rfl,o⟩:=KC h;replace h:=o;refine Ci Z Bs (ys:=(fun (x:Int×(Sl A1))=>[pI .i64 x.1,vSl 2 A0 x.2]) (x6,d)) (rest:=L9.map (fun (x:Int×(Sl A1))=>[pI .i64 x.1,vSl 2 A0 x.2])) ?_ ?_
   .refine D7 Z Bs (b:=false) (fun c30=>?_) (fun c30=>?_)
    .exact Bool.noConfusion ((rfl:false=false).symm.trans c30)
    apply kI Z h<;>intro h
    .exact c _ [(0,0),(1,1),(2,2),(3,3),(4,4),(6000,6000),(7000,7000)] _ d (wrap .i64 ((wrap .i64 (x6+q3))+1)) L9 Bs h
    exact c _ [(0,0),(1,1),(2,2),(3,3),(4,4),(6000,6000),(7000,7000)] _ d (wrap .i64 (x6+q3)) L9 Bs h
   refine D7 Z Bs (b:=true) (fun c32=>?_) (fun c32=>?_)
   .exact A6 Z Bs (a:=.tup []) (objs:=[(.cells [.p (vSl 2 A0 q0)]),.cells ((A8 q1).map .p),.cells [pN q2],.cells [pN q3],.yld [] false]) ⟨[],[(4,.yld [] false),(3,.cells [pN q3]),(2,.cells [pN q2]),(1,.cells ((A8 q1).map .p)),(0,.cells [.p (vSl 2 A0 q0)])]⟩ [0,1,2,3,4] (ids:=[(0,0),(1,1),(2,2),(3,3),(4,4)]) ⟨false,rfl,rfl,_,rfl⟩
   exact Bool.noConfusion (Gf.symm.trans c32)
  obtain rfl:=C6 h;exact A6 Z Bs (a:=.tup []) (objs:=[(.cells [.p (vSl 2 A0 q0)]),.cells ((A8 q1).map .p),.cells [pN q2],.cells [pN q3],.yld [] true]) ⟨[],[(4,.yld [] true),(3,.cells [pN q3]),(2,.cells [pN q2]),(1,.cells ((A8 q1).map .p)),(0,.cells [.p (vSl 2 A0 q0)])]⟩ [0,1,2,3,4] (ids:=[(0,0),(1,1),(2,2),(3,3),(4,4)]) ⟨true,rfl,rfl,_,rfl⟩
 apply kI Z h<;>intro h
 .refine KD Z Bs h (fun x7 x8 L10=>⟨[(11,pN x8),(6,.reg 7000 0),(5,.reg 6000 0),(3,.reg 2 0),(2,.reg 1 0)],[(7000,.cells [.p (vSl 2 A0 x7)]),(6000,.cells [.yf 4]),(4,.yld (L10.map (fun (x:Int×(Sl A1))=>[pI .i64 x.1,vSl 2 A0 x.2])) true),(3,.cells [pN q3]),(2,.cells [pN q2]),(1,.cells ((A8 q1).map .p)),(0,.cells [.p (vSl 2 A0 q0)])]⟩) (ids:=[(0,0),(1,1),(2,2),(3,3),(4,4),(6000,6000),(7000,7000)]) (fun _ _ _ _ _ v x7 x8 L10 q h=>?_);apply kI Z h<;>intro h
  .refine kC Z h (MB Z Y) (fun y h=>?_);apply kI Z h<;>intro h
   .exact q _ [(0,0),(1,1),(2,2),(3,3),(4,4),(6000,6000),(7000,7000)] _ x7 (wrap .i64 (x8-1)) L10 Bs h
   refine kC Z h (FN Z Y) (fun r h=>?_);obtain⟨L13,rfl,f⟩:=KC h;replace h:=f;refine Ci Z Bs (ys:=(fun (x:Int×(Sl A1))=>[pI .i64 x.1,vSl 2 A0 x.2]) (x8,r)) (rest:=L13.map (fun (x:Int×(Sl A1))=>[pI .i64 x.1,vSl 2 A0 x.2])) ?_ ?_
   .refine D7 Z Bs (b:=false) (fun c44=>?_) (fun c44=>?_)
    .exact Bool.noConfusion ((rfl:false=false).symm.trans c44)
    exact q _ [(0,0),(1,1),(2,2),(3,3),(4,4),(6000,6000),(7000,7000)] _ r (wrap .i64 (x8-(if q2<1 then 1 else q2))) L13 Bs h
   refine D7 Z Bs (b:=true) (fun c45=>?_) (fun c45=>?_)
   .exact A6 Z Bs (a:=.tup []) (objs:=[(.cells [.p (vSl 2 A0 q0)]),.cells ((A8 q1).map .p),.cells [pN q2],.cells [pN q3],.yld [] false]) ⟨[],[(4,.yld [] false),(3,.cells [pN q3]),(2,.cells [pN q2]),(1,.cells ((A8 q1).map .p)),(0,.cells [.p (vSl 2 A0 q0)])]⟩ [0,1,2,3,4] (ids:=[(0,0),(1,1),(2,2),(3,3),(4,4)]) ⟨false,rfl,rfl,_,rfl⟩
   exact Bool.noConfusion (Gf.symm.trans c45)
  obtain rfl:=C6 h;exact A6 Z Bs (a:=.tup []) (objs:=[(.cells [.p (vSl 2 A0 q0)]),.cells ((A8 q1).map .p),.cells [pN q2],.cells [pN q3],.yld [] true]) ⟨[],[(4,.yld [] true),(3,.cells [pN q3]),(2,.cells [pN q2]),(1,.cells ((A8 q1).map .p)),(0,.cells [.p (vSl 2 A0 q0)])]⟩ [0,1,2,3,4] (ids:=[(0,0),(1,1),(2,2),(3,3),(4,4)]) ⟨true,rfl,rfl,_,rfl⟩
 obtain rfl:=C6 h;exact A6 Z Bs (a:=.tup []) (objs:=[(.cells [.p (vSl 2 A0 q0)]),.cells ((A8 q1).map .p),.cells [pN q2],.cells [pN q3],.yld [] true]) ⟨[],[(4,.yld [] true),(3,.cells [pN q3]),(2,.cells [pN q2]),(1,.cells ((A8 q1).map .p)),(0,.cells [.p (vSl 2 A0 q0)])]⟩ [0,1,2,3,4] (ids:=[(0,0),(1,1),(2,2),(3,3),(4,4)]) ⟨true,rfl,rfl,_,rfl⟩
def IC (N:Nat)(a:Law)(b:Sl A1):Option ((Sl A1)×Law×Int×Int):= some (b,a,(a.If.n:Int),(a.Out.n:Int))
theorem Rd {b:Law}{c:Sl A1}{y:(Sl A1)×Law×Int×Int}(h:IC N b c=some y) :FunO S Mq [.p (.agg (A8 b)),.p (vSl 2 A0 c)] [] (.clo Cn [] [.reg 0 0,.reg 1 0,.reg 2 0,.reg 3 0]) ([.cells [.p (vSl 2 A0 y.1)],.cells ((A8 y.2.1).map .p),.cells [pN y.2.2.1],.cells [pN y.2.2.2]]) []:=by unfold IC at h;refine A4 Z func161 ?_;refine G8 Z Bs [(1,.l [3000]),(2,.n),(4,.l [3000]),(5,.n),(6,.a [6000]),(7,.a [7000]),(8,.a [6000]),(9,.a [7000])] ?_;refine K0 Bs ?_;obtain rfl:=C6 h;exact A6 Z Bs ⟨[(4,.clo Cn [] [.reg 4000 0,.reg 3000 0,.reg 6000 0,.reg 7000 0])],[(7000,.cells [pN (b.Out.n:Int)]),(6000,.cells [pN (b.If.n:Int)]),(4000,.cells [.p (vSl 2 A0 c)]),(3000,.cells ((A8 b).map .p))]⟩ [4000,3000,6000,7000] (ids:=[(3000,3000),(4000,4000),(6000,6000),(7000,7000)]) ⟨rfl,rfl,rfl⟩
def ER (N:Nat)(b:Law)(c:Sl A1):Option ((Sl Int)×(Sl (Sl A1))×Int):= (EP N b c).bind fun y1=>if (y1 != 0) then some (Gg,(Sl.nil:Sl (Sl A1)),y1) else (IC N b c).bind fun y2=>(EQ N y2.1 y2.2.1 y2.2.2.1 y2.2.2.2).bind fun L1=>Z8 L1 (fun a (x1:Int×(Sl A1)) (z1:(Sl Int)×(Sl (Sl A1)))=>if (decide (32<(x1.2.n:Int))) then some (Gg,(Sl.nil:Sl (Sl A1)),11) else if ((z1.1.n+(Sl.of [x1.1]:Sl Int).n)*8<=140737488355328/\z1.1.n+(Sl.of [x1.1]:Sl Int).n<=140737488355328)then if ((z1.2.n+(Sl.of [x1.2]:Sl (Sl A1)).n)*24<=140737488355328/\z1.2.n+(Sl.of [x1.2]:Sl (Sl A1)).n<=140737488355328)then a (z1.1.push x1.1,z1.2.push x1.2) else none else none) (fun (z1:(Sl Int)×(Sl (Sl A1)))=>some (z1.1,z1.2,0)) (Gg,(Sl.nil:Sl (Sl A1)))
theorem NN {b:Law}{d:Sl A1}{y:(Sl Int)×(Sl (Sl A1))×Int}(h:ER N b d=some y) :FunO S Il [.p (.agg (A8 b)),.p (vSl 2 A0 d)] [] (.tup [.vec 0,.vec 1,pN y.2.2]) ([.vec C0 1 y.1.n (fun i=>cI .i64 (y.1.g i)) true,.vec B0 1 y.2.1.n (fun i=>cL 2 A0 (y.2.1.g i)) true]) []:=by
 unfold ER at h;refine A4 Z func152 ?_;refine J0 Z Bs 4 3000 (A8 b) ?_;obtain⟨y1,e1,h⟩:=B6 h;refine B7 Z [] Fx (NL Z Y e1) ?_;apply kI Z h<;>intro h
 .obtain rfl:=C6 h;exact A6 Z Bs ⟨[(6,.reg 7000 0),(5,.reg 6000 0),(4,.reg 5000 0)],[(7000,.cells [pN y1]),(6701,.vec B0 1 (Sl.nil:Sl (Sl A1)).n (fun i=>cL 2 A0 ((Sl.nil:Sl (Sl A1)).g i)) true),(6000,.cells [.vec 6701]),(5700,.vec C0 1 Gg.n (fun i=>cI .i64 (Gg.g i)) true),(5000,.cells [.vec 5700])]⟩ [5700,6701] (ids:=[(5000,5000),(6000,6000),(7000,7000)]) ⟨rfl,rfl,rfl⟩
 obtain⟨y2,e2,h⟩:=B6 h;refine B7 Z [] Fx (Rd Z Y e2) ?_;obtain⟨L1,e3,h⟩:=B6 h;refine EL Z Bs [21000,21001,21002,21003] [9,8,6,5,4] 901 (fun z1=>⟨[(9,.reg 10000 0),(8,.reg 9000 0),(6,.reg 7000 0),(5,.reg 6000 0),(4,.reg 5000 0)],[(10500,.vec B0 1 z1.2.n (fun i=>cL 2 A0 (z1.2.g i)) false),(10000,.cells [.vec 10500]),(9500,.vec C0 1 z1.1.n (fun i=>cI .i64 (z1.1.g i)) false),(9000,.cells [.vec 9500]),(7000,.cells [pN 0]),(6000,.cells [.p E3]),(5000,.cells [.p E3])]⟩) (idl:=[(5000,5000),(6000,6000),(7000,7000),(9000,9000),(10000,10000)]) h (NM Z Y e3) (fun _=>by kernel_rfl) (fun _=>by kernel_rfl) (fun _=>by kernel_rfl) (fun _=>by kernel_rfl) (fun x1 _ f z1 j h=>?_) (fun z1 h=>?_)
 .refine HS Z Bs ?_;apply kI Z h<;>intro h
  .refine He Z Bs ⟨[(9,.reg 10000 0),(8,.reg 9000 0),(6,.reg 7000 0),(5,.reg 6000 0),(4,.reg 5000 0)],[(10500,.vec B0 1 z1.2.n (fun i=>cL 2 A0 (z1.2.g i)) false),(10000,.cells [.vec 10500]),(9500,.vec C0 1 z1.1.n (fun i=>cI .i64 (z1.1.g i)) false),(9000,.cells [.vec 9500]),(7000,.cells [pN 11]),(6000,.cells [.p E3]),(5000,.cells [.p E3])]⟩ (ids:=[(901,901),(5000,5000),(6000,6000),(7000,7000),(9000,9000),(9500,9500),(10000,10000),(10500,10500)]) ?_;obtain rfl:=C6 h;exact A6 Z Bs ⟨[(6,.reg 7000 0),(5,.reg 6000 0),(4,.reg 5000 0)],[(7000,.cells [pN 11]),(6701,.vec B0 1 (Sl.nil:Sl (Sl A1)).n (fun i=>cL 2 A0 ((Sl.nil:Sl (Sl A1)).g i)) true),(6000,.cells [.vec 6701]),(5700,.vec C0 1 Gg.n (fun i=>cI .i64 (Gg.g i)) true),(5000,.cells [.vec 5700])]⟩ [5700,6701] (ids:=[(5000,5000),(6000,6000),(7000,7000)]) ⟨rfl,rfl,rfl⟩
  refine G8 Z Bs [(0,.l [9000]),(3,.a [30000,9500]),(4,.l [10000]),(7,.a [34000,10500]),(8,.a [9000]),(9,.a [10000])] ?_;refine Bq Bs (x:=.sl true 1 1 (B8 [pI .i64 0] [(0,cI .i64 x1.1)])) ?_;obtain⟨c9,h⟩:=H1 h;refine Bq c9 (x:=.sl true 1 1 (B8 [E3] [(0,cL 2 A0 x1.2)])) ?_;obtain⟨c10,h⟩:=H1 h;refine K0 c10 ?_;exact j _ [(901,901),(5000,5000),(6000,6000),(7000,7000),(9000,9000),(9500,30000),(10000,10000),(10500,34000)] _ (z1.1.push x1.1,z1.2.push x1.2) Bs h (hle:=klR [(0,.fn (z1.2.n+1) (z1.2.push x1.2).n (V7 z1.2.n (fun i=>cL 2 A0 (z1.2.g i)) (B8 [E3] [(0,cL 2 A0 x1.2)])) (fun i=>cL 2 A0 ((z1.2.push x1.2).g i))),(1,.fn (z1.1.n+1) (z1.1.push x1.1).n (V7 z1.1.n (fun i=>cI .i64 (z1.1.g i)) (B8 [pI .i64 0] [(0,cI .i64 x1.1)])) (fun i=>cI .i64 ((z1.1.push x1.1).g i)))] (al1 ⟨rfl,MI (c:=cL 2 A0) (v:=z1.2) (x:=x1.2) (z:=[E3]) same rfl rfl⟩ (al1 ⟨rfl,MI (c:=cI .i64) (v:=z1.1) (x:=x1.1) (z:=[(pI .i64 0)]) same rfl rfl⟩ al0)))
 refine G8 Z Bs [(0,.l [9000]),(1,.l [10000]),(2,.a [5000]),(3,.a [6000]),(4,.a [7000])] ?_;refine K0 Bs ?_;obtain rfl:=C6 h;exact A6 Z Bs ⟨[(6,.reg 7000 0),(5,.reg 6000 0),(4,.reg 5000 0)],[(10500,.vec B0 1 z1.2.n (fun i=>cL 2 A0 (z1.2.g i)) true),(9500,.vec C0 1 z1.1.n (fun i=>cI .i64 (z1.1.g i)) true),(7000,.cells [pN 0]),(6000,.cells [.vec 10500]),(5000,.cells [.vec 9500])]⟩ [9500,10500] (ids:=[(5000,5000),(6000,6000),(7000,7000),(9500,9500),(10500,10500)]) ⟨rfl,rfl,rfl⟩
def ES (N:Nat)(b:Law)(a:Sl A1):Option ((Sl A1)×Int):= (ER N b a).bind fun y1=>if (y1.2.2 != 0) then some ((Sl.nil:Sl A1),y1.2.2) else if (decide (0<(y1.2.1.n:Int))) then if (((0:Int)<=(wrap .i64 ((y1.2.1.n:Int)-1))/\(wrap .i64 ((y1.2.1.n:Int)-1))<(y1.2.1.n:Int))/\(wrap .i64 ((y1.2.1.n:Int)-1)).toNat<y1.2.1.n)then some (y1.2.1.g (wrap .i64 ((y1.2.1.n:Int)-1)).toNat,0) else none else (A7 N a).bind fun y2=>some (y2,0)
theorem NO {a:Law}{b:Sl A1}{y:(Sl A1)×Int}(h:ES N a b=some y) :FunO S Ik [.p (.agg (A8 a)),.p (vSl 2 A0 b)] [] (.tup [.p (vSl 2 A0 y.1),pN y.2]) ([]) []:=by
 unfold ES at h;refine A4 Z func145 ?_;refine kC Z h (NN Z Y) (fun y1 h=>?_);apply kI Z h<;>intro h
 .obtain rfl:=C6 h;exact A6 Z Bs ⟨[(5,pN y1.2.2),(4,.p (vSl 2 A0 (Sl.nil:Sl A1)))],[]⟩ [] (ids:=[]) ⟨rfl,rfl,rfl⟩
 apply kI Z h<;>intro h
 .obtain⟨c3,h⟩:=H1 h;obtain rfl:=C6 h;exact Ua Z c3 [] ⟨rfl,rfl,rfl⟩
 refine kC Z h (E9 Z Y) (fun y2 h=>?_);obtain rfl:=C6 h;exact A6 Z Bs ⟨[(5,pN 0),(4,.p (vSl 2 A0 y2))],[]⟩ [] (ids:=[]) ⟨rfl,rfl,rfl⟩
end Go.AM
namespace Go.AM
open Go.Proofs.Tryz
variable {N:Nat}
open IntKind (wrap)
open Go.Proofs
set_option maxRecDepth 10000
set_option maxHeartbeats 2000000
variable {S:O7}(Z:E7 S Tryz.prog) (Y:GK S)
include Z Y
def Ac (N:Nat)(a:Law):Option Bool:= (AU N a).bind fun y1=>some (y1 != 0)
theorem GV {a:Law}{y:Bool}(h:Ac N a=some y) :FunO S CP [.p (.agg (A8 a))] [] (pB y) ([]) []:=by unfold Ac at h;refine A4 Z func127 ?_;refine kC Z h (EO Z Y) (fun y1 h=>?_);cases h;exact kR Z
def F2 (N:Nat)(a:Sl Law)(c:Law->Option Bool):Option Int:= BV N (fun b (x1:Int)=>if (decide (x1<(a.n:Int))) then if ((0:Int)<=x1/\x1<(a.n:Int))then (c (a.g x1.toNat)).bind fun y3=>if y3 then some x1 else b (wrap .i64 (x1+1)) else none else some (-1)) 0
theorem S3 {a:Sl Law}{c:Law->Option Bool}{kp_f:Nat}(d:∀{a0:Law}{b:Bool},c a0=some b->FunO S kp_f [.p (.agg (A8 a0))] [] (pB b) [] []){y:Int}(h:F2 N a c=some y) :FunO S I7 [.p (vSl 18 A8 a),.clo kp_f [] []] [] (pN y) ([]) []:=by
 unfold F2 at h;refine A4 Z func143 ?_;refine Y8 Z Bs h (fun x1=>⟨[(8,pN x1),(7,pN (a.n:Int)),(1,.clo kp_f [] []),(0,.p (vSl 18 A8 a))],[]⟩) (ids:=[]) (fun _ _ _ _ _ f x1 g h=>?_);apply kI Z h<;>intro h
 .obtain⟨c8,h⟩:=H1 h;obtain⟨y3,e3,h⟩:=B6 h;refine B7 Z [] (And.intro c8 Fx) (d e3) ?_;apply kI Z h<;>intro h
  .cases h;exact kR Z
  exact g _ [] _ (wrap .i64 (x1+1)) Bs h
 cases h;exact kR Z
def E1 (N:Nat)(a:Sl Law)(b:Law->Option Bool):Option Bool:= (F2 N a b).bind fun y1=>some (decide (0<=y1))
theorem P4 {a:Sl Law}{c:Law->Option Bool}{kp_f:Nat}(d:∀{a0:Law}{b:Bool},c a0=some b->FunO S kp_f [.p (.agg (A8 a0))] [] (pB b) [] []){y:Bool}(h:E1 N a c=some y) :FunO S H3 [.p (vSl 18 A8 a),.clo kp_f [] []] [] (pB y) ([]) []:=by unfold E1 at h;refine A4 Z func126 ?_;refine kC Z h (S3 Z Y (fun e=>d e)) (fun y1 h=>?_);cases h;exact kR Z
def BB (N:Nat)(a:Sl Law):Option Int:= if (decide (64<(a.n:Int))) then some 12 else (E1 N a (fun (u1:Law)=>Ac N u1)).bind fun y1=>if y1 then some 17 else some 0
theorem Jq {a:Sl Law}{y:Int}(h:BB N a=some y) :FunO S Eo [.p (vSl 18 A8 a)] [] (pN y) ([]) []:=by
 unfold BB at h;refine A4 Z func108 ?_;apply kI Z h<;>intro h
 .cases h;exact kR Z
 refine kC Z h (P4 Z Y (fun e=>GV Z Y e)) (fun y1 h=>?_);apply kI Z h<;>intro h
 .cases h;exact kR Z
 cases h;exact kR Z
def BC (N:Nat)(b:Sl Law)(a:Sl (Sl A1)):Option Int:= (BB N b).bind fun y1=>if (y1 != 0) then some y1 else if (decide (256<(a.n:Int))) then some 12 else BV N (fun c (x1:Int)=>if (decide (x1<(a.n:Int))) then if ((0:Int)<=x1/\x1<(a.n:Int))then (K8 N (a.g x1.toNat)).bind fun y4=>if (y4 != 0) then some y4 else c (wrap .i64 (x1+1)) else none else some 0) 0
theorem Jr {b:Sl Law}{a:Sl (Sl A1)}{y:Int}(h:BC N b a=some y) :FunO S En [.p (vSl 18 A8 b),.p (vSl 1 (cL 2 A0) a)] [] (pN y) ([]) []:=by
 unfold BC at h;refine A4 Z func81 ?_;refine kC Z h (Jq Z Y) (fun y1 h=>?_);apply kI Z h<;>intro h
 .cases h;exact kR Z
 apply kI Z h<;>intro h
 .cases h;exact kR Z
 refine Y8 Z Bs h (fun x1=>⟨[(19,pN x1),(18,pN (a.n:Int)),(17,.p (vSl 1 (cL 2 A0) a))],[]⟩) (ids:=[]) (fun _ _ _ _ _ c x1 d h=>?_);apply kI Z h<;>intro h
 .obtain⟨c10,h⟩:=H1 h;obtain⟨y4,e4,h⟩:=B6 h;refine B7 Z [] c10 (Bh Z Y e4) ?_;apply kI Z h<;>intro h
  .cases h;exact kR Z
  exact d _ [] _ (wrap .i64 (x1+1)) Bs h
 cases h;exact kR Z
end Go.AM
namespace Go.AM
open Go.Proofs.Tryz
variable {N:Nat}
open IntKind (wrap)
open Go.Proofs
set_option maxRecDepth 10000
set_option maxHeartbeats 2000000
variable {S:O7}(Z:E7 S Tryz.prog) (Y:GK S)
include Z Y
def SD (c:Int):Option PV:=if c=0 then none else some (.iface 149 (pI .i64 c))
def Ad (N:Nat)(c:Int)(q0:Sl A1)(q1:Sl Law):Option (List (Int×(Sl A1))):= (A7 N q0).bind fun y1=>HQ (0,y1) (Eg N (fun a (x1:Sl A1) (x2:Int)=>if (decide (x2<(q1.n:Int))) then if ((0:Int)<=x2/\x2<(q1.n:Int))then (ES N (q1.g x2.toNat) x1).bind fun y4=>if (y4.2 != 0) then if y4.2=c then some []else none else HQ (wrap .i64 (x2+1),y4.1) (a y4.1 (wrap .i64 (x2+1))) else none else if c=0 then some []else none) y1 0)
theorem CR {q0:Sl A1}{q1:Sl Law}{c:Int}{L:List (Int×(Sl A1))}(h:Ad N c q0 q1=some L) :HU S K4 [] [.reg 0 0,.reg 1 0] [.cells [.p (vSl 2 A0 q0)],.cells [.p (vSl 18 A8 q1)]] (L.map (fun (x:Int×(Sl A1))=>[pI .i64 x.1,vSl 2 A0 x.2])) (SD c):=by
 unfold Ad at h;refine QS Z func144 ?_;refine kC Z h (E9 Z Y) (fun y1 h=>?_);obtain⟨L1,rfl,d⟩:=KC h;replace h:=d;refine Ci Z Bs (ys:=(fun (x:Int×(Sl A1))=>[pI .i64 x.1,vSl 2 A0 x.2]) (0,y1)) (rest:=L1.map (fun (x:Int×(Sl A1))=>[pI .i64 x.1,vSl 2 A0 x.2])) ?_ ?_
 .refine D7 Z Bs (b:=false) (fun c1=>?_) (fun c1=>?_)
  .exact Bool.noConfusion ((rfl:false=false).symm.trans c1)
  refine KD Z Bs h (fun x1 x2 L2=>⟨[(17,pN x2),(16,pN (q1.n:Int)),(15,.p (vSl 18 A8 q1)),(4,.p (vSl 2 A0 x1)),(0,.yf 2)],[(2,.yld (L2.map (fun (x:Int×(Sl A1))=>[pI .i64 x.1,vSl 2 A0 x.2])) true),(1,.cells [.p (vSl 18 A8 q1)]),(0,.cells [.p (vSl 2 A0 q0)])]⟩) (ids:=[(0,0),(1,1),(2,2)]) (fun _ _ _ _ _ g x1 x2 L2 i h=>?_);apply kI Z h<;>intro h
  .obtain⟨c13,h⟩:=H1 h;obtain⟨y4,e4,h⟩:=B6 h;refine B7 Z [] (And.intro c13 Fx) (NO Z Y e4) ?_;refine D7 Z Bs (b:=y4.2 != 0) (fun c14=>?_) (fun c14=>?_)
   .replace h:=itT c14 h;obtain⟨c0,h⟩:=H1 h;obtain rfl:=C6 h;have j:SD c=some (.iface 149 (pI .i64 y4.2)):=by
     have:¬y4.2=0:=by simpa using c14
     rw[<- c0];simp[SD,this]
    refine Uh Z Bs (x:=.iface 149 (pI .i64 y4.2)) ?_;exact Te Z Bs (x:=.iface 149 (pI .i64 y4.2)) (objs:=[(.cells [.p (vSl 2 A0 q0)]),.cells [.p (vSl 18 A8 q1)],.yld [] true]) [0,1,2] ⟨true,rfl,rfl,fun _=>by rw[j];rfl,fun e=>nomatch e⟩
   replace h:=itF c14 h;obtain⟨L5,rfl,f⟩:=KC h;replace h:=f;refine Ci Z Bs (ys:=(fun (x:Int×(Sl A1))=>[pI .i64 x.1,vSl 2 A0 x.2]) (wrap .i64 (x2+1),y4.1)) (rest:=L5.map (fun (x:Int×(Sl A1))=>[pI .i64 x.1,vSl 2 A0 x.2])) ?_ ?_
   .refine D7 Z Bs (b:=false) (fun c15=>?_) (fun c15=>?_)
    .exact Bool.noConfusion ((rfl:false=false).symm.trans c15)
    exact i _ [(0,0),(1,1),(2,2)] _ y4.1 (wrap .i64 (x2+1)) L5 Bs h
   refine D7 Z Bs (b:=true) (fun c16=>?_) (fun c16=>?_)
   .exact A6 Z Bs (a:=.tup []) (objs:=[(.cells [.p (vSl 2 A0 q0)]),.cells [.p (vSl 18 A8 q1)],.yld [] false]) ⟨[],[(2,.yld [] false),(1,.cells [.p (vSl 18 A8 q1)]),(0,.cells [.p (vSl 2 A0 q0)])]⟩ [0,1,2] (ids:=[(0,0),(1,1),(2,2)]) ⟨false,rfl,rfl,fun e=>(nomatch e),fun _=>⟨_,rfl⟩⟩
   exact Bool.noConfusion (Gf.symm.trans c16)
  obtain⟨c0,h⟩:=H1 h;obtain rfl:=C6 h;exact A6 Z Bs (a:=.tup []) (objs:=[(.cells [.p (vSl 2 A0 q0)]),.cells [.p (vSl 18 A8 q1)],.yld [] true]) ⟨[],[(2,.yld [] true),(1,.cells [.p (vSl 18 A8 q1)]),(0,.cells [.p (vSl 2 A0 q0)])]⟩ [0,1,2] (ids:=[(0,0),(1,1),(2,2)]) ⟨true,rfl,rfl,fun _=>by subst c0;exact⟨_,rfl⟩,fun e=>(nomatch e)⟩
 refine D7 Z Bs (b:=true) (fun c17=>?_) (fun c17=>?_)
 .exact A6 Z Bs (a:=.tup []) (objs:=[(.cells [.p (vSl 2 A0 q0)]),.cells [.p (vSl 18 A8 q1)],.yld [] false]) ⟨[],[(2,.yld [] false),(1,.cells [.p (vSl 18 A8 q1)]),(0,.cells [.p (vSl 2 A0 q0)])]⟩ [0,1,2] (ids:=[(0,0),(1,1),(2,2)]) ⟨false,rfl,rfl,fun e=>(nomatch e),fun _=>⟨_,rfl⟩⟩
 exact Bool.noConfusion (Gf.symm.trans c17)
def BD (N:Nat)(a:Sl Law)(b:Sl A1):Option ((Sl A1)×(Sl Law)):= some (b,a)
theorem Ev {a:Sl Law}{b:Sl A1}{y:(Sl A1)×(Sl Law)}(h:BD N a b=some y) :FunO S Er [.p (vSl 18 A8 a),.p (vSl 2 A0 b)] [] (.clo K4 [] [.reg 0 0,.reg 1 0]) ([.cells [.p (vSl 2 A0 y.1)],.cells [.p (vSl 18 A8 y.2)]]) []:=by unfold BD at h;refine A4 Z func128 ?_;obtain rfl:=C6 h;exact A6 Z Bs ⟨[(4,.clo K4 [] [.reg 4000 0,.reg 3000 0])],[(4000,.cells [.p (vSl 2 A0 b)]),(3000,.cells [.p (vSl 18 A8 a)])]⟩ [4000,3000] (ids:=[(3000,3000),(4000,4000)]) ⟨rfl,rfl,rfl⟩
def I3 (N:Nat)(c:Int)(a:Sl Law)(d:Sl A1):Option (Sl A1):= (BD N a d).bind fun y1=>(Ad N c y1.1 y1.2).bind fun L1=>Z8 L1 (fun b (x1:Int×(Sl A1)) (z1:Sl A1)=>b x1.2) (fun (z1:Sl A1)=>some z1) (Sl.nil:Sl A1)
theorem Gi {a:Sl Law}{b:Sl A1}{y:Sl A1}(h:I3 N 0 a b=some y) :FunO S F8 [.p (vSl 18 A8 a),.p (vSl 2 A0 b)] [] (.p (vSl 2 A0 y)) ([]) []:=by
 unfold I3 at h;refine A4 Z func111 ?_;refine kC Z h (Ev Z Y) (fun y1 h=>?_);obtain⟨L1,e2,h⟩:=B6 h;have f:HU S K4 [] [.reg 0 0,.reg 1 0] [.cells [.p (vSl 2 A0 y1.1)],.cells [.p (vSl 18 A8 y1.2)]] (L1.map (fun (x:Int×(Sl A1))=>[pI .i64 x.1,vSl 2 A0 x.2])) none:=CR Z Y e2;refine OK Z Bs [8000,8001] [4] 901 (fun z1=>⟨[(4,.reg 5000 0)],[(5000,.cells [.p (vSl 2 A0 z1)])]⟩) (idl:=[(5000,5000)]) h f (fun _=>by kernel_rfl) (fun _=>by kernel_rfl) (fun _=>by kernel_rfl) (fun _=>by kernel_rfl) (fun x1 _ c z1 d h=>?_) (fun z1 h=>?_)
 .refine HS Z Bs ?_;exact d _ [(901,901),(5000,5000)] _ x1.2 Bs h
 cases h;exact kR Z
theorem Gj {c:Int}{a:Sl Law}{b:Sl A1}{y:Sl A1}(hc:c≠0)(h:I3 N c a b=some y) :S.F F8 [.p (vSl 18 A8 a),.p (vSl 2 A0 b)] [] fun res o k=>res=.panic (.iface 149 (pI .i64 c))/\o=[]/\k=[]:=by
 unfold I3 at h;refine Sy Z func111 ?_;refine kC Z h (Ev Z Y) (fun y1 h=>?_);obtain⟨L1,e2,h⟩:=B6 h;have g:HU S K4 [] [.reg 0 0,.reg 1 0] [.cells [.p (vSl 2 A0 y1.1)],.cells [.p (vSl 18 A8 y1.2)]] (L1.map (fun (x:Int×(Sl A1))=>[pI .i64 x.1,vSl 2 A0 x.2])) (some (.iface 149 (pI .i64 c))):=by
  have:=CR Z Y e2
  simpa[SD,hc]using this
 refine OK Z Bs [8000,8001] [4] 901 (fun z1=>⟨[(4,.reg 5000 0)],[(5000,.cells [.p (vSl 2 A0 z1)])]⟩) (idl:=[(5000,5000)]) h g (fun _=>by kernel_rfl) (fun _=>by kernel_rfl) (fun _=>by kernel_rfl) (fun _=>by kernel_rfl) (fun x1 _ d z1 f h=>?_) (fun z1 h=>?_)
 .refine HS Z Bs ?_;exact f _ [(901,901),(5000,5000)] _ x1.2 Bs h
 exact Te Z Bs (x:=.iface 149 (pI .i64 c)) (objs:=[]) [] ⟨rfl,rfl,rfl⟩
def Ae (N:Nat)(a:Sl Law)(b:Sl A1):Option ((Sl A1)×Bool):=
 match I3 N 0 a b with
 |some y=>some (y,true)
 |none=>(I3 N 11 a b).bind fun _=>some ((Sl.nil:Sl A1),false)
theorem GW {b:Sl Law}{c:Sl A1}{y:(Sl A1)×Bool}(h:Ae N b c=some y) :FunO S CN [.p (vSl 18 A8 b),.p (vSl 2 A0 c)] [] (.tup [.p (vSl 2 A0 y.1),pB y.2]) ([]) []:=by
 unfold Ae at h;refine A4 Z func82 ?_;rcases e:I3 N 0 b c with _|z
 .rw[e]at h;obtain⟨z,e1,h⟩:=B6 h;obtain rfl:=C6 h;refine B7 Z [7000,3000,4000,5000] Bs (Y.attP (Gj Z Y (by decide) e1)) ?_;refine G8 Z Bs [(0,.l [5000]),(1,.l [7000]),(3,.a [5000])] ?_;refine K0 Bs ?_;exact A6 Z Bs ⟨[(5,pB false),(4,.reg 5000 0)],[(5000,.cells [.p (vSl 2 A0 Sl.nil)])]⟩ [] (ids:=[(5000,5000)]) ⟨rfl,rfl,rfl⟩
 rw[e]at h;obtain rfl:=C6 h;refine B7 Z [7000,3000,4000,5000] Bs (Y.attR (Gi Z Y e)) ?_;refine G8 Z Bs [(0,.l [5000]),(1,.l [7000]),(3,.a [5000])] ?_;refine K0 Bs ?_;exact A6 Z Bs ⟨[(5,pB true),(4,.reg 5000 0)],[(5000,.cells [.p (vSl 2 A0 z)])]⟩ [] (ids:=[(5000,5000)]) ⟨rfl,rfl,rfl⟩
end Go.AM
namespace Go.AM
open Go.Proofs
set_option maxRecDepth 10000
set_option maxHeartbeats 2000000
variable {S:O7}(Z:E7 S Tryz.prog) (Y:GK S)
include Z Y
def W5 (N:Nat)(a:Sl Law)(b:Sl A1):Option ((Sl A1)×Int):= (BC N a (Sl.of [b]:Sl (Sl A1))).bind fun y1=>if (y1 != 0) then some ((Sl.nil:Sl A1),y1) else (Ae N a b).bind fun y2=>if (!y2.2) then some ((Sl.nil:Sl A1),11) else some (y2.1,0)
theorem Dz {N:Nat}{a:Sl Law}{b:Sl A1}{y:(Sl A1)×Int}(h:W5 N a b=some y) :FunO S Dh [.p (vSl 18 A8 a),.p (vSl 2 A0 b)] [] (.tup [.p (vSl 2 A0 y.1),pN y.2]) ([]) []:=by
 unfold W5 at h;refine A4 Z Tryz.func32 ?_;refine W9 Z Gf ⟨[(11,.vec 12000),(9,.p (vSl 18 A8 a)),(1,.p (vSl 2 A0 b)),(0,.p (vSl 18 A8 a))],[(12000,.vec B0 1 (Sl.of [b]:Sl (Sl A1)).n (fun i=>cL 2 A0 ((Sl.of [b]:Sl (Sl A1)).g i)) false)]⟩ (ids:=[(12000,12000)]) ?_ (hle:=klR [(3,.fn 1 (Sl.of [b]:Sl (Sl A1)).n (B8 [E3] [(0,cL 2 A0 b)]) (fun i=>cL 2 A0 ((Sl.of [b]:Sl (Sl A1)).g i)))] (al1 ⟨rfl,(fun i c=>match i,c with|0,_=>rfl|_+1,c=>Ba c (by omega))⟩ al0));refine kC Z h (Jr Z Y) (fun y1 h=>?_);apply kI Z h<;>intro h
 .obtain rfl:=C6 h;exact A6 Z Bs ⟨[(5,pN y1),(4,.p (vSl 2 A0 (Sl.nil:Sl A1)))],[]⟩ [] (ids:=[]) ⟨rfl,rfl,rfl⟩
 refine kC Z h (GW Z Y) (fun y2 h=>?_);apply kI Z h<;>intro h
 .obtain rfl:=C6 h;exact A6 Z Bs ⟨[(5,pN 11),(4,.p (vSl 2 A0 (Sl.nil:Sl A1)))],[]⟩ [] (ids:=[]) ⟨rfl,rfl,rfl⟩
 cases h;exact kR Z
end Go.AM
