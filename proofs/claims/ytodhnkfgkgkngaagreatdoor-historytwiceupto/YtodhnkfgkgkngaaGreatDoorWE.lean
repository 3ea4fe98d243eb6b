/- What a law's walk and its plain proof need, part 5: no condition of its own. -/
import Derived.Test.YtodhnkfgkgkngaaGreatDoorWD
import Derived.Test.YtodhnkfgkgkngaaGreatDoorWC
import Derived.RecoverIn
import Derived.Test.YtodhnkfgkgkngaaGreatDoorProg
import Derived.Lib.SlTrimSet
import Derived.TacticsInMore
set_option linter.defProp false
set_option linter.unusedSimpArgs false
set_option linter.unusedVariables false
set_option linter.unusedSectionVars false
namespace Go.AM
noncomputable abbrev Ae3:=Go.Proofs.Tryz.prog.funcs
def Au2:=@BitVec.toNat_ofNat
def Uv (D:List Deferred)(a:Act):Act:={ a with defers:=a.defers++D }
theorem CW (D:List Deferred)(a:Act)(d:Option Tmp)(v:Value):(Uv D a).put d v=Uv D (a.put d v):=by cases d<;>rfl
theorem Gc {F:Fence}{n:Nat}{P:Program}{ops:Array Oper}{Q:Exit->Act->World->Prop}(D:List Deferred):∀(l:List Nat) (a:Act) (w:World),wpOpsIn F n P ops Q l a w ->
 wpOpsIn F n P ops (fun e a' w'=>∃a0,a' = Uv D a0/\Q e a0 w') l (Uv D a) w
 |[],a,w,h=>⟨a,rfl,h⟩
 |i::l,a,w,h=>by
  have ih:=Gc (F:=F) (n:=n) (P:=P) (ops:=ops) (Q:=Q) D l;simp only[wpOpsIn]at h⊢;have e1:(Uv D a).eval=a.eval:=by funext x;cases x<;>rfl
  have e2:(Uv D a).tmps=a.tmps:=rfl;cases j:ops[i]? with
  |none=>simp only[j]at h⊢;exact ih a w h
  |some o=>
   simp only[j]at h⊢;rw[e2,e1];by_cases hw:Region.wanted o (yielded ops a.tmps)=true
   ·rw[if_pos hw]at h⊢;refine⟨by rw[e1];exact h.1,?_⟩;have b:=h.2;rw[e1];generalize (o.semAt F.round a.eval).run P w=r at b;unfold Oper.uponIn at b⊢;split at b
    ·rw[CW];exact ih _ _ b
    ·rw[CW];exact ih _ _ b
    ·exact ih _ _ b |> fun x=>by
      rename_i d w'
      have:({ (Uv D a)with defers:=d::(Uv D a).defers }:Act).put o.dst undef=Uv D (({ a with defers:=d::a.defers }:Act).put o.dst undef):=by rw[<- CW];rfl
      rw[this];exact x
    ·refine⟨b.1,b.2.mono ?_⟩;intro e w' f;cases e with
     |returned v=>have:=ih _ _ f;rw[<- CW]at this;exact this
     |panicked ch=>exact⟨a,rfl,f⟩
     |outgrown=>obtain⟨a1,w1,g⟩:=f;exact⟨Uv D a1,w1,a1,rfl,g⟩
    ·refine⟨b.1,fun c cs m=>?_⟩;obtain⟨v,w',g1,g2⟩:=b.2 c cs m;exact⟨v,w',by have:=ih _ _ g1;rw[<- CW]at this;exact this,g2⟩
    ·refine⟨b.1,b.2.mono ?_⟩;intro e w' f;cases e with
     |returned v=>have:=ih _ _ f;rw[<- CW]at this;exact this
     |panicked ch=>exact⟨a,rfl,f⟩
     |outgrown=>obtain⟨a1,w1,g⟩:=f;exact⟨Uv D a1,w1,a1,rfl,g⟩
    ·exact⟨a,rfl,b⟩
    ·exact b.elim
   ·rw[if_neg hw]at h⊢;rw[CW];exact⟨h.1,ih _ _ h.2⟩
section
variable {P:Program}{C:Ctx}{st:St}{rho:Nat->Value}
theorem CX {fn:Func}{R:Ending->World->Prop}{u:FrameMode}(c:u ≠ .run){tmps:Array Value}{D:List Deferred}(b:∀a w,Sat C st a w rho->a.tmps=tmps->LeavesInM Fence.wide 0 P fn tmps R D u w) :∀(ds:List Deferred) (a:Act) (w:World),a.defers=ds->a.tmps=tmps->Sat C st a w rho->LeavesInM Fence.wide 0 P fn tmps R (ds++D) u w
 |[],a,w,hd,ht,h=>b a w h ht
 |d::ds,a,w,hd,ht,h=>by obtain⟨r,w',h1,f,g⟩:=h.unmark hd;exact⟨c,.inl ⟨r,w',h1,f,CX c b ds { a with defers:=ds } w' rfl ht g⟩⟩
end
end Go.AM
namespace Go.AM
structure E2 where
 Parent:Int
 Name:Str
 deriving Inhabited,DecidableEq
abbrev B7 (x:E2):List PV:=[(pI .i64 x.Parent),.str x.Name]
structure Sound where
 Plus:Int
 Minus:Int
 deriving Inhabited,DecidableEq
abbrev A0 (x:Sound):List PV:=[(pI .u32 x.Plus),pI .u32 x.Minus]
inductive Pat where
 |nil
 |mk (Kind:Int) (Is:Sound) (Not:Bool) (Min:Int) (Max:Int) (n:Nat) (g:Nat->Pat)
instance:Inhabited Pat:=⟨.nil⟩
def Pat.Kind:Pat->Int
 |.nil=>0
 |.mk x _ _ _ _ _ _=>x
def Pat.Is:Pat->Sound
 |.nil=>default
 |.mk _ x _ _ _ _ _=>x
def Pat.Not:Pat->Bool
 |.nil=>false
 |.mk _ _ x _ _ _ _=>x
def Pat.Min:Pat->Int
 |.nil=>0
 |.mk _ _ _ x _ _ _=>x
def Pat.Max:Pat->Int
 |.nil=>0
 |.mk _ _ _ _ x _ _=>x
def Pat.L:Pat->Sl Pat
 |.nil=>⟨0,fun _=>.nil⟩
 |.mk _ _ _ _ _ n g=>⟨n,g⟩
def Ak:Pat->Nat->List PV
 |.nil=>fun _=>[]
 |.mk _ _ _ _ _ n g=>fun i=>[(pI .i64 (g i).Kind),pI .u32 (g i).Is.Plus,pI .u32 (g i).Is.Minus,.bb (g i).Not,pI .i64 (g i).Min,pI .i64 (g i).Max,.sl false 7 (g i).L.n (Ak (g i))]
abbrev B2 (x:Pat):List PV:=[(pI .i64 x.Kind),pI .u32 x.Is.Plus,pI .u32 x.Is.Minus,.bb x.Not,pI .i64 x.Min,pI .i64 x.Max,.sl false 7 x.L.n (Ak x)]
theorem Q1 (x:Pat):∀i,i<x.L.n->Ak x i=B2 (x.L.g i):=by
 cases x with
 |nil=>intro i a;exact absurd (show i<0 from a) (by omega)
 |mk Kind Is Not Min Max n g=>exact fun _ _=>rfl
structure Z4 where
 From:Int
 Clear:Int
 Set:Sound
 Take:Int
 Of:Int
 deriving Inhabited,DecidableEq
abbrev O2 (x:Z4):List PV:=[(pI .i64 x.From),pI .u32 x.Clear,pI .u32 x.Set.Plus,pI .u32 x.Set.Minus,pI .u32 x.Take,pI .i64 x.Of]
structure Law where
 Name:Str
 Left:Pat
 Right:Pat
 If:(Sl Sound)
 Out:(Sl Z4)
 Mode:Int
 deriving Inhabited
abbrev A8 (x:Law):List PV:=[(.str x.Name),pI .i64 x.Left.Kind,pI .u32 x.Left.Is.Plus,pI .u32 x.Left.Is.Minus,.bb x.Left.Not,pI .i64 x.Left.Min,pI .i64 x.Left.Max,.sl false 7 x.Left.L.n (Ak x.Left),pI .i64 x.Right.Kind,pI .u32 x.Right.Is.Plus,pI .u32 x.Right.Is.Minus,.bb x.Right.Not,pI .i64 x.Right.Min,pI .i64 x.Right.Max,.sl false 7 x.Right.L.n (Ak x.Right),vSl 2 A0 x.If,vSl 6 O2 x.Out,pI .i64 x.Mode]
structure A5 where
 Tree:(Sl E2)
 Laws:(Sl Law)
 On:(Sl (Sl Int))
 deriving Inhabited
abbrev A2 (x:A5):List PV:=[(vSl 2 B7 x.Tree),vSl 18 A8 x.Laws,vSl 1 (cL 1 (cI .i64)) x.On]
structure DX where
 Parents:(Sl Int)
 Laws:(Sl Law)
 On:(Sl Int)
 deriving Inhabited
abbrev AY (x:DX):List PV:=[(vSl 1 (cI .u8) x.Parents),vSl 18 A8 x.Laws,vSl 1 (cI .u16) x.On]
structure P8 where
 w:(Sl Sound)
 e:Int
 deriving Inhabited
abbrev H4 (x:P8):List PV:=[(vSl 2 A0 x.w),pI .i64 x.e]
inductive Part where
 |nil
 |sound (x:Sound) (no:Bool)
 |edge (e:Bool)
 |seq (n:Nat) (g:Nat->Part)
 |alt (n:Nat) (g:Nat->Part)
 |rep (o:Part) (mn mx:Int)
instance:Inhabited Part:=⟨.nil⟩
def Part.t:Part->Nat
 |.nil=>0
 |.sound _ _=>221
 |.edge _=>223
 |.seq _ _=>228
 |.alt _ _=>225
 |.rep _ _ _=>227
def Part.v:Part->PV
 |.nil=>.bb false
 |.sound x no=>.agg [pI .u32 x.Plus,pI .u32 x.Minus,.bb no]
 |.edge e=>.agg [.bb e]
 |.seq n g=>.agg [.sl false 1 n fun i=>[.iface (g i).t (g i).v]]
 |.alt n g=>.agg [.sl false 1 n fun i=>[.iface (g i).t (g i).v]]
 |.rep o mn mx=>.agg [.iface o.t o.v,pI .i64 mn,pI .i64 mx]
abbrev DY (x:Part):PV:=.iface x.t x.v
abbrev CA (x:Part):List PV:=[DY x]
structure Uw where
 is:Sound
 not:Bool
 deriving Inhabited,DecidableEq
abbrev Rt (x:Uw):List PV:=[(pI .u32 x.is.Plus),pI .u32 x.is.Minus,.bb x.not]
structure YT where
 end_:Bool
 deriving Inhabited,DecidableEq
abbrev YU (x:YT):List PV:=[(.bb x.end_)]
structure Palt where
 l:(Sl Part)
 deriving Inhabited
abbrev Ab3 (x:Palt):List PV:=[(vSl 1 CA x.l)]
structure Prep where
 of:Part
 min:Int
 max:Int
 deriving Inhabited
abbrev Ab4 (x:Prep):List PV:=[(DY x.of),pI .i64 x.min,pI .i64 x.max]
structure Pseq where
 l:(Sl Part)
 deriving Inhabited
abbrev Ab5 (x:Pseq):List PV:=[(vSl 1 CA x.l)]
end Go.AM
namespace Go.AM
open Go.Proofs
abbrev X2:Nat:=7
abbrev IX:Nat:=12
abbrev IY:Nat:=13
abbrev Hx:Nat:=14
abbrev DZ:Nat:=16
abbrev DB:Nat:=18
abbrev Ja:Nat:=20
abbrev Jb:Nat:=21
abbrev EL:Nat:=23
abbrev EM:Nat:=27
abbrev Lm:Nat:=28
abbrev DC:Nat:=29
abbrev Ea:Nat:=30
abbrev Gd:Nat:=31
abbrev Eb:Nat:=32
abbrev EN:Nat:=33
abbrev Je:Nat:=34
abbrev Ux:Nat:=35
abbrev Uy:Nat:=36
abbrev Ge:Nat:=47
abbrev Ec:Nat:=48
abbrev Uz:Nat:=49
abbrev Ln:Nat:=55
abbrev Lo:Nat:=56
abbrev Lp:Nat:=57
abbrev Ed:Nat:=58
abbrev EO:Nat:=59
abbrev Gf:Nat:=60
abbrev EP:Nat:=61
abbrev Gg:Nat:=65
abbrev F1:Nat:=66
abbrev Hy:Nat:=69
abbrev Hz:Nat:=70
abbrev K6:Nat:=72
abbrev DD:Nat:=73
abbrev U9:Nat:=74
abbrev Jh:Nat:=75
abbrev Ji:Nat:=76
abbrev HA:Nat:=77
abbrev HB:Nat:=78
abbrev Ee:Nat:=79
abbrev Gh:Nat:=80
abbrev EQ:Nat:=81
abbrev DE:Nat:=82
abbrev Q2:Nat:=83
abbrev Lq:Nat:=87
abbrev AO:Nat:=88
abbrev CY:Nat:=89
abbrev Y0:Nat:=90
abbrev HC:Nat:=93
abbrev J3:Nat:=94
abbrev S9:Nat:=96
abbrev N1:Nat:=97
abbrev Gi:Nat:=98
abbrev Lr:Nat:=99
abbrev Gj:Nat:=100
abbrev Gk:Nat:=101
abbrev Jl:Nat:=102
abbrev HD:Nat:=103
abbrev G4:Nat:=104
abbrev H8:Nat:=105
abbrev HE:Nat:=106
abbrev Ef:Nat:=107
abbrev ER:Nat:=108
abbrev G8:Nat:=109
abbrev O3:Nat:=110
abbrev G0:Nat:=111
abbrev V2:Nat:=112
abbrev AP:Nat:=118
abbrev BU:Nat:=120
abbrev ES:Nat:=121
abbrev J9:Nat:=122
abbrev H5:Nat:=123
abbrev J4:Nat:=124
abbrev Gl:Nat:=125
abbrev H9:Nat:=126
abbrev DH:Nat:=127
abbrev ET:Nat:=128
abbrev HF:Nat:=141
abbrev D2:Nat:=142
abbrev J5:Nat:=143
abbrev M0:Nat:=144
abbrev Jn:Nat:=145
abbrev Jo:Nat:=152
abbrev Jp:Nat:=160
abbrev Oq:Nat:=161
abbrev CZ:Nat:=169
abbrev Ls:Nat:=170
abbrev I7:Nat:=171
abbrev Or:Nat:=172
abbrev Ot:Nat:=173
abbrev Gm:Nat:=174
abbrev BF:Nat:=181
abbrev HG:Nat:=182
abbrev CB:Nat:=183
abbrev F7:Nat:=184
abbrev EU:Nat:=185
abbrev HH:Nat:=186
abbrev P5:Nat:=192
abbrev Gn:Nat:=193
abbrev Jq:Nat:=194
abbrev Jr:Nat:=195
abbrev Js:Nat:=196
abbrev Gp:Nat:=203
abbrev Gq:Nat:=204
abbrev AG:Nat:=205
abbrev EV:Nat:=206
abbrev Eh:Nat:=207
abbrev Af:Nat:=208
abbrev P0:Nat:=209
abbrev W0:Nat:=210
abbrev K7:Nat:=211
abbrev Al:Nat:=227
abbrev Bk:Nat:=228
abbrev BV:Nat:=229
abbrev Da:Nat:=230
abbrev BG:Nat:=231
abbrev Db:Nat:=232
abbrev Ej:Nat:=233
abbrev U1:Nat:=234
abbrev Dc:Nat:=235
abbrev C0:Nat:=3
abbrev Gs:Nat:=4
abbrev Dd:Nat:=9
abbrev B1:Nat:=27
abbrev G2:Nat:=48
abbrev B3:Nat:=51
abbrev CC:Nat:=54
abbrev P1:Nat:=57
abbrev BH:Nat:=58
abbrev Qf:Nat:=63
abbrev D9:Nat:=96
abbrev Ox:Nat:=114
abbrev Qg:Nat:=214
end Go.AM
namespace Go.AM
abbrev U (x:BitVec 64):Int:=(x.toNat:Int)
end Go.AM
namespace Go.AM
open Go.Proofs
abbrev WM:List AV:=[.reg 0 0,.reg 1 0,.reg 2 0,.reg 3 0]
abbrev Qh (c:Int)(a:Sl Law)(b:Sl Sound)(y:PV):List Obj:=[.cells [pN c],.cells [.p (vSl 18 A8 a)],.cells [.p (vSl 2 A0 b)],.cells [.p y]]
structure JS (S:U5):Prop where
 attR:∀{a:Sl Law}{b y:Sl Sound},FunO S G0 [.p (vSl 18 A8 a),.p (vSl 2 A0 b)] [] (.p (vSl 2 A0 y)) [] []->FunO S G8 WM (Qh 0 a b E1) (.tup []) (Qh 0 a b (vSl 2 A0 y)) [true,true,true,true]
 attP:∀{a:Sl Law}{b:Sl Sound}{c:Int},(S.F G0 [.p (vSl 18 A8 a),.p (vSl 2 A0 b)] [] fun res o k=>res=.panic (.iface 149 (pI .i64 c))/\o=[]/\k=[])->FunO S G8 WM (Qh 0 a b E1) (.tup []) (Qh c a b E1) [true,true,true,true]
 tz:∀x:BitVec 64,VD S K7 [.p (pI .u64 (U x))] (.p (pI .i64 (Lib.ctz 64 x.toNat:Nat)))
 trim:∀s c:Str,s.length<1000000000000->c.length<1000000->(∀b∈c,b.toNat<128)->VD S BU [.p (.str s),.p (.str c)] (.p (.str (Lib.trimS s c)))
 growS:∀(f:Nat->List PV) (n:Nat),n*8<=140737488355328->FunO S F7 [.p E1,.p (pI .i64 (n:Int))] [] (.vec 0) [.vec B3 2 0 f false] []
def R7 (N:Nat)(x:Int):Option Int:=if 0<=x/\x<18446744073709551616 then some ((Lib.ctz 64 x.toNat:Nat):Int)else none
def BW (N:Nat)(s c:Str):Option Str:=if s.length<1000000000000/\c.length<1000000/\(c.all fun b=>decide (b.toNat<128)) then some (Lib.trimS s c)else none
def K0 (N:Nat)(n:Int):Option (Sl Sound):=if 0<=n/\n*8<=140737488355328 then some (Sl.nil:Sl Sound)else none
section
variable {S:U5}(hS:F6 S Tryz.prog) (hL:JS S)
include hS hL
theorem Bl {N:Nat}{x y:Int}(h:R7 N x=some y):FunO S K7 [.p (pI .u64 x)] [] (.p (pI .i64 y)) [] []:=by
 obtain⟨⟨a,h1⟩,h⟩:=E6 h;obtain rfl:=C6 h
 have:=hL.tz (BitVec.ofNat 64 x.toNat)
 have e:(BitVec.ofNat 64 x.toNat).toNat=x.toNat:=by rw[Au2];omega
 have e2:U (BitVec.ofNat 64 x.toNat)=x:=by show ((BitVec.ofNat 64 x.toNat).toNat:Int)=x;rw[e];omega
 rw[e,e2]at this;exact this
theorem Ks {N:Nat}{s c:Str}{y:Str}(h:BW N s c=some y):FunO S BU [.p (.str s),.p (.str c)] [] (.p (.str y)) [] []:=by obtain⟨⟨a,h1,d⟩,h⟩:=E6 h;obtain rfl:=C6 h;exact hL.trim s c a h1 fun b hb=>by simpa using Af5.1 d b hb
theorem V6 {N:Nat}{n:Int}{y:Sl Sound}(h:K0 N n=some y):FunO S F7 [.p E1,.p (pI .i64 n)] [] (.vec 0) [.vec B3 2 y.n (fun i=>A0 (y.g i)) false] []:=by
 obtain⟨⟨a,h1⟩,h⟩:=E6 h;obtain rfl:=C6 h
 have:=hL.growS (fun i=>A0 default) n.toNat (by omega)
 rw[show ((n.toNat:Nat):Int)=n by omega]at this;exact this
def A6 (N:Nat)(s:Sl Sound):Option (Sl Sound):=if (0+s.n)*8<=140737488355328/\0+s.n<=140737488355328 then some s else none
theorem F2 {N:Nat}{s y:Sl Sound}(h:A6 N s=some y):FunO S F1 [.p (vSl 2 A0 s)] [] (.vec 0) [.vec B3 2 y.n (fun i=>A0 (y.g i)) true] []:=by
 unfold A6 at h;obtain⟨c1,h⟩:=E6 h;obtain rfl:=C6 h;refine A4 hS Tryz.func66 ?_;refine Ur hS trivial 3 (k:=2) (n:=s.n) (f:=fun i=>A0 (s.g i)) (fun a=>?_) ?_
 ·obtain⟨n,g⟩:=s;obtain rfl:n=0:=a;exact A9 hS trivial ⟨[(2,.vec 3700)],[(3700,.vec B3 2 0 (fun i=>A0 (g i)) true)]⟩ [3700] (ids:=[]) ⟨rfl,rfl,rfl⟩
 ·exact A9 hS (And.intro (rfl:true=true) c1) ⟨[(2,.vec 8000)],[(8000,.vec B3 2 s.n (fun i=>A0 (s.g i)) true)]⟩ [8000] (ids:=[(8000,8000)]) ⟨rfl,rfl,rfl⟩
   (hle:=klR [(0,.fn (0+s.n) s.n (X3 0 (D8 [pI .u32 0,pI .u32 0] []) (fun i=>A0 (s.g i))) (fun i=>A0 (s.g i)))] (al1 ⟨Ai2 _,fun i _=>by simp[X3]⟩ al0))
def E3 (N:Nat)(s:Sl Z4):Option (Sl Z4):=if (0+s.n)*32<=140737488355328/\0+s.n<=140737488355328 then some s else none
theorem T2 {N:Nat}{s y:Sl Sound}(h:A6 N s=some y):FunO S F1 [.p (vSl 2 A0 s)] [] (.p (vSl 2 A0 y)) [] []:=by
 unfold A6 at h;obtain⟨c1,h⟩:=E6 h;obtain rfl:=C6 h;refine A4 hS Tryz.func66 ?_;refine Ur hS trivial 3 (k:=2) (n:=s.n) (f:=fun i=>A0 (s.g i)) (fun a=>?_) ?_
 ·obtain⟨n,g⟩:=s;obtain rfl:n=0:=a;exact A9 hS trivial ⟨[(2,.p (vSl 2 A0 ⟨0,g⟩))],[]⟩ [] (ids:=[]) ⟨rfl,rfl,rfl⟩
 ·exact A9 hS (And.intro (rfl:true=true) c1) ⟨[(2,.p (vSl 2 A0 s))],[]⟩ [] (ids:=[]) ⟨rfl,rfl,rfl⟩
   (hle:=klR [(0,.fn (0+s.n) s.n (X3 0 (D8 [pI .u32 0,pI .u32 0] []) (fun i=>A0 (s.g i))) (fun i=>A0 (s.g i)))] (al1 ⟨Ai2 _,fun i _=>by simp[X3]⟩ al0))
theorem X1 {N:Nat}{s y:Sl Z4}(h:E3 N s=some y):FunO S N1 [.p (vSl 6 O2 s)] [] (.p (vSl 6 O2 y)) [] []:=by
 unfold E3 at h;obtain⟨c1,h⟩:=E6 h;obtain rfl:=C6 h;refine A4 hS Tryz.func97 ?_;refine Ur hS trivial 3 (k:=6) (n:=s.n) (f:=fun i=>O2 (s.g i)) (fun a=>?_) ?_
 ·obtain⟨n,g⟩:=s;obtain rfl:n=0:=a;exact A9 hS trivial ⟨[(2,.p (vSl 6 O2 ⟨0,g⟩))],[]⟩ [] (ids:=[]) ⟨rfl,rfl,rfl⟩
 ·exact A9 hS (And.intro (rfl:true=true) c1) ⟨[(2,.p (vSl 6 O2 s))],[]⟩ [] (ids:=[]) ⟨rfl,rfl,rfl⟩
   (hle:=klR [(0,.fn (0+s.n) s.n (X3 0 (D8 [pI .i64 0,pI .u32 0,pI .u32 0,pI .u32 0,pI .u32 0,pI .i64 0] []) (fun i=>O2 (s.g i))) (fun i=>O2 (s.g i)))] (al1 ⟨Ai2 _,fun i _=>by simp[X3]⟩ al0))
end
end Go.AM
set_option maxRecDepth 100000
namespace Go.AM
open Go.Proofs
theorem SU (v:Value)(w:World):(Instr.typeAssert (.iface 149 v) 20 149 true).run Tryz.prog w=.ok (.tuple #[v,.bool true]) w:=by kernel_rfl
theorem Qi (p:Value)(w:World):CallsDIn Fence.wide 0 Tryz.prog O3 #[p] .returning w fun e u' w'=>e=.returned (.tuple #[])/\u' = .returning/\w' = w:=by
 refine callsDIn_of_wpSIn Tryz.func110 rfl (by simp[Fence.wide]) fun c₀ cs a=>?_;apply wpSIn_seq;apply wpSIn_region;simp[wpOpsSIn,go_sem,recoverD,a,Tryz.f110,Exit.thenS];refine wpSIn_of_wpIn rfl (wpIn_block (wpIn_seq (wpIn_region ?_)));simp[wpOpsIn,Oper.wpIn,Oper.semAt,Oper.uponIn,go_sem,Exit.then];refine wpIn_cond (t:=true) (by simp[Act.eval]) ?_;simp only[if_true];refine wpIn_region ?_;simp[wpOpsIn,Oper.wpIn,Oper.semAt,Oper.uponIn,go_sem,Exit.inBlock,bodyPostS,results];cases c₀
 simp_all
theorem HV (p:Value)(c:Int)(older:List PanicEntry)(w w1:World)(a:(Instr.storeAt 30 p (.int .i64 c)).run Tryz.prog w=.ok () w1)(hn:∃b,p=.pointer (some b)) :CallsDIn Fence.wide 0 Tryz.prog O3 #[p] (.panicking ({ v:=.iface 149 (.int .i64 c),recovered:=false }::older)) w fun e u' w'=>
  e=.returned (.tuple #[])/\u' = .panicking ({ v:=.iface 149 (.int .i64 c),recovered:=true }::older)/\w' = w1:=by
 obtain⟨b,rfl⟩:=hn;refine callsDIn_of_wpSIn Tryz.func110 rfl (by simp[Fence.wide]) fun c₀ cs d=>?_;apply wpSIn_seq;apply wpSIn_region;simp[wpOpsSIn,go_sem,recoverD,d,Tryz.f110,Exit.thenS];refine wpSIn_of_wpIn rfl (wpIn_block (wpIn_seq (wpIn_region ?_)));simp[wpOpsIn,Oper.wpIn,Oper.semAt,Oper.uponIn,go_sem,Exit.then];refine wpIn_cond (t:=false) (by simp[Act.eval]) ?_;simp only[Af1,if_false];refine wpIn_seq (wpIn_region ?_);simp[wpOpsIn,Oper.wpIn,Oper.semAt,Oper.uponIn,go_sem,Exit.then,SU];refine wpIn_cond (t:=true) (by simp[Act.eval]) ?_;simp only[if_true];refine wpIn_seq (wpIn_region ?_);simp[wpOpsIn,Oper.wpIn,Oper.semAt,Oper.uponIn,go_sem,Exit.then];refine wpIn_region ?_;simp[wpOpsIn,Oper.wpIn,Oper.semAt,Oper.uponIn,go_sem,a,Exit.inBlock,bodyPostS,results];simp[go_sem]at a;rw[a];simp[Result.andThen]
noncomputable def Zr:Code:=match Tryz.f109.body with
 |some (.seq _ c)=>c
 |_=>.skip
theorem YY {S:U5}(hS:F6 S Tryz.prog){a:Sl Law}{b y:Sl Sound}(c:FunO S G0 [.p (vSl 18 A8 a),.p (vSl 2 A0 b)] [] (.p (vSl 2 A0 y)) [] []) :KG S Tryz.prog (Lk S (fun st=>I1 [0,1,2,3] st.regs [0,1,2,3]=some (Qh 0 a b (vSl 2 A0 y))) fun _ _=>False) (.code Zr [] ⟨argEnv WM,objRegs (Qh 0 a b E1)⟩):=by refine C4 hS [] trivial c ?_;exact K_upN hS trivial ⟨[],[(3,.cells [.p (vSl 2 A0 y)]),(2,.cells [.p (vSl 2 A0 b)]),(1,.cells [.p (vSl 18 A8 a)]),(0,.cells [pN 0])]⟩ (ids:=[(0,0),(1,1),(2,2),(3,3)]) rfl
theorem UD {S:U5}(hS:F6 S Tryz.prog){a:Sl Law}{b:Sl Sound}{c:Int}(d:S.F G0 [.p (vSl 18 A8 a),.p (vSl 2 A0 b)] [] fun res o k=>res=.panic (.iface 149 (pI .i64 c))/\o=[]/\k=[]) :KG S Tryz.prog (Lk S (fun _=>False) fun x st=>x=.iface 149 (pI .i64 c)/\store Tryz.prog st.regs 30 (.reg 0 0) (.p (pI .i64 c))=some ([],ins 0 (.cells [pN c]) st.regs)/\I1 [0,1,2,3] (ins 0 (.cells [pN c]) st.regs) [0,1,2,3]=some (Qh c a b E1)) (.code Zr [] ⟨argEnv WM,objRegs (Qh 0 a b E1)⟩):=by refine YR hS [] trivial d ?_;exact K_upP hS trivial ⟨rfl,by kernel_rfl,by kernel_rfl⟩
noncomputable def att1:Code:=match Tryz.f109.body with
 |some (.seq c _)=>c
 |_=>.skip
noncomputable def attOps:Array Oper:=match Zr with
 |.region _ ops _=>ops
 |_=>#[]
theorem Ru:Zr=.region 1 attOps false:=by kernel_rfl
theorem Ab6:attOps.toList.all (EG 7 attOps.toList)=true:=by kernel_rfl
theorem WN:¬Tryz.f109.name = "runtime.NumGoroutine" := by decide +kernel
theorem Rv:Tryz.f109.body=some (.seq att1 Zr):=by kernel_rfl
theorem YZ {C:Ctx}{vs:Array Value}{w:World}{rho:Nat->Value}{args:List AV}{objs:List Obj}{n:Nat}(hS:Sat C ⟨argEnv args,objRegs objs⟩ ⟨vs,[]⟩ w rho)(a:vs.size=args.length) :Sat C ⟨argEnv args,objRegs objs⟩ { tmps:=vs++Array.replicate n undef,defers:=[] } w rho:=by
 refine⟨hS.toSatE,fun t=>?_,hS.pin,hS.marks⟩
 have:=hS.env t
 by_cases ht:t<vs.size
 ·simpa[Ae2,Ak9,ht]using this
 ·show RepA w _ _ _ _ (get (argEnv args) t);rw[W8,Ae0,Ai0 (by omega)];exact .top _
theorem Jw {R:St->Prop}{X:PV->St->Prop}{a:Sl Law}{b:Sl Sound}{objs' : List Obj}
 (a1:KG (EF Tryz.prog) Tryz.prog (Lk (EF Tryz.prog) R X) (.code Zr [] ⟨argEnv WM,objRegs (Qh 0 a b E1)⟩))
 (hR:∀st,R st->I1 [0,1,2,3] st.regs [0,1,2,3]=some objs')
 (hX:∀x st,X x st->∃c regs',x=.iface 149 (pI .i64 c)/\store Tryz.prog st.regs 30 (.reg 0 0) (.p (pI .i64 c))=some ([],regs')/\I1 [0,1,2,3] regs' [0,1,2,3]=some objs') :
 FunO (EF Tryz.prog) G8 WM (Qh 0 a b E1) (.tup []) objs' [true,true,true,true]:=by
 intro 𝒢 C w vs rho hG hS t;obtain⟨l⟩:=vs
 match l,t with
 |[v0,v1,v2,v3],t=>?_
 refine⟨.enter G8 #[v0,v1,v2,v3],w,by simp[callFunc,Tryz.func109,Rv,WN],?_⟩;refine callsIn_of_wp_marks Tryz.func109 Rv trivial ?_;have a2:=YZ (n:=Tryz.f109.ntmps-4) hS t;have a9:Tryz.f109.ntmps-4=3:=rfl;rw[a9]at a2;have b1:((#[v0,v1,v2,v3]:Array Value)++Array.replicate 3 undef).size=7:=rfl;have hw:GE (EF Tryz.prog) Tryz.prog attOps.toList attOps.toList (Lk (EF Tryz.prog) R X) ⟨argEnv WM,objRegs (Qh 0 a b E1)⟩:=by
  have:=a1.out
  rw[Ru]at this;simpa only[G,awp,kp,Af1,if_false]using this
 have a4:=IK (𝒢:=𝒢.fix C.rho0) (n:=7) (ro:=none) (ops:=attOps) Ab6 attOps.toList 0 rfl (by simp) ⟨hG,rfl⟩ a2 b1 hw;have a5:=Gc [{ target:=.fn (.func O3) #[],args:=#[v0] }] _ _ _ a4;rw[Ar3]at a5;obtain⟨b0,a6,u⟩:∃b0,v0=.pointer (some ⟨b0,0,none⟩)/\rho 0=.pointer (some ⟨b0,0,none⟩):=by
  have h0:RepA w _ _ rho v0 (.reg 0 0):=hS.env 0;cases h0 with
  |reg _ _ b0 _ h=>exact⟨b0,rfl,h⟩
 have s:∀{C' : Ctx}{st' : St}{a' : Act}{w' : World}{rho' : Nat->Value},(𝒢.fix C.rho0).G C' -> Sat C' st' a' w' rho' -> I1 [0,1,2,3] st'.regs [0,1,2,3]=some objs' ->
  LeavesInM Fence.wide 0 Tryz.prog Tryz.f109 a'.tmps (fun e w'=>∃C' r objs0 ks rho', 𝒢.G C' /\ (r=.ret (.tup [])/\objs0=objs' /\ ks=[true,true,true,true])/\SatE C' (objRegs objs0) w' rho' /\
   Yn w' (Prv C'.X (A1 (objRegs objs0)) rho') (Lv (A1 (objRegs objs0))) rho' e r/\∀i:Nat,ks[i]? = some true->i<objs0.length/\rho' i=rho i) [] .returning w':=by
  intro C' st' a' w' rho' d f m;obtain⟨g1,g2,g3⟩:=IL f (by decide) m;obtain⟨hl,hg⟩:=S8 m;refine⟨.tuple #[],by simp[results,Tryz.f109],C', .ret (.tup []),objs',_,_,d.1,⟨rfl,rfl,rfl⟩,g1,⟨_,rfl,.tup _ _ rfl fun i hi=>absurd hi (by simp)⟩,?_⟩;intro i hi;have y:i<4:=by
   have:=(Af3.1 hi).1
   simpa using this
  refine⟨by rw[hl];exact y,?_⟩;have e1:[0,1,2,3][i]? = some i:=by
   match i,y with
   |0,_=>rfl
   |1,_=>rfl
   |2,_=>rfl
   |3,_=>rfl
  obtain⟨o,_,ho,_⟩:=hg i i e1;show rho' ([0,1,2,3].getD i 0)=rho i;rw[Aw e1,f.pin i (by omega) (by simp[Lv,ho]),d.2];refine (hS.pin i (by omega) ?_).symm;rw[Lv,C5]
  match i,y with
  |0,_=>rfl
  |1,_=>rfl
  |2,_=>rfl
  |3,_=>rfl
 generalize hQ:bodyPostM _ _ _ _ _=QQ;refine wpIn_seq ?_;simp only[att1,Tryz.f109];refine wpIn_region ?_;simp[wpOpsIn,Oper.wpIn,Oper.semAt,Oper.uponIn,go_sem,Exit.then];subst hQ;rw[Ru];refine wpIn_mono (wpIn_region (F:=FW none) a5) ?_;rintro e a' w' ⟨a0,rfl,z⟩;cases e with
 |exit id=>obtain⟨_,_,_,_,_,_,h⟩:=z;exact h.elim
 |goto l=>obtain⟨_,_,_,_,_,_,h⟩:=z;exact h.elim
 |ret=>obtain⟨_,_,_,_,_,_,h⟩:=z;exact h.elim
 |outgrown=>exact z.elim
 |normal=>
  obtain⟨C',st',rho',d,f,a7,hu⟩:=z;obtain⟨st2,rho2,hR2,_,hs2⟩:=hu C' a0 w' rho' f;refine CX (C:=C') (st:=st2) (rho:=rho2) (by simp) ?_ a0.defers a0 w' rfl rfl hs2;intro a3 w3 q ht;refine⟨by simp,.inr ⟨by simp[Fence.wide],_,_,O3,#[v0],rfl,by simp[go_sem],fun _ _=>trivial,?_⟩⟩;refine (Qi v0 w3).mono ?_;rintro e u' w4 ⟨rfl,rfl,rfl⟩
  have:=s d q (hR st2 hR2)
  rw[ht]at this;exact this
 |panic chain=>
  obtain⟨C',st',rho',v,x,rfl,d,f,a7,hv,hXx⟩:=z;obtain⟨c,regs',rfl,g,m⟩:=hX x st' hXx;obtain rfl:v=.iface 149 (.int .i64 c):=by
   cases hv with
   |iface _ _ _ h=>cases h;rfl
  refine CX (C:=C') (st:=st') (rho:=rho') (by simp) ?_ a0.defers a0 w' rfl rfl f;intro a3 w3 q ht;have j:Lv (A1 st'.regs) 0:=by
   cases hj:A1 st'.regs 0 with
   |some o=>simp[Lv,hj]
   |none=>
    unfold store at g;split at g
    ·simp[hj]at g
    ·cases g
  have hr0:rho' 0=.pointer (some ⟨b0,0,none⟩):=by rw[q.pin 0 (by omega) j,d.2,<- u];exact (hS.pin 0 (by omega) rfl).symm
  have hva:RS C' st' w3 rho' v0 (.reg 0 0):=by rw[a6];exact .reg 0 0 b0 j hr0
  obtain⟨w4,a8,hs4,_⟩:=Iz q (vx:=.int .i64 c) hva (.p _ _ (.v _)) g trivial;refine⟨by simp,.inr ⟨by simp[Fence.wide],_,_,O3,#[v0],rfl,by simp[go_sem],fun _ _=>trivial,?_⟩⟩;refine (HV v0 c [] w3 w4 a8 ⟨_,a6⟩).mono ?_;rintro e u' w5 ⟨rfl,rfl,rfl⟩
  have:=s d hs4 m
  rw[ht]at this;exact this
theorem Qj {a:Sl Law}{b y:Sl Sound}(c:FunO (EF Tryz.prog) G0 [.p (vSl 18 A8 a),.p (vSl 2 A0 b)] [] (.p (vSl 2 A0 y)) [] []) :FunO (EF Tryz.prog) G8 WM (Qh 0 a b E1) (.tup []) (Qh 0 a b (vSl 2 A0 y)) [true,true,true,true]:=
 Jw (YY (Zl Tryz.prog) c) (fun st h=>h) (fun x st h=>h.elim)
theorem MG {a:Sl Law}{b:Sl Sound}{c:Int}(d:(EF Tryz.prog).F G0 [.p (vSl 18 A8 a),.p (vSl 2 A0 b)] [] fun res o k=>res=.panic (.iface 149 (pI .i64 c))/\o=[]/\k=[]) :FunO (EF Tryz.prog) G8 WM (Qh 0 a b E1) (.tup []) (Qh c a b E1) [true,true,true,true]:=
 Jw (UD (Zl Tryz.prog) d) (fun st h=>h.elim) (fun x st h=>⟨c,_,h.1,h.2.1,h.2.2⟩)
end Go.AM
namespace Go.AM
open IntKind (wrap)
open Go.Proofs
set_option maxRecDepth 10000
set_option maxHeartbeats 2000000
variable {S:U5}(hS:F6 S Tryz.prog) (hL:JS S)
include hS hL
def E8 (N:Nat)(a:Sound):Option Bool:=
 some (((K4 .and .u32 a.Plus a.Minus)==0)&&(decide ((K4 .or .u32 a.Plus a.Minus)<=16777215)))
theorem N2 {N:Nat}{b:Sound}{y:Bool}(h:E8 N b=some y) :FunO S Gk [.p (.agg (A0 b))] [] (pB y) ([]) []:=by unfold E8 at h;refine A4 hS Tryz.func101 ?_;refine kB hS (A7 hS) trivial trivial 7 (.n (.a ((K4 .and .u32 b.Plus b.Minus)==0)) (.a (decide ((K4 .or .u32 b.Plus b.Minus)<=16777215)))) ?_;cases h;exact kR hS
def Z5 (N:Nat)(b:Sound)(a:Sound):Option Bool:=
 (E8 N b).bind fun y1=>
 lt (fun (z1:Bool)=>
  some z1
  ) fun k1=>
  if y1 then
   (E8 N a).bind fun y3=>
   if y3 then
    if ((K4 .andNot .u32 a.Plus b.Plus)==0) then
     k1 ((K4 .andNot .u32 a.Minus b.Minus)==0)
    else
     k1 false
   else
    k1 false
  else
   k1 false
theorem GW {N:Nat}{c:Sound}{a:Sound}{y:Bool}(h:Z5 N c a=some y) :FunO S CB [.p (.agg (A0 c)),.p (.agg (A0 a))] [] (pB y) ([]) []:=by
 unfold Z5 at h;refine A4 hS Tryz.func183 ?_;refine kC hS h (N2 hS hL) (fun y1 h=>?_);refine Ih hS trivial (A7 hS) h 0 (fun z1=>⟨[(4,pB z1)],[]⟩) (fun M1 k1 b h=>?_) (fun z1 h=>?_)
 ·refine kG hS h (fun h=>?_) (fun h=>?_)
  ·refine kC hS h (N2 hS hL) (fun y3 h=>?_);refine kG hS h (fun h=>?_) (fun h=>?_)
   ·refine kG hS h (fun h=>?_) (fun h=>?_)
    ·exact b _ [] _ ((K4 .andNot .u32 a.Minus c.Minus)==0) trivial h
    ·exact b _ [] _ false trivial h
   ·exact b _ [] _ false trivial h
  ·exact b _ [] _ false trivial h
 ·cases h;exact kR hS
def De (N:Nat)(a:Sound):Option Int:=
 some (K4 .or .u32 a.Plus a.Minus)
theorem Jx {N:Nat}{a:Sound}{y:Int}(h:De N a=some y) :FunO S Jr [.p (.agg (A0 a))] [] (pU y) ([]) []:=by unfold De at h;refine A4 hS Tryz.func195 ?_;cases h;exact kR hS
def Df (N:Nat)(c:Sound)(b:Sound)(a:Int):Option Sound:=
 some (⟨K4 .or .u32 (K4 .andNot .u32 c.Plus a) (K4 .and .u32 b.Plus a),K4 .or .u32 (K4 .andNot .u32 c.Minus a) (K4 .and .u32 b.Minus a)⟩:Sound)
theorem Jy {N:Nat}{c:Sound}{a:Sound}{b:Int}{y:Sound}(h:Df N c a b=some y) :FunO S Js [.p (.agg (A0 c)),.p (.agg (A0 a)),pU b] [] (.p (.agg (A0 y))) ([]) []:=by unfold Df at h;refine A4 hS Tryz.func196 ?_;cases h;exact kR hS
def BX (N:Nat)(c:Sound)(a:Int)(b:Sound):Option (Sound×Int):=
 (E8 N c).bind fun y1=>
 lt (fun (z1:Bool)=>
  if z1 then
   some ((⟨0,0⟩:Sound),14)
  else
   lt (fun (z2:Bool)=>
    if z2 then
     some ((⟨0,0⟩:Sound),2)
    else
     (De N b).bind fun y6=>
     (Df N c b (K4 .or .u32 a y6)).bind fun y7=>
     some (y7,0)
    ) fun k2=>
    if (decide (16777215<a)) then
     k2 true
    else
     (De N b).bind fun y5=>
     k2 ((K4 .and .u32 a y5) != 0)
  ) fun k1=>
  if (!y1) then
   k1 true
  else
   (E8 N b).bind fun y3=>
   k1 (!y3)
theorem Kt {N:Nat}{c:Sound}{a:Int}{b:Sound}{y:Sound×Int}(h:BX N c a b=some y) :FunO S EU [.p (.agg (A0 c)),pU a,.p (.agg (A0 b))] [] (.tup [.p (.agg (A0 y.1)),pN y.2]) ([]) []:=by
 unfold BX at h;refine A4 hS Tryz.func185 ?_;refine J8 hS trivial 5 4000 [pI .u32 c.Plus,pI .u32 c.Minus] ?_;refine J8 hS trivial 6 6000 [pI .u32 b.Plus,pI .u32 b.Minus] ?_;obtain⟨y1,e1,h⟩:=B9 h;refine C4 hS [] (by decide:(2:Nat)<=2) (N2 hS hL e1) ?_;refine Ih hS trivial (A7 hS) h 0 (fun z1=>⟨[(15,pB z1),(6,.reg 7000 0),(5,.p (.ptr [pI .u32 b.Plus,pI .u32 b.Minus])),(3,.p (.ptr [pI .u32 c.Plus,pI .u32 c.Minus])),(1,pU a)],[(7000,.cells [pU 0,pU 0])]⟩) (fun M1 k1 d h=>?_) (fun z1 h=>?_)
 ·refine kG hS h (fun h=>?_) (fun h=>?_)
  ·exact d _ [(7000,7000)] _ true trivial h
  ·obtain⟨y3,e3,h⟩:=B9 h;refine C4 hS [] (by decide:(2:Nat)<=2) (N2 hS hL e3) ?_;exact d _ [(7000,7000)] _ (!y3) trivial h
 ·refine kI hS h ?_ ?_<;>intro h
  ·cases h;exact kR hS
  ·refine Ih hS trivial (A7 hS) h 0 (fun z2=>⟨[(25,pB z2),(6,.reg 7000 0),(5,.p (.ptr [pI .u32 b.Plus,pI .u32 b.Minus])),(3,.p (.ptr [pI .u32 c.Plus,pI .u32 c.Minus])),(1,pU a)],[(7000,.cells [pU 0,pU 0])]⟩) (fun M2 k2 f h=>?_) (fun z2 h=>?_)
   ·refine kG hS h (fun h=>?_) (fun h=>?_)
    ·exact f _ [(7000,7000)] _ true trivial h
    ·obtain⟨y5,e5,h⟩:=B9 h;refine C4 hS [] (by decide:(2:Nat)<=2) (Jx hS hL e5) ?_;exact f _ [(7000,7000)] _ ((K4 .and .u32 a y5) != 0) trivial h
   ·refine kI hS h ?_ ?_<;>intro h
    ·cases h;exact kR hS
    ·refine G7 hS trivial [0,1,3,4,6] ?_;obtain⟨y6,e6,h⟩:=B9 h;refine X9 (And.intro (And.intro (by decide:(2:Nat)<=2) (by decide:(2:Nat)<=2)) (by decide:(2:Nat)<=2)) (Jx hS hL e6) ?_;obtain⟨y7,e7,h⟩:=B9 h;refine X9 trivial (Jy hS hL e7) ?_;refine L7 trivial ?_;cases h;exact kR hS
def Ek (N:Nat)(c:Sound)(a:Sound)(b:Int):Option (Sound×Int):=
 (E8 N c).bind fun y1=>
 lt (fun (z1:Bool)=>
  if z1 then
   some ((⟨0,0⟩:Sound),14)
  else
   if (decide (16777215<b)) then
    some ((⟨0,0⟩:Sound),2)
   else
    (Df N c a b).bind fun y4=>
    some (y4,0)
  ) fun k1=>
  if (!y1) then
   k1 true
  else
   (E8 N a).bind fun y3=>
   k1 (!y3)
theorem Oy {N:Nat}{c:Sound}{a:Sound}{b:Int}{y:Sound×Int}(h:Ek N c a b=some y) :FunO S HH [.p (.agg (A0 c)),.p (.agg (A0 a)),pU b] [] (.tup [.p (.agg (A0 y.1)),pN y.2]) ([]) []:=by
 unfold Ek at h;refine A4 hS Tryz.func186 ?_;refine kC hS h (N2 hS hL) (fun y1 h=>?_);refine Ih hS trivial (A7 hS) h 0 (fun z1=>⟨[(15,pB z1),(6,.reg 7000 0),(4,.reg 5000 0),(3,.reg 4000 0),(2,pU b)],[(7000,.cells [pU 0,pU 0]),(5000,.cells [pU a.Plus,pU a.Minus]),(4000,.cells [pU c.Plus,pU c.Minus])]⟩) (fun M1 k1 d h=>?_) (fun z1 h=>?_)
 ·refine kG hS h (fun h=>?_) (fun h=>?_)
  ·exact d _ [(4000,4000),(5000,5000),(7000,7000)] _ true trivial h
  ·refine kC hS h (N2 hS hL) (fun y3 h=>?_);exact d _ [(4000,4000),(5000,5000),(7000,7000)] _ (!y3) trivial h
 ·refine kI hS h ?_ ?_<;>intro h
  ·cases h;exact kR hS
  ·refine kI hS h ?_ ?_<;>intro h
   ·cases h;exact kR hS
   ·refine kC hS h (Jy hS hL) (fun y4 h=>?_);cases h;exact kR hS
def Z6 (N:Nat)(a:Sound):Option Bool:=
 Q6 N (fun b (x1:Int)=>
  if (decide (x1<32)) then
   if ((0:Int)<=x1/\(0:Int)<=x1)then
    if ((((K4 .and .u32 (shI .shr .u32 a.Plus x1) 1)==1)&&((K4 .and .u32 (shI .shr .u32 a.Minus x1) 1)==1))||((((K4 .and .u32 (shI .shr .u32 a.Plus x1) 1)==1)||((K4 .and .u32 (shI .shr .u32 a.Minus x1) 1)==1))&&(decide (24<=x1)))) then
     some false
    else
     b (wrap .i64 (x1+1))
   else none
  else
   some true
  ) 0
def Z7 (N:Nat)(a:Sound):Option Bool:=
 some ((((K4 .and .u32 a.Plus a.Minus)==0)&&(decide (a.Plus<16777216)))&&(decide (a.Minus<16777216)))
def Bm (N:Nat)(a:Sl Sound)(b:Sl Sound):Option Bool:=
 if ((a.n:Int) != (b.n:Int)) then
  some false
 else
  Q6 N (fun c (x1:Int)=>
   if (decide (x1<(a.n:Int))) then
    if (((0:Int)<=x1/\x1<(a.n:Int))/\((0:Int)<=x1/\x1<(b.n:Int)))then
     if ((((a.g x1.toNat).Plus==(b.g x1.toNat).Plus)&&((a.g x1.toNat).Minus==(b.g x1.toNat).Minus)) != true) then
      some false
     else
      c (wrap .i64 (x1+1))
    else none
   else
    some true
   ) 0
theorem Fn {N:Nat}{a:Sl Sound}{b:Sl Sound}{y:Bool}(h:Bm N a b=some y) :FunO S Ja [.p (vSl 2 A0 a),.p (vSl 2 A0 b)] [] (pB y) ([]) []:=by
 unfold Bm at h;refine A4 hS Tryz.func20 ?_;refine kI hS h ?_ ?_<;>intro h
 ·cases h;exact kR hS
 ·refine O9 hS trivial h (fun x1=>⟨[(5,pN x1),(1,.p (vSl 2 A0 b)),(0,.p (vSl 2 A0 a))],[]⟩) (ids:=[]) (fun _ _ _ _ _ c x1 d h=>?_);refine kI hS h ?_ ?_<;>intro h
  ·refine G7 hS trivial [2,3,6,7] ?_;obtain⟨c9,h⟩:=E6 h;refine L7 (And.intro (And.intro (And.intro (And.intro c9.1 (by decide:(2:Nat)<=2)) c9.2) (by decide:(2:Nat)<=2)) (by decide +kernel:Tt Tryz.prog B3=true)) ?_;refine kI hS h ?_ ?_<;>intro h
   ·cases h;exact kR hS
   ·exact d _ [] _ (wrap .i64 (x1+1)) trivial h
  ·cases h;exact kR hS
def Am (N:Nat)(a:Sound):Option Bool:=
 some (((K4 .and .u32 a.Plus a.Minus)==0)&&((shI .shr .u32 (K4 .or .u32 a.Plus a.Minus) 24)==0))
theorem Oz {N:Nat}{a:Sound}{y:Bool}(h:Am N a=some y) :FunO S HC [.p (.agg (A0 a))] [] (pB y) ([]) []:=by
 unfold Am at h;refine A4 hS Tryz.func93 ?_;obtain⟨t1,c⟩:∃x:Bool,x=(((K4 .and .u32 a.Plus a.Minus)==0)&&((shI .shr .u32 (K4 .or .u32 a.Plus a.Minus) 24)==0)):=⟨_,rfl⟩;refine PL hS trivial (A7 hS) 0 ⟨[(2,pB t1)],[]⟩ (fun M1 d=>?_) ?_
 ·refine Fl hS trivial (b:=(K4 .and .u32 a.Plus a.Minus)==0) (fun c2=>?_) (fun c2=>?_)
  ·exact d _ [] _ (by decide:(0:Int)<=24) (hle:=klR [(0,.eq (.bb ((shI .shr .u32 (K4 .or .u32 a.Plus a.Minus) 24)==0)) (.bb t1))] (al1 (by simp only[c,c2,Leaf.ok,pm,if_true,if_false]) al0))
  ·exact d _ [] _ trivial (hle:=klR [(0,.eq (.bb false) (.bb t1))] (al1 (by simp only[c,c2,Leaf.ok,pm,if_true,if_false]) al0))
 ·subst c;cases h;exact kR hS
def N3 (N:Nat)(a:Sl Sound):Option Int:=
 if (decide (32<(a.n:Int))) then
  some 11
 else
  Q6 N (fun b (x1:Int)=>
   if (decide (x1<(a.n:Int))) then
    if ((0:Int)<=x1/\x1<(a.n:Int))then
     (Am N (a.g x1.toNat)).bind fun y3=>
     if (!y3) then
      some 14
     else
      b (wrap .i64 (x1+1))
    else none
   else
    some 0
   ) 0
theorem BI {N:Nat}{a:Sl Sound}{y:Int}(h:N3 N a=some y) :FunO S Hy [.p (vSl 2 A0 a)] [] (pN y) ([]) []:=by
 unfold N3 at h;refine A4 hS Tryz.func69 ?_;refine kI hS h ?_ ?_<;>intro h
 ·cases h;exact kR hS
 ·refine O9 hS trivial h (fun x1=>⟨[(10,pN x1),(9,pN (a.n:Int)),(8,.p (vSl 2 A0 a))],[]⟩) (ids:=[]) (fun _ _ _ _ _ b x1 c h=>?_);refine kI hS h ?_ ?_<;>intro h
  ·obtain⟨c9,h⟩:=E6 h;obtain⟨y3,e3,h⟩:=B9 h;refine C4 hS [] (And.intro c9 (by decide:(2:Nat)<=2)) (Oz hS hL e3) ?_;refine kI hS h ?_ ?_<;>intro h
   ·cases h;exact kR hS
   ·exact c _ [] _ (wrap .i64 (x1+1)) trivial h
  ·cases h;exact kR hS
def F3 (N:Nat)(a:Sl Sound)(b:Sl Sound):Option Bool:=
 if ((a.n:Int) != (b.n:Int)) then
  some false
 else
  Q6 N (fun c (x1:Int)=>
   if (decide (x1<(a.n:Int))) then
    if (((0:Int)<=x1/\x1<(a.n:Int))/\((0:Int)<=x1/\x1<(b.n:Int)))then
     if ((((a.g x1.toNat).Plus==(b.g x1.toNat).Plus)&&((a.g x1.toNat).Minus==(b.g x1.toNat).Minus)) != true) then
      some false
     else
      c (wrap .i64 (x1+1))
    else none
   else
    some true
   ) 0
theorem U2 {N:Nat}{a:Sl Sound}{b:Sl Sound}{y:Bool}(h:F3 N a b=some y) :FunO S J3 [.p (vSl 2 A0 a),.p (vSl 2 A0 b)] [] (pB y) ([]) []:=by
 unfold F3 at h;refine A4 hS Tryz.func94 ?_;refine kI hS h ?_ ?_<;>intro h
 ·cases h;exact kR hS
 ·refine O9 hS trivial h (fun x1=>⟨[(13,pN x1),(12,pN (a.n:Int)),(1,.p (vSl 2 A0 b)),(0,.p (vSl 2 A0 a))],[]⟩) (ids:=[]) (fun _ _ _ _ _ c x1 d h=>?_);refine kI hS h ?_ ?_<;>intro h
  ·refine G7 hS trivial [2,3,6,7] ?_;obtain⟨c9,h⟩:=E6 h;refine L7 (And.intro (And.intro (And.intro (And.intro c9.1 (by decide:(2:Nat)<=2)) c9.2) (by decide:(2:Nat)<=2)) (by decide +kernel:Tt Tryz.prog B3=true)) ?_;refine kI hS h ?_ ?_<;>intro h
   ·cases h;exact kR hS
   ·exact d _ [] _ (wrap .i64 (x1+1)) trivial h
  ·cases h;exact kR hS
def W9 (N:Nat)(a:Sl Sound)(b:Sl Sound):Option Bool:=
 (F3 N a b).bind fun y1=>
 some y1
theorem OA {N:Nat}{a:Sl Sound}{b:Sl Sound}{y:Bool}(h:W9 N a b=some y) :FunO S Hz [.p (vSl 2 A0 a),.p (vSl 2 A0 b)] [] (pB y) ([]) []:=by unfold W9 at h;refine A4 hS Tryz.func70 ?_;refine kC hS h (U2 hS hL) (fun y1 h=>?_);cases h;exact kR hS
def K3 (N:Nat)(a:Sound):Option Bool:=
 some (((K4 .and .u32 a.Plus a.Minus)==0)&&((shI .shr .u32 (K4 .or .u32 a.Plus a.Minus) 24)==0))
theorem BJ {N:Nat}{a:Sound}{y:Bool}(h:K3 N a=some y) :FunO S HF [.p (.agg (A0 a))] [] (pB y) ([]) []:=by
 unfold K3 at h;refine A4 hS Tryz.func141 ?_;obtain⟨t1,c⟩:∃x:Bool,x=(((K4 .and .u32 a.Plus a.Minus)==0)&&((shI .shr .u32 (K4 .or .u32 a.Plus a.Minus) 24)==0)):=⟨_,rfl⟩;refine PL hS trivial (A7 hS) 0 ⟨[(2,pB t1)],[]⟩ (fun M1 d=>?_) ?_
 ·refine Fl hS trivial (b:=(K4 .and .u32 a.Plus a.Minus)==0) (fun c2=>?_) (fun c2=>?_)
  ·exact d _ [] _ (by decide:(0:Int)<=24) (hle:=klR [(0,.eq (.bb ((shI .shr .u32 (K4 .or .u32 a.Plus a.Minus) 24)==0)) (.bb t1))] (al1 (by simp only[c,c2,Leaf.ok,pm,if_true,if_false]) al0))
  ·exact d _ [] _ trivial (hle:=klR [(0,.eq (.bb false) (.bb t1))] (al1 (by simp only[c,c2,Leaf.ok,pm,if_true,if_false]) al0))
 ·subst c;cases h;exact kR hS
def R8 (N:Nat)(b:Int):Option (Nat->Int):=
 AW N (fun a (x1:Nat->Int) (x2:Int)=>
  if (decide (x2<(wrap .i64 (b+1)))) then
   if (((0:Int)<=x2/\((0:Int)<=x2/\x2<33))/\(0+x2.toNat*1)<33)then
    a (Ka x1 (0+x2.toNat*1) (shI .shl .u64 1 x2)) (wrap .i64 (x2+1))
   else none
  else
   some x1
  ) (fun _=>0) 0
theorem Bn {N:Nat}{a:Int}{y:Nat->Int}(h:R8 N a=some y) :FunO S Ej [pN a] [] (.p (.agg (cA 33 (pI .u64) y))) ([]) []:=by
 unfold R8 at h;refine A4 hS Tryz.func233 ?_;refine H7 hS trivial h (fun x1 x2=>⟨[(7,pN x2),(6,pN (wrap .i64 (a+1))),(3,.reg 4000 0),(2,.reg 3000 0)],[(4000,.arr 33 (fun i=>pI .u64 (x1 i))),(3000,.arr 33 (fun i=>pI .u64 ((fun _=>0) i)))]⟩) (ids:=[(3000,3000),(4000,4000)]) (fun _ _ _ _ _ b x1 x2 d h=>?_) (hle:=klR [(2,.fn 33 33 (fun i=>[(fun i=>(List.replicate 33 (pI .u64 0)).getD i default) i]) (fun i=>[pI .u64 ((fun _=>0) i)])),(3,.fn 33 33 (fun i=>[(fun i=>(List.replicate 33 (pI .u64 0)).getD i default) i]) (fun i=>[pI .u64 ((fun _=>0) i)]))] (al1 ⟨rfl,Z3 (z:=pI .u64 0) rfl⟩ (al1 ⟨rfl,Z3 (z:=pI .u64 0) rfl⟩ al0)));refine kI hS h ?_ ?_<;>intro h
 ·obtain⟨c4,h⟩:=E6 h;exact d _ [(3000,3000),(4000,4000)] _ (Ka x1 (0+x2.toNat*1) (shI .shl .u64 1 x2)) (wrap .i64 (x2+1)) c4 h (hle:=klR [(2,.fn 33 33 (fun i=>[(fun i=>if i=(0+x2.toNat*1)then (pI .u64 (shI .shl .u64 1 x2))else (fun i=>pI .u64 (x1 i)) i) i]) (fun i=>[pI .u64 (Ka x1 (0+x2.toNat*1) (shI .shl .u64 1 x2) i)]))] (al1 ⟨rfl,YL (c:=pI .u64) (v:=x1) (x:=shI .shl .u64 1 x2) (fun _ _=>rfl) rfl⟩ al0))
 ·obtain rfl:=C6 h;exact A9 hS (And.intro rfl (D7 _ _):(0:Nat)=0/\(Au 33 (fun i=>pI .u64 (x1 i))).length=33) ⟨[(2,.reg 3000 0)],[(3000,.arr 33 (fun i=>pI .u64 (x1 i)))]⟩ [] (ids:=[(3000,3000)]) ⟨rfl,rfl,rfl⟩ (hle:=klR [(0,.fn 33 33 (fun i=>[(fun i=>(cA 33 (pI .u64) x1).getD i default) i]) (fun i=>[pI .u64 (x1 i)]))] (al1 ⟨rfl,D0 33 (fun i=>pI .u64 (x1 i))⟩ al0))
def Q3 (N:Nat)(p_x:Nat->Int)(b:Nat->Int):Option (Nat->Int):=
 AW N (fun a (x1:Nat->Int) (x2:Int)=>
  if (decide (x2<33)) then
   if (((0:Int)<=x2/\x2<33)/\(0+x2.toNat*1)<33)then
    if (((((0:Int)<=x2/\x2<33)/\(0+x2.toNat*1)<33)/\((0:Int)<=x2/\x2<33))/\(0+x2.toNat*1)<33)then
     a (Ka x1 (0+x2.toNat*1) (K4 .or .u64 (x1 (0+x2.toNat*1)) (b (0+x2.toNat*1)))) (wrap .i64 (x2+1))
    else none
   else none
  else
   some x1
  ) p_x 0
theorem BK {N:Nat}{p_x:Nat->Int}{a:Nat->Int}{y:Nat->Int}(h:Q3 N p_x a=some y) :FunO S BG [.reg 0 0,.reg 1 0] [.arr 33 (fun i=>pI .u64 (p_x i)),.arr 33 (fun i=>pI .u64 (a i))] (.tup []) ([.arr 33 (fun i=>pI .u64 (y i)),.arr 33 (fun i=>pI .u64 (a i))]) [true,true]:=by
 unfold Q3 at h;refine A4 hS Tryz.func231 ?_;refine H7 hS trivial h (fun x1 x2=>⟨[(7,pN x2),(6,.reg 1 0),(0,.reg 0 0)],[(1,.arr 33 (fun i=>pI .u64 (a i))),(0,.arr 33 (fun i=>pI .u64 (x1 i)))]⟩) (ids:=[(0,0),(1,1)]) (fun _ _ _ _ _ b x1 x2 d h=>?_);refine kI hS h ?_ ?_<;>intro h
 ·refine Mh hS trivial ?_;obtain⟨c8,h⟩:=E6 h;refine L7 c8 ?_;refine Mh hS trivial ?_;obtain⟨c9,h⟩:=E6 h;refine L7 c9 ?_;exact d _ [(0,0),(1,1)] _ (Ka x1 (0+x2.toNat*1) (K4 .or .u64 (x1 (0+x2.toNat*1)) (a (0+x2.toNat*1)))) (wrap .i64 (x2+1)) trivial h (hle:=klR [(2,.fn 33 33 (fun i=>[(fun i=>if i=(0+x2.toNat*1)then (pI .u64 (K4 .or .u64 (x1 (0+x2.toNat*1)) (a (0+x2.toNat*1))))else (fun i=>pI .u64 (x1 i)) i) i]) (fun i=>[pI .u64 (Ka x1 (0+x2.toNat*1) (K4 .or .u64 (x1 (0+x2.toNat*1)) (a (0+x2.toNat*1))) i)]))] (al1 ⟨rfl,YL (c:=pI .u64) (v:=x1) (x:=K4 .or .u64 (x1 (0+x2.toNat*1)) (a (0+x2.toNat*1))) (fun _ _=>rfl) rfl⟩ al0))
 ·obtain rfl:=C6 h;exact A9 hS trivial ⟨[],[(1,.arr 33 (fun i=>pI .u64 (a i))),(0,.arr 33 (fun i=>pI .u64 (x1 i)))]⟩ [0,1] (ids:=[(0,0),(1,1)]) ⟨rfl,rfl,rfl⟩
def AQ (N:Nat)(b:Sl Sound)(a:Int):Option Int:=
 if ((decide (a<0))||(decide ((b.n:Int)<a))) then
  some 3
 else
  some 0
theorem Gt {N:Nat}{c:Sl Sound}{b:Int}{y:Int}(h:AQ N c b=some y) :FunO S Gq [.p (vSl 2 A0 c),pN b] [] (pN y) ([]) []:=by
 unfold AQ at h;refine A4 hS Tryz.func204 ?_;refine kB hS (A7 hS) trivial trivial 5 (.o (.a (decide (b<0))) (.a (decide ((c.n:Int)<b)))) ?_;refine kI hS h ?_ ?_<;>intro h
 ·cases h;exact kR hS
 ·cases h;exact kR hS
def V7 (N:Nat)(a:Pat):Option Int:=
 if (if (a.Kind==0) then a.Kind==0 else (if (a.Kind==2) then a.Kind==2 else a.Kind==6)) then
  lt (fun (z1:Bool)=>
   if z1 then
    some 2
   else
    (K3 N a.Is).bind fun y1=>
    if (!y1) then
     some 14
    else
     some 0
   ) fun k1=>
   if (((a.Is.Plus==0)&&(a.Is.Minus==0)) != true) then
    k1 true
   else
    if a.Not then
     k1 true
    else
     if (a.Min != 0) then
      k1 true
     else
      if (a.Max != 0) then
       k1 true
      else
       k1 (decide (0<(a.L.n:Int)))
 else
  if (a.Kind==1) then
   lt (fun (z2:Bool)=>
    if z2 then
     some 2
    else
     (K3 N a.Is).bind fun y2=>
     if (!y2) then
      some 14
     else
      some 0
    ) fun k2=>
    if (((0==0)&&(0==0)) != true) then
     k2 true
    else
     if (a.Min != 0) then
      k2 true
     else
      if (a.Max != 0) then
       k2 true
      else
       k2 (decide (0<(a.L.n:Int)))
  else
   lt (fun (z3:Int×Int)=>
    if (((((((a.Is.Plus==0)&&(a.Is.Minus==0)) != true)||a.Not)||(z3.1 != 0))||(z3.2 != 0))||(decide (0<0))) then
     some 2
    else
     (K3 N a.Is).bind fun y3=>
     if (!y3) then
      some 14
     else
      some 0
    ) fun k3=>
    if (if (a.Kind==3) then a.Kind==3 else a.Kind==4) then
     k3 (a.Min,a.Max)
    else
     if (a.Kind==5) then
      if (((((a.L.n:Int) != 1)||(decide (a.Min<0)))||(decide (32<a.Min)))||((a.Max != (-1))&&((decide (a.Max<a.Min))||(decide (32<a.Max))))) then
       some 2
      else
       k3 (0,0)
     else
      some 2
theorem Ku {N:Nat}{c:Pat}{y:Int}(h:V7 N c=some y) :FunO S ES [.p (.agg (B2 c))] [] (pN y) ([]) []:=by
 unfold V7 at h;refine A4 hS Tryz.func121 ?_;obtain⟨t1,f⟩:∃x:Bool,x=(if (c.Kind==0) then c.Kind==0 else (if (c.Kind==2) then c.Kind==2 else c.Kind==6)):=⟨_,rfl⟩;refine PL hS trivial (A7 hS) 0 ⟨[(8,pB t1),(7,pN c.Kind),(3,.reg 4000 0),(1,.reg 2000 0)],[(4000,.cells [pN 0,pU c.Is.Plus,pU c.Is.Minus,pB c.Not,pN c.Min,pN c.Max,.p (.sl false 7 c.L.n (Ak c))]),(2000,.cells ((B2 c).map .p))]⟩ (fun M1 l=>?_) ?_
 ·refine D6 hS trivial (b:=c.Kind==0) (fun c3=>?_) (fun c3=>?_)
  ·exact l _ [(2000,2000),(4000,4000)] _ trivial (hle:=klR [(0,.eq (.bb (c.Kind==0)) (.bb t1))] (al1 (by simp only[f,c3,Leaf.ok,pm,if_true,if_false]) al0))
  ·refine D6 hS trivial (b:=c.Kind==2) (fun c4=>?_) (fun c4=>?_)
   ·exact l _ [(2000,2000),(4000,4000)] _ trivial (hle:=klR [(0,.eq (.bb (c.Kind==2)) (.bb t1))] (al1 (by simp only[f,c3,c4,Leaf.ok,pm,if_true,if_false]) al0))
   ·exact l _ [(2000,2000),(4000,4000)] _ trivial (hle:=klR [(0,.eq (.bb (c.Kind==6)) (.bb t1))] (al1 (by simp only[f,c3,c4,Leaf.ok,pm,if_true,if_false]) al0))
 ·subst f;refine kI hS h ?_ ?_<;>intro h
  ·refine Ih hS (by decide +kernel:Tt Tryz.prog B3=true) (A7 hS) h 0 (fun z1=>⟨[(57,pB z1),(1,.reg 2000 0)],[(2000,.cells ((B2 c).map .p))]⟩) (fun M3 k1 d h=>?_) (fun z1 h=>?_)
   ·refine kG hS h (fun h=>?_) (fun h=>?_)
    ·exact d _ [(2000,2000)] _ true trivial h
    ·refine kG hS h (fun h=>?_) (fun h=>?_)
     ·exact d _ [(2000,2000)] _ true trivial h
     ·refine kG hS h (fun h=>?_) (fun h=>?_)
      ·exact d _ [(2000,2000)] _ true trivial h
      ·refine kG hS h (fun h=>?_) (fun h=>?_)
       ·exact d _ [(2000,2000)] _ true trivial h
       ·refine I9 hS trivial 79 ⟨[(78,.p (vSl 7 B2 c.L)),(76,.p (.v (.bool false))),(1,.reg 2000 0)],[(2000,.cells ((B2 c).map .p))]⟩ (ids:=[(2000,2000)]) ?_ (hle:=klR [(0,.fn c.L.n c.L.n (Ak c) (fun i=>B2 (c.L.g i)))] (al1 ⟨rfl,Q1 c⟩ al0));exact d _ [(2000,2000)] _ (decide (0<(c.L.n:Int))) trivial h
   ·refine kI hS h ?_ ?_<;>intro h
    ·cases h;exact kR hS
    ·refine kC hS h (BJ hS hL) (fun y1 h=>?_);refine kI hS h ?_ ?_<;>intro h
     ·cases h;exact kR hS
     ·cases h;exact kR hS
  ·refine kI hS h ?_ ?_<;>intro h
   ·refine Ih hS (by decide +kernel:Tt Tryz.prog B3=true) (A7 hS) h 0 (fun z2=>⟨[(57,pB z2),(1,.reg 2000 0)],[(2000,.cells ((B2 c).map .p))]⟩) (fun M5 k2 j h=>?_) (fun z2 h=>?_)
    ·refine kG hS h (fun h=>?_) (fun h=>?_)
     ·exact j _ [(2000,2000)] _ true trivial h
     ·refine Fl hS trivial (b:=false) (fun c54=>?_) (fun c54=>?_)
      ·exact Bool.noConfusion ((rfl:false=false).symm.trans c54)
      ·refine kG hS h (fun h=>?_) (fun h=>?_)
       ·exact j _ [(2000,2000)] _ true trivial h
       ·refine kG hS h (fun h=>?_) (fun h=>?_)
        ·exact j _ [(2000,2000)] _ true trivial h
        ·refine I9 hS trivial 79 ⟨[(78,.p (vSl 7 B2 c.L)),(76,.p (.v (.bool false))),(1,.reg 2000 0)],[(2000,.cells ((B2 c).map .p))]⟩ (ids:=[(2000,2000)]) ?_ (hle:=klR [(0,.fn c.L.n c.L.n (Ak c) (fun i=>B2 (c.L.g i)))] (al1 ⟨rfl,Q1 c⟩ al0));exact j _ [(2000,2000)] _ (decide (0<(c.L.n:Int))) trivial h
    ·refine kI hS h ?_ ?_<;>intro h
     ·cases h;exact kR hS
     ·refine kC hS h (BJ hS hL) (fun y2 h=>?_);refine kI hS h ?_ ?_<;>intro h
      ·cases h;exact kR hS
      ·cases h;exact kR hS
   ·obtain⟨t4,m⟩:∃x:Bool,x=(if (c.Kind==3) then c.Kind==3 else c.Kind==4):=⟨_,rfl⟩;refine PL hS trivial (A7 hS) 0 ⟨[(17,pB t4),(7,pN c.Kind),(3,.reg 4000 0),(1,.reg 2000 0)],[(4000,.cells [pN 0,pU c.Is.Plus,pU c.Is.Minus,pB c.Not,pN c.Min,pN c.Max,.p (.sl false 7 c.L.n (Ak c))]),(2000,.cells ((B2 c).map .p))]⟩ (fun M6 q=>?_) ?_
    ·refine D6 hS trivial (b:=c.Kind==3) (fun c60=>?_) (fun c60=>?_)
     ·exact q _ [(2000,2000),(4000,4000)] _ trivial (hle:=klR [(0,.eq (.bb (c.Kind==3)) (.bb t4))] (al1 (by simp only[m,c60,Leaf.ok,pm,if_true,if_false]) al0))
     ·exact q _ [(2000,2000),(4000,4000)] _ trivial (hle:=klR [(0,.eq (.bb (c.Kind==4)) (.bb t4))] (al1 (by simp only[m,c60,Leaf.ok,pm,if_true,if_false]) al0))
    ·subst m;refine Ih hS trivial (A7 hS) h 0 (fun z3=>⟨[(3,.reg 4000 0),(1,.reg 2000 0)],[(4000,.cells [pN 0,pU c.Is.Plus,pU c.Is.Minus,pB c.Not,pN z3.1,pN z3.2,.p E1]),(2000,.cells ((B2 c).map .p))]⟩) (fun M7 k3 r h=>?_) (fun z3 h=>?_)
     ·refine kI hS h ?_ ?_<;>intro h
      ·exact r _ [(2000,2000),(4000,4000)] _ (c.Min,c.Max) trivial h
      ·refine kI hS h ?_ ?_<;>intro h
       ·refine I9 hS trivial 25 ⟨[(24,.p (vSl 7 B2 c.L)),(3,.reg 4000 0),(1,.reg 2000 0)],[(4000,.cells [pN 0,pU c.Is.Plus,pU c.Is.Minus,pB c.Not,pN c.Min,pN c.Max,.p (.sl false 7 c.L.n (Ak c))]),(2000,.cells ((B2 c).map .p))]⟩ (ids:=[(2000,2000),(4000,4000)]) ?_ (hle:=klR [(0,.fn c.L.n c.L.n (Ak c) (fun i=>B2 (c.L.g i)))] (al1 ⟨rfl,Q1 c⟩ al0));refine kB hS (A7 hS) trivial trivial 26 (.o (.o (.o (.a ((c.L.n:Int) != 1)) (.a (decide (c.Min<0)))) (.a (decide (32<c.Min)))) (.n (.a (c.Max != (-1))) (.o (.a (decide (c.Max<c.Min))) (.a (decide (32<c.Max)))))) ?_;refine kI hS h ?_ ?_<;>intro h
        ·cases h;exact kR hS
        ·exact r _ [(2000,2000),(4000,4000)] _ (0,0) trivial h
       ·cases h;exact kR hS
     ·refine kB hS (A7 hS) (by decide +kernel:Tt Tryz.prog B3=true) trivial 19 (.o (.o (.o (.o (.a (((c.Is.Plus==0)&&(c.Is.Minus==0)) != true)) (.a c.Not)) (.a (z3.1 != 0))) (.a (z3.2 != 0))) (.a (decide (0<0)))) ?_;refine kI hS h ?_ ?_<;>intro h
      ·cases h;exact kR hS
      ·refine kC hS h (BJ hS hL) (fun y3 h=>?_);refine kI hS h ?_ ?_<;>intro h
       ·cases h;exact kR hS
       ·cases h;exact kR hS
def GX (N:Nat)(a:Pat):Option Int:=
 if ((decide (a.Kind<0))||(decide (6<a.Kind))) then
  some 2
 else
  if ((a.Kind != 1)&&((((a.Is.Plus==0)&&(a.Is.Minus==0)) != true)||a.Not)) then
   some 2
  else
   lt (fun (z1:Bool)=>
    if z1 then
     some 2
    else
     if ((a.Kind != 5)&&((a.Min != 0)||(a.Max != 0))) then
      some 2
     else
      lt (fun (z2:Bool)=>
       if z2 then
        some 2
       else
        (Z7 N a.Is).bind fun y1=>
        if (!y1) then
         some 14
        else
         some 0
       ) fun k2=>
       if (a.Kind==5) then
        if ((a.L.n:Int) != 1) then
         k2 true
        else
         if (decide (a.Min<0)) then
          k2 true
         else
          if (decide (32<a.Min)) then
           k2 true
          else
           if (a.Max != (-1)) then
            if (decide (a.Max<a.Min)) then
             k2 true
            else
             k2 (decide (32<a.Max))
           else
            k2 false
       else
        k2 false
    ) fun k1=>
    if (a.Kind != 3) then
     if (a.Kind != 4) then
      if (a.Kind != 5) then
       k1 (decide (0<(a.L.n:Int)))
      else
       k1 false
     else
      k1 false
    else
     k1 false
end Go.AM
namespace Go.AM
open IntKind (wrap)
open Go.Proofs
set_option maxRecDepth 10000
set_option maxHeartbeats 2000000
variable {S:U5}(hS:F6 S Tryz.prog) (hL:JS S)
include hS hL
def Y2 (rec:Pat->Int->Option Int)(N:Nat)(b:Pat)(a:Int):Option Int:=
 AW N (fun c (x1:Int) (x2:Int)=>
  if ((decide (x2<(b.L.n:Int)))&&(decide (x1<=40))) then
   if ((0:Int)<=x2/\x2<(b.L.n:Int))then
    (rec (b.L.g x2.toNat) x1).bind fun y3=>
    c y3 (wrap .i64 (x2+1))
   else none
  else
   some x1
  ) (wrap .i64 (a+1)) 0
def W3:Nat->Pat->Int->Option Int
 |0=>fun _ _=>none
 |N+1=>Y2 (W3 N) N
theorem OB {N:Nat}{rec:Pat->Int->Option Int}(d:∀{b:Pat}{c:Int}{y:Int},rec b c=some y->FunO S CY [.p (.agg (B2 b)),pN c] [] (pN y) ([]) []){b:Pat}{c:Int}{y:Int}(h:Y2 rec N b c=some y) :FunO S CY [.p (.agg (B2 b)),pN c] [] (pN y) ([]) []:=by
 unfold Y2 at h;refine A4 hS Tryz.func89 ?_;refine H7 hS trivial h (fun x1 x2=>⟨[(6,pN x2),(5,pN x1),(2,.reg 3000 0)],[(3000,.cells ((B2 b).map .p))]⟩) (ids:=[(3000,3000)]) (fun _ _ _ _ _ f x1 x2 j h=>?_);refine I9 hS trivial 12 ⟨[(11,.p (vSl 7 B2 b.L)),(9,pN x2),(6,pN x2),(5,pN x1),(2,.reg 3000 0)],[(3000,.cells ((B2 b).map .p))]⟩ (ids:=[(3000,3000)]) ?_ (hle:=klR [(0,.fn b.L.n b.L.n (Ak b) (fun i=>B2 (b.L.g i)))] (al1 ⟨rfl,Q1 b⟩ al0));refine kB hS (A7 hS) trivial trivial 3 (.n (.a (decide (x2<(b.L.n:Int)))) (.a (decide (x1<=40)))) ?_;refine kI hS h ?_ ?_<;>intro h
 ·refine I9 hS trivial 23 ⟨[(22,pN x2),(21,.p (vSl 7 B2 b.L)),(6,pN x2),(5,pN x1),(2,.reg 3000 0)],[(3000,.cells ((B2 b).map .p))]⟩ (ids:=[(3000,3000)]) ?_ (hle:=klR [(1,.fn b.L.n b.L.n (Ak b) (fun i=>B2 (b.L.g i)))] (al1 ⟨rfl,Q1 b⟩ al0));obtain⟨c6,h⟩:=E6 h;obtain⟨y3,e3,h⟩:=B9 h;refine C4 hS [] (And.intro c6 (by decide:(7:Nat)<=7)) (d e3) ?_;exact j _ [(3000,3000)] _ y3 (wrap .i64 (x2+1)) trivial h
 ·cases h;exact kR hS
theorem Qk {N:Nat}{b:Pat}{a:Int}{y:Int}(h:W3 N b a=some y) :FunO S CY [.p (.agg (B2 b)),pN a] [] (pN y) ([]) []:=by
 induction N generalizing b a y with
 |zero=>cases (show (none:Option Int)=some y from h)
 |succ N ih=>exact OB hS hL (fun e=>ih e) h
def Z8 (N:Nat)(a:Pat):Option Int:=
 (W3 N a 0).bind fun y1=>
 some y1
theorem GY {N:Nat}{a:Pat}{y:Int}(h:Z8 N a=some y) :FunO S Lp [.p (.agg (B2 a))] [] (pN y) ([]) []:=by unfold Z8 at h;refine A4 hS Tryz.func57 ?_;refine kC hS h (Qk hS hL) (fun y1 h=>?_);cases h;exact kR hS
def R9 (rec:Pat->Option Int)(N:Nat)(a:Pat):Option Int:=
 AW N (fun b (x1:Int) (x2:Int)=>
  if (decide (x2<(a.L.n:Int))) then
   if ((0:Int)<=x2/\x2<(a.L.n:Int))then
    (rec (a.L.g x2.toNat)).bind fun y3=>
    b (wrap .i64 (x1+y3)) (wrap .i64 (x2+1))
   else none
  else
   some x1
  ) (if (a.Kind==5) then 1 else 0) 0
def T3:Nat->Pat->Option Int
 |0=>fun _=>none
 |N+1=>R9 (T3 N) N
theorem Kv {N:Nat}{rec:Pat->Option Int}(d:∀{a:Pat}{y:Int},rec a=some y->FunO S AO [.p (.agg (B2 a))] [] (pN y) ([]) []){a:Pat}{y:Int}(h:R9 rec N a=some y) :FunO S AO [.p (.agg (B2 a))] [] (pN y) ([]) []:=by
 unfold R9 at h;refine A4 hS Tryz.func88 ?_;obtain⟨t1,c⟩:∃x:Int,x=(if (a.Kind==5) then 1 else 0):=⟨_,rfl⟩;refine PL hS trivial (A7 hS) 0 ⟨[(3,pN t1),(1,.reg 2000 0)],[(2000,.cells ((B2 a).map .p))]⟩ (fun M1 f=>?_) ?_
 ·refine D6 hS trivial (b:=a.Kind==5) (fun c2=>?_) (fun c2=>?_)
  ·exact f _ [(2000,2000)] _ trivial (hle:=klR [(0,.eq (pI .i64 1) (pI .i64 t1))] (al1 (by simp only[c,c2,Leaf.ok,pm,if_true,if_false]) al0))
  ·exact f _ [(2000,2000)] _ trivial (hle:=klR [(0,.eq (pI .i64 0) (pI .i64 t1))] (al1 (by simp only[c,c2,Leaf.ok,pm,if_true,if_false]) al0))
 ·subst c;refine H7 hS trivial h (fun x1 x2=>⟨[(4,pN x2),(3,pN x1),(1,.reg 2000 0)],[(2000,.cells ((B2 a).map .p))]⟩) (ids:=[(2000,2000)]) (fun _ _ _ _ _ j x1 x2 l h=>?_);refine I9 hS trivial 11 ⟨[(10,.p (vSl 7 B2 a.L)),(8,pN x2),(4,pN x2),(3,pN x1),(1,.reg 2000 0)],[(2000,.cells ((B2 a).map .p))]⟩ (ids:=[(2000,2000)]) ?_ (hle:=klR [(0,.fn a.L.n a.L.n (Ak a) (fun i=>B2 (a.L.g i)))] (al1 ⟨rfl,Q1 a⟩ al0));refine kI hS h ?_ ?_<;>intro h
  ·refine I9 hS trivial 19 ⟨[(18,pN x2),(17,.p (vSl 7 B2 a.L)),(15,pN x1),(4,pN x2),(1,.reg 2000 0)],[(2000,.cells ((B2 a).map .p))]⟩ (ids:=[(2000,2000)]) ?_ (hle:=klR [(1,.fn a.L.n a.L.n (Ak a) (fun i=>B2 (a.L.g i)))] (al1 ⟨rfl,Q1 a⟩ al0));obtain⟨c8,h⟩:=E6 h;obtain⟨y3,e3,h⟩:=B9 h;refine C4 hS [] (And.intro c8 (by decide:(7:Nat)<=7)) (d e3) ?_;exact l _ [(2000,2000)] _ (wrap .i64 (x1+y3)) (wrap .i64 (x2+1)) trivial h
  ·cases h;exact kR hS
theorem MH {N:Nat}{a:Pat}{y:Int}(h:T3 N a=some y) :FunO S AO [.p (.agg (B2 a))] [] (pN y) ([]) []:=by
 induction N generalizing a y with
 |zero=>cases (show (none:Option Int)=some y from h)
 |succ N ih=>exact Kv hS hL (fun e=>ih e) h
def AX (N:Nat)(a:Sl Law):Option Int:=
 AW N (fun c (x3:Int) (x4:Int)=>
  if ((decide (x4<(a.n:Int)))&&(decide (x4<=300))) then
   if (((0:Int)<=x4/\x4<(a.n:Int))/\((0:Int)<=x4/\x4<(a.n:Int)))then
    AW N (fun b (x7:Int) (x8:Int)=>
     if (decide (x8<((Sl.of [(a.g x4.toNat).Left,(a.g x4.toNat).Right]:Sl Pat).n:Int))) then
      if ((0:Int)<=x8/\x8<((Sl.of [(a.g x4.toNat).Left,(a.g x4.toNat).Right]:Sl Pat).n:Int))then
       (Z8 N ((Sl.of [(a.g x4.toNat).Left,(a.g x4.toNat).Right]:Sl Pat).g x8.toNat)).bind fun d=>
       if (decide (d<=40)) then
        (T3 N ((Sl.of [(a.g x4.toNat).Left,(a.g x4.toNat).Right]:Sl Pat).g x8.toNat)).bind fun f=>
        b (wrap .i64 (x7+f)) (wrap .i64 (x8+1))
       else
        b x7 (wrap .i64 (x8+1))
      else none
     else
      c (if x3<x7 then x7 else x3) (wrap .i64 (x4+1))
     ) 0 0
   else none
  else
   some x3
  ) 0 0
theorem SV {N:Nat}{b:Sl Law}{y:Int}(h:AX N b=some y) :FunO S Lo [.p (vSl 18 A8 b)] [] (pN y) ([]) []:=by
 unfold AX at h;refine A4 hS Tryz.func56 ?_;refine H7 hS trivial h (fun x3 x4=>⟨[(4,pN x4),(3,pN x3),(0,.p (vSl 18 A8 b))],[]⟩) (ids:=[]) (fun _ _ _ _ _ d x3 x4 f h=>?_);refine kB hS (A7 hS) trivial trivial 3 (.n (.a (decide (x4<(b.n:Int)))) (.a (decide (x4<=300)))) ?_;refine kI hS h ?_ ?_<;>intro h
 ·refine G7 hS trivial [2,4,7,9] ?_;obtain⟨c24,h⟩:=E6 h;refine BQ (And.intro (And.intro (And.intro c24.1 (by decide:(7:Nat)<=17)) c24.2) (by decide:(7:Nat)<=10)) (x:=.sl true 7 2 (D8 [pI .i64 0,pI .u32 0,pI .u32 0,.v (.bool false),pI .i64 0,pI .i64 0,E1] [(0,B2 (b.g x4.toNat).Left),(1,B2 (b.g x4.toNat).Right)])) ?_;refine L7 trivial ?_;refine H7 hS trivial h (fun x7 x8=>⟨[(30,pN x8),(29,pN ((Sl.of [(b.g x4.toNat).Left,(b.g x4.toNat).Right]:Sl Pat).n:Int)),(28,.p (vSl 7 B2 (Sl.of [(b.g x4.toNat).Left,(b.g x4.toNat).Right]:Sl Pat))),(5,pN x7),(4,pN x4),(3,pN x3),(0,.p (vSl 18 A8 b))],[]⟩) (ids:=[]) (fun _ _ _ _ _ j x7 x8 c h=>?_) (hle:=klR [(2,.fn 2 (Sl.of [(b.g x4.toNat).Left,(b.g x4.toNat).Right]:Sl Pat).n (D8 [pI .i64 0,pI .u32 0,pI .u32 0,.v (.bool false),pI .i64 0,pI .i64 0,E1] [(0,B2 (b.g x4.toNat).Left),(1,B2 (b.g x4.toNat).Right)]) (fun i=>B2 ((Sl.of [(b.g x4.toNat).Left,(b.g x4.toNat).Right]:Sl Pat).g i)))] (al1 ⟨rfl,(fun i l=>match i,l with|0,_=>rfl|1,_=>rfl|_+2,l=>absurd l (by omega))⟩ al0));refine kI hS h ?_ ?_<;>intro h
  ·obtain⟨c32,h⟩:=E6 h;refine J8 hS (And.intro c32 (by decide:(7:Nat)<=7)) 34 8000 (B2 ((Sl.of [(b.g x4.toNat).Left,(b.g x4.toNat).Right]:Sl Pat).g x8.toNat)) ?_;obtain⟨o,e17,h⟩:=B9 h;refine C4 hS [] (by decide:(7:Nat)<=7) (GY hS hL e17) ?_;refine kI hS h ?_ ?_<;>intro h
   ·obtain⟨m,e18,h⟩:=B9 h;refine C4 hS [] (by decide:(7:Nat)<=7) (MH hS hL e18) ?_;exact c _ [] _ (wrap .i64 (x7+m)) (wrap .i64 (x8+1)) trivial h
   ·exact c _ [] _ x7 (wrap .i64 (x8+1)) trivial h
  ·exact f _ [] _ (if x3<x7 then x7 else x3) (wrap .i64 (x4+1)) trivial h
 ·cases h;exact kR hS
def An (rec:Pat->Int->Option (Int×Int))(N:Nat)(b:Pat)(a:Int):Option (Int×Int):=
 if (a==40) then
  some (a,12)
 else
  (GX N b).bind fun y1=>
  if (y1 != 0) then
   some (a,y1)
  else
   AW N (fun c (x1:Int) (x2:Int)=>
    if (decide (x2<(b.L.n:Int))) then
     if ((0:Int)<=x2/\x2<(b.L.n:Int))then
      (rec (b.L.g x2.toNat) x1).bind fun y4=>
      if (y4.2 != 0) then
       some (y4.1,y4.2)
      else
       c y4.1 (wrap .i64 (x2+1))
     else none
    else
     some (x1,0)
    ) (wrap .i64 (a+1)) 0
def CD:Nat->Pat->Int->Option (Int×Int)
 |0=>fun _ _=>none
 |N+1=>An (CD N) N
def Dg (N:Nat)(a:Pat):Option Int:=
 (CD N a 0).bind fun y1=>
 some y1.2
def CE (N:Nat)(a:Str):Option Bool:=
 Q6 N (fun b (x1:Int)=>
  if (decide (x1<(a.length:Int))) then
   if ((0:Int)<=x1/\x1<(a.length:Int))then
    if (!(((((decide (97<=(Bg a x1)))&&(decide ((Bg a x1)<=122)))||((decide (65<=(Bg a x1)))&&(decide ((Bg a x1)<=90))))||((decide (48<=(Bg a x1)))&&(decide ((Bg a x1)<=57))))||((Bg a x1)==45))) then
     some false
    else
     b (wrap .i64 (x1+1))
   else none
  else
   some ((decide (1<=(a.length:Int)))&&(decide ((a.length:Int)<=24)))
  ) 0
def GZ (N:Nat)(p_x:Z4)(a:Int):Option Bool:=
 lt (fun (z1:Bool)=>
  if z1 then
   some false
  else
   if ((((K4 .and .u32 p_x.Clear (K4 .or .u32 p_x.Set.Plus p_x.Set.Minus)) != 0)||((K4 .and .u32 p_x.Take (K4 .or .u32 p_x.Set.Plus p_x.Set.Minus)) != 0))||((K4 .and .u32 p_x.Take p_x.Clear) != 0)) then
    some false
   else
    if (p_x.Take==0) then
     some (p_x.Of==0)
    else
     some ((decide (0<=p_x.Of))&&(decide (p_x.Of<a)))
  ) fun k1=>
  if (decide (p_x.From<(-1))) then
   k1 true
  else
   if (decide (a<=p_x.From)) then
    k1 true
   else
    (Z6 N p_x.Set).bind fun y2=>
    if (!y2) then
     k1 true
    else
     if ((K4 .andNot .u32 p_x.Clear 16777215) != 0) then
      k1 true
     else
      k1 ((K4 .andNot .u32 p_x.Take 16777215) != 0)
def Dh (N:Nat)(a:Law):Option Int:=
 (CE N a.Name).bind fun y1=>
 lt (fun (z1:Bool)=>
  if z1 then
   some 17
  else
   if (((((decide (4<(a.If.n:Int)))||(decide (6<(a.Out.n:Int))))||((wrap .i64 ((a.If.n:Int)+(a.Out.n:Int)))==0))||(decide (a.Mode<1)))||(decide (3<a.Mode))) then
    some 17
   else
    Q6 N (fun b (x2:Int)=>
     if (decide (x2<(a.If.n:Int))) then
      if ((0:Int)<=x2/\x2<(a.If.n:Int))then
       (Z6 N (a.If.g x2.toNat)).bind fun y8=>
       if (!y8) then
        some 17
       else
        b (wrap .i64 (x2+1))
      else none
     else
      Q6 N (fun c (x3:Int)=>
       if (decide (x3<(a.Out.n:Int))) then
        if ((0:Int)<=x3/\x3<(a.Out.n:Int))then
         (GZ N (a.Out.g x3.toNat) (a.If.n:Int)).bind fun d=>
         if (!d) then
          some 17
         else
          c (wrap .i64 (x3+1))
        else none
       else
        some 0
       ) 0
     ) 0
  ) fun k1=>
  if (!y1) then
   k1 true
  else
   (Dg N a.Left).bind fun y4=>
   if (y4 != 0) then
    k1 true
   else
    (Dg N a.Right).bind fun y5=>
    k1 (y5 != 0)
end Go.AM
namespace Go.AM
open IntKind (wrap)
open Go.Proofs
set_option maxRecDepth 10000
set_option maxHeartbeats 2000000
variable {S:U5}(hS:F6 S Tryz.prog) (hL:JS S)
include hS hL
def P2 (N:Nat)(q0:Int):Option (List (Int)):=
 Q6 N (fun a (x1:Int)=>
  if (x1 != 0) then
   (R7 N x1).bind fun y3=>
   if (0:Int)<=y3 then
    FZ y3 (
     a (K4 .andNot .u64 x1 (shI .shl .u64 1 y3))
     )
   else none
  else
   some []
  ) q0
theorem Ay {N:Nat}{q0:Int}{L:List (Int)}(h:P2 N q0=some L) :Fg S W0 [] [.reg 0 0] [.cells [.p (pI .u64 q0)]] (L.map (fun (x:Int)=>[pI .i64 x])):=by
 unfold P2 at h;refine Ga hS Tryz.func210 ?_;refine GT hS trivial h (fun x1 L1=>⟨[(1,.reg 0 0),(0,.yf 1)],[(1,.yld (L1.map (fun (x:Int)=>[pI .i64 x])) true),(0,.cells [.p (pI .u64 x1)])]⟩) (ids:=[(0,0),(1,1)]) (fun _ _ _ _ _ d x1 L1 f h=>?_);refine kI hS h ?_ ?_<;>intro h
 ·refine kC hS h (Bl hS hL) (fun y3 h=>?_);refine Mh hS trivial ?_;obtain⟨c10,h⟩:=E6 h;refine L7 c10 ?_;obtain⟨L4,rfl,c⟩:=Mi h;replace h:=c;refine CV hS trivial (ys:=(fun (x:Int)=>[pI .i64 x]) y3) (rest:=L4.map (fun (x:Int)=>[pI .i64 x])) ?_ ?_
  ·refine D6 hS trivial (b:=false) (fun c11=>?_) (fun c11=>?_)
   ·exact Bool.noConfusion ((rfl:false=false).symm.trans c11)
   ·exact f _ [(0,0),(1,1)] _ (K4 .andNot .u64 x1 (shI .shl .u64 1 y3)) L4 trivial h
  ·refine D6 hS trivial (b:=true) (fun c12=>?_) (fun c12=>?_)
   ·exact A9 hS trivial (a:=.tup []) (objs:=[(.cells [.p (pI .u64 (K4 .andNot .u64 x1 (shI .shl .u64 1 y3)))]),.yld [] false]) ⟨[],[(1,.yld [] false),(0,.cells [.p (pI .u64 (K4 .andNot .u64 x1 (shI .shl .u64 1 y3)))])]⟩ [0,1] (ids:=[(0,0),(1,1)]) ⟨false,rfl,rfl,_,rfl⟩
   ·exact Bool.noConfusion ((rfl:true=true).symm.trans c12)
 ·obtain rfl:=C6 h;exact A9 hS trivial (a:=.tup []) (objs:=[(.cells [.p (pI .u64 x1)]),.yld [] true]) ⟨[],[(1,.yld [] true),(0,.cells [.p (pI .u64 x1)])]⟩ [0,1] (ids:=[(0,0),(1,1)]) ⟨true,rfl,rfl,_,rfl⟩
def V8 (N:Nat)(a:Int):Option (Int):=
 some a
theorem BY {N:Nat}{a:Int}{y:Int}(h:V8 N a=some y) :FunO S EV [.p (pI .u64 a)] [] (.clo W0 [] [.reg 0 0]) ([.cells [.p (pI .u64 y)]]) []:=by unfold V8 at h;refine A4 hS Tryz.func206 ?_;obtain rfl:=C6 h;exact A9 hS trivial ⟨[(2,.clo W0 [] [.reg 2000 0])],[(2000,.cells [.p (pI .u64 a)])]⟩ [2000] (ids:=[(2000,2000)]) ⟨rfl,rfl,rfl⟩
def H2 (N:Nat)(p_x:Nat->Int)(c:Nat->Int):Option (Nat->Int):=
 AW N (fun a (x3:Nat->Int) (x4:Int)=>
  if (decide (x4<33)) then
   if (((0:Int)<=x4/\x4<33)/\(0+x4.toNat*1)<33)then
    (V8 N (p_x (0+x4.toNat*1))).bind fun y3=>
    (P2 N y3).bind fun L3=>
    Y9 L3 (fun b (x7:Int) (z3:Nat->Int)=>
     if (((((((0:Int)<=x4/\x4<33)/\(0+x4.toNat*1)<33)/\((0:Int)<=x7/\x7<33))/\(0+x7.toNat*1)<33)/\((0:Int)<=x4/\x4<33))/\(0+x4.toNat*1)<33)then
      b (Ka z3 (0+x4.toNat*1) (K4 .or .u64 (z3 (0+x4.toNat*1)) (c (0+x7.toNat*1))))
     else none
     ) (fun (z3:Nat->Int)=>
      a z3 (wrap .i64 (x4+1))
     ) x3
   else none
  else
   some x3
  ) (fun _=>0) 0
theorem N9 {N:Nat}{p_x:Nat->Int}{b:Nat->Int}{y:Nat->Int}(h:H2 N p_x b=some y) :FunO S U1 [.reg 0 0,.reg 1 0] [.arr 33 (fun i=>pI .u64 (p_x i)),.arr 33 (fun i=>pI .u64 (b i))] (.p (.agg (cA 33 (pI .u64) y))) ([.arr 33 (fun i=>pI .u64 (p_x i)),.arr 33 (fun i=>pI .u64 (b i))]) [true,true]:=by
 unfold H2 at h;refine A4 hS Tryz.func234 ?_;refine H7 hS trivial h (fun x3 x4=>⟨[(10,pN x4),(9,.reg 0 0),(5,.reg 6000 0),(4,.reg 5000 0),(3,.reg 4000 0)],[(6000,.arr 33 (fun i=>pI .u64 (x3 i))),(5000,.arr 33 (fun i=>pI .u64 ((fun _=>0) i))),(4000,.cells [.reg 1 0]),(1,.arr 33 (fun i=>pI .u64 (b i))),(0,.arr 33 (fun i=>pI .u64 (p_x i)))]⟩) (ids:=[(0,0),(1,1),(4000,4000),(5000,5000),(6000,6000)]) (fun _ _ _ _ _ d x3 x4 f h=>?_) (hle:=klR [(1,.fn 33 33 (fun i=>[(fun i=>(List.replicate 33 (pI .u64 0)).getD i default) i]) (fun i=>[pI .u64 ((fun _=>0) i)])),(2,.fn 33 33 (fun i=>[(fun i=>(List.replicate 33 (pI .u64 0)).getD i default) i]) (fun i=>[pI .u64 ((fun _=>0) i)]))] (al1 ⟨rfl,Z3 (z:=pI .u64 0) rfl⟩ (al1 ⟨rfl,Z3 (z:=pI .u64 0) rfl⟩ al0)));refine kI hS h ?_ ?_<;>intro h
 ·refine L0 hS trivial [(2,.l [0]),(3,.l [0]),(4,.a [7000]),(5,.a [7000])] ?_;obtain⟨c12,h⟩:=E6 h;refine L7 c12 ?_;refine J8 hS trivial 16 7000 [pI .i64 x4] ?_;refine kC hS h (BY hS hL) (fun y3 h=>?_);obtain⟨L3,e6,h⟩:=B9 h;refine Fm hS trivial [18000] [10,9,6,5,4,3] 905 (fun z3=>⟨[(10,pN x4),(9,.reg 0 0),(6,.p (.ptr [pI .i64 x4])),(5,.reg 6000 0),(4,.reg 5000 0),(3,.reg 4000 0)],[(6000,.arr 33 (fun i=>pI .u64 (z3 i))),(5000,.arr 33 (fun i=>pI .u64 ((fun _=>0) i))),(4000,.cells [.reg 1 0]),(1,.arr 33 (fun i=>pI .u64 (b i))),(0,.arr 33 (fun i=>pI .u64 (p_x i)))]⟩) (idl:=[(0,0),(1,1),(4000,4000),(5000,5000),(6000,6000)]) h (Ay hS hL e6) (fun _=>by kernel_rfl) (fun _=>by kernel_rfl) (fun _=>by kernel_rfl) (fun _=>by kernel_rfl) (fun x7 _ g z3 j h=>?_) (fun z3 h=>?_)
  ·refine IV hS trivial ?_;refine L0 hS trivial [(0,.n),(1,.l [6000]),(2,.l [6000]),(3,.l [4000]),(6,.l [1]),(7,.l [1]),(9,.l [6000]),(10,.a [6000])] ?_;obtain⟨c15,h⟩:=E6 h;refine L7 c15 ?_;exact j _ [(0,0),(1,1),(905,905),(4000,4000),(5000,5000),(6000,6000)] _ (Ka z3 (0+x4.toNat*1) (K4 .or .u64 (z3 (0+x4.toNat*1)) (b (0+x7.toNat*1)))) trivial h (hle:=klR [(0,.fn 33 33 (fun i=>[(fun i=>if i=(0+x4.toNat*1)then (pI .u64 (K4 .or .u64 (z3 (0+x4.toNat*1)) (b (0+x7.toNat*1))))else (fun i=>pI .u64 (z3 i)) i) i]) (fun i=>[pI .u64 (Ka z3 (0+x4.toNat*1) (K4 .or .u64 (z3 (0+x4.toNat*1)) (b (0+x7.toNat*1))) i)]))] (al1 ⟨rfl,YL (c:=pI .u64) (v:=z3) (x:=K4 .or .u64 (z3 (0+x4.toNat*1)) (b (0+x7.toNat*1))) (fun _ _=>rfl) rfl⟩ al0))
  ·exact f _ [(0,0),(1,1),(4000,4000),(5000,5000),(6000,6000)] _ z3 (wrap .i64 (x4+1)) trivial h
 ·obtain rfl:=C6 h;exact A9 hS (And.intro rfl (D7 _ _):(0:Nat)=0/\(Au 33 (fun i=>pI .u64 (x3 i))).length=33) ⟨[(4,.reg 5000 0)],[(5000,.arr 33 (fun i=>pI .u64 (x3 i))),(1,.arr 33 (fun i=>pI .u64 (b i))),(0,.arr 33 (fun i=>pI .u64 (p_x i)))]⟩ [0,1] (ids:=[(0,0),(1,1),(5000,5000)]) ⟨rfl,rfl,rfl⟩ (hle:=klR [(0,.fn 33 33 (fun i=>[(fun i=>(cA 33 (pI .u64) x3).getD i default) i]) (fun i=>[pI .u64 (x3 i)]))] (al1 ⟨rfl,D0 33 (fun i=>pI .u64 (x3 i))⟩ al0))
def N4 (N:Nat)(p_x:Nat->Int):Option (Nat->Int):=
 AW N (fun a (x3:Nat->Int) (x4:Int)=>
  if (decide (x4<33)) then
   if (((0:Int)<=x4/\x4<33)/\(0+x4.toNat*1)<33)then
    (V8 N (p_x (0+x4.toNat*1))).bind fun y3=>
    (P2 N y3).bind fun L3=>
    Y9 L3 (fun b (x7:Int) (z3:Nat->Int)=>
     if (((((((0:Int)<=x4/\x4<33)/\(0+x4.toNat*1)<33)/\((0:Int)<=x7/\x7<33))/\(0+x7.toNat*1)<33)/\((0:Int)<=x4/\x4<33))/\(0+x4.toNat*1)<33)then
      b (Ka z3 (0+x4.toNat*1) (K4 .or .u64 (z3 (0+x4.toNat*1)) (p_x (0+x7.toNat*1))))
     else none
     ) (fun (z3:Nat->Int)=>
      a z3 (wrap .i64 (x4+1))
     ) x3
   else none
  else
   some x3
  ) (fun _=>0) 0
theorem Ao {N:Nat}{p_x:Nat->Int}{y:Nat->Int}(h:N4 N p_x=some y) :FunO S U1 [.reg 0 0,.reg 0 0] [.arr 33 (fun i=>pI .u64 (p_x i))] (.p (.agg (cA 33 (pI .u64) y))) ([.arr 33 (fun i=>pI .u64 (p_x i))]) [true]:=by
 unfold N4 at h;refine A4 hS Tryz.func234 ?_;refine H7 hS trivial h (fun x3 x4=>⟨[(10,pN x4),(9,.reg 0 0),(5,.reg 6000 0),(4,.reg 5000 0),(3,.reg 4000 0)],[(6000,.arr 33 (fun i=>pI .u64 (x3 i))),(5000,.arr 33 (fun i=>pI .u64 ((fun _=>0) i))),(4000,.cells [.reg 0 0]),(0,.arr 33 (fun i=>pI .u64 (p_x i)))]⟩) (ids:=[(0,0),(4000,4000),(5000,5000),(6000,6000)]) (fun _ _ _ _ _ b x3 x4 d h=>?_) (hle:=klR [(1,.fn 33 33 (fun i=>[(fun i=>(List.replicate 33 (pI .u64 0)).getD i default) i]) (fun i=>[pI .u64 ((fun _=>0) i)])),(2,.fn 33 33 (fun i=>[(fun i=>(List.replicate 33 (pI .u64 0)).getD i default) i]) (fun i=>[pI .u64 ((fun _=>0) i)]))] (al1 ⟨rfl,Z3 (z:=pI .u64 0) rfl⟩ (al1 ⟨rfl,Z3 (z:=pI .u64 0) rfl⟩ al0)));refine kI hS h ?_ ?_<;>intro h
 ·refine L0 hS trivial [(2,.l [0]),(3,.l [0]),(4,.a [7000]),(5,.a [7000])] ?_;obtain⟨c12,h⟩:=E6 h;refine L7 c12 ?_;refine J8 hS trivial 16 7000 [pI .i64 x4] ?_;refine kC hS h (BY hS hL) (fun y3 h=>?_);obtain⟨L3,e6,h⟩:=B9 h;refine Fm hS trivial [18000] [10,9,6,5,4,3] 905 (fun z3=>⟨[(10,pN x4),(9,.reg 0 0),(6,.p (.ptr [pI .i64 x4])),(5,.reg 6000 0),(4,.reg 5000 0),(3,.reg 4000 0)],[(6000,.arr 33 (fun i=>pI .u64 (z3 i))),(5000,.arr 33 (fun i=>pI .u64 ((fun _=>0) i))),(4000,.cells [.reg 0 0]),(0,.arr 33 (fun i=>pI .u64 (p_x i)))]⟩) (idl:=[(0,0),(4000,4000),(5000,5000),(6000,6000)]) h (Ay hS hL e6) (fun _=>by kernel_rfl) (fun _=>by kernel_rfl) (fun _=>by kernel_rfl) (fun _=>by kernel_rfl) (fun x7 _ f z3 g h=>?_) (fun z3 h=>?_)
  ·refine IV hS trivial ?_;refine L0 hS trivial [(0,.n),(1,.l [6000]),(2,.l [6000]),(3,.l [4000]),(6,.l [0]),(7,.l [0]),(9,.l [6000]),(10,.a [6000])] ?_;obtain⟨c15,h⟩:=E6 h;refine L7 c15 ?_;exact g _ [(0,0),(905,905),(4000,4000),(5000,5000),(6000,6000)] _ (Ka z3 (0+x4.toNat*1) (K4 .or .u64 (z3 (0+x4.toNat*1)) (p_x (0+x7.toNat*1)))) trivial h (hle:=klR [(0,.fn 33 33 (fun i=>[(fun i=>if i=(0+x4.toNat*1)then (pI .u64 (K4 .or .u64 (z3 (0+x4.toNat*1)) (p_x (0+x7.toNat*1))))else (fun i=>pI .u64 (z3 i)) i) i]) (fun i=>[pI .u64 (Ka z3 (0+x4.toNat*1) (K4 .or .u64 (z3 (0+x4.toNat*1)) (p_x (0+x7.toNat*1))) i)]))] (al1 ⟨rfl,YL (c:=pI .u64) (v:=z3) (x:=K4 .or .u64 (z3 (0+x4.toNat*1)) (p_x (0+x7.toNat*1))) (fun _ _=>rfl) rfl⟩ al0))
  ·exact d _ [(0,0),(4000,4000),(5000,5000),(6000,6000)] _ z3 (wrap .i64 (x4+1)) trivial h
 ·obtain rfl:=C6 h;exact A9 hS (And.intro rfl (D7 _ _):(0:Nat)=0/\(Au 33 (fun i=>pI .u64 (x3 i))).length=33) ⟨[(4,.reg 5000 0)],[(5000,.arr 33 (fun i=>pI .u64 (x3 i))),(0,.arr 33 (fun i=>pI .u64 (p_x i)))]⟩ [0] (ids:=[(0,0),(5000,5000)]) ⟨rfl,rfl,rfl⟩ (hle:=klR [(0,.fn 33 33 (fun i=>[(fun i=>(cA 33 (pI .u64) x3).getD i default) i]) (fun i=>[pI .u64 (x3 i)]))] (al1 ⟨rfl,D0 33 (fun i=>pI .u64 (x3 i))⟩ al0))
def I3 (N:Nat)(p_x:Nat->Int)(b:Int)(c:Int):Option (Nat->Int):=
 (R8 N c).bind fun y1=>
 Ad7 N (fun a (x1:Int) (x2:Nat->Int) (x3:Nat->Int)=>
  if (decide (0<x1)) then
   if ((K4 .and .i64 x1 1)==1) then
    (H2 N x3 x2).bind fun y8=>
    (N4 N x2).bind fun y9=>
    a (shI .shr .i64 x1 1) y9 y8
   else
    (N4 N x2).bind fun d=>
    a (shI .shr .i64 x1 1) d x3
  else
   some x3
  ) b p_x y1
theorem S0 {N:Nat}{p_x:Nat->Int}{b:Int}{c:Int}{y:Nat->Int}(h:I3 N p_x b c=some y) :FunO S Al [.p (.agg (cA 33 (pI .u64) p_x)),pN b,pN c] [] (.p (.agg (cA 33 (pI .u64) y))) ([]) []:=by
 unfold I3 at h;refine A4 hS Tryz.func227 ?_;refine kC hS h (Bn hS hL) (fun y1 h=>?_);refine XH hS (And.intro rfl (D7 _ _):(0:Nat)=0/\(Au 33 (fun i=>pI .u64 (y1 i))).length=33) h (fun x1 x2 x3=>⟨[(7,.reg 8000 0),(6,.reg 7000 0),(3,.reg 4000 0),(1,pN x1)],[(8000,.arr 33 (fun i=>pI .u64 (x3 i))),(7000,.arr 33 (fun i=>pI .u64 ((fun _=>0) i))),(4000,.arr 33 (fun i=>pI .u64 (x2 i)))]⟩) (ids:=[(4000,4000),(7000,7000),(8000,8000)]) (fun _ _ _ _ _ f x1 x2 x3 d h=>?_) (hle:=klR [(1,.fn 33 33 (fun i=>[(fun i=>(cA 33 (pI .u64) y1).getD i default) i]) (fun i=>[pI .u64 (y1 i)])),(2,.fn 33 33 (fun i=>[(fun i=>(List.replicate 33 (pI .u64 0)).getD i default) i]) (fun i=>[pI .u64 ((fun _=>0) i)])),(3,.fn 33 33 (fun i=>[(fun i=>(cA 33 (pI .u64) p_x).getD i default) i]) (fun i=>[pI .u64 (p_x i)]))] (al1 ⟨rfl,D0 33 (fun i=>pI .u64 (y1 i))⟩ (al1 ⟨rfl,Z3 (z:=pI .u64 0) rfl⟩ (al1 ⟨rfl,D0 33 (fun i=>pI .u64 (p_x i))⟩ al0))));refine kI hS h ?_ ?_<;>intro h
 ·refine kI hS h ?_ ?_<;>intro h
  ·obtain⟨y8,e8,h⟩:=B9 h;refine C4 hS [8000,4000] trivial (N9 hS hL e8) ?_;obtain⟨y9,e9,h⟩:=B9 h;refine C4 hS [4000] (And.intro rfl (D7 _ _):(0:Nat)=0/\(Au 33 (fun i=>pI .u64 (y8 i))).length=33) (Ao hS hL e9) ?_;exact d _ [(4000,4000),(7000,7000),(8000,8000)] _ (shI .shr .i64 x1 1) y9 y8 (And.intro (And.intro rfl (D7 _ _):(0:Nat)=0/\(Au 33 (fun i=>pI .u64 (y9 i))).length=33) (by decide:(0:Int)<=1)) h (hle:=klR [(1,.fn 33 33 (fun i=>[(fun i=>(cA 33 (pI .u64) y8).getD i default) i]) (fun i=>[pI .u64 (y8 i)])),(3,.fn 33 33 (fun i=>[(fun i=>(cA 33 (pI .u64) y9).getD i default) i]) (fun i=>[pI .u64 (y9 i)]))] (al1 ⟨rfl,D0 33 (fun i=>pI .u64 (y8 i))⟩ (al1 ⟨rfl,D0 33 (fun i=>pI .u64 (y9 i))⟩ al0)))
  ·obtain⟨a,e10,h⟩:=B9 h;refine C4 hS [4000] trivial (Ao hS hL e10) ?_;exact d _ [(4000,4000),(7000,7000),(8000,8000)] _ (shI .shr .i64 x1 1) a x3 (And.intro (And.intro rfl (D7 _ _):(0:Nat)=0/\(Au 33 (fun i=>pI .u64 (a i))).length=33) (by decide:(0:Int)<=1)) h (hle:=klR [(3,.fn 33 33 (fun i=>[(fun i=>(cA 33 (pI .u64) a).getD i default) i]) (fun i=>[pI .u64 (a i)]))] (al1 ⟨rfl,D0 33 (fun i=>pI .u64 (a i))⟩ al0))
 ·obtain rfl:=C6 h;exact A9 hS (And.intro rfl (D7 _ _):(0:Nat)=0/\(Au 33 (fun i=>pI .u64 (x3 i))).length=33) ⟨[(6,.reg 7000 0)],[(7000,.arr 33 (fun i=>pI .u64 (x3 i)))]⟩ [] (ids:=[(7000,7000)]) ⟨rfl,rfl,rfl⟩ (hle:=klR [(0,.fn 33 33 (fun i=>[(fun i=>(cA 33 (pI .u64) x3).getD i default) i]) (fun i=>[pI .u64 (x3 i)]))] (al1 ⟨rfl,D0 33 (fun i=>pI .u64 (x3 i))⟩ al0))
end Go.AM
namespace Go.AM
open IntKind (wrap)
open Go.Proofs
set_option maxRecDepth 10000
set_option maxHeartbeats 2000000
variable {S:U5}(hS:F6 S Tryz.prog) (hL:JS S)
include hS hL
def Bo (N:Nat)(p_x:Uw)(b:Sl Sound):Option (Nat->Int):=
 AW N (fun a (x1:Nat->Int) (x2:Int)=>
  if (decide (x2<(b.n:Int))) then
   if ((0:Int)<=x2/\x2<(b.n:Int))then
    if ((((K4 .or .u32 (K4 .andNot .u32 p_x.is.Plus (b.g x2.toNat).Plus) (K4 .andNot .u32 p_x.is.Minus (b.g x2.toNat).Minus))==0)==p_x.not) != true) then
     if (((0:Int)<=(wrap .i64 (x2+1))/\((0:Int)<=x2/\x2<33))/\(0+x2.toNat*1)<33)then
      a (Ka x1 (0+x2.toNat*1) (shI .shl .u64 1 (wrap .i64 (x2+1)))) (wrap .i64 (x2+1))
     else none
    else
     a x1 (wrap .i64 (x2+1))
   else none
  else
   some x1
  ) (fun _=>0) 0
theorem Jz {N:Nat}{p_x:Uw}{a:Sl Sound}{y:Nat->Int}(h:Bo N p_x a=some y) :FunO S Bk [.p (.agg (Rt p_x)),.p (vSl 2 A0 a)] [] (.p (.agg (cA 33 (pI .u64) y))) ([]) []:=by
 unfold Bo at h;refine A4 hS Tryz.func228 ?_;refine H7 hS trivial h (fun x1 x2=>⟨[(9,pN x2),(8,pN (a.n:Int)),(7,.p (vSl 2 A0 a)),(4,.reg 5000 0),(2,.reg 3000 0)],[(5000,.arr 33 (fun i=>pI .u64 (x1 i))),(3000,.cells ((Rt p_x).map .p))]⟩) (ids:=[(3000,3000),(5000,5000)]) (fun _ _ _ _ _ f x1 x2 d h=>?_) (hle:=klR [(3,.fn 33 33 (fun i=>[(fun i=>(List.replicate 33 (pI .u64 0)).getD i default) i]) (fun i=>[pI .u64 ((fun _=>0) i)]))] (al1 ⟨rfl,Z3 (z:=pI .u64 0) rfl⟩ al0));refine kI hS h ?_ ?_<;>intro h
 ·obtain⟨c8,h⟩:=E6 h;refine D6 hS (And.intro c8 (by decide:(2:Nat)<=2)) (b:=(((K4 .or .u32 (K4 .andNot .u32 p_x.is.Plus (a.g x2.toNat).Plus) (K4 .andNot .u32 p_x.is.Minus (a.g x2.toNat).Minus))==0)==p_x.not) != true) (fun c9=>?_) (fun c9=>?_)
  ·replace h:=itT c9 h;obtain⟨c10,h⟩:=E6 h;exact d _ [(3000,3000),(5000,5000)] _ (Ka x1 (0+x2.toNat*1) (shI .shl .u64 1 (wrap .i64 (x2+1)))) (wrap .i64 (x2+1)) c10 h (hle:=klR [(3,.fn 33 33 (fun i=>[(fun i=>if i=(0+x2.toNat*1)then (pI .u64 (shI .shl .u64 1 (wrap .i64 (x2+1))))else (fun i=>pI .u64 (x1 i)) i) i]) (fun i=>[pI .u64 (Ka x1 (0+x2.toNat*1) (shI .shl .u64 1 (wrap .i64 (x2+1))) i)]))] (al1 ⟨rfl,YL (c:=pI .u64) (v:=x1) (x:=shI .shl .u64 1 (wrap .i64 (x2+1))) (fun _ _=>rfl) rfl⟩ al0))
  ·replace h:=itF c9 h;exact d _ [(3000,3000),(5000,5000)] _ x1 (wrap .i64 (x2+1)) trivial h
 ·obtain rfl:=C6 h;exact A9 hS (And.intro rfl (D7 _ _):(0:Nat)=0/\(Au 33 (fun i=>pI .u64 (x1 i))).length=33) ⟨[(4,.reg 5000 0)],[(5000,.arr 33 (fun i=>pI .u64 (x1 i)))]⟩ [] (ids:=[(5000,5000)]) ⟨rfl,rfl,rfl⟩ (hle:=klR [(0,.fn 33 33 (fun i=>[(fun i=>(cA 33 (pI .u64) x1).getD i default) i]) (fun i=>[pI .u64 (x1 i)]))] (al1 ⟨rfl,D0 33 (fun i=>pI .u64 (x1 i))⟩ al0))
def BZ (N:Nat)(p_x:YT)(a:Sl Sound):Option (Nat->Int):=
 if p_x.end_ then
  if (((0:Int)<=(a.n:Int)/\((0:Int)<=(a.n:Int)/\(a.n:Int)<33))/\(0+(a.n:Int).toNat*1)<33)then
   some (Ka (fun _=>0) (0+(a.n:Int).toNat*1) (shI .shl .u64 1 (a.n:Int)))
  else none
 else
  if (((0:Int)<=0/\(0:Int)<33)/\(0+0*1)<33)then
   some (Ka (fun _=>0) (0+0*1) (shI .shl .u64 1 0))
  else none
theorem Kw {N:Nat}{p_x:YT}{a:Sl Sound}{y:Nat->Int}(h:BZ N p_x a=some y) :FunO S BV [.p (.agg (YU p_x)),.p (vSl 2 A0 a)] [] (.p (.agg (cA 33 (pI .u64) y))) ([]) []:=by
 unfold BZ at h;refine A4 hS Tryz.func229 ?_;refine kI hS h ?_ ?_<;>intro h
 ·obtain⟨c2,h⟩:=E6 h;obtain rfl:=C6 h;exact A9 hS (And.intro (And.intro (And.intro c2.1.1 c2.1.2) c2.2) (And.intro rfl (D7 _ _):(0:Nat)=0/\(Au 33 (fun i=>if i=(0+(a.n:Int).toNat*1)then (pI .u64 (shI .shl .u64 1 (a.n:Int)))else (fun i=>(List.replicate 33 (pI .u64 0)).getD i default) i)).length=33)) ⟨[(4,.reg 5000 0)],[(5000,.arr 33 (fun i=>pI .u64 (Ka (fun _=>0) (0+(a.n:Int).toNat*1) (shI .shl .u64 1 (a.n:Int)) i)))]⟩ [] (ids:=[(5000,5000)]) ⟨rfl,rfl,rfl⟩ (hle:=klR [(0,.fn 33 33 (fun i=>[(fun i=>(Au 33 (fun i=>if i=(0+(a.n:Int).toNat*1)then (pI .u64 (shI .shl .u64 1 (a.n:Int)))else (fun i=>(List.replicate 33 (pI .u64 0)).getD i default) i)).getD i default) i]) (fun i=>[pI .u64 (Ka (fun _=>0) (0+(a.n:Int).toNat*1) (shI .shl .u64 1 (a.n:Int)) i)]))] (al1 ⟨rfl,fun i b=>(D0 33 (fun i=>if i=(0+(a.n:Int).toNat*1)then (pI .u64 (shI .shl .u64 1 (a.n:Int)))else (fun i=>(List.replicate 33 (pI .u64 0)).getD i default) i) i b).trans (YL (c:=pI .u64) (v:=fun _=>0) (x:=shI .shl .u64 1 (a.n:Int)) (Z3 (z:=pI .u64 0) rfl) rfl i b)⟩ al0))
 ·obtain⟨c3,h⟩:=E6 h;obtain rfl:=C6 h;exact A9 hS (And.intro (And.intro (And.intro (by decide:(0:Int)<=0) c3.1) c3.2) (And.intro rfl (D7 _ _):(0:Nat)=0/\(Au 33 (fun i=>if i=(0+0*1)then (pI .u64 (shI .shl .u64 1 0))else (fun i=>(List.replicate 33 (pI .u64 0)).getD i default) i)).length=33)) ⟨[(4,.reg 5000 0)],[(5000,.arr 33 (fun i=>pI .u64 (Ka (fun _=>0) (0+0*1) (shI .shl .u64 1 0) i)))]⟩ [] (ids:=[(5000,5000)]) ⟨rfl,rfl,rfl⟩ (hle:=klR [(0,.fn 33 33 (fun i=>[(fun i=>(Au 33 (fun i=>if i=(0+0*1)then (pI .u64 (shI .shl .u64 1 0))else (fun i=>(List.replicate 33 (pI .u64 0)).getD i default) i)).getD i default) i]) (fun i=>[pI .u64 (Ka (fun _=>0) (0+0*1) (shI .shl .u64 1 0) i)]))] (al1 ⟨rfl,fun i b=>(D0 33 (fun i=>if i=(0+0*1)then (pI .u64 (shI .shl .u64 1 0))else (fun i=>(List.replicate 33 (pI .u64 0)).getD i default) i) i b).trans (YL (c:=pI .u64) (v:=fun _=>0) (x:=shI .shl .u64 1 0) (Z3 (z:=pI .u64 0) rfl) rfl i b)⟩ al0))
def Di (rec:Part->(Sl Sound)->Option (Nat->Int))(N:Nat)(p_x:Pseq)(b:Sl Sound):Option (Nat->Int):=
 (R8 N (b.n:Int)).bind fun y1=>
 AW N (fun a (x1:Nat->Int) (x2:Int)=>
  if (decide (x2<(p_x.l.n:Int))) then
   if ((0:Int)<=x2/\x2<(p_x.l.n:Int))then
    (rec (p_x.l.g x2.toNat) b).bind fun y6=>
    (H2 N x1 y6).bind fun y7=>
    a y7 (wrap .i64 (x2+1))
   else none
  else
   some x1
  ) y1 0
theorem MI {N:Nat}{rec:Part->(Sl Sound)->Option ((Nat->Int))}(b:∀{x:Part}{b0:(Sl Sound)}{y:(Nat->Int)},rec x b0=some y->Aa6 S Tryz.prog (DY x) "ablaut/pats.in" [(.p (vSl 2 A0 b0))] (.p (.agg (cA 33 (pI .u64) y)))){p_x:Pseq}{a:(Sl Sound)}{y:(Nat->Int)}(h:Di rec N p_x a=some y) :FunO S Dc [(.p (.agg (Ab5 p_x))),(.p (vSl 2 A0 a))] [] (.p (.agg (cA 33 (pI .u64) y))) ([]) []:=by
 unfold Di at h;refine A4 hS Tryz.func235 ?_;refine kC hS h (Bn hS hL) (fun y1 h=>?_);refine H7 hS (And.intro rfl (D7 _ _):(0:Nat)=0/\(Au 33 (fun i=>pI .u64 (y1 i))).length=33) h (fun x1 x2=>⟨[(15,(pN x2)),(14,(pN (p_x.l.n:Int))),(13,(.p (vSl 1 CA p_x.l))),(5,(.reg 6000 0)),(4,(.reg 5000 0)),(1,(.p (vSl 2 A0 a)))],[(6000,(.arr 33 (fun i=>pI .u64 (x1 i)))),(5000,(.arr 33 (fun i=>pI .u64 ((fun _=>0) i))))]⟩) (ids:=[(5000,5000),(6000,6000)]) (fun _ _ _ _ _ c x1 x2 d h=>?_) (hle:=(klR [(4,.fn 33 33 (fun i=>[(fun i=>(cA 33 (pI .u64) y1).getD i default) i]) (fun i=>[pI .u64 (y1 i)])),(5,.fn 33 33 (fun i=>[(fun i=>(List.replicate 33 (pI .u64 0)).getD i default) i]) (fun i=>[pI .u64 ((fun _=>0) i)]))] (al1 ⟨rfl,(D0 33 (fun i=>pI .u64 (y1 i)))⟩ (al1 ⟨rfl,(Z3 (z:=pI .u64 0) rfl)⟩ al0))));refine kI hS h ?_ ?_<;>intro h
 ·obtain⟨c6,h⟩:=E6 h;obtain⟨y6,e6,h⟩:=B9 h;refine Ij hS c6 (b e6) ?_;refine BC hS (And.intro rfl (D7 _ _):(0:Nat)=0/\(Au 33 (fun i=>pI .u64 (y6 i))).length=33) ⟨[(15,(pN x2)),(14,(pN (p_x.l.n:Int))),(13,(.p (vSl 1 CA p_x.l))),(8,(.reg 9000 0)),(5,(.reg 6000 0)),(4,(.reg 5000 0)),(1,(.p (vSl 2 A0 a)))],[(9000,(.arr 33 (fun i=>pI .u64 (y6 i)))),(6000,(.arr 33 (fun i=>pI .u64 (x1 i)))),(5000,(.arr 33 (fun i=>pI .u64 ((fun _=>0) i))))]⟩ (ids:=[(5000,5000),(6000,6000),(9000,9000)]) ?_ (hle:=(klR [(4,.fn 33 33 (fun i=>[(fun i=>(cA 33 (pI .u64) y6).getD i default) i]) (fun i=>[pI .u64 (y6 i)]))] (al1 ⟨rfl,(D0 33 (fun i=>pI .u64 (y6 i)))⟩ al0)));obtain⟨y7,e7,h⟩:=B9 h;refine C4 hS [6000,9000] trivial (N9 hS hL e7) ?_;exact d _ [(5000,5000),(6000,6000)] _ y7 (wrap .i64 (x2+1)) (And.intro rfl (D7 _ _):(0:Nat)=0/\(Au 33 (fun i=>pI .u64 (y7 i))).length=33) h (hle:=klR [(4,.fn 33 33 (fun i=>[(fun i=>(cA 33 (pI .u64) y7).getD i default) i]) (fun i=>[pI .u64 (y7 i)]))] (al1 ⟨rfl,(D0 33 (fun i=>pI .u64 (y7 i)))⟩ al0))
 ·obtain rfl:=C6 h;exact A9 hS (And.intro rfl (D7 _ _):(0:Nat)=0/\(Au 33 (fun i=>pI .u64 (x1 i))).length=33) ⟨[(4,(.reg 5000 0))],[(5000,(.arr 33 (fun i=>pI .u64 (x1 i))))]⟩ [] (ids:=[(5000,5000)]) ⟨rfl,rfl,rfl⟩ (hle:=(klR [(0,.fn 33 33 (fun i=>[(fun i=>(cA 33 (pI .u64) x1).getD i default) i]) (fun i=>[pI .u64 (x1 i)]))] (al1 ⟨rfl,(D0 33 (fun i=>pI .u64 (x1 i)))⟩ al0)))
def Dj (rec:Part->(Sl Sound)->Option (Nat->Int))(N:Nat)(p_x:Palt)(b:Sl Sound):Option (Nat->Int):=
 AW N (fun a (x1:Nat->Int) (x2:Int)=>
  if (decide (x2<(p_x.l.n:Int))) then
   if ((0:Int)<=x2/\x2<(p_x.l.n:Int))then
    (rec (p_x.l.g x2.toNat) b).bind fun y5=>
    (Q3 N x1 y5).bind fun y6=>
    a y6 (wrap .i64 (x2+1))
   else none
  else
   some x1
  ) (fun _=>0) 0
theorem MJ {N:Nat}{rec:Part->(Sl Sound)->Option ((Nat->Int))}(b:∀{x:Part}{b0:(Sl Sound)}{y:(Nat->Int)},rec x b0=some y->Aa6 S Tryz.prog (DY x) "ablaut/pats.in" [(.p (vSl 2 A0 b0))] (.p (.agg (cA 33 (pI .u64) y)))){p_x:Palt}{a:(Sl Sound)}{y:(Nat->Int)}(h:Dj rec N p_x a=some y) :FunO S Da [(.p (.agg (Ab3 p_x))),(.p (vSl 2 A0 a))] [] (.p (.agg (cA 33 (pI .u64) y))) ([]) []:=by
 unfold Dj at h;refine A4 hS Tryz.func230 ?_;refine H7 hS trivial h (fun x1 x2=>⟨[(11,(pN x2)),(10,(pN (p_x.l.n:Int))),(9,(.p (vSl 1 CA p_x.l))),(4,(.reg 5000 0)),(1,(.p (vSl 2 A0 a)))],[(5000,(.arr 33 (fun i=>pI .u64 (x1 i))))]⟩) (ids:=[(5000,5000)]) (fun _ _ _ _ _ c x1 x2 d h=>?_) (hle:=(klR [(4,.fn 33 33 (fun i=>[(fun i=>(List.replicate 33 (pI .u64 0)).getD i default) i]) (fun i=>[pI .u64 ((fun _=>0) i)]))] (al1 ⟨rfl,(Z3 (z:=pI .u64 0) rfl)⟩ al0)));refine kI hS h ?_ ?_<;>intro h
 ·obtain⟨c6,h⟩:=E6 h;obtain⟨y5,e5,h⟩:=B9 h;refine Ij hS c6 (b e5) ?_;refine BC hS (And.intro rfl (D7 _ _):(0:Nat)=0/\(Au 33 (fun i=>pI .u64 (y5 i))).length=33) ⟨[(11,(pN x2)),(10,(pN (p_x.l.n:Int))),(9,(.p (vSl 1 CA p_x.l))),(7,(.reg 8000 0)),(4,(.reg 5000 0)),(1,(.p (vSl 2 A0 a)))],[(8000,(.arr 33 (fun i=>pI .u64 (y5 i)))),(5000,(.arr 33 (fun i=>pI .u64 (x1 i))))]⟩ (ids:=[(5000,5000),(8000,8000)]) ?_ (hle:=(klR [(4,.fn 33 33 (fun i=>[(fun i=>(cA 33 (pI .u64) y5).getD i default) i]) (fun i=>[pI .u64 (y5 i)]))] (al1 ⟨rfl,(D0 33 (fun i=>pI .u64 (y5 i)))⟩ al0)));obtain⟨y6,e6,h⟩:=B9 h;refine C4 hS [5000,8000] trivial (BK hS hL e6) ?_;exact d _ [(5000,5000)] _ y6 (wrap .i64 (x2+1)) trivial h
 ·obtain rfl:=C6 h;exact A9 hS (And.intro rfl (D7 _ _):(0:Nat)=0/\(Au 33 (fun i=>pI .u64 (x1 i))).length=33) ⟨[(4,(.reg 5000 0))],[(5000,(.arr 33 (fun i=>pI .u64 (x1 i))))]⟩ [] (ids:=[(5000,5000)]) ⟨rfl,rfl,rfl⟩ (hle:=(klR [(0,.fn 33 33 (fun i=>[(fun i=>(cA 33 (pI .u64) x1).getD i default) i]) (fun i=>[pI .u64 (x1 i)]))] (al1 ⟨rfl,(D0 33 (fun i=>pI .u64 (x1 i)))⟩ al0)))
def Dk (rec:Part->(Sl Sound)->Option (Nat->Int))(N:Nat)(p_x:Prep)(a:Sl Sound):Option (Nat->Int):=
 (rec p_x.of a).bind fun y1=>
 (I3 N y1 p_x.min (a.n:Int)).bind fun y2=>
 (R8 N (a.n:Int)).bind fun y3=>
 (Q3 N y1 y3).bind fun y4=>
 if (decide (p_x.max<0)) then
  (I3 N y4 (a.n:Int) (a.n:Int)).bind fun y5=>
  (H2 N y2 y5).bind fun y6=>
  some y6
 else
  (I3 N y4 (wrap .i64 (p_x.max-p_x.min)) (a.n:Int)).bind fun y7=>
  (H2 N y2 y7).bind fun y8=>
  some y8
theorem MK {N:Nat}{rec:Part->(Sl Sound)->Option ((Nat->Int))}(b:∀{x:Part}{b0:(Sl Sound)}{y:(Nat->Int)},rec x b0=some y->Aa6 S Tryz.prog (DY x) "ablaut/pats.in" [(.p (vSl 2 A0 b0))] (.p (.agg (cA 33 (pI .u64) y)))){p_x:Prep}{a:(Sl Sound)}{y:(Nat->Int)}(h:Dk rec N p_x a=some y) :FunO S Db [(.p (.agg (Ab4 p_x))),(.p (vSl 2 A0 a))] [] (.p (.agg (cA 33 (pI .u64) y))) ([]) []:=by
 unfold Dk at h;refine A4 hS Tryz.func232 ?_;obtain⟨y1,e1,h⟩:=B9 h;refine Ij hS trivial (b e1) ?_;refine BC hS (And.intro rfl (D7 _ _):(0:Nat)=0/\(Au 33 (fun i=>pI .u64 (y1 i))).length=33) ⟨[(18,(pN (a.n:Int))),(16,(pN p_x.min)),(14,(.p (.agg (cA 33 (pI .u64) y1)))),(5,(.reg 6000 0)),(4,(.reg 5000 0)),(2,(.reg 3000 0)),(1,(.p (vSl 2 A0 a)))],[(6000,(.arr 33 (fun i=>pI .u64 (y1 i)))),(5000,(.arr 33 (fun i=>pI .u64 ((fun _=>0) i)))),(3000,(.cells [(.p (DY p_x.of)),(pN p_x.min),(pN p_x.max)]))]⟩ (ids:=[(3000,3000),(5000,5000),(6000,6000)]) ?_ (hle:=(klR [(2,.eq (.agg (Au 33 (fun i=>(cA 33 (pI .u64) y1).getD i default))) (.agg (cA 33 (pI .u64) y1))),(4,.fn 33 33 (fun i=>[(fun i=>(cA 33 (pI .u64) y1).getD i default) i]) (fun i=>[pI .u64 (y1 i)])),(5,.fn 33 33 (fun i=>[(fun i=>(List.replicate 33 (pI .u64 0)).getD i default) i]) (fun i=>[pI .u64 ((fun _=>0) i)]))] (al1 (congrArg PV.agg (SK (D0 33 (fun i=>pI .u64 (y1 i))))) (al1 ⟨rfl,(D0 33 (fun i=>pI .u64 (y1 i)))⟩ (al1 ⟨rfl,(Z3 (z:=pI .u64 0) rfl)⟩ al0)))));refine kC hS h (S0 hS hL) (fun y2 h=>?_);obtain⟨y3,e3,h⟩:=B9 h;refine C4 hS [] (And.intro (And.intro rfl (D7 _ _):(0:Nat)=0/\(Au 33 (fun i=>pI .u64 (y2 i))).length=33) (And.intro rfl (D7 _ _):(0:Nat)=0/\(Au 33 (fun i=>pI .u64 (y1 i))).length=33)) (Bn hS hL e3) ?_;refine BC hS (And.intro rfl (D7 _ _):(0:Nat)=0/\(Au 33 (fun i=>pI .u64 (y3 i))).length=33) ⟨[(8,(.reg 9000 0)),(7,(.reg 8000 0)),(6,(.reg 7000 0)),(4,(.reg 5000 0)),(2,(.reg 3000 0)),(1,(.p (vSl 2 A0 a)))],[(9000,(.arr 33 (fun i=>pI .u64 (y3 i)))),(8000,(.arr 33 (fun i=>pI .u64 (y1 i)))),(7000,(.arr 33 (fun i=>pI .u64 (y2 i)))),(5000,(.arr 33 (fun i=>pI .u64 ((fun _=>0) i)))),(3000,(.cells [(.p (DY p_x.of)),(pN p_x.min),(pN p_x.max)]))]⟩ (ids:=[(3000,3000),(5000,5000),(7000,7000),(8000,8000),(9000,9000)]) ?_ (hle:=(klR [(1,.fn 33 33 (fun i=>[(fun i=>(cA 33 (pI .u64) y3).getD i default) i]) (fun i=>[pI .u64 (y3 i)])),(2,.fn 33 33 (fun i=>[(fun i=>(cA 33 (pI .u64) y1).getD i default) i]) (fun i=>[pI .u64 (y1 i)])),(3,.fn 33 33 (fun i=>[(fun i=>(cA 33 (pI .u64) y2).getD i default) i]) (fun i=>[pI .u64 (y2 i)]))] (al1 ⟨rfl,(D0 33 (fun i=>pI .u64 (y3 i)))⟩ (al1 ⟨rfl,(D0 33 (fun i=>pI .u64 (y1 i)))⟩ (al1 ⟨rfl,(D0 33 (fun i=>pI .u64 (y2 i)))⟩ al0)))));obtain⟨y4,e4,h⟩:=B9 h;refine C4 hS [8000,9000] trivial (BK hS hL e4) ?_;refine kI hS h ?_ ?_<;>intro h
 ·refine kC hS h (S0 hS hL) (fun y5 h=>?_);refine BC hS (And.intro rfl (D7 _ _):(0:Nat)=0/\(Au 33 (fun i=>pI .u64 (y5 i))).length=33) ⟨[(7,(.reg 8000 0)),(6,(.reg 7000 0)),(4,(.reg 5000 0))],[(8000,(.arr 33 (fun i=>pI .u64 (y5 i)))),(7000,(.arr 33 (fun i=>pI .u64 (y2 i)))),(5000,(.arr 33 (fun i=>pI .u64 ((fun _=>0) i))))]⟩ (ids:=[(5000,5000),(7000,7000),(8000,8000)]) ?_ (hle:=(klR [(0,.fn 33 33 (fun i=>[(fun i=>(cA 33 (pI .u64) y5).getD i default) i]) (fun i=>[pI .u64 (y5 i)]))] (al1 ⟨rfl,(D0 33 (fun i=>pI .u64 (y5 i)))⟩ al0)));obtain⟨y6,e6,h⟩:=B9 h;refine C4 hS [7000,8000] trivial (N9 hS hL e6) ?_;obtain rfl:=C6 h;exact A9 hS (And.intro rfl (D7 _ _):(0:Nat)=0/\(Au 33 (fun i=>pI .u64 (y6 i))).length=33) ⟨[(4,(.reg 5000 0))],[(5000,(.arr 33 (fun i=>pI .u64 (y6 i))))]⟩ [] (ids:=[(5000,5000)]) ⟨rfl,rfl,rfl⟩ (hle:=(klR [(0,.fn 33 33 (fun i=>[(fun i=>(cA 33 (pI .u64) y6).getD i default) i]) (fun i=>[pI .u64 (y6 i)]))] (al1 ⟨rfl,(D0 33 (fun i=>pI .u64 (y6 i)))⟩ al0)))
 ·refine kC hS h (S0 hS hL) (fun y7 h=>?_);refine BC hS (And.intro rfl (D7 _ _):(0:Nat)=0/\(Au 33 (fun i=>pI .u64 (y7 i))).length=33) ⟨[(7,(.reg 8000 0)),(6,(.reg 7000 0)),(4,(.reg 5000 0))],[(8000,(.arr 33 (fun i=>pI .u64 (y7 i)))),(7000,(.arr 33 (fun i=>pI .u64 (y2 i)))),(5000,(.arr 33 (fun i=>pI .u64 ((fun _=>0) i))))]⟩ (ids:=[(5000,5000),(7000,7000),(8000,8000)]) ?_ (hle:=(klR [(0,.fn 33 33 (fun i=>[(fun i=>(cA 33 (pI .u64) y7).getD i default) i]) (fun i=>[pI .u64 (y7 i)]))] (al1 ⟨rfl,(D0 33 (fun i=>pI .u64 (y7 i)))⟩ al0)));obtain⟨y8,e8,h⟩:=B9 h;refine C4 hS [7000,8000] trivial (N9 hS hL e8) ?_;obtain rfl:=C6 h;exact A9 hS (And.intro rfl (D7 _ _):(0:Nat)=0/\(Au 33 (fun i=>pI .u64 (y8 i))).length=33) ⟨[(4,(.reg 5000 0))],[(5000,(.arr 33 (fun i=>pI .u64 (y8 i))))]⟩ [] (ids:=[(5000,5000)]) ⟨rfl,rfl,rfl⟩ (hle:=(klR [(0,.fn 33 33 (fun i=>[(fun i=>(cA 33 (pI .u64) y8).getD i default) i]) (fun i=>[pI .u64 (y8 i)]))] (al1 ⟨rfl,(D0 33 (fun i=>pI .u64 (y8 i)))⟩ al0)))
def Az (rec:Pat->Option Part)(N:Nat)(a:Pat):Option Part:=
 AW N (fun b (x1:Sl Part) (x2:Int)=>
  if (decide (x2<(a.L.n:Int))) then
   if ((0:Int)<=x2/\x2<(a.L.n:Int))then
    (rec (a.L.g x2.toNat)).bind fun y3=>
    if ((x1.n+(Sl.of [y3]:Sl Part).n)*16<=140737488355328/\x1.n+(Sl.of [y3]:Sl Part).n<=140737488355328)then
     b (x1.push y3) (wrap .i64 (x2+1))
    else none
   else none
  else
   if (a.Kind==1) then
    some (Part.sound a.Is a.Not)
   else
    if (a.Kind==2) then
     some (Part.edge false)
    else
     if (a.Kind==6) then
      some (Part.edge true)
     else
      if (a.Kind==4) then
       some (Part.alt x1.n x1.g)
      else
       if (a.Kind==5) then
        if (((0:Int)<=0/\0<(x1.n:Int))/\0<x1.n)then
         some (Part.rep (x1.g 0) a.Min a.Max)
        else none
       else
        some (Part.seq x1.n x1.g)
  ) (Sl.nil:Sl Part) 0
def Ca:Nat->Pat->Option Part
 |0=>fun _=>none
 |N+1=>Az (Ca N) N
theorem JA {N:Nat}{rec:Pat->Option Part}(b:∀{a:Pat}{y:Part},rec a=some y->FunO S Af [.p (.agg (B2 a))] [] (.p (DY y)) ([]) []){a:Pat}{y:Part}(h:Az rec N a=some y) :FunO S Af [.p (.agg (B2 a))] [] (.p (DY y)) ([]) []:=by
 unfold Az at h;refine A4 hS Tryz.func208 ?_;refine J8 hS trivial 2 2000 (B2 a) ?_;refine I9 hS trivial 8 ⟨[(7,.p (vSl 7 B2 a.L)),(3,.p E1),(1,.p (.ptr (B2 a)))],[]⟩ (ids:=[]) ?_ (hle:=klR [(0,.fn a.L.n a.L.n (Ak a) (fun i=>B2 (a.L.g i)))] (al1 ⟨rfl,Q1 a⟩ al0));refine H7 hS trivial h (fun x1 x2=>⟨[(9,pN x2),(8,pN (a.L.n:Int)),(7,.p (vSl 7 B2 a.L)),(3,.vec 4500),(1,.p (.ptr (B2 a)))],[(4500,.vec Qg 1 x1.n (fun i=>CA (x1.g i)) false)]⟩) (ids:=[]) (fun _ _ _ _ _ d x1 x2 f h=>?_);refine kI hS h ?_ ?_<;>intro h
 ·obtain⟨c6,h⟩:=E6 h;refine J8 hS (And.intro c6 (by decide:(7:Nat)<=7)) 13 6000 (B2 (a.L.g x2.toNat)) ?_;obtain⟨y3,e3,h⟩:=B9 h;refine C4 hS [] (by decide:(7:Nat)<=7) (b e3) ?_;obtain⟨c7,h⟩:=E6 h;exact f _ [(4500,18000)] _ (x1.push y3) (wrap .i64 (x2+1)) (And.intro (rfl:true=true) c7) h (hle:=klR [(4,.fn (x1.n+1) (x1.push y3).n (X3 x1.n (fun i=>CA (x1.g i)) (D8 [.v .nilIface] [(0,CA y3)])) (fun i=>CA ((x1.push y3).g i)))] (al1 ⟨rfl,Lf (c:=CA) (v:=x1) (x:=y3) (z:=[(.v .nilIface)]) same rfl rfl⟩ al0))
 ·refine kI hS h ?_ ?_<;>intro h
  ·obtain rfl:=C6 h;exact WA hS (by decide:(2:Nat)<=6) [] ⟨rfl,rfl,rfl⟩
  ·refine kI hS h ?_ ?_<;>intro h
   ·cases h;exact kR hS
   ·refine kI hS h ?_ ?_<;>intro h
    ·cases h;exact kR hS
    ·refine kI hS h ?_ ?_<;>intro h
     ·refine I9 hS trivial 40 ⟨[(39,.p (vSl 1 CA x1))],[]⟩ (ids:=[]) ?_;cases h;exact kR hS
     ·refine kI hS h ?_ ?_<;>intro h
      ·refine G7 hS trivial [4,6] ?_;obtain⟨c13,h⟩:=E6 h;refine L7 c13 ?_;cases h;exact kR hS
      ·refine I9 hS trivial 54 ⟨[(53,.p (vSl 1 CA x1))],[]⟩ (ids:=[]) ?_;cases h;exact kR hS
theorem Kx {N:Nat}{a:Pat}{y:Part}(h:Ca N a=some y) :FunO S Af [.p (.agg (B2 a))] [] (.p (DY y)) ([]) []:=by
 induction N generalizing a y with
 |zero=>cases (show (none:Option Part)=some y from h)
 |succ N ih=>exact JA hS hL (fun e=>ih e) h
end Go.AM
namespace Go.AM
open Go.Proofs
variable {S:U5}(hS:F6 S Tryz.prog) (hL:JS S)
include hS hL
def El:Nat->Part->Sl Sound->Option (Nat->Int)
 |0=>fun _ _=>none
 |N+1=>fun p w=>match p with
  |.nil=>none
  |.sound x no=>Bo N ⟨x,no⟩ w
  |.edge e=>BZ N ⟨e⟩ w
  |.seq n g=>Di (El N) N ⟨⟨n,g⟩⟩ w
  |.alt n g=>Dj (El N) N ⟨⟨n,g⟩⟩ w
  |.rep o mn mx=>Dk (El N) N ⟨o,mn,mx⟩ w
theorem UE {N:Nat}{x:Part}{w:Sl Sound}{y:Nat->Int}(h:El N x w=some y):Aa6 S Tryz.prog (DY x) "ablaut/pats.in" [(.p (vSl 2 A0 w))] (.p (.agg (cA 33 (pI .u64) y))):=by
 induction N generalizing x w y with
 |zero=>cases h
 |succ N ih=>
  cases x with
  |nil=>cases h
  |sound s no=>exact⟨_,_,Bk,rfl,by kernel_rfl,Jz hS hL (p_x:=⟨s,no⟩) h⟩
  |edge e=>exact⟨_,_,BV,rfl,by kernel_rfl,Kw hS hL (N:=N) (p_x:=⟨e⟩) h⟩
  |seq n g=>exact⟨_,_,Dc,rfl,by kernel_rfl,MI hS hL (fun e=>ih e) (p_x:=⟨⟨n,g⟩⟩) h⟩
  |alt n g=>exact⟨_,_,Da,rfl,by kernel_rfl,MJ hS hL (fun e=>ih e) (p_x:=⟨⟨n,g⟩⟩) h⟩
  |rep o mn mx=>exact⟨_,_,Db,rfl,by kernel_rfl,MK hS hL (fun e=>ih e) (p_x:=⟨o,mn,mx⟩) h⟩
end Go.AM
namespace Go.AM
open IntKind (wrap)
open Go.Proofs
set_option maxRecDepth 10000
set_option maxHeartbeats 2000000
variable {S:U5}(hS:F6 S Tryz.prog) (hL:JS S)
include hS hL
def Bp (N:Nat)(a:Sound):Option Bool:=
 (K3 N a).bind fun y1=>
 some (!y1)
theorem JB {N:Nat}{a:Sound}{y:Bool}(h:Bp N a=some y) :FunO S Eh [.p (.agg (A0 a))] [] (pB y) ([]) []:=by unfold Bp at h;refine A4 hS Tryz.func207 ?_;refine kC hS h (BJ hS hL) (fun y1 h=>?_);cases h;exact kR hS
def C7 (N:Nat)(a:Sl Sound)(c:Sound->Option Bool):Option Int:=
 Q6 N (fun b (x1:Int)=>
  if (decide (x1<(a.n:Int))) then
   if ((0:Int)<=x1/\x1<(a.n:Int))then
    (c (a.g x1.toNat)).bind fun y3=>
    if y3 then
     some x1
    else
     b (wrap .i64 (x1+1))
   else none
  else
   some (-1)
  ) 0
theorem Q0 {N:Nat}{a:Sl Sound}{c:Sound->Option Bool}{kp_f:Nat}(d:∀{a0:Sound}{b:Bool},c a0=some b->FunO S kp_f [.p (.agg (A0 a0))] [] (pB b) [] []){y:Int}(h:C7 N a c=some y) :FunO S H5 [.p (vSl 2 A0 a),.clo kp_f [] []] [] (pN y) ([]) []:=by
 unfold C7 at h;refine A4 hS Tryz.func123 ?_;refine O9 hS trivial h (fun x1=>⟨[(8,pN x1),(7,pN (a.n:Int)),(1,.clo kp_f [] []),(0,.p (vSl 2 A0 a))],[]⟩) (ids:=[]) (fun _ _ _ _ _ f x1 g h=>?_);refine kI hS h ?_ ?_<;>intro h
 ·obtain⟨c8,h⟩:=E6 h;obtain⟨y3,e3,h⟩:=B9 h;refine C4 hS [] (And.intro c8 (by decide:(2:Nat)<=2)) (d e3) ?_;refine kI hS h ?_ ?_<;>intro h
  ·cases h;exact kR hS
  ·exact g _ [] _ (wrap .i64 (x1+1)) trivial h
 ·cases h;exact kR hS
def B0 (N:Nat)(a:Sl Sound)(b:Sound->Option Bool):Option Bool:=
 (C7 N a b).bind fun y1=>
 some (decide (0<=y1))
theorem G5 {N:Nat}{a:Sl Sound}{c:Sound->Option Bool}{kp_f:Nat}(d:∀{a0:Sound}{b:Bool},c a0=some b->FunO S kp_f [.p (.agg (A0 a0))] [] (pB b) [] []){y:Bool}(h:B0 N a c=some y) :FunO S G4 [.p (vSl 2 A0 a),.clo kp_f [] []] [] (pB y) ([]) []:=by unfold B0 at h;refine A4 hS Tryz.func104 ?_;refine kC hS h (Q0 hS hL (fun e=>d e)) (fun y1 h=>?_);cases h;exact kR hS
def B8 (N:Nat)(q0:Sl Pat):Option (List (Int×Pat)):=
 Q6 N (fun a (x1:Int)=>
  if (decide (0<=x1)) then
   if ((0:Int)<=x1/\x1<(q0.n:Int))then
    FZ (x1,q0.g x1.toNat) (
     a (wrap .i64 (x1-1))
     )
   else none
  else
   some []
  ) (wrap .i64 ((q0.n:Int)-1))
theorem T4 {N:Nat}{q0:Sl Pat}{L:List (Int×Pat)}(h:B8 N q0=some L) :Fg S D2 [] [.reg 0 0] [.cells [.p (vSl 7 B2 q0)]] (L.map (fun (x:Int×Pat)=>[pI .i64 x.1,(fun x=>.agg (B2 x)) x.2])):=by
 unfold B8 at h;refine Ga hS Tryz.func142 ?_;refine GT hS trivial h (fun x1 L1=>⟨[(3,pN x1),(1,.reg 0 0),(0,.yf 1)],[(1,.yld (L1.map (fun (x:Int×Pat)=>[pI .i64 x.1,(fun x=>.agg (B2 x)) x.2])) true),(0,.cells [.p (vSl 7 B2 q0)])]⟩) (ids:=[(0,0),(1,1)]) (fun _ _ _ _ _ d x1 L1 f h=>?_);refine kI hS h ?_ ?_<;>intro h
 ·obtain⟨c10,h⟩:=E6 h;obtain⟨L4,rfl,c⟩:=Mi h;replace h:=c;refine CV hS (And.intro c10 (by decide:(7:Nat)<=7)) (ys:=(fun (x:Int×Pat)=>[pI .i64 x.1,(fun x=>.agg (B2 x)) x.2]) (x1,q0.g x1.toNat)) (rest:=L4.map (fun (x:Int×Pat)=>[pI .i64 x.1,(fun x=>.agg (B2 x)) x.2])) ?_ ?_
  ·refine D6 hS trivial (b:=false) (fun c11=>?_) (fun c11=>?_)
   ·exact Bool.noConfusion ((rfl:false=false).symm.trans c11)
   ·exact f _ [(0,0),(1,1)] _ (wrap .i64 (x1-1)) L4 trivial h
  ·refine D6 hS trivial (b:=true) (fun c12=>?_) (fun c12=>?_)
   ·exact A9 hS trivial (a:=.tup []) (objs:=[(.cells [.p (vSl 7 B2 q0)]),.yld [] false]) ⟨[],[(1,.yld [] false),(0,.cells [.p (vSl 7 B2 q0)])]⟩ [0,1] (ids:=[(0,0),(1,1)]) ⟨false,rfl,rfl,_,rfl⟩
   ·exact Bool.noConfusion ((rfl:true=true).symm.trans c12)
 ·obtain rfl:=C6 h;exact A9 hS trivial (a:=.tup []) (objs:=[(.cells [.p (vSl 7 B2 q0)]),.yld [] true]) ⟨[],[(1,.yld [] true),(0,.cells [.p (vSl 7 B2 q0)])]⟩ [0,1] (ids:=[(0,0),(1,1)]) ⟨true,rfl,rfl,_,rfl⟩
def F8 (N:Nat)(a:Sl Pat):Option (Sl Pat):=
 some a
theorem V9 {N:Nat}{a:Sl Pat}{y:Sl Pat}(h:F8 N a=some y) :FunO S J9 [.p (vSl 7 B2 a)] [] (.clo D2 [] [.reg 0 0]) ([.cells [.p (vSl 7 B2 y)]]) []:=by unfold F8 at h;refine A4 hS Tryz.func122 ?_;obtain rfl:=C6 h;exact A9 hS trivial ⟨[(2,.clo D2 [] [.reg 2000 0])],[(2000,.cells [.p (vSl 7 B2 a)])]⟩ [2000] (ids:=[(2000,2000)]) ⟨rfl,rfl,rfl⟩
def S1 (N:Nat)(c:Pat):Option Int:=
 AW N (fun a (x3:Sl Pat) (x4:Int)=>
  if (decide (0<(x3.n:Int))) then
   if (x4==40) then
    some 12
   else
    if (((0:Int)<=(wrap .i64 ((x3.n:Int)-1))/\(wrap .i64 ((x3.n:Int)-1))<(x3.n:Int))/\(wrap .i64 ((x3.n:Int)-1)).toNat<x3.n)then
     if ((0:Int)<=(wrap .i64 ((x3.n:Int)-1))/\(wrap .i64 ((x3.n:Int)-1))<=(x3.n:Int))then
      (V7 N (x3.g (wrap .i64 ((x3.n:Int)-1)).toNat)).bind fun y5=>
      if (y5 != 0) then
       some y5
      else
       if ((0:Int)<=(if 41<((x3.g (wrap .i64 ((x3.n:Int)-1)).toNat).L.n:Int)then 41 else ((x3.g (wrap .i64 ((x3.n:Int)-1)).toNat).L.n:Int))/\(if 41<((x3.g (wrap .i64 ((x3.n:Int)-1)).toNat).L.n:Int)then 41 else ((x3.g (wrap .i64 ((x3.n:Int)-1)).toNat).L.n:Int))<=((x3.g (wrap .i64 ((x3.n:Int)-1)).toNat).L.n:Int))then
        (F8 N ((x3.g (wrap .i64 ((x3.n:Int)-1)).toNat).L.take (if 41<((x3.g (wrap .i64 ((x3.n:Int)-1)).toNat).L.n:Int)then 41 else ((x3.g (wrap .i64 ((x3.n:Int)-1)).toNat).L.n:Int)).toNat)).bind fun y6=>
        (B8 N y6).bind fun L3=>
        Y9 L3 (fun b (x7:Int×Pat) (z3:Sl Pat)=>
         if ((((z3.n+(Sl.of [Pat.nil]:Sl Pat).n)*64<=140737488355328/\z3.n+(Sl.of [Pat.nil]:Sl Pat).n<=140737488355328)/\((0:Int)<=(z3.n:Int)/\(z3.n:Int)<((z3.push Pat.nil).n:Int)))/\(z3.n:Int).toNat<(z3.push Pat.nil).n)then
          b ((z3.push Pat.nil).upd (z3.n:Int).toNat x7.2)
         else none
         ) (fun (z3:Sl Pat)=>
          a z3 (wrap .i64 (x4+1))
         ) (x3.take (wrap .i64 ((x3.n:Int)-1)).toNat)
       else none
     else none
    else none
  else
   some 0
  ) (Sl.of [c]:Sl Pat) 0
theorem Em {N:Nat}{b:Pat}{y:Int}(h:S1 N b=some y) :FunO S HD [.p (.agg (B2 b))] [] (pN y) ([]) []:=by
 unfold S1 at h;refine A4 hS Tryz.func103 ?_;refine J8 hS trivial 2 2000 (B2 b) ?_;refine H7 hS (And.intro (by decide:(7:Nat)<=7) (rfl:true=true)) h (fun x3 x4=>⟨[(4,pN x4),(3,.reg 4000 0)],[(4501,.vec CC 7 x3.n (fun i=>B2 (x3.g i)) false),(4000,.cells [.vec 4501])]⟩) (ids:=[(4000,4000),(4501,12000)]) (fun _ _ _ _ _ d x3 x4 j h=>?_) (hle:=klR [(1,.fn 1 (Sl.of [b]:Sl Pat).n (D8 [pI .i64 0,pI .u32 0,pI .u32 0,.v (.bool false),pI .i64 0,pI .i64 0,E1] [(0,B2 b)]) (fun i=>B2 ((Sl.of [b]:Sl Pat).g i)))] (al1 ⟨rfl,(fun i m=>match i,m with|0,_=>rfl|_+1,m=>absurd m (by omega))⟩ al0));refine kI hS h ?_ ?_<;>intro h
 ·refine kI hS h ?_ ?_<;>intro h
  ·cases h;exact kR hS
  ·obtain⟨c21,h⟩:=E6 h;refine J8 hS (And.intro (And.intro c21.1 (by decide:(7:Nat)<=7)) c21.2) 25 6000 (B2 (x3.g (wrap .i64 ((x3.n:Int)-1)).toNat)) ?_;obtain⟨c22,h⟩:=E6 h;refine Aa7 hS c22 30 4501 (wrap .i64 ((x3.n:Int)-1)).toNat 4508 (e:=CC) (k:=7) (N:=x3.n) (f:=fun i=>B2 (x3.g i)) (by have r:=c22;omega) ?_;obtain⟨y5,e7,h⟩:=B9 h;refine C4 hS [] (by decide:(7:Nat)<=7) (Ku hS hL e7) ?_;refine kI hS h ?_ ?_<;>intro h
   ·cases h;exact kR hS
   ·refine I9 hS trivial 39 ⟨[(38,.p (vSl 7 B2 (x3.g (wrap .i64 ((x3.n:Int)-1)).toNat).L)),(36,.p (vSl 7 B2 (x3.g (wrap .i64 ((x3.n:Int)-1)).toNat).L)),(4,pN x4),(3,.reg 4000 0)],[(4508,.vec CC 7 (x3.take (wrap .i64 ((x3.n:Int)-1)).toNat).n (fun i=>B2 ((x3.take (wrap .i64 ((x3.n:Int)-1)).toNat).g i)) false),(4000,.cells [.vec 4508])]⟩ (ids:=[(4000,4000),(4508,4508)]) ?_ (hle:=klR [(0,.fn (x3.g (wrap .i64 ((x3.n:Int)-1)).toNat).L.n (x3.g (wrap .i64 ((x3.n:Int)-1)).toNat).L.n (Ak (x3.g (wrap .i64 ((x3.n:Int)-1)).toNat)) (fun i=>B2 ((x3.g (wrap .i64 ((x3.n:Int)-1)).toNat).L.g i))),(1,.fn (x3.g (wrap .i64 ((x3.n:Int)-1)).toNat).L.n (x3.g (wrap .i64 ((x3.n:Int)-1)).toNat).L.n (Ak (x3.g (wrap .i64 ((x3.n:Int)-1)).toNat)) (fun i=>B2 ((x3.g (wrap .i64 ((x3.n:Int)-1)).toNat).L.g i)))] (al1 ⟨rfl,Q1 (x3.g (wrap .i64 ((x3.n:Int)-1)).toNat)⟩ (al1 ⟨rfl,Q1 (x3.g (wrap .i64 ((x3.n:Int)-1)).toNat)⟩ al0)));obtain⟨c24,h⟩:=E6 h;obtain⟨y6,e8,h⟩:=B9 h;refine C4 hS [] c24 (V9 hS hL e8) ?_;obtain⟨L3,e9,h⟩:=B9 h;refine Fm hS trivial [44000] [4,3] 905 (fun z3=>⟨[(4,pN x4),(3,.reg 4000 0)],[(4500,.vec CC 7 z3.n (fun i=>B2 (z3.g i)) false),(4000,.cells [.vec 4500])]⟩) (idl:=[(4000,4000),(4500,4508)]) h (T4 hS hL e9) (fun _=>by kernel_rfl) (fun _=>by kernel_rfl) (fun _=>by kernel_rfl) (fun _=>by kernel_rfl) (fun x7 _ o z3 q h=>?_) (fun z3 h=>?_)
    ·refine IV hS trivial ?_;refine YK hS trivial 10000 (B2 x7.2) ?_;refine L0 hS trivial [(0,.l [4000]),(1,.n),(2,.l [4500]),(4,.a [51000,4500]),(5,.l [51000]),(6,.a [51000]),(7,.a [4000])] ?_;refine BQ (by decide:(7:Nat)<=7) (x:=.sl true 7 1 (D8 [pI .i64 0,pI .u32 0,pI .u32 0,.v (.bool false),pI .i64 0,pI .i64 0,E1] [(0,[pI .i64 0,pI .u32 0,pI .u32 0,.v (.bool false),pI .i64 0,pI .i64 0,E1])])) ?_;obtain⟨c27,h⟩:=E6 h;refine L7 (And.intro (And.intro c27.1.1 c27.1.2) (And.intro (rfl:(7:Nat)=7) (And.intro c27.2 (by decide:(7:Nat)<=7)))) ?_;exact q _ [(905,905),(4000,4000),(4500,51000)] _ ((z3.push Pat.nil).upd (z3.n:Int).toNat x7.2) trivial h (hle:=klR [(0,.fn (z3.n+1) ((z3.push Pat.nil).upd (z3.n:Int).toNat x7.2).n (fun l=>if l=(z3.n:Int).toNat then splice (X3 z3.n (fun i=>B2 (z3.g i)) (D8 [pI .i64 0,pI .u32 0,pI .u32 0,.v (.bool false),pI .i64 0,pI .i64 0,E1] [(0,[pI .i64 0,pI .u32 0,pI .u32 0,.v (.bool false),pI .i64 0,pI .i64 0,E1])]) l) 0 [pI .i64 x7.2.Kind,pI .u32 x7.2.Is.Plus,pI .u32 x7.2.Is.Minus,.bb x7.2.Not,pI .i64 x7.2.Min,pI .i64 x7.2.Max,.sl false 7 x7.2.L.n (Ak x7.2)]else (X3 z3.n (fun i=>B2 (z3.g i)) (D8 [pI .i64 0,pI .u32 0,pI .u32 0,.v (.bool false),pI .i64 0,pI .i64 0,E1] [(0,[pI .i64 0,pI .u32 0,pI .u32 0,.v (.bool false),pI .i64 0,pI .i64 0,E1])])) l) (fun i=>B2 (((z3.push Pat.nil).upd (z3.n:Int).toNat x7.2).g i)))] (al1 ⟨rfl,setH (c:=B2) (v:=z3.push Pat.nil) (x:=x7.2) (app1H (c:=B2) (v:=z3) (z:=Pat.nil) same rfl) (fun _=>by simp[X3,D8,splice])⟩ al0))
    ·exact j _ [(4000,4000),(4501,4500)] _ z3 (wrap .i64 (x4+1)) trivial h
 ·cases h;exact kR hS
def AR (N:Nat)(b:Pat)(a:Sl Sound):Option ((Nat->Int)×Int):=
 (S1 N b).bind fun y1=>
 if (y1 != 0) then
  some (fun _=>0,y1)
 else
  if (decide (32<(a.n:Int))) then
   some (fun _=>0,11)
  else
   (B0 N a (fun (u1:Sound)=>Bp N u1)).bind fun y2=>
   if y2 then
    some (fun _=>0,14)
   else
    (Ca N b).bind fun y3=>
    (El N y3 a).bind fun y4=>
    some (y4,0)
theorem Gu {N:Nat}{a:Pat}{b:Sl Sound}{y:(Nat->Int)×Int}(h:AR N a b=some y) :FunO S Gp [.p (.agg (B2 a)),.p (vSl 2 A0 b)] [] (.tup [.p (.agg (cA 33 (pI .u64) y.1)),pN y.2]) ([]) []:=by
 unfold AR at h;refine A4 hS Tryz.func203 ?_;refine kC hS h (Em hS hL) (fun y1 h=>?_);refine kI hS h ?_ ?_<;>intro h
 ·obtain rfl:=C6 h;exact A9 hS (And.intro rfl (D7 _ _):(0:Nat)=0/\(Au 33 (fun i=>pI .u64 ((fun _=>0) i))).length=33) ⟨[(5,pN y1),(4,.reg 5000 0)],[(5000,.arr 33 (fun i=>pI .u64 ((fun _=>0) i)))]⟩ [] (ids:=[(5000,5000)]) ⟨rfl,rfl,rfl⟩ (hle:=klR [(1,.fn 33 33 (fun i=>[(fun i=>(cA 33 (pI .u64) (fun _=>0)).getD i default) i]) (fun i=>[pI .u64 ((fun _=>0) i)]))] (al1 ⟨rfl,D0 33 (fun i=>pI .u64 ((fun _=>0) i))⟩ al0))
 ·refine kI hS h ?_ ?_<;>intro h
  ·obtain rfl:=C6 h;exact A9 hS (And.intro rfl (D7 _ _):(0:Nat)=0/\(Au 33 (fun i=>pI .u64 ((fun _=>0) i))).length=33) ⟨[(5,pN 11),(4,.reg 5000 0)],[(5000,.arr 33 (fun i=>pI .u64 ((fun _=>0) i)))]⟩ [] (ids:=[(5000,5000)]) ⟨rfl,rfl,rfl⟩ (hle:=klR [(1,.fn 33 33 (fun i=>[(fun i=>(cA 33 (pI .u64) (fun _=>0)).getD i default) i]) (fun i=>[pI .u64 ((fun _=>0) i)]))] (al1 ⟨rfl,D0 33 (fun i=>pI .u64 ((fun _=>0) i))⟩ al0))
  ·refine kC hS h (G5 hS hL (fun e=>JB hS hL e)) (fun y2 h=>?_);refine kI hS h ?_ ?_<;>intro h
   ·obtain rfl:=C6 h;exact A9 hS (And.intro rfl (D7 _ _):(0:Nat)=0/\(Au 33 (fun i=>pI .u64 ((fun _=>0) i))).length=33) ⟨[(5,pN 14),(4,.reg 5000 0)],[(5000,.arr 33 (fun i=>pI .u64 ((fun _=>0) i)))]⟩ [] (ids:=[(5000,5000)]) ⟨rfl,rfl,rfl⟩ (hle:=klR [(1,.fn 33 33 (fun i=>[(fun i=>(cA 33 (pI .u64) (fun _=>0)).getD i default) i]) (fun i=>[pI .u64 ((fun _=>0) i)]))] (al1 ⟨rfl,D0 33 (fun i=>pI .u64 ((fun _=>0) i))⟩ al0))
   ·refine kC hS h (Kx hS hL) (fun y3 h=>?_);obtain⟨y4,e4,h⟩:=B9 h;refine Ij hS trivial (UE hS hL e4) ?_;obtain rfl:=C6 h;exact A9 hS (And.intro rfl (D7 _ _):(0:Nat)=0/\(Au 33 (fun i=>pI .u64 (y4 i))).length=33) ⟨[(5,pN 0),(4,.reg 5000 0)],[(5000,.arr 33 (fun i=>pI .u64 (y4 i)))]⟩ [] (ids:=[(5000,5000)]) ⟨rfl,rfl,rfl⟩ (hle:=klR [(1,.fn 33 33 (fun i=>[(fun i=>(cA 33 (pI .u64) y4).getD i default) i]) (fun i=>[pI .u64 (y4 i)]))] (al1 ⟨rfl,D0 33 (fun i=>pI .u64 (y4 i))⟩ al0))
def Dl (N:Nat)(d:Pat)(c:Sl Sound)(a:Int):Option ((Sl Int)×Int):=
 (AR N d c).bind fun y1=>
 lt (fun (z1:Int)=>
  if (z1 != 0) then
   some ((Sl.nil:Sl Int),z1)
  else
   AW N (fun b (x2:Sl Int) (x3:Int)=>
    if (decide (x3<(wrap .i64 ((c.n:Int)+1)))) then
     if ((((0:Int)<=x3/\x3<33)/\(0+x3.toNat*1)<33)/\(0:Int)<=a)then
      if ((K4 .and .u64 (shI .shr .u64 (y1.1 (0+x3.toNat*1)) a) 1)==1) then
       if ((x2.n+(Sl.of [x3]:Sl Int).n)*8<=140737488355328/\x2.n+(Sl.of [x3]:Sl Int).n<=140737488355328)then
        b (x2.push x3) (wrap .i64 (x3+1))
       else none
      else
       b x2 (wrap .i64 (x3+1))
     else none
    else
     some (x2,0)
    ) (Sl.nil:Sl Int) 0
  ) fun k1=>
  if (y1.2==0) then
   (AQ N c a).bind fun y3=>
   k1 y3
  else
   k1 y1.2
theorem ML {N:Nat}{f:Pat}{d:Sl Sound}{a:Int}{y:(Sl Int)×Int}(h:Dl N f d a=some y) :FunO S Gn [.p (.agg (B2 f)),.p (vSl 2 A0 d),pN a] [] (.tup [.vec 0,pN y.2]) ([.vec C0 1 y.1.n (fun i=>cI .i64 (y.1.g i)) true]) []:=by
 unfold Dl at h;refine A4 hS Tryz.func193 ?_;refine kC hS h (Gu hS hL) (fun y1 h=>?_);refine Ih hS (And.intro rfl (D7 _ _):(0:Nat)=0/\(Au 33 (fun i=>pI .u64 (y1.1 i))).length=33) (A7 hS) h 0 (fun z1=>⟨[(9,pN z1),(8,.reg 9000 0),(2,pN a),(1,.p (vSl 2 A0 d))],[(9000,.arr 33 (fun i=>pI .u64 (y1.1 i)))]⟩) (fun M1 k1 j h=>?_) (fun z1 h=>?_)
 ·refine kI hS h ?_ ?_<;>intro h
  ·refine kC hS h (Gt hS hL) (fun y3 h=>?_);exact j _ [(9000,9000)] _ y3 trivial h (hle:=klR [(3,.fn 33 33 (fun i=>[(fun i=>(cA 33 (pI .u64) y1.1).getD i default) i]) (fun i=>[pI .u64 (y1.1 i)]))] (al1 ⟨rfl,D0 33 (fun i=>pI .u64 (y1.1 i))⟩ al0))
  ·exact j _ [(9000,9000)] _ y1.2 trivial h (hle:=klR [(3,.fn 33 33 (fun i=>[(fun i=>(cA 33 (pI .u64) y1.1).getD i default) i]) (fun i=>[pI .u64 (y1.1 i)]))] (al1 ⟨rfl,D0 33 (fun i=>pI .u64 (y1.1 i))⟩ al0))
 ·refine kI hS h ?_ ?_<;>intro h
  ·obtain rfl:=C6 h;exact A9 hS trivial ⟨[(7,pN z1),(6,.vec 7700)],[(7700,.vec C0 1 (Sl.nil:Sl Int).n (fun i=>cI .i64 ((Sl.nil:Sl Int).g i)) true)]⟩ [7700] (ids:=[]) ⟨rfl,rfl,rfl⟩
  ·refine H7 hS trivial h (fun x2 x3=>⟨[(29,pN x3),(28,pN (wrap .i64 ((d.n:Int)+1))),(10,.vec 11500),(8,.reg 9000 0),(2,pN a)],[(11500,.vec C0 1 x2.n (fun i=>cI .i64 (x2.g i)) false),(9000,.arr 33 (fun i=>pI .u64 (y1.1 i)))]⟩) (ids:=[(9000,9000)]) (fun _ _ _ _ _ m x2 x3 l h=>?_);refine kI hS h ?_ ?_<;>intro h
   ·obtain⟨c12,h⟩:=E6 h;refine D6 hS c12 (b:=(K4 .and .u64 (shI .shr .u64 (y1.1 (0+x3.toNat*1)) a) 1)==1) (fun c13=>?_) (fun c13=>?_)
    ·replace h:=itT c13 h;obtain⟨c14,h⟩:=E6 h;exact l _ [(9000,9000),(11500,43000)] _ (x2.push x3) (wrap .i64 (x3+1)) (And.intro (rfl:true=true) c14) h (hle:=klR [(3,.fn (x2.n+1) (x2.push x3).n (X3 x2.n (fun i=>cI .i64 (x2.g i)) (D8 [pI .i64 0] [(0,cI .i64 x3)])) (fun i=>cI .i64 ((x2.push x3).g i)))] (al1 ⟨rfl,Lf (c:=cI .i64) (v:=x2) (x:=x3) (z:=[(pI .i64 0)]) same rfl rfl⟩ al0))
    ·replace h:=itF c13 h;exact l _ [(9000,9000),(11500,11500)] _ x2 (wrap .i64 (x3+1)) trivial h
   ·obtain rfl:=C6 h;exact A9 hS trivial ⟨[(7,pN 0),(6,.vec 11500)],[(11500,.vec C0 1 x2.n (fun i=>cI .i64 (x2.g i)) true)]⟩ [11500] (ids:=[(11500,11500)]) ⟨rfl,rfl,rfl⟩
def I4 (N:Nat)(a:List (Int)):Option (Sl Int):=
 Y9 a (fun b (x1:Int) (z1:Sl Int)=>
  if ((z1.n+(Sl.of [x1]:Sl Int).n)*8<=140737488355328/\z1.n+(Sl.of [x1]:Sl Int).n<=140737488355328)then
   b (z1.push x1)
  else none
  ) (fun (z1:Sl Int)=>
   some z1
  ) (Sl.nil:Sl Int)
theorem Ap {N:Nat}{b:List (Int)}{a:Int}{kp_seq:Nat}(fp_seq:∃fn,Ae3[kp_seq]? = some fn/\fn.body.isSome=true/\(fn.name == "runtime.NumGoroutine")=false)(d:Fg S kp_seq [] [.reg 0 0] [(.cells [(.p (pI .u64 a))])] (b.map (fun (x:Int)=>[(pI .i64) x]))){y:(Sl Int)}(h:I4 N b=some y) :FunO S P0 [(.p E1),(.clo kp_seq [] [(.reg 0 0)])] [(.cells [(.p (pI .u64 a))])] (.vec 0) ([(.vec C0 1 y.n (fun i=>(cI .i64) (y.g i)) true)]) [false]:=by
 unfold I4 at h;refine A4 hS Tryz.func209 ?_;refine Rn hS trivial fp_seq [0] [2] 901 (fun z1=>⟨[(2,(.reg 3000 0))],[(3500,(.vec C0 1 z1.n (fun i=>(cI .i64) (z1.g i)) false)),(3000,(.cells [(.vec 3500)]))]⟩) (idl:=[(3000,3000)]) h d (fun _=>by kernel_rfl) (fun _=>by kernel_rfl) (fun _=>by kernel_rfl) (fun _=>by kernel_rfl) (fun x1 _ f z1 j h=>?_) (fun z1 h=>?_)
 ·refine IV hS trivial ?_;obtain⟨c1,h⟩:=E6 h;exact j _ [(901,901),(3000,3000),(3500,12000)] _ (z1.push x1) (And.intro (rfl:true=true) c1) h (hle:=klR [(0,.fn (z1.n+1) (z1.push x1).n (X3 z1.n (fun i=>(cI .i64) (z1.g i)) (D8 [(pI .i64 0)] [(0,(cI .i64) x1)])) (fun i=>(cI .i64) ((z1.push x1).g i)))] (al1 ⟨rfl,(Lf (c:=(cI .i64)) (v:=z1) (x:=x1) (z:=[(pI .i64 0)]) same rfl rfl)⟩ al0))
 ·obtain rfl:=C6 h;exact A9 hS trivial ⟨[(4,(.vec 3500))],[(3500,(.vec C0 1 z1.n (fun i=>(cI .i64) (z1.g i)) true))]⟩ [3500] (ids:=[(3500,3500)]) ⟨rfl,rfl,rfl⟩
def S2 (N:Nat)(a:List (Int)):Option (Sl Int):=
 (I4 N a).bind fun y1=>
 some y1
theorem En {N:Nat}{b:List (Int)}{a:Int}{kp_seq:Nat}(fp_seq:∃fn,Ae3[kp_seq]? = some fn/\fn.body.isSome=true/\(fn.name == "runtime.NumGoroutine")=false)(c:Fg S kp_seq [] [.reg 0 0] [(.cells [(.p (pI .u64 a))])] (b.map (fun (x:Int)=>[(pI .i64) x]))){y:(Sl Int)}(h:S2 N b=some y) :FunO S AG [(.clo kp_seq [] [(.reg 0 0)])] [(.cells [(.p (pI .u64 a))])] (.vec 0) ([(.vec C0 1 y.n (fun i=>(cI .i64) (y.g i)) true)]) [false]:=by unfold S2 at h;refine A4 hS Tryz.func205 ?_;obtain⟨y1,e1,h⟩:=B9 h;refine C4 hS [0] trivial (Ap hS hL fp_seq c e1) ?_;obtain rfl:=C6 h;exact A9 hS trivial ⟨[(2,(.vec 5000))],[(5000,(.vec C0 1 y1.n (fun i=>(cI .i64) (y1.g i)) true))]⟩ [5000] (ids:=[(5000,5000)]) ⟨rfl,rfl,rfl⟩
def Fo (N:Nat)(c:Pat)(b:Sl Sound)(a:Int):Option ((Sl Int)×Int):=
 (AR N c b).bind fun y1=>
 lt (fun (z1:Int)=>
  if (z1 != 0) then
   some ((Sl.nil:Sl Int),z1)
  else
   if (((0:Int)<=a/\a<33)/\(0+a.toNat*1)<33)then
    (V8 N (y1.1 (0+a.toNat*1))).bind fun y4=>
    (P2 N y4).bind fun L1=>
    (S2 N L1).bind fun y5=>
    some (y5,0)
   else none
  ) fun k1=>
  if (y1.2==0) then
   (AQ N b a).bind fun y3=>
   k1 y3
  else
   k1 y1.2
theorem Ql {N:Nat}{b:Pat}{c:Sl Sound}{a:Int}{y:(Sl Int)×Int}(h:Fo N b c a=some y) :FunO S Jq [.p (.agg (B2 b)),.p (vSl 2 A0 c),pN a] [] (.tup [.vec 0,pN y.2]) ([.vec C0 1 y.1.n (fun i=>cI .i64 (y.1.g i)) true]) []:=by
 unfold Fo at h;refine A4 hS Tryz.func194 ?_;refine kC hS h (Gu hS hL) (fun y1 h=>?_);refine Ih hS (And.intro rfl (D7 _ _):(0:Nat)=0/\(Au 33 (fun i=>pI .u64 (y1.1 i))).length=33) (A7 hS) h 0 (fun z1=>⟨[(9,pN z1),(8,.reg 9000 0),(2,pN a)],[(9000,.arr 33 (fun i=>pI .u64 (y1.1 i)))]⟩) (fun M1 k1 d h=>?_) (fun z1 h=>?_)
 ·refine kI hS h ?_ ?_<;>intro h
  ·refine kC hS h (Gt hS hL) (fun y3 h=>?_);exact d _ [(9000,9000)] _ y3 trivial h (hle:=klR [(2,.fn 33 33 (fun i=>[(fun i=>(cA 33 (pI .u64) y1.1).getD i default) i]) (fun i=>[pI .u64 (y1.1 i)]))] (al1 ⟨rfl,D0 33 (fun i=>pI .u64 (y1.1 i))⟩ al0))
  ·exact d _ [(9000,9000)] _ y1.2 trivial h (hle:=klR [(2,.fn 33 33 (fun i=>[(fun i=>(cA 33 (pI .u64) y1.1).getD i default) i]) (fun i=>[pI .u64 (y1.1 i)]))] (al1 ⟨rfl,D0 33 (fun i=>pI .u64 (y1.1 i))⟩ al0))
 ·refine kI hS h ?_ ?_<;>intro h
  ·obtain rfl:=C6 h;exact A9 hS trivial ⟨[(7,pN z1),(6,.vec 7700)],[(7700,.vec C0 1 (Sl.nil:Sl Int).n (fun i=>cI .i64 ((Sl.nil:Sl Int).g i)) true)]⟩ [7700] (ids:=[]) ⟨rfl,rfl,rfl⟩
  ·obtain⟨c5,h⟩:=E6 h;obtain⟨y4,e4,h⟩:=B9 h;refine C4 hS [] c5 (BY hS hL e4) ?_;obtain⟨L1,e5,h⟩:=B9 h;obtain⟨y5,e6,h⟩:=B9 h;refine C4 hS [28000] trivial (En hS hL ⟨_,Tryz.func210,by decide +kernel,by decide +kernel⟩ (Ay hS hL e5) e6) ?_;obtain rfl:=C6 h;exact A9 hS trivial ⟨[(7,pN 0),(6,.vec 29000)],[(29000,.vec C0 1 y5.n (fun i=>cI .i64 (y5.g i)) true)]⟩ [29000] (ids:=[(29000,29000)]) ⟨rfl,rfl,rfl⟩
end Go.AM
namespace Go.AM
open IntKind (wrap)
open Go.Proofs
set_option maxRecDepth 10000
set_option maxHeartbeats 2000000
variable {S:U5}(hS:F6 S Tryz.prog) (hL:JS S)
include hS hL
def Z9 (N:Nat)(a:Str):Option Bool:=
 lt (fun (z1:Bool)=>
  some z1
  ) fun k1=>
  if ((a==[]) != true) then
   if (decide ((a.length:Int)<=24)) then
    (BW N a [97,98,99,100,101,102,103,104,105,106,107,108,109,110,111,112,113,114,115,116,117,118,119,120,121,122,65,66,67,68,69,70,71,72,73,74,75,76,77,78,79,80,81,82,83,84,85,86,87,88,89,90,48,49,50,51,52,53,54,55,56,57,45]).bind fun y2=>
    k1 ((y2==[]) != false)
   else
    k1 false
  else
   k1 false
theorem Qm {N:Nat}{b:Str}{y:Bool}(h:Z9 N b=some y) :FunO S Jl [.p (.str b)] [] (pB y) ([]) []:=by
 unfold Z9 at h;refine A4 hS Tryz.func102 ?_;refine Ih hS trivial (A7 hS) h 0 (fun z1=>⟨[(2,pB z1)],[]⟩) (fun M1 k1 a h=>?_) (fun z1 h=>?_)
 ·refine kG hS h (fun h=>?_) (fun h=>?_)
  ·refine kG hS h (fun h=>?_) (fun h=>?_)
   ·refine kC hS h (Ks hS hL) (fun y2 h=>?_);exact a _ [] _ ((y2==[]) != false) trivial h
   ·exact a _ [] _ false trivial h
  ·exact a _ [] _ false trivial h
 ·cases h;exact kR hS
def P6 (N:Nat)(p_x:Z4)(a:Int):Option Bool:=
 lt (fun (z1:Bool)=>
  if z1 then
   some false
  else
   if ((((K4 .andNot .u32 (K4 .or .u32 p_x.Clear p_x.Take) 16777215) != 0)||((K4 .and .u32 p_x.Clear (K4 .or .u32 p_x.Set.Plus p_x.Set.Minus)) != 0))||((K4 .and .u32 p_x.Take (K4 .or .u32 (K4 .or .u32 p_x.Set.Plus p_x.Set.Minus) p_x.Clear)) != 0)) then
    some false
   else
    if (p_x.Take==0) then
     some (p_x.Of==0)
    else
     some ((decide (0<=p_x.Of))&&(decide (p_x.Of<a)))
  ) fun k1=>
  if (decide (p_x.From<(-1))) then
   k1 true
  else
   if (decide (a<=p_x.From)) then
    k1 true
   else
    (E8 N p_x.Set).bind fun y2=>
    k1 (!y2)
theorem SW {N:Nat}{p_x:Z4}{b:Int}{y:Bool}(h:P6 N p_x b=some y) :FunO S Lr [.p (.agg (O2 p_x)),pN b] [] (pB y) ([]) []:=by
 unfold P6 at h;refine A4 hS Tryz.func99 ?_;refine Ih hS trivial (A7 hS) h 0 (fun z1=>⟨[(13,pB z1),(5,pU (K4 .or .u32 p_x.Set.Plus p_x.Set.Minus)),(2,.reg 3000 0),(1,pN b)],[(3000,.cells ((O2 p_x).map .p))]⟩) (fun M1 k1 c h=>?_) (fun z1 h=>?_)
 ·refine kG hS h (fun h=>?_) (fun h=>?_)
  ·exact c _ [(3000,3000)] _ true trivial h
  ·refine kG hS h (fun h=>?_) (fun h=>?_)
   ·exact c _ [(3000,3000)] _ true trivial h
   ·refine kC hS h (N2 hS hL) (fun y2 h=>?_);exact c _ [(3000,3000)] _ (!y2) trivial h
 ·refine kI hS h ?_ ?_<;>intro h
  ·cases h;exact kR hS
  ·refine kB hS (A7 hS) trivial trivial 16 (.o (.o (.a ((K4 .andNot .u32 (K4 .or .u32 p_x.Clear p_x.Take) 16777215) != 0)) (.a ((K4 .and .u32 p_x.Clear (K4 .or .u32 p_x.Set.Plus p_x.Set.Minus)) != 0))) (.a ((K4 .and .u32 p_x.Take (K4 .or .u32 (K4 .or .u32 p_x.Set.Plus p_x.Set.Minus) p_x.Clear)) != 0))) ?_;refine kI hS h ?_ ?_<;>intro h
   ·cases h;exact kR hS
   ·refine kI hS h ?_ ?_<;>intro h
    ·cases h;exact kR hS
    ·refine kB hS (A7 hS) trivial trivial 5 (.n (.a (decide (0<=p_x.Of))) (.a (decide (p_x.Of<b)))) ?_;cases h;exact kR hS
def T5 (N:Nat)(p_x:Z4)(q0:Int):Option Bool:=
 (P6 N p_x q0).bind fun y1=>
 some (!y1)
theorem MM {N:Nat}{p_x:Z4}{q0:Int}{y:Bool}(h:T5 N p_x q0=some y) :FunO S Gi [.p (.agg (O2 p_x)),.reg 0 0] [.cells [pN q0]] (pB y) ([.cells [pN q0]]) [true]:=by unfold T5 at h;refine A4 hS Tryz.func98 ?_;refine kC hS h (SW hS hL) (fun y1 h=>?_);obtain rfl:=C6 h;exact A9 hS trivial ⟨[(3,pB (!y1))],[(0,.cells [pN q0])]⟩ [0] (ids:=[(0,0)]) ⟨rfl,rfl,rfl⟩
def T6 (N:Nat)(a:Sound):Option Bool:=
 (E8 N a).bind fun y1=>
 some (!y1)
theorem MN {N:Nat}{a:Sound}{y:Bool}(h:T6 N a=some y) :FunO S Gj [.p (.agg (A0 a))] [] (pB y) ([]) []:=by unfold T6 at h;refine A4 hS Tryz.func100 ?_;refine kC hS h (N2 hS hL) (fun y1 h=>?_);cases h;exact kR hS
def D4 (N:Nat)(a:Sl Z4)(c:Z4->Option Bool):Option Int:=
 Q6 N (fun b (x1:Int)=>
  if (decide (x1<(a.n:Int))) then
   if ((0:Int)<=x1/\x1<(a.n:Int))then
    (c (a.g x1.toNat)).bind fun y3=>
    if y3 then
     some x1
    else
     b (wrap .i64 (x1+1))
   else none
  else
   some (-1)
  ) 0
theorem U3 {N:Nat}{c:Sl Z4}{d:Z4->Option Bool}{a:Int}{kp_f:Nat}(f:∀{a0:Z4}{b:Bool},d a0=some b->FunO S kp_f [.p (.agg (O2 a0)),.reg 0 0] [.cells [pN a]] (pB b) [.cells [pN a]] [true]){y:Int}(h:D4 N c d=some y) :FunO S J4 [.p (vSl 6 O2 c),.clo kp_f [] [.reg 0 0]] [.cells [pN a]] (pN y) ([.cells [pN a]]) [true]:=by
 unfold D4 at h;refine A4 hS Tryz.func124 ?_;refine O9 hS trivial h (fun x1=>⟨[(8,pN x1),(7,pN (c.n:Int)),(1,.clo kp_f [] [.reg 0 0]),(0,.p (vSl 6 O2 c))],[(0,.cells [pN a])]⟩) (ids:=[(0,0)]) (fun _ _ _ _ _ g x1 i h=>?_);refine kI hS h ?_ ?_<;>intro h
 ·obtain⟨c8,h⟩:=E6 h;obtain⟨y3,e3,h⟩:=B9 h;refine C4 hS [0] (And.intro c8 (by decide:(6:Nat)<=6)) (f e3) ?_;refine kI hS h ?_ ?_<;>intro h
  ·obtain rfl:=C6 h;exact A9 hS trivial ⟨[(4,pN x1)],[(0,.cells [pN a])]⟩ [0] (ids:=[(0,0)]) ⟨rfl,rfl,rfl⟩
  ·exact i _ [(0,0)] _ (wrap .i64 (x1+1)) trivial h
 ·obtain rfl:=C6 h;exact A9 hS trivial ⟨[(4,pN (-1))],[(0,.cells [pN a])]⟩ [0] (ids:=[(0,0)]) ⟨rfl,rfl,rfl⟩
def B5 (N:Nat)(a:Sl Z4)(b:Z4->Option Bool):Option Bool:=
 (D4 N a b).bind fun y1=>
 some (decide (0<=y1))
theorem Q9 {N:Nat}{c:Sl Z4}{d:Z4->Option Bool}{a:Int}{kp_f:Nat}(f:∀{a0:Z4}{b:Bool},d a0=some b->FunO S kp_f [.p (.agg (O2 a0)),.reg 0 0] [.cells [pN a]] (pB b) [.cells [pN a]] [true]){y:Bool}(h:B5 N c d=some y) :FunO S H8 [.p (vSl 6 O2 c),.clo kp_f [] [.reg 0 0]] [.cells [pN a]] (pB y) ([.cells [pN a]]) [true]:=by unfold B5 at h;refine A4 hS Tryz.func105 ?_;obtain⟨y1,e1,h⟩:=B9 h;refine C4 hS [0] trivial (U3 hS hL (fun e=>f e) e1) ?_;obtain rfl:=C6 h;exact A9 hS trivial ⟨[(4,pB (decide (0<=y1)))],[(0,.cells [pN a])]⟩ [0] (ids:=[(0,0)]) ⟨rfl,rfl,rfl⟩
def O8 (N:Nat)(a:Law):Option Int:=
 (Z9 N a.Name).bind fun y1=>
 if (!y1) then
  some 17
 else
  (S1 N a.Left).bind fun y2=>
  if (y2 != 0) then
   some 17
  else
   (S1 N a.Right).bind fun y3=>
   if (y3 != 0) then
    some 17
   else
    if (decide (4<(a.If.n:Int))) then
     some 17
    else
     if (decide (6<(a.Out.n:Int))) then
      some 17
     else
      if ((wrap .i64 ((a.If.n:Int)+(a.Out.n:Int)))==0) then
       some 17
      else
       if ((decide (a.Mode<1))||(decide (3<a.Mode))) then
        some 17
       else
        (B0 N a.If (fun (u1:Sound)=>T6 N u1)).bind fun y4=>
        if y4 then
         some 17
        else
         (B5 N a.Out (fun (u2:Z4)=>T5 N u2 (a.If.n:Int))).bind fun y5=>
         if y5 then
          some 17
         else
          some 0
theorem Dm {N:Nat}{c:Law}{y:Int}(h:O8 N c=some y) :FunO S Ji [.p (.agg (A8 c))] [] (pN y) ([]) []:=by
 unfold O8 at h;refine A4 hS Tryz.func76 ?_;refine kC hS h (Qm hS hL) (fun y1 h=>?_);refine D6 hS trivial (b:=!y1) (fun c1=>?_) (fun c1=>?_)
 ·replace h:=itT c1 h;refine D6 hS trivial (b:=!y1) (fun c2=>?_) (fun c2=>?_)
  ·cases h;exact kR hS
  ·exact Bool.noConfusion (c1.symm.trans c2)
 ·replace h:=itF c1 h;refine kC hS h (Em hS hL) (fun y2 h=>?_);refine D6 hS trivial (b:=y2 != 0) (fun c3=>?_) (fun c3=>?_)
  ·replace h:=itT c3 h;refine D6 hS trivial (b:=y2 != 0) (fun c4=>?_) (fun c4=>?_)
   ·cases h;exact kR hS
   ·exact Bool.noConfusion (c3.symm.trans c4)
  ·replace h:=itF c3 h;refine kC hS h (Em hS hL) (fun y3 h=>?_);refine D6 hS trivial (b:=y3 != 0) (fun c5=>?_) (fun c5=>?_)
   ·replace h:=itT c5 h;refine D6 hS trivial (b:=y3 != 0) (fun c6=>?_) (fun c6=>?_)
    ·cases h;exact kR hS
    ·exact Bool.noConfusion (c5.symm.trans c6)
   ·replace h:=itF c5 h;refine D6 hS trivial (b:=decide (4<(c.If.n:Int))) (fun c7=>?_) (fun c7=>?_)
    ·replace h:=itT c7 h;refine D6 hS trivial (b:=decide (4<(c.If.n:Int))) (fun c8=>?_) (fun c8=>?_)
     ·cases h;exact kR hS
     ·exact Bool.noConfusion (c7.symm.trans c8)
    ·replace h:=itF c7 h;refine D6 hS trivial (b:=decide (6<(c.Out.n:Int))) (fun c9=>?_) (fun c9=>?_)
     ·replace h:=itT c9 h;refine D6 hS trivial (b:=decide (6<(c.Out.n:Int))) (fun c10=>?_) (fun c10=>?_)
      ·cases h;exact kR hS
      ·exact Bool.noConfusion (c9.symm.trans c10)
     ·replace h:=itF c9 h;refine D6 hS trivial (b:=(wrap .i64 ((c.If.n:Int)+(c.Out.n:Int)))==0) (fun c11=>?_) (fun c11=>?_)
      ·replace h:=itT c11 h;refine D6 hS trivial (b:=(wrap .i64 ((c.If.n:Int)+(c.Out.n:Int)))==0) (fun c12=>?_) (fun c12=>?_)
       ·cases h;exact kR hS
       ·exact Bool.noConfusion (c11.symm.trans c12)
      ·replace h:=itF c11 h;refine kB hS (A7 hS) trivial trivial 4 (.o (.a (decide (c.Mode<1))) (.a (decide (3<c.Mode)))) ?_;refine D6 hS trivial (b:=(decide (c.Mode<1))||(decide (3<c.Mode))) (fun c13=>?_) (fun c13=>?_)
       ·replace h:=itT c13 h;refine D6 hS trivial (b:=(decide (c.Mode<1))||(decide (3<c.Mode))) (fun c14=>?_) (fun c14=>?_)
        ·cases h;exact kR hS
        ·exact Bool.noConfusion (c13.symm.trans c14)
       ·replace h:=itF c13 h;refine kC hS h (G5 hS hL (fun e=>MN hS hL e)) (fun y4 h=>?_);refine D6 hS trivial (b:=y4) (fun c15=>?_) (fun c15=>?_)
        ·replace h:=itT c15 h;refine D6 hS trivial (b:=y4) (fun c16=>?_) (fun c16=>?_)
         ·cases h;exact kR hS
         ·exact Bool.noConfusion (c15.symm.trans c16)
        ·replace h:=itF c15 h;obtain⟨y5,e5,h⟩:=B9 h;refine C4 hS [4000] trivial (Q9 hS hL (fun e=>MM hS hL e) e5) ?_;refine kI hS h ?_ ?_<;>intro h
         ·cases h;exact kR hS
         ·cases h;exact kR hS
def Fp (N:Nat)(a:Law)(b:Sl Sound):Option Int:=
 (O8 N a).bind fun y1=>
 if (y1 != 0) then
  some y1
 else
  (N3 N b).bind fun y2=>
  some y2
theorem Qn {N:Nat}{a:Law}{b:Sl Sound}{y:Int}(h:Fp N a b=some y) :FunO S Jp [.p (.agg (A8 a)),.p (vSl 2 A0 b)] [] (pN y) ([]) []:=by
 unfold Fp at h;refine A4 hS Tryz.func160 ?_;refine kC hS h (Dm hS hL) (fun y1 h=>?_);refine kI hS h ?_ ?_<;>intro h
 ·cases h;exact kR hS
 ·refine kC hS h (BI hS hL) (fun y2 h=>?_);cases h;exact kR hS
def Cb (N:Nat)(a:Int)(q0:Law)(q1:Sl Sound):Option Bool:=
 (Dl N q0.Left q1 a).bind fun y1=>
 if ((y1.1.n:Int)==0) then
  some false
 else
  (Fo N q0.Right q1 (wrap .i64 (a+(q0.If.n:Int)))).bind fun y2=>
  some (decide (0<(y2.1.n:Int)))
theorem Ky {N:Nat}{a:Int}{q0:Law}{q1:Sl Sound}{y:Bool}(h:Cb N a q0 q1=some y) :FunO S P5 [pN a,.reg 0 0,.reg 1 0] [.cells ((A8 q0).map .p),.cells [.p (vSl 2 A0 q1)]] (pB y) ([.cells ((A8 q0).map .p),.cells [.p (vSl 2 A0 q1)]]) [true,true]:=by
 unfold Cb at h;refine A4 hS Tryz.func192 ?_;refine kC hS h (ML hS hL) (fun y1 h=>?_);refine kI hS h ?_ ?_<;>intro h
 ·obtain rfl:=C6 h;exact A9 hS trivial ⟨[(4,pB false)],[(1,.cells [.p (vSl 2 A0 q1)]),(0,.cells ((A8 q0).map .p))]⟩ [0,1] (ids:=[(0,0),(1,1)]) ⟨rfl,rfl,rfl⟩
 ·refine kC hS h (Ql hS hL) (fun y2 h=>?_);obtain rfl:=C6 h;exact A9 hS trivial ⟨[(4,pB (decide (0<(y2.1.n:Int))))],[(1,.cells [.p (vSl 2 A0 q1)]),(0,.cells ((A8 q0).map .p))]⟩ [0,1] (ids:=[(0,0),(1,1)]) ⟨rfl,rfl,rfl⟩
def Eo (N:Nat)(a:Law)(b:Sl Sound):Option (Law×(Sl Sound)):=
 some (a,b)
theorem OC {N:Nat}{a:Law}{b:Sl Sound}{y:Law×(Sl Sound)}(h:Eo N a b=some y) :FunO S HG [.p (.agg (A8 a)),.p (vSl 2 A0 b)] [] (.clo P5 [] [.reg 0 0,.reg 1 0]) ([.cells ((A8 y.1).map .p),.cells [.p (vSl 2 A0 y.2)]]) []:=by unfold Eo at h;refine A4 hS Tryz.func182 ?_;obtain rfl:=C6 h;exact A9 hS trivial ⟨[(4,.clo P5 [] [.reg 3000 0,.reg 4000 0])],[(4000,.cells [.p (vSl 2 A0 b)]),(3000,.cells ((A8 a).map .p))]⟩ [3000,4000] (ids:=[(3000,3000),(4000,4000)]) ⟨rfl,rfl,rfl⟩
def Gv (N:Nat)(a:Law)(b:Sl Sound):Option (Sl Sound):=
 AW N (fun c (x1:Sl Sound) (x2:Int)=>
  if (decide (x2<(a.Out.n:Int))) then
   if ((0:Int)<=x2/\x2<(a.Out.n:Int))then
    if ((decide (0<=(a.Out.g x2.toNat).From))=true->((0:Int)<=(a.Out.g x2.toNat).From/\(a.Out.g x2.toNat).From<(b.n:Int)))then
     (BX N (⟨(if (decide (0<=(a.Out.g x2.toNat).From)) then (b.g (a.Out.g x2.toNat).From.toNat).Plus else 0),(if (decide (0<=(a.Out.g x2.toNat).From)) then (b.g (a.Out.g x2.toNat).From.toNat).Minus else 0)⟩:Sound) (a.Out.g x2.toNat).Clear (a.Out.g x2.toNat).Set).bind fun y5=>
     if ((a.Out.g x2.toNat).Take != 0) then
      if ((0:Int)<=(a.Out.g x2.toNat).Of/\(a.Out.g x2.toNat).Of<(b.n:Int))then
       (Ek N y5.1 (b.g (a.Out.g x2.toNat).Of.toNat) (a.Out.g x2.toNat).Take).bind fun y6=>
       if ((x1.n+(Sl.of [y6.1]:Sl Sound).n)*8<=140737488355328/\x1.n+(Sl.of [y6.1]:Sl Sound).n<=140737488355328)then
        c (x1.push y6.1) (wrap .i64 (x2+1))
       else none
      else none
     else
      if ((x1.n+(Sl.of [y5.1]:Sl Sound).n)*8<=140737488355328/\x1.n+(Sl.of [y5.1]:Sl Sound).n<=140737488355328)then
       c (x1.push y5.1) (wrap .i64 (x2+1))
      else none
    else none
   else none
  else
   some x1
  ) (Sl.nil:Sl Sound) 0
theorem OD {N:Nat}{d:Law}{a:Sl Sound}{y:Sl Sound}(h:Gv N d a=some y) :FunO S Or [.p (.agg (A8 d)),.p (vSl 2 A0 a)] [] (.p (vSl 2 A0 y)) ([]) []:=by
 unfold Gv at h;refine A4 hS Tryz.func172 ?_;refine J8 hS trivial 4 3000 (A8 d) ?_;refine H7 hS trivial h (fun x1 x2=>⟨[(12,pN x2),(11,pN (d.Out.n:Int)),(10,.p (vSl 6 O2 d.Out)),(5,.vec 6500),(1,.p (vSl 2 A0 a))],[(6500,.vec B3 2 x1.n (fun i=>A0 (x1.g i)) false)]⟩) (ids:=[]) (fun _ _ _ _ _ o x1 x2 l h=>?_);refine kI hS h ?_ ?_<;>intro h
 ·obtain⟨c16,h⟩:=E6 h;refine J8 hS (And.intro c16 (by decide:(6:Nat)<=6)) 8 8000 (O2 (d.Out.g x2.toNat)) ?_;obtain⟨c18,h⟩:=E6 h;obtain⟨t5,f⟩:∃x:Int,x=(if (decide (0<=(d.Out.g x2.toNat).From)) then (a.g (d.Out.g x2.toNat).From.toNat).Plus else 0):=⟨_,rfl⟩;obtain⟨t6,j⟩:∃x:Int,x=(if (decide (0<=(d.Out.g x2.toNat).From)) then (a.g (d.Out.g x2.toNat).From.toNat).Minus else 0):=⟨_,rfl⟩;refine PL hS trivial (A7 hS) 0 ⟨[(12,pN x2),(11,pN (d.Out.n:Int)),(10,.p (vSl 6 O2 d.Out)),(8,.reg 9000 0),(7,.p (.ptr (O2 (d.Out.g x2.toNat)))),(5,.vec 6500),(1,.p (vSl 2 A0 a))],[(9000,.cells [pU t5,pU t6]),(6500,.vec B3 2 x1.n (fun i=>A0 (x1.g i)) false)]⟩ (fun M3 m=>?_) ?_
  ·refine D6 hS trivial (b:=decide (0<=(d.Out.g x2.toNat).From)) (fun c19=>?_) (fun c19=>?_)
   ·exact m _ [(6500,6500),(9000,9000)] _ (And.intro (c18 c19) (by decide:(2:Nat)<=2)) (hle:=klR [(5,.eq (pI .u32 (a.g (d.Out.g x2.toNat).From.toNat).Plus) (pI .u32 t5)),(6,.eq (pI .u32 (a.g (d.Out.g x2.toNat).From.toNat).Minus) (pI .u32 t6))] (al1 (by simp only[f,j,c19,Leaf.ok,pm,if_true,if_false]) (al1 (by simp only[f,j,c19,Leaf.ok,pm,if_true,if_false]) al0)))
   ·exact m _ [(6500,6500),(9000,9000)] _ trivial (hle:=klR [(5,.eq (pI .u32 0) (pI .u32 t5)),(6,.eq (pI .u32 0) (pI .u32 t6))] (al1 (by simp only[f,j,c19,Leaf.ok,pm,if_true,if_false]) (al1 (by simp only[f,j,c19,Leaf.ok,pm,if_true,if_false]) al0)))
  ·subst j;subst f;obtain⟨y5,e5,h⟩:=B9 h;refine C4 hS [] (by decide:(2:Nat)<=4) (Kt hS hL e5) ?_;refine kI hS h ?_ ?_<;>intro h
   ·refine G7 hS trivial [3,4,5,7,8] ?_;obtain⟨c21,h⟩:=E6 h;obtain⟨y6,e6,h⟩:=B9 h;refine X9 (And.intro c21 (by decide:(2:Nat)<=2)) (Oy hS hL e6) ?_;refine L7 trivial ?_;obtain⟨c22,h⟩:=E6 h;exact l _ [(6500,52000)] _ (x1.push y6.1) (wrap .i64 (x2+1)) (And.intro (rfl:true=true) c22) h (hle:=klR [(4,.fn (x1.n+1) (x1.push y6.1).n (X3 x1.n (fun i=>A0 (x1.g i)) (D8 [pI .u32 0,pI .u32 0] [(0,A0 y6.1)])) (fun i=>A0 ((x1.push y6.1).g i)))] (al1 ⟨rfl,Lf (c:=A0) (v:=x1) (x:=y6.1) (z:=[(pI .u32 0),pI .u32 0]) same rfl rfl⟩ al0))
   ·obtain⟨c23,h⟩:=E6 h;exact l _ [(6500,52000)] _ (x1.push y5.1) (wrap .i64 (x2+1)) (And.intro (rfl:true=true) c23) h (hle:=klR [(4,.fn (x1.n+1) (x1.push y5.1).n (X3 x1.n (fun i=>A0 (x1.g i)) (D8 [pI .u32 0,pI .u32 0] [(0,A0 y5.1)])) (fun i=>A0 ((x1.push y5.1).g i)))] (al1 ⟨rfl,Lf (c:=A0) (v:=x1) (x:=y5.1) (z:=[(pI .u32 0),pI .u32 0]) same rfl rfl⟩ al0))
 ·obtain rfl:=C6 h;exact A9 hS trivial ⟨[(4,.p (vSl 2 A0 x1))],[]⟩ [] (ids:=[]) ⟨rfl,rfl,rfl⟩
def D3 (N:Nat)(a:Sl (Sl Sound)):Option (Sl Sound):=
 AW N (fun b (x1:Int) (x2:Int)=>
  if (decide (x2<(a.n:Int))) then
   if ((0:Int)<=x2/\x2<(a.n:Int))then
    if (decide ((wrap .i64 (x1+((a.g x2.toNat).n:Int)))<0)) then
     none
    else
     b (wrap .i64 (x1+((a.g x2.toNat).n:Int))) (wrap .i64 (x2+1))
   else none
  else
   (K0 N x1).bind fun y1=>
   AW N (fun c (x3:Sl Sound) (x4:Int)=>
    if (decide (x4<(a.n:Int))) then
     if (((0:Int)<=x4/\x4<(a.n:Int))/\((x3.n+(a.g x4.toNat).n)*8<=140737488355328/\x3.n+(a.g x4.toNat).n<=140737488355328))then
      c (x3.app (a.g x4.toNat)) (wrap .i64 (x4+1))
     else none
    else
     some x3
    ) y1 0
  ) 0 0
theorem I8 {N:Nat}{a:Sl (Sl Sound)}{y:Sl Sound}(h:D3 N a=some y) :FunO S I7 [.p (vSl 1 (cL 2 A0) a)] [] (.vec 0) ([.vec B3 2 y.n (fun i=>A0 (y.g i)) true]) []:=by
 unfold D3 at h;refine A4 hS Tryz.func171 ?_;refine H7 hS trivial h (fun x1 x2=>⟨[(11,pN x2),(10,pN (a.n:Int)),(9,.p (vSl 1 (cL 2 A0) a)),(3,pN x1),(0,.p (vSl 1 (cL 2 A0) a))],[]⟩) (ids:=[]) (fun _ _ _ _ _ d x1 x2 f h=>?_);refine kI hS h ?_ ?_<;>intro h
 ·obtain⟨c8,h⟩:=E6 h;refine D6 hS c8 (b:=decide ((wrap .i64 (x1+((a.g x2.toNat).n:Int)))<0)) (fun c9=>?_) (fun c9=>?_)
  ·replace h:=itT c9 h;cases h
  ·replace h:=itF c9 h;exact f _ [] _ (wrap .i64 (x1+((a.g x2.toNat).n:Int))) (wrap .i64 (x2+1)) trivial h
 ·refine kC hS h (V6 hS hL) (fun y1 h=>?_);refine H7 hS trivial h (fun x3 x4=>⟨[(27,pN x4),(26,pN (a.n:Int)),(25,.p (vSl 1 (cL 2 A0) a)),(6,.vec 7500)],[(7500,.vec B3 2 x3.n (fun i=>A0 (x3.g i)) false)]⟩) (ids:=[(7500,25000)]) (fun _ _ _ _ _ j x3 x4 l h=>?_);refine kI hS h ?_ ?_<;>intro h
  ·obtain⟨c13,h⟩:=E6 h;exact l _ [(7500,34000)] _ (x3.app (a.g x4.toNat)) (wrap .i64 (x4+1)) c13 h (hle:=klR [(3,.fn (x3.n+(a.g x4.toNat).n) (x3.app (a.g x4.toNat)).n (X3 x3.n (fun i=>A0 (x3.g i)) (fun i=>A0 ((a.g x4.toNat).g i))) (fun i=>A0 ((x3.app (a.g x4.toNat)).g i)))] (al1 ⟨rfl,appL (c:=A0) (v:=x3) (w:=a.g x4.toNat) same rfl same rfl⟩ al0))
  ·obtain rfl:=C6 h;exact A9 hS trivial ⟨[(2,.vec 7500)],[(7500,.vec B3 2 x3.n (fun i=>A0 (x3.g i)) true)]⟩ [7500] (ids:=[(7500,7500)]) ⟨rfl,rfl,rfl⟩
def AS (N:Nat)(b:Law)(c:Sl Sound)(a:Int):Option (Sl Sound):=
 if (((0:Int)<=a/\a<=(c.n:Int))/\((0:Int)<=a/\a<=(wrap .i64 (a+(b.If.n:Int)))/\(wrap .i64 (a+(b.If.n:Int)))<=(c.n:Int)))then
  (Gv N b (c.sub a.toNat (wrap .i64 (a+(b.If.n:Int))).toNat)).bind fun y1=>
  if ((0:Int)<=(wrap .i64 (a+(b.If.n:Int)))/\(wrap .i64 (a+(b.If.n:Int)))<=(c.n:Int))then
   (D3 N (Sl.of [c.take a.toNat,y1,c.drop (wrap .i64 (a+(b.If.n:Int))).toNat]:Sl (Sl Sound))).bind fun y2=>
   some y2
  else none
 else none
theorem Gw {N:Nat}{c:Law}{b:Sl Sound}{a:Int}{y:Sl Sound}(h:AS N c b a=some y) :FunO S Gm [.p (.agg (A8 c)),.p (vSl 2 A0 b),pN a] [] (.vec 0) ([.vec B3 2 y.n (fun i=>A0 (y.g i)) true]) []:=by unfold AS at h;refine A4 hS Tryz.func174 ?_;refine J8 hS trivial 6 4000 (A8 c) ?_;refine G7 hS trivial [3,8] ?_;obtain⟨c1,h⟩:=E6 h;obtain⟨y1,e1,h⟩:=B9 h;refine X9 (And.intro (And.intro c1.1 (by decide:(18:Nat)<=18)) c1.2) (OD hS hL e1) ?_;obtain⟨c2,h⟩:=E6 h;refine BQ c2 (x:=.sl true 1 3 (D8 [E1] [(0,cL 2 A0 (b.take a.toNat)),(1,cL 2 A0 y1),(2,cL 2 A0 (b.drop (wrap .i64 (a+(c.If.n:Int))).toNat))])) ?_;obtain⟨y2,e2,h⟩:=B9 h;refine NV [] trivial (FunO.le hS (args:=[.p (.sl true 1 3 (D8 [E1] [(0,cL 2 A0 (b.take a.toNat)),(1,cL 2 A0 y1),(2,cL 2 A0 (b.drop (wrap .i64 (a+(c.If.n:Int))).toNat))]))]) (by exact⟨Xu rfl (fun i d=>match i,d with|0,_=>rfl|1,_=>rfl|2,_=>rfl|_+3,d=>absurd d (by omega)),trivial⟩) (I8 hS hL e2)) ?_;refine L7 trivial ?_;obtain rfl:=C6 h;exact A9 hS trivial ⟨[(6,.vec 27000)],[(27000,.vec B3 2 y2.n (fun i=>A0 (y2.g i)) true)]⟩ [27000] (ids:=[(27000,27000)]) ⟨rfl,rfl,rfl⟩
def BL (N:Nat)(q0:Law)(q1:Sl Sound)(q2:Int):Option (List (Int)):=
 (Eo N q0 q1).bind fun y1=>
 Q6 N (fun a (x2:Int)=>
  if (decide ((wrap .i64 (x2+(q0.If.n:Int)))<=(q1.n:Int))) then
   Q6 N (fun b (x4:Int)=>
    if (decide (x4<(q0.If.n:Int))) then
     if ((0:Int)<=x4/\x4<(q0.If.n:Int))then
      if ((0:Int)<=(wrap .i64 (x2+x4))/\(wrap .i64 (x2+x4))<(q1.n:Int))then
       (Z5 N (q1.g (wrap .i64 (x2+x4)).toNat) (q0.If.g x4.toNat)).bind fun c=>
       if (!c) then
        a (wrap .i64 (x2+1))
       else
        b (wrap .i64 (x4+1))
      else none
     else none
    else
     (Cb N x2 y1.1 y1.2).bind fun d=>
     if d then
      FZ x2 (
       a (wrap .i64 (x2+1))
       )
     else
      a (wrap .i64 (x2+1))
    ) 0
  else
   some []
  ) q2
theorem HI {N:Nat}{q0:Law}{q1:Sl Sound}{q2:Int}{L:List (Int)}(h:BL N q0 q1 q2=some L) :Fg S BF [] [.reg 0 0,.reg 1 0,.reg 2 0] [.cells ((A8 q0).map .p),.cells [.p (vSl 2 A0 q1)],.cells [pN q2]] (L.map (fun (x:Int)=>[pI .i64 x])):=by
 unfold BL at h;refine Ga hS Tryz.func181 ?_;refine kC hS h (OC hS hL) (fun y1 h=>?_);refine GT hS trivial h (fun x2 L1=>⟨[(6,pN x2),(5,.clo P5 [] [.reg 12000 0,.reg 12001 0]),(2,.reg 1 0),(1,.reg 0 0),(0,.yf 3)],[(12001,.cells [.p (vSl 2 A0 y1.2)]),(12000,.cells ((A8 y1.1).map .p)),(3,.yld (L1.map (fun (x:Int)=>[pI .i64 x])) true),(2,.cells [pN q2]),(1,.cells [.p (vSl 2 A0 q1)]),(0,.cells ((A8 q0).map .p))]⟩) (ids:=[(0,0),(1,1),(2,2),(3,3),(12000,12000),(12001,12001)]) (fun _ _ _ _ _ f x2 L1 c h=>?_);refine kI hS h ?_ ?_<;>intro h
 ·refine GT hS trivial h (fun x4 L8=>⟨[(26,pN x4),(25,pN (q0.If.n:Int)),(24,.p (vSl 2 A0 q0.If)),(6,pN x2),(5,.clo P5 [] [.reg 12000 0,.reg 12001 0]),(2,.reg 1 0),(1,.reg 0 0),(0,.yf 3)],[(12001,.cells [.p (vSl 2 A0 y1.2)]),(12000,.cells ((A8 y1.1).map .p)),(3,.yld (L8.map (fun (x:Int)=>[pI .i64 x])) true),(2,.cells [pN q2]),(1,.cells [.p (vSl 2 A0 q1)]),(0,.cells ((A8 q0).map .p))]⟩) (ids:=[(0,0),(1,1),(2,2),(3,3),(12000,12000),(12001,12001)]) (fun _ _ _ _ _ i x4 L8 j h=>?_);refine kI hS h ?_ ?_<;>intro h
  ·obtain⟨c47,h⟩:=E6 h;refine YK hS (And.intro c47 (by decide:(2:Nat)<=2)) 9000 [pI .u32 (q0.If.g x4.toNat).Plus,pI .u32 (q0.If.g x4.toNat).Minus] ?_;refine G7 hS trivial [4,5,6,7] ?_;obtain⟨c48,h⟩:=E6 h;obtain⟨l,e12,h⟩:=B9 h;refine X9 (And.intro (And.intro c48 (by decide:(2:Nat)<=2)) (by decide:(2:Nat)<=2)) (GW hS hL e12) ?_;refine L7 trivial ?_;refine kI hS h ?_ ?_<;>intro h
   ·exact c _ [(0,0),(1,1),(2,2),(3,3),(12000,12000),(12001,12001)] _ (wrap .i64 (x2+1)) L8 trivial h
   ·exact j _ [(0,0),(1,1),(2,2),(3,3),(12000,12000),(12001,12001)] _ (wrap .i64 (x4+1)) L8 trivial h
  ·obtain⟨m,e13,h⟩:=B9 h;refine C4 hS [12000,12001] trivial (Ky hS hL e13) ?_;refine kG hS h (fun h=>?_) (fun h=>?_)
   ·obtain⟨L10,rfl,d⟩:=Mi h;replace h:=d;refine CV hS trivial (ys:=(fun (x:Int)=>[pI .i64 x]) x2) (rest:=L10.map (fun (x:Int)=>[pI .i64 x])) ?_ ?_
    ·refine D6 hS trivial (b:=false) (fun c53=>?_) (fun c53=>?_)
     ·exact Bool.noConfusion ((rfl:false=false).symm.trans c53)
     ·exact c _ [(0,0),(1,1),(2,2),(3,3),(12000,12000),(12001,12001)] _ (wrap .i64 (x2+1)) L10 trivial h
    ·refine D6 hS trivial (b:=true) (fun c54=>?_) (fun c54=>?_)
     ·exact A9 hS trivial (a:=.tup []) (objs:=[(.cells ((A8 q0).map .p)),.cells [.p (vSl 2 A0 q1)],.cells [pN q2],.yld [] false]) ⟨[],[(3,.yld [] false),(2,.cells [pN q2]),(1,.cells [.p (vSl 2 A0 q1)]),(0,.cells ((A8 q0).map .p))]⟩ [0,1,2,3] (ids:=[(0,0),(1,1),(2,2),(3,3)]) ⟨false,rfl,rfl,_,rfl⟩
     ·exact Bool.noConfusion ((rfl:true=true).symm.trans c54)
   ·exact c _ [(0,0),(1,1),(2,2),(3,3),(12000,12000),(12001,12001)] _ (wrap .i64 (x2+1)) L8 trivial h
 ·obtain rfl:=C6 h;exact A9 hS trivial (a:=.tup []) (objs:=[(.cells ((A8 q0).map .p)),.cells [.p (vSl 2 A0 q1)],.cells [pN q2],.yld [] true]) ⟨[],[(3,.yld [] true),(2,.cells [pN q2]),(1,.cells [.p (vSl 2 A0 q1)]),(0,.cells ((A8 q0).map .p))]⟩ [0,1,2,3] (ids:=[(0,0),(1,1),(2,2),(3,3)]) ⟨true,rfl,rfl,_,rfl⟩
def EB (N:Nat)(b:Law)(c:Sl Sound)(a:Int):Option (Law×(Sl Sound)×Int):=
 some (b,c,a)
theorem Lt {N:Nat}{b:Law}{c:Sl Sound}{a:Int}{y:Law×(Sl Sound)×Int}(h:EB N b c a=some y) :FunO S Ls [.p (.agg (A8 b)),.p (vSl 2 A0 c),pN a] [] (.clo BF [] [.reg 0 0,.reg 1 0,.reg 2 0]) ([.cells ((A8 y.1).map .p),.cells [.p (vSl 2 A0 y.2.1)],.cells [pN y.2.2]]) []:=by unfold EB at h;refine A4 hS Tryz.func170 ?_;obtain rfl:=C6 h;exact A9 hS trivial ⟨[(6,.clo BF [] [.reg 4000 0,.reg 5000 0,.reg 6000 0])],[(6000,.cells [pN a]),(5000,.cells [.p (vSl 2 A0 c)]),(4000,.cells ((A8 b).map .p))]⟩ [4000,5000,6000] (ids:=[(4000,4000),(5000,5000),(6000,6000)]) ⟨rfl,rfl,rfl⟩
def Gx (N:Nat)(b:Law)(c:Sl Sound)(a:Int):Option Bool:=
 (EB N b c a).bind fun y1=>
 (BL N y1.1 y1.2.1 y1.2.2).bind fun L1=>
 Y9 L1 (fun d (x1:Int) (_:Unit)=>
  some (x1==a)
  ) (fun (_:Unit)=>
   some false
  ) ()
theorem OE {N:Nat}{b:Law}{c:Sl Sound}{a:Int}{y:Bool}(h:Gx N b c a=some y) :FunO S Ot [.p (.agg (A8 b)),.p (vSl 2 A0 c),pN a] [] (pB y) ([]) []:=by
 unfold Gx at h;refine A4 hS Tryz.func173 ?_;refine kC hS h (Lt hS hL) (fun y1 h=>?_);obtain⟨L1,e2,h⟩:=B9 h;refine Fm hS trivial [12000,12001,12002] [6,5] 901 (fun _=>⟨[(6,.reg 7000 0),(5,.reg 6000 0)],[(7000,.cells [.p (.v (.bool false))]),(6000,.cells [pN a])]⟩) (idl:=[(6000,6000),(7000,7000)]) h (HI hS hL e2) (fun _=>by kernel_rfl) (fun _=>by kernel_rfl) (fun _=>by kernel_rfl) (fun _=>by kernel_rfl) (fun x1 _ d _ f h=>?_) (fun _ h=>?_)
 ·refine IV hS trivial ?_;refine Ii hS trivial ⟨[(6,.reg 7000 0),(5,.reg 6000 0)],[(7000,.cells [pB (x1==a)]),(6000,.cells [pN a])]⟩ (ids:=[(901,901),(6000,6000),(7000,7000)]) ?_;cases h;exact kR hS
 ·cases h;exact kR hS
def Fq (N:Nat)(q0:Sl Sound)(q1:Law)(q2:Int)(q3:Int):Option (List (Int×(Sl Sound))):=
 if (q1.Mode==1) then
  (EB N q1 q0 0).bind fun y1=>
  (BL N y1.1 y1.2.1 y1.2.2).bind fun L1=>
  Y9 L1 (fun b (x1:Int) (z1:(Sl Sound)×Int×Int)=>
   if (decide (x1<z1.2.1)) then
    b (z1.1,z1.2.1,z1.2.2)
   else
    if (((0:Int)<=(wrap .i64 (x1+z1.2.2))/\(wrap .i64 (x1+z1.2.2))<=(z1.1.n:Int))/\((0:Int)<=x1/\x1<=(wrap .i64 (x1+q2))/\(wrap .i64 (x1+q2))<=(q0.n:Int)))then
     (Gv N q1 (q0.sub x1.toNat (wrap .i64 (x1+q2)).toNat)).bind fun y6=>
     if ((0:Int)<=(wrap .i64 (x1+q2))/\(wrap .i64 (x1+q2))<=(q0.n:Int))then
      (D3 N (Sl.of [z1.1.take (wrap .i64 (x1+z1.2.2)).toNat,y6,q0.drop (wrap .i64 (x1+q2)).toNat]:Sl (Sl Sound))).bind fun y7=>
      FZ (x1,y7) (
       b (y7,wrap .i64 (x1+(if q2<1 then 1 else q2)),wrap .i64 ((wrap .i64 (z1.2.2+q3))-q2))
       )
     else none
    else none
   ) (fun (z1:(Sl Sound)×Int×Int)=>
    some []
   ) (q0,0,0)
 else
  if (q1.Mode==2) then
   AW N (fun a (x5:Sl Sound) (x6:Int)=>
    if (decide ((wrap .i64 (x6+q2))<=(x5.n:Int))) then
     (Gx N q1 x5 x6).bind fun g=>
     if (!g) then
      a x5 (wrap .i64 (x6+1))
     else
      (AS N q1 x5 x6).bind fun d=>
      FZ (x6,d) (
       if (q2==0) then
        a d (wrap .i64 ((wrap .i64 (x6+q3))+1))
       else
        a d (wrap .i64 (x6+q3))
       )
    else
     some []
    ) q0 0
  else
   if (q1.Mode==3) then
    AW N (fun c (x7:Sl Sound) (x8:Int)=>
     if (decide (0<=x8)) then
      (Gx N q1 x7 x8).bind fun i=>
      if (!i) then
       c x7 (wrap .i64 (x8-1))
      else
       (AS N q1 x7 x8).bind fun f=>
       FZ (x8,f) (
        c f (wrap .i64 (x8-(if q2<1 then 1 else q2)))
        )
     else
      some []
     ) q0 (wrap .i64 ((q0.n:Int)-q2))
   else
    some []
theorem Qo {N:Nat}{q0:Sl Sound}{q1:Law}{q2:Int}{q3:Int}{L:List (Int×(Sl Sound))}(h:Fq N q0 q1 q2 q3=some L) :Fg S CZ [] [.reg 0 0,.reg 1 0,.reg 2 0,.reg 3 0] [.cells [.p (vSl 2 A0 q0)],.cells ((A8 q1).map .p),.cells [pN q2],.cells [pN q3]] (L.map (fun (x:Int×(Sl Sound))=>[pI .i64 x.1,vSl 2 A0 x.2])):=by
 unfold Fq at h;refine Ga hS Tryz.func169 ?_;refine kI hS h ?_ ?_<;>intro h
 ·refine kC hS h (Lt hS hL) (fun y1 h=>?_);obtain⟨L1,e2,h⟩:=B9 h;refine WB hS trivial [20000,20001,20002] [8,7,6,5,4,3,2,1] 900 (fun z1 L2=>⟨[(8,.reg 9000 0),(7,.reg 8000 0),(6,.reg 7000 0),(5,.reg 6000 0),(4,.reg 3 0),(3,.reg 2 0),(2,.reg 1 0),(1,.reg 0 0)],[(9000,.cells [pN z1.2.2]),(8000,.cells [pN z1.2.1]),(7000,.cells [.p (vSl 2 A0 z1.1)]),(6000,.cells [.yf 4]),(4,.yld (L2.map (fun (x:Int×(Sl Sound))=>[pI .i64 x.1,vSl 2 A0 x.2])) true),(3,.cells [pN q3]),(2,.cells [pN q2]),(1,.cells ((A8 q1).map .p)),(0,.cells [.p (vSl 2 A0 q0)])]⟩) (idl:=[(0,0),(1,1),(2,2),(3,3),(4,4),(6000,6000),(7000,7000),(8000,8000),(9000,9000)]) h (HI hS hL e2) (fun _=>by kernel_rfl) (fun _ _=>by kernel_rfl) (fun _ _=>by kernel_rfl) (fun _ _=>by kernel_rfl) (fun x1 _ s z1 L2 j h=>?_) (fun z1 L2 h=>?_)
  ·refine IV hS trivial ?_;refine kI hS h ?_ ?_<;>intro h
   ·exact j _ [(0,0),(1,1),(2,2),(3,3),(4,4),(900,900),(6000,6000),(7000,7000),(8000,8000),(9000,9000)] _ (z1.1,z1.2.1,z1.2.2) L2 trivial h
   ·refine L0 hS trivial [(0,.l [7000]),(2,.l [9000]),(5,.l [1]),(6,.l [0]),(9,.l [2]),(12,.n),(13,.l [0]),(15,.l [2]),(20,.a [7000])] ?_;obtain⟨c13,h⟩:=E6 h;obtain⟨y6,e7,h⟩:=B9 h;refine X9 c13 (OD hS hL e7) ?_;obtain⟨c14,h⟩:=E6 h;refine BQ c14 (x:=.sl true 1 3 (D8 [E1] [(0,cL 2 A0 (z1.1.take (wrap .i64 (x1+z1.2.2)).toNat)),(1,cL 2 A0 y6),(2,cL 2 A0 (q0.drop (wrap .i64 (x1+q2)).toNat))])) ?_;obtain⟨y7,e8,h⟩:=B9 h;refine NV [] trivial (FunO.le hS (args:=[.p (.sl true 1 3 (D8 [E1] [(0,cL 2 A0 (z1.1.take (wrap .i64 (x1+z1.2.2)).toNat)),(1,cL 2 A0 y6),(2,cL 2 A0 (q0.drop (wrap .i64 (x1+q2)).toNat))]))]) (by exact⟨Xu rfl (fun i t=>match i,t with|0,_=>rfl|1,_=>rfl|2,_=>rfl|_+3,t=>absurd t (by omega)),trivial⟩) (I8 hS hL e8)) ?_;refine L7 trivial ?_;obtain⟨L5,rfl,m⟩:=Mi h;replace h:=m;refine CV hS trivial (ys:=(fun (x:Int×(Sl Sound))=>[pI .i64 x.1,vSl 2 A0 x.2]) (x1,y7)) (rest:=L5.map (fun (x:Int×(Sl Sound))=>[pI .i64 x.1,vSl 2 A0 x.2])) ?_ ?_
    ·refine D6 hS trivial (b:=false) (fun c15=>?_) (fun c15=>?_)
     ·exact Bool.noConfusion ((rfl:false=false).symm.trans c15)
     ·refine L0 hS trivial [(1,.l [2]),(4,.l [9000]),(5,.l [3]),(7,.l [2]),(9,.a [8000]),(10,.a [9000])] ?_;refine L7 trivial ?_;exact j _ [(0,0),(1,1),(2,2),(3,3),(4,4),(900,900),(6000,6000),(7000,7000),(8000,8000),(9000,9000)] _ (y7,wrap .i64 (x1+(if q2<1 then 1 else q2)),wrap .i64 ((wrap .i64 (z1.2.2+q3))-q2)) L5 trivial h
    ·refine D6 hS trivial (b:=true) (fun c16=>?_) (fun c16=>?_)
     ·refine Ii hS trivial ⟨[(8,.reg 9000 0),(7,.reg 8000 0),(6,.reg 7000 0),(5,.reg 6000 0),(4,.reg 3 0),(3,.reg 2 0),(2,.reg 1 0),(1,.reg 0 0)],[(44000,.vec B3 2 y7.n (fun i=>A0 (y7.g i)) true),(9000,.cells [pN z1.2.2]),(8000,.cells [pN z1.2.1]),(7000,.cells [.vec 44000]),(6000,.cells [.yf 4]),(4,.yld [] false),(3,.cells [pN q3]),(2,.cells [pN q2]),(1,.cells ((A8 q1).map .p)),(0,.cells [.p (vSl 2 A0 q0)])]⟩ (ids:=[(0,0),(1,1),(2,2),(3,3),(4,4),(900,900),(6000,6000),(7000,7000),(8000,8000),(9000,9000),(44000,44000)]) ?_;exact A9 hS trivial (a:=.tup []) (objs:=[(.cells [.p (vSl 2 A0 q0)]),.cells ((A8 q1).map .p),.cells [pN q2],.cells [pN q3],.yld [] false]) ⟨[],[(4,.yld [] false),(3,.cells [pN q3]),(2,.cells [pN q2]),(1,.cells ((A8 q1).map .p)),(0,.cells [.p (vSl 2 A0 q0)])]⟩ [0,1,2,3,4] (ids:=[(0,0),(1,1),(2,2),(3,3),(4,4)]) ⟨false,rfl,rfl,_,rfl⟩
     ·exact Bool.noConfusion ((rfl:true=true).symm.trans c16)
  ·obtain rfl:=C6 h;exact A9 hS trivial (a:=.tup []) (objs:=[(.cells [.p (vSl 2 A0 q0)]),.cells ((A8 q1).map .p),.cells [pN q2],.cells [pN q3],.yld [] true]) ⟨[],[(4,.yld [] true),(3,.cells [pN q3]),(2,.cells [pN q2]),(1,.cells ((A8 q1).map .p)),(0,.cells [.p (vSl 2 A0 q0)])]⟩ [0,1,2,3,4] (ids:=[(0,0),(1,1),(2,2),(3,3),(4,4)]) ⟨true,rfl,rfl,_,rfl⟩
 ·refine kI hS h ?_ ?_<;>intro h
  ·refine Mj hS trivial h (fun x5 x6 L6=>⟨[(10,pN x6),(6,.reg 7000 0),(5,.reg 6000 0),(4,.reg 3 0),(3,.reg 2 0),(2,.reg 1 0)],[(7000,.cells [.p (vSl 2 A0 x5)]),(6000,.cells [.yf 4]),(4,.yld (L6.map (fun (x:Int×(Sl Sound))=>[pI .i64 x.1,vSl 2 A0 x.2])) true),(3,.cells [pN q3]),(2,.cells [pN q2]),(1,.cells ((A8 q1).map .p)),(0,.cells [.p (vSl 2 A0 q0)])]⟩) (ids:=[(0,0),(1,1),(2,2),(3,3),(4,4),(6000,6000),(7000,7000)]) (fun _ _ _ _ _ u x5 x6 L6 c h=>?_);refine kI hS h ?_ ?_<;>intro h
   ·refine kC hS h (OE hS hL) (fun w h=>?_);refine kI hS h ?_ ?_<;>intro h
    ·exact c _ [(0,0),(1,1),(2,2),(3,3),(4,4),(6000,6000),(7000,7000)] _ x5 (wrap .i64 (x6+1)) L6 trivial h
    ·refine kC hS h (Gw hS hL) (fun d h=>?_);obtain⟨L9,rfl,o⟩:=Mi h;replace h:=o;refine CV hS trivial (ys:=(fun (x:Int×(Sl Sound))=>[pI .i64 x.1,vSl 2 A0 x.2]) (x6,d)) (rest:=L9.map (fun (x:Int×(Sl Sound))=>[pI .i64 x.1,vSl 2 A0 x.2])) ?_ ?_
     ·refine D6 hS trivial (b:=false) (fun c30=>?_) (fun c30=>?_)
      ·exact Bool.noConfusion ((rfl:false=false).symm.trans c30)
      ·refine kI hS h ?_ ?_<;>intro h
       ·exact c _ [(0,0),(1,1),(2,2),(3,3),(4,4),(6000,6000),(7000,7000)] _ d (wrap .i64 ((wrap .i64 (x6+q3))+1)) L9 trivial h
       ·exact c _ [(0,0),(1,1),(2,2),(3,3),(4,4),(6000,6000),(7000,7000)] _ d (wrap .i64 (x6+q3)) L9 trivial h
     ·refine D6 hS trivial (b:=true) (fun c32=>?_) (fun c32=>?_)
      ·exact A9 hS trivial (a:=.tup []) (objs:=[(.cells [.p (vSl 2 A0 q0)]),.cells ((A8 q1).map .p),.cells [pN q2],.cells [pN q3],.yld [] false]) ⟨[],[(4,.yld [] false),(3,.cells [pN q3]),(2,.cells [pN q2]),(1,.cells ((A8 q1).map .p)),(0,.cells [.p (vSl 2 A0 q0)])]⟩ [0,1,2,3,4] (ids:=[(0,0),(1,1),(2,2),(3,3),(4,4)]) ⟨false,rfl,rfl,_,rfl⟩
      ·exact Bool.noConfusion ((rfl:true=true).symm.trans c32)
   ·obtain rfl:=C6 h;exact A9 hS trivial (a:=.tup []) (objs:=[(.cells [.p (vSl 2 A0 q0)]),.cells ((A8 q1).map .p),.cells [pN q2],.cells [pN q3],.yld [] true]) ⟨[],[(4,.yld [] true),(3,.cells [pN q3]),(2,.cells [pN q2]),(1,.cells ((A8 q1).map .p)),(0,.cells [.p (vSl 2 A0 q0)])]⟩ [0,1,2,3,4] (ids:=[(0,0),(1,1),(2,2),(3,3),(4,4)]) ⟨true,rfl,rfl,_,rfl⟩
  ·refine kI hS h ?_ ?_<;>intro h
   ·refine Mj hS trivial h (fun x7 x8 L10=>⟨[(11,pN x8),(6,.reg 7000 0),(5,.reg 6000 0),(3,.reg 2 0),(2,.reg 1 0)],[(7000,.cells [.p (vSl 2 A0 x7)]),(6000,.cells [.yf 4]),(4,.yld (L10.map (fun (x:Int×(Sl Sound))=>[pI .i64 x.1,vSl 2 A0 x.2])) true),(3,.cells [pN q3]),(2,.cells [pN q2]),(1,.cells ((A8 q1).map .p)),(0,.cells [.p (vSl 2 A0 q0)])]⟩) (ids:=[(0,0),(1,1),(2,2),(3,3),(4,4),(6000,6000),(7000,7000)]) (fun _ _ _ _ _ v x7 x8 L10 q h=>?_);refine kI hS h ?_ ?_<;>intro h
    ·refine kC hS h (OE hS hL) (fun y h=>?_);refine kI hS h ?_ ?_<;>intro h
     ·exact q _ [(0,0),(1,1),(2,2),(3,3),(4,4),(6000,6000),(7000,7000)] _ x7 (wrap .i64 (x8-1)) L10 trivial h
     ·refine kC hS h (Gw hS hL) (fun r h=>?_);obtain⟨L13,rfl,f⟩:=Mi h;replace h:=f;refine CV hS trivial (ys:=(fun (x:Int×(Sl Sound))=>[pI .i64 x.1,vSl 2 A0 x.2]) (x8,r)) (rest:=L13.map (fun (x:Int×(Sl Sound))=>[pI .i64 x.1,vSl 2 A0 x.2])) ?_ ?_
      ·refine D6 hS trivial (b:=false) (fun c44=>?_) (fun c44=>?_)
       ·exact Bool.noConfusion ((rfl:false=false).symm.trans c44)
       ·exact q _ [(0,0),(1,1),(2,2),(3,3),(4,4),(6000,6000),(7000,7000)] _ r (wrap .i64 (x8-(if q2<1 then 1 else q2))) L13 trivial h
      ·refine D6 hS trivial (b:=true) (fun c45=>?_) (fun c45=>?_)
       ·exact A9 hS trivial (a:=.tup []) (objs:=[(.cells [.p (vSl 2 A0 q0)]),.cells ((A8 q1).map .p),.cells [pN q2],.cells [pN q3],.yld [] false]) ⟨[],[(4,.yld [] false),(3,.cells [pN q3]),(2,.cells [pN q2]),(1,.cells ((A8 q1).map .p)),(0,.cells [.p (vSl 2 A0 q0)])]⟩ [0,1,2,3,4] (ids:=[(0,0),(1,1),(2,2),(3,3),(4,4)]) ⟨false,rfl,rfl,_,rfl⟩
       ·exact Bool.noConfusion ((rfl:true=true).symm.trans c45)
    ·obtain rfl:=C6 h;exact A9 hS trivial (a:=.tup []) (objs:=[(.cells [.p (vSl 2 A0 q0)]),.cells ((A8 q1).map .p),.cells [pN q2],.cells [pN q3],.yld [] true]) ⟨[],[(4,.yld [] true),(3,.cells [pN q3]),(2,.cells [pN q2]),(1,.cells ((A8 q1).map .p)),(0,.cells [.p (vSl 2 A0 q0)])]⟩ [0,1,2,3,4] (ids:=[(0,0),(1,1),(2,2),(3,3),(4,4)]) ⟨true,rfl,rfl,_,rfl⟩
   ·obtain rfl:=C6 h;exact A9 hS trivial (a:=.tup []) (objs:=[(.cells [.p (vSl 2 A0 q0)]),.cells ((A8 q1).map .p),.cells [pN q2],.cells [pN q3],.yld [] true]) ⟨[],[(4,.yld [] true),(3,.cells [pN q3]),(2,.cells [pN q2]),(1,.cells ((A8 q1).map .p)),(0,.cells [.p (vSl 2 A0 q0)])]⟩ [0,1,2,3,4] (ids:=[(0,0),(1,1),(2,2),(3,3),(4,4)]) ⟨true,rfl,rfl,_,rfl⟩
def JC (N:Nat)(a:Law)(b:Sl Sound):Option ((Sl Sound)×Law×Int×Int):=
 some (b,a,(a.If.n:Int),(a.Out.n:Int))
theorem UF {N:Nat}{b:Law}{c:Sl Sound}{y:(Sl Sound)×Law×Int×Int}(h:JC N b c=some y) :FunO S Oq [.p (.agg (A8 b)),.p (vSl 2 A0 c)] [] (.clo CZ [] [.reg 0 0,.reg 1 0,.reg 2 0,.reg 3 0]) ([.cells [.p (vSl 2 A0 y.1)],.cells ((A8 y.2.1).map .p),.cells [pN y.2.2.1],.cells [pN y.2.2.2]]) []:=by unfold JC at h;refine A4 hS Tryz.func161 ?_;refine L0 hS trivial [(1,.l [3000]),(2,.n),(4,.l [3000]),(5,.n),(6,.a [6000]),(7,.a [7000]),(8,.a [6000]),(9,.a [7000])] ?_;refine L7 trivial ?_;obtain rfl:=C6 h;exact A9 hS trivial ⟨[(4,.clo CZ [] [.reg 4000 0,.reg 3000 0,.reg 6000 0,.reg 7000 0])],[(7000,.cells [pN (b.Out.n:Int)]),(6000,.cells [pN (b.If.n:Int)]),(4000,.cells [.p (vSl 2 A0 c)]),(3000,.cells ((A8 b).map .p))]⟩ [4000,3000,6000,7000] (ids:=[(3000,3000),(4000,4000),(6000,6000),(7000,7000)]) ⟨rfl,rfl,rfl⟩
def Fr (N:Nat)(b:Law)(c:Sl Sound):Option ((Sl Int)×(Sl (Sl Sound))×Int):=
 (Fp N b c).bind fun y1=>
 if (y1 != 0) then
  some ((Sl.nil:Sl Int),(Sl.nil:Sl (Sl Sound)),y1)
 else
  (JC N b c).bind fun y2=>
  (Fq N y2.1 y2.2.1 y2.2.2.1 y2.2.2.2).bind fun L1=>
  Y9 L1 (fun a (x1:Int×(Sl Sound)) (z1:(Sl Int)×(Sl (Sl Sound)))=>
   if (decide (32<(x1.2.n:Int))) then
    some ((Sl.nil:Sl Int),(Sl.nil:Sl (Sl Sound)),11)
   else
    if ((z1.1.n+(Sl.of [x1.1]:Sl Int).n)*8<=140737488355328/\z1.1.n+(Sl.of [x1.1]:Sl Int).n<=140737488355328)then
     if ((z1.2.n+(Sl.of [x1.2]:Sl (Sl Sound)).n)*24<=140737488355328/\z1.2.n+(Sl.of [x1.2]:Sl (Sl Sound)).n<=140737488355328)then
      a (z1.1.push x1.1,z1.2.push x1.2)
     else none
    else none
   ) (fun (z1:(Sl Int)×(Sl (Sl Sound)))=>
    some (z1.1,z1.2,0)
   ) ((Sl.nil:Sl Int),(Sl.nil:Sl (Sl Sound)))
theorem Qp {N:Nat}{b:Law}{d:Sl Sound}{y:(Sl Int)×(Sl (Sl Sound))×Int}(h:Fr N b d=some y) :FunO S Jo [.p (.agg (A8 b)),.p (vSl 2 A0 d)] [] (.tup [.vec 0,.vec 1,pN y.2.2]) ([.vec C0 1 y.1.n (fun i=>cI .i64 (y.1.g i)) true,.vec B1 1 y.2.1.n (fun i=>cL 2 A0 (y.2.1.g i)) true]) []:=by
 unfold Fr at h;refine A4 hS Tryz.func152 ?_;refine J8 hS trivial 4 3000 (A8 b) ?_;obtain⟨y1,e1,h⟩:=B9 h;refine C4 hS [] (by decide:(18:Nat)<=18) (Qn hS hL e1) ?_;refine kI hS h ?_ ?_<;>intro h
 ·obtain rfl:=C6 h;exact A9 hS trivial ⟨[(6,.reg 7000 0),(5,.reg 6000 0),(4,.reg 5000 0)],[(7000,.cells [pN y1]),(6701,.vec B1 1 (Sl.nil:Sl (Sl Sound)).n (fun i=>cL 2 A0 ((Sl.nil:Sl (Sl Sound)).g i)) true),(6000,.cells [.vec 6701]),(5700,.vec C0 1 (Sl.nil:Sl Int).n (fun i=>cI .i64 ((Sl.nil:Sl Int).g i)) true),(5000,.cells [.vec 5700])]⟩ [5700,6701] (ids:=[(5000,5000),(6000,6000),(7000,7000)]) ⟨rfl,rfl,rfl⟩
 ·obtain⟨y2,e2,h⟩:=B9 h;refine C4 hS [] (by decide:(18:Nat)<=18) (UF hS hL e2) ?_;obtain⟨L1,e3,h⟩:=B9 h;refine Fm hS trivial [21000,21001,21002,21003] [9,8,6,5,4] 901 (fun z1=>⟨[(9,.reg 10000 0),(8,.reg 9000 0),(6,.reg 7000 0),(5,.reg 6000 0),(4,.reg 5000 0)],[(10500,.vec B1 1 z1.2.n (fun i=>cL 2 A0 (z1.2.g i)) false),(10000,.cells [.vec 10500]),(9500,.vec C0 1 z1.1.n (fun i=>cI .i64 (z1.1.g i)) false),(9000,.cells [.vec 9500]),(7000,.cells [pN 0]),(6000,.cells [.p E1]),(5000,.cells [.p E1])]⟩) (idl:=[(5000,5000),(6000,6000),(7000,7000),(9000,9000),(10000,10000)]) h (Qo hS hL e3) (fun _=>by kernel_rfl) (fun _=>by kernel_rfl) (fun _=>by kernel_rfl) (fun _=>by kernel_rfl) (fun x1 _ f z1 j h=>?_) (fun z1 h=>?_)
  ·refine IV hS trivial ?_;refine kI hS h ?_ ?_<;>intro h
   ·refine Ii hS trivial ⟨[(9,.reg 10000 0),(8,.reg 9000 0),(6,.reg 7000 0),(5,.reg 6000 0),(4,.reg 5000 0)],[(10500,.vec B1 1 z1.2.n (fun i=>cL 2 A0 (z1.2.g i)) false),(10000,.cells [.vec 10500]),(9500,.vec C0 1 z1.1.n (fun i=>cI .i64 (z1.1.g i)) false),(9000,.cells [.vec 9500]),(7000,.cells [pN 11]),(6000,.cells [.p E1]),(5000,.cells [.p E1])]⟩ (ids:=[(901,901),(5000,5000),(6000,6000),(7000,7000),(9000,9000),(9500,9500),(10000,10000),(10500,10500)]) ?_;obtain rfl:=C6 h;exact A9 hS trivial ⟨[(6,.reg 7000 0),(5,.reg 6000 0),(4,.reg 5000 0)],[(7000,.cells [pN 11]),(6701,.vec B1 1 (Sl.nil:Sl (Sl Sound)).n (fun i=>cL 2 A0 ((Sl.nil:Sl (Sl Sound)).g i)) true),(6000,.cells [.vec 6701]),(5700,.vec C0 1 (Sl.nil:Sl Int).n (fun i=>cI .i64 ((Sl.nil:Sl Int).g i)) true),(5000,.cells [.vec 5700])]⟩ [5700,6701] (ids:=[(5000,5000),(6000,6000),(7000,7000)]) ⟨rfl,rfl,rfl⟩
   ·refine L0 hS trivial [(0,.l [9000]),(3,.a [30000,9500]),(4,.l [10000]),(7,.a [34000,10500]),(8,.a [9000]),(9,.a [10000])] ?_;refine BQ trivial (x:=.sl true 1 1 (D8 [pI .i64 0] [(0,cI .i64 x1.1)])) ?_;obtain⟨c9,h⟩:=E6 h;refine BQ c9 (x:=.sl true 1 1 (D8 [E1] [(0,cL 2 A0 x1.2)])) ?_;obtain⟨c10,h⟩:=E6 h;refine L7 c10 ?_;exact j _ [(901,901),(5000,5000),(6000,6000),(7000,7000),(9000,9000),(9500,30000),(10000,10000),(10500,34000)] _ (z1.1.push x1.1,z1.2.push x1.2) trivial h (hle:=klR [(0,.fn (z1.2.n+1) (z1.2.push x1.2).n (X3 z1.2.n (fun i=>cL 2 A0 (z1.2.g i)) (D8 [E1] [(0,cL 2 A0 x1.2)])) (fun i=>cL 2 A0 ((z1.2.push x1.2).g i))),(1,.fn (z1.1.n+1) (z1.1.push x1.1).n (X3 z1.1.n (fun i=>cI .i64 (z1.1.g i)) (D8 [pI .i64 0] [(0,cI .i64 x1.1)])) (fun i=>cI .i64 ((z1.1.push x1.1).g i)))] (al1 ⟨rfl,Lf (c:=cL 2 A0) (v:=z1.2) (x:=x1.2) (z:=[E1]) same rfl rfl⟩ (al1 ⟨rfl,Lf (c:=cI .i64) (v:=z1.1) (x:=x1.1) (z:=[(pI .i64 0)]) same rfl rfl⟩ al0)))
  ·refine L0 hS trivial [(0,.l [9000]),(1,.l [10000]),(2,.a [5000]),(3,.a [6000]),(4,.a [7000])] ?_;refine L7 trivial ?_;obtain rfl:=C6 h;exact A9 hS trivial ⟨[(6,.reg 7000 0),(5,.reg 6000 0),(4,.reg 5000 0)],[(10500,.vec B1 1 z1.2.n (fun i=>cL 2 A0 (z1.2.g i)) true),(9500,.vec C0 1 z1.1.n (fun i=>cI .i64 (z1.1.g i)) true),(7000,.cells [pN 0]),(6000,.cells [.vec 10500]),(5000,.cells [.vec 9500])]⟩ [9500,10500] (ids:=[(5000,5000),(6000,6000),(7000,7000),(9500,9500),(10500,10500)]) ⟨rfl,rfl,rfl⟩
def Fs (N:Nat)(b:Law)(a:Sl Sound):Option ((Sl Sound)×Int):=
 (Fr N b a).bind fun y1=>
 if (y1.2.2 != 0) then
  some ((Sl.nil:Sl Sound),y1.2.2)
 else
  if (decide (0<(y1.2.1.n:Int))) then
   if (((0:Int)<=(wrap .i64 ((y1.2.1.n:Int)-1))/\(wrap .i64 ((y1.2.1.n:Int)-1))<(y1.2.1.n:Int))/\(wrap .i64 ((y1.2.1.n:Int)-1)).toNat<y1.2.1.n)then
    some (y1.2.1.g (wrap .i64 ((y1.2.1.n:Int)-1)).toNat,0)
   else none
  else
   (A6 N a).bind fun y2=>
   some (y2,0)
theorem Qq {N:Nat}{a:Law}{b:Sl Sound}{y:(Sl Sound)×Int}(h:Fs N a b=some y) :FunO S Jn [.p (.agg (A8 a)),.p (vSl 2 A0 b)] [] (.tup [.p (vSl 2 A0 y.1),pN y.2]) ([]) []:=by
 unfold Fs at h;refine A4 hS Tryz.func145 ?_;refine kC hS h (Qp hS hL) (fun y1 h=>?_);refine kI hS h ?_ ?_<;>intro h
 ·obtain rfl:=C6 h;exact A9 hS trivial ⟨[(5,pN y1.2.2),(4,.p (vSl 2 A0 (Sl.nil:Sl Sound)))],[]⟩ [] (ids:=[]) ⟨rfl,rfl,rfl⟩
 ·refine kI hS h ?_ ?_<;>intro h
  ·obtain⟨c3,h⟩:=E6 h;obtain rfl:=C6 h;exact WA hS c3 [] ⟨rfl,rfl,rfl⟩
  ·refine kC hS h (F2 hS hL) (fun y2 h=>?_);obtain rfl:=C6 h;exact A9 hS trivial ⟨[(5,pN 0),(4,.p (vSl 2 A0 y2))],[]⟩ [] (ids:=[]) ⟨rfl,rfl,rfl⟩
end Go.AM
namespace Go.AM
open IntKind (wrap)
open Go.Proofs
set_option maxRecDepth 10000
set_option maxHeartbeats 2000000
variable {S:U5}(hS:F6 S Tryz.prog) (hL:JS S)
include hS hL
def AA (N:Nat)(a:Law):Option Bool:=
 (O8 N a).bind fun y1=>
 some (y1 != 0)
theorem HW {N:Nat}{a:Law}{y:Bool}(h:AA N a=some y) :FunO S DH [.p (.agg (A8 a))] [] (pB y) ([]) []:=by unfold AA at h;refine A4 hS Tryz.func127 ?_;refine kC hS h (Dm hS hL) (fun y1 h=>?_);cases h;exact kR hS
def F4 (N:Nat)(a:Sl Law)(c:Law->Option Bool):Option Int:=
 Q6 N (fun b (x1:Int)=>
  if (decide (x1<(a.n:Int))) then
   if ((0:Int)<=x1/\x1<(a.n:Int))then
    (c (a.g x1.toNat)).bind fun y3=>
    if y3 then
     some x1
    else
     b (wrap .i64 (x1+1))
   else none
  else
   some (-1)
  ) 0
theorem U4 {N:Nat}{a:Sl Law}{c:Law->Option Bool}{kp_f:Nat}(d:∀{a0:Law}{b:Bool},c a0=some b->FunO S kp_f [.p (.agg (A8 a0))] [] (pB b) [] []){y:Int}(h:F4 N a c=some y) :FunO S J5 [.p (vSl 18 A8 a),.clo kp_f [] []] [] (pN y) ([]) []:=by
 unfold F4 at h;refine A4 hS Tryz.func143 ?_;refine O9 hS trivial h (fun x1=>⟨[(8,pN x1),(7,pN (a.n:Int)),(1,.clo kp_f [] []),(0,.p (vSl 18 A8 a))],[]⟩) (ids:=[]) (fun _ _ _ _ _ f x1 g h=>?_);refine kI hS h ?_ ?_<;>intro h
 ·obtain⟨c8,h⟩:=E6 h;obtain⟨y3,e3,h⟩:=B9 h;refine C4 hS [] (And.intro c8 (by decide:(18:Nat)<=18)) (d e3) ?_;refine kI hS h ?_ ?_<;>intro h
  ·cases h;exact kR hS
  ·exact g _ [] _ (wrap .i64 (x1+1)) trivial h
 ·cases h;exact kR hS
def E4 (N:Nat)(a:Sl Law)(b:Law->Option Bool):Option Bool:=
 (F4 N a b).bind fun y1=>
 some (decide (0<=y1))
theorem R0 {N:Nat}{a:Sl Law}{c:Law->Option Bool}{kp_f:Nat}(d:∀{a0:Law}{b:Bool},c a0=some b->FunO S kp_f [.p (.agg (A8 a0))] [] (pB b) [] []){y:Bool}(h:E4 N a c=some y) :FunO S H9 [.p (vSl 18 A8 a),.clo kp_f [] []] [] (pB y) ([]) []:=by unfold E4 at h;refine A4 hS Tryz.func126 ?_;refine kC hS h (U4 hS hL (fun e=>d e)) (fun y1 h=>?_);cases h;exact kR hS
def Cc (N:Nat)(a:Sl Law):Option Int:=
 if (decide (64<(a.n:Int))) then
  some 12
 else
  (E4 N a (fun (u1:Law)=>AA N u1)).bind fun y1=>
  if y1 then
   some 17
  else
   some 0
theorem Kz {N:Nat}{a:Sl Law}{y:Int}(h:Cc N a=some y) :FunO S ER [.p (vSl 18 A8 a)] [] (pN y) ([]) []:=by
 unfold Cc at h;refine A4 hS Tryz.func108 ?_;refine kI hS h ?_ ?_<;>intro h
 ·cases h;exact kR hS
 ·refine kC hS h (R0 hS hL (fun e=>HW hS hL e)) (fun y1 h=>?_);refine kI hS h ?_ ?_<;>intro h
  ·cases h;exact kR hS
  ·cases h;exact kR hS
def Cd (N:Nat)(b:Sl Law)(a:Sl (Sl Sound)):Option Int:=
 (Cc N b).bind fun y1=>
 if (y1 != 0) then
  some y1
 else
  if (decide (256<(a.n:Int))) then
   some 12
  else
   Q6 N (fun c (x1:Int)=>
    if (decide (x1<(a.n:Int))) then
     if ((0:Int)<=x1/\x1<(a.n:Int))then
      (N3 N (a.g x1.toNat)).bind fun y4=>
      if (y4 != 0) then
       some y4
      else
       c (wrap .i64 (x1+1))
     else none
    else
     some 0
    ) 0
theorem KA {N:Nat}{b:Sl Law}{a:Sl (Sl Sound)}{y:Int}(h:Cd N b a=some y) :FunO S EQ [.p (vSl 18 A8 b),.p (vSl 1 (cL 2 A0) a)] [] (pN y) ([]) []:=by
 unfold Cd at h;refine A4 hS Tryz.func81 ?_;refine kC hS h (Kz hS hL) (fun y1 h=>?_);refine kI hS h ?_ ?_<;>intro h
 ·cases h;exact kR hS
 ·refine kI hS h ?_ ?_<;>intro h
  ·cases h;exact kR hS
  ·refine O9 hS trivial h (fun x1=>⟨[(19,pN x1),(18,pN (a.n:Int)),(17,.p (vSl 1 (cL 2 A0) a))],[]⟩) (ids:=[]) (fun _ _ _ _ _ c x1 d h=>?_);refine kI hS h ?_ ?_<;>intro h
   ·obtain⟨c10,h⟩:=E6 h;obtain⟨y4,e4,h⟩:=B9 h;refine C4 hS [] c10 (BI hS hL e4) ?_;refine kI hS h ?_ ?_<;>intro h
    ·cases h;exact kR hS
    ·exact d _ [] _ (wrap .i64 (x1+1)) trivial h
   ·cases h;exact kR hS
end Go.AM
namespace Go.AM
open IntKind (wrap)
open Go.Proofs
set_option maxRecDepth 10000
set_option maxHeartbeats 2000000
variable {S:U5}(hS:F6 S Tryz.prog) (hL:JS S)
include hS hL
def WO (c:Int):Option PV:=if c=0 then none else some (.iface 149 (pI .i64 c))
def AB (N:Nat)(c:Int)(q0:Sl Sound)(q1:Sl Law):Option (List (Int×(Sl Sound))):=
 (A6 N q0).bind fun y1=>
 FZ (0,y1) (
  AW N (fun a (x1:Sl Sound) (x2:Int)=>
   if (decide (x2<(q1.n:Int))) then
    if ((0:Int)<=x2/\x2<(q1.n:Int))then
     (Fs N (q1.g x2.toNat) x1).bind fun y4=>
     if (y4.2 != 0) then
      if y4.2=c then some []else none
     else
      FZ (wrap .i64 (x2+1),y4.1) (
       a y4.1 (wrap .i64 (x2+1))
       )
    else none
   else
    if c=0 then some []else none
   ) y1 0
  )
theorem DJ {N:Nat}{q0:Sl Sound}{q1:Sl Law}{c:Int}{L:List (Int×(Sl Sound))}(h:AB N c q0 q1=some L) :IW S M0 [] [.reg 0 0,.reg 1 0] [.cells [.p (vSl 2 A0 q0)],.cells [.p (vSl 18 A8 q1)]] (L.map (fun (x:Int×(Sl Sound))=>[pI .i64 x.1,vSl 2 A0 x.2])) (WO c):=by
 unfold AB at h;refine Ut hS Tryz.func144 ?_;refine kC hS h (F2 hS hL) (fun y1 h=>?_);obtain⟨L1,rfl,d⟩:=Mi h;replace h:=d;refine CV hS trivial (ys:=(fun (x:Int×(Sl Sound))=>[pI .i64 x.1,vSl 2 A0 x.2]) (0,y1)) (rest:=L1.map (fun (x:Int×(Sl Sound))=>[pI .i64 x.1,vSl 2 A0 x.2])) ?_ ?_
 ·refine D6 hS trivial (b:=false) (fun c1=>?_) (fun c1=>?_)
  ·exact Bool.noConfusion ((rfl:false=false).symm.trans c1)
  ·refine Mj hS trivial h (fun x1 x2 L2=>⟨[(17,pN x2),(16,pN (q1.n:Int)),(15,.p (vSl 18 A8 q1)),(4,.p (vSl 2 A0 x1)),(0,.yf 2)],[(2,.yld (L2.map (fun (x:Int×(Sl Sound))=>[pI .i64 x.1,vSl 2 A0 x.2])) true),(1,.cells [.p (vSl 18 A8 q1)]),(0,.cells [.p (vSl 2 A0 q0)])]⟩) (ids:=[(0,0),(1,1),(2,2)]) (fun _ _ _ _ _ g x1 x2 L2 i h=>?_);refine kI hS h ?_ ?_<;>intro h
   ·obtain⟨c13,h⟩:=E6 h;obtain⟨y4,e4,h⟩:=B9 h;refine C4 hS [] (And.intro c13 (by decide:(18:Nat)<=18)) (Qq hS hL e4) ?_;refine D6 hS trivial (b:=y4.2 != 0) (fun c14=>?_) (fun c14=>?_)
    ·replace h:=itT c14 h;obtain⟨c0,h⟩:=E6 h;obtain rfl:=C6 h;have j:WO c=some (.iface 149 (pI .i64 y4.2)):=by
      have:¬y4.2=0:=by simpa using c14
      rw[<- c0];simp[WO,this]
     refine YP hS trivial (x:=.iface 149 (pI .i64 y4.2)) ?_;exact XK hS trivial (x:=.iface 149 (pI .i64 y4.2)) (objs:=[(.cells [.p (vSl 2 A0 q0)]),.cells [.p (vSl 18 A8 q1)],.yld [] true]) [0,1,2] ⟨true,rfl,rfl,fun _=>by rw[j];rfl,fun e=>nomatch e⟩
    ·replace h:=itF c14 h;obtain⟨L5,rfl,f⟩:=Mi h;replace h:=f;refine CV hS trivial (ys:=(fun (x:Int×(Sl Sound))=>[pI .i64 x.1,vSl 2 A0 x.2]) (wrap .i64 (x2+1),y4.1)) (rest:=L5.map (fun (x:Int×(Sl Sound))=>[pI .i64 x.1,vSl 2 A0 x.2])) ?_ ?_
     ·refine D6 hS trivial (b:=false) (fun c15=>?_) (fun c15=>?_)
      ·exact Bool.noConfusion ((rfl:false=false).symm.trans c15)
      ·exact i _ [(0,0),(1,1),(2,2)] _ y4.1 (wrap .i64 (x2+1)) L5 trivial h
     ·refine D6 hS trivial (b:=true) (fun c16=>?_) (fun c16=>?_)
      ·exact A9 hS trivial (a:=.tup []) (objs:=[(.cells [.p (vSl 2 A0 q0)]),.cells [.p (vSl 18 A8 q1)],.yld [] false]) ⟨[],[(2,.yld [] false),(1,.cells [.p (vSl 18 A8 q1)]),(0,.cells [.p (vSl 2 A0 q0)])]⟩ [0,1,2] (ids:=[(0,0),(1,1),(2,2)]) ⟨false,rfl,rfl,fun e=>(nomatch e),fun _=>⟨_,rfl⟩⟩
      ·exact Bool.noConfusion ((rfl:true=true).symm.trans c16)
   ·obtain⟨c0,h⟩:=E6 h;obtain rfl:=C6 h;exact A9 hS trivial (a:=.tup []) (objs:=[(.cells [.p (vSl 2 A0 q0)]),.cells [.p (vSl 18 A8 q1)],.yld [] true]) ⟨[],[(2,.yld [] true),(1,.cells [.p (vSl 18 A8 q1)]),(0,.cells [.p (vSl 2 A0 q0)])]⟩ [0,1,2] (ids:=[(0,0),(1,1),(2,2)]) ⟨true,rfl,rfl,fun _=>by subst c0;exact⟨_,rfl⟩,fun e=>(nomatch e)⟩
 ·refine D6 hS trivial (b:=true) (fun c17=>?_) (fun c17=>?_)
  ·exact A9 hS trivial (a:=.tup []) (objs:=[(.cells [.p (vSl 2 A0 q0)]),.cells [.p (vSl 18 A8 q1)],.yld [] false]) ⟨[],[(2,.yld [] false),(1,.cells [.p (vSl 18 A8 q1)]),(0,.cells [.p (vSl 2 A0 q0)])]⟩ [0,1,2] (ids:=[(0,0),(1,1),(2,2)]) ⟨false,rfl,rfl,fun e=>(nomatch e),fun _=>⟨_,rfl⟩⟩
  ·exact Bool.noConfusion ((rfl:true=true).symm.trans c17)
def Ce (N:Nat)(a:Sl Law)(b:Sl Sound):Option ((Sl Sound)×(Sl Law)):=
 some (b,a)
theorem EW {N:Nat}{a:Sl Law}{b:Sl Sound}{y:(Sl Sound)×(Sl Law)}(h:Ce N a b=some y) :FunO S ET [.p (vSl 18 A8 a),.p (vSl 2 A0 b)] [] (.clo M0 [] [.reg 0 0,.reg 1 0]) ([.cells [.p (vSl 2 A0 y.1)],.cells [.p (vSl 18 A8 y.2)]]) []:=by unfold Ce at h;refine A4 hS Tryz.func128 ?_;obtain rfl:=C6 h;exact A9 hS trivial ⟨[(4,.clo M0 [] [.reg 4000 0,.reg 3000 0])],[(4000,.cells [.p (vSl 2 A0 b)]),(3000,.cells [.p (vSl 18 A8 a)])]⟩ [4000,3000] (ids:=[(3000,3000),(4000,4000)]) ⟨rfl,rfl,rfl⟩
def J0 (N:Nat)(c:Int)(a:Sl Law)(d:Sl Sound):Option (Sl Sound):=
 (Ce N a d).bind fun y1=>
 (AB N c y1.1 y1.2).bind fun L1=>
 Y9 L1 (fun b (x1:Int×(Sl Sound)) (z1:Sl Sound)=>
  b x1.2
  ) (fun (z1:Sl Sound)=>
   some z1
  ) (Sl.nil:Sl Sound)
theorem Ha {N:Nat}{a:Sl Law}{b:Sl Sound}{y:Sl Sound}(h:J0 N 0 a b=some y) :FunO S G0 [.p (vSl 18 A8 a),.p (vSl 2 A0 b)] [] (.p (vSl 2 A0 y)) ([]) []:=by
 unfold J0 at h;refine A4 hS Tryz.func111 ?_;refine kC hS h (EW hS hL) (fun y1 h=>?_);obtain⟨L1,e2,h⟩:=B9 h;have f:IW S M0 [] [.reg 0 0,.reg 1 0] [.cells [.p (vSl 2 A0 y1.1)],.cells [.p (vSl 18 A8 y1.2)]] (L1.map (fun (x:Int×(Sl Sound))=>[pI .i64 x.1,vSl 2 A0 x.2])) none:=DJ hS hL e2;refine Rs hS trivial [8000,8001] [4] 901 (fun z1=>⟨[(4,.reg 5000 0)],[(5000,.cells [.p (vSl 2 A0 z1)])]⟩) (idl:=[(5000,5000)]) h f (fun _=>by kernel_rfl) (fun _=>by kernel_rfl) (fun _=>by kernel_rfl) (fun _=>by kernel_rfl) (fun x1 _ c z1 d h=>?_) (fun z1 h=>?_)
 ·refine IV hS trivial ?_;exact d _ [(901,901),(5000,5000)] _ x1.2 trivial h
 ·cases h;exact kR hS
theorem Hb {N:Nat}{c:Int}{a:Sl Law}{b:Sl Sound}{y:Sl Sound}(hc:c≠0)(h:J0 N c a b=some y) :S.F G0 [.p (vSl 18 A8 a),.p (vSl 2 A0 b)] [] fun res o k=>res=.panic (.iface 149 (pI .i64 c))/\o=[]/\k=[]:=by
 unfold J0 at h;refine WK hS Tryz.func111 ?_;refine kC hS h (EW hS hL) (fun y1 h=>?_);obtain⟨L1,e2,h⟩:=B9 h;have g:IW S M0 [] [.reg 0 0,.reg 1 0] [.cells [.p (vSl 2 A0 y1.1)],.cells [.p (vSl 18 A8 y1.2)]] (L1.map (fun (x:Int×(Sl Sound))=>[pI .i64 x.1,vSl 2 A0 x.2])) (some (.iface 149 (pI .i64 c))):=by
  have:=DJ hS hL e2
  simpa[WO,hc]using this
 refine Rs hS trivial [8000,8001] [4] 901 (fun z1=>⟨[(4,.reg 5000 0)],[(5000,.cells [.p (vSl 2 A0 z1)])]⟩) (idl:=[(5000,5000)]) h g (fun _=>by kernel_rfl) (fun _=>by kernel_rfl) (fun _=>by kernel_rfl) (fun _=>by kernel_rfl) (fun x1 _ d z1 f h=>?_) (fun z1 h=>?_)
 ·refine IV hS trivial ?_;exact f _ [(901,901),(5000,5000)] _ x1.2 trivial h
 ·exact XK hS trivial (x:=.iface 149 (pI .i64 c)) (objs:=[]) [] ⟨rfl,rfl,rfl⟩
def AC (N:Nat)(a:Sl Law)(b:Sl Sound):Option ((Sl Sound)×Bool):=
 match J0 N 0 a b with
 |some y=>some (y,true)
 |none=>(J0 N 11 a b).bind fun _=>some ((Sl.nil:Sl Sound),false)
theorem HX {N:Nat}{b:Sl Law}{c:Sl Sound}{y:(Sl Sound)×Bool}(h:AC N b c=some y) :FunO S DE [.p (vSl 18 A8 b),.p (vSl 2 A0 c)] [] (.tup [.p (vSl 2 A0 y.1),pB y.2]) ([]) []:=by
 unfold AC at h;refine A4 hS Tryz.func82 ?_;rcases e:J0 N 0 b c with _|z
 ·rw[e]at h;obtain⟨z,e1,h⟩:=B9 h;obtain rfl:=C6 h;refine C4 hS [7000,3000,4000,5000] trivial (hL.attP (Hb hS hL (by decide) e1)) ?_;refine L0 hS trivial [(0,.l [5000]),(1,.l [7000]),(3,.a [5000])] ?_;refine L7 trivial ?_;exact A9 hS trivial ⟨[(5,pB false),(4,.reg 5000 0)],[(5000,.cells [.p (vSl 2 A0 Sl.nil)])]⟩ [] (ids:=[(5000,5000)]) ⟨rfl,rfl,rfl⟩
 ·rw[e]at h;obtain rfl:=C6 h;refine C4 hS [7000,3000,4000,5000] trivial (hL.attR (Ha hS hL e)) ?_;refine L0 hS trivial [(0,.l [5000]),(1,.l [7000]),(3,.a [5000])] ?_;refine L7 trivial ?_;exact A9 hS trivial ⟨[(5,pB true),(4,.reg 5000 0)],[(5000,.cells [.p (vSl 2 A0 z)])]⟩ [] (ids:=[(5000,5000)]) ⟨rfl,rfl,rfl⟩
end Go.AM
namespace Go.AM
open Go.Proofs
set_option maxRecDepth 10000
set_option maxHeartbeats 2000000
variable {S:U5}(hS:F6 S Tryz.prog) (hL:JS S)
include hS hL
def Y3 (N:Nat)(a:Sl Law)(b:Sl Sound):Option ((Sl Sound)×Int):=
 (Cd N a (Sl.of [b]:Sl (Sl Sound))).bind fun y1=>
 if (y1 != 0) then
  some ((Sl.nil:Sl Sound),y1)
 else
  (AC N a b).bind fun y2=>
  if (!y2.2) then
   some ((Sl.nil:Sl Sound),11)
  else
   some (y2.1,0)
theorem Ep {N:Nat}{a:Sl Law}{b:Sl Sound}{y:(Sl Sound)×Int}(h:Y3 N a b=some y) :FunO S Eb [.p (vSl 18 A8 a),.p (vSl 2 A0 b)] [] (.tup [.p (vSl 2 A0 y.1),pN y.2]) ([]) []:=by
 unfold Y3 at h;refine A4 hS Tryz.func32 ?_;refine BC hS (rfl:true=true) ⟨[(11,.vec 12000),(9,.p (vSl 18 A8 a)),(1,.p (vSl 2 A0 b)),(0,.p (vSl 18 A8 a))],[(12000,.vec B1 1 (Sl.of [b]:Sl (Sl Sound)).n (fun i=>cL 2 A0 ((Sl.of [b]:Sl (Sl Sound)).g i)) false)]⟩ (ids:=[(12000,12000)]) ?_ (hle:=klR [(3,.fn 1 (Sl.of [b]:Sl (Sl Sound)).n (D8 [E1] [(0,cL 2 A0 b)]) (fun i=>cL 2 A0 ((Sl.of [b]:Sl (Sl Sound)).g i)))] (al1 ⟨rfl,(fun i c=>match i,c with|0,_=>rfl|_+1,c=>absurd c (by omega))⟩ al0));refine kC hS h (KA hS hL) (fun y1 h=>?_);refine kI hS h ?_ ?_<;>intro h
 ·obtain rfl:=C6 h;exact A9 hS trivial ⟨[(5,pN y1),(4,.p (vSl 2 A0 (Sl.nil:Sl Sound)))],[]⟩ [] (ids:=[]) ⟨rfl,rfl,rfl⟩
 ·refine kC hS h (HX hS hL) (fun y2 h=>?_);refine kI hS h ?_ ?_<;>intro h
  ·obtain rfl:=C6 h;exact A9 hS trivial ⟨[(5,pN 11),(4,.p (vSl 2 A0 (Sl.nil:Sl Sound)))],[]⟩ [] (ids:=[]) ⟨rfl,rfl,rfl⟩
  ·cases h;exact kR hS
end Go.AM
