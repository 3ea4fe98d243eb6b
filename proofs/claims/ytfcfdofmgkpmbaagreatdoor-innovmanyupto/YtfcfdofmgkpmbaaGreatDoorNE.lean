/- What a law's walk and its plain proof need, part 5: no condition of its own. -/
import Derived.Test.YtfcfdofmgkpmbaaGreatDoorND
import Derived.Test.YtfcfdofmgkpmbaaGreatDoorNC
import Derived.RecoverIn
import Derived.Test.YtfcfdofmgkpmbaaGreatDoorProg
import Derived.Lib.SlTrimSet
import Derived.TacticsInMore
set_option linter.defProp false
set_option linter.unusedSimpArgs false
set_option linter.unusedVariables false
set_option linter.unusedSectionVars false
namespace Go.AM
noncomputable abbrev At5:=Go.Proofs.Tryz.prog.funcs
def AF5:=@BitVec.toNat_ofNat
def AN4:=@Go.Proofs.Tryz.func12
def XX (D:List Deferred)(a:Act):Act:={ a with defers:=a.defers++D }
theorem Ey (D:List Deferred)(a:Act)(d:Option Tmp)(v:Value):(XX D a).put d v=XX D (a.put d v):=by cases d<;>rfl
theorem HI {F:Fence}{n:Nat}{P:Program}{ops:Array Oper}{Q:Exit->Act->World->Prop}(D:List Deferred):∀(l:List Nat) (a:Act) (w:World),wpOpsIn F n P ops Q l a w ->
 wpOpsIn F n P ops (fun e a' w'=>∃a0,a' = XX D a0/\Q e a0 w') l (XX D a) w
 |[],a,w,h=>⟨a,rfl,h⟩
 |i::l,a,w,h=>by
  have ih:=HI (F:=F) (n:=n) (P:=P) (ops:=ops) (Q:=Q) D l;simp only[wpOpsIn]at h⊢;have e1:(XX D a).eval=a.eval:=by funext x;cases x<;>rfl
  have e2:(XX D a).tmps=a.tmps:=rfl;cases j:ops[i]? with
  |none=>simp only[j]at h⊢;exact ih a w h
  |some o=>
   simp only[j]at h⊢;rw[e2,e1];by_cases hw:Region.wanted o (yielded ops a.tmps)=true
   .rw[Ln hw]at h⊢;refine⟨by rw[e1];exact h.1,?_⟩;have b:=h.2;rw[e1];generalize (o.semAt F.round a.eval).run P w=r at b;unfold Oper.uponIn at b⊢;split at b
    .rw[Ey];exact ih _ _ b
    .rw[Ey];exact ih _ _ b
    .exact ih _ _ b |> fun x=>by
      rename_i d w'
      have:({ (XX D a)with defers:=d::(XX D a).defers }:Act).put o.dst undef=XX D (({ a with defers:=d::a.defers }:Act).put o.dst undef):=by rw[<- Ey];rfl
      rw[this];exact x
    .refine⟨b.1,b.2.mono ?_⟩;intro e w' f;cases e with
     |returned v=>have:=ih _ _ f;rw[<- Ey]at this;exact this
     |panicked ch=>exact⟨a,rfl,f⟩
     |outgrown=>obtain⟨a1,w1,g⟩:=f;exact⟨XX D a1,w1,a1,rfl,g⟩
    .refine⟨b.1,fun c cs m=>?_⟩;obtain⟨v,w',g1,g2⟩:=b.2 c cs m;exact⟨v,w',by have:=ih _ _ g1;rw[<- Ey]at this;exact this,g2⟩
    .refine⟨b.1,b.2.mono ?_⟩;intro e w' f;cases e with
     |returned v=>have:=ih _ _ f;rw[<- Ey]at this;exact this
     |panicked ch=>exact⟨a,rfl,f⟩
     |outgrown=>obtain⟨a1,w1,g⟩:=f;exact⟨XX D a1,w1,a1,rfl,g⟩
    .exact⟨a,rfl,b⟩
    exact b.elim
   rw[Lp hw]at h⊢;rw[Ey];exact⟨h.1,ih _ _ h.2⟩
section
variable {P:Program}{C:Ctx}{st:St}{rho:Nat->Value}
theorem Ez {fn:Func}{R:Ending->World->Prop}{u:FrameMode}(c:u ≠ .run){tmps:Array Value}{D:List Deferred}(b:∀a w,Sat C st a w rho->a.tmps=tmps->LeavesInM Fence.wide 0 P fn tmps R D u w) :∀(ds:List Deferred) (a:Act) (w:World),a.defers=ds->a.tmps=tmps->Sat C st a w rho->LeavesInM Fence.wide 0 P fn tmps R (ds++D) u w
 |[],a,w,hd,ht,h=>b a w h ht
 |d::ds,a,w,hd,ht,h=>by obtain⟨r,w',h1,f,g⟩:=h.unmark hd;exact⟨c,.inl ⟨r,w',h1,f,Ez c b ds { a with defers:=ds } w' rfl ht g⟩⟩
end
end Go.AM
namespace Go.AM
structure A2 where
 Langs:Int
 Has:(Sl Int)
 deriving Inhabited
abbrev D6 (x:A2):List PV:=[(pI .i64 x.Langs),vSl 1 (cI .u64) x.Has]
structure E8 where
 a0:Int
 a1:Int
 deriving Inhabited,DecidableEq
abbrev O9 (x:E8):List PV:=[(pI .i64 x.a0),pI .i64 x.a1]
structure F0 where
 Parent:Int
 Name:Str
 deriving Inhabited,DecidableEq
abbrev D5 (x:F0):List PV:=[(pI .i64 x.Parent),.str x.Name]
structure Mh where
 Plus:Int
 Minus:Int
 deriving Inhabited,DecidableEq
abbrev A0 (x:Mh):List PV:=[(pI .u32 x.Plus),pI .u32 x.Minus]
inductive Pat where
 |nil
 |mk (Kind:Int) (Is:Mh) (Not:Bool) (Min:Int) (Max:Int) (n:Nat) (g:Nat->Pat)
instance:Inhabited Pat:=⟨.nil⟩
def Pat.Kind:Pat->Int
 |.nil=>0
 |.mk x _ _ _ _ _ _=>x
def Pat.Is:Pat->Mh
 |.nil=>default
 |.mk _ x _ _ _ _ _=>x
def Pat.Not:Pat->Bool
 |.nil=>false
 |.mk _ _ x _ _ _ _=>x
def Pat.Min:Pat->Int
 |.nil=>0
 |.mk _ _ _ x _ _ _=>x
def Pat.Max:Pat->Int
 |.nil=>0
 |.mk _ _ _ _ x _ _=>x
def Pat.L:Pat->Sl Pat
 |.nil=>⟨0,fun _=>.nil⟩
 |.mk _ _ _ _ _ n g=>⟨n,g⟩
def AY:Pat->Nat->List PV
 |.nil=>fun _=>[]
 |.mk _ _ _ _ _ n g=>fun i=>[(pI .i64 (g i).Kind),pI .u32 (g i).Is.Plus,pI .u32 (g i).Is.Minus,.bb (g i).Not,pI .i64 (g i).Min,pI .i64 (g i).Max,.sl false 7 (g i).L.n (AY (g i))]
abbrev B1 (x:Pat):List PV:=[(pI .i64 x.Kind),pI .u32 x.Is.Plus,pI .u32 x.Is.Minus,.bb x.Not,pI .i64 x.Min,pI .i64 x.Max,.sl false 7 x.L.n (AY x)]
def R4 (x:Pat):∀i,i<x.L.n->AY x i=B1 (x.L.g i):=by
 cases x with
 |nil=>intro i a;exact Lq (show i<0 from a) (by omega)
 |mk Kind Is Not Min Max n g=>exact fun _ _=>rfl
structure AC where
 From:Int
 Clear:Int
 Set:Mh
 Take:Int
 Of:Int
 deriving Inhabited,DecidableEq
abbrev O7 (x:AC):List PV:=[(pI .i64 x.From),pI .u32 x.Clear,pI .u32 x.Set.Plus,pI .u32 x.Set.Minus,pI .u32 x.Take,pI .i64 x.Of]
structure Law where
 Name:Str
 Left:Pat
 Right:Pat
 If:(Sl Mh)
 Out:(Sl AC)
 Mode:Int
 deriving Inhabited
abbrev A9 (x:Law):List PV:=[(.str x.Name),pI .i64 x.Left.Kind,pI .u32 x.Left.Is.Plus,pI .u32 x.Left.Is.Minus,.bb x.Left.Not,pI .i64 x.Left.Min,pI .i64 x.Left.Max,.sl false 7 x.Left.L.n (AY x.Left),pI .i64 x.Right.Kind,pI .u32 x.Right.Is.Plus,pI .u32 x.Right.Is.Minus,.bb x.Right.Not,pI .i64 x.Right.Min,pI .i64 x.Right.Max,.sl false 7 x.Right.L.n (AY x.Right),vSl 2 A0 x.If,vSl 6 O7 x.Out,pI .i64 x.Mode]
structure A6 where
 Tree:(Sl F0)
 Laws:(Sl Law)
 On:(Sl (Sl Int))
 deriving Inhabited
abbrev A8 (x:A6):List PV:=[(vSl 2 D5 x.Tree),vSl 18 A9 x.Laws,vSl 1 (cL 1 (cI .i64)) x.On]
inductive Part where
 |nil
 |sound (x:Mh) (no:Bool)
 |edge (e:Bool)
 |seq (n:Nat) (g:Nat->Part)
 |alt (n:Nat) (g:Nat->Part)
 |rep (o:Part) (mn mx:Int)
instance:Inhabited Part:=⟨.nil⟩
def Part.t:Part->Nat
 |.nil=>0
 |.sound _ _=>276
 |.edge _=>278
 |.seq _ _=>283
 |.alt _ _=>280
 |.rep _ _ _=>282
def Part.v:Part->PV
 |.nil=>.bb false
 |.sound x no=>.agg [pI .u32 x.Plus,pI .u32 x.Minus,.bb no]
 |.edge e=>.agg [.bb e]
 |.seq n g=>.agg [.sl false 1 n fun i=>[.iface (g i).t (g i).v]]
 |.alt n g=>.agg [.sl false 1 n fun i=>[.iface (g i).t (g i).v]]
 |.rep o mn mx=>.agg [.iface o.t o.v,pI .i64 mn,pI .i64 mx]
abbrev FB (x:Part):PV:=.iface x.t x.v
abbrev Eb (x:Part):List PV:=[FB x]
structure XY where
 is:Mh
 not:Bool
 deriving Inhabited,DecidableEq
abbrev Uv (x:XY):List PV:=[(pI .u32 x.is.Plus),pI .u32 x.is.Minus,.bb x.not]
structure Aj8 where
 end_:Bool
 deriving Inhabited,DecidableEq
abbrev Aj9 (x:Aj8):List PV:=[(.bb x.end_)]
structure Palt where
 l:(Sl Part)
 deriving Inhabited
abbrev As4 (x:Palt):List PV:=[(vSl 1 Eb x.l)]
structure Prep where
 of:Part
 min:Int
 max:Int
 deriving Inhabited
abbrev As5 (x:Prep):List PV:=[(FB x.of),pI .i64 x.min,pI .i64 x.max]
structure Pseq where
 l:(Sl Part)
 deriving Inhabited
abbrev As6 (x:Pseq):List PV:=[(vSl 1 Eb x.l)]
end Go.AM
namespace Go.AM
open Go.Proofs
abbrev Cw:Nat:=12
def Fr:At5[Cw]? = some Tryz.f12:=AN4
abbrev Ld:Nat:=15
abbrev Gt:Nat:=17
abbrev Ec:Nat:=19
abbrev HJ:Nat:=21
abbrev Z9:Nat:=23
abbrev R9:Nat:=24
abbrev Jk:Nat:=26
abbrev Jl:Nat:=29
abbrev HK:Nat:=31
abbrev Gu:Nat:=33
abbrev Lf:Nat:=35
abbrev HL:Nat:=40
abbrev O1:Nat:=42
abbrev Q5:Nat:=45
abbrev I0:Nat:=47
abbrev Ed:Nat:=48
abbrev HM:Nat:=49
abbrev C6:Nat:=50
abbrev Lg:Nat:=54
abbrev Y4:Nat:=56
abbrev Al:Nat:=57
abbrev EV:Nat:=58
abbrev Ee:Nat:=59
abbrev CJ:Nat:=61
abbrev Lh:Nat:=62
abbrev J8:Nat:=64
abbrev FC:Nat:=65
abbrev FD:Nat:=70
abbrev Gv:Nat:=71
abbrev Gw:Nat:=72
abbrev Jm:Nat:=75
abbrev Gx:Nat:=76
abbrev FE:Nat:=77
abbrev FF:Nat:=78
abbrev Ll:Nat:=81
abbrev Am:Nat:=82
abbrev BK:Nat:=83
abbrev EA:Nat:=85
abbrev Lm:Nat:=87
abbrev Jn:Nat:=89
abbrev HN:Nat:=90
abbrev Gy:Nat:=92
abbrev HO:Nat:=93
abbrev Gz:Nat:=94
abbrev K3:Nat:=97
abbrev F3:Nat:=98
abbrev O2:Nat:=99
abbrev FG:Nat:=105
abbrev Jo:Nat:=108
abbrev GA:Nat:=111
abbrev EW:Nat:=112
abbrev P8:Nat:=115
abbrev By:Nat:=116
abbrev HP:Nat:=117
abbrev Nz:Nat:=118
abbrev HQ:Nat:=119
abbrev HR:Nat:=120
abbrev Lo:Nat:=121
abbrev Jp:Nat:=122
abbrev H0:Nat:=123
abbrev I8:Nat:=124
abbrev Jq:Nat:=125
abbrev FI:Nat:=126
abbrev AQ:Nat:=127
abbrev EX:Nat:=128
abbrev GB:Nat:=139
abbrev H5:Nat:=140
abbrev Q6:Nat:=141
abbrev G6:Nat:=142
abbrev S1:Nat:=146
abbrev Dn:Nat:=147
abbrev GC:Nat:=148
abbrev N4:Nat:=149
abbrev I3:Nat:=150
abbrev K7:Nat:=151
abbrev HS:Nat:=152
abbrev X3:Nat:=153
abbrev F8:Nat:=154
abbrev P0:Nat:=155
abbrev I9:Nat:=159
abbrev EZ:Nat:=160
abbrev GD:Nat:=161
abbrev Jr:Nat:=171
abbrev D7:Nat:=172
abbrev K9:Nat:=174
abbrev O6:Nat:=175
abbrev Lr:Nat:=176
abbrev Ls:Nat:=182
abbrev Lt:Nat:=189
abbrev QP:Nat:=190
abbrev EB:Nat:=196
abbrev NA:Nat:=197
abbrev J9:Nat:=198
abbrev QR:Nat:=199
abbrev QS:Nat:=200
abbrev HT:Nat:=201
abbrev Da:Nat:=207
abbrev Js:Nat:=208
abbrev Ef:Nat:=209
abbrev G1:Nat:=210
abbrev GE:Nat:=211
abbrev Jt:Nat:=212
abbrev S3:Nat:=217
abbrev HU:Nat:=218
abbrev Lu:Nat:=219
abbrev Lw:Nat:=220
abbrev Lx:Nat:=221
abbrev HV:Nat:=227
abbrev HX:Nat:=228
abbrev GF:Nat:=229
abbrev FK:Nat:=234
abbrev Bn:Nat:=235
abbrev Af:Nat:=236
abbrev Bz:Nat:=259
abbrev CL:Nat:=260
abbrev Dp:Nat:=261
abbrev EC:Nat:=262
abbrev Db:Nat:=263
abbrev ED:Nat:=264
abbrev FN:Nat:=265
abbrev Y7:Nat:=266
abbrev EE:Nat:=267
abbrev C4:Nat:=3
abbrev Ac4:Nat:=4
abbrev Bo:Nat:=9
abbrev AG:Nat:=29
abbrev OY:Nat:=42
abbrev X6:Nat:=44
abbrev Dc:Nat:=51
abbrev P6:Nat:=76
abbrev D4:Nat:=87
abbrev Av:Nat:=95
abbrev DO:Nat:=121
abbrev Ct:Nat:=124
abbrev SV:Nat:=269
end Go.AM
namespace Go.AM
abbrev U (x:BitVec 64):Int:=(x.toNat:Int)
end Go.AM
namespace Go.AM
variable {N:Nat}
open Go.Proofs
abbrev ZR:List AV:=[.reg 0 0,.reg 1 0,.reg 2 0,.reg 3 0]
abbrev SW (c:Int)(a:Sl Law)(b:Sl Mh)(y:PV):List Obj:=[.cells [pN c],.cells [.p (vSl 18 A9 a)],.cells [.p (vSl 2 A0 b)],.cells [.p y]]
def byB (x:Int)(i:Nat):UInt8:=UInt8.ofNat (x / 2 ^ (8*i) % 256).toNat
def VU (s:Int×Int)(q:Nat):List UInt8:=(List.range q).flatMap fun i=>[byB s.1 i,byB s.2 i]
def Uw (g:Nat->Int×Int)(n:Nat):List UInt8:=(List.range n).flatMap fun i=>VU (g i) 4
def VV (w:Sl Mh):Str:=Uw (fun i=>((w.g i).Plus,(w.g i).Minus)) w.n
structure Ig (S:Q7):Prop where
 attR:∀{a:Sl Law}{b y:Sl Mh},FunO S G6 [.p (vSl 18 A9 a),.p (vSl 2 A0 b)] [] (.p (vSl 2 A0 y)) [] []->FunO S H5 ZR (SW 0 a b E9) (.tup []) (SW 0 a b (vSl 2 A0 y)) [true,true,true,true]
 attP:∀{a:Sl Law}{b:Sl Mh}{c:Int},(S.F G6 [.p (vSl 18 A9 a),.p (vSl 2 A0 b)] [] fun res o k=>res=.panic (.iface 210 (pI .i64 c))/\o=[]/\k=[])->FunO S H5 ZR (SW 0 a b E9) (.tup []) (SW c a b E9) [true,true,true,true]
 tz:∀x:BitVec 64,TH S O1 [.p (pI .u64 (U x))] (.p (pI .i64 (Lib.ctz 64 x.toNat:Nat)))
 trim:∀s c:Str,s.length<1000000000000->c.length<1000000->(∀b∈c,b.toNat<128)->TH S Dn [.p (.str s),.p (.str c)] (.p (.str (Lib.trimS s c)))
 growS:∀(f:Nat->List PV) (n:Nat),n*8<=140737488355328->FunO S G1 [.p E9,.p (pI .i64 (n:Int))] [] (.vec 0) [.vec D4 2 0 f false] []
 text:∀(w:Sl Mh) (e:Int),w.n*8<=140737488355328->TH S FE [.p (vSl 2 A0 w),.p (pI .i64 e)] (.p (.str (if e=0 then VV w else [45])))
 repI:∀(s:Sl Int) (c:Nat),s.n=1->c*8<=140737488355328->FunO S I0 [.p (vSl 1 (cI .i64) s),.p (pI .i64 (c:Int))] [] (.vec 0) [.vec C4 1 c (fun _=>cI .i64 (s.g 0)) false] []
 repW:∀(s:Sl (Sl Mh)) (c:Nat),s.n=1->c*24<=140737488355328->TH S C6 [.p (vSl 1 (cL 2 A0) s),.p (pI .i64 (c:Int))] (.p (vSl 1 (cL 2 A0) (Sl.rep c (s.g 0))))
def O3 (N:Nat)(x:Int):Option Int:=if 0<=x/\x<18446744073709551616 then some ((Lib.ctz 64 x.toNat:Nat):Int)else none
def Dh (N:Nat)(s c:Str):Option Str:=if s.length<1000000000000/\c.length<1000000/\(c.all fun b=>decide (b.toNat<128)) then some (Lib.trimS s c)else none
def N5 (N:Nat)(n:Int):Option (Sl Mh):=if 0<=n/\n*8<=140737488355328 then some (Sl.nil:Sl Mh)else none
section
variable {S:Q7}(hS:F4 S Tryz.prog) (hL:Ig S)
include hS hL
theorem U9 {x y:Int}(h:O3 N x=some y):FunO S O1 [.p (pI .u64 x)] [] (.p (pI .i64 y)) [] []:=by
 obtain⟨⟨a,h1⟩,h⟩:=E2 h;obtain rfl:=B7 h
 have:=hL.tz (BitVec.ofNat 64 x.toNat)
 have e:(BitVec.ofNat 64 x.toNat).toNat=x.toNat:=by rw[AF5];omega
 have e2:U (BitVec.ofNat 64 x.toNat)=x:=by show ((BitVec.ofNat 64 x.toNat).toNat:Int)=x;rw[e];omega
 rw[e,e2]at this;exact this
theorem Mw {s c:Str}{y:Str}(h:Dh N s c=some y):FunO S Dn [.p (.str s),.p (.str c)] [] (.p (.str y)) [] []:=by obtain⟨⟨a,h1,d⟩,h⟩:=E2 h;obtain rfl:=B7 h;exact hL.trim s c a h1 fun b hb=>by simpa using Av0.1 d b hb
theorem Ac {n:Int}{y:Sl Mh}(h:N5 N n=some y):FunO S G1 [.p E9,.p (pI .i64 n)] [] (.vec 0) [.vec D4 2 y.n (fun i=>A0 (y.g i)) false] []:=by
 obtain⟨⟨a,h1⟩,h⟩:=E2 h;obtain rfl:=B7 h
 have:=hL.growS (fun i=>A0 default) n.toNat (by omega)
 rw[show ((n.toNat:Nat):Int)=n by omega]at this;exact this
def H1 (N:Nat)(s:Sl (Sl Mh))(n:Int):Option (Sl (Sl Mh)):=if s.n=1/\0<=n/\n*24<=140737488355328 then some (Sl.rep n.toNat (s.g 0))else none
theorem R0 {s:Sl (Sl Mh)}{n:Int}{y:Sl (Sl Mh)}(h:H1 N s n=some y):FunO S C6 [.p (vSl 1 (cL 2 A0) s),.p (pI .i64 n)] [] (.p (vSl 1 (cL 2 A0) y)) [] []:=by
 obtain⟨⟨a,h1,b⟩,h⟩:=E2 h;obtain rfl:=B7 h
 have:=hL.repW s n.toNat a (by omega)
 rw[show ((n.toNat:Nat):Int)=n by omega]at this;exact this
def B3 (N:Nat)(s:Sl Mh):Option (Sl Mh):=if (0+s.n)*8<=140737488355328/\0+s.n<=140737488355328 then some s else none
theorem L0 {s y:Sl Mh}(h:B3 N s=some y):FunO S F8 [.p (vSl 2 A0 s)] [] (.vec 0) [.vec D4 2 y.n (fun i=>A0 (y.g i)) true] []:=by
 unfold B3 at h;obtain⟨c1,h⟩:=E2 h;obtain rfl:=B7 h;refine A3 hS Tryz.func154 ?_;refine Aj1 hS Mg 3 (k:=2) (n:=s.n) (f:=fun i=>A0 (s.g i)) (fun a=>?_) ?_
 .obtain⟨n,g⟩:=s;obtain rfl:n=0:=a;exact A7 hS Mg ⟨[(2,.vec 3700)],[(3700,.vec D4 2 0 (fun i=>A0 (g i)) true)]⟩ [3700] (ids:=[]) ⟨rfl,rfl,rfl⟩
 exact A7 hS (And.intro (rfl:true=true) c1) ⟨[(2,.vec 8000)],[(8000,.vec D4 2 s.n (fun i=>A0 (s.g i)) true)]⟩ [8000] (ids:=[(8000,8000)]) ⟨rfl,rfl,rfl⟩
  (hle:=klR [(0,.fn (0+s.n) s.n (AA 0 (D0 [pI .u32 0,pI .u32 0] []) (fun i=>A0 (s.g i))) (fun i=>A0 (s.g i)))] (al1 ⟨Ay3 _,fun i _=>by simp[AA]⟩ al0))
def H6 (N:Nat)(s:Sl AC):Option (Sl AC):=if (0+s.n)*32<=140737488355328/\0+s.n<=140737488355328 then some s else none
theorem X7 {s y:Sl Mh}(h:B3 N s=some y):FunO S F8 [.p (vSl 2 A0 s)] [] (.p (vSl 2 A0 y)) [] []:=by
 unfold B3 at h;obtain⟨c1,h⟩:=E2 h;obtain rfl:=B7 h;refine A3 hS Tryz.func154 ?_;refine Aj1 hS Mg 3 (k:=2) (n:=s.n) (f:=fun i=>A0 (s.g i)) (fun a=>?_) ?_
 .obtain⟨n,g⟩:=s;obtain rfl:n=0:=a;exact A7 hS Mg ⟨[(2,.p (vSl 2 A0 ⟨0,g⟩))],[]⟩ [] (ids:=[]) ⟨rfl,rfl,rfl⟩
 exact A7 hS (And.intro (rfl:true=true) c1) ⟨[(2,.p (vSl 2 A0 s))],[]⟩ [] (ids:=[]) ⟨rfl,rfl,rfl⟩
  (hle:=klR [(0,.fn (0+s.n) s.n (AA 0 (D0 [pI .u32 0,pI .u32 0] []) (fun i=>A0 (s.g i))) (fun i=>A0 (s.g i)))] (al1 ⟨Ay3 _,fun i _=>by simp[AA]⟩ al0))
theorem AB {s y:Sl AC}(h:H6 N s=some y):FunO S P0 [.p (vSl 6 O7 s)] [] (.p (vSl 6 O7 y)) [] []:=by
 unfold H6 at h;obtain⟨c1,h⟩:=E2 h;obtain rfl:=B7 h;refine A3 hS Tryz.func155 ?_;refine Aj1 hS Mg 3 (k:=6) (n:=s.n) (f:=fun i=>O7 (s.g i)) (fun a=>?_) ?_
 .obtain⟨n,g⟩:=s;obtain rfl:n=0:=a;exact A7 hS Mg ⟨[(2,.p (vSl 6 O7 ⟨0,g⟩))],[]⟩ [] (ids:=[]) ⟨rfl,rfl,rfl⟩
 exact A7 hS (And.intro (rfl:true=true) c1) ⟨[(2,.p (vSl 6 O7 s))],[]⟩ [] (ids:=[]) ⟨rfl,rfl,rfl⟩
  (hle:=klR [(0,.fn (0+s.n) s.n (AA 0 (D0 [pI .i64 0,pI .u32 0,pI .u32 0,pI .u32 0,pI .u32 0,pI .i64 0] []) (fun i=>O7 (s.g i))) (fun i=>O7 (s.g i)))] (al1 ⟨Ay3 _,fun i _=>by simp[AA]⟩ al0))
def FO (N:Nat)(w:Sl Mh)(e:Int):Option Str:=if w.n*8<=140737488355328 then some (if e=0 then VV w else [45])else none
theorem QW {w:Sl Mh}{e:Int}{y:Str}(h:FO N w e=some y):FunO S FE [.p (vSl 2 A0 w),.p (pI .i64 e)] [] (.p (.str y)) [] []:=by unfold FO at h;obtain⟨c1,h⟩:=E2 h;obtain rfl:=B7 h;exact hL.text w e c1
end
end Go.AM
set_option maxRecDepth 100000
namespace Go.AM
open Go.Proofs
def VW (v:Value)(w:World):(Instr.typeAssert (.iface 210 v) 20 210 true).run Tryz.prog w=.ok (.tuple #[v,.bool true]) w:=by kernel_rfl
def SX (p:Value)(w:World):CallsDIn Fence.wide 0 Tryz.prog Q6 #[p] .returning w fun e u' w'=>e=.returned (.tuple #[])/\u' = .returning/\w' = w:=by
 refine callsDIn_of_wpSIn Tryz.func141 rfl (by simp[Fence.wide]) fun c₀ cs a=>?_;apply wpSIn_seq;apply wpSIn_region;simp[wpOpsSIn,go_sem,recoverD,a,Tryz.f141,Exit.thenS];refine wpSIn_of_wpIn rfl (wpIn_block (wpIn_seq (wpIn_region ?_)));simp[wpOpsIn,Oper.wpIn,Oper.semAt,Oper.uponIn,go_sem,Exit.then];refine wpIn_cond (t:=true) (by simp[Act.eval]) ?_;simp only[Ly];refine wpIn_region ?_;simp[wpOpsIn,Oper.wpIn,Oper.semAt,Oper.uponIn,go_sem,Exit.inBlock,bodyPostS,results];cases c₀
 simp_all
def JI (p:Value)(c:Int)(older:List PanicEntry)(w w1:World)(a:(Instr.storeAt 30 p (.int .i64 c)).run Tryz.prog w=.ok () w1)(hn:∃b,p=.pointer (some b)) :CallsDIn Fence.wide 0 Tryz.prog Q6 #[p] (.panicking ({ v:=.iface 210 (.int .i64 c),recovered:=false }::older)) w fun e u' w'=>
  e=.returned (.tuple #[])/\u' = .panicking ({ v:=.iface 210 (.int .i64 c),recovered:=true }::older)/\w' = w1:=by
 obtain⟨b,rfl⟩:=hn;refine callsDIn_of_wpSIn Tryz.func141 rfl (by simp[Fence.wide]) fun c₀ cs d=>?_;apply wpSIn_seq;apply wpSIn_region;simp[wpOpsSIn,go_sem,recoverD,d,Tryz.f141,Exit.thenS];refine wpSIn_of_wpIn rfl (wpIn_block (wpIn_seq (wpIn_region ?_)));simp[wpOpsIn,Oper.wpIn,Oper.semAt,Oper.uponIn,go_sem,Exit.then];refine wpIn_cond (t:=false) (by simp[Act.eval]) ?_;simp only[Au4,Lz];refine wpIn_seq (wpIn_region ?_);simp[wpOpsIn,Oper.wpIn,Oper.semAt,Oper.uponIn,go_sem,Exit.then,VW];refine wpIn_cond (t:=true) (by simp[Act.eval]) ?_;simp only[Ly];refine wpIn_seq (wpIn_region ?_);simp[wpOpsIn,Oper.wpIn,Oper.semAt,Oper.uponIn,go_sem,Exit.then];refine wpIn_region ?_;simp[wpOpsIn,Oper.wpIn,Oper.semAt,Oper.uponIn,go_sem,a,Exit.inBlock,bodyPostS,results];simp[go_sem]at a;rw[a];simp[Result.andThen]
noncomputable def Al3:Code:=match Tryz.f140.body with
 |some (.seq _ c)=>c
 |_=>.skip
def Ak0 {S:Q7}(hS:F4 S Tryz.prog){a:Sl Law}{b y:Sl Mh}(c:FunO S G6 [.p (vSl 18 A9 a),.p (vSl 2 A0 b)] [] (.p (vSl 2 A0 y)) [] []) :KG S Tryz.prog (Ny S (fun st=>J1 [0,1,2,3] st.regs [0,1,2,3]=some (SW 0 a b (vSl 2 A0 y))) fun _ _=>False) (.code Al3 [] ⟨argEnv ZR,objRegs (SW 0 a b E9)⟩):=by refine B4 hS [] Mg c ?_;exact K_upN hS Mg ⟨[],[(3,.cells [.p (vSl 2 A0 y)]),(2,.cells [.p (vSl 2 A0 b)]),(1,.cells [.p (vSl 18 A9 a)]),(0,.cells [pN 0])]⟩ (ids:=[(0,0),(1,1),(2,2),(3,3)]) rfl
def Yc {S:Q7}(hS:F4 S Tryz.prog){a:Sl Law}{b:Sl Mh}{c:Int}(d:S.F G6 [.p (vSl 18 A9 a),.p (vSl 2 A0 b)] [] fun res o k=>res=.panic (.iface 210 (pI .i64 c))/\o=[]/\k=[]) :KG S Tryz.prog (Ny S (fun _=>False) fun x st=>x=.iface 210 (pI .i64 c)/\store Tryz.prog st.regs 30 (.reg 0 0) (.p (pI .i64 c))=some ([],ins 0 (.cells [pN c]) st.regs)/\J1 [0,1,2,3] (ins 0 (.cells [pN c]) st.regs) [0,1,2,3]=some (SW c a b E9)) (.code Al3 [] ⟨argEnv ZR,objRegs (SW 0 a b E9)⟩):=by refine Aj7 hS [] Mg d ?_;exact K_upP hS Mg ⟨rfl,by kernel_rfl,by kernel_rfl⟩
noncomputable def att1:Code:=match Tryz.f140.body with
 |some (.seq c _)=>c
 |_=>.skip
noncomputable def attOps:Array Oper:=match Al3 with
 |.region _ ops _=>ops
 |_=>#[]
def Ux:Al3=.region 1 attOps false:=by kernel_rfl
def As7:attOps.toList.all (Gn 7 attOps.toList)=true:=by kernel_rfl
def ZS:¬Tryz.f140.name = "runtime.NumGoroutine" := by decide +kernel
def Uy:Tryz.f140.body=some (.seq att1 Al3):=by kernel_rfl
def Ak1 {C:Ctx}{vs:Array Value}{w:World}{rho:Nat->Value}{args:List AV}{objs:List Obj}{n:Nat}(hS:Sat C ⟨argEnv args,objRegs objs⟩ ⟨vs,[]⟩ w rho)(a:vs.size=args.length) :Sat C ⟨argEnv args,objRegs objs⟩ { tmps:=vs++Array.replicate n undef,defers:=[] } w rho:=by
 refine⟨hS.toSatE,fun t=>?_,hS.pin,hS.marks⟩
 have:=hS.env t
 by_cases ht:t<vs.size
 .simpa[At8,AB1,ht]using this
 show RepA w _ _ _ _ (get (argEnv args) t);rw[Az,At6,Ax8 (by omega)];exact .top _
def LB {R:St->Prop}{X:PV->St->Prop}{a:Sl Law}{b:Sl Mh}{objs' : List Obj}
 (a1:KG (EQ Tryz.prog) Tryz.prog (Ny (EQ Tryz.prog) R X) (.code Al3 [] ⟨argEnv ZR,objRegs (SW 0 a b E9)⟩))
 (hR:∀st,R st->J1 [0,1,2,3] st.regs [0,1,2,3]=some objs')
 (hX:∀x st,X x st->∃c regs',x=.iface 210 (pI .i64 c)/\store Tryz.prog st.regs 30 (.reg 0 0) (.p (pI .i64 c))=some ([],regs')/\J1 [0,1,2,3] regs' [0,1,2,3]=some objs') :
 FunO (EQ Tryz.prog) H5 ZR (SW 0 a b E9) (.tup []) objs' [true,true,true,true]:=by
 intro 𝒢 C w vs rho hG hS t;obtain⟨l⟩:=vs
 match l,t with
 |[v0,v1,v2,v3],t=>?_
 refine⟨.enter H5 #[v0,v1,v2,v3],w,by simp[callFunc,Tryz.func140,Uy,ZS],?_⟩;refine callsIn_of_wp_marks Tryz.func140 Uy Mg ?_;have a2:=Ak1 (n:=Tryz.f140.ntmps-4) hS t;have a9:Tryz.f140.ntmps-4=3:=rfl;rw[a9]at a2;have b1:((#[v0,v1,v2,v3]:Array Value)++Array.replicate 3 undef).size=7:=rfl;have hw:Ih (EQ Tryz.prog) Tryz.prog attOps.toList attOps.toList (Ny (EQ Tryz.prog) R X) ⟨argEnv ZR,objRegs (SW 0 a b E9)⟩:=by
  have:=a1.out
  rw[Ux]at this;simpa only[G,awp,kp,Au4,Lz]using this
 have a4:=KR (𝒢:=𝒢.fix C.rho0) (n:=7) (ro:=none) (ops:=attOps) As7 attOps.toList 0 rfl (by simp) ⟨hG,rfl⟩ a2 b1 hw;have a5:=HI [{ target:=.fn (.func Q6) #[],args:=#[v0] }] _ _ _ a4;rw[AI3]at a5;obtain⟨b0,a6,u⟩:∃b0,v0=.pointer (some ⟨b0,0,none⟩)/\rho 0=.pointer (some ⟨b0,0,none⟩):=by
  have h0:RepA w _ _ rho v0 (.reg 0 0):=hS.env 0;cases h0 with
  |reg _ _ b0 _ h=>exact⟨b0,rfl,h⟩
 have s:∀{C' : Ctx}{st' : St}{a' : Act}{w' : World}{rho' : Nat->Value},(𝒢.fix C.rho0).G C' -> Sat C' st' a' w' rho' -> J1 [0,1,2,3] st'.regs [0,1,2,3]=some objs' ->
  LeavesInM Fence.wide 0 Tryz.prog Tryz.f140 a'.tmps (fun e w'=>∃C' r objs0 ks rho', 𝒢.G C' /\ (r=.ret (.tup [])/\objs0=objs' /\ ks=[true,true,true,true])/\SatE C' (objRegs objs0) w' rho' /\
   Ag8 w' (Prv C'.X (A1 (objRegs objs0)) rho') (Lv (A1 (objRegs objs0))) rho' e r/\∀i:Nat,ks[i]? = some true->i<objs0.length/\rho' i=rho i) [] .returning w':=by
  intro C' st' a' w' rho' d f m;obtain⟨g1,g2,g3⟩:=KS f (by decide) m;obtain⟨hl,hg⟩:=X0 m;refine⟨.tuple #[],by simp[results,Tryz.f140],C', .ret (.tup []),objs',_,_,d.1,⟨rfl,rfl,rfl⟩,g1,⟨_,rfl,.tup _ _ rfl fun i hi=>Lq hi (by simp)⟩,?_⟩;intro i hi;have y:i<4:=by
   have:=(Au7.1 hi).1
   simpa using this
  refine⟨by rw[hl];exact y,?_⟩;have e1:[0,1,2,3][i]? = some i:=by
   match i,y with
   |0,_=>rfl
   |1,_=>rfl
   |2,_=>rfl
   |3,_=>rfl
  obtain⟨o,_,ho,_⟩:=hg i i e1;show rho' ([0,1,2,3].getD i 0)=rho i;rw[BI e1,f.pin i (by omega) (by simp[Lv,ho]),d.2];refine (hS.pin i (by omega) ?_).symm;rw[Lv,C7]
  match i,y with
  |0,_=>rfl
  |1,_=>rfl
  |2,_=>rfl
  |3,_=>rfl
 generalize hQ:bodyPostM _ _ _ _ _=QQ;refine wpIn_seq ?_;simp only[att1,Tryz.f140];refine wpIn_region ?_;simp[wpOpsIn,Oper.wpIn,Oper.semAt,Oper.uponIn,go_sem,Exit.then];subst hQ;rw[Ux];refine wpIn_mono (wpIn_region (F:=FW none) a5) ?_;rintro e a' w' ⟨a0,rfl,z⟩;cases e with
 |exit id=>obtain⟨_,_,_,_,_,_,h⟩:=z;exact h.elim
 |goto l=>obtain⟨_,_,_,_,_,_,h⟩:=z;exact h.elim
 |ret=>obtain⟨_,_,_,_,_,_,h⟩:=z;exact h.elim
 |outgrown=>exact z.elim
 |normal=>
  obtain⟨C',st',rho',d,f,a7,hu⟩:=z;obtain⟨st2,rho2,hR2,_,hs2⟩:=hu C' a0 w' rho' f;refine Ez (C:=C') (st:=st2) (rho:=rho2) (by simp) ?_ a0.defers a0 w' rfl rfl hs2;intro a3 w3 q ht;refine⟨by simp,.inr ⟨by simp[Fence.wide],_,_,Q6,#[v0],rfl,by simp[go_sem],fun _ _=>trivial,?_⟩⟩;refine (SX v0 w3).mono ?_;rintro e u' w4 ⟨rfl,rfl,rfl⟩
  have:=s d q (hR st2 hR2)
  rw[ht]at this;exact this
 |panic chain=>
  obtain⟨C',st',rho',v,x,rfl,d,f,a7,hv,hXx⟩:=z;obtain⟨c,regs',rfl,g,m⟩:=hX x st' hXx;obtain rfl:v=.iface 210 (.int .i64 c):=by
   cases hv with
   |iface _ _ _ h=>cases h;rfl
  refine Ez (C:=C') (st:=st') (rho:=rho') (by simp) ?_ a0.defers a0 w' rfl rfl f;intro a3 w3 q ht;have j:Lv (A1 st'.regs) 0:=by
   cases hj:A1 st'.regs 0 with
   |some o=>simp[Lv,hj]
   |none=>
    unfold store at g;split at g
    .simp[hj]at g
    cases g
  have hr0:rho' 0=.pointer (some ⟨b0,0,none⟩):=by rw[q.pin 0 (by omega) j,d.2,<- u];exact (hS.pin 0 (by omega) rfl).symm
  have hva:RS C' st' w3 rho' v0 (.reg 0 0):=by rw[a6];exact .reg 0 0 b0 j hr0
  obtain⟨w4,a8,hs4,_⟩:=KF q (vx:=.int .i64 c) hva (.p _ _ (.v _)) g Mg;refine⟨by simp,.inr ⟨by simp[Fence.wide],_,_,Q6,#[v0],rfl,by simp[go_sem],fun _ _=>trivial,?_⟩⟩;refine (JI v0 c [] w3 w4 a8 ⟨_,a6⟩).mono ?_;rintro e u' w5 ⟨rfl,rfl,rfl⟩
  have:=s d hs4 m
  rw[ht]at this;exact this
def SY {a:Sl Law}{b y:Sl Mh}(c:FunO (EQ Tryz.prog) G6 [.p (vSl 18 A9 a),.p (vSl 2 A0 b)] [] (.p (vSl 2 A0 y)) [] []) :FunO (EQ Tryz.prog) H5 ZR (SW 0 a b E9) (.tup []) (SW 0 a b (vSl 2 A0 y)) [true,true,true,true]:=
 LB (Ak0 (Ae1 Tryz.prog) c) (fun st h=>h) (fun x st h=>h.elim)
def OZ {a:Sl Law}{b:Sl Mh}{c:Int}(d:(EQ Tryz.prog).F G6 [.p (vSl 18 A9 a),.p (vSl 2 A0 b)] [] fun res o k=>res=.panic (.iface 210 (pI .i64 c))/\o=[]/\k=[]) :FunO (EQ Tryz.prog) H5 ZR (SW 0 a b E9) (.tup []) (SW c a b E9) [true,true,true,true]:=
 LB (Yc (Ae1 Tryz.prog) d) (fun st h=>h.elim) (fun x st h=>⟨c,_,h.1,h.2.1,h.2.2⟩)
end Go.AM
namespace Go.AM
variable {N:Nat}
open IntKind (wrap)
open Go.Proofs
set_option maxRecDepth 10000
set_option maxHeartbeats 2000000
variable {S:Q7}(hS:F4 S Tryz.prog) (hL:Ig S)
include hS hL
def F5 (N:Nat)(a:Mh):Option Bool:= some (((E7 .and .u32 a.Plus a.Minus)==0)&&(decide ((E7 .or .u32 a.Plus a.Minus)<=16777215)))
theorem P1 {b:Mh}{y:Bool}(h:F5 N b=some y) :FunO S HR [.p (.agg (A0 b))] [] (pB y) ([]) []:=by unfold F5 at h;refine A3 hS Tryz.func120 ?_;refine kB hS (A5 hS) Mg Mg 7 (.n (.a ((E7 .and .u32 b.Plus b.Minus)==0)) (.a (decide ((E7 .or .u32 b.Plus b.Minus)<=16777215)))) ?_;cases h;exact kR hS
def Bi (N:Nat)(b:Mh)(a:Mh):Option Bool:= (F5 N b).bind fun y1=>lt (fun (z1:Bool)=>some z1) fun k1=>if y1 then (F5 N a).bind fun y3=>if y3 then if ((E7 .andNot .u32 a.Plus b.Plus)==0) then k1 ((E7 .andNot .u32 a.Minus b.Minus)==0) else k1 false else k1 false else k1 false
theorem IL {c:Mh}{a:Mh}{y:Bool}(h:Bi N c a=some y) :FunO S Ef [.p (.agg (A0 c)),.p (.agg (A0 a))] [] (pB y) ([]) []:=by
 unfold Bi at h;refine A3 hS Tryz.func209 ?_;refine kC hS h (P1 hS hL) (fun y1 h=>?_);refine Ga hS Mg (A5 hS) h 0 (fun z1=>⟨[(4,pB z1)],[]⟩) (fun M1 k1 b h=>?_) (fun z1 h=>?_)
 .refine kG hS h (fun h=>?_) (fun h=>?_)
  .refine kC hS h (P1 hS hL) (fun y3 h=>?_);refine kG hS h (fun h=>?_) (fun h=>?_)
   .refine kG hS h (fun h=>?_) (fun h=>?_)
    .exact b _ [] _ ((E7 .andNot .u32 a.Minus c.Minus)==0) Mg h
    exact b _ [] _ false Mg h
   exact b _ [] _ false Mg h
  exact b _ [] _ false Mg h
 cases h;exact kR hS
def EF (N:Nat)(a:Mh):Option Int:= some (E7 .or .u32 a.Plus a.Minus)
theorem LC {a:Mh}{y:Int}(h:EF N a=some y) :FunO S Lw [.p (.agg (A0 a))] [] (pU y) ([]) []:=by unfold EF at h;refine A3 hS Tryz.func220 ?_;cases h;exact kR hS
def EG (N:Nat)(c:Mh)(b:Mh)(a:Int):Option Mh:= some (⟨E7 .or .u32 (E7 .andNot .u32 c.Plus a) (E7 .and .u32 b.Plus a),E7 .or .u32 (E7 .andNot .u32 c.Minus a) (E7 .and .u32 b.Minus a)⟩:Mh)
theorem LD {c:Mh}{a:Mh}{b:Int}{y:Mh}(h:EG N c a b=some y) :FunO S Lx [.p (.agg (A0 c)),.p (.agg (A0 a)),pU b] [] (.p (.agg (A0 y))) ([]) []:=by unfold EG at h;refine A3 hS Tryz.func221 ?_;cases h;exact kR hS
def Dq (N:Nat)(c:Mh)(a:Int)(b:Mh):Option (Mh×Int):= (F5 N c).bind fun y1=>lt (fun (z1:Bool)=>if z1 then some ((⟨0,0⟩:Mh),14) else lt (fun (z2:Bool)=>if z2 then some ((⟨0,0⟩:Mh),2) else (EF N b).bind fun y6=>(EG N c b (E7 .or .u32 a y6)).bind fun y7=>some (y7,0)) fun k2=>if (decide (16777215<a)) then k2 true else (EF N b).bind fun y5=>k2 ((E7 .and .u32 a y5) != 0)) fun k1=>if (!y1) then k1 true else (F5 N b).bind fun y3=>k1 (!y3)
theorem Mx {c:Mh}{a:Int}{b:Mh}{y:Mh×Int}(h:Dq N c a b=some y) :FunO S GE [.p (.agg (A0 c)),pU a,.p (.agg (A0 b))] [] (.tup [.p (.agg (A0 y.1)),pN y.2]) ([]) []:=by
 unfold Dq at h;refine A3 hS Tryz.func211 ?_;refine I1 hS Mg 5 4000 [pI .u32 c.Plus,pI .u32 c.Minus] ?_;refine I1 hS Mg 6 6000 [pI .u32 b.Plus,pI .u32 b.Minus] ?_;obtain⟨y1,e1,h⟩:=B5 h;refine B4 hS [] (by decide:(2:Nat)<=2) (P1 hS hL e1) ?_;refine Ga hS Mg (A5 hS) h 0 (fun z1=>⟨[(15,pB z1),(6,.reg 7000 0),(5,.p (.ptr [pI .u32 b.Plus,pI .u32 b.Minus])),(3,.p (.ptr [pI .u32 c.Plus,pI .u32 c.Minus])),(1,pU a)],[(7000,.cells [pU 0,pU 0])]⟩) (fun M1 k1 d h=>?_) (fun z1 h=>?_)
 .refine kG hS h (fun h=>?_) (fun h=>?_)
  .exact d _ [(7000,7000)] _ true Mg h
  obtain⟨y3,e3,h⟩:=B5 h;refine B4 hS [] (by decide:(2:Nat)<=2) (P1 hS hL e3) ?_;exact d _ [(7000,7000)] _ (!y3) Mg h
 apply kI hS h<;>intro h
 .cases h;exact kR hS
 refine Ga hS Mg (A5 hS) h 0 (fun z2=>⟨[(25,pB z2),(6,.reg 7000 0),(5,.p (.ptr [pI .u32 b.Plus,pI .u32 b.Minus])),(3,.p (.ptr [pI .u32 c.Plus,pI .u32 c.Minus])),(1,pU a)],[(7000,.cells [pU 0,pU 0])]⟩) (fun M2 k2 f h=>?_) (fun z2 h=>?_)
 .refine kG hS h (fun h=>?_) (fun h=>?_)
  .exact f _ [(7000,7000)] _ true Mg h
  obtain⟨y5,e5,h⟩:=B5 h;refine B4 hS [] (by decide:(2:Nat)<=2) (LC hS hL e5) ?_;exact f _ [(7000,7000)] _ ((E7 .and .u32 a y5) != 0) Mg h
 apply kI hS h<;>intro h
 .cases h;exact kR hS
 refine G8 hS Mg [0,1,3,4,6] ?_;obtain⟨y6,e6,h⟩:=B5 h;refine AF (And.intro (And.intro (by decide:(2:Nat)<=2) (by decide:(2:Nat)<=2)) (by decide:(2:Nat)<=2)) (LC hS hL e6) ?_;obtain⟨y7,e7,h⟩:=B5 h;refine AF Mg (LD hS hL e7) ?_;refine O5 Mg ?_;cases h;exact kR hS
def FP (N:Nat)(c:Mh)(a:Mh)(b:Int):Option (Mh×Int):= (F5 N c).bind fun y1=>lt (fun (z1:Bool)=>if z1 then some ((⟨0,0⟩:Mh),14) else if (decide (16777215<b)) then some ((⟨0,0⟩:Mh),2) else (EG N c a b).bind fun y4=>some (y4,0)) fun k1=>if (!y1) then k1 true else (F5 N a).bind fun y3=>k1 (!y3)
theorem QX {c:Mh}{a:Mh}{b:Int}{y:Mh×Int}(h:FP N c a b=some y) :FunO S Jt [.p (.agg (A0 c)),.p (.agg (A0 a)),pU b] [] (.tup [.p (.agg (A0 y.1)),pN y.2]) ([]) []:=by
 unfold FP at h;refine A3 hS Tryz.func212 ?_;refine kC hS h (P1 hS hL) (fun y1 h=>?_);refine Ga hS Mg (A5 hS) h 0 (fun z1=>⟨[(15,pB z1),(6,.reg 7000 0),(4,.reg 5000 0),(3,.reg 4000 0),(2,pU b)],[(7000,.cells [pU 0,pU 0]),(5000,.cells [pU a.Plus,pU a.Minus]),(4000,.cells [pU c.Plus,pU c.Minus])]⟩) (fun M1 k1 d h=>?_) (fun z1 h=>?_)
 .refine kG hS h (fun h=>?_) (fun h=>?_)
  .exact d _ [(4000,4000),(5000,5000),(7000,7000)] _ true Mg h
  refine kC hS h (P1 hS hL) (fun y3 h=>?_);exact d _ [(4000,4000),(5000,5000),(7000,7000)] _ (!y3) Mg h
 apply kI hS h<;>intro h
 .cases h;exact kR hS
 apply kI hS h<;>intro h
 .cases h;exact kR hS
 refine kC hS h (LD hS hL) (fun y4 h=>?_);cases h;exact kR hS
def LE (N:Nat)(a:Sl Mh)(b:Sl Mh):Option Bool:= if ((a.n:Int) != (b.n:Int)) then some false else At N (fun c (x1:Int)=>if (decide (x1<(a.n:Int))) then if (((0:Int)<=x1/\x1<(a.n:Int))/\((0:Int)<=x1/\x1<(b.n:Int)))then if ((((a.g x1.toNat).Plus==(b.g x1.toNat).Plus)&&((a.g x1.toNat).Minus==(b.g x1.toNat).Minus)) != true) then some false else c (wrap .i64 (x1+1)) else none else some true) 0
theorem Ak2 {a:Sl Mh}{b:Sl Mh}{y:Bool}(h:LE N a b=some y) :FunO S Ll [.p (vSl 2 A0 a),.p (vSl 2 A0 b)] [] (pB y) ([]) []:=by
 unfold LE at h;refine A3 hS Tryz.func81 ?_;apply kI hS h<;>intro h
 .cases h;exact kR hS
 refine N0 hS Mg h (fun x1=>⟨[(5,pN x1),(1,.p (vSl 2 A0 b)),(0,.p (vSl 2 A0 a))],[]⟩) (ids:=[]) (fun _ _ _ _ _ c x1 d h=>?_);apply kI hS h<;>intro h
 .refine G8 hS Mg [2,3,6,7] ?_;obtain⟨c9,h⟩:=E2 h;refine O5 (And.intro (And.intro (And.intro (And.intro c9.1 (by decide:(2:Nat)<=2)) c9.2) (by decide:(2:Nat)<=2)) (by decide +kernel:Ad1 Tryz.prog D4=true)) ?_;apply kI hS h<;>intro h
  .cases h;exact kR hS
  exact d _ [] _ (wrap .i64 (x1+1)) Mg h
 cases h;exact kR hS
def Bt (N:Nat)(a:Mh):Option Bool:= some (((E7 .and .u32 a.Plus a.Minus)==0)&&((shI .shr .u32 (E7 .or .u32 a.Plus a.Minus) 24)==0))
theorem QY {a:Mh}{y:Bool}(h:Bt N a=some y) :FunO S Jo [.p (.agg (A0 a))] [] (pB y) ([]) []:=by
 unfold Bt at h;refine A3 hS Tryz.func108 ?_;obtain⟨t1,c⟩:∃x:Bool,x=(((E7 .and .u32 a.Plus a.Minus)==0)&&((shI .shr .u32 (E7 .or .u32 a.Plus a.Minus) 24)==0)):=⟨_,rfl⟩;refine NH hS Mg (A5 hS) 0 ⟨[(2,pB t1)],[]⟩ (fun M1 d=>?_) ?_
 .refine Fl hS Mg (b:=(E7 .and .u32 a.Plus a.Minus)==0) (fun c2=>?_) (fun c2=>?_)
  .exact d _ [] _ (by decide:(0:Int)<=24) (hle:=klR [(0,.eq (.bb ((shI .shr .u32 (E7 .or .u32 a.Plus a.Minus) 24)==0)) (.bb t1))] (al1 (by simp only[c,c2,Leaf.ok,pm,Ly,Lz]) al0))
  exact d _ [] _ Mg (hle:=klR [(0,.eq (.bb false) (.bb t1))] (al1 (by simp only[c,c2,Leaf.ok,pm,Ly,Lz]) al0))
 subst c;cases h;exact kR hS
def BA (N:Nat)(a:Sl Mh):Option Int:= if (decide (32<(a.n:Int))) then some 11 else At N (fun b (x1:Int)=>if (decide (x1<(a.n:Int))) then if ((0:Int)<=x1/\x1<(a.n:Int))then (Bt N (a.g x1.toNat)).bind fun y3=>if (!y3) then some 14 else b (wrap .i64 (x1+1)) else none else some 0) 0
theorem FQ {a:Sl Mh}{y:Int}(h:BA N a=some y) :FunO S Jm [.p (vSl 2 A0 a)] [] (pN y) ([]) []:=by
 unfold BA at h;refine A3 hS Tryz.func75 ?_;apply kI hS h<;>intro h
 .cases h;exact kR hS
 refine N0 hS Mg h (fun x1=>⟨[(10,pN x1),(9,pN (a.n:Int)),(8,.p (vSl 2 A0 a))],[]⟩) (ids:=[]) (fun _ _ _ _ _ b x1 c h=>?_);apply kI hS h<;>intro h
 .obtain⟨c9,h⟩:=E2 h;obtain⟨y3,e3,h⟩:=B5 h;refine B4 hS [] (And.intro c9 (by decide:(2:Nat)<=2)) (QY hS hL e3) ?_;apply kI hS h<;>intro h
  .cases h;exact kR hS
  exact c _ [] _ (wrap .i64 (x1+1)) Mg h
 cases h;exact kR hS
def N1 (N:Nat)(a:Mh):Option Bool:= some (((E7 .and .u32 a.Plus a.Minus)==0)&&((shI .shr .u32 (E7 .or .u32 a.Plus a.Minus) 24)==0))
theorem Dd {a:Mh}{y:Bool}(h:N1 N a=some y) :FunO S Jr [.p (.agg (A0 a))] [] (pB y) ([]) []:=by
 unfold N1 at h;refine A3 hS Tryz.func171 ?_;obtain⟨t1,c⟩:∃x:Bool,x=(((E7 .and .u32 a.Plus a.Minus)==0)&&((shI .shr .u32 (E7 .or .u32 a.Plus a.Minus) 24)==0)):=⟨_,rfl⟩;refine NH hS Mg (A5 hS) 0 ⟨[(2,pB t1)],[]⟩ (fun M1 d=>?_) ?_
 .refine Fl hS Mg (b:=(E7 .and .u32 a.Plus a.Minus)==0) (fun c2=>?_) (fun c2=>?_)
  .exact d _ [] _ (by decide:(0:Int)<=24) (hle:=klR [(0,.eq (.bb ((shI .shr .u32 (E7 .or .u32 a.Plus a.Minus) 24)==0)) (.bb t1))] (al1 (by simp only[c,c2,Leaf.ok,pm,Ly,Lz]) al0))
  exact d _ [] _ Mg (hle:=klR [(0,.eq (.bb false) (.bb t1))] (al1 (by simp only[c,c2,Leaf.ok,pm,Ly,Lz]) al0))
 subst c;cases h;exact kR hS
def V2 (N:Nat)(b:Int):Option (Nat->Int):= Bq N (fun a (x1:Nat->Int) (x2:Int)=>if (decide (x2<(wrap .i64 (b+1)))) then if (((0:Int)<=x2/\((0:Int)<=x2/\x2<33))/\(0+x2.toNat*1)<33)then a (JU x1 (0+x2.toNat*1) (shI .shl .u64 1 x2)) (wrap .i64 (x2+1)) else none else some x1) (fun _=>0) 0
theorem CM {a:Int}{y:Nat->Int}(h:V2 N a=some y) :FunO S FN [pN a] [] (.p (.agg (cA 33 (pI .u64) y))) ([]) []:=by
 unfold V2 at h;refine A3 hS Tryz.func265 ?_;refine G9 hS Mg h (fun x1 x2=>⟨[(7,pN x2),(6,pN (wrap .i64 (a+1))),(3,.reg 4000 0),(2,.reg 3000 0)],[(4000,.arr 33 (fun i=>pI .u64 (x1 i))),(3000,.arr 33 (fun i=>pI .u64 ((fun _=>0) i)))]⟩) (ids:=[(3000,3000),(4000,4000)]) (fun _ _ _ _ _ b x1 x2 d h=>?_) (hle:=klR [(2,.fn 33 33 (fun i=>[(fun i=>(List.replicate 33 (pI .u64 0)).getD i default) i]) (fun i=>[pI .u64 ((fun _=>0) i)])),(3,.fn 33 33 (fun i=>[(fun i=>(List.replicate 33 (pI .u64 0)).getD i default) i]) (fun i=>[pI .u64 ((fun _=>0) i)]))] (al1 ⟨rfl,AP (z:=pI .u64 0) rfl⟩ (al1 ⟨rfl,AP (z:=pI .u64 0) rfl⟩ al0)));apply kI hS h<;>intro h
 .obtain⟨c4,h⟩:=E2 h;exact d _ [(3000,3000),(4000,4000)] _ (JU x1 (0+x2.toNat*1) (shI .shl .u64 1 x2)) (wrap .i64 (x2+1)) c4 h (hle:=klR [(2,.fn 33 33 (fun i=>[(fun i=>if i=(0+x2.toNat*1)then (pI .u64 (shI .shl .u64 1 x2))else (fun i=>pI .u64 (x1 i)) i) i]) (fun i=>[pI .u64 (JU x1 (0+x2.toNat*1) (shI .shl .u64 1 x2) i)]))] (al1 ⟨rfl,Ac1 (c:=pI .u64) (v:=x1) (x:=shI .shl .u64 1 x2) (fun _ _=>rfl) rfl⟩ al0))
 obtain rfl:=B7 h;exact A7 hS (And.intro rfl (E6 _ _):(0:Nat)=0/\(AI 33 (fun i=>pI .u64 (x1 i))).length=33) ⟨[(2,.reg 3000 0)],[(3000,.arr 33 (fun i=>pI .u64 (x1 i)))]⟩ [] (ids:=[(3000,3000)]) ⟨rfl,rfl,rfl⟩ (hle:=klR [(0,.fn 33 33 (fun i=>[(fun i=>(cA 33 (pI .u64) x1).getD i default) i]) (fun i=>[pI .u64 (x1 i)]))] (al1 ⟨rfl,D2 33 (fun i=>pI .u64 (x1 i))⟩ al0))
def S8 (N:Nat)(p_x:Nat->Int)(b:Nat->Int):Option (Nat->Int):= Bq N (fun a (x1:Nat->Int) (x2:Int)=>if (decide (x2<33)) then if (((0:Int)<=x2/\x2<33)/\(0+x2.toNat*1)<33)then if (((((0:Int)<=x2/\x2<33)/\(0+x2.toNat*1)<33)/\((0:Int)<=x2/\x2<33))/\(0+x2.toNat*1)<33)then a (JU x1 (0+x2.toNat*1) (E7 .or .u64 (x1 (0+x2.toNat*1)) (b (0+x2.toNat*1)))) (wrap .i64 (x2+1)) else none else none else some x1) p_x 0
theorem De {p_x:Nat->Int}{a:Nat->Int}{y:Nat->Int}(h:S8 N p_x a=some y) :FunO S Db [.reg 0 0,.reg 1 0] [.arr 33 (fun i=>pI .u64 (p_x i)),.arr 33 (fun i=>pI .u64 (a i))] (.tup []) ([.arr 33 (fun i=>pI .u64 (y i)),.arr 33 (fun i=>pI .u64 (a i))]) [true,true]:=by
 unfold S8 at h;refine A3 hS Tryz.func263 ?_;refine G9 hS Mg h (fun x1 x2=>⟨[(7,pN x2),(6,.reg 1 0),(0,.reg 0 0)],[(1,.arr 33 (fun i=>pI .u64 (a i))),(0,.arr 33 (fun i=>pI .u64 (x1 i)))]⟩) (ids:=[(0,0),(1,1)]) (fun _ _ _ _ _ b x1 x2 d h=>?_);apply kI hS h<;>intro h
 .refine GV hS Mg ?_;obtain⟨c8,h⟩:=E2 h;refine O5 c8 ?_;refine GV hS Mg ?_;obtain⟨c9,h⟩:=E2 h;refine O5 c9 ?_;exact d _ [(0,0),(1,1)] _ (JU x1 (0+x2.toNat*1) (E7 .or .u64 (x1 (0+x2.toNat*1)) (a (0+x2.toNat*1)))) (wrap .i64 (x2+1)) Mg h (hle:=klR [(2,.fn 33 33 (fun i=>[(fun i=>if i=(0+x2.toNat*1)then (pI .u64 (E7 .or .u64 (x1 (0+x2.toNat*1)) (a (0+x2.toNat*1))))else (fun i=>pI .u64 (x1 i)) i) i]) (fun i=>[pI .u64 (JU x1 (0+x2.toNat*1) (E7 .or .u64 (x1 (0+x2.toNat*1)) (a (0+x2.toNat*1))) i)]))] (al1 ⟨rfl,Ac1 (c:=pI .u64) (v:=x1) (x:=E7 .or .u64 (x1 (0+x2.toNat*1)) (a (0+x2.toNat*1))) (fun _ _=>rfl) rfl⟩ al0))
 obtain rfl:=B7 h;exact A7 hS Mg ⟨[],[(1,.arr 33 (fun i=>pI .u64 (a i))),(0,.arr 33 (fun i=>pI .u64 (x1 i)))]⟩ [0,1] (ids:=[(0,0),(1,1)]) ⟨rfl,rfl,rfl⟩
def Cg (N:Nat)(b:Sl Mh)(a:Int):Option Int:= if ((decide (a<0))||(decide ((b.n:Int)<a))) then some 3 else some 0
theorem HZ {c:Sl Mh}{b:Int}{y:Int}(h:Cg N c b=some y) :FunO S HX [.p (vSl 2 A0 c),pN b] [] (pN y) ([]) []:=by
 unfold Cg at h;refine A3 hS Tryz.func228 ?_;refine kB hS (A5 hS) Mg Mg 5 (.o (.a (decide (b<0))) (.a (decide ((c.n:Int)<b)))) ?_;apply kI hS h<;>intro h
 .cases h;exact kR hS
 cases h;exact kR hS
def Z3 (N:Nat)(a:Pat):Option Int:= if (if (a.Kind==0) then a.Kind==0 else (if (a.Kind==2) then a.Kind==2 else a.Kind==6)) then lt (fun (z1:Bool)=>if z1 then some 2 else (N1 N a.Is).bind fun y1=>if (!y1) then some 14 else some 0) fun k1=>if (((a.Is.Plus==0)&&(a.Is.Minus==0)) != true) then k1 true else if a.Not then k1 true else if (a.Min != 0) then k1 true else if (a.Max != 0) then k1 true else k1 (decide (0<(a.L.n:Int))) else if (a.Kind==1) then lt (fun (z2:Bool)=>if z2 then some 2 else (N1 N a.Is).bind fun y2=>if (!y2) then some 14 else some 0) fun k2=>if (((0==0)&&(0==0)) != true) then k2 true else if (a.Min != 0) then k2 true else if (a.Max != 0) then k2 true else k2 (decide (0<(a.L.n:Int))) else lt (fun (z3:Int×Int)=>if (((((((a.Is.Plus==0)&&(a.Is.Minus==0)) != true)||a.Not)||(z3.1 != 0))||(z3.2 != 0))||(decide (0<0))) then some 2 else (N1 N a.Is).bind fun y3=>if (!y3) then some 14 else some 0) fun k3=>if (if (a.Kind==3) then a.Kind==3 else a.Kind==4) then k3 (a.Min,a.Max) else if (a.Kind==5) then if (((((a.L.n:Int) != 1)||(decide (a.Min<0)))||(decide (32<a.Min)))||((a.Max != (-1))&&((decide (a.Max<a.Min))||(decide (32<a.Max))))) then some 2 else k3 (0,0) else some 2
theorem My {c:Pat}{y:Int}(h:Z3 N c=some y) :FunO S GC [.p (.agg (B1 c))] [] (pN y) ([]) []:=by
 unfold Z3 at h;refine A3 hS Tryz.func148 ?_;obtain⟨t1,f⟩:∃x:Bool,x=(if (c.Kind==0) then c.Kind==0 else (if (c.Kind==2) then c.Kind==2 else c.Kind==6)):=⟨_,rfl⟩;refine NH hS Mg (A5 hS) 0 ⟨[(8,pB t1),(7,pN c.Kind),(3,.reg 4000 0),(1,.reg 2000 0)],[(4000,.cells [pN 0,pU c.Is.Plus,pU c.Is.Minus,pB c.Not,pN c.Min,pN c.Max,.p (.sl false 7 c.L.n (AY c))]),(2000,.cells ((B1 c).map .p))]⟩ (fun M1 l=>?_) ?_
 .refine D1 hS Mg (b:=c.Kind==0) (fun c3=>?_) (fun c3=>?_)
  .exact l _ [(2000,2000),(4000,4000)] _ Mg (hle:=klR [(0,.eq (.bb (c.Kind==0)) (.bb t1))] (al1 (by simp only[f,c3,Leaf.ok,pm,Ly,Lz]) al0))
  refine D1 hS Mg (b:=c.Kind==2) (fun c4=>?_) (fun c4=>?_)
  .exact l _ [(2000,2000),(4000,4000)] _ Mg (hle:=klR [(0,.eq (.bb (c.Kind==2)) (.bb t1))] (al1 (by simp only[f,c3,c4,Leaf.ok,pm,Ly,Lz]) al0))
  exact l _ [(2000,2000),(4000,4000)] _ Mg (hle:=klR [(0,.eq (.bb (c.Kind==6)) (.bb t1))] (al1 (by simp only[f,c3,c4,Leaf.ok,pm,Ly,Lz]) al0))
 subst f;apply kI hS h<;>intro h
 .refine Ga hS (by decide +kernel:Ad1 Tryz.prog D4=true) (A5 hS) h 0 (fun z1=>⟨[(57,pB z1),(1,.reg 2000 0)],[(2000,.cells ((B1 c).map .p))]⟩) (fun M3 k1 d h=>?_) (fun z1 h=>?_)
  .refine kG hS h (fun h=>?_) (fun h=>?_)
   .exact d _ [(2000,2000)] _ true Mg h
   refine kG hS h (fun h=>?_) (fun h=>?_)
   .exact d _ [(2000,2000)] _ true Mg h
   refine kG hS h (fun h=>?_) (fun h=>?_)
   .exact d _ [(2000,2000)] _ true Mg h
   refine kG hS h (fun h=>?_) (fun h=>?_)
   .exact d _ [(2000,2000)] _ true Mg h
   refine H3 hS Mg 79 ⟨[(78,.p (vSl 7 B1 c.L)),(76,.p (.v (.bool false))),(1,.reg 2000 0)],[(2000,.cells ((B1 c).map .p))]⟩ (ids:=[(2000,2000)]) ?_ (hle:=klR [(0,.fn c.L.n c.L.n (AY c) (fun i=>B1 (c.L.g i)))] (al1 ⟨rfl,R4 c⟩ al0));exact d _ [(2000,2000)] _ (decide (0<(c.L.n:Int))) Mg h
  apply kI hS h<;>intro h
  .cases h;exact kR hS
  refine kC hS h (Dd hS hL) (fun y1 h=>?_);apply kI hS h<;>intro h
  .cases h;exact kR hS
  cases h;exact kR hS
 apply kI hS h<;>intro h
 .refine Ga hS (by decide +kernel:Ad1 Tryz.prog D4=true) (A5 hS) h 0 (fun z2=>⟨[(57,pB z2),(1,.reg 2000 0)],[(2000,.cells ((B1 c).map .p))]⟩) (fun M5 k2 j h=>?_) (fun z2 h=>?_)
  .refine kG hS h (fun h=>?_) (fun h=>?_)
   .exact j _ [(2000,2000)] _ true Mg h
   refine Fl hS Mg (b:=false) (fun c54=>?_) (fun c54=>?_)
   .exact Bool.noConfusion ((rfl:false=false).symm.trans c54)
   refine kG hS h (fun h=>?_) (fun h=>?_)
   .exact j _ [(2000,2000)] _ true Mg h
   refine kG hS h (fun h=>?_) (fun h=>?_)
   .exact j _ [(2000,2000)] _ true Mg h
   refine H3 hS Mg 79 ⟨[(78,.p (vSl 7 B1 c.L)),(76,.p (.v (.bool false))),(1,.reg 2000 0)],[(2000,.cells ((B1 c).map .p))]⟩ (ids:=[(2000,2000)]) ?_ (hle:=klR [(0,.fn c.L.n c.L.n (AY c) (fun i=>B1 (c.L.g i)))] (al1 ⟨rfl,R4 c⟩ al0));exact j _ [(2000,2000)] _ (decide (0<(c.L.n:Int))) Mg h
  apply kI hS h<;>intro h
  .cases h;exact kR hS
  refine kC hS h (Dd hS hL) (fun y2 h=>?_);apply kI hS h<;>intro h
  .cases h;exact kR hS
  cases h;exact kR hS
 obtain⟨t4,m⟩:∃x:Bool,x=(if (c.Kind==3) then c.Kind==3 else c.Kind==4):=⟨_,rfl⟩;refine NH hS Mg (A5 hS) 0 ⟨[(17,pB t4),(7,pN c.Kind),(3,.reg 4000 0),(1,.reg 2000 0)],[(4000,.cells [pN 0,pU c.Is.Plus,pU c.Is.Minus,pB c.Not,pN c.Min,pN c.Max,.p (.sl false 7 c.L.n (AY c))]),(2000,.cells ((B1 c).map .p))]⟩ (fun M6 q=>?_) ?_
 .refine D1 hS Mg (b:=c.Kind==3) (fun c60=>?_) (fun c60=>?_)
  .exact q _ [(2000,2000),(4000,4000)] _ Mg (hle:=klR [(0,.eq (.bb (c.Kind==3)) (.bb t4))] (al1 (by simp only[m,c60,Leaf.ok,pm,Ly,Lz]) al0))
  exact q _ [(2000,2000),(4000,4000)] _ Mg (hle:=klR [(0,.eq (.bb (c.Kind==4)) (.bb t4))] (al1 (by simp only[m,c60,Leaf.ok,pm,Ly,Lz]) al0))
 subst m;refine Ga hS Mg (A5 hS) h 0 (fun z3=>⟨[(3,.reg 4000 0),(1,.reg 2000 0)],[(4000,.cells [pN 0,pU c.Is.Plus,pU c.Is.Minus,pB c.Not,pN z3.1,pN z3.2,.p E9]),(2000,.cells ((B1 c).map .p))]⟩) (fun M7 k3 r h=>?_) (fun z3 h=>?_)
 .apply kI hS h<;>intro h
  .exact r _ [(2000,2000),(4000,4000)] _ (c.Min,c.Max) Mg h
  apply kI hS h<;>intro h
  .refine H3 hS Mg 25 ⟨[(24,.p (vSl 7 B1 c.L)),(3,.reg 4000 0),(1,.reg 2000 0)],[(4000,.cells [pN 0,pU c.Is.Plus,pU c.Is.Minus,pB c.Not,pN c.Min,pN c.Max,.p (.sl false 7 c.L.n (AY c))]),(2000,.cells ((B1 c).map .p))]⟩ (ids:=[(2000,2000),(4000,4000)]) ?_ (hle:=klR [(0,.fn c.L.n c.L.n (AY c) (fun i=>B1 (c.L.g i)))] (al1 ⟨rfl,R4 c⟩ al0));refine kB hS (A5 hS) Mg Mg 26 (.o (.o (.o (.a ((c.L.n:Int) != 1)) (.a (decide (c.Min<0)))) (.a (decide (32<c.Min)))) (.n (.a (c.Max != (-1))) (.o (.a (decide (c.Max<c.Min))) (.a (decide (32<c.Max)))))) ?_;apply kI hS h<;>intro h
   .cases h;exact kR hS
   exact r _ [(2000,2000),(4000,4000)] _ (0,0) Mg h
  cases h;exact kR hS
 refine kB hS (A5 hS) (by decide +kernel:Ad1 Tryz.prog D4=true) Mg 19 (.o (.o (.o (.o (.a (((c.Is.Plus==0)&&(c.Is.Minus==0)) != true)) (.a c.Not)) (.a (z3.1 != 0))) (.a (z3.2 != 0))) (.a (decide (0<0)))) ?_;apply kI hS h<;>intro h
 .cases h;exact kR hS
 refine kC hS h (Dd hS hL) (fun y3 h=>?_);apply kI hS h<;>intro h
 .cases h;exact kR hS
 cases h;exact kR hS
end Go.AM
namespace Go.AM
open IntKind (wrap)
open Go.Proofs
set_option maxRecDepth 10000
set_option maxHeartbeats 2000000
variable {S:Q7}(hS:F4 S Tryz.prog) (hL:Ig S)
include hS hL
def Ba (N:Nat)(a:Str):Option Bool:= At N (fun b (x1:Int)=>if (decide (x1<(a.length:Int))) then if ((0:Int)<=x1/\x1<(a.length:Int))then if (!(((((decide (97<=(Y2 a x1)))&&(decide ((Y2 a x1)<=122)))||((decide (65<=(Y2 a x1)))&&(decide ((Y2 a x1)<=90))))||((decide (48<=(Y2 a x1)))&&(decide ((Y2 a x1)<=57))))||((Y2 a x1)==45))) then some false else b (wrap .i64 (x1+1)) else none else some ((decide (1<=(a.length:Int)))&&(decide ((a.length:Int)<=24)))) 0
end Go.AM
namespace Go.AM
variable {N:Nat}
open IntKind (wrap)
open Go.Proofs
set_option maxRecDepth 10000
set_option maxHeartbeats 2000000
variable {S:Q7}(hS:F4 S Tryz.prog) (hL:Ig S)
include hS hL
def S2 (N:Nat)(q0:Int):Option (List (Int)):= At N (fun a (x1:Int)=>if (x1 != 0) then (O3 N x1).bind fun y3=>if (0:Int)<=y3 then Fo y3 (a (E7 .andNot .u64 x1 (shI .shl .u64 1 y3))) else none else some []) q0
theorem BM {q0:Int}{L:List (Int)}(h:S2 N q0=some L) :Er S Af [] [.reg 0 0] [.cells [.p (pI .u64 q0)]] (L.map (fun (x:Int)=>[pI .i64 x])):=by
 unfold S2 at h;refine Ew hS Tryz.func236 ?_;refine Fz hS Mg h (fun x1 L1=>⟨[(1,.reg 0 0),(0,.yf 1)],[(1,.yld (L1.map (fun (x:Int)=>[pI .i64 x])) true),(0,.cells [.p (pI .u64 x1)])]⟩) (ids:=[(0,0),(1,1)]) (fun _ _ _ _ _ d x1 L1 f h=>?_);apply kI hS h<;>intro h
 .refine kC hS h (U9 hS hL) (fun y3 h=>?_);refine GV hS Mg ?_;obtain⟨c10,h⟩:=E2 h;refine O5 c10 ?_;obtain⟨L4,rfl,c⟩:=La h;replace h:=c;refine CF hS Mg (ys:=(fun (x:Int)=>[pI .i64 x]) y3) (rest:=L4.map (fun (x:Int)=>[pI .i64 x])) ?_ ?_
  .refine D1 hS Mg (b:=false) (fun c11=>?_) (fun c11=>?_)
   .exact Bool.noConfusion ((rfl:false=false).symm.trans c11)
   exact f _ [(0,0),(1,1)] _ (E7 .andNot .u64 x1 (shI .shl .u64 1 y3)) L4 Mg h
  refine D1 hS Mg (b:=true) (fun c12=>?_) (fun c12=>?_)
  .exact A7 hS Mg (a:=.tup []) (objs:=[(.cells [.p (pI .u64 (E7 .andNot .u64 x1 (shI .shl .u64 1 y3)))]),.yld [] false]) ⟨[],[(1,.yld [] false),(0,.cells [.p (pI .u64 (E7 .andNot .u64 x1 (shI .shl .u64 1 y3)))])]⟩ [0,1] (ids:=[(0,0),(1,1)]) ⟨false,rfl,rfl,_,rfl⟩
  exact Bool.noConfusion ((rfl:true=true).symm.trans c12)
 obtain rfl:=B7 h;exact A7 hS Mg (a:=.tup []) (objs:=[(.cells [.p (pI .u64 x1)]),.yld [] true]) ⟨[],[(1,.yld [] true),(0,.cells [.p (pI .u64 x1)])]⟩ [0,1] (ids:=[(0,0),(1,1)]) ⟨true,rfl,rfl,_,rfl⟩
def Ad (N:Nat)(a:Int):Option (Int):= some a
theorem Dr {a:Int}{y:Int}(h:Ad N a=some y) :FunO S GF [.p (pI .u64 a)] [] (.clo Af [] [.reg 0 0]) ([.cells [.p (pI .u64 y)]]) []:=by unfold Ad at h;refine A3 hS Tryz.func229 ?_;obtain rfl:=B7 h;exact A7 hS Mg ⟨[(2,.clo Af [] [.reg 2000 0])],[(2000,.cells [.p (pI .u64 a)])]⟩ [2000] (ids:=[(2000,2000)]) ⟨rfl,rfl,rfl⟩
def H7 (N:Nat)(p_x:Nat->Int)(c:Nat->Int):Option (Nat->Int):= Bq N (fun a (x3:Nat->Int) (x4:Int)=>if (decide (x4<33)) then if (((0:Int)<=x4/\x4<33)/\(0+x4.toNat*1)<33)then (Ad N (p_x (0+x4.toNat*1))).bind fun y3=>(S2 N y3).bind fun L3=>Z2 L3 (fun b (x7:Int) (z3:Nat->Int)=>if (((((((0:Int)<=x4/\x4<33)/\(0+x4.toNat*1)<33)/\((0:Int)<=x7/\x7<33))/\(0+x7.toNat*1)<33)/\((0:Int)<=x4/\x4<33))/\(0+x4.toNat*1)<33)then b (JU z3 (0+x4.toNat*1) (E7 .or .u64 (z3 (0+x4.toNat*1)) (c (0+x7.toNat*1)))) else none) (fun (z3:Nat->Int)=>a z3 (wrap .i64 (x4+1))) x3 else none else some x3) (fun _=>0) 0
theorem Q0 {p_x:Nat->Int}{b:Nat->Int}{y:Nat->Int}(h:H7 N p_x b=some y) :FunO S Y7 [.reg 0 0,.reg 1 0] [.arr 33 (fun i=>pI .u64 (p_x i)),.arr 33 (fun i=>pI .u64 (b i))] (.p (.agg (cA 33 (pI .u64) y))) ([.arr 33 (fun i=>pI .u64 (p_x i)),.arr 33 (fun i=>pI .u64 (b i))]) [true,true]:=by
 unfold H7 at h;refine A3 hS Tryz.func266 ?_;refine G9 hS Mg h (fun x3 x4=>⟨[(10,pN x4),(9,.reg 0 0),(5,.reg 6000 0),(4,.reg 5000 0),(3,.reg 4000 0)],[(6000,.arr 33 (fun i=>pI .u64 (x3 i))),(5000,.arr 33 (fun i=>pI .u64 ((fun _=>0) i))),(4000,.cells [.reg 1 0]),(1,.arr 33 (fun i=>pI .u64 (b i))),(0,.arr 33 (fun i=>pI .u64 (p_x i)))]⟩) (ids:=[(0,0),(1,1),(4000,4000),(5000,5000),(6000,6000)]) (fun _ _ _ _ _ d x3 x4 f h=>?_) (hle:=klR [(1,.fn 33 33 (fun i=>[(fun i=>(List.replicate 33 (pI .u64 0)).getD i default) i]) (fun i=>[pI .u64 ((fun _=>0) i)])),(2,.fn 33 33 (fun i=>[(fun i=>(List.replicate 33 (pI .u64 0)).getD i default) i]) (fun i=>[pI .u64 ((fun _=>0) i)]))] (al1 ⟨rfl,AP (z:=pI .u64 0) rfl⟩ (al1 ⟨rfl,AP (z:=pI .u64 0) rfl⟩ al0)));apply kI hS h<;>intro h
 .refine X1 hS Mg [(2,.l [0]),(3,.l [0]),(4,.a [7000]),(5,.a [7000])] ?_;obtain⟨c12,h⟩:=E2 h;refine O5 c12 ?_;refine I1 hS Mg 16 7000 [pI .i64 x4] ?_;refine kC hS h (Dr hS hL) (fun y3 h=>?_);obtain⟨L3,e6,h⟩:=B5 h;refine Ex hS Mg [18000] [10,9,6,5,4,3] 905 (fun z3=>⟨[(10,pN x4),(9,.reg 0 0),(6,.p (.ptr [pI .i64 x4])),(5,.reg 6000 0),(4,.reg 5000 0),(3,.reg 4000 0)],[(6000,.arr 33 (fun i=>pI .u64 (z3 i))),(5000,.arr 33 (fun i=>pI .u64 ((fun _=>0) i))),(4000,.cells [.reg 1 0]),(1,.arr 33 (fun i=>pI .u64 (b i))),(0,.arr 33 (fun i=>pI .u64 (p_x i)))]⟩) (idl:=[(0,0),(1,1),(4000,4000),(5000,5000),(6000,6000)]) h (BM hS hL e6) (fun _=>by kernel_rfl) (fun _=>by kernel_rfl) (fun _=>by kernel_rfl) (fun _=>by kernel_rfl) (fun x7 _ g z3 j h=>?_) (fun z3 h=>?_)
  .refine HH hS Mg ?_;refine X1 hS Mg [(0,.n),(1,.l [6000]),(2,.l [6000]),(3,.l [4000]),(6,.l [1]),(7,.l [1]),(9,.l [6000]),(10,.a [6000])] ?_;obtain⟨c15,h⟩:=E2 h;refine O5 c15 ?_;exact j _ [(0,0),(1,1),(905,905),(4000,4000),(5000,5000),(6000,6000)] _ (JU z3 (0+x4.toNat*1) (E7 .or .u64 (z3 (0+x4.toNat*1)) (b (0+x7.toNat*1)))) Mg h (hle:=klR [(0,.fn 33 33 (fun i=>[(fun i=>if i=(0+x4.toNat*1)then (pI .u64 (E7 .or .u64 (z3 (0+x4.toNat*1)) (b (0+x7.toNat*1))))else (fun i=>pI .u64 (z3 i)) i) i]) (fun i=>[pI .u64 (JU z3 (0+x4.toNat*1) (E7 .or .u64 (z3 (0+x4.toNat*1)) (b (0+x7.toNat*1))) i)]))] (al1 ⟨rfl,Ac1 (c:=pI .u64) (v:=z3) (x:=E7 .or .u64 (z3 (0+x4.toNat*1)) (b (0+x7.toNat*1))) (fun _ _=>rfl) rfl⟩ al0))
  exact f _ [(0,0),(1,1),(4000,4000),(5000,5000),(6000,6000)] _ z3 (wrap .i64 (x4+1)) Mg h
 obtain rfl:=B7 h;exact A7 hS (And.intro rfl (E6 _ _):(0:Nat)=0/\(AI 33 (fun i=>pI .u64 (x3 i))).length=33) ⟨[(4,.reg 5000 0)],[(5000,.arr 33 (fun i=>pI .u64 (x3 i))),(1,.arr 33 (fun i=>pI .u64 (b i))),(0,.arr 33 (fun i=>pI .u64 (p_x i)))]⟩ [0,1] (ids:=[(0,0),(1,1),(5000,5000)]) ⟨rfl,rfl,rfl⟩ (hle:=klR [(0,.fn 33 33 (fun i=>[(fun i=>(cA 33 (pI .u64) x3).getD i default) i]) (fun i=>[pI .u64 (x3 i)]))] (al1 ⟨rfl,D2 33 (fun i=>pI .u64 (x3 i))⟩ al0))
def P2 (N:Nat)(p_x:Nat->Int):Option (Nat->Int):= Bq N (fun a (x3:Nat->Int) (x4:Int)=>if (decide (x4<33)) then if (((0:Int)<=x4/\x4<33)/\(0+x4.toNat*1)<33)then (Ad N (p_x (0+x4.toNat*1))).bind fun y3=>(S2 N y3).bind fun L3=>Z2 L3 (fun b (x7:Int) (z3:Nat->Int)=>if (((((((0:Int)<=x4/\x4<33)/\(0+x4.toNat*1)<33)/\((0:Int)<=x7/\x7<33))/\(0+x7.toNat*1)<33)/\((0:Int)<=x4/\x4<33))/\(0+x4.toNat*1)<33)then b (JU z3 (0+x4.toNat*1) (E7 .or .u64 (z3 (0+x4.toNat*1)) (p_x (0+x7.toNat*1)))) else none) (fun (z3:Nat->Int)=>a z3 (wrap .i64 (x4+1))) x3 else none else some x3) (fun _=>0) 0
theorem BB {p_x:Nat->Int}{y:Nat->Int}(h:P2 N p_x=some y) :FunO S Y7 [.reg 0 0,.reg 0 0] [.arr 33 (fun i=>pI .u64 (p_x i))] (.p (.agg (cA 33 (pI .u64) y))) ([.arr 33 (fun i=>pI .u64 (p_x i))]) [true]:=by
 unfold P2 at h;refine A3 hS Tryz.func266 ?_;refine G9 hS Mg h (fun x3 x4=>⟨[(10,pN x4),(9,.reg 0 0),(5,.reg 6000 0),(4,.reg 5000 0),(3,.reg 4000 0)],[(6000,.arr 33 (fun i=>pI .u64 (x3 i))),(5000,.arr 33 (fun i=>pI .u64 ((fun _=>0) i))),(4000,.cells [.reg 0 0]),(0,.arr 33 (fun i=>pI .u64 (p_x i)))]⟩) (ids:=[(0,0),(4000,4000),(5000,5000),(6000,6000)]) (fun _ _ _ _ _ b x3 x4 d h=>?_) (hle:=klR [(1,.fn 33 33 (fun i=>[(fun i=>(List.replicate 33 (pI .u64 0)).getD i default) i]) (fun i=>[pI .u64 ((fun _=>0) i)])),(2,.fn 33 33 (fun i=>[(fun i=>(List.replicate 33 (pI .u64 0)).getD i default) i]) (fun i=>[pI .u64 ((fun _=>0) i)]))] (al1 ⟨rfl,AP (z:=pI .u64 0) rfl⟩ (al1 ⟨rfl,AP (z:=pI .u64 0) rfl⟩ al0)));apply kI hS h<;>intro h
 .refine X1 hS Mg [(2,.l [0]),(3,.l [0]),(4,.a [7000]),(5,.a [7000])] ?_;obtain⟨c12,h⟩:=E2 h;refine O5 c12 ?_;refine I1 hS Mg 16 7000 [pI .i64 x4] ?_;refine kC hS h (Dr hS hL) (fun y3 h=>?_);obtain⟨L3,e6,h⟩:=B5 h;refine Ex hS Mg [18000] [10,9,6,5,4,3] 905 (fun z3=>⟨[(10,pN x4),(9,.reg 0 0),(6,.p (.ptr [pI .i64 x4])),(5,.reg 6000 0),(4,.reg 5000 0),(3,.reg 4000 0)],[(6000,.arr 33 (fun i=>pI .u64 (z3 i))),(5000,.arr 33 (fun i=>pI .u64 ((fun _=>0) i))),(4000,.cells [.reg 0 0]),(0,.arr 33 (fun i=>pI .u64 (p_x i)))]⟩) (idl:=[(0,0),(4000,4000),(5000,5000),(6000,6000)]) h (BM hS hL e6) (fun _=>by kernel_rfl) (fun _=>by kernel_rfl) (fun _=>by kernel_rfl) (fun _=>by kernel_rfl) (fun x7 _ f z3 g h=>?_) (fun z3 h=>?_)
  .refine HH hS Mg ?_;refine X1 hS Mg [(0,.n),(1,.l [6000]),(2,.l [6000]),(3,.l [4000]),(6,.l [0]),(7,.l [0]),(9,.l [6000]),(10,.a [6000])] ?_;obtain⟨c15,h⟩:=E2 h;refine O5 c15 ?_;exact g _ [(0,0),(905,905),(4000,4000),(5000,5000),(6000,6000)] _ (JU z3 (0+x4.toNat*1) (E7 .or .u64 (z3 (0+x4.toNat*1)) (p_x (0+x7.toNat*1)))) Mg h (hle:=klR [(0,.fn 33 33 (fun i=>[(fun i=>if i=(0+x4.toNat*1)then (pI .u64 (E7 .or .u64 (z3 (0+x4.toNat*1)) (p_x (0+x7.toNat*1))))else (fun i=>pI .u64 (z3 i)) i) i]) (fun i=>[pI .u64 (JU z3 (0+x4.toNat*1) (E7 .or .u64 (z3 (0+x4.toNat*1)) (p_x (0+x7.toNat*1))) i)]))] (al1 ⟨rfl,Ac1 (c:=pI .u64) (v:=z3) (x:=E7 .or .u64 (z3 (0+x4.toNat*1)) (p_x (0+x7.toNat*1))) (fun _ _=>rfl) rfl⟩ al0))
  exact d _ [(0,0),(4000,4000),(5000,5000),(6000,6000)] _ z3 (wrap .i64 (x4+1)) Mg h
 obtain rfl:=B7 h;exact A7 hS (And.intro rfl (E6 _ _):(0:Nat)=0/\(AI 33 (fun i=>pI .u64 (x3 i))).length=33) ⟨[(4,.reg 5000 0)],[(5000,.arr 33 (fun i=>pI .u64 (x3 i))),(0,.arr 33 (fun i=>pI .u64 (p_x i)))]⟩ [0] (ids:=[(0,0),(5000,5000)]) ⟨rfl,rfl,rfl⟩ (hle:=klR [(0,.fn 33 33 (fun i=>[(fun i=>(cA 33 (pI .u64) x3).getD i default) i]) (fun i=>[pI .u64 (x3 i)]))] (al1 ⟨rfl,D2 33 (fun i=>pI .u64 (x3 i))⟩ al0))
def J2 (N:Nat)(p_x:Nat->Int)(b:Int)(c:Int):Option (Nat->Int):= (V2 N c).bind fun y1=>Yj N (fun a (x1:Int) (x2:Nat->Int) (x3:Nat->Int)=>if (decide (0<x1)) then if ((E7 .and .i64 x1 1)==1) then (H7 N x3 x2).bind fun y8=>(P2 N x2).bind fun y9=>a (shI .shr .i64 x1 1) y9 y8 else (P2 N x2).bind fun d=>a (shI .shr .i64 x1 1) d x3 else some x3) b p_x y1
theorem V4 {p_x:Nat->Int}{b:Int}{c:Int}{y:Nat->Int}(h:J2 N p_x b c=some y) :FunO S Bz [.p (.agg (cA 33 (pI .u64) p_x)),pN b,pN c] [] (.p (.agg (cA 33 (pI .u64) y))) ([]) []:=by
 unfold J2 at h;refine A3 hS Tryz.func259 ?_;refine kC hS h (CM hS hL) (fun y1 h=>?_);refine Kk hS (And.intro rfl (E6 _ _):(0:Nat)=0/\(AI 33 (fun i=>pI .u64 (y1 i))).length=33) h (fun x1 x2 x3=>⟨[(7,.reg 8000 0),(6,.reg 7000 0),(3,.reg 4000 0),(1,pN x1)],[(8000,.arr 33 (fun i=>pI .u64 (x3 i))),(7000,.arr 33 (fun i=>pI .u64 ((fun _=>0) i))),(4000,.arr 33 (fun i=>pI .u64 (x2 i)))]⟩) (ids:=[(4000,4000),(7000,7000),(8000,8000)]) (fun _ _ _ _ _ f x1 x2 x3 d h=>?_) (hle:=klR [(1,.fn 33 33 (fun i=>[(fun i=>(cA 33 (pI .u64) y1).getD i default) i]) (fun i=>[pI .u64 (y1 i)])),(2,.fn 33 33 (fun i=>[(fun i=>(List.replicate 33 (pI .u64 0)).getD i default) i]) (fun i=>[pI .u64 ((fun _=>0) i)])),(3,.fn 33 33 (fun i=>[(fun i=>(cA 33 (pI .u64) p_x).getD i default) i]) (fun i=>[pI .u64 (p_x i)]))] (al1 ⟨rfl,D2 33 (fun i=>pI .u64 (y1 i))⟩ (al1 ⟨rfl,AP (z:=pI .u64 0) rfl⟩ (al1 ⟨rfl,D2 33 (fun i=>pI .u64 (p_x i))⟩ al0))));apply kI hS h<;>intro h
 .apply kI hS h<;>intro h
  .obtain⟨y8,e8,h⟩:=B5 h;refine B4 hS [8000,4000] Mg (Q0 hS hL e8) ?_;obtain⟨y9,e9,h⟩:=B5 h;refine B4 hS [4000] (And.intro rfl (E6 _ _):(0:Nat)=0/\(AI 33 (fun i=>pI .u64 (y8 i))).length=33) (BB hS hL e9) ?_;exact d _ [(4000,4000),(7000,7000),(8000,8000)] _ (shI .shr .i64 x1 1) y9 y8 (And.intro (And.intro rfl (E6 _ _):(0:Nat)=0/\(AI 33 (fun i=>pI .u64 (y9 i))).length=33) (by decide:(0:Int)<=1)) h (hle:=klR [(1,.fn 33 33 (fun i=>[(fun i=>(cA 33 (pI .u64) y8).getD i default) i]) (fun i=>[pI .u64 (y8 i)])),(3,.fn 33 33 (fun i=>[(fun i=>(cA 33 (pI .u64) y9).getD i default) i]) (fun i=>[pI .u64 (y9 i)]))] (al1 ⟨rfl,D2 33 (fun i=>pI .u64 (y8 i))⟩ (al1 ⟨rfl,D2 33 (fun i=>pI .u64 (y9 i))⟩ al0)))
  obtain⟨a,e10,h⟩:=B5 h;refine B4 hS [4000] Mg (BB hS hL e10) ?_;exact d _ [(4000,4000),(7000,7000),(8000,8000)] _ (shI .shr .i64 x1 1) a x3 (And.intro (And.intro rfl (E6 _ _):(0:Nat)=0/\(AI 33 (fun i=>pI .u64 (a i))).length=33) (by decide:(0:Int)<=1)) h (hle:=klR [(3,.fn 33 33 (fun i=>[(fun i=>(cA 33 (pI .u64) a).getD i default) i]) (fun i=>[pI .u64 (a i)]))] (al1 ⟨rfl,D2 33 (fun i=>pI .u64 (a i))⟩ al0))
 obtain rfl:=B7 h;exact A7 hS (And.intro rfl (E6 _ _):(0:Nat)=0/\(AI 33 (fun i=>pI .u64 (x3 i))).length=33) ⟨[(6,.reg 7000 0)],[(7000,.arr 33 (fun i=>pI .u64 (x3 i)))]⟩ [] (ids:=[(7000,7000)]) ⟨rfl,rfl,rfl⟩ (hle:=klR [(0,.fn 33 33 (fun i=>[(fun i=>(cA 33 (pI .u64) x3).getD i default) i]) (fun i=>[pI .u64 (x3 i)]))] (al1 ⟨rfl,D2 33 (fun i=>pI .u64 (x3 i))⟩ al0))
end Go.AM
namespace Go.AM
variable {N:Nat}
open IntKind (wrap)
open Go.Proofs
set_option maxRecDepth 10000
set_option maxHeartbeats 2000000
variable {S:Q7}(hS:F4 S Tryz.prog) (hL:Ig S)
include hS hL
def CN (N:Nat)(p_x:XY)(b:Sl Mh):Option (Nat->Int):= Bq N (fun a (x1:Nat->Int) (x2:Int)=>if (decide (x2<(b.n:Int))) then if ((0:Int)<=x2/\x2<(b.n:Int))then if ((((E7 .or .u32 (E7 .andNot .u32 p_x.is.Plus (b.g x2.toNat).Plus) (E7 .andNot .u32 p_x.is.Minus (b.g x2.toNat).Minus))==0)==p_x.not) != true) then if (((0:Int)<=(wrap .i64 (x2+1))/\((0:Int)<=x2/\x2<33))/\(0+x2.toNat*1)<33)then a (JU x1 (0+x2.toNat*1) (shI .shl .u64 1 (wrap .i64 (x2+1)))) (wrap .i64 (x2+1)) else none else a x1 (wrap .i64 (x2+1)) else none else some x1) (fun _=>0) 0
theorem LF {p_x:XY}{a:Sl Mh}{y:Nat->Int}(h:CN N p_x a=some y) :FunO S CL [.p (.agg (Uv p_x)),.p (vSl 2 A0 a)] [] (.p (.agg (cA 33 (pI .u64) y))) ([]) []:=by
 unfold CN at h;refine A3 hS Tryz.func260 ?_;refine G9 hS Mg h (fun x1 x2=>⟨[(9,pN x2),(8,pN (a.n:Int)),(7,.p (vSl 2 A0 a)),(4,.reg 5000 0),(2,.reg 3000 0)],[(5000,.arr 33 (fun i=>pI .u64 (x1 i))),(3000,.cells ((Uv p_x).map .p))]⟩) (ids:=[(3000,3000),(5000,5000)]) (fun _ _ _ _ _ f x1 x2 d h=>?_) (hle:=klR [(3,.fn 33 33 (fun i=>[(fun i=>(List.replicate 33 (pI .u64 0)).getD i default) i]) (fun i=>[pI .u64 ((fun _=>0) i)]))] (al1 ⟨rfl,AP (z:=pI .u64 0) rfl⟩ al0));apply kI hS h<;>intro h
 .obtain⟨c8,h⟩:=E2 h;refine D1 hS (And.intro c8 (by decide:(2:Nat)<=2)) (b:=(((E7 .or .u32 (E7 .andNot .u32 p_x.is.Plus (a.g x2.toNat).Plus) (E7 .andNot .u32 p_x.is.Minus (a.g x2.toNat).Minus))==0)==p_x.not) != true) (fun c9=>?_) (fun c9=>?_)
  .replace h:=itT c9 h;obtain⟨c10,h⟩:=E2 h;exact d _ [(3000,3000),(5000,5000)] _ (JU x1 (0+x2.toNat*1) (shI .shl .u64 1 (wrap .i64 (x2+1)))) (wrap .i64 (x2+1)) c10 h (hle:=klR [(3,.fn 33 33 (fun i=>[(fun i=>if i=(0+x2.toNat*1)then (pI .u64 (shI .shl .u64 1 (wrap .i64 (x2+1))))else (fun i=>pI .u64 (x1 i)) i) i]) (fun i=>[pI .u64 (JU x1 (0+x2.toNat*1) (shI .shl .u64 1 (wrap .i64 (x2+1))) i)]))] (al1 ⟨rfl,Ac1 (c:=pI .u64) (v:=x1) (x:=shI .shl .u64 1 (wrap .i64 (x2+1))) (fun _ _=>rfl) rfl⟩ al0))
  replace h:=itF c9 h;exact d _ [(3000,3000),(5000,5000)] _ x1 (wrap .i64 (x2+1)) Mg h
 obtain rfl:=B7 h;exact A7 hS (And.intro rfl (E6 _ _):(0:Nat)=0/\(AI 33 (fun i=>pI .u64 (x1 i))).length=33) ⟨[(4,.reg 5000 0)],[(5000,.arr 33 (fun i=>pI .u64 (x1 i)))]⟩ [] (ids:=[(5000,5000)]) ⟨rfl,rfl,rfl⟩ (hle:=klR [(0,.fn 33 33 (fun i=>[(fun i=>(cA 33 (pI .u64) x1).getD i default) i]) (fun i=>[pI .u64 (x1 i)]))] (al1 ⟨rfl,D2 33 (fun i=>pI .u64 (x1 i))⟩ al0))
def Ds (N:Nat)(p_x:Aj8)(a:Sl Mh):Option (Nat->Int):= if p_x.end_ then if (((0:Int)<=(a.n:Int)/\((0:Int)<=(a.n:Int)/\(a.n:Int)<33))/\(0+(a.n:Int).toNat*1)<33)then some (JU (fun _=>0) (0+(a.n:Int).toNat*1) (shI .shl .u64 1 (a.n:Int))) else none else if (((0:Int)<=0/\(0:Int)<33)/\(0+0*1)<33)then some (JU (fun _=>0) (0+0*1) (shI .shl .u64 1 0)) else none
theorem Mz {p_x:Aj8}{a:Sl Mh}{y:Nat->Int}(h:Ds N p_x a=some y) :FunO S Dp [.p (.agg (Aj9 p_x)),.p (vSl 2 A0 a)] [] (.p (.agg (cA 33 (pI .u64) y))) ([]) []:=by
 unfold Ds at h;refine A3 hS Tryz.func261 ?_;apply kI hS h<;>intro h
 .obtain⟨c2,h⟩:=E2 h;obtain rfl:=B7 h;exact A7 hS (And.intro (And.intro (And.intro c2.1.1 c2.1.2) c2.2) (And.intro rfl (E6 _ _):(0:Nat)=0/\(AI 33 (fun i=>if i=(0+(a.n:Int).toNat*1)then (pI .u64 (shI .shl .u64 1 (a.n:Int)))else (fun i=>(List.replicate 33 (pI .u64 0)).getD i default) i)).length=33)) ⟨[(4,.reg 5000 0)],[(5000,.arr 33 (fun i=>pI .u64 (JU (fun _=>0) (0+(a.n:Int).toNat*1) (shI .shl .u64 1 (a.n:Int)) i)))]⟩ [] (ids:=[(5000,5000)]) ⟨rfl,rfl,rfl⟩ (hle:=klR [(0,.fn 33 33 (fun i=>[(fun i=>(AI 33 (fun i=>if i=(0+(a.n:Int).toNat*1)then (pI .u64 (shI .shl .u64 1 (a.n:Int)))else (fun i=>(List.replicate 33 (pI .u64 0)).getD i default) i)).getD i default) i]) (fun i=>[pI .u64 (JU (fun _=>0) (0+(a.n:Int).toNat*1) (shI .shl .u64 1 (a.n:Int)) i)]))] (al1 ⟨rfl,fun i b=>(D2 33 (fun i=>if i=(0+(a.n:Int).toNat*1)then (pI .u64 (shI .shl .u64 1 (a.n:Int)))else (fun i=>(List.replicate 33 (pI .u64 0)).getD i default) i) i b).trans (Ac1 (c:=pI .u64) (v:=fun _=>0) (x:=shI .shl .u64 1 (a.n:Int)) (AP (z:=pI .u64 0) rfl) rfl i b)⟩ al0))
 obtain⟨c3,h⟩:=E2 h;obtain rfl:=B7 h;exact A7 hS (And.intro (And.intro (And.intro (by decide:(0:Int)<=0) c3.1) c3.2) (And.intro rfl (E6 _ _):(0:Nat)=0/\(AI 33 (fun i=>if i=(0+0*1)then (pI .u64 (shI .shl .u64 1 0))else (fun i=>(List.replicate 33 (pI .u64 0)).getD i default) i)).length=33)) ⟨[(4,.reg 5000 0)],[(5000,.arr 33 (fun i=>pI .u64 (JU (fun _=>0) (0+0*1) (shI .shl .u64 1 0) i)))]⟩ [] (ids:=[(5000,5000)]) ⟨rfl,rfl,rfl⟩ (hle:=klR [(0,.fn 33 33 (fun i=>[(fun i=>(AI 33 (fun i=>if i=(0+0*1)then (pI .u64 (shI .shl .u64 1 0))else (fun i=>(List.replicate 33 (pI .u64 0)).getD i default) i)).getD i default) i]) (fun i=>[pI .u64 (JU (fun _=>0) (0+0*1) (shI .shl .u64 1 0) i)]))] (al1 ⟨rfl,fun i b=>(D2 33 (fun i=>if i=(0+0*1)then (pI .u64 (shI .shl .u64 1 0))else (fun i=>(List.replicate 33 (pI .u64 0)).getD i default) i) i b).trans (Ac1 (c:=pI .u64) (v:=fun _=>0) (x:=shI .shl .u64 1 0) (AP (z:=pI .u64 0) rfl) rfl i b)⟩ al0))
def EH (rec:Part->(Sl Mh)->Option (Nat->Int))(N:Nat)(p_x:Pseq)(b:Sl Mh):Option (Nat->Int):= (V2 N (b.n:Int)).bind fun y1=>Bq N (fun a (x1:Nat->Int) (x2:Int)=>if (decide (x2<(p_x.l.n:Int))) then if ((0:Int)<=x2/\x2<(p_x.l.n:Int))then (rec (p_x.l.g x2.toNat) b).bind fun y6=>(H7 N x1 y6).bind fun y7=>a y7 (wrap .i64 (x2+1)) else none else some x1) y1 0
theorem Pa {rec:Part->(Sl Mh)->Option ((Nat->Int))}(b:∀{x:Part}{b0:(Sl Mh)}{y:(Nat->Int)},rec x b0=some y->Ar5 S Tryz.prog (FB x) "ablaut/pats.in" [(.p (vSl 2 A0 b0))] (.p (.agg (cA 33 (pI .u64) y)))){p_x:Pseq}{a:(Sl Mh)}{y:(Nat->Int)}(h:EH rec N p_x a=some y) :FunO S EE [(.p (.agg (As6 p_x))),(.p (vSl 2 A0 a))] [] (.p (.agg (cA 33 (pI .u64) y))) ([]) []:=by
 unfold EH at h;refine A3 hS Tryz.func267 ?_;refine kC hS h (CM hS hL) (fun y1 h=>?_);refine G9 hS (And.intro rfl (E6 _ _):(0:Nat)=0/\(AI 33 (fun i=>pI .u64 (y1 i))).length=33) h (fun x1 x2=>⟨[(15,(pN x2)),(14,(pN (p_x.l.n:Int))),(13,(.p (vSl 1 Eb p_x.l))),(5,(.reg 6000 0)),(4,(.reg 5000 0)),(1,(.p (vSl 2 A0 a)))],[(6000,(.arr 33 (fun i=>pI .u64 (x1 i)))),(5000,(.arr 33 (fun i=>pI .u64 ((fun _=>0) i))))]⟩) (ids:=[(5000,5000),(6000,6000)]) (fun _ _ _ _ _ c x1 x2 d h=>?_) (hle:=(klR [(4,.fn 33 33 (fun i=>[(fun i=>(cA 33 (pI .u64) y1).getD i default) i]) (fun i=>[pI .u64 (y1 i)])),(5,.fn 33 33 (fun i=>[(fun i=>(List.replicate 33 (pI .u64 0)).getD i default) i]) (fun i=>[pI .u64 ((fun _=>0) i)]))] (al1 ⟨rfl,(D2 33 (fun i=>pI .u64 (y1 i)))⟩ (al1 ⟨rfl,(AP (z:=pI .u64 0) rfl)⟩ al0))));apply kI hS h<;>intro h
 .obtain⟨c6,h⟩:=E2 h;obtain⟨y6,e6,h⟩:=B5 h;refine JT hS c6 (b e6) ?_;refine Cu hS (And.intro rfl (E6 _ _):(0:Nat)=0/\(AI 33 (fun i=>pI .u64 (y6 i))).length=33) ⟨[(15,(pN x2)),(14,(pN (p_x.l.n:Int))),(13,(.p (vSl 1 Eb p_x.l))),(8,(.reg 9000 0)),(5,(.reg 6000 0)),(4,(.reg 5000 0)),(1,(.p (vSl 2 A0 a)))],[(9000,(.arr 33 (fun i=>pI .u64 (y6 i)))),(6000,(.arr 33 (fun i=>pI .u64 (x1 i)))),(5000,(.arr 33 (fun i=>pI .u64 ((fun _=>0) i))))]⟩ (ids:=[(5000,5000),(6000,6000),(9000,9000)]) ?_ (hle:=(klR [(4,.fn 33 33 (fun i=>[(fun i=>(cA 33 (pI .u64) y6).getD i default) i]) (fun i=>[pI .u64 (y6 i)]))] (al1 ⟨rfl,(D2 33 (fun i=>pI .u64 (y6 i)))⟩ al0)));obtain⟨y7,e7,h⟩:=B5 h;refine B4 hS [6000,9000] Mg (Q0 hS hL e7) ?_;exact d _ [(5000,5000),(6000,6000)] _ y7 (wrap .i64 (x2+1)) (And.intro rfl (E6 _ _):(0:Nat)=0/\(AI 33 (fun i=>pI .u64 (y7 i))).length=33) h (hle:=klR [(4,.fn 33 33 (fun i=>[(fun i=>(cA 33 (pI .u64) y7).getD i default) i]) (fun i=>[pI .u64 (y7 i)]))] (al1 ⟨rfl,(D2 33 (fun i=>pI .u64 (y7 i)))⟩ al0))
 obtain rfl:=B7 h;exact A7 hS (And.intro rfl (E6 _ _):(0:Nat)=0/\(AI 33 (fun i=>pI .u64 (x1 i))).length=33) ⟨[(4,(.reg 5000 0))],[(5000,(.arr 33 (fun i=>pI .u64 (x1 i))))]⟩ [] (ids:=[(5000,5000)]) ⟨rfl,rfl,rfl⟩ (hle:=(klR [(0,.fn 33 33 (fun i=>[(fun i=>(cA 33 (pI .u64) x1).getD i default) i]) (fun i=>[pI .u64 (x1 i)]))] (al1 ⟨rfl,(D2 33 (fun i=>pI .u64 (x1 i)))⟩ al0)))
def EI (rec:Part->(Sl Mh)->Option (Nat->Int))(N:Nat)(p_x:Palt)(b:Sl Mh):Option (Nat->Int):= Bq N (fun a (x1:Nat->Int) (x2:Int)=>if (decide (x2<(p_x.l.n:Int))) then if ((0:Int)<=x2/\x2<(p_x.l.n:Int))then (rec (p_x.l.g x2.toNat) b).bind fun y5=>(S8 N x1 y5).bind fun y6=>a y6 (wrap .i64 (x2+1)) else none else some x1) (fun _=>0) 0
theorem Pb {rec:Part->(Sl Mh)->Option ((Nat->Int))}(b:∀{x:Part}{b0:(Sl Mh)}{y:(Nat->Int)},rec x b0=some y->Ar5 S Tryz.prog (FB x) "ablaut/pats.in" [(.p (vSl 2 A0 b0))] (.p (.agg (cA 33 (pI .u64) y)))){p_x:Palt}{a:(Sl Mh)}{y:(Nat->Int)}(h:EI rec N p_x a=some y) :FunO S EC [(.p (.agg (As4 p_x))),(.p (vSl 2 A0 a))] [] (.p (.agg (cA 33 (pI .u64) y))) ([]) []:=by
 unfold EI at h;refine A3 hS Tryz.func262 ?_;refine G9 hS Mg h (fun x1 x2=>⟨[(11,(pN x2)),(10,(pN (p_x.l.n:Int))),(9,(.p (vSl 1 Eb p_x.l))),(4,(.reg 5000 0)),(1,(.p (vSl 2 A0 a)))],[(5000,(.arr 33 (fun i=>pI .u64 (x1 i))))]⟩) (ids:=[(5000,5000)]) (fun _ _ _ _ _ c x1 x2 d h=>?_) (hle:=(klR [(4,.fn 33 33 (fun i=>[(fun i=>(List.replicate 33 (pI .u64 0)).getD i default) i]) (fun i=>[pI .u64 ((fun _=>0) i)]))] (al1 ⟨rfl,(AP (z:=pI .u64 0) rfl)⟩ al0)));apply kI hS h<;>intro h
 .obtain⟨c6,h⟩:=E2 h;obtain⟨y5,e5,h⟩:=B5 h;refine JT hS c6 (b e5) ?_;refine Cu hS (And.intro rfl (E6 _ _):(0:Nat)=0/\(AI 33 (fun i=>pI .u64 (y5 i))).length=33) ⟨[(11,(pN x2)),(10,(pN (p_x.l.n:Int))),(9,(.p (vSl 1 Eb p_x.l))),(7,(.reg 8000 0)),(4,(.reg 5000 0)),(1,(.p (vSl 2 A0 a)))],[(8000,(.arr 33 (fun i=>pI .u64 (y5 i)))),(5000,(.arr 33 (fun i=>pI .u64 (x1 i))))]⟩ (ids:=[(5000,5000),(8000,8000)]) ?_ (hle:=(klR [(4,.fn 33 33 (fun i=>[(fun i=>(cA 33 (pI .u64) y5).getD i default) i]) (fun i=>[pI .u64 (y5 i)]))] (al1 ⟨rfl,(D2 33 (fun i=>pI .u64 (y5 i)))⟩ al0)));obtain⟨y6,e6,h⟩:=B5 h;refine B4 hS [5000,8000] Mg (De hS hL e6) ?_;exact d _ [(5000,5000)] _ y6 (wrap .i64 (x2+1)) Mg h
 obtain rfl:=B7 h;exact A7 hS (And.intro rfl (E6 _ _):(0:Nat)=0/\(AI 33 (fun i=>pI .u64 (x1 i))).length=33) ⟨[(4,(.reg 5000 0))],[(5000,(.arr 33 (fun i=>pI .u64 (x1 i))))]⟩ [] (ids:=[(5000,5000)]) ⟨rfl,rfl,rfl⟩ (hle:=(klR [(0,.fn 33 33 (fun i=>[(fun i=>(cA 33 (pI .u64) x1).getD i default) i]) (fun i=>[pI .u64 (x1 i)]))] (al1 ⟨rfl,(D2 33 (fun i=>pI .u64 (x1 i)))⟩ al0)))
def EJ (rec:Part->(Sl Mh)->Option (Nat->Int))(N:Nat)(p_x:Prep)(a:Sl Mh):Option (Nat->Int):= (rec p_x.of a).bind fun y1=>(J2 N y1 p_x.min (a.n:Int)).bind fun y2=>(V2 N (a.n:Int)).bind fun y3=>(S8 N y1 y3).bind fun y4=>if (decide (p_x.max<0)) then (J2 N y4 (a.n:Int) (a.n:Int)).bind fun y5=>(H7 N y2 y5).bind fun y6=>some y6 else (J2 N y4 (wrap .i64 (p_x.max-p_x.min)) (a.n:Int)).bind fun y7=>(H7 N y2 y7).bind fun y8=>some y8
theorem Pc {rec:Part->(Sl Mh)->Option ((Nat->Int))}(b:∀{x:Part}{b0:(Sl Mh)}{y:(Nat->Int)},rec x b0=some y->Ar5 S Tryz.prog (FB x) "ablaut/pats.in" [(.p (vSl 2 A0 b0))] (.p (.agg (cA 33 (pI .u64) y)))){p_x:Prep}{a:(Sl Mh)}{y:(Nat->Int)}(h:EJ rec N p_x a=some y) :FunO S ED [(.p (.agg (As5 p_x))),(.p (vSl 2 A0 a))] [] (.p (.agg (cA 33 (pI .u64) y))) ([]) []:=by
 unfold EJ at h;refine A3 hS Tryz.func264 ?_;obtain⟨y1,e1,h⟩:=B5 h;refine JT hS Mg (b e1) ?_;refine Cu hS (And.intro rfl (E6 _ _):(0:Nat)=0/\(AI 33 (fun i=>pI .u64 (y1 i))).length=33) ⟨[(18,(pN (a.n:Int))),(16,(pN p_x.min)),(14,(.p (.agg (cA 33 (pI .u64) y1)))),(5,(.reg 6000 0)),(4,(.reg 5000 0)),(2,(.reg 3000 0)),(1,(.p (vSl 2 A0 a)))],[(6000,(.arr 33 (fun i=>pI .u64 (y1 i)))),(5000,(.arr 33 (fun i=>pI .u64 ((fun _=>0) i)))),(3000,(.cells [(.p (FB p_x.of)),(pN p_x.min),(pN p_x.max)]))]⟩ (ids:=[(3000,3000),(5000,5000),(6000,6000)]) ?_ (hle:=(klR [(2,.eq (.agg (AI 33 (fun i=>(cA 33 (pI .u64) y1).getD i default))) (.agg (cA 33 (pI .u64) y1))),(4,.fn 33 33 (fun i=>[(fun i=>(cA 33 (pI .u64) y1).getD i default) i]) (fun i=>[pI .u64 (y1 i)])),(5,.fn 33 33 (fun i=>[(fun i=>(List.replicate 33 (pI .u64 0)).getD i default) i]) (fun i=>[pI .u64 ((fun _=>0) i)]))] (al1 (congrArg PV.agg (VP (D2 33 (fun i=>pI .u64 (y1 i))))) (al1 ⟨rfl,(D2 33 (fun i=>pI .u64 (y1 i)))⟩ (al1 ⟨rfl,(AP (z:=pI .u64 0) rfl)⟩ al0)))));refine kC hS h (V4 hS hL) (fun y2 h=>?_);obtain⟨y3,e3,h⟩:=B5 h;refine B4 hS [] (And.intro (And.intro rfl (E6 _ _):(0:Nat)=0/\(AI 33 (fun i=>pI .u64 (y2 i))).length=33) (And.intro rfl (E6 _ _):(0:Nat)=0/\(AI 33 (fun i=>pI .u64 (y1 i))).length=33)) (CM hS hL e3) ?_;refine Cu hS (And.intro rfl (E6 _ _):(0:Nat)=0/\(AI 33 (fun i=>pI .u64 (y3 i))).length=33) ⟨[(8,(.reg 9000 0)),(7,(.reg 8000 0)),(6,(.reg 7000 0)),(4,(.reg 5000 0)),(2,(.reg 3000 0)),(1,(.p (vSl 2 A0 a)))],[(9000,(.arr 33 (fun i=>pI .u64 (y3 i)))),(8000,(.arr 33 (fun i=>pI .u64 (y1 i)))),(7000,(.arr 33 (fun i=>pI .u64 (y2 i)))),(5000,(.arr 33 (fun i=>pI .u64 ((fun _=>0) i)))),(3000,(.cells [(.p (FB p_x.of)),(pN p_x.min),(pN p_x.max)]))]⟩ (ids:=[(3000,3000),(5000,5000),(7000,7000),(8000,8000),(9000,9000)]) ?_ (hle:=(klR [(1,.fn 33 33 (fun i=>[(fun i=>(cA 33 (pI .u64) y3).getD i default) i]) (fun i=>[pI .u64 (y3 i)])),(2,.fn 33 33 (fun i=>[(fun i=>(cA 33 (pI .u64) y1).getD i default) i]) (fun i=>[pI .u64 (y1 i)])),(3,.fn 33 33 (fun i=>[(fun i=>(cA 33 (pI .u64) y2).getD i default) i]) (fun i=>[pI .u64 (y2 i)]))] (al1 ⟨rfl,(D2 33 (fun i=>pI .u64 (y3 i)))⟩ (al1 ⟨rfl,(D2 33 (fun i=>pI .u64 (y1 i)))⟩ (al1 ⟨rfl,(D2 33 (fun i=>pI .u64 (y2 i)))⟩ al0)))));obtain⟨y4,e4,h⟩:=B5 h;refine B4 hS [8000,9000] Mg (De hS hL e4) ?_;apply kI hS h<;>intro h
 .refine kC hS h (V4 hS hL) (fun y5 h=>?_);refine Cu hS (And.intro rfl (E6 _ _):(0:Nat)=0/\(AI 33 (fun i=>pI .u64 (y5 i))).length=33) ⟨[(7,(.reg 8000 0)),(6,(.reg 7000 0)),(4,(.reg 5000 0))],[(8000,(.arr 33 (fun i=>pI .u64 (y5 i)))),(7000,(.arr 33 (fun i=>pI .u64 (y2 i)))),(5000,(.arr 33 (fun i=>pI .u64 ((fun _=>0) i))))]⟩ (ids:=[(5000,5000),(7000,7000),(8000,8000)]) ?_ (hle:=(klR [(0,.fn 33 33 (fun i=>[(fun i=>(cA 33 (pI .u64) y5).getD i default) i]) (fun i=>[pI .u64 (y5 i)]))] (al1 ⟨rfl,(D2 33 (fun i=>pI .u64 (y5 i)))⟩ al0)));obtain⟨y6,e6,h⟩:=B5 h;refine B4 hS [7000,8000] Mg (Q0 hS hL e6) ?_;obtain rfl:=B7 h;exact A7 hS (And.intro rfl (E6 _ _):(0:Nat)=0/\(AI 33 (fun i=>pI .u64 (y6 i))).length=33) ⟨[(4,(.reg 5000 0))],[(5000,(.arr 33 (fun i=>pI .u64 (y6 i))))]⟩ [] (ids:=[(5000,5000)]) ⟨rfl,rfl,rfl⟩ (hle:=(klR [(0,.fn 33 33 (fun i=>[(fun i=>(cA 33 (pI .u64) y6).getD i default) i]) (fun i=>[pI .u64 (y6 i)]))] (al1 ⟨rfl,(D2 33 (fun i=>pI .u64 (y6 i)))⟩ al0)))
 refine kC hS h (V4 hS hL) (fun y7 h=>?_);refine Cu hS (And.intro rfl (E6 _ _):(0:Nat)=0/\(AI 33 (fun i=>pI .u64 (y7 i))).length=33) ⟨[(7,(.reg 8000 0)),(6,(.reg 7000 0)),(4,(.reg 5000 0))],[(8000,(.arr 33 (fun i=>pI .u64 (y7 i)))),(7000,(.arr 33 (fun i=>pI .u64 (y2 i)))),(5000,(.arr 33 (fun i=>pI .u64 ((fun _=>0) i))))]⟩ (ids:=[(5000,5000),(7000,7000),(8000,8000)]) ?_ (hle:=(klR [(0,.fn 33 33 (fun i=>[(fun i=>(cA 33 (pI .u64) y7).getD i default) i]) (fun i=>[pI .u64 (y7 i)]))] (al1 ⟨rfl,(D2 33 (fun i=>pI .u64 (y7 i)))⟩ al0)));obtain⟨y8,e8,h⟩:=B5 h;refine B4 hS [7000,8000] Mg (Q0 hS hL e8) ?_;obtain rfl:=B7 h;exact A7 hS (And.intro rfl (E6 _ _):(0:Nat)=0/\(AI 33 (fun i=>pI .u64 (y8 i))).length=33) ⟨[(4,(.reg 5000 0))],[(5000,(.arr 33 (fun i=>pI .u64 (y8 i))))]⟩ [] (ids:=[(5000,5000)]) ⟨rfl,rfl,rfl⟩ (hle:=(klR [(0,.fn 33 33 (fun i=>[(fun i=>(cA 33 (pI .u64) y8).getD i default) i]) (fun i=>[pI .u64 (y8 i)]))] (al1 ⟨rfl,(D2 33 (fun i=>pI .u64 (y8 i)))⟩ al0)))
def BN (rec:Pat->Option Part)(N:Nat)(a:Pat):Option Part:= Bq N (fun b (x1:Sl Part) (x2:Int)=>if (decide (x2<(a.L.n:Int))) then if ((0:Int)<=x2/\x2<(a.L.n:Int))then (rec (a.L.g x2.toNat)).bind fun y3=>if ((x1.n+(Sl.of [y3]:Sl Part).n)*16<=140737488355328/\x1.n+(Sl.of [y3]:Sl Part).n<=140737488355328)then b (x1.push y3) (wrap .i64 (x2+1)) else none else none else if (a.Kind==1) then some (Part.sound a.Is a.Not) else if (a.Kind==2) then some (Part.edge false) else if (a.Kind==6) then some (Part.edge true) else if (a.Kind==4) then some (Part.alt x1.n x1.g) else if (a.Kind==5) then if (((0:Int)<=0/\0<(x1.n:Int))/\0<x1.n)then some (Part.rep (x1.g 0) a.Min a.Max) else none else some (Part.seq x1.n x1.g)) (Sl.nil:Sl Part) 0
def Dt:Nat->Pat->Option Part
 |0=>fun _=>none
 |N+1=>BN (Dt N) N
theorem LG {rec:Pat->Option Part}(b:∀{a:Pat}{y:Part},rec a=some y->FunO S Bn [.p (.agg (B1 a))] [] (.p (FB y)) ([]) []){a:Pat}{y:Part}(h:BN rec N a=some y) :FunO S Bn [.p (.agg (B1 a))] [] (.p (FB y)) ([]) []:=by
 unfold BN at h;refine A3 hS Tryz.func235 ?_;refine I1 hS Mg 2 2000 (B1 a) ?_;refine H3 hS Mg 8 ⟨[(7,.p (vSl 7 B1 a.L)),(3,.p E9),(1,.p (.ptr (B1 a)))],[]⟩ (ids:=[]) ?_ (hle:=klR [(0,.fn a.L.n a.L.n (AY a) (fun i=>B1 (a.L.g i)))] (al1 ⟨rfl,R4 a⟩ al0));refine G9 hS Mg h (fun x1 x2=>⟨[(9,pN x2),(8,pN (a.L.n:Int)),(7,.p (vSl 7 B1 a.L)),(3,.vec 4500),(1,.p (.ptr (B1 a)))],[(4500,.vec SV 1 x1.n (fun i=>Eb (x1.g i)) false)]⟩) (ids:=[]) (fun _ _ _ _ _ d x1 x2 f h=>?_);apply kI hS h<;>intro h
 .obtain⟨c6,h⟩:=E2 h;refine I1 hS (And.intro c6 (by decide:(7:Nat)<=7)) 13 6000 (B1 (a.L.g x2.toNat)) ?_;obtain⟨y3,e3,h⟩:=B5 h;refine B4 hS [] (by decide:(7:Nat)<=7) (b e3) ?_;obtain⟨c7,h⟩:=E2 h;exact f _ [(4500,18000)] _ (x1.push y3) (wrap .i64 (x2+1)) (And.intro (rfl:true=true) c7) h (hle:=klR [(4,.fn (x1.n+1) (x1.push y3).n (AA x1.n (fun i=>Eb (x1.g i)) (D0 [.v .nilIface] [(0,Eb y3)])) (fun i=>Eb ((x1.push y3).g i)))] (al1 ⟨rfl,Kj (c:=Eb) (v:=x1) (x:=y3) (z:=[(.v .nilIface)]) same rfl rfl⟩ al0))
 apply kI hS h<;>intro h
 .obtain rfl:=B7 h;exact UQ hS (by decide:(2:Nat)<=6) [] ⟨rfl,rfl,rfl⟩
 apply kI hS h<;>intro h
 .cases h;exact kR hS
 apply kI hS h<;>intro h
 .cases h;exact kR hS
 apply kI hS h<;>intro h
 .refine H3 hS Mg 40 ⟨[(39,.p (vSl 1 Eb x1))],[]⟩ (ids:=[]) ?_;cases h;exact kR hS
 apply kI hS h<;>intro h
 .refine G8 hS Mg [4,6] ?_;obtain⟨c13,h⟩:=E2 h;refine O5 c13 ?_;cases h;exact kR hS
 refine H3 hS Mg 54 ⟨[(53,.p (vSl 1 Eb x1))],[]⟩ (ids:=[]) ?_;cases h;exact kR hS
theorem MA {a:Pat}{y:Part}(h:Dt N a=some y) :FunO S Bn [.p (.agg (B1 a))] [] (.p (FB y)) ([]) []:=by
 induction N generalizing a y with
 |zero=>cases (show (none:Option Part)=some y from h)
 |succ N ih=>exact LG hS hL (fun e=>ih e) h
end Go.AM
namespace Go.AM
open Go.Proofs
variable {S:Q7}(hS:F4 S Tryz.prog) (hL:Ig S)
include hS hL
def FR:Nat->Part->Sl Mh->Option (Nat->Int)
 |0=>fun _ _=>none
 |N+1=>fun p w=>match p with
  |.nil=>none
  |.sound x no=>CN N ⟨x,no⟩ w
  |.edge e=>Ds N ⟨e⟩ w
  |.seq n g=>EH (FR N) N ⟨⟨n,g⟩⟩ w
  |.alt n g=>EI (FR N) N ⟨⟨n,g⟩⟩ w
  |.rep o mn mx=>EJ (FR N) N ⟨o,mn,mx⟩ w
theorem Yd {N:Nat}{x:Part}{w:Sl Mh}{y:Nat->Int}(h:FR N x w=some y):Ar5 S Tryz.prog (FB x) "ablaut/pats.in" [(.p (vSl 2 A0 w))] (.p (.agg (cA 33 (pI .u64) y))):=by
 induction N generalizing x w y with
 |zero=>cases h
 |succ N ih=>
  cases x with
  |nil=>cases h
  |sound s no=>exact⟨_,_,CL,rfl,by kernel_rfl,LF hS hL (p_x:=⟨s,no⟩) h⟩
  |edge e=>exact⟨_,_,Dp,rfl,by kernel_rfl,Mz hS hL (N:=N) (p_x:=⟨e⟩) h⟩
  |seq n g=>exact⟨_,_,EE,rfl,by kernel_rfl,Pa hS hL (fun e=>ih e) (p_x:=⟨⟨n,g⟩⟩) h⟩
  |alt n g=>exact⟨_,_,EC,rfl,by kernel_rfl,Pb hS hL (fun e=>ih e) (p_x:=⟨⟨n,g⟩⟩) h⟩
  |rep o mn mx=>exact⟨_,_,ED,rfl,by kernel_rfl,Pc hS hL (fun e=>ih e) (p_x:=⟨o,mn,mx⟩) h⟩
end Go.AM
namespace Go.AM
variable {N:Nat}
open IntKind (wrap)
open Go.Proofs
set_option maxRecDepth 10000
set_option maxHeartbeats 2000000
variable {S:Q7}(hS:F4 S Tryz.prog) (hL:Ig S)
include hS hL
def CO (N:Nat)(a:Mh):Option Bool:= (N1 N a).bind fun y1=>some (!y1)
theorem LH {a:Mh}{y:Bool}(h:CO N a=some y) :FunO S FK [.p (.agg (A0 a))] [] (pB y) ([]) []:=by unfold CO at h;refine A3 hS Tryz.func234 ?_;refine kC hS h (Dd hS hL) (fun y1 h=>?_);cases h;exact kR hS
def C8 (N:Nat)(a:Sl Mh)(c:Mh->Option Bool):Option Int:= At N (fun b (x1:Int)=>if (decide (x1<(a.n:Int))) then if ((0:Int)<=x1/\x1<(a.n:Int))then (c (a.g x1.toNat)).bind fun y3=>if y3 then some x1 else b (wrap .i64 (x1+1)) else none else some (-1)) 0
theorem S6 {a:Sl Mh}{c:Mh->Option Bool}{kp_f:Nat}(d:∀{a0:Mh}{b:Bool},c a0=some b->FunO S kp_f [.p (.agg (A0 a0))] [] (pB b) [] []){y:Int}(h:C8 N a c=some y) :FunO S I3 [.p (vSl 2 A0 a),.clo kp_f [] []] [] (pN y) ([]) []:=by
 unfold C8 at h;refine A3 hS Tryz.func150 ?_;refine N0 hS Mg h (fun x1=>⟨[(8,pN x1),(7,pN (a.n:Int)),(1,.clo kp_f [] []),(0,.p (vSl 2 A0 a))],[]⟩) (ids:=[]) (fun _ _ _ _ _ f x1 g h=>?_);apply kI hS h<;>intro h
 .obtain⟨c8,h⟩:=E2 h;obtain⟨y3,e3,h⟩:=B5 h;refine B4 hS [] (And.intro c8 (by decide:(2:Nat)<=2)) (d e3) ?_;apply kI hS h<;>intro h
  .cases h;exact kR hS
  exact g _ [] _ (wrap .i64 (x1+1)) Mg h
 cases h;exact kR hS
def B0 (N:Nat)(a:Sl Mh)(b:Mh->Option Bool):Option Bool:= (C8 N a b).bind fun y1=>some (decide (0<=y1))
theorem H2 {a:Sl Mh}{c:Mh->Option Bool}{kp_f:Nat}(d:∀{a0:Mh}{b:Bool},c a0=some b->FunO S kp_f [.p (.agg (A0 a0))] [] (pB b) [] []){y:Bool}(h:B0 N a c=some y) :FunO S H0 [.p (vSl 2 A0 a),.clo kp_f [] []] [] (pB y) ([]) []:=by unfold B0 at h;refine A3 hS Tryz.func123 ?_;refine kC hS h (S6 hS hL (fun e=>d e)) (fun y1 h=>?_);cases h;exact kR hS
def C5 (N:Nat)(q0:Sl Pat):Option (List (Int×Pat)):= At N (fun a (x1:Int)=>if (decide (0<=x1)) then if ((0:Int)<=x1/\x1<(q0.n:Int))then Fo (x1,q0.g x1.toNat) (a (wrap .i64 (x1-1))) else none else some []) (wrap .i64 ((q0.n:Int)-1))
theorem X8 {q0:Sl Pat}{L:List (Int×Pat)}(h:C5 N q0=some L) :Er S D7 [] [.reg 0 0] [.cells [.p (vSl 7 B1 q0)]] (L.map (fun (x:Int×Pat)=>[pI .i64 x.1,(fun x=>.agg (B1 x)) x.2])):=by
 unfold C5 at h;refine Ew hS Tryz.func172 ?_;refine Fz hS Mg h (fun x1 L1=>⟨[(3,pN x1),(1,.reg 0 0),(0,.yf 1)],[(1,.yld (L1.map (fun (x:Int×Pat)=>[pI .i64 x.1,(fun x=>.agg (B1 x)) x.2])) true),(0,.cells [.p (vSl 7 B1 q0)])]⟩) (ids:=[(0,0),(1,1)]) (fun _ _ _ _ _ d x1 L1 f h=>?_);apply kI hS h<;>intro h
 .obtain⟨c10,h⟩:=E2 h;obtain⟨L4,rfl,c⟩:=La h;replace h:=c;refine CF hS (And.intro c10 (by decide:(7:Nat)<=7)) (ys:=(fun (x:Int×Pat)=>[pI .i64 x.1,(fun x=>.agg (B1 x)) x.2]) (x1,q0.g x1.toNat)) (rest:=L4.map (fun (x:Int×Pat)=>[pI .i64 x.1,(fun x=>.agg (B1 x)) x.2])) ?_ ?_
  .refine D1 hS Mg (b:=false) (fun c11=>?_) (fun c11=>?_)
   .exact Bool.noConfusion ((rfl:false=false).symm.trans c11)
   exact f _ [(0,0),(1,1)] _ (wrap .i64 (x1-1)) L4 Mg h
  refine D1 hS Mg (b:=true) (fun c12=>?_) (fun c12=>?_)
  .exact A7 hS Mg (a:=.tup []) (objs:=[(.cells [.p (vSl 7 B1 q0)]),.yld [] false]) ⟨[],[(1,.yld [] false),(0,.cells [.p (vSl 7 B1 q0)])]⟩ [0,1] (ids:=[(0,0),(1,1)]) ⟨false,rfl,rfl,_,rfl⟩
  exact Bool.noConfusion ((rfl:true=true).symm.trans c12)
 obtain rfl:=B7 h;exact A7 hS Mg (a:=.tup []) (objs:=[(.cells [.p (vSl 7 B1 q0)]),.yld [] true]) ⟨[],[(1,.yld [] true),(0,.cells [.p (vSl 7 B1 q0)])]⟩ [0,1] (ids:=[(0,0),(1,1)]) ⟨true,rfl,rfl,_,rfl⟩
def G3 (N:Nat)(a:Sl Pat):Option (Sl Pat):= some a
theorem Ae {a:Sl Pat}{y:Sl Pat}(h:G3 N a=some y) :FunO S N4 [.p (vSl 7 B1 a)] [] (.clo D7 [] [.reg 0 0]) ([.cells [.p (vSl 7 B1 y)]]) []:=by unfold G3 at h;refine A3 hS Tryz.func149 ?_;obtain rfl:=B7 h;exact A7 hS Mg ⟨[(2,.clo D7 [] [.reg 2000 0])],[(2000,.cells [.p (vSl 7 B1 a)])]⟩ [2000] (ids:=[(2000,2000)]) ⟨rfl,rfl,rfl⟩
def U0 (N:Nat)(c:Pat):Option Int:= Bq N (fun a (x3:Sl Pat) (x4:Int)=>if (decide (0<(x3.n:Int))) then if (x4==40) then some 12 else if (((0:Int)<=(wrap .i64 ((x3.n:Int)-1))/\(wrap .i64 ((x3.n:Int)-1))<(x3.n:Int))/\(wrap .i64 ((x3.n:Int)-1)).toNat<x3.n)then if ((0:Int)<=(wrap .i64 ((x3.n:Int)-1))/\(wrap .i64 ((x3.n:Int)-1))<=(x3.n:Int))then (Z3 N (x3.g (wrap .i64 ((x3.n:Int)-1)).toNat)).bind fun y5=>if (y5 != 0) then some y5 else if ((0:Int)<=(if 41<((x3.g (wrap .i64 ((x3.n:Int)-1)).toNat).L.n:Int)then 41 else ((x3.g (wrap .i64 ((x3.n:Int)-1)).toNat).L.n:Int))/\(if 41<((x3.g (wrap .i64 ((x3.n:Int)-1)).toNat).L.n:Int)then 41 else ((x3.g (wrap .i64 ((x3.n:Int)-1)).toNat).L.n:Int))<=((x3.g (wrap .i64 ((x3.n:Int)-1)).toNat).L.n:Int))then (G3 N ((x3.g (wrap .i64 ((x3.n:Int)-1)).toNat).L.take (if 41<((x3.g (wrap .i64 ((x3.n:Int)-1)).toNat).L.n:Int)then 41 else ((x3.g (wrap .i64 ((x3.n:Int)-1)).toNat).L.n:Int)).toNat)).bind fun y6=>(C5 N y6).bind fun L3=>Z2 L3 (fun b (x7:Int×Pat) (z3:Sl Pat)=>if ((((z3.n+(Sl.of [Pat.nil]:Sl Pat).n)*64<=140737488355328/\z3.n+(Sl.of [Pat.nil]:Sl Pat).n<=140737488355328)/\((0:Int)<=(z3.n:Int)/\(z3.n:Int)<((z3.push Pat.nil).n:Int)))/\(z3.n:Int).toNat<(z3.push Pat.nil).n)then b ((z3.push Pat.nil).upd (z3.n:Int).toNat x7.2) else none) (fun (z3:Sl Pat)=>a z3 (wrap .i64 (x4+1))) (x3.take (wrap .i64 ((x3.n:Int)-1)).toNat) else none else none else none else some 0) (Sl.of [c]:Sl Pat) 0
theorem FS {b:Pat}{y:Int}(h:U0 N b=some y) :FunO S Jp [.p (.agg (B1 b))] [] (pN y) ([]) []:=by
 unfold U0 at h;refine A3 hS Tryz.func122 ?_;refine I1 hS Mg 2 2000 (B1 b) ?_;refine G9 hS (And.intro (by decide:(7:Nat)<=7) (rfl:true=true)) h (fun x3 x4=>⟨[(4,pN x4),(3,.reg 4000 0)],[(4501,.vec DO 7 x3.n (fun i=>B1 (x3.g i)) false),(4000,.cells [.vec 4501])]⟩) (ids:=[(4000,4000),(4501,12000)]) (fun _ _ _ _ _ d x3 x4 j h=>?_) (hle:=klR [(1,.fn 1 (Sl.of [b]:Sl Pat).n (D0 [pI .i64 0,pI .u32 0,pI .u32 0,.v (.bool false),pI .i64 0,pI .i64 0,E9] [(0,B1 b)]) (fun i=>B1 ((Sl.of [b]:Sl Pat).g i)))] (al1 ⟨rfl,(fun i m=>match i,m with|0,_=>rfl|_+1,m=>Lq m (by omega))⟩ al0));apply kI hS h<;>intro h
 .apply kI hS h<;>intro h
  .cases h;exact kR hS
  obtain⟨c21,h⟩:=E2 h;refine I1 hS (And.intro (And.intro c21.1 (by decide:(7:Nat)<=7)) c21.2) 25 6000 (B1 (x3.g (wrap .i64 ((x3.n:Int)-1)).toNat)) ?_;obtain⟨c22,h⟩:=E2 h;refine Ar6 hS c22 30 4501 (wrap .i64 ((x3.n:Int)-1)).toNat 4508 (e:=DO) (k:=7) (N:=x3.n) (f:=fun i=>B1 (x3.g i)) (by have r:=c22;omega) ?_;obtain⟨y5,e7,h⟩:=B5 h;refine B4 hS [] (by decide:(7:Nat)<=7) (My hS hL e7) ?_;apply kI hS h<;>intro h
  .cases h;exact kR hS
  refine H3 hS Mg 39 ⟨[(38,.p (vSl 7 B1 (x3.g (wrap .i64 ((x3.n:Int)-1)).toNat).L)),(36,.p (vSl 7 B1 (x3.g (wrap .i64 ((x3.n:Int)-1)).toNat).L)),(4,pN x4),(3,.reg 4000 0)],[(4508,.vec DO 7 (x3.take (wrap .i64 ((x3.n:Int)-1)).toNat).n (fun i=>B1 ((x3.take (wrap .i64 ((x3.n:Int)-1)).toNat).g i)) false),(4000,.cells [.vec 4508])]⟩ (ids:=[(4000,4000),(4508,4508)]) ?_ (hle:=klR [(0,.fn (x3.g (wrap .i64 ((x3.n:Int)-1)).toNat).L.n (x3.g (wrap .i64 ((x3.n:Int)-1)).toNat).L.n (AY (x3.g (wrap .i64 ((x3.n:Int)-1)).toNat)) (fun i=>B1 ((x3.g (wrap .i64 ((x3.n:Int)-1)).toNat).L.g i))),(1,.fn (x3.g (wrap .i64 ((x3.n:Int)-1)).toNat).L.n (x3.g (wrap .i64 ((x3.n:Int)-1)).toNat).L.n (AY (x3.g (wrap .i64 ((x3.n:Int)-1)).toNat)) (fun i=>B1 ((x3.g (wrap .i64 ((x3.n:Int)-1)).toNat).L.g i)))] (al1 ⟨rfl,R4 (x3.g (wrap .i64 ((x3.n:Int)-1)).toNat)⟩ (al1 ⟨rfl,R4 (x3.g (wrap .i64 ((x3.n:Int)-1)).toNat)⟩ al0)));obtain⟨c24,h⟩:=E2 h;obtain⟨y6,e8,h⟩:=B5 h;refine B4 hS [] c24 (Ae hS hL e8) ?_;obtain⟨L3,e9,h⟩:=B5 h;refine Ex hS Mg [44000] [4,3] 905 (fun z3=>⟨[(4,pN x4),(3,.reg 4000 0)],[(4500,.vec DO 7 z3.n (fun i=>B1 (z3.g i)) false),(4000,.cells [.vec 4500])]⟩) (idl:=[(4000,4000),(4500,4508)]) h (X8 hS hL e9) (fun _=>by kernel_rfl) (fun _=>by kernel_rfl) (fun _=>by kernel_rfl) (fun _=>by kernel_rfl) (fun x7 _ o z3 q h=>?_) (fun z3 h=>?_)
  .refine HH hS Mg ?_;refine RH hS Mg 10000 (B1 x7.2) ?_;refine X1 hS Mg [(0,.l [4000]),(1,.n),(2,.l [4500]),(4,.a [51000,4500]),(5,.l [51000]),(6,.a [51000]),(7,.a [4000])] ?_;refine AE (by decide:(7:Nat)<=7) (x:=.sl true 7 1 (D0 [pI .i64 0,pI .u32 0,pI .u32 0,.v (.bool false),pI .i64 0,pI .i64 0,E9] [(0,[pI .i64 0,pI .u32 0,pI .u32 0,.v (.bool false),pI .i64 0,pI .i64 0,E9])])) ?_;obtain⟨c27,h⟩:=E2 h;refine O5 (And.intro (And.intro c27.1.1 c27.1.2) (And.intro (rfl:(7:Nat)=7) (And.intro c27.2 (by decide:(7:Nat)<=7)))) ?_;exact q _ [(905,905),(4000,4000),(4500,51000)] _ ((z3.push Pat.nil).upd (z3.n:Int).toNat x7.2) Mg h (hle:=klR [(0,.fn (z3.n+1) ((z3.push Pat.nil).upd (z3.n:Int).toNat x7.2).n (fun l=>if l=(z3.n:Int).toNat then splice (AA z3.n (fun i=>B1 (z3.g i)) (D0 [pI .i64 0,pI .u32 0,pI .u32 0,.v (.bool false),pI .i64 0,pI .i64 0,E9] [(0,[pI .i64 0,pI .u32 0,pI .u32 0,.v (.bool false),pI .i64 0,pI .i64 0,E9])]) l) 0 [pI .i64 x7.2.Kind,pI .u32 x7.2.Is.Plus,pI .u32 x7.2.Is.Minus,.bb x7.2.Not,pI .i64 x7.2.Min,pI .i64 x7.2.Max,.sl false 7 x7.2.L.n (AY x7.2)]else (AA z3.n (fun i=>B1 (z3.g i)) (D0 [pI .i64 0,pI .u32 0,pI .u32 0,.v (.bool false),pI .i64 0,pI .i64 0,E9] [(0,[pI .i64 0,pI .u32 0,pI .u32 0,.v (.bool false),pI .i64 0,pI .i64 0,E9])])) l) (fun i=>B1 (((z3.push Pat.nil).upd (z3.n:Int).toNat x7.2).g i)))] (al1 ⟨rfl,setH (c:=B1) (v:=z3.push Pat.nil) (x:=x7.2) (app1H (c:=B1) (v:=z3) (z:=Pat.nil) same rfl) (fun _=>by simp[AA,D0,splice])⟩ al0))
  exact j _ [(4000,4000),(4501,4500)] _ z3 (wrap .i64 (x4+1)) Mg h
 cases h;exact kR hS
def Ch (N:Nat)(b:Pat)(a:Sl Mh):Option ((Nat->Int)×Int):= (U0 N b).bind fun y1=>if (y1 != 0) then some (fun _=>0,y1) else if (decide (32<(a.n:Int))) then some (fun _=>0,11) else (B0 N a (fun (u1:Mh)=>CO N u1)).bind fun y2=>if y2 then some (fun _=>0,14) else (Dt N b).bind fun y3=>(FR N y3 a).bind fun y4=>some (y4,0)
theorem Ia {a:Pat}{b:Sl Mh}{y:(Nat->Int)×Int}(h:Ch N a b=some y) :FunO S HV [.p (.agg (B1 a)),.p (vSl 2 A0 b)] [] (.tup [.p (.agg (cA 33 (pI .u64) y.1)),pN y.2]) ([]) []:=by
 unfold Ch at h;refine A3 hS Tryz.func227 ?_;refine kC hS h (FS hS hL) (fun y1 h=>?_);apply kI hS h<;>intro h
 .obtain rfl:=B7 h;exact A7 hS (And.intro rfl (E6 _ _):(0:Nat)=0/\(AI 33 (fun i=>pI .u64 ((fun _=>0) i))).length=33) ⟨[(5,pN y1),(4,.reg 5000 0)],[(5000,.arr 33 (fun i=>pI .u64 ((fun _=>0) i)))]⟩ [] (ids:=[(5000,5000)]) ⟨rfl,rfl,rfl⟩ (hle:=klR [(1,.fn 33 33 (fun i=>[(fun i=>(cA 33 (pI .u64) (fun _=>0)).getD i default) i]) (fun i=>[pI .u64 ((fun _=>0) i)]))] (al1 ⟨rfl,D2 33 (fun i=>pI .u64 ((fun _=>0) i))⟩ al0))
 apply kI hS h<;>intro h
 .obtain rfl:=B7 h;exact A7 hS (And.intro rfl (E6 _ _):(0:Nat)=0/\(AI 33 (fun i=>pI .u64 ((fun _=>0) i))).length=33) ⟨[(5,pN 11),(4,.reg 5000 0)],[(5000,.arr 33 (fun i=>pI .u64 ((fun _=>0) i)))]⟩ [] (ids:=[(5000,5000)]) ⟨rfl,rfl,rfl⟩ (hle:=klR [(1,.fn 33 33 (fun i=>[(fun i=>(cA 33 (pI .u64) (fun _=>0)).getD i default) i]) (fun i=>[pI .u64 ((fun _=>0) i)]))] (al1 ⟨rfl,D2 33 (fun i=>pI .u64 ((fun _=>0) i))⟩ al0))
 refine kC hS h (H2 hS hL (fun e=>LH hS hL e)) (fun y2 h=>?_);apply kI hS h<;>intro h
 .obtain rfl:=B7 h;exact A7 hS (And.intro rfl (E6 _ _):(0:Nat)=0/\(AI 33 (fun i=>pI .u64 ((fun _=>0) i))).length=33) ⟨[(5,pN 14),(4,.reg 5000 0)],[(5000,.arr 33 (fun i=>pI .u64 ((fun _=>0) i)))]⟩ [] (ids:=[(5000,5000)]) ⟨rfl,rfl,rfl⟩ (hle:=klR [(1,.fn 33 33 (fun i=>[(fun i=>(cA 33 (pI .u64) (fun _=>0)).getD i default) i]) (fun i=>[pI .u64 ((fun _=>0) i)]))] (al1 ⟨rfl,D2 33 (fun i=>pI .u64 ((fun _=>0) i))⟩ al0))
 refine kC hS h (MA hS hL) (fun y3 h=>?_);obtain⟨y4,e4,h⟩:=B5 h;refine JT hS Mg (Yd hS hL e4) ?_;obtain rfl:=B7 h;exact A7 hS (And.intro rfl (E6 _ _):(0:Nat)=0/\(AI 33 (fun i=>pI .u64 (y4 i))).length=33) ⟨[(5,pN 0),(4,.reg 5000 0)],[(5000,.arr 33 (fun i=>pI .u64 (y4 i)))]⟩ [] (ids:=[(5000,5000)]) ⟨rfl,rfl,rfl⟩ (hle:=klR [(1,.fn 33 33 (fun i=>[(fun i=>(cA 33 (pI .u64) y4).getD i default) i]) (fun i=>[pI .u64 (y4 i)]))] (al1 ⟨rfl,D2 33 (fun i=>pI .u64 (y4 i))⟩ al0))
def EK (N:Nat)(d:Pat)(c:Sl Mh)(a:Int):Option ((Sl Int)×Int):= (Ch N d c).bind fun y1=>lt (fun (z1:Int)=>if (z1 != 0) then some ((Sl.nil:Sl Int),z1) else Bq N (fun b (x2:Sl Int) (x3:Int)=>if (decide (x3<(wrap .i64 ((c.n:Int)+1)))) then if ((((0:Int)<=x3/\x3<33)/\(0+x3.toNat*1)<33)/\(0:Int)<=a)then if ((E7 .and .u64 (shI .shr .u64 (y1.1 (0+x3.toNat*1)) a) 1)==1) then if ((x2.n+(Sl.of [x3]:Sl Int).n)*8<=140737488355328/\x2.n+(Sl.of [x3]:Sl Int).n<=140737488355328)then b (x2.push x3) (wrap .i64 (x3+1)) else none else b x2 (wrap .i64 (x3+1)) else none else some (x2,0)) (Sl.nil:Sl Int) 0) fun k1=>if (y1.2==0) then (Cg N c a).bind fun y3=>k1 y3 else k1 y1.2
theorem Pd {f:Pat}{d:Sl Mh}{a:Int}{y:(Sl Int)×Int}(h:EK N f d a=some y) :FunO S HU [.p (.agg (B1 f)),.p (vSl 2 A0 d),pN a] [] (.tup [.vec 0,pN y.2]) ([.vec C4 1 y.1.n (fun i=>cI .i64 (y.1.g i)) true]) []:=by
 unfold EK at h;refine A3 hS Tryz.func218 ?_;refine kC hS h (Ia hS hL) (fun y1 h=>?_);refine Ga hS (And.intro rfl (E6 _ _):(0:Nat)=0/\(AI 33 (fun i=>pI .u64 (y1.1 i))).length=33) (A5 hS) h 0 (fun z1=>⟨[(9,pN z1),(8,.reg 9000 0),(2,pN a),(1,.p (vSl 2 A0 d))],[(9000,.arr 33 (fun i=>pI .u64 (y1.1 i)))]⟩) (fun M1 k1 j h=>?_) (fun z1 h=>?_)
 .apply kI hS h<;>intro h
  .refine kC hS h (HZ hS hL) (fun y3 h=>?_);exact j _ [(9000,9000)] _ y3 Mg h (hle:=klR [(3,.fn 33 33 (fun i=>[(fun i=>(cA 33 (pI .u64) y1.1).getD i default) i]) (fun i=>[pI .u64 (y1.1 i)]))] (al1 ⟨rfl,D2 33 (fun i=>pI .u64 (y1.1 i))⟩ al0))
  exact j _ [(9000,9000)] _ y1.2 Mg h (hle:=klR [(3,.fn 33 33 (fun i=>[(fun i=>(cA 33 (pI .u64) y1.1).getD i default) i]) (fun i=>[pI .u64 (y1.1 i)]))] (al1 ⟨rfl,D2 33 (fun i=>pI .u64 (y1.1 i))⟩ al0))
 apply kI hS h<;>intro h
 .obtain rfl:=B7 h;exact A7 hS Mg ⟨[(7,pN z1),(6,.vec 7700)],[(7700,.vec C4 1 (Sl.nil:Sl Int).n (fun i=>cI .i64 ((Sl.nil:Sl Int).g i)) true)]⟩ [7700] (ids:=[]) ⟨rfl,rfl,rfl⟩
 refine G9 hS Mg h (fun x2 x3=>⟨[(29,pN x3),(28,pN (wrap .i64 ((d.n:Int)+1))),(10,.vec 11500),(8,.reg 9000 0),(2,pN a)],[(11500,.vec C4 1 x2.n (fun i=>cI .i64 (x2.g i)) false),(9000,.arr 33 (fun i=>pI .u64 (y1.1 i)))]⟩) (ids:=[(9000,9000)]) (fun _ _ _ _ _ m x2 x3 l h=>?_);apply kI hS h<;>intro h
 .obtain⟨c12,h⟩:=E2 h;refine D1 hS c12 (b:=(E7 .and .u64 (shI .shr .u64 (y1.1 (0+x3.toNat*1)) a) 1)==1) (fun c13=>?_) (fun c13=>?_)
  .replace h:=itT c13 h;obtain⟨c14,h⟩:=E2 h;exact l _ [(9000,9000),(11500,43000)] _ (x2.push x3) (wrap .i64 (x3+1)) (And.intro (rfl:true=true) c14) h (hle:=klR [(3,.fn (x2.n+1) (x2.push x3).n (AA x2.n (fun i=>cI .i64 (x2.g i)) (D0 [pI .i64 0] [(0,cI .i64 x3)])) (fun i=>cI .i64 ((x2.push x3).g i)))] (al1 ⟨rfl,Kj (c:=cI .i64) (v:=x2) (x:=x3) (z:=[(pI .i64 0)]) same rfl rfl⟩ al0))
  replace h:=itF c13 h;exact l _ [(9000,9000),(11500,11500)] _ x2 (wrap .i64 (x3+1)) Mg h
 obtain rfl:=B7 h;exact A7 hS Mg ⟨[(7,pN 0),(6,.vec 11500)],[(11500,.vec C4 1 x2.n (fun i=>cI .i64 (x2.g i)) true)]⟩ [11500] (ids:=[(11500,11500)]) ⟨rfl,rfl,rfl⟩
def J3 (N:Nat)(a:List (Int)):Option (Sl Int):= Z2 a (fun b (x1:Int) (z1:Sl Int)=>if ((z1.n+(Sl.of [x1]:Sl Int).n)*8<=140737488355328/\z1.n+(Sl.of [x1]:Sl Int).n<=140737488355328)then b (z1.push x1) else none) (fun (z1:Sl Int)=>some z1) (Sl.nil:Sl Int)
theorem BC {b:List (Int)}{a:Int}{kp_seq:Nat}(fp_seq:∃fn,At5[kp_seq]? = some fn/\fn.body.isSome=true/\(fn.name == "runtime.NumGoroutine")=false)(d:Er S kp_seq [] [.reg 0 0] [(.cells [(.p (pI .u64 a))])] (b.map (fun (x:Int)=>[(pI .i64) x]))){y:(Sl Int)}(h:J3 N b=some y) :FunO S K3 [(.p E9),(.clo kp_seq [] [(.reg 0 0)])] [(.cells [(.p (pI .u64 a))])] (.vec 0) ([(.vec C4 1 y.n (fun i=>(cI .i64) (y.g i)) true)]) [false]:=by
 unfold J3 at h;refine A3 hS Tryz.func97 ?_;refine OA hS Mg fp_seq [0] [2] 901 (fun z1=>⟨[(2,(.reg 3000 0))],[(3500,(.vec C4 1 z1.n (fun i=>(cI .i64) (z1.g i)) false)),(3000,(.cells [(.vec 3500)]))]⟩) (idl:=[(3000,3000)]) h d (fun _=>by kernel_rfl) (fun _=>by kernel_rfl) (fun _=>by kernel_rfl) (fun _=>by kernel_rfl) (fun x1 _ f z1 j h=>?_) (fun z1 h=>?_)
 .refine HH hS Mg ?_;obtain⟨c1,h⟩:=E2 h;exact j _ [(901,901),(3000,3000),(3500,12000)] _ (z1.push x1) (And.intro (rfl:true=true) c1) h (hle:=klR [(0,.fn (z1.n+1) (z1.push x1).n (AA z1.n (fun i=>(cI .i64) (z1.g i)) (D0 [(pI .i64 0)] [(0,(cI .i64) x1)])) (fun i=>(cI .i64) ((z1.push x1).g i)))] (al1 ⟨rfl,(Kj (c:=(cI .i64)) (v:=z1) (x:=x1) (z:=[(pI .i64 0)]) same rfl rfl)⟩ al0))
 obtain rfl:=B7 h;exact A7 hS Mg ⟨[(4,(.vec 3500))],[(3500,(.vec C4 1 z1.n (fun i=>(cI .i64) (z1.g i)) true))]⟩ [3500] (ids:=[(3500,3500)]) ⟨rfl,rfl,rfl⟩
def V5 (N:Nat)(a:List (Int)):Option (Sl Int):= (J3 N a).bind fun y1=>some y1
theorem FT {b:List (Int)}{a:Int}{kp_seq:Nat}(fp_seq:∃fn,At5[kp_seq]? = some fn/\fn.body.isSome=true/\(fn.name == "runtime.NumGoroutine")=false)(c:Er S kp_seq [] [.reg 0 0] [(.cells [(.p (pI .u64 a))])] (b.map (fun (x:Int)=>[(pI .i64) x]))){y:(Sl Int)}(h:V5 N b=some y) :FunO S Y4 [(.clo kp_seq [] [(.reg 0 0)])] [(.cells [(.p (pI .u64 a))])] (.vec 0) ([(.vec C4 1 y.n (fun i=>(cI .i64) (y.g i)) true)]) [false]:=by unfold V5 at h;refine A3 hS Tryz.func56 ?_;obtain⟨y1,e1,h⟩:=B5 h;refine B4 hS [0] Mg (BC hS hL fp_seq c e1) ?_;obtain rfl:=B7 h;exact A7 hS Mg ⟨[(2,(.vec 5000))],[(5000,(.vec C4 1 y1.n (fun i=>(cI .i64) (y1.g i)) true))]⟩ [5000] (ids:=[(5000,5000)]) ⟨rfl,rfl,rfl⟩
def GX (N:Nat)(c:Pat)(b:Sl Mh)(a:Int):Option ((Sl Int)×Int):= (Ch N c b).bind fun y1=>lt (fun (z1:Int)=>if (z1 != 0) then some ((Sl.nil:Sl Int),z1) else if (((0:Int)<=a/\a<33)/\(0+a.toNat*1)<33)then (Ad N (y1.1 (0+a.toNat*1))).bind fun y4=>(S2 N y4).bind fun L1=>(V5 N L1).bind fun y5=>some (y5,0) else none) fun k1=>if (y1.2==0) then (Cg N b a).bind fun y3=>k1 y3 else k1 y1.2
theorem SZ {b:Pat}{c:Sl Mh}{a:Int}{y:(Sl Int)×Int}(h:GX N b c a=some y) :FunO S Lu [.p (.agg (B1 b)),.p (vSl 2 A0 c),pN a] [] (.tup [.vec 0,pN y.2]) ([.vec C4 1 y.1.n (fun i=>cI .i64 (y.1.g i)) true]) []:=by
 unfold GX at h;refine A3 hS Tryz.func219 ?_;refine kC hS h (Ia hS hL) (fun y1 h=>?_);refine Ga hS (And.intro rfl (E6 _ _):(0:Nat)=0/\(AI 33 (fun i=>pI .u64 (y1.1 i))).length=33) (A5 hS) h 0 (fun z1=>⟨[(9,pN z1),(8,.reg 9000 0),(2,pN a)],[(9000,.arr 33 (fun i=>pI .u64 (y1.1 i)))]⟩) (fun M1 k1 d h=>?_) (fun z1 h=>?_)
 .apply kI hS h<;>intro h
  .refine kC hS h (HZ hS hL) (fun y3 h=>?_);exact d _ [(9000,9000)] _ y3 Mg h (hle:=klR [(2,.fn 33 33 (fun i=>[(fun i=>(cA 33 (pI .u64) y1.1).getD i default) i]) (fun i=>[pI .u64 (y1.1 i)]))] (al1 ⟨rfl,D2 33 (fun i=>pI .u64 (y1.1 i))⟩ al0))
  exact d _ [(9000,9000)] _ y1.2 Mg h (hle:=klR [(2,.fn 33 33 (fun i=>[(fun i=>(cA 33 (pI .u64) y1.1).getD i default) i]) (fun i=>[pI .u64 (y1.1 i)]))] (al1 ⟨rfl,D2 33 (fun i=>pI .u64 (y1.1 i))⟩ al0))
 apply kI hS h<;>intro h
 .obtain rfl:=B7 h;exact A7 hS Mg ⟨[(7,pN z1),(6,.vec 7700)],[(7700,.vec C4 1 (Sl.nil:Sl Int).n (fun i=>cI .i64 ((Sl.nil:Sl Int).g i)) true)]⟩ [7700] (ids:=[]) ⟨rfl,rfl,rfl⟩
 obtain⟨c5,h⟩:=E2 h;obtain⟨y4,e4,h⟩:=B5 h;refine B4 hS [] c5 (Dr hS hL e4) ?_;obtain⟨L1,e5,h⟩:=B5 h;obtain⟨y5,e6,h⟩:=B5 h;refine B4 hS [28000] Mg (FT hS hL ⟨_,Tryz.func236,by decide +kernel,by decide +kernel⟩ (BM hS hL e5) e6) ?_;obtain rfl:=B7 h;exact A7 hS Mg ⟨[(7,pN 0),(6,.vec 29000)],[(29000,.vec C4 1 y5.n (fun i=>cI .i64 (y5.g i)) true)]⟩ [29000] (ids:=[(29000,29000)]) ⟨rfl,rfl,rfl⟩
end Go.AM
namespace Go.AM
variable {N:Nat}
open IntKind (wrap)
open Go.Proofs
set_option maxRecDepth 10000
set_option maxHeartbeats 2000000
variable {S:Q7}(hS:F4 S Tryz.prog) (hL:Ig S)
include hS hL
def Bd (N:Nat)(a:Str):Option Bool:= lt (fun (z1:Bool)=>some z1) fun k1=>if ((a==[]) != true) then if (decide ((a.length:Int)<=24)) then (Dh N a [97,98,99,100,101,102,103,104,105,106,107,108,109,110,111,112,113,114,115,116,117,118,119,120,121,122,65,66,67,68,69,70,71,72,73,74,75,76,77,78,79,80,81,82,83,84,85,86,87,88,89,90,48,49,50,51,52,53,54,55,56,57,45]).bind fun y2=>k1 ((y2==[]) != false) else k1 false else k1 false
theorem Ta {b:Str}{y:Bool}(h:Bd N b=some y) :FunO S Lo [.p (.str b)] [] (pB y) ([]) []:=by
 unfold Bd at h;refine A3 hS Tryz.func121 ?_;refine Ga hS Mg (A5 hS) h 0 (fun z1=>⟨[(2,pB z1)],[]⟩) (fun M1 k1 a h=>?_) (fun z1 h=>?_)
 .refine kG hS h (fun h=>?_) (fun h=>?_)
  .refine kG hS h (fun h=>?_) (fun h=>?_)
   .refine kC hS h (Mw hS hL) (fun y2 h=>?_);exact a _ [] _ ((y2==[]) != false) Mg h
   exact a _ [] _ false Mg h
  exact a _ [] _ false Mg h
 cases h;exact kR hS
def Aw (N:Nat)(p_x:AC)(a:Int):Option Bool:= lt (fun (z1:Bool)=>if z1 then some false else if ((((E7 .andNot .u32 (E7 .or .u32 p_x.Clear p_x.Take) 16777215) != 0)||((E7 .and .u32 p_x.Clear (E7 .or .u32 p_x.Set.Plus p_x.Set.Minus)) != 0))||((E7 .and .u32 p_x.Take (E7 .or .u32 (E7 .or .u32 p_x.Set.Plus p_x.Set.Minus) p_x.Clear)) != 0)) then some false else if (p_x.Take==0) then some (p_x.Of==0) else some ((decide (0<=p_x.Of))&&(decide (p_x.Of<a)))) fun k1=>if (decide (p_x.From<(-1))) then k1 true else if (decide (a<=p_x.From)) then k1 true else (F5 N p_x.Set).bind fun y2=>k1 (!y2)
theorem VX {p_x:AC}{b:Int}{y:Bool}(h:Aw N p_x b=some y) :FunO S Nz [.p (.agg (O7 p_x)),pN b] [] (pB y) ([]) []:=by
 unfold Aw at h;refine A3 hS Tryz.func118 ?_;refine Ga hS Mg (A5 hS) h 0 (fun z1=>⟨[(13,pB z1),(5,pU (E7 .or .u32 p_x.Set.Plus p_x.Set.Minus)),(2,.reg 3000 0),(1,pN b)],[(3000,.cells ((O7 p_x).map .p))]⟩) (fun M1 k1 c h=>?_) (fun z1 h=>?_)
 .refine kG hS h (fun h=>?_) (fun h=>?_)
  .exact c _ [(3000,3000)] _ true Mg h
  refine kG hS h (fun h=>?_) (fun h=>?_)
  .exact c _ [(3000,3000)] _ true Mg h
  refine kC hS h (P1 hS hL) (fun y2 h=>?_);exact c _ [(3000,3000)] _ (!y2) Mg h
 apply kI hS h<;>intro h
 .cases h;exact kR hS
 refine kB hS (A5 hS) Mg Mg 16 (.o (.o (.a ((E7 .andNot .u32 (E7 .or .u32 p_x.Clear p_x.Take) 16777215) != 0)) (.a ((E7 .and .u32 p_x.Clear (E7 .or .u32 p_x.Set.Plus p_x.Set.Minus)) != 0))) (.a ((E7 .and .u32 p_x.Take (E7 .or .u32 (E7 .or .u32 p_x.Set.Plus p_x.Set.Minus) p_x.Clear)) != 0))) ?_;apply kI hS h<;>intro h
 .cases h;exact kR hS
 apply kI hS h<;>intro h
 .cases h;exact kR hS
 refine kB hS (A5 hS) Mg Mg 5 (.n (.a (decide (0<=p_x.Of))) (.a (decide (p_x.Of<b)))) ?_;cases h;exact kR hS
def W7 (N:Nat)(p_x:AC)(q0:Int):Option Bool:= (Aw N p_x q0).bind fun y1=>some (!y1)
theorem Pe {p_x:AC}{q0:Int}{y:Bool}(h:W7 N p_x q0=some y) :FunO S HP [.p (.agg (O7 p_x)),.reg 0 0] [.cells [pN q0]] (pB y) ([.cells [pN q0]]) [true]:=by unfold W7 at h;refine A3 hS Tryz.func117 ?_;refine kC hS h (VX hS hL) (fun y1 h=>?_);obtain rfl:=B7 h;exact A7 hS Mg ⟨[(3,pB (!y1))],[(0,.cells [pN q0])]⟩ [0] (ids:=[(0,0)]) ⟨rfl,rfl,rfl⟩
def W6 (N:Nat)(a:Mh):Option Bool:= (F5 N a).bind fun y1=>some (!y1)
theorem Pf {a:Mh}{y:Bool}(h:W6 N a=some y) :FunO S HQ [.p (.agg (A0 a))] [] (pB y) ([]) []:=by unfold W6 at h;refine A3 hS Tryz.func119 ?_;refine kC hS h (P1 hS hL) (fun y1 h=>?_);cases h;exact kR hS
def D9 (N:Nat)(a:Sl AC)(c:AC->Option Bool):Option Int:= At N (fun b (x1:Int)=>if (decide (x1<(a.n:Int))) then if ((0:Int)<=x1/\x1<(a.n:Int))then (c (a.g x1.toNat)).bind fun y3=>if y3 then some x1 else b (wrap .i64 (x1+1)) else none else some (-1)) 0
theorem Y8 {c:Sl AC}{d:AC->Option Bool}{a:Int}{kp_f:Nat}(f:∀{a0:AC}{b:Bool},d a0=some b->FunO S kp_f [.p (.agg (O7 a0)),.reg 0 0] [.cells [pN a]] (pB b) [.cells [pN a]] [true]){y:Int}(h:D9 N c d=some y) :FunO S K7 [.p (vSl 6 O7 c),.clo kp_f [] [.reg 0 0]] [.cells [pN a]] (pN y) ([.cells [pN a]]) [true]:=by
 unfold D9 at h;refine A3 hS Tryz.func151 ?_;refine N0 hS Mg h (fun x1=>⟨[(8,pN x1),(7,pN (c.n:Int)),(1,.clo kp_f [] [.reg 0 0]),(0,.p (vSl 6 O7 c))],[(0,.cells [pN a])]⟩) (ids:=[(0,0)]) (fun _ _ _ _ _ g x1 i h=>?_);apply kI hS h<;>intro h
 .obtain⟨c8,h⟩:=E2 h;obtain⟨y3,e3,h⟩:=B5 h;refine B4 hS [0] (And.intro c8 (by decide:(6:Nat)<=6)) (f e3) ?_;apply kI hS h<;>intro h
  .obtain rfl:=B7 h;exact A7 hS Mg ⟨[(4,pN x1)],[(0,.cells [pN a])]⟩ [0] (ids:=[(0,0)]) ⟨rfl,rfl,rfl⟩
  exact i _ [(0,0)] _ (wrap .i64 (x1+1)) Mg h
 obtain rfl:=B7 h;exact A7 hS Mg ⟨[(4,pN (-1))],[(0,.cells [pN a])]⟩ [0] (ids:=[(0,0)]) ⟨rfl,rfl,rfl⟩
def B9 (N:Nat)(a:Sl AC)(b:AC->Option Bool):Option Bool:= (D9 N a b).bind fun y1=>some (decide (0<=y1))
theorem T1 {c:Sl AC}{d:AC->Option Bool}{a:Int}{kp_f:Nat}(f:∀{a0:AC}{b:Bool},d a0=some b->FunO S kp_f [.p (.agg (O7 a0)),.reg 0 0] [.cells [pN a]] (pB b) [.cells [pN a]] [true]){y:Bool}(h:B9 N c d=some y) :FunO S I8 [.p (vSl 6 O7 c),.clo kp_f [] [.reg 0 0]] [.cells [pN a]] (pB y) ([.cells [pN a]]) [true]:=by unfold B9 at h;refine A3 hS Tryz.func124 ?_;obtain⟨y1,e1,h⟩:=B5 h;refine B4 hS [0] Mg (Y8 hS hL (fun e=>f e) e1) ?_;obtain rfl:=B7 h;exact A7 hS Mg ⟨[(4,pB (decide (0<=y1)))],[(0,.cells [pN a])]⟩ [0] (ids:=[(0,0)]) ⟨rfl,rfl,rfl⟩
def R5 (N:Nat)(a:Law):Option Int:= (Bd N a.Name).bind fun y1=>if (!y1) then some 17 else (U0 N a.Left).bind fun y2=>if (y2 != 0) then some 17 else (U0 N a.Right).bind fun y3=>if (y3 != 0) then some 17 else if (decide (4<(a.If.n:Int))) then some 17 else if (decide (6<(a.Out.n:Int))) then some 17 else if ((wrap .i64 ((a.If.n:Int)+(a.Out.n:Int)))==0) then some 17 else if ((decide (a.Mode<1))||(decide (3<a.Mode))) then some 17 else (B0 N a.If (fun (u1:Mh)=>W6 N u1)).bind fun y4=>if y4 then some 17 else (B9 N a.Out (fun (u2:AC)=>W7 N u2 (a.If.n:Int))).bind fun y5=>if y5 then some 17 else some 0
theorem Ej {c:Law}{y:Int}(h:R5 N c=some y) :FunO S Lm [.p (.agg (A9 c))] [] (pN y) ([]) []:=by
 unfold R5 at h;refine A3 hS Tryz.func87 ?_;refine kC hS h (Ta hS hL) (fun y1 h=>?_);refine D1 hS Mg (b:=!y1) (fun c1=>?_) (fun c1=>?_)
 .replace h:=itT c1 h;refine D1 hS Mg (b:=!y1) (fun c2=>?_) (fun c2=>?_)
  .cases h;exact kR hS
  exact Bool.noConfusion (c1.symm.trans c2)
 replace h:=itF c1 h;refine kC hS h (FS hS hL) (fun y2 h=>?_);refine D1 hS Mg (b:=y2 != 0) (fun c3=>?_) (fun c3=>?_)
 .replace h:=itT c3 h;refine D1 hS Mg (b:=y2 != 0) (fun c4=>?_) (fun c4=>?_)
  .cases h;exact kR hS
  exact Bool.noConfusion (c3.symm.trans c4)
 replace h:=itF c3 h;refine kC hS h (FS hS hL) (fun y3 h=>?_);refine D1 hS Mg (b:=y3 != 0) (fun c5=>?_) (fun c5=>?_)
 .replace h:=itT c5 h;refine D1 hS Mg (b:=y3 != 0) (fun c6=>?_) (fun c6=>?_)
  .cases h;exact kR hS
  exact Bool.noConfusion (c5.symm.trans c6)
 replace h:=itF c5 h;refine D1 hS Mg (b:=decide (4<(c.If.n:Int))) (fun c7=>?_) (fun c7=>?_)
 .replace h:=itT c7 h;refine D1 hS Mg (b:=decide (4<(c.If.n:Int))) (fun c8=>?_) (fun c8=>?_)
  .cases h;exact kR hS
  exact Bool.noConfusion (c7.symm.trans c8)
 replace h:=itF c7 h;refine D1 hS Mg (b:=decide (6<(c.Out.n:Int))) (fun c9=>?_) (fun c9=>?_)
 .replace h:=itT c9 h;refine D1 hS Mg (b:=decide (6<(c.Out.n:Int))) (fun c10=>?_) (fun c10=>?_)
  .cases h;exact kR hS
  exact Bool.noConfusion (c9.symm.trans c10)
 replace h:=itF c9 h;refine D1 hS Mg (b:=(wrap .i64 ((c.If.n:Int)+(c.Out.n:Int)))==0) (fun c11=>?_) (fun c11=>?_)
 .replace h:=itT c11 h;refine D1 hS Mg (b:=(wrap .i64 ((c.If.n:Int)+(c.Out.n:Int)))==0) (fun c12=>?_) (fun c12=>?_)
  .cases h;exact kR hS
  exact Bool.noConfusion (c11.symm.trans c12)
 replace h:=itF c11 h;refine kB hS (A5 hS) Mg Mg 4 (.o (.a (decide (c.Mode<1))) (.a (decide (3<c.Mode)))) ?_;refine D1 hS Mg (b:=(decide (c.Mode<1))||(decide (3<c.Mode))) (fun c13=>?_) (fun c13=>?_)
 .replace h:=itT c13 h;refine D1 hS Mg (b:=(decide (c.Mode<1))||(decide (3<c.Mode))) (fun c14=>?_) (fun c14=>?_)
  .cases h;exact kR hS
  exact Bool.noConfusion (c13.symm.trans c14)
 replace h:=itF c13 h;refine kC hS h (H2 hS hL (fun e=>Pf hS hL e)) (fun y4 h=>?_);refine D1 hS Mg (b:=y4) (fun c15=>?_) (fun c15=>?_)
 .replace h:=itT c15 h;refine D1 hS Mg (b:=y4) (fun c16=>?_) (fun c16=>?_)
  .cases h;exact kR hS
  exact Bool.noConfusion (c15.symm.trans c16)
 replace h:=itF c15 h;obtain⟨y5,e5,h⟩:=B5 h;refine B4 hS [4000] Mg (T1 hS hL (fun e=>Pe hS hL e) e5) ?_;apply kI hS h<;>intro h
 .cases h;exact kR hS
 cases h;exact kR hS
def GY (N:Nat)(a:Law)(b:Sl Mh):Option Int:= (R5 N a).bind fun y1=>if (y1 != 0) then some y1 else (BA N b).bind fun y2=>some y2
theorem Tb {a:Law}{b:Sl Mh}{y:Int}(h:GY N a b=some y) :FunO S Lt [.p (.agg (A9 a)),.p (vSl 2 A0 b)] [] (pN y) ([]) []:=by
 unfold GY at h;refine A3 hS Tryz.func189 ?_;refine kC hS h (Ej hS hL) (fun y1 h=>?_);apply kI hS h<;>intro h
 .cases h;exact kR hS
 refine kC hS h (FQ hS hL) (fun y2 h=>?_);cases h;exact kR hS
def Du (N:Nat)(a:Int)(q0:Law)(q1:Sl Mh):Option Bool:= (EK N q0.Left q1 a).bind fun y1=>if ((y1.1.n:Int)==0) then some false else (GX N q0.Right q1 (wrap .i64 (a+(q0.If.n:Int)))).bind fun y2=>some (decide (0<(y2.1.n:Int)))
theorem MB {a:Int}{q0:Law}{q1:Sl Mh}{y:Bool}(h:Du N a q0 q1=some y) :FunO S S3 [pN a,.reg 0 0,.reg 1 0] [.cells ((A9 q0).map .p),.cells [.p (vSl 2 A0 q1)]] (pB y) ([.cells ((A9 q0).map .p),.cells [.p (vSl 2 A0 q1)]]) [true,true]:=by
 unfold Du at h;refine A3 hS Tryz.func217 ?_;refine kC hS h (Pd hS hL) (fun y1 h=>?_);apply kI hS h<;>intro h
 .obtain rfl:=B7 h;exact A7 hS Mg ⟨[(4,pB false)],[(1,.cells [.p (vSl 2 A0 q1)]),(0,.cells ((A9 q0).map .p))]⟩ [0,1] (ids:=[(0,0),(1,1)]) ⟨rfl,rfl,rfl⟩
 refine kC hS h (SZ hS hL) (fun y2 h=>?_);obtain rfl:=B7 h;exact A7 hS Mg ⟨[(4,pB (decide (0<(y2.1.n:Int))))],[(1,.cells [.p (vSl 2 A0 q1)]),(0,.cells ((A9 q0).map .p))]⟩ [0,1] (ids:=[(0,0),(1,1)]) ⟨rfl,rfl,rfl⟩
def FU (N:Nat)(a:Law)(b:Sl Mh):Option (Law×(Sl Mh)):= some (a,b)
theorem QZ {a:Law}{b:Sl Mh}{y:Law×(Sl Mh)}(h:FU N a b=some y) :FunO S Js [.p (.agg (A9 a)),.p (vSl 2 A0 b)] [] (.clo S3 [] [.reg 0 0,.reg 1 0]) ([.cells ((A9 y.1).map .p),.cells [.p (vSl 2 A0 y.2)]]) []:=by unfold FU at h;refine A3 hS Tryz.func208 ?_;obtain rfl:=B7 h;exact A7 hS Mg ⟨[(4,.clo S3 [] [.reg 3000 0,.reg 4000 0])],[(4000,.cells [.p (vSl 2 A0 b)]),(3000,.cells ((A9 a).map .p))]⟩ [3000,4000] (ids:=[(3000,3000),(4000,4000)]) ⟨rfl,rfl,rfl⟩
def Ib (N:Nat)(a:Law)(b:Sl Mh):Option (Sl Mh):= Bq N (fun c (x1:Sl Mh) (x2:Int)=>if (decide (x2<(a.Out.n:Int))) then if ((0:Int)<=x2/\x2<(a.Out.n:Int))then if ((decide (0<=(a.Out.g x2.toNat).From))=true->((0:Int)<=(a.Out.g x2.toNat).From/\(a.Out.g x2.toNat).From<(b.n:Int)))then (Dq N (⟨(if (decide (0<=(a.Out.g x2.toNat).From)) then (b.g (a.Out.g x2.toNat).From.toNat).Plus else 0),(if (decide (0<=(a.Out.g x2.toNat).From)) then (b.g (a.Out.g x2.toNat).From.toNat).Minus else 0)⟩:Mh) (a.Out.g x2.toNat).Clear (a.Out.g x2.toNat).Set).bind fun y5=>if ((a.Out.g x2.toNat).Take != 0) then if ((0:Int)<=(a.Out.g x2.toNat).Of/\(a.Out.g x2.toNat).Of<(b.n:Int))then (FP N y5.1 (b.g (a.Out.g x2.toNat).Of.toNat) (a.Out.g x2.toNat).Take).bind fun y6=>if ((x1.n+(Sl.of [y6.1]:Sl Mh).n)*8<=140737488355328/\x1.n+(Sl.of [y6.1]:Sl Mh).n<=140737488355328)then c (x1.push y6.1) (wrap .i64 (x2+1)) else none else none else if ((x1.n+(Sl.of [y5.1]:Sl Mh).n)*8<=140737488355328/\x1.n+(Sl.of [y5.1]:Sl Mh).n<=140737488355328)then c (x1.push y5.1) (wrap .i64 (x2+1)) else none else none else none else some x1) (Sl.nil:Sl Mh) 0
theorem Ra {d:Law}{a:Sl Mh}{y:Sl Mh}(h:Ib N d a=some y) :FunO S QR [.p (.agg (A9 d)),.p (vSl 2 A0 a)] [] (.p (vSl 2 A0 y)) ([]) []:=by
 unfold Ib at h;refine A3 hS Tryz.func199 ?_;refine I1 hS Mg 4 3000 (A9 d) ?_;refine G9 hS Mg h (fun x1 x2=>⟨[(12,pN x2),(11,pN (d.Out.n:Int)),(10,.p (vSl 6 O7 d.Out)),(5,.vec 6500),(1,.p (vSl 2 A0 a))],[(6500,.vec D4 2 x1.n (fun i=>A0 (x1.g i)) false)]⟩) (ids:=[]) (fun _ _ _ _ _ o x1 x2 l h=>?_);apply kI hS h<;>intro h
 .obtain⟨c16,h⟩:=E2 h;refine I1 hS (And.intro c16 (by decide:(6:Nat)<=6)) 8 8000 (O7 (d.Out.g x2.toNat)) ?_;obtain⟨c18,h⟩:=E2 h;obtain⟨t5,f⟩:∃x:Int,x=(if (decide (0<=(d.Out.g x2.toNat).From)) then (a.g (d.Out.g x2.toNat).From.toNat).Plus else 0):=⟨_,rfl⟩;obtain⟨t6,j⟩:∃x:Int,x=(if (decide (0<=(d.Out.g x2.toNat).From)) then (a.g (d.Out.g x2.toNat).From.toNat).Minus else 0):=⟨_,rfl⟩;refine NH hS Mg (A5 hS) 0 ⟨[(12,pN x2),(11,pN (d.Out.n:Int)),(10,.p (vSl 6 O7 d.Out)),(8,.reg 9000 0),(7,.p (.ptr (O7 (d.Out.g x2.toNat)))),(5,.vec 6500),(1,.p (vSl 2 A0 a))],[(9000,.cells [pU t5,pU t6]),(6500,.vec D4 2 x1.n (fun i=>A0 (x1.g i)) false)]⟩ (fun M3 m=>?_) ?_
  .refine D1 hS Mg (b:=decide (0<=(d.Out.g x2.toNat).From)) (fun c19=>?_) (fun c19=>?_)
   .exact m _ [(6500,6500),(9000,9000)] _ (And.intro (c18 c19) (by decide:(2:Nat)<=2)) (hle:=klR [(5,.eq (pI .u32 (a.g (d.Out.g x2.toNat).From.toNat).Plus) (pI .u32 t5)),(6,.eq (pI .u32 (a.g (d.Out.g x2.toNat).From.toNat).Minus) (pI .u32 t6))] (al1 (by simp only[f,j,c19,Leaf.ok,pm,Ly,Lz]) (al1 (by simp only[f,j,c19,Leaf.ok,pm,Ly,Lz]) al0)))
   exact m _ [(6500,6500),(9000,9000)] _ Mg (hle:=klR [(5,.eq (pI .u32 0) (pI .u32 t5)),(6,.eq (pI .u32 0) (pI .u32 t6))] (al1 (by simp only[f,j,c19,Leaf.ok,pm,Ly,Lz]) (al1 (by simp only[f,j,c19,Leaf.ok,pm,Ly,Lz]) al0)))
  subst j;subst f;obtain⟨y5,e5,h⟩:=B5 h;refine B4 hS [] (by decide:(2:Nat)<=4) (Mx hS hL e5) ?_;apply kI hS h<;>intro h
  .refine G8 hS Mg [3,4,5,7,8] ?_;obtain⟨c21,h⟩:=E2 h;obtain⟨y6,e6,h⟩:=B5 h;refine AF (And.intro c21 (by decide:(2:Nat)<=2)) (QX hS hL e6) ?_;refine O5 Mg ?_;obtain⟨c22,h⟩:=E2 h;exact l _ [(6500,52000)] _ (x1.push y6.1) (wrap .i64 (x2+1)) (And.intro (rfl:true=true) c22) h (hle:=klR [(4,.fn (x1.n+1) (x1.push y6.1).n (AA x1.n (fun i=>A0 (x1.g i)) (D0 [pI .u32 0,pI .u32 0] [(0,A0 y6.1)])) (fun i=>A0 ((x1.push y6.1).g i)))] (al1 ⟨rfl,Kj (c:=A0) (v:=x1) (x:=y6.1) (z:=[(pI .u32 0),pI .u32 0]) same rfl rfl⟩ al0))
  obtain⟨c23,h⟩:=E2 h;exact l _ [(6500,52000)] _ (x1.push y5.1) (wrap .i64 (x2+1)) (And.intro (rfl:true=true) c23) h (hle:=klR [(4,.fn (x1.n+1) (x1.push y5.1).n (AA x1.n (fun i=>A0 (x1.g i)) (D0 [pI .u32 0,pI .u32 0] [(0,A0 y5.1)])) (fun i=>A0 ((x1.push y5.1).g i)))] (al1 ⟨rfl,Kj (c:=A0) (v:=x1) (x:=y5.1) (z:=[(pI .u32 0),pI .u32 0]) same rfl rfl⟩ al0))
 obtain rfl:=B7 h;exact A7 hS Mg ⟨[(4,.p (vSl 2 A0 x1))],[]⟩ [] (ids:=[]) ⟨rfl,rfl,rfl⟩
def D8 (N:Nat)(a:Sl (Sl Mh)):Option (Sl Mh):= Bq N (fun b (x1:Int) (x2:Int)=>if (decide (x2<(a.n:Int))) then if ((0:Int)<=x2/\x2<(a.n:Int))then if (decide ((wrap .i64 (x1+((a.g x2.toNat).n:Int)))<0)) then none else b (wrap .i64 (x1+((a.g x2.toNat).n:Int))) (wrap .i64 (x2+1)) else none else (N5 N x1).bind fun y1=>Bq N (fun c (x3:Sl Mh) (x4:Int)=>if (decide (x4<(a.n:Int))) then if (((0:Int)<=x4/\x4<(a.n:Int))/\((x3.n+(a.g x4.toNat).n)*8<=140737488355328/\x3.n+(a.g x4.toNat).n<=140737488355328))then c (x3.app (a.g x4.toNat)) (wrap .i64 (x4+1)) else none else some x3) y1 0) 0 0
theorem K0 {a:Sl (Sl Mh)}{y:Sl Mh}(h:D8 N a=some y) :FunO S J9 [.p (vSl 1 (cL 2 A0) a)] [] (.vec 0) ([.vec D4 2 y.n (fun i=>A0 (y.g i)) true]) []:=by
 unfold D8 at h;refine A3 hS Tryz.func198 ?_;refine G9 hS Mg h (fun x1 x2=>⟨[(11,pN x2),(10,pN (a.n:Int)),(9,.p (vSl 1 (cL 2 A0) a)),(3,pN x1),(0,.p (vSl 1 (cL 2 A0) a))],[]⟩) (ids:=[]) (fun _ _ _ _ _ d x1 x2 f h=>?_);apply kI hS h<;>intro h
 .obtain⟨c8,h⟩:=E2 h;refine D1 hS c8 (b:=decide ((wrap .i64 (x1+((a.g x2.toNat).n:Int)))<0)) (fun c9=>?_) (fun c9=>?_)
  .replace h:=itT c9 h;cases h
  replace h:=itF c9 h;exact f _ [] _ (wrap .i64 (x1+((a.g x2.toNat).n:Int))) (wrap .i64 (x2+1)) Mg h
 refine kC hS h (Ac hS hL) (fun y1 h=>?_);refine G9 hS Mg h (fun x3 x4=>⟨[(27,pN x4),(26,pN (a.n:Int)),(25,.p (vSl 1 (cL 2 A0) a)),(6,.vec 7500)],[(7500,.vec D4 2 x3.n (fun i=>A0 (x3.g i)) false)]⟩) (ids:=[(7500,25000)]) (fun _ _ _ _ _ j x3 x4 l h=>?_);apply kI hS h<;>intro h
 .obtain⟨c13,h⟩:=E2 h;exact l _ [(7500,34000)] _ (x3.app (a.g x4.toNat)) (wrap .i64 (x4+1)) c13 h (hle:=klR [(3,.fn (x3.n+(a.g x4.toNat).n) (x3.app (a.g x4.toNat)).n (AA x3.n (fun i=>A0 (x3.g i)) (fun i=>A0 ((a.g x4.toNat).g i))) (fun i=>A0 ((x3.app (a.g x4.toNat)).g i)))] (al1 ⟨rfl,Al9 (c:=A0) (v:=x3) (w:=a.g x4.toNat) same rfl same rfl⟩ al0))
 obtain rfl:=B7 h;exact A7 hS Mg ⟨[(2,.vec 7500)],[(7500,.vec D4 2 x3.n (fun i=>A0 (x3.g i)) true)]⟩ [7500] (ids:=[(7500,7500)]) ⟨rfl,rfl,rfl⟩
def Ci (N:Nat)(b:Law)(c:Sl Mh)(a:Int):Option (Sl Mh):= if (((0:Int)<=a/\a<=(c.n:Int))/\((0:Int)<=a/\a<=(wrap .i64 (a+(b.If.n:Int)))/\(wrap .i64 (a+(b.If.n:Int)))<=(c.n:Int)))then (Ib N b (c.sub a.toNat (wrap .i64 (a+(b.If.n:Int))).toNat)).bind fun y1=>if ((0:Int)<=(wrap .i64 (a+(b.If.n:Int)))/\(wrap .i64 (a+(b.If.n:Int)))<=(c.n:Int))then (D8 N (Sl.of [c.take a.toNat,y1,c.drop (wrap .i64 (a+(b.If.n:Int))).toNat]:Sl (Sl Mh))).bind fun y2=>some y2 else none else none
theorem Ic {c:Law}{b:Sl Mh}{a:Int}{y:Sl Mh}(h:Ci N c b a=some y) :FunO S HT [.p (.agg (A9 c)),.p (vSl 2 A0 b),pN a] [] (.vec 0) ([.vec D4 2 y.n (fun i=>A0 (y.g i)) true]) []:=by unfold Ci at h;refine A3 hS Tryz.func201 ?_;refine I1 hS Mg 6 4000 (A9 c) ?_;refine G8 hS Mg [3,8] ?_;obtain⟨c1,h⟩:=E2 h;obtain⟨y1,e1,h⟩:=B5 h;refine AF (And.intro (And.intro c1.1 (by decide:(18:Nat)<=18)) c1.2) (Ra hS hL e1) ?_;obtain⟨c2,h⟩:=E2 h;refine AE c2 (x:=.sl true 1 3 (D0 [E9] [(0,cL 2 A0 (b.take a.toNat)),(1,cL 2 A0 y1),(2,cL 2 A0 (b.drop (wrap .i64 (a+(c.If.n:Int))).toNat))])) ?_;obtain⟨y2,e2,h⟩:=B5 h;refine Th [] Mg (FunO.le hS (args:=[.p (.sl true 1 3 (D0 [E9] [(0,cL 2 A0 (b.take a.toNat)),(1,cL 2 A0 y1),(2,cL 2 A0 (b.drop (wrap .i64 (a+(c.If.n:Int))).toNat))]))]) (by exact⟨Aa9 rfl (fun i d=>match i,d with|0,_=>rfl|1,_=>rfl|2,_=>rfl|_+3,d=>Lq d (by omega)),trivial⟩) (K0 hS hL e2)) ?_;refine O5 Mg ?_;obtain rfl:=B7 h;exact A7 hS Mg ⟨[(6,.vec 27000)],[(27000,.vec D4 2 y2.n (fun i=>A0 (y2.g i)) true)]⟩ [27000] (ids:=[(27000,27000)]) ⟨rfl,rfl,rfl⟩
def Df (N:Nat)(q0:Law)(q1:Sl Mh)(q2:Int):Option (List (Int)):= (FU N q0 q1).bind fun y1=>At N (fun a (x2:Int)=>if (decide ((wrap .i64 (x2+(q0.If.n:Int)))<=(q1.n:Int))) then At N (fun b (x4:Int)=>if (decide (x4<(q0.If.n:Int))) then if ((0:Int)<=x4/\x4<(q0.If.n:Int))then if ((0:Int)<=(wrap .i64 (x2+x4))/\(wrap .i64 (x2+x4))<(q1.n:Int))then (Bi N (q1.g (wrap .i64 (x2+x4)).toNat) (q0.If.g x4.toNat)).bind fun c=>if (!c) then a (wrap .i64 (x2+1)) else b (wrap .i64 (x4+1)) else none else none else (Du N x2 y1.1 y1.2).bind fun d=>if d then Fo x2 (a (wrap .i64 (x2+1))) else a (wrap .i64 (x2+1))) 0 else some []) q2
theorem Ju {q0:Law}{q1:Sl Mh}{q2:Int}{L:List (Int)}(h:Df N q0 q1 q2=some L) :Er S Da [] [.reg 0 0,.reg 1 0,.reg 2 0] [.cells ((A9 q0).map .p),.cells [.p (vSl 2 A0 q1)],.cells [pN q2]] (L.map (fun (x:Int)=>[pI .i64 x])):=by
 unfold Df at h;refine Ew hS Tryz.func207 ?_;refine kC hS h (QZ hS hL) (fun y1 h=>?_);refine Fz hS Mg h (fun x2 L1=>⟨[(6,pN x2),(5,.clo S3 [] [.reg 12000 0,.reg 12001 0]),(2,.reg 1 0),(1,.reg 0 0),(0,.yf 3)],[(12001,.cells [.p (vSl 2 A0 y1.2)]),(12000,.cells ((A9 y1.1).map .p)),(3,.yld (L1.map (fun (x:Int)=>[pI .i64 x])) true),(2,.cells [pN q2]),(1,.cells [.p (vSl 2 A0 q1)]),(0,.cells ((A9 q0).map .p))]⟩) (ids:=[(0,0),(1,1),(2,2),(3,3),(12000,12000),(12001,12001)]) (fun _ _ _ _ _ f x2 L1 c h=>?_);apply kI hS h<;>intro h
 .refine Fz hS Mg h (fun x4 L8=>⟨[(26,pN x4),(25,pN (q0.If.n:Int)),(24,.p (vSl 2 A0 q0.If)),(6,pN x2),(5,.clo S3 [] [.reg 12000 0,.reg 12001 0]),(2,.reg 1 0),(1,.reg 0 0),(0,.yf 3)],[(12001,.cells [.p (vSl 2 A0 y1.2)]),(12000,.cells ((A9 y1.1).map .p)),(3,.yld (L8.map (fun (x:Int)=>[pI .i64 x])) true),(2,.cells [pN q2]),(1,.cells [.p (vSl 2 A0 q1)]),(0,.cells ((A9 q0).map .p))]⟩) (ids:=[(0,0),(1,1),(2,2),(3,3),(12000,12000),(12001,12001)]) (fun _ _ _ _ _ i x4 L8 j h=>?_);apply kI hS h<;>intro h
  .obtain⟨c47,h⟩:=E2 h;refine RH hS (And.intro c47 (by decide:(2:Nat)<=2)) 9000 [pI .u32 (q0.If.g x4.toNat).Plus,pI .u32 (q0.If.g x4.toNat).Minus] ?_;refine G8 hS Mg [4,5,6,7] ?_;obtain⟨c48,h⟩:=E2 h;obtain⟨l,e12,h⟩:=B5 h;refine AF (And.intro (And.intro c48 (by decide:(2:Nat)<=2)) (by decide:(2:Nat)<=2)) (IL hS hL e12) ?_;refine O5 Mg ?_;apply kI hS h<;>intro h
   .exact c _ [(0,0),(1,1),(2,2),(3,3),(12000,12000),(12001,12001)] _ (wrap .i64 (x2+1)) L8 Mg h
   exact j _ [(0,0),(1,1),(2,2),(3,3),(12000,12000),(12001,12001)] _ (wrap .i64 (x4+1)) L8 Mg h
  obtain⟨m,e13,h⟩:=B5 h;refine B4 hS [12000,12001] Mg (MB hS hL e13) ?_;refine kG hS h (fun h=>?_) (fun h=>?_)
  .obtain⟨L10,rfl,d⟩:=La h;replace h:=d;refine CF hS Mg (ys:=(fun (x:Int)=>[pI .i64 x]) x2) (rest:=L10.map (fun (x:Int)=>[pI .i64 x])) ?_ ?_
   .refine D1 hS Mg (b:=false) (fun c53=>?_) (fun c53=>?_)
    .exact Bool.noConfusion ((rfl:false=false).symm.trans c53)
    exact c _ [(0,0),(1,1),(2,2),(3,3),(12000,12000),(12001,12001)] _ (wrap .i64 (x2+1)) L10 Mg h
   refine D1 hS Mg (b:=true) (fun c54=>?_) (fun c54=>?_)
   .exact A7 hS Mg (a:=.tup []) (objs:=[(.cells ((A9 q0).map .p)),.cells [.p (vSl 2 A0 q1)],.cells [pN q2],.yld [] false]) ⟨[],[(3,.yld [] false),(2,.cells [pN q2]),(1,.cells [.p (vSl 2 A0 q1)]),(0,.cells ((A9 q0).map .p))]⟩ [0,1,2,3] (ids:=[(0,0),(1,1),(2,2),(3,3)]) ⟨false,rfl,rfl,_,rfl⟩
   exact Bool.noConfusion ((rfl:true=true).symm.trans c54)
  exact c _ [(0,0),(1,1),(2,2),(3,3),(12000,12000),(12001,12001)] _ (wrap .i64 (x2+1)) L8 Mg h
 obtain rfl:=B7 h;exact A7 hS Mg (a:=.tup []) (objs:=[(.cells ((A9 q0).map .p)),.cells [.p (vSl 2 A0 q1)],.cells [pN q2],.yld [] true]) ⟨[],[(3,.yld [] true),(2,.cells [pN q2]),(1,.cells [.p (vSl 2 A0 q1)]),(0,.cells ((A9 q0).map .p))]⟩ [0,1,2,3] (ids:=[(0,0),(1,1),(2,2),(3,3)]) ⟨true,rfl,rfl,_,rfl⟩
def Gh (N:Nat)(b:Law)(c:Sl Mh)(a:Int):Option (Law×(Sl Mh)×Int):= some (b,c,a)
theorem NB {b:Law}{c:Sl Mh}{a:Int}{y:Law×(Sl Mh)×Int}(h:Gh N b c a=some y) :FunO S NA [.p (.agg (A9 b)),.p (vSl 2 A0 c),pN a] [] (.clo Da [] [.reg 0 0,.reg 1 0,.reg 2 0]) ([.cells ((A9 y.1).map .p),.cells [.p (vSl 2 A0 y.2.1)],.cells [pN y.2.2]]) []:=by unfold Gh at h;refine A3 hS Tryz.func197 ?_;obtain rfl:=B7 h;exact A7 hS Mg ⟨[(6,.clo Da [] [.reg 4000 0,.reg 5000 0,.reg 6000 0])],[(6000,.cells [pN a]),(5000,.cells [.p (vSl 2 A0 c)]),(4000,.cells ((A9 b).map .p))]⟩ [4000,5000,6000] (ids:=[(4000,4000),(5000,5000),(6000,6000)]) ⟨rfl,rfl,rfl⟩
def Id (N:Nat)(b:Law)(c:Sl Mh)(a:Int):Option Bool:= (Gh N b c a).bind fun y1=>(Df N y1.1 y1.2.1 y1.2.2).bind fun L1=>Z2 L1 (fun d (x1:Int) (_:Unit)=>some (x1==a)) (fun (_:Unit)=>some false) ()
theorem Rb {b:Law}{c:Sl Mh}{a:Int}{y:Bool}(h:Id N b c a=some y) :FunO S QS [.p (.agg (A9 b)),.p (vSl 2 A0 c),pN a] [] (pB y) ([]) []:=by
 unfold Id at h;refine A3 hS Tryz.func200 ?_;refine kC hS h (NB hS hL) (fun y1 h=>?_);obtain⟨L1,e2,h⟩:=B5 h;refine Ex hS Mg [12000,12001,12002] [6,5] 901 (fun _=>⟨[(6,.reg 7000 0),(5,.reg 6000 0)],[(7000,.cells [.p (.v (.bool false))]),(6000,.cells [pN a])]⟩) (idl:=[(6000,6000),(7000,7000)]) h (Ju hS hL e2) (fun _=>by kernel_rfl) (fun _=>by kernel_rfl) (fun _=>by kernel_rfl) (fun _=>by kernel_rfl) (fun x1 _ d _ f h=>?_) (fun _ h=>?_)
 .refine HH hS Mg ?_;refine OD hS Mg ⟨[(6,.reg 7000 0),(5,.reg 6000 0)],[(7000,.cells [pB (x1==a)]),(6000,.cells [pN a])]⟩ (ids:=[(901,901),(6000,6000),(7000,7000)]) ?_;cases h;exact kR hS
 cases h;exact kR hS
def GZ (N:Nat)(q0:Sl Mh)(q1:Law)(q2:Int)(q3:Int):Option (List (Int×(Sl Mh))):= if (q1.Mode==1) then (Gh N q1 q0 0).bind fun y1=>(Df N y1.1 y1.2.1 y1.2.2).bind fun L1=>Z2 L1 (fun b (x1:Int) (z1:(Sl Mh)×Int×Int)=>if (decide (x1<z1.2.1)) then b (z1.1,z1.2.1,z1.2.2) else if (((0:Int)<=(wrap .i64 (x1+z1.2.2))/\(wrap .i64 (x1+z1.2.2))<=(z1.1.n:Int))/\((0:Int)<=x1/\x1<=(wrap .i64 (x1+q2))/\(wrap .i64 (x1+q2))<=(q0.n:Int)))then (Ib N q1 (q0.sub x1.toNat (wrap .i64 (x1+q2)).toNat)).bind fun y6=>if ((0:Int)<=(wrap .i64 (x1+q2))/\(wrap .i64 (x1+q2))<=(q0.n:Int))then (D8 N (Sl.of [z1.1.take (wrap .i64 (x1+z1.2.2)).toNat,y6,q0.drop (wrap .i64 (x1+q2)).toNat]:Sl (Sl Mh))).bind fun y7=>Fo (x1,y7) (b (y7,wrap .i64 (x1+(if q2<1 then 1 else q2)),wrap .i64 ((wrap .i64 (z1.2.2+q3))-q2))) else none else none) (fun (z1:(Sl Mh)×Int×Int)=>some []) (q0,0,0) else if (q1.Mode==2) then Bq N (fun a (x5:Sl Mh) (x6:Int)=>if (decide ((wrap .i64 (x6+q2))<=(x5.n:Int))) then (Id N q1 x5 x6).bind fun g=>if (!g) then a x5 (wrap .i64 (x6+1)) else (Ci N q1 x5 x6).bind fun d=>Fo (x6,d) (if (q2==0) then a d (wrap .i64 ((wrap .i64 (x6+q3))+1)) else a d (wrap .i64 (x6+q3))) else some []) q0 0 else if (q1.Mode==3) then Bq N (fun c (x7:Sl Mh) (x8:Int)=>if (decide (0<=x8)) then (Id N q1 x7 x8).bind fun i=>if (!i) then c x7 (wrap .i64 (x8-1)) else (Ci N q1 x7 x8).bind fun f=>Fo (x8,f) (c f (wrap .i64 (x8-(if q2<1 then 1 else q2)))) else some []) q0 (wrap .i64 ((q0.n:Int)-q2)) else some []
theorem Tc {q0:Sl Mh}{q1:Law}{q2:Int}{q3:Int}{L:List (Int×(Sl Mh))}(h:GZ N q0 q1 q2 q3=some L) :Er S EB [] [.reg 0 0,.reg 1 0,.reg 2 0,.reg 3 0] [.cells [.p (vSl 2 A0 q0)],.cells ((A9 q1).map .p),.cells [pN q2],.cells [pN q3]] (L.map (fun (x:Int×(Sl Mh))=>[pI .i64 x.1,vSl 2 A0 x.2])):=by
 unfold GZ at h;refine Ew hS Tryz.func196 ?_;apply kI hS h<;>intro h
 .refine kC hS h (NB hS hL) (fun y1 h=>?_);obtain⟨L1,e2,h⟩:=B5 h;refine ZH hS Mg [20000,20001,20002] [8,7,6,5,4,3,2,1] 900 (fun z1 L2=>⟨[(8,.reg 9000 0),(7,.reg 8000 0),(6,.reg 7000 0),(5,.reg 6000 0),(4,.reg 3 0),(3,.reg 2 0),(2,.reg 1 0),(1,.reg 0 0)],[(9000,.cells [pN z1.2.2]),(8000,.cells [pN z1.2.1]),(7000,.cells [.p (vSl 2 A0 z1.1)]),(6000,.cells [.yf 4]),(4,.yld (L2.map (fun (x:Int×(Sl Mh))=>[pI .i64 x.1,vSl 2 A0 x.2])) true),(3,.cells [pN q3]),(2,.cells [pN q2]),(1,.cells ((A9 q1).map .p)),(0,.cells [.p (vSl 2 A0 q0)])]⟩) (idl:=[(0,0),(1,1),(2,2),(3,3),(4,4),(6000,6000),(7000,7000),(8000,8000),(9000,9000)]) h (Ju hS hL e2) (fun _=>by kernel_rfl) (fun _ _=>by kernel_rfl) (fun _ _=>by kernel_rfl) (fun _ _=>by kernel_rfl) (fun x1 _ s z1 L2 j h=>?_) (fun z1 L2 h=>?_)
  .refine HH hS Mg ?_;apply kI hS h<;>intro h
   .exact j _ [(0,0),(1,1),(2,2),(3,3),(4,4),(900,900),(6000,6000),(7000,7000),(8000,8000),(9000,9000)] _ (z1.1,z1.2.1,z1.2.2) L2 Mg h
   refine X1 hS Mg [(0,.l [7000]),(2,.l [9000]),(5,.l [1]),(6,.l [0]),(9,.l [2]),(12,.n),(13,.l [0]),(15,.l [2]),(20,.a [7000])] ?_;obtain⟨c13,h⟩:=E2 h;obtain⟨y6,e7,h⟩:=B5 h;refine AF c13 (Ra hS hL e7) ?_;obtain⟨c14,h⟩:=E2 h;refine AE c14 (x:=.sl true 1 3 (D0 [E9] [(0,cL 2 A0 (z1.1.take (wrap .i64 (x1+z1.2.2)).toNat)),(1,cL 2 A0 y6),(2,cL 2 A0 (q0.drop (wrap .i64 (x1+q2)).toNat))])) ?_;obtain⟨y7,e8,h⟩:=B5 h;refine Th [] Mg (FunO.le hS (args:=[.p (.sl true 1 3 (D0 [E9] [(0,cL 2 A0 (z1.1.take (wrap .i64 (x1+z1.2.2)).toNat)),(1,cL 2 A0 y6),(2,cL 2 A0 (q0.drop (wrap .i64 (x1+q2)).toNat))]))]) (by exact⟨Aa9 rfl (fun i t=>match i,t with|0,_=>rfl|1,_=>rfl|2,_=>rfl|_+3,t=>Lq t (by omega)),trivial⟩) (K0 hS hL e8)) ?_;refine O5 Mg ?_;obtain⟨L5,rfl,m⟩:=La h;replace h:=m;refine CF hS Mg (ys:=(fun (x:Int×(Sl Mh))=>[pI .i64 x.1,vSl 2 A0 x.2]) (x1,y7)) (rest:=L5.map (fun (x:Int×(Sl Mh))=>[pI .i64 x.1,vSl 2 A0 x.2])) ?_ ?_
   .refine D1 hS Mg (b:=false) (fun c15=>?_) (fun c15=>?_)
    .exact Bool.noConfusion ((rfl:false=false).symm.trans c15)
    refine X1 hS Mg [(1,.l [2]),(4,.l [9000]),(5,.l [3]),(7,.l [2]),(9,.a [8000]),(10,.a [9000])] ?_;refine O5 Mg ?_;exact j _ [(0,0),(1,1),(2,2),(3,3),(4,4),(900,900),(6000,6000),(7000,7000),(8000,8000),(9000,9000)] _ (y7,wrap .i64 (x1+(if q2<1 then 1 else q2)),wrap .i64 ((wrap .i64 (z1.2.2+q3))-q2)) L5 Mg h
   refine D1 hS Mg (b:=true) (fun c16=>?_) (fun c16=>?_)
   .refine OD hS Mg ⟨[(8,.reg 9000 0),(7,.reg 8000 0),(6,.reg 7000 0),(5,.reg 6000 0),(4,.reg 3 0),(3,.reg 2 0),(2,.reg 1 0),(1,.reg 0 0)],[(44000,.vec D4 2 y7.n (fun i=>A0 (y7.g i)) true),(9000,.cells [pN z1.2.2]),(8000,.cells [pN z1.2.1]),(7000,.cells [.vec 44000]),(6000,.cells [.yf 4]),(4,.yld [] false),(3,.cells [pN q3]),(2,.cells [pN q2]),(1,.cells ((A9 q1).map .p)),(0,.cells [.p (vSl 2 A0 q0)])]⟩ (ids:=[(0,0),(1,1),(2,2),(3,3),(4,4),(900,900),(6000,6000),(7000,7000),(8000,8000),(9000,9000),(44000,44000)]) ?_;exact A7 hS Mg (a:=.tup []) (objs:=[(.cells [.p (vSl 2 A0 q0)]),.cells ((A9 q1).map .p),.cells [pN q2],.cells [pN q3],.yld [] false]) ⟨[],[(4,.yld [] false),(3,.cells [pN q3]),(2,.cells [pN q2]),(1,.cells ((A9 q1).map .p)),(0,.cells [.p (vSl 2 A0 q0)])]⟩ [0,1,2,3,4] (ids:=[(0,0),(1,1),(2,2),(3,3),(4,4)]) ⟨false,rfl,rfl,_,rfl⟩
   exact Bool.noConfusion ((rfl:true=true).symm.trans c16)
  obtain rfl:=B7 h;exact A7 hS Mg (a:=.tup []) (objs:=[(.cells [.p (vSl 2 A0 q0)]),.cells ((A9 q1).map .p),.cells [pN q2],.cells [pN q3],.yld [] true]) ⟨[],[(4,.yld [] true),(3,.cells [pN q3]),(2,.cells [pN q2]),(1,.cells ((A9 q1).map .p)),(0,.cells [.p (vSl 2 A0 q0)])]⟩ [0,1,2,3,4] (ids:=[(0,0),(1,1),(2,2),(3,3),(4,4)]) ⟨true,rfl,rfl,_,rfl⟩
 apply kI hS h<;>intro h
 .refine Oz hS Mg h (fun x5 x6 L6=>⟨[(10,pN x6),(6,.reg 7000 0),(5,.reg 6000 0),(4,.reg 3 0),(3,.reg 2 0),(2,.reg 1 0)],[(7000,.cells [.p (vSl 2 A0 x5)]),(6000,.cells [.yf 4]),(4,.yld (L6.map (fun (x:Int×(Sl Mh))=>[pI .i64 x.1,vSl 2 A0 x.2])) true),(3,.cells [pN q3]),(2,.cells [pN q2]),(1,.cells ((A9 q1).map .p)),(0,.cells [.p (vSl 2 A0 q0)])]⟩) (ids:=[(0,0),(1,1),(2,2),(3,3),(4,4),(6000,6000),(7000,7000)]) (fun _ _ _ _ _ u x5 x6 L6 c h=>?_);apply kI hS h<;>intro h
  .refine kC hS h (Rb hS hL) (fun w h=>?_);apply kI hS h<;>intro h
   .exact c _ [(0,0),(1,1),(2,2),(3,3),(4,4),(6000,6000),(7000,7000)] _ x5 (wrap .i64 (x6+1)) L6 Mg h
   refine kC hS h (Ic hS hL) (fun d h=>?_);obtain⟨L9,rfl,o⟩:=La h;replace h:=o;refine CF hS Mg (ys:=(fun (x:Int×(Sl Mh))=>[pI .i64 x.1,vSl 2 A0 x.2]) (x6,d)) (rest:=L9.map (fun (x:Int×(Sl Mh))=>[pI .i64 x.1,vSl 2 A0 x.2])) ?_ ?_
   .refine D1 hS Mg (b:=false) (fun c30=>?_) (fun c30=>?_)
    .exact Bool.noConfusion ((rfl:false=false).symm.trans c30)
    apply kI hS h<;>intro h
    .exact c _ [(0,0),(1,1),(2,2),(3,3),(4,4),(6000,6000),(7000,7000)] _ d (wrap .i64 ((wrap .i64 (x6+q3))+1)) L9 Mg h
    exact c _ [(0,0),(1,1),(2,2),(3,3),(4,4),(6000,6000),(7000,7000)] _ d (wrap .i64 (x6+q3)) L9 Mg h
   refine D1 hS Mg (b:=true) (fun c32=>?_) (fun c32=>?_)
   .exact A7 hS Mg (a:=.tup []) (objs:=[(.cells [.p (vSl 2 A0 q0)]),.cells ((A9 q1).map .p),.cells [pN q2],.cells [pN q3],.yld [] false]) ⟨[],[(4,.yld [] false),(3,.cells [pN q3]),(2,.cells [pN q2]),(1,.cells ((A9 q1).map .p)),(0,.cells [.p (vSl 2 A0 q0)])]⟩ [0,1,2,3,4] (ids:=[(0,0),(1,1),(2,2),(3,3),(4,4)]) ⟨false,rfl,rfl,_,rfl⟩
   exact Bool.noConfusion ((rfl:true=true).symm.trans c32)
  obtain rfl:=B7 h;exact A7 hS Mg (a:=.tup []) (objs:=[(.cells [.p (vSl 2 A0 q0)]),.cells ((A9 q1).map .p),.cells [pN q2],.cells [pN q3],.yld [] true]) ⟨[],[(4,.yld [] true),(3,.cells [pN q3]),(2,.cells [pN q2]),(1,.cells ((A9 q1).map .p)),(0,.cells [.p (vSl 2 A0 q0)])]⟩ [0,1,2,3,4] (ids:=[(0,0),(1,1),(2,2),(3,3),(4,4)]) ⟨true,rfl,rfl,_,rfl⟩
 apply kI hS h<;>intro h
 .refine Oz hS Mg h (fun x7 x8 L10=>⟨[(11,pN x8),(6,.reg 7000 0),(5,.reg 6000 0),(3,.reg 2 0),(2,.reg 1 0)],[(7000,.cells [.p (vSl 2 A0 x7)]),(6000,.cells [.yf 4]),(4,.yld (L10.map (fun (x:Int×(Sl Mh))=>[pI .i64 x.1,vSl 2 A0 x.2])) true),(3,.cells [pN q3]),(2,.cells [pN q2]),(1,.cells ((A9 q1).map .p)),(0,.cells [.p (vSl 2 A0 q0)])]⟩) (ids:=[(0,0),(1,1),(2,2),(3,3),(4,4),(6000,6000),(7000,7000)]) (fun _ _ _ _ _ v x7 x8 L10 q h=>?_);apply kI hS h<;>intro h
  .refine kC hS h (Rb hS hL) (fun y h=>?_);apply kI hS h<;>intro h
   .exact q _ [(0,0),(1,1),(2,2),(3,3),(4,4),(6000,6000),(7000,7000)] _ x7 (wrap .i64 (x8-1)) L10 Mg h
   refine kC hS h (Ic hS hL) (fun r h=>?_);obtain⟨L13,rfl,f⟩:=La h;replace h:=f;refine CF hS Mg (ys:=(fun (x:Int×(Sl Mh))=>[pI .i64 x.1,vSl 2 A0 x.2]) (x8,r)) (rest:=L13.map (fun (x:Int×(Sl Mh))=>[pI .i64 x.1,vSl 2 A0 x.2])) ?_ ?_
   .refine D1 hS Mg (b:=false) (fun c44=>?_) (fun c44=>?_)
    .exact Bool.noConfusion ((rfl:false=false).symm.trans c44)
    exact q _ [(0,0),(1,1),(2,2),(3,3),(4,4),(6000,6000),(7000,7000)] _ r (wrap .i64 (x8-(if q2<1 then 1 else q2))) L13 Mg h
   refine D1 hS Mg (b:=true) (fun c45=>?_) (fun c45=>?_)
   .exact A7 hS Mg (a:=.tup []) (objs:=[(.cells [.p (vSl 2 A0 q0)]),.cells ((A9 q1).map .p),.cells [pN q2],.cells [pN q3],.yld [] false]) ⟨[],[(4,.yld [] false),(3,.cells [pN q3]),(2,.cells [pN q2]),(1,.cells ((A9 q1).map .p)),(0,.cells [.p (vSl 2 A0 q0)])]⟩ [0,1,2,3,4] (ids:=[(0,0),(1,1),(2,2),(3,3),(4,4)]) ⟨false,rfl,rfl,_,rfl⟩
   exact Bool.noConfusion ((rfl:true=true).symm.trans c45)
  obtain rfl:=B7 h;exact A7 hS Mg (a:=.tup []) (objs:=[(.cells [.p (vSl 2 A0 q0)]),.cells ((A9 q1).map .p),.cells [pN q2],.cells [pN q3],.yld [] true]) ⟨[],[(4,.yld [] true),(3,.cells [pN q3]),(2,.cells [pN q2]),(1,.cells ((A9 q1).map .p)),(0,.cells [.p (vSl 2 A0 q0)])]⟩ [0,1,2,3,4] (ids:=[(0,0),(1,1),(2,2),(3,3),(4,4)]) ⟨true,rfl,rfl,_,rfl⟩
 obtain rfl:=B7 h;exact A7 hS Mg (a:=.tup []) (objs:=[(.cells [.p (vSl 2 A0 q0)]),.cells ((A9 q1).map .p),.cells [pN q2],.cells [pN q3],.yld [] true]) ⟨[],[(4,.yld [] true),(3,.cells [pN q3]),(2,.cells [pN q2]),(1,.cells ((A9 q1).map .p)),(0,.cells [.p (vSl 2 A0 q0)])]⟩ [0,1,2,3,4] (ids:=[(0,0),(1,1),(2,2),(3,3),(4,4)]) ⟨true,rfl,rfl,_,rfl⟩
def LI (N:Nat)(a:Law)(b:Sl Mh):Option ((Sl Mh)×Law×Int×Int):= some (b,a,(a.If.n:Int),(a.Out.n:Int))
theorem Ye {b:Law}{c:Sl Mh}{y:(Sl Mh)×Law×Int×Int}(h:LI N b c=some y) :FunO S QP [.p (.agg (A9 b)),.p (vSl 2 A0 c)] [] (.clo EB [] [.reg 0 0,.reg 1 0,.reg 2 0,.reg 3 0]) ([.cells [.p (vSl 2 A0 y.1)],.cells ((A9 y.2.1).map .p),.cells [pN y.2.2.1],.cells [pN y.2.2.2]]) []:=by unfold LI at h;refine A3 hS Tryz.func190 ?_;refine X1 hS Mg [(1,.l [3000]),(2,.n),(4,.l [3000]),(5,.n),(6,.a [6000]),(7,.a [7000]),(8,.a [6000]),(9,.a [7000])] ?_;refine O5 Mg ?_;obtain rfl:=B7 h;exact A7 hS Mg ⟨[(4,.clo EB [] [.reg 4000 0,.reg 3000 0,.reg 6000 0,.reg 7000 0])],[(7000,.cells [pN (b.Out.n:Int)]),(6000,.cells [pN (b.If.n:Int)]),(4000,.cells [.p (vSl 2 A0 c)]),(3000,.cells ((A9 b).map .p))]⟩ [4000,3000,6000,7000] (ids:=[(3000,3000),(4000,4000),(6000,6000),(7000,7000)]) ⟨rfl,rfl,rfl⟩
def Ha (N:Nat)(b:Law)(c:Sl Mh):Option ((Sl Int)×(Sl (Sl Mh))×Int):= (GY N b c).bind fun y1=>if (y1 != 0) then some ((Sl.nil:Sl Int),(Sl.nil:Sl (Sl Mh)),y1) else (LI N b c).bind fun y2=>(GZ N y2.1 y2.2.1 y2.2.2.1 y2.2.2.2).bind fun L1=>Z2 L1 (fun a (x1:Int×(Sl Mh)) (z1:(Sl Int)×(Sl (Sl Mh)))=>if (decide (32<(x1.2.n:Int))) then some ((Sl.nil:Sl Int),(Sl.nil:Sl (Sl Mh)),11) else if ((z1.1.n+(Sl.of [x1.1]:Sl Int).n)*8<=140737488355328/\z1.1.n+(Sl.of [x1.1]:Sl Int).n<=140737488355328)then if ((z1.2.n+(Sl.of [x1.2]:Sl (Sl Mh)).n)*24<=140737488355328/\z1.2.n+(Sl.of [x1.2]:Sl (Sl Mh)).n<=140737488355328)then a (z1.1.push x1.1,z1.2.push x1.2) else none else none) (fun (z1:(Sl Int)×(Sl (Sl Mh)))=>some (z1.1,z1.2,0)) ((Sl.nil:Sl Int),(Sl.nil:Sl (Sl Mh)))
theorem Td {b:Law}{d:Sl Mh}{y:(Sl Int)×(Sl (Sl Mh))×Int}(h:Ha N b d=some y) :FunO S Ls [.p (.agg (A9 b)),.p (vSl 2 A0 d)] [] (.tup [.vec 0,.vec 1,pN y.2.2]) ([.vec C4 1 y.1.n (fun i=>cI .i64 (y.1.g i)) true,.vec P6 1 y.2.1.n (fun i=>cL 2 A0 (y.2.1.g i)) true]) []:=by
 unfold Ha at h;refine A3 hS Tryz.func182 ?_;refine I1 hS Mg 4 3000 (A9 b) ?_;obtain⟨y1,e1,h⟩:=B5 h;refine B4 hS [] (by decide:(18:Nat)<=18) (Tb hS hL e1) ?_;apply kI hS h<;>intro h
 .obtain rfl:=B7 h;exact A7 hS Mg ⟨[(6,.reg 7000 0),(5,.reg 6000 0),(4,.reg 5000 0)],[(7000,.cells [pN y1]),(6701,.vec P6 1 (Sl.nil:Sl (Sl Mh)).n (fun i=>cL 2 A0 ((Sl.nil:Sl (Sl Mh)).g i)) true),(6000,.cells [.vec 6701]),(5700,.vec C4 1 (Sl.nil:Sl Int).n (fun i=>cI .i64 ((Sl.nil:Sl Int).g i)) true),(5000,.cells [.vec 5700])]⟩ [5700,6701] (ids:=[(5000,5000),(6000,6000),(7000,7000)]) ⟨rfl,rfl,rfl⟩
 obtain⟨y2,e2,h⟩:=B5 h;refine B4 hS [] (by decide:(18:Nat)<=18) (Ye hS hL e2) ?_;obtain⟨L1,e3,h⟩:=B5 h;refine Ex hS Mg [21000,21001,21002,21003] [9,8,6,5,4] 901 (fun z1=>⟨[(9,.reg 10000 0),(8,.reg 9000 0),(6,.reg 7000 0),(5,.reg 6000 0),(4,.reg 5000 0)],[(10500,.vec P6 1 z1.2.n (fun i=>cL 2 A0 (z1.2.g i)) false),(10000,.cells [.vec 10500]),(9500,.vec C4 1 z1.1.n (fun i=>cI .i64 (z1.1.g i)) false),(9000,.cells [.vec 9500]),(7000,.cells [pN 0]),(6000,.cells [.p E9]),(5000,.cells [.p E9])]⟩) (idl:=[(5000,5000),(6000,6000),(7000,7000),(9000,9000),(10000,10000)]) h (Tc hS hL e3) (fun _=>by kernel_rfl) (fun _=>by kernel_rfl) (fun _=>by kernel_rfl) (fun _=>by kernel_rfl) (fun x1 _ f z1 j h=>?_) (fun z1 h=>?_)
 .refine HH hS Mg ?_;apply kI hS h<;>intro h
  .refine OD hS Mg ⟨[(9,.reg 10000 0),(8,.reg 9000 0),(6,.reg 7000 0),(5,.reg 6000 0),(4,.reg 5000 0)],[(10500,.vec P6 1 z1.2.n (fun i=>cL 2 A0 (z1.2.g i)) false),(10000,.cells [.vec 10500]),(9500,.vec C4 1 z1.1.n (fun i=>cI .i64 (z1.1.g i)) false),(9000,.cells [.vec 9500]),(7000,.cells [pN 11]),(6000,.cells [.p E9]),(5000,.cells [.p E9])]⟩ (ids:=[(901,901),(5000,5000),(6000,6000),(7000,7000),(9000,9000),(9500,9500),(10000,10000),(10500,10500)]) ?_;obtain rfl:=B7 h;exact A7 hS Mg ⟨[(6,.reg 7000 0),(5,.reg 6000 0),(4,.reg 5000 0)],[(7000,.cells [pN 11]),(6701,.vec P6 1 (Sl.nil:Sl (Sl Mh)).n (fun i=>cL 2 A0 ((Sl.nil:Sl (Sl Mh)).g i)) true),(6000,.cells [.vec 6701]),(5700,.vec C4 1 (Sl.nil:Sl Int).n (fun i=>cI .i64 ((Sl.nil:Sl Int).g i)) true),(5000,.cells [.vec 5700])]⟩ [5700,6701] (ids:=[(5000,5000),(6000,6000),(7000,7000)]) ⟨rfl,rfl,rfl⟩
  refine X1 hS Mg [(0,.l [9000]),(3,.a [30000,9500]),(4,.l [10000]),(7,.a [34000,10500]),(8,.a [9000]),(9,.a [10000])] ?_;refine AE Mg (x:=.sl true 1 1 (D0 [pI .i64 0] [(0,cI .i64 x1.1)])) ?_;obtain⟨c9,h⟩:=E2 h;refine AE c9 (x:=.sl true 1 1 (D0 [E9] [(0,cL 2 A0 x1.2)])) ?_;obtain⟨c10,h⟩:=E2 h;refine O5 c10 ?_;exact j _ [(901,901),(5000,5000),(6000,6000),(7000,7000),(9000,9000),(9500,30000),(10000,10000),(10500,34000)] _ (z1.1.push x1.1,z1.2.push x1.2) Mg h (hle:=klR [(0,.fn (z1.2.n+1) (z1.2.push x1.2).n (AA z1.2.n (fun i=>cL 2 A0 (z1.2.g i)) (D0 [E9] [(0,cL 2 A0 x1.2)])) (fun i=>cL 2 A0 ((z1.2.push x1.2).g i))),(1,.fn (z1.1.n+1) (z1.1.push x1.1).n (AA z1.1.n (fun i=>cI .i64 (z1.1.g i)) (D0 [pI .i64 0] [(0,cI .i64 x1.1)])) (fun i=>cI .i64 ((z1.1.push x1.1).g i)))] (al1 ⟨rfl,Kj (c:=cL 2 A0) (v:=z1.2) (x:=x1.2) (z:=[E9]) same rfl rfl⟩ (al1 ⟨rfl,Kj (c:=cI .i64) (v:=z1.1) (x:=x1.1) (z:=[(pI .i64 0)]) same rfl rfl⟩ al0)))
 refine X1 hS Mg [(0,.l [9000]),(1,.l [10000]),(2,.a [5000]),(3,.a [6000]),(4,.a [7000])] ?_;refine O5 Mg ?_;obtain rfl:=B7 h;exact A7 hS Mg ⟨[(6,.reg 7000 0),(5,.reg 6000 0),(4,.reg 5000 0)],[(10500,.vec P6 1 z1.2.n (fun i=>cL 2 A0 (z1.2.g i)) true),(9500,.vec C4 1 z1.1.n (fun i=>cI .i64 (z1.1.g i)) true),(7000,.cells [pN 0]),(6000,.cells [.vec 10500]),(5000,.cells [.vec 9500])]⟩ [9500,10500] (ids:=[(5000,5000),(6000,6000),(7000,7000),(9500,9500),(10500,10500)]) ⟨rfl,rfl,rfl⟩
def Hb (N:Nat)(b:Law)(a:Sl Mh):Option ((Sl Mh)×Int):= (Ha N b a).bind fun y1=>if (y1.2.2 != 0) then some ((Sl.nil:Sl Mh),y1.2.2) else if (decide (0<(y1.2.1.n:Int))) then if (((0:Int)<=(wrap .i64 ((y1.2.1.n:Int)-1))/\(wrap .i64 ((y1.2.1.n:Int)-1))<(y1.2.1.n:Int))/\(wrap .i64 ((y1.2.1.n:Int)-1)).toNat<y1.2.1.n)then some (y1.2.1.g (wrap .i64 ((y1.2.1.n:Int)-1)).toNat,0) else none else (B3 N a).bind fun y2=>some (y2,0)
theorem Te {a:Law}{b:Sl Mh}{y:(Sl Mh)×Int}(h:Hb N a b=some y) :FunO S Lr [.p (.agg (A9 a)),.p (vSl 2 A0 b)] [] (.tup [.p (vSl 2 A0 y.1),pN y.2]) ([]) []:=by
 unfold Hb at h;refine A3 hS Tryz.func176 ?_;refine kC hS h (Td hS hL) (fun y1 h=>?_);apply kI hS h<;>intro h
 .obtain rfl:=B7 h;exact A7 hS Mg ⟨[(5,pN y1.2.2),(4,.p (vSl 2 A0 (Sl.nil:Sl Mh)))],[]⟩ [] (ids:=[]) ⟨rfl,rfl,rfl⟩
 apply kI hS h<;>intro h
 .obtain⟨c3,h⟩:=E2 h;obtain rfl:=B7 h;exact UQ hS c3 [] ⟨rfl,rfl,rfl⟩
 refine kC hS h (L0 hS hL) (fun y2 h=>?_);obtain rfl:=B7 h;exact A7 hS Mg ⟨[(5,pN 0),(4,.p (vSl 2 A0 y2))],[]⟩ [] (ids:=[]) ⟨rfl,rfl,rfl⟩
end Go.AM
namespace Go.AM
variable {N:Nat}
open IntKind (wrap)
open Go.Proofs
set_option maxRecDepth 10000
set_option maxHeartbeats 2000000
variable {S:Q7}(hS:F4 S Tryz.prog) (hL:Ig S)
include hS hL
def BO (N:Nat)(a:Law):Option Bool:= (R5 N a).bind fun y1=>some (y1 != 0)
theorem JJ {a:Law}{y:Bool}(h:BO N a=some y) :FunO S EZ [.p (.agg (A9 a))] [] (pB y) ([]) []:=by unfold BO at h;refine A3 hS Tryz.func160 ?_;refine kC hS h (Ej hS hL) (fun y1 h=>?_);cases h;exact kR hS
def F9 (N:Nat)(a:Sl Law)(c:Law->Option Bool):Option Int:= At N (fun b (x1:Int)=>if (decide (x1<(a.n:Int))) then if ((0:Int)<=x1/\x1<(a.n:Int))then (c (a.g x1.toNat)).bind fun y3=>if y3 then some x1 else b (wrap .i64 (x1+1)) else none else some (-1)) 0
theorem Y9 {a:Sl Law}{c:Law->Option Bool}{kp_f:Nat}(d:∀{a0:Law}{b:Bool},c a0=some b->FunO S kp_f [.p (.agg (A9 a0))] [] (pB b) [] []){y:Int}(h:F9 N a c=some y) :FunO S K9 [.p (vSl 18 A9 a),.clo kp_f [] []] [] (pN y) ([]) []:=by
 unfold F9 at h;refine A3 hS Tryz.func174 ?_;refine N0 hS Mg h (fun x1=>⟨[(8,pN x1),(7,pN (a.n:Int)),(1,.clo kp_f [] []),(0,.p (vSl 18 A9 a))],[]⟩) (ids:=[]) (fun _ _ _ _ _ f x1 g h=>?_);apply kI hS h<;>intro h
 .obtain⟨c8,h⟩:=E2 h;obtain⟨y3,e3,h⟩:=B5 h;refine B4 hS [] (And.intro c8 (by decide:(18:Nat)<=18)) (d e3) ?_;apply kI hS h<;>intro h
  .cases h;exact kR hS
  exact g _ [] _ (wrap .i64 (x1+1)) Mg h
 cases h;exact kR hS
def F1 (N:Nat)(a:Sl Law)(b:Law->Option Bool):Option Bool:= (F9 N a b).bind fun y1=>some (decide (0<=y1))
theorem T2 {a:Sl Law}{c:Law->Option Bool}{kp_f:Nat}(d:∀{a0:Law}{b:Bool},c a0=some b->FunO S kp_f [.p (.agg (A9 a0))] [] (pB b) [] []){y:Bool}(h:F1 N a c=some y) :FunO S I9 [.p (vSl 18 A9 a),.clo kp_f [] []] [] (pB y) ([]) []:=by unfold F1 at h;refine A3 hS Tryz.func159 ?_;refine kC hS h (Y9 hS hL (fun e=>d e)) (fun y1 h=>?_);cases h;exact kR hS
def Dv (N:Nat)(a:Sl Law):Option Int:= if (decide (64<(a.n:Int))) then some 12 else (F1 N a (fun (u1:Law)=>BO N u1)).bind fun y1=>if y1 then some 17 else some 0
theorem MC {a:Sl Law}{y:Int}(h:Dv N a=some y) :FunO S GB [.p (vSl 18 A9 a)] [] (pN y) ([]) []:=by
 unfold Dv at h;refine A3 hS Tryz.func139 ?_;apply kI hS h<;>intro h
 .cases h;exact kR hS
 refine kC hS h (T2 hS hL (fun e=>JJ hS hL e)) (fun y1 h=>?_);apply kI hS h<;>intro h
 .cases h;exact kR hS
 cases h;exact kR hS
def Dw (N:Nat)(b:Sl Law)(a:Sl (Sl Mh)):Option Int:= (Dv N b).bind fun y1=>if (y1 != 0) then some y1 else if (decide (256<(a.n:Int))) then some 12 else At N (fun c (x1:Int)=>if (decide (x1<(a.n:Int))) then if ((0:Int)<=x1/\x1<(a.n:Int))then (BA N (a.g x1.toNat)).bind fun y4=>if (y4 != 0) then some y4 else c (wrap .i64 (x1+1)) else none else some 0) 0
theorem MD {b:Sl Law}{a:Sl (Sl Mh)}{y:Int}(h:Dw N b a=some y) :FunO S GA [.p (vSl 18 A9 b),.p (vSl 1 (cL 2 A0) a)] [] (pN y) ([]) []:=by
 unfold Dw at h;refine A3 hS Tryz.func111 ?_;refine kC hS h (MC hS hL) (fun y1 h=>?_);apply kI hS h<;>intro h
 .cases h;exact kR hS
 apply kI hS h<;>intro h
 .cases h;exact kR hS
 refine N0 hS Mg h (fun x1=>⟨[(19,pN x1),(18,pN (a.n:Int)),(17,.p (vSl 1 (cL 2 A0) a))],[]⟩) (ids:=[]) (fun _ _ _ _ _ c x1 d h=>?_);apply kI hS h<;>intro h
 .obtain⟨c10,h⟩:=E2 h;obtain⟨y4,e4,h⟩:=B5 h;refine B4 hS [] c10 (FQ hS hL e4) ?_;apply kI hS h<;>intro h
  .cases h;exact kR hS
  exact d _ [] _ (wrap .i64 (x1+1)) Mg h
 cases h;exact kR hS
end Go.AM
namespace Go.AM
variable {N:Nat}
open IntKind (wrap)
open Go.Proofs
set_option maxRecDepth 10000
set_option maxHeartbeats 2000000
variable {S:Q7}(hS:F4 S Tryz.prog) (hL:Ig S)
include hS hL
def ZT (c:Int):Option PV:=if c=0 then none else some (.iface 210 (pI .i64 c))
def BP (N:Nat)(c:Int)(q0:Sl Mh)(q1:Sl Law):Option (List (Int×(Sl Mh))):= (B3 N q0).bind fun y1=>Fo (0,y1) (Bq N (fun a (x1:Sl Mh) (x2:Int)=>if (decide (x2<(q1.n:Int))) then if ((0:Int)<=x2/\x2<(q1.n:Int))then (Hb N (q1.g x2.toNat) x1).bind fun y4=>if (y4.2 != 0) then if y4.2=c then some []else none else Fo (wrap .i64 (x2+1),y4.1) (a y4.1 (wrap .i64 (x2+1))) else none else if c=0 then some []else none) y1 0)
theorem Fb {q0:Sl Mh}{q1:Sl Law}{c:Int}{L:List (Int×(Sl Mh))}(h:BP N c q0 q1=some L) :Lc S O6 [] [.reg 0 0,.reg 1 0] [.cells [.p (vSl 2 A0 q0)],.cells [.p (vSl 18 A9 q1)]] (L.map (fun (x:Int×(Sl Mh))=>[pI .i64 x.1,vSl 2 A0 x.2])) (ZT c):=by
 unfold BP at h;refine XW hS Tryz.func175 ?_;refine kC hS h (L0 hS hL) (fun y1 h=>?_);obtain⟨L1,rfl,d⟩:=La h;replace h:=d;refine CF hS Mg (ys:=(fun (x:Int×(Sl Mh))=>[pI .i64 x.1,vSl 2 A0 x.2]) (0,y1)) (rest:=L1.map (fun (x:Int×(Sl Mh))=>[pI .i64 x.1,vSl 2 A0 x.2])) ?_ ?_
 .refine D1 hS Mg (b:=false) (fun c1=>?_) (fun c1=>?_)
  .exact Bool.noConfusion ((rfl:false=false).symm.trans c1)
  refine Oz hS Mg h (fun x1 x2 L2=>⟨[(17,pN x2),(16,pN (q1.n:Int)),(15,.p (vSl 18 A9 q1)),(4,.p (vSl 2 A0 x1)),(0,.yf 2)],[(2,.yld (L2.map (fun (x:Int×(Sl Mh))=>[pI .i64 x.1,vSl 2 A0 x.2])) true),(1,.cells [.p (vSl 18 A9 q1)]),(0,.cells [.p (vSl 2 A0 q0)])]⟩) (ids:=[(0,0),(1,1),(2,2)]) (fun _ _ _ _ _ g x1 x2 L2 i h=>?_);apply kI hS h<;>intro h
  .obtain⟨c13,h⟩:=E2 h;obtain⟨y4,e4,h⟩:=B5 h;refine B4 hS [] (And.intro c13 (by decide:(18:Nat)<=18)) (Te hS hL e4) ?_;refine D1 hS Mg (b:=y4.2 != 0) (fun c14=>?_) (fun c14=>?_)
   .replace h:=itT c14 h;obtain⟨c0,h⟩:=E2 h;obtain rfl:=B7 h;have j:ZT c=some (.iface 210 (pI .i64 y4.2)):=by
     have:¬y4.2=0:=by simpa using c14
     rw[<- c0];simp[ZT,this]
    refine Aj5 hS Mg (x:=.iface 210 (pI .i64 y4.2)) ?_;exact Ac2 hS Mg (x:=.iface 210 (pI .i64 y4.2)) (objs:=[(.cells [.p (vSl 2 A0 q0)]),.cells [.p (vSl 18 A9 q1)],.yld [] true]) [0,1,2] ⟨true,rfl,rfl,fun _=>by rw[j];rfl,fun e=>nomatch e⟩
   replace h:=itF c14 h;obtain⟨L5,rfl,f⟩:=La h;replace h:=f;refine CF hS Mg (ys:=(fun (x:Int×(Sl Mh))=>[pI .i64 x.1,vSl 2 A0 x.2]) (wrap .i64 (x2+1),y4.1)) (rest:=L5.map (fun (x:Int×(Sl Mh))=>[pI .i64 x.1,vSl 2 A0 x.2])) ?_ ?_
   .refine D1 hS Mg (b:=false) (fun c15=>?_) (fun c15=>?_)
    .exact Bool.noConfusion ((rfl:false=false).symm.trans c15)
    exact i _ [(0,0),(1,1),(2,2)] _ y4.1 (wrap .i64 (x2+1)) L5 Mg h
   refine D1 hS Mg (b:=true) (fun c16=>?_) (fun c16=>?_)
   .exact A7 hS Mg (a:=.tup []) (objs:=[(.cells [.p (vSl 2 A0 q0)]),.cells [.p (vSl 18 A9 q1)],.yld [] false]) ⟨[],[(2,.yld [] false),(1,.cells [.p (vSl 18 A9 q1)]),(0,.cells [.p (vSl 2 A0 q0)])]⟩ [0,1,2] (ids:=[(0,0),(1,1),(2,2)]) ⟨false,rfl,rfl,fun e=>(nomatch e),fun _=>⟨_,rfl⟩⟩
   exact Bool.noConfusion ((rfl:true=true).symm.trans c16)
  obtain⟨c0,h⟩:=E2 h;obtain rfl:=B7 h;exact A7 hS Mg (a:=.tup []) (objs:=[(.cells [.p (vSl 2 A0 q0)]),.cells [.p (vSl 18 A9 q1)],.yld [] true]) ⟨[],[(2,.yld [] true),(1,.cells [.p (vSl 18 A9 q1)]),(0,.cells [.p (vSl 2 A0 q0)])]⟩ [0,1,2] (ids:=[(0,0),(1,1),(2,2)]) ⟨true,rfl,rfl,fun _=>by subst c0;exact⟨_,rfl⟩,fun e=>(nomatch e)⟩
 refine D1 hS Mg (b:=true) (fun c17=>?_) (fun c17=>?_)
 .exact A7 hS Mg (a:=.tup []) (objs:=[(.cells [.p (vSl 2 A0 q0)]),.cells [.p (vSl 18 A9 q1)],.yld [] false]) ⟨[],[(2,.yld [] false),(1,.cells [.p (vSl 18 A9 q1)]),(0,.cells [.p (vSl 2 A0 q0)])]⟩ [0,1,2] (ids:=[(0,0),(1,1),(2,2)]) ⟨false,rfl,rfl,fun e=>(nomatch e),fun _=>⟨_,rfl⟩⟩
 exact Bool.noConfusion ((rfl:true=true).symm.trans c17)
def Dx (N:Nat)(a:Sl Law)(b:Sl Mh):Option ((Sl Mh)×(Sl Law)):= some (b,a)
theorem GG {a:Sl Law}{b:Sl Mh}{y:(Sl Mh)×(Sl Law)}(h:Dx N a b=some y) :FunO S GD [.p (vSl 18 A9 a),.p (vSl 2 A0 b)] [] (.clo O6 [] [.reg 0 0,.reg 1 0]) ([.cells [.p (vSl 2 A0 y.1)],.cells [.p (vSl 18 A9 y.2)]]) []:=by unfold Dx at h;refine A3 hS Tryz.func161 ?_;obtain rfl:=B7 h;exact A7 hS Mg ⟨[(4,.clo O6 [] [.reg 4000 0,.reg 3000 0])],[(4000,.cells [.p (vSl 2 A0 b)]),(3000,.cells [.p (vSl 18 A9 a)])]⟩ [4000,3000] (ids:=[(3000,3000),(4000,4000)]) ⟨rfl,rfl,rfl⟩
def K4 (N:Nat)(c:Int)(a:Sl Law)(d:Sl Mh):Option (Sl Mh):= (Dx N a d).bind fun y1=>(BP N c y1.1 y1.2).bind fun L1=>Z2 L1 (fun b (x1:Int×(Sl Mh)) (z1:Sl Mh)=>b x1.2) (fun (z1:Sl Mh)=>some z1) (Sl.nil:Sl Mh)
theorem IM {a:Sl Law}{b:Sl Mh}{y:Sl Mh}(h:K4 N 0 a b=some y) :FunO S G6 [.p (vSl 18 A9 a),.p (vSl 2 A0 b)] [] (.p (vSl 2 A0 y)) ([]) []:=by
 unfold K4 at h;refine A3 hS Tryz.func142 ?_;refine kC hS h (GG hS hL) (fun y1 h=>?_);obtain⟨L1,e2,h⟩:=B5 h;have f:Lc S O6 [] [.reg 0 0,.reg 1 0] [.cells [.p (vSl 2 A0 y1.1)],.cells [.p (vSl 18 A9 y1.2)]] (L1.map (fun (x:Int×(Sl Mh))=>[pI .i64 x.1,vSl 2 A0 x.2])) none:=Fb hS hL e2;refine Uu hS Mg [8000,8001] [4] 901 (fun z1=>⟨[(4,.reg 5000 0)],[(5000,.cells [.p (vSl 2 A0 z1)])]⟩) (idl:=[(5000,5000)]) h f (fun _=>by kernel_rfl) (fun _=>by kernel_rfl) (fun _=>by kernel_rfl) (fun _=>by kernel_rfl) (fun x1 _ c z1 d h=>?_) (fun z1 h=>?_)
 .refine HH hS Mg ?_;exact d _ [(901,901),(5000,5000)] _ x1.2 Mg h
 cases h;exact kR hS
theorem IN {c:Int}{a:Sl Law}{b:Sl Mh}{y:Sl Mh}(hc:c≠0)(h:K4 N c a b=some y) :S.F G6 [.p (vSl 18 A9 a),.p (vSl 2 A0 b)] [] fun res o k=>res=.panic (.iface 210 (pI .i64 c))/\o=[]/\k=[]:=by
 unfold K4 at h;refine ZP hS Tryz.func142 ?_;refine kC hS h (GG hS hL) (fun y1 h=>?_);obtain⟨L1,e2,h⟩:=B5 h;have g:Lc S O6 [] [.reg 0 0,.reg 1 0] [.cells [.p (vSl 2 A0 y1.1)],.cells [.p (vSl 18 A9 y1.2)]] (L1.map (fun (x:Int×(Sl Mh))=>[pI .i64 x.1,vSl 2 A0 x.2])) (some (.iface 210 (pI .i64 c))):=by
  have:=Fb hS hL e2
  simpa[ZT,hc]using this
 refine Uu hS Mg [8000,8001] [4] 901 (fun z1=>⟨[(4,.reg 5000 0)],[(5000,.cells [.p (vSl 2 A0 z1)])]⟩) (idl:=[(5000,5000)]) h g (fun _=>by kernel_rfl) (fun _=>by kernel_rfl) (fun _=>by kernel_rfl) (fun _=>by kernel_rfl) (fun x1 _ d z1 f h=>?_) (fun z1 h=>?_)
 .refine HH hS Mg ?_;exact f _ [(901,901),(5000,5000)] _ x1.2 Mg h
 exact Ac2 hS Mg (x:=.iface 210 (pI .i64 c)) (objs:=[]) [] ⟨rfl,rfl,rfl⟩
def BQ (N:Nat)(a:Sl Law)(b:Sl Mh):Option ((Sl Mh)×Bool):=
 match K4 N 0 a b with
 |some y=>some (y,true)
 |none=>(K4 N 11 a b).bind fun _=>some ((Sl.nil:Sl Mh),false)
theorem JK {b:Sl Law}{c:Sl Mh}{y:(Sl Mh)×Bool}(h:BQ N b c=some y) :FunO S EW [.p (vSl 18 A9 b),.p (vSl 2 A0 c)] [] (.tup [.p (vSl 2 A0 y.1),pB y.2]) ([]) []:=by
 unfold BQ at h;refine A3 hS Tryz.func112 ?_;rcases e:K4 N 0 b c with _|z
 .rw[e]at h;obtain⟨z,e1,h⟩:=B5 h;obtain rfl:=B7 h;refine B4 hS [7000,3000,4000,5000] Mg (hL.attP (IN hS hL (by decide) e1)) ?_;refine X1 hS Mg [(0,.l [5000]),(1,.l [7000]),(3,.a [5000])] ?_;refine O5 Mg ?_;exact A7 hS Mg ⟨[(5,pB false),(4,.reg 5000 0)],[(5000,.cells [.p (vSl 2 A0 Sl.nil)])]⟩ [] (ids:=[(5000,5000)]) ⟨rfl,rfl,rfl⟩
 rw[e]at h;obtain rfl:=B7 h;refine B4 hS [7000,3000,4000,5000] Mg (hL.attR (IM hS hL e)) ?_;refine X1 hS Mg [(0,.l [5000]),(1,.l [7000]),(3,.a [5000])] ?_;refine O5 Mg ?_;exact A7 hS Mg ⟨[(5,pB true),(4,.reg 5000 0)],[(5000,.cells [.p (vSl 2 A0 z)])]⟩ [] (ids:=[(5000,5000)]) ⟨rfl,rfl,rfl⟩
end Go.AM
namespace Go.AM
open Go.Proofs
set_option maxRecDepth 10000
set_option maxHeartbeats 2000000
variable {S:Q7}(hS:F4 S Tryz.prog) (hL:Ig S)
include hS hL
def CP (N:Nat)(a:Sl Law)(b:Sl Mh):Option ((Sl Mh)×Int):= (Dw N a (Sl.of [b]:Sl (Sl Mh))).bind fun y1=>if (y1 != 0) then some ((Sl.nil:Sl Mh),y1) else (BQ N a b).bind fun y2=>if (!y2.2) then some ((Sl.nil:Sl Mh),11) else some (y2.1,0)
theorem LJ {N:Nat}{a:Sl Law}{b:Sl Mh}{y:(Sl Mh)×Int}(h:CP N a b=some y) :FunO S FF [.p (vSl 18 A9 a),.p (vSl 2 A0 b)] [] (.tup [.p (vSl 2 A0 y.1),pN y.2]) ([]) []:=by
 unfold CP at h;refine A3 hS Tryz.func78 ?_;refine Cu hS (rfl:true=true) ⟨[(11,.vec 12000),(9,.p (vSl 18 A9 a)),(1,.p (vSl 2 A0 b)),(0,.p (vSl 18 A9 a))],[(12000,.vec P6 1 (Sl.of [b]:Sl (Sl Mh)).n (fun i=>cL 2 A0 ((Sl.of [b]:Sl (Sl Mh)).g i)) false)]⟩ (ids:=[(12000,12000)]) ?_ (hle:=klR [(3,.fn 1 (Sl.of [b]:Sl (Sl Mh)).n (D0 [E9] [(0,cL 2 A0 b)]) (fun i=>cL 2 A0 ((Sl.of [b]:Sl (Sl Mh)).g i)))] (al1 ⟨rfl,(fun i c=>match i,c with|0,_=>rfl|_+1,c=>Lq c (by omega))⟩ al0));refine kC hS h (MD hS hL) (fun y1 h=>?_);apply kI hS h<;>intro h
 .obtain rfl:=B7 h;exact A7 hS Mg ⟨[(5,pN y1),(4,.p (vSl 2 A0 (Sl.nil:Sl Mh)))],[]⟩ [] (ids:=[]) ⟨rfl,rfl,rfl⟩
 refine kC hS h (JK hS hL) (fun y2 h=>?_);apply kI hS h<;>intro h
 .obtain rfl:=B7 h;exact A7 hS Mg ⟨[(5,pN 11),(4,.p (vSl 2 A0 (Sl.nil:Sl Mh)))],[]⟩ [] (ids:=[]) ⟨rfl,rfl,rfl⟩
 cases h;exact kR hS
end Go.AM
