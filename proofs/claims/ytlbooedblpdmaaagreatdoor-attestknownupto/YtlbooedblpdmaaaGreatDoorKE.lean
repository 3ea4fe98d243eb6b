/- Part 5. -/
import Derived.Test.YtlbooedblpdmaaaGreatDoorKD
import Derived.Test.YtlbooedblpdmaaaGreatDoorKC
import Derived.RecoverIn
import Derived.Test.YtlbooedblpdmaaaGreatDoorProg
import Derived.Lib.SlTrimSet
import Derived.TacticsInMore
set_option linter.defProp false
set_option linter.unusedSimpArgs false
set_option linter.unusedVariables false
set_option linter.unusedSectionVars false
namespace Go.AM
abbrev Ho:Sl Int:=Sl.nil
def Hn:true=true:=rfl
def Hm:(18:Nat)<=18:=by decide
def Hl:(7:Nat)<=7:=by decide
def Gx:(2:Nat)<=2:=by decide
def Gv:(1:Nat)<=1:=by decide
noncomputable abbrev Xf:=Go.Proofs.Tryz.prog.funcs
def ZC:=@Go.Proofs.Tryz.func11
theorem Cv (D:List Deferred)(a:Act)(d:Option Tmp)(v:Value):(IY D a).put d v=IY D (a.put d v):=by cases d<;>rfl
theorem Fy {F:Fence}{n:Nat}{P:Program}{ops:Array Oper}{Q:Exit->Act->World->Prop}(D:List Deferred):∀(l:List Nat) (a:Act) (w:World),wpOpsIn F n P ops Q l a w ->
 wpOpsIn F n P ops (fun e a' w'=>∃a0,a' = IY D a0/\Q e a0 w') l (IY D a) w
 |[],a,w,h=>⟨a,rfl,h⟩
 |i::l,a,w,h=>by
  have ih:=Fy (F:=F) (n:=n) (P:=P) (ops:=ops) (Q:=Q) D l;simp only[wpOpsIn]at h⊢;have e1:(IY D a).eval=a.eval:=by funext x;cases x<;>rfl
  have e2:(IY D a).tmps=a.tmps:=rfl;cases j:ops[i]? with
  |none=>simp only[j]at h⊢;exact ih a w h
  |some o=>
   simp only[j]at h⊢;rw[e2,e1];by_cases m:Region.wanted o (yielded ops a.tmps)=true
   .rw[Bc m]at h⊢;refine⟨by rw[e1];exact h.1,?_⟩;have b:=h.2;rw[e1];generalize (o.semAt F.round a.eval).run P w=r at b;unfold Oper.uponIn at b⊢;split at b
    .rw[Cv];exact ih _ _ b
    .rw[Cv];exact ih _ _ b
    .exact ih _ _ b |> fun x=>by
      rename_i d w'
      have:({ (IY D a)with defers:=d::(IY D a).defers }:Act).put o.dst undef=IY D (({ a with defers:=d::a.defers }:Act).put o.dst undef):=by rw[<- Cv];rfl
      rw[this];exact x
    .refine⟨b.1,b.2.mono ?_⟩;intro e w' f;cases e with
     |returned v=>have:=ih _ _ f;rw[<- Cv]at this;exact this
     |panicked ch=>exact⟨a,rfl,f⟩
     |outgrown=>obtain⟨a1,w1,g⟩:=f;exact⟨IY D a1,w1,a1,rfl,g⟩
    .refine⟨b.1,fun c cs q=>?_⟩;obtain⟨v,w',g1,g2⟩:=b.2 c cs q;exact⟨v,w',by have:=ih _ _ g1;rw[<- Cv]at this;exact this,g2⟩
    .refine⟨b.1,b.2.mono ?_⟩;intro e w' f;cases e with
     |returned v=>have:=ih _ _ f;rw[<- Cv]at this;exact this
     |panicked ch=>exact⟨a,rfl,f⟩
     |outgrown=>obtain⟨a1,w1,g⟩:=f;exact⟨IY D a1,w1,a1,rfl,g⟩
    .exact⟨a,rfl,b⟩
    exact b.elim
   rw[Bd m]at h⊢;rw[Cv];exact⟨h.1,ih _ _ h.2⟩
section
variable {P:Program}{C:Ctx}{st:St}{rho:Nat->Value}
theorem Cw {fn:Func}{R:Ending->World->Prop}{u:FrameMode}(c:u ≠ .run){tmps:Array Value}{D:List Deferred}(b:∀a w,Sat C st a w rho->a.tmps=tmps->LeavesInM Fence.wide 0 P fn tmps R D u w) :∀(ds:List Deferred) (a:Act) (w:World),a.defers=ds->a.tmps=tmps->Sat C st a w rho->LeavesInM Fence.wide 0 P fn tmps R (ds++D) u w
 |[],a,w,hd,ht,h=>b a w h ht
 |d::ds,a,w,hd,ht,h=>by obtain⟨r,w',h1,f,g⟩:=h.unmark hd;exact⟨c,.inl ⟨r,w',h1,f,Cw c b ds { a with defers:=ds } w' rfl ht g⟩⟩
end
end Go.AM
namespace Go.AM
structure Q4 where
 Parent:Int
 Name:Str
 deriving Inhabited,DecidableEq
abbrev H4 (x:Q4):List PV:=[(pI .i64 x.Parent),.str x.Name]
structure A1 where
 Plus:Int
 Minus:Int
 deriving Inhabited,DecidableEq
abbrev A0 (x:A1):List PV:=[(pI .u32 x.Plus),pI .u32 x.Minus]
inductive Pat where
 |nil
 |mk (Kind:Int) (Is:A1) (Not:Bool) (Min:Int) (Max:Int) (n:Nat) (g:Nat->Pat)
instance:Inhabited Pat:=⟨.nil⟩
def Pat.Kind:Pat->Int
 |.nil=>0
 |.mk x _ _ _ _ _ _=>x
def Pat.Is:Pat->A1
 |.nil=>default
 |.mk _ x _ _ _ _ _=>x
def Pat.Not:Pat->Bool
 |.nil=>false
 |.mk _ _ x _ _ _ _=>x
def Pat.Min:Pat->Int
 |.nil=>0
 |.mk _ _ _ x _ _ _=>x
def Pat.Max:Pat->Int
 |.nil=>0
 |.mk _ _ _ _ x _ _=>x
def Pat.L:Pat->Sl Pat
 |.nil=>⟨0,fun _=>.nil⟩
 |.mk _ _ _ _ _ n g=>⟨n,g⟩
def Cx:Pat->Nat->List PV
 |.nil=>fun _=>[]
 |.mk _ _ _ _ _ n g=>fun i=>[(pI .i64 (g i).Kind),pI .u32 (g i).Is.Plus,pI .u32 (g i).Is.Minus,.bb (g i).Not,pI .i64 (g i).Min,pI .i64 (g i).Max,.sl false 7 (g i).L.n (Cx (g i))]
abbrev G8 (x:Pat):List PV:=[(pI .i64 x.Kind),pI .u32 x.Is.Plus,pI .u32 x.Is.Minus,.bb x.Not,pI .i64 x.Min,pI .i64 x.Max,.sl false 7 x.L.n (Cx x)]
def DX (x:Pat):∀i,i<x.L.n->Cx x i=G8 (x.L.g i):=by
 cases x with
 |nil=>intro i a;exact Bs (show i<0 from a) (by omega)
 |mk Kind Is Not Min Max n g=>exact fun _ _=>rfl
structure Gd where
 From:Int
 Clear:Int
 Set:A1
 Take:Int
 Of:Int
 deriving Inhabited,DecidableEq
abbrev Ah (x:Gd):List PV:=[(pI .i64 x.From),pI .u32 x.Clear,pI .u32 x.Set.Plus,pI .u32 x.Set.Minus,pI .u32 x.Take,pI .i64 x.Of]
structure Law where
 Name:Str
 Left:Pat
 Right:Pat
 If:(Sl A1)
 Out:(Sl Gd)
 Mode:Int
 deriving Inhabited
abbrev B7 (x:Law):List PV:=[(.str x.Name),pI .i64 x.Left.Kind,pI .u32 x.Left.Is.Plus,pI .u32 x.Left.Is.Minus,.bb x.Left.Not,pI .i64 x.Left.Min,pI .i64 x.Left.Max,.sl false 7 x.Left.L.n (Cx x.Left),pI .i64 x.Right.Kind,pI .u32 x.Right.Is.Plus,pI .u32 x.Right.Is.Minus,.bb x.Right.Not,pI .i64 x.Right.Min,pI .i64 x.Right.Max,.sl false 7 x.Right.L.n (Cx x.Right),vSl 2 A0 x.If,vSl 6 Ah x.Out,pI .i64 x.Mode]
structure G9 where
 Tree:(Sl Q4)
 Laws:(Sl Law)
 On:(Sl (Sl Int))
 deriving Inhabited
abbrev B0 (x:G9):List PV:=[(vSl 2 H4 x.Tree),vSl 18 B7 x.Laws,vSl 1 (cL 1 (cI .i64)) x.On]
structure VD where
 N:Int
 D:Int
 deriving Inhabited,DecidableEq
abbrev WG (x:VD):List PV:=[(pI .i64 x.N),pI .i64 x.D]
structure A4 where
 Has:Bool
 W:(Sl A1)
 deriving Inhabited
abbrev A5 (x:A4):List PV:=[(.bb x.Has),vSl 2 A0 x.W]
structure Entry where
 Gloss:Str
 Forms:(Sl A4)
 deriving Inhabited
abbrev B2 (x:Entry):List PV:=[(.str x.Gloss),vSl 2 A5 x.Forms]
structure A2 where
 Entry:Int
 Leaf:Int
 Kind:Int
 Cost:Int
 deriving Inhabited,DecidableEq
abbrev A7 (x:A2):List PV:=[(pI .i64 x.Entry),pI .i64 x.Leaf,pI .i64 x.Kind,pI .i64 x.Cost]
structure N9 where
 entry:Int
 leaf:Int
 deriving Inhabited,DecidableEq
abbrev T6 (x:N9):List PV:=[(pI .i64 x.entry),pI .i64 x.leaf]
inductive Part where
 |nil
 |sound (x:A1) (no:Bool)
 |edge (e:Bool)
 |seq (n:Nat) (g:Nat->Part)
 |alt (n:Nat) (g:Nat->Part)
 |rep (o:Part) (mn mx:Int)
instance:Inhabited Part:=⟨.nil⟩
def Part.t:Part->Nat
 |.nil=>0
 |.sound _ _=>248
 |.edge _=>250
 |.seq _ _=>255
 |.alt _ _=>252
 |.rep _ _ _=>254
def Part.v:Part->PV
 |.nil=>.bb false
 |.sound x no=>.agg [pI .u32 x.Plus,pI .u32 x.Minus,.bb no]
 |.edge e=>.agg [.bb e]
 |.seq n g=>.agg [.sl false 1 n fun i=>[.iface (g i).t (g i).v]]
 |.alt n g=>.agg [.sl false 1 n fun i=>[.iface (g i).t (g i).v]]
 |.rep o mn mx=>.agg [.iface o.t o.v,pI .i64 mn,pI .i64 mx]
abbrev Du (x:Part):PV:=.iface x.t x.v
abbrev Cj (x:Part):List PV:=[Du x]
structure RF where
 is:A1
 not:Bool
 deriving Inhabited,DecidableEq
abbrev Pw (x:RF):List PV:=[(pI .u32 x.is.Plus),pI .u32 x.is.Minus,.bb x.not]
structure Vh where
 end_:Bool
 deriving Inhabited,DecidableEq
abbrev Vi (x:Vh):List PV:=[(.bb x.end_)]
structure Palt where
 l:(Sl Part)
 deriving Inhabited
abbrev WH (x:Palt):List PV:=[(vSl 1 Cj x.l)]
structure Prep where
 of:Part
 min:Int
 max:Int
 deriving Inhabited
abbrev WI (x:Prep):List PV:=[(Du x.of),pI .i64 x.min,pI .i64 x.max]
structure Pseq where
 l:(Sl Part)
 deriving Inhabited
abbrev WJ (x:Pseq):List PV:=[(vSl 1 Cj x.l)]
end Go.AM
namespace Go.AM
open Go.Proofs
abbrev Y7:Nat:=11
def BX:Xf[Y7]? = some Tryz.f11:=ZC
abbrev Im:Nat:=16
abbrev GQ:Nat:=17
abbrev Fz:Nat:=19
abbrev El:Nat:=21
abbrev Kr:Nat:=23
abbrev Em:Nat:=24
abbrev FA:Nat:=26
abbrev FB:Nat:=27
abbrev Ks:Nat:=30
abbrev FC:Nat:=31
abbrev Ck:Nat:=33
abbrev FD:Nat:=35
abbrev FE:Nat:=37
abbrev FF:Nat:=38
abbrev Kt:Nat:=39
abbrev RG:Nat:=40
abbrev RH:Nat:=41
abbrev RI:Nat:=42
abbrev Io:Nat:=43
abbrev GR:Nat:=45
abbrev Dv:Nat:=46
abbrev GS:Nat:=47
abbrev CX:Nat:=49
abbrev Cl:Nat:=50
abbrev En:Nat:=54
abbrev CY:Nat:=55
abbrev Eo:Nat:=56
abbrev F0:Nat:=63
abbrev M4:Nat:=64
abbrev GT:Nat:=65
abbrev FG:Nat:=66
abbrev RJ:Nat:=67
abbrev RK:Nat:=68
abbrev Dw:Nat:=72
abbrev K0:Nat:=74
abbrev Ir:Nat:=75
abbrev Dx:Nat:=76
abbrev GU:Nat:=77
abbrev Iv:Nat:=79
abbrev B8:Nat:=80
abbrev GV:Nat:=81
abbrev P0:Nat:=82
abbrev Iw:Nat:=83
abbrev H7:Nat:=86
abbrev CZ:Nat:=87
abbrev Ep:Nat:=88
abbrev F8:Nat:=95
abbrev GW:Nat:=96
abbrev Dy:Nat:=97
abbrev Er:Nat:=99
abbrev Da:Nat:=100
abbrev FI:Nat:=102
abbrev Ku:Nat:=103
abbrev FJ:Nat:=104
abbrev FK:Nat:=105
abbrev Iy:Nat:=106
abbrev GX:Nat:=107
abbrev H2:Nat:=108
abbrev I2:Nat:=109
abbrev GY:Nat:=110
abbrev T8:Nat:=111
abbrev MX:Nat:=112
abbrev S1:Nat:=113
abbrev I7:Nat:=116
abbrev FL:Nat:=121
abbrev Es:Nat:=122
abbrev H5:Nat:=123
abbrev O6:Nat:=124
abbrev G5:Nat:=125
abbrev K3:Nat:=127
abbrev BI:Nat:=129
abbrev Et:Nat:=130
abbrev K7:Nat:=131
abbrev I0:Nat:=132
abbrev K4:Nat:=133
abbrev J8:Nat:=134
abbrev Cy:Nat:=135
abbrev Gw:Nat:=140
abbrev I3:Nat:=142
abbrev Dc:Nat:=143
abbrev Eu:Nat:=144
abbrev GZ:Nat:=152
abbrev D5:Nat:=153
abbrev K5:Nat:=156
abbrev N1:Nat:=157
abbrev IA:Nat:=158
abbrev IB:Nat:=167
abbrev IC:Nat:=174
abbrev MZ:Nat:=175
abbrev Cz:Nat:=185
abbrev Kv:Nat:=186
abbrev J5:Nat:=187
abbrev Na:Nat:=188
abbrev Nb:Nat:=189
abbrev FM:Nat:=190
abbrev Bt:Nat:=196
abbrev Ha:Nat:=197
abbrev Cm:Nat:=198
abbrev G3:Nat:=199
abbrev Ev:Nat:=200
abbrev Hb:Nat:=201
abbrev P9:Nat:=209
abbrev FN:Nat:=210
abbrev ID:Nat:=211
abbrev IE:Nat:=212
abbrev IF:Nat:=213
abbrev FO:Nat:=214
abbrev FP:Nat:=215
abbrev Ew:Nat:=216
abbrev DA:Nat:=217
abbrev Ab:Nat:=218
abbrev V9:Nat:=219
abbrev M8:Nat:=220
abbrev Ai:Nat:=236
abbrev Be:Nat:=237
abbrev BJ:Nat:=238
abbrev CA:Nat:=239
abbrev Bu:Nat:=240
abbrev CB:Nat:=241
abbrev DC:Nat:=242
abbrev U2:Nat:=243
abbrev CC:Nat:=244
abbrev D7:Nat:=3
abbrev Px:Nat:=4
abbrev IJ:Nat:=5
abbrev Ac:Nat:=9
abbrev Bv:Nat:=23
abbrev Kw:Nat:=37
abbrev LF:Nat:=43
abbrev CD:Nat:=49
abbrev O1:Nat:=51
abbrev B5:Nat:=56
abbrev AO:Nat:=68
abbrev C8:Nat:=72
abbrev FR:Nat:=87
abbrev O7:Nat:=90
abbrev Q0:Nat:=97
abbrev Kx:Nat:=112
abbrev B1:Nat:=128
abbrev Oj:Nat:=242
end Go.AM
namespace Go.AM
abbrev U (x:BitVec 64):Int:=(x.toNat:Int)
end Go.AM
namespace Go.AM
variable {N:Nat}
open Go.Proofs
abbrev Tv:List AV:=[.reg 0 0,.reg 1 0,.reg 2 0,.reg 3 0]
abbrev Ok (c:Int)(a:Sl Law)(b:Sl A1)(y:PV):List Obj:=[.cells [pN c],.cells [.p (vSl 18 B7 a)],.cells [.p (vSl 2 A0 b)],.cells [.p y]]
structure HC (S:R7):Prop where
 attR:∀{a:Sl Law}{b y:Sl A1},FunO S G5 [.p (vSl 18 B7 a),.p (vSl 2 A0 b)] [] (.p (vSl 2 A0 y)) [] []->FunO S H5 Tv (Ok 0 a b C0) (.tup []) (Ok 0 a b (vSl 2 A0 y)) [true,true,true,true]
 attP:∀{a:Sl Law}{b:Sl A1}{c:Int},(S.F G5 [.p (vSl 18 B7 a),.p (vSl 2 A0 b)] [] fun res o k=>res=.panic (.iface 181 (pI .i64 c))/\o=[]/\k=[])->FunO S H5 Tv (Ok 0 a b C0) (.tup []) (Ok c a b C0) [true,true,true,true]
 tz:∀x:BitVec 64,Sh S M8 [.p (pI .u64 (U x))] (.p (pI .i64 (Lib.ctz 64 x.toNat:Nat)))
 trim:∀s c:Str,s.length<1000000000000->c.length<1000000->(∀b∈c,b.toNat<128)->Sh S BI [.p (.str s),.p (.str c)] (.p (.str (Lib.trimS s c)))
 growS:∀(f:Nat->List PV) (n:Nat),n*8<=140737488355328->FunO S G3 [.p C0,.p (pI .i64 (n:Int))] [] (.vec 0) [.vec C8 2 0 f false] []
def S3 (N:Nat)(x:Int):Option Int:=if 0<=x/\x<18446744073709551616 then some ((Lib.ctz 64 x.toNat:Nat):Int)else none
def Ex (N:Nat)(s c:Str):Option Str:=if s.length<1000000000000/\c.length<1000000/\(c.all fun b=>decide (b.toNat<128)) then some (Lib.trimS s c)else none
def K8 (N:Nat)(n:Int):Option (Sl A1):=if 0<=n/\n*8<=140737488355328 then some (Sl.nil:Sl A1)else none
section
variable {S:R7}(Z:F4 S Tryz.prog) (Y:HC S)
include Z Y
theorem Bf {x y:Int}(h:S3 N x=some y):FunO S M8 [.p (pI .u64 x)] [] (.p (pI .i64 y)) [] []:=by
 obtain⟨⟨a,h1⟩,h⟩:=G7 h;obtain rfl:=D0 h
 have:=Y.tz (BitVec.ofNat 64 x.toNat)
 have e:(BitVec.ofNat 64 x.toNat).toNat=x.toNat:=by rw[BitVec.toNat_ofNat];omega
 have e2:U (BitVec.ofNat 64 x.toNat)=x:=by show ((BitVec.ofNat 64 x.toNat).toNat:Int)=x;rw[e];omega
 rw[e,e2]at this;exact this
theorem JA {s c:Str}{y:Str}(h:Ex N s c=some y):FunO S BI [.p (.str s),.p (.str c)] [] (.p (.str y)) [] []:=by obtain⟨⟨a,h1,d⟩,h⟩:=G7 h;obtain rfl:=D0 h;exact Y.trim s c a h1 fun b hb=>by simpa using Xt.1 d b hb
theorem V4 {n:Int}{y:Sl A1}(h:K8 N n=some y):FunO S G3 [.p C0,.p (pI .i64 n)] [] (.vec 0) [.vec C8 2 y.n (fun i=>A0 (y.g i)) false] []:=by
 obtain⟨⟨a,h1⟩,h⟩:=G7 h;obtain rfl:=D0 h
 have:=Y.growS (fun i=>A0 default) n.toNat (by omega)
 rw[show ((n.toNat:Nat):Int)=n by omega]at this;exact this
def D8 (N:Nat)(s:Sl A1):Option (Sl A1):=if (0+s.n)*8<=140737488355328/\0+s.n<=140737488355328 then some s else none
theorem K6 {s y:Sl A1}(h:D8 N s=some y):FunO S K3 [.p (vSl 2 A0 s)] [] (.vec 0) [.vec C8 2 y.n (fun i=>A0 (y.g i)) true] []:=by
 unfold D8 at h;obtain⟨c1,h⟩:=G7 h;obtain rfl:=D0 h;refine A8 Z Tryz.func127 ?_;refine K_nil Z Dz 3 (k:=2) (n:=s.n) (f:=fun i=>A0 (s.g i)) (fun a=>?_) ?_
 .obtain⟨n,g⟩:=s;obtain rfl:n=0:=a;exact B3 Z Dz ⟨[(2,.vec 3700)],[(3700,.vec C8 2 0 (fun i=>A0 (g i)) true)]⟩ [3700] (ids:=[]) ⟨rfl,rfl,rfl⟩
 exact B3 Z (And.intro Hn c1) ⟨[(2,.vec 8000)],[(8000,.vec C8 2 s.n (fun i=>A0 (s.g i)) true)]⟩ [8000] (ids:=[(8000,8000)]) ⟨rfl,rfl,rfl⟩
  (hle:=klR [(0,.fn (0+s.n) s.n (AP 0 (A9 [pI .u32 0,pI .u32 0] []) (fun i=>A0 (s.g i))) (fun i=>A0 (s.g i)))] (al1 ⟨Ye _,fun i _=>by simp[AP]⟩ al0))
end
end Go.AM
set_option maxRecDepth 100000
namespace Go.AM
open Go.Proofs.Tryz
open Go.Proofs
def Qq (v:Value)(w:World):(Instr.typeAssert (.iface 181 v) 20 181 true).run Tryz.prog w=.ok (.tuple #[v,.bool true]) w:=by kernel_rfl
def Ol (p:Value)(w:World):CallsDIn Fence.wide 0 Tryz.prog O6 #[p] .returning w fun e u' w'=>e=.returned (.tuple #[])/\u' = .returning/\w' = w:=by
 refine callsDIn_of_wpSIn func124 rfl (by simp[Fence.wide]) fun c₀ cs a=>?_;apply wpSIn_seq;apply wpSIn_region;simp[wpOpsSIn,go_sem,recoverD,a,f124,Exit.thenS];refine wpSIn_of_wpIn rfl (wpIn_block (wpIn_seq (wpIn_region ?_)));simp[wpOpsIn,Oper.wpIn,Oper.semAt,Oper.uponIn,go_sem,Exit.then];refine wpIn_cond (t:=true) (by simp[Act.eval]) ?_;simp only[Db];refine wpIn_region ?_;simp[wpOpsIn,Oper.wpIn,Oper.semAt,Oper.uponIn,go_sem,Exit.inBlock,bodyPostS,results];cases c₀
 simp_all
def Hq (p:Value)(c:Int)(older:List PanicEntry)(w w1:World)(a:(Instr.storeAt 33 p (.int .i64 c)).run Tryz.prog w=.ok () w1)(hn:∃b,p=.pointer (some b)) :CallsDIn Fence.wide 0 Tryz.prog O6 #[p] (.panicking ({ v:=.iface 181 (.int .i64 c),recovered:=false }::older)) w fun e u' w'=>
  e=.returned (.tuple #[])/\u' = .panicking ({ v:=.iface 181 (.int .i64 c),recovered:=true }::older)/\w' = w1:=by
 obtain⟨b,rfl⟩:=hn;refine callsDIn_of_wpSIn func124 rfl (by simp[Fence.wide]) fun c₀ cs d=>?_;apply wpSIn_seq;apply wpSIn_region;simp[wpOpsSIn,go_sem,recoverD,d,f124,Exit.thenS];refine wpSIn_of_wpIn rfl (wpIn_block (wpIn_seq (wpIn_region ?_)));simp[wpOpsIn,Oper.wpIn,Oper.semAt,Oper.uponIn,go_sem,Exit.then];refine wpIn_cond (t:=false) (by simp[Act.eval]) ?_;simp only[Xm,Dd];refine wpIn_seq (wpIn_region ?_);simp[wpOpsIn,Oper.wpIn,Oper.semAt,Oper.uponIn,go_sem,Exit.then,Qq];refine wpIn_cond (t:=true) (by simp[Act.eval]) ?_;simp only[Db];refine wpIn_seq (wpIn_region ?_);simp[wpOpsIn,Oper.wpIn,Oper.semAt,Oper.uponIn,go_sem,Exit.then];refine wpIn_region ?_;simp[wpOpsIn,Oper.wpIn,Oper.semAt,Oper.uponIn,go_sem,a,Exit.inBlock,bodyPostS,results];simp[go_sem]at a;rw[a];simp[Result.andThen]
noncomputable def VE:Code:=match Tryz.f123.body with
 |some (.seq _ c)=>c
 |_=>.skip
def Vo {S:R7}(Z:F4 S Tryz.prog){a:Sl Law}{b y:Sl A1}(c:FunO S G5 [.p (vSl 18 B7 a),.p (vSl 2 A0 b)] [] (.p (vSl 2 A0 y)) [] []) :KG S Tryz.prog (Kq S (fun st=>H8 [0,1,2,3] st.regs [0,1,2,3]=some (Ok 0 a b (vSl 2 A0 y))) fun _ _=>False) (.code VE [] ⟨argEnv Tv,objRegs (Ok 0 a b C0)⟩):=by refine C6 Z [] Dz c ?_;exact K_upN Z Dz ⟨[],[(3,.cells [.p (vSl 2 A0 y)]),(2,.cells [.p (vSl 2 A0 b)]),(1,.cells [.p (vSl 18 B7 a)]),(0,.cells [pN 0])]⟩ (ids:=[(0,0),(1,1),(2,2),(3,3)]) rfl
def RQ {S:R7}(Z:F4 S Tryz.prog){a:Sl Law}{b:Sl A1}{c:Int}(d:S.F G5 [.p (vSl 18 B7 a),.p (vSl 2 A0 b)] [] fun res o k=>res=.panic (.iface 181 (pI .i64 c))/\o=[]/\k=[]) :KG S Tryz.prog (Kq S (fun _=>False) fun x st=>x=.iface 181 (pI .i64 c)/\store Tryz.prog st.regs 33 (.reg 0 0) (.p (pI .i64 c))=some ([],ins 0 (.cells [pN c]) st.regs)/\H8 [0,1,2,3] (ins 0 (.cells [pN c]) st.regs) [0,1,2,3]=some (Ok c a b C0)) (.code VE [] ⟨argEnv Tv,objRegs (Ok 0 a b C0)⟩):=by refine Vg Z [] Dz d ?_;exact K_upP Z Dz ⟨rfl,by kernel_rfl,by kernel_rfl⟩
noncomputable def att1:Code:=match Tryz.f123.body with
 |some (.seq c _)=>c
 |_=>.skip
noncomputable def attOps:Array Oper:=match VE with
 |.region _ ops _=>ops
 |_=>#[]
def Py:VE=.region 1 attOps false:=by kernel_rfl
def WK:attOps.toList.all (Ee 7 attOps.toList)=true:=by kernel_rfl
def Tw:¬Tryz.f123.name = "runtime.NumGoroutine" := by decide +kernel
def Pz:Tryz.f123.body=some (.seq att1 VE):=by kernel_rfl
def Vp {C:Ctx}{vs:Array Value}{w:World}{rho:Nat->Value}{args:List AV}{objs:List Obj}{n:Nat}(Z:Sat C ⟨argEnv args,objRegs objs⟩ ⟨vs,[]⟩ w rho)(a:vs.size=args.length) :Sat C ⟨argEnv args,objRegs objs⟩ { tmps:=vs++Array.replicate n undef,defers:=[] } w rho:=by
 refine⟨Z.toSatE,fun t=>?_,Z.pin,Z.marks⟩
 have:=Z.env t
 by_cases b:t<vs.size
 .simpa[Xe,Yi,b]using this
 show RepA w _ _ _ _ (get (argEnv args) t);rw[W5,Xd,XJ (by omega)];exact .top _
def IK {R:St->Prop}{X:PV->St->Prop}{a:Sl Law}{b:Sl A1}{objs' : List Obj}
 (a1:KG (Ea Tryz.prog) Tryz.prog (Kq (Ea Tryz.prog) R X) (.code VE [] ⟨argEnv Tv,objRegs (Ok 0 a b C0)⟩))
 (hR:∀st,R st->H8 [0,1,2,3] st.regs [0,1,2,3]=some objs')
 (hX:∀x st,X x st->∃c regs',x=.iface 181 (pI .i64 c)/\store Tryz.prog st.regs 33 (.reg 0 0) (.p (pI .i64 c))=some ([],regs')/\H8 [0,1,2,3] regs' [0,1,2,3]=some objs') :
 FunO (Ea Tryz.prog) H5 Tv (Ok 0 a b C0) (.tup []) objs' [true,true,true,true]:=by
 intro 𝒢 C w vs rho hG Z t;obtain⟨l⟩:=vs
 match l,t with
 |[v0,v1,v2,v3],t=>?_
 refine⟨.enter H5 #[v0,v1,v2,v3],w,by simp[callFunc,func123,Pz,Tw],?_⟩;refine callsIn_of_wp_marks func123 Pz Dz ?_;have a2:=Vp (n:=Tryz.f123.ntmps-4) Z t;have a9:Tryz.f123.ntmps-4=3:=rfl;rw[a9]at a2;have b1:((#[v0,v1,v2,v3]:Array Value)++Array.replicate 3 undef).size=7:=rfl;have hw:Ga (Ea Tryz.prog) Tryz.prog attOps.toList attOps.toList (Kq (Ea Tryz.prog) R X) ⟨argEnv Tv,objRegs (Ok 0 a b C0)⟩:=by
  have:=a1.out
  rw[Py]at this;simpa only[G,awp,kp,Xm,Dd]using this
 have a4:=HX (𝒢:=𝒢.fix C.rho0) (n:=7) (ro:=none) (ops:=attOps) WK attOps.toList 0 rfl (by simp) ⟨hG,rfl⟩ a2 b1 hw;have a5:=Fy [{ target:=.fn (.func O6) #[],args:=#[v0] }] _ _ _ a4;rw[List.drop_zero]at a5;obtain⟨b0,a6,u⟩:∃b0,v0=.pointer (some ⟨b0,0,none⟩)/\rho 0=.pointer (some ⟨b0,0,none⟩):=by
  have h0:RepA w _ _ rho v0 (.reg 0 0):=Z.env 0;cases h0 with
  |reg _ _ b0 _ h=>exact⟨b0,rfl,h⟩
 have s:∀{C' : Ctx}{st' : St}{a' : Act}{w' : World}{rho' : Nat->Value},(𝒢.fix C.rho0).G C' -> Sat C' st' a' w' rho' -> H8 [0,1,2,3] st'.regs [0,1,2,3]=some objs' ->
  LeavesInM Fence.wide 0 Tryz.prog f123 a'.tmps (fun e w'=>∃C' r objs0 ks rho', 𝒢.G C' /\ (r=.ret (.tup [])/\objs0=objs' /\ ks=[true,true,true,true])/\SatE C' (objRegs objs0) w' rho' /\
   Uy w' (Prv C'.X (A3 (objRegs objs0)) rho') (Lv (A3 (objRegs objs0))) rho' e r/\∀i:Nat,ks[i]? = some true->i<objs0.length/\rho' i=rho i) [] .returning w':=by
  intro C' st' a' w' rho' d f m;obtain⟨g1,g2,g3⟩:=HY f (by decide) m;obtain⟨hl,hg⟩:=T0 m;refine⟨.tuple #[],by simp[results,f123],C', .ret (.tup []),objs',_,_,d.1,⟨rfl,rfl,rfl⟩,g1,⟨_,rfl,.tup _ _ rfl fun i hi=>Bs hi (by simp)⟩,?_⟩;intro i hi;have y:i<4:=by
   have:=(Xo.1 hi).1
   simpa using this
  refine⟨by rw[hl];exact y,?_⟩;have e1:[0,1,2,3][i]? = some i:=by
   match i,y with
   |0,_=>rfl
   |1,_=>rfl
   |2,_=>rfl
   |3,_=>rfl
  obtain⟨o,_,ho,_⟩:=hg i i e1;show rho' ([0,1,2,3].getD i 0)=rho i;rw[Ao e1,f.pin i (by omega) (by simp[Lv,ho]),d.2];refine (Z.pin i (by omega) ?_).symm;rw[Lv,D1]
  match i,y with
  |0,_=>rfl
  |1,_=>rfl
  |2,_=>rfl
  |3,_=>rfl
 generalize hQ:bodyPostM _ _ _ _ _=QQ;refine wpIn_seq ?_;simp only[att1,f123];refine wpIn_region ?_;simp[wpOpsIn,Oper.wpIn,Oper.semAt,Oper.uponIn,go_sem,Exit.then];subst hQ;rw[Py];refine wpIn_mono (wpIn_region (F:=FW none) a5) ?_;rintro e a' w' ⟨a0,rfl,z⟩;cases e with
 |exit id=>obtain⟨_,_,_,_,_,_,h⟩:=z;exact h.elim
 |goto l=>obtain⟨_,_,_,_,_,_,h⟩:=z;exact h.elim
 |ret=>obtain⟨_,_,_,_,_,_,h⟩:=z;exact h.elim
 |outgrown=>exact z.elim
 |normal=>
  obtain⟨C',st',rho',d,f,a7,hu⟩:=z;obtain⟨st2,rho2,hR2,_,hs2⟩:=hu C' a0 w' rho' f;refine Cw (C:=C') (st:=st2) (rho:=rho2) (by simp) ?_ a0.defers a0 w' rfl rfl hs2;intro a3 w3 q ht;refine⟨by simp,.inr ⟨by simp[Fence.wide],_,_,O6,#[v0],rfl,by simp[go_sem],fun _ _=>trivial,?_⟩⟩;refine (Ol v0 w3).mono ?_;rintro e u' w4 ⟨rfl,rfl,rfl⟩
  have:=s d q (hR st2 hR2)
  rw[ht]at this;exact this
 |panic chain=>
  obtain⟨C',st',rho',v,x,rfl,d,f,a7,hv,hXx⟩:=z;obtain⟨c,regs',rfl,g,m⟩:=hX x st' hXx;obtain rfl:v=.iface 181 (.int .i64 c):=by
   cases hv with
   |iface _ _ _ h=>cases h;rfl
  refine Cw (C:=C') (st:=st') (rho:=rho') (by simp) ?_ a0.defers a0 w' rfl rfl f;intro a3 w3 q ht;have j:Lv (A3 st'.regs) 0:=by
   cases hj:A3 st'.regs 0 with
   |some o=>simp[Lv,hj]
   |none=>
    unfold store at g;split at g
    .simp[hj]at g
    cases g
  have hr0:rho' 0=.pointer (some ⟨b0,0,none⟩):=by rw[q.pin 0 (by omega) j,d.2,<- u];exact (Z.pin 0 (by omega) rfl).symm
  have hva:RS C' st' w3 rho' v0 (.reg 0 0):=by rw[a6];exact .reg 0 0 b0 j hr0
  obtain⟨w4,a8,hs4,_⟩:=HM q (vx:=.int .i64 c) hva (.p _ _ (.v _)) g Dz;refine⟨by simp,.inr ⟨by simp[Fence.wide],_,_,O6,#[v0],rfl,by simp[go_sem],fun _ _=>trivial,?_⟩⟩;refine (Hq v0 c [] w3 w4 a8 ⟨_,a6⟩).mono ?_;rintro e u' w5 ⟨rfl,rfl,rfl⟩
  have:=s d hs4 m
  rw[ht]at this;exact this
def Om {a:Sl Law}{b y:Sl A1}(c:FunO (Ea Tryz.prog) G5 [.p (vSl 18 B7 a),.p (vSl 2 A0 b)] [] (.p (vSl 2 A0 y)) [] []) :FunO (Ea Tryz.prog) H5 Tv (Ok 0 a b C0) (.tup []) (Ok 0 a b (vSl 2 A0 y)) [true,true,true,true]:=
 IK (Vo (good Tryz.prog) c) (fun st h=>h) (fun x st h=>h.elim)
def LG {a:Sl Law}{b:Sl A1}{c:Int}(d:(Ea Tryz.prog).F G5 [.p (vSl 18 B7 a),.p (vSl 2 A0 b)] [] fun res o k=>res=.panic (.iface 181 (pI .i64 c))/\o=[]/\k=[]) :FunO (Ea Tryz.prog) H5 Tv (Ok 0 a b C0) (.tup []) (Ok c a b C0) [true,true,true,true]:=
 IK (RQ (good Tryz.prog) d) (fun st h=>h.elim) (fun x st h=>⟨c,_,h.1,h.2.1,h.2.2⟩)
end Go.AM
namespace Go.AM
open Go.Proofs.Tryz
variable {N:Nat}
open IntKind (wrap)
open Go.Proofs
set_option maxRecDepth 10000
set_option maxHeartbeats 2000000
variable {S:R7}(Z:F4 S Tryz.prog) (Y:HC S)
include Z Y
def I5 (N:Nat)(a:A1):Option Bool:= some (((P4 .and .u32 a.Plus a.Minus)==0)&&(decide ((P4 .or .u32 a.Plus a.Minus)<=16777215)))
theorem N4 {b:A1}{y:Bool}(h:I5 N b=some y) :FunO S FK [.p (.agg (A0 b))] [] (pB y) ([]) []:=by unfold I5 at h;refine A8 Z func105 ?_;refine kB Z (B9 Z) Dz Dz 7 (.n (.a ((P4 .and .u32 b.Plus b.Minus)==0)) (.a (decide ((P4 .or .u32 b.Plus b.Minus)<=16777215)))) ?_;cases h;exact kR Z
def Z5 (N:Nat)(b:A1)(a:A1):Option Bool:= (I5 N b).bind fun y1=>lt (fun (z1:Bool)=>some z1) fun k1=>if y1 then (I5 N a).bind fun y3=>if y3 then if ((P4 .andNot .u32 a.Plus b.Plus)==0) then k1 ((P4 .andNot .u32 a.Minus b.Minus)==0) else k1 false else k1 false else k1 false
theorem Gy {c:A1}{a:A1}{y:Bool}(h:Z5 N c a=some y) :FunO S Cm [.p (.agg (A0 c)),.p (.agg (A0 a))] [] (pB y) ([]) []:=by
 unfold Z5 at h;refine A8 Z func198 ?_;refine kC Z h (N4 Z Y) (fun y1 h=>?_);refine Ja Z Dz (B9 Z) h 0 (fun z1=>⟨[(4,pB z1)],[]⟩) (fun M1 k1 b h=>?_) (fun z1 h=>?_)
 .refine kG Z h (fun h=>?_) (fun h=>?_)
  .refine kC Z h (N4 Z Y) (fun y3 h=>?_);refine kG Z h (fun h=>?_) (fun h=>?_)
   .refine kG Z h (fun h=>?_) (fun h=>?_)
    .exact b _ [] _ ((P4 .andNot .u32 a.Minus c.Minus)==0) Dz h
    exact b _ [] _ false Dz h
   exact b _ [] _ false Dz h
  exact b _ [] _ false Dz h
 cases h;exact kR Z
def CE (N:Nat)(a:A1):Option Int:= some (P4 .or .u32 a.Plus a.Minus)
theorem IL {a:A1}{y:Int}(h:CE N a=some y) :FunO S IE [.p (.agg (A0 a))] [] (pU y) ([]) []:=by unfold CE at h;refine A8 Z func212 ?_;cases h;exact kR Z
def CF (N:Nat)(c:A1)(b:A1)(a:Int):Option A1:= some (⟨P4 .or .u32 (P4 .andNot .u32 c.Plus a) (P4 .and .u32 b.Plus a),P4 .or .u32 (P4 .andNot .u32 c.Minus a) (P4 .and .u32 b.Minus a)⟩:A1)
theorem IM {c:A1}{a:A1}{b:Int}{y:A1}(h:CF N c a b=some y) :FunO S IF [.p (.agg (A0 c)),.p (.agg (A0 a)),pU b] [] (.p (.agg (A0 y))) ([]) []:=by unfold CF at h;refine A8 Z func213 ?_;cases h;exact kR Z
def BK (N:Nat)(c:A1)(a:Int)(b:A1):Option (A1×Int):= (I5 N c).bind fun y1=>lt (fun (z1:Bool)=>if z1 then some ((⟨0,0⟩:A1),14) else lt (fun (z2:Bool)=>if z2 then some ((⟨0,0⟩:A1),2) else (CE N b).bind fun y6=>(CF N c b (P4 .or .u32 a y6)).bind fun y7=>some (y7,0)) fun k2=>if (decide (16777215<a)) then k2 true else (CE N b).bind fun y5=>k2 ((P4 .and .u32 a y5) != 0)) fun k1=>if (!y1) then k1 true else (I5 N b).bind fun y3=>k1 (!y3)
theorem JB {c:A1}{a:Int}{b:A1}{y:A1×Int}(h:BK N c a b=some y) :FunO S Ev [.p (.agg (A0 c)),pU a,.p (.agg (A0 b))] [] (.tup [.p (.agg (A0 y.1)),pN y.2]) ([]) []:=by
 unfold BK at h;refine A8 Z func200 ?_;refine H1 Z Dz 5 4000 [pI .u32 c.Plus,pI .u32 c.Minus] ?_;refine H1 Z Dz 6 6000 [pI .u32 b.Plus,pI .u32 b.Minus] ?_;obtain⟨y1,e1,h⟩:=B4 h;refine C6 Z [] Gx (N4 Z Y e1) ?_;refine Ja Z Dz (B9 Z) h 0 (fun z1=>⟨[(15,pB z1),(6,.reg 7000 0),(5,.p (.ptr [pI .u32 b.Plus,pI .u32 b.Minus])),(3,.p (.ptr [pI .u32 c.Plus,pI .u32 c.Minus])),(1,pU a)],[(7000,.cells [pU 0,pU 0])]⟩) (fun M1 k1 d h=>?_) (fun z1 h=>?_)
 .refine kG Z h (fun h=>?_) (fun h=>?_)
  .exact d _ [(7000,7000)] _ true Dz h
  obtain⟨y3,e3,h⟩:=B4 h;refine C6 Z [] Gx (N4 Z Y e3) ?_;exact d _ [(7000,7000)] _ (!y3) Dz h
 apply kI Z h<;>intro h
 .cases h;exact kR Z
 refine Ja Z Dz (B9 Z) h 0 (fun z2=>⟨[(25,pB z2),(6,.reg 7000 0),(5,.p (.ptr [pI .u32 b.Plus,pI .u32 b.Minus])),(3,.p (.ptr [pI .u32 c.Plus,pI .u32 c.Minus])),(1,pU a)],[(7000,.cells [pU 0,pU 0])]⟩) (fun M2 k2 f h=>?_) (fun z2 h=>?_)
 .refine kG Z h (fun h=>?_) (fun h=>?_)
  .exact f _ [(7000,7000)] _ true Dz h
  obtain⟨y5,e5,h⟩:=B4 h;refine C6 Z [] Gx (IL Z Y e5) ?_;exact f _ [(7000,7000)] _ ((P4 .and .u32 a y5) != 0) Dz h
 apply kI Z h<;>intro h
 .cases h;exact kR Z
 refine F1 Z Dz [0,1,3,4,6] ?_;obtain⟨y6,e6,h⟩:=B4 h;refine E3 (And.intro (And.intro Gx Gx) Gx) (IL Z Y e6) ?_;obtain⟨y7,e7,h⟩:=B4 h;refine E3 Dz (IM Z Y e7) ?_;refine F6 Dz ?_;cases h;exact kR Z
def DE (N:Nat)(c:A1)(a:A1)(b:Int):Option (A1×Int):= (I5 N c).bind fun y1=>lt (fun (z1:Bool)=>if z1 then some ((⟨0,0⟩:A1),14) else if (decide (16777215<b)) then some ((⟨0,0⟩:A1),2) else (CF N c a b).bind fun y4=>some (y4,0)) fun k1=>if (!y1) then k1 true else (I5 N a).bind fun y3=>k1 (!y3)
theorem Ng {c:A1}{a:A1}{b:Int}{y:A1×Int}(h:DE N c a b=some y) :FunO S Hb [.p (.agg (A0 c)),.p (.agg (A0 a)),pU b] [] (.tup [.p (.agg (A0 y.1)),pN y.2]) ([]) []:=by
 unfold DE at h;refine A8 Z func201 ?_;refine kC Z h (N4 Z Y) (fun y1 h=>?_);refine Ja Z Dz (B9 Z) h 0 (fun z1=>⟨[(15,pB z1),(6,.reg 7000 0),(4,.reg 5000 0),(3,.reg 4000 0),(2,pU b)],[(7000,.cells [pU 0,pU 0]),(5000,.cells [pU a.Plus,pU a.Minus]),(4000,.cells [pU c.Plus,pU c.Minus])]⟩) (fun M1 k1 d h=>?_) (fun z1 h=>?_)
 .refine kG Z h (fun h=>?_) (fun h=>?_)
  .exact d _ [(4000,4000),(5000,5000),(7000,7000)] _ true Dz h
  refine kC Z h (N4 Z Y) (fun y3 h=>?_);exact d _ [(4000,4000),(5000,5000),(7000,7000)] _ (!y3) Dz h
 apply kI Z h<;>intro h
 .cases h;exact kR Z
 apply kI Z h<;>intro h
 .cases h;exact kR Z
 refine kC Z h (IM Z Y) (fun y4 h=>?_);cases h;exact kR Z
def IN (N:Nat)(a:Sl A1)(b:Sl A1):Option Bool:= if ((a.n:Int) != (b.n:Int)) then some false else Cn N (fun c (x1:Int)=>if (decide (x1<(a.n:Int))) then if (((0:Int)<=x1/\x1<(a.n:Int))/\((0:Int)<=x1/\x1<(b.n:Int)))then if ((((a.g x1.toNat).Plus==(b.g x1.toNat).Plus)&&((a.g x1.toNat).Minus==(b.g x1.toNat).Minus)) != true) then some false else c (wrap .i64 (x1+1)) else none else some true) 0
theorem Vq {a:Sl A1}{b:Sl A1}{y:Bool}(h:IN N a b=some y) :FunO S Iw [.p (vSl 2 A0 a),.p (vSl 2 A0 b)] [] (pB y) ([]) []:=by
 unfold IN at h;refine A8 Z func83 ?_;apply kI Z h<;>intro h
 .cases h;exact kR Z
 refine S0 Z Dz h (fun x1=>⟨[(5,pN x1),(1,.p (vSl 2 A0 b)),(0,.p (vSl 2 A0 a))],[]⟩) (ids:=[]) (fun _ _ _ _ _ c x1 d h=>?_);apply kI Z h<;>intro h
 .refine F1 Z Dz [2,3,6,7] ?_;obtain⟨c9,h⟩:=G7 h;refine F6 (And.intro (And.intro (And.intro (And.intro c9.1 Gx) c9.2) Gx) (by decide +kernel:OD Tryz.prog C8=true)) ?_;apply kI Z h<;>intro h
  .cases h;exact kR Z
  exact d _ [] _ (wrap .i64 (x1+1)) Dz h
 cases h;exact kR Z
def DF (N:Nat)(a:A1):Option Bool:= some (((P4 .and .u32 a.Plus a.Minus)==0)&&((shI .shr .u32 (P4 .or .u32 a.Plus a.Minus) 24)==0))
theorem Nh {a:A1}{y:Bool}(h:DF N a=some y) :FunO S GU [.p (.agg (A0 a))] [] (pB y) ([]) []:=by
 unfold DF at h;refine A8 Z func77 ?_;obtain⟨t1,c⟩:∃x:Bool,x=(((P4 .and .u32 a.Plus a.Minus)==0)&&((shI .shr .u32 (P4 .or .u32 a.Plus a.Minus) 24)==0)):=⟨_,rfl⟩;refine Rx Z Dz (B9 Z) 0 ⟨[(2,pB t1)],[]⟩ (fun M1 d=>?_) ?_
 .refine EM Z Dz (b:=(P4 .and .u32 a.Plus a.Minus)==0) (fun c2=>?_) (fun c2=>?_)
  .exact d _ [] _ (by decide:(0:Int)<=24) (hle:=klR [(0,.eq (.bb ((shI .shr .u32 (P4 .or .u32 a.Plus a.Minus) 24)==0)) (.bb t1))] (al1 (by simp only[c,c2,Leaf.ok,pm,Db,Dd]) al0))
  exact d _ [] _ Dz (hle:=klR [(0,.eq (.bb false) (.bb t1))] (al1 (by simp only[c,c2,Leaf.ok,pm,Db,Dd]) al0))
 subst c;cases h;exact kR Z
def W7 (N:Nat)(a:Sl A1):Option Int:= if (decide (32<(a.n:Int))) then some 11 else Cn N (fun b (x1:Int)=>if (decide (x1<(a.n:Int))) then if ((0:Int)<=x1/\x1<(a.n:Int))then (DF N (a.g x1.toNat)).bind fun y3=>if (!y3) then some 14 else b (wrap .i64 (x1+1)) else none else some 0) 0
theorem Bw {a:Sl A1}{y:Int}(h:W7 N a=some y) :FunO S GS [.p (vSl 2 A0 a)] [] (pN y) ([]) []:=by
 unfold W7 at h;refine A8 Z func47 ?_;apply kI Z h<;>intro h
 .cases h;exact kR Z
 refine S0 Z Dz h (fun x1=>⟨[(10,pN x1),(9,pN (a.n:Int)),(8,.p (vSl 2 A0 a))],[]⟩) (ids:=[]) (fun _ _ _ _ _ b x1 c h=>?_);apply kI Z h<;>intro h
 .obtain⟨c9,h⟩:=G7 h;obtain⟨y3,e3,h⟩:=B4 h;refine C6 Z [] (And.intro c9 Gx) (Nh Z Y e3) ?_;apply kI Z h<;>intro h
  .cases h;exact kR Z
  exact c _ [] _ (wrap .i64 (x1+1)) Dz h
 cases h;exact kR Z
def F9 (N:Nat)(a:Sl A1)(b:Sl A1):Option Bool:= if ((a.n:Int) != (b.n:Int)) then some false else Cn N (fun c (x1:Int)=>if (decide (x1<(a.n:Int))) then if (((0:Int)<=x1/\x1<(a.n:Int))/\((0:Int)<=x1/\x1<(b.n:Int)))then if ((((a.g x1.toNat).Plus==(b.g x1.toNat).Plus)&&((a.g x1.toNat).Minus==(b.g x1.toNat).Minus)) != true) then some false else c (wrap .i64 (x1+1)) else none else some true) 0
theorem U3 {a:Sl A1}{b:Sl A1}{y:Bool}(h:F9 N a b=some y) :FunO S K0 [.p (vSl 2 A0 a),.p (vSl 2 A0 b)] [] (pB y) ([]) []:=by
 unfold F9 at h;refine A8 Z func74 ?_;apply kI Z h<;>intro h
 .cases h;exact kR Z
 refine S0 Z Dz h (fun x1=>⟨[(13,pN x1),(12,pN (a.n:Int)),(1,.p (vSl 2 A0 b)),(0,.p (vSl 2 A0 a))],[]⟩) (ids:=[]) (fun _ _ _ _ _ c x1 d h=>?_);apply kI Z h<;>intro h
 .refine F1 Z Dz [2,3,6,7] ?_;obtain⟨c9,h⟩:=G7 h;refine F6 (And.intro (And.intro (And.intro (And.intro c9.1 Gx) c9.2) Gx) (by decide +kernel:OD Tryz.prog C8=true)) ?_;apply kI Z h<;>intro h
  .cases h;exact kR Z
  exact d _ [] _ (wrap .i64 (x1+1)) Dz h
 cases h;exact kR Z
def W8 (N:Nat)(a:Sl A1)(b:Sl A1):Option Bool:= (F9 N a b).bind fun y1=>some y1
theorem Bx {a:Sl A1}{b:Sl A1}{y:Bool}(h:W8 N a b=some y) :FunO S GR [.p (vSl 2 A0 a),.p (vSl 2 A0 b)] [] (pB y) ([]) []:=by unfold W8 at h;refine A8 Z func45 ?_;refine kC Z h (U3 Z Y) (fun y1 h=>?_);cases h;exact kR Z
def W9 (N:Nat)(a:A1):Option Bool:= some (((P4 .and .u32 a.Plus a.Minus)==0)&&((shI .shr .u32 (P4 .or .u32 a.Plus a.Minus) 24)==0))
theorem By {a:A1}{y:Bool}(h:W9 N a=some y) :FunO S GZ [.p (.agg (A0 a))] [] (pB y) ([]) []:=by
 unfold W9 at h;refine A8 Z func152 ?_;obtain⟨t1,c⟩:∃x:Bool,x=(((P4 .and .u32 a.Plus a.Minus)==0)&&((shI .shr .u32 (P4 .or .u32 a.Plus a.Minus) 24)==0)):=⟨_,rfl⟩;refine Rx Z Dz (B9 Z) 0 ⟨[(2,pB t1)],[]⟩ (fun M1 d=>?_) ?_
 .refine EM Z Dz (b:=(P4 .and .u32 a.Plus a.Minus)==0) (fun c2=>?_) (fun c2=>?_)
  .exact d _ [] _ (by decide:(0:Int)<=24) (hle:=klR [(0,.eq (.bb ((shI .shr .u32 (P4 .or .u32 a.Plus a.Minus) 24)==0)) (.bb t1))] (al1 (by simp only[c,c2,Leaf.ok,pm,Db,Dd]) al0))
  exact d _ [] _ Dz (hle:=klR [(0,.eq (.bb false) (.bb t1))] (al1 (by simp only[c,c2,Leaf.ok,pm,Db,Dd]) al0))
 subst c;cases h;exact kR Z
def S4 (N:Nat)(b:Int):Option (Nat->Int):= Ft N (fun a (x1:Nat->Int) (x2:Int)=>if (decide (x2<(wrap .i64 (b+1)))) then if (((0:Int)<=x2/\((0:Int)<=x2/\x2<33))/\(0+x2.toNat*1)<33)then a (Jk x1 (0+x2.toNat*1) (shI .shl .u64 1 x2)) (wrap .i64 (x2+1)) else none else some x1) (fun _=>0) 0
theorem Bg {a:Int}{y:Nat->Int}(h:S4 N a=some y) :FunO S DC [pN a] [] (.p (.agg (cA 33 (pI .u64) y))) ([]) []:=by
 unfold S4 at h;refine A8 Z func242 ?_;refine Q7 Z Dz h (fun x1 x2=>⟨[(7,pN x2),(6,pN (wrap .i64 (a+1))),(3,.reg 4000 0),(2,.reg 3000 0)],[(4000,.arr 33 (fun i=>pI .u64 (x1 i))),(3000,.arr 33 (fun i=>pI .u64 ((fun _=>0) i)))]⟩) (ids:=[(3000,3000),(4000,4000)]) (fun _ _ _ _ _ b x1 x2 d h=>?_) (hle:=klR [(2,.fn 33 33 (fun i=>[(fun i=>(List.replicate 33 (pI .u64 0)).getD i default) i]) (fun i=>[pI .u64 ((fun _=>0) i)])),(3,.fn 33 33 (fun i=>[(fun i=>(List.replicate 33 (pI .u64 0)).getD i default) i]) (fun i=>[pI .u64 ((fun _=>0) i)]))] (al1 ⟨rfl,Z4 (z:=pI .u64 0) rfl⟩ (al1 ⟨rfl,Z4 (z:=pI .u64 0) rfl⟩ al0)));apply kI Z h<;>intro h
 .obtain⟨c4,h⟩:=G7 h;exact d _ [(3000,3000),(4000,4000)] _ (Jk x1 (0+x2.toNat*1) (shI .shl .u64 1 x2)) (wrap .i64 (x2+1)) c4 h (hle:=klR [(2,.fn 33 33 (fun i=>[(fun i=>if i=(0+x2.toNat*1)then (pI .u64 (shI .shl .u64 1 x2))else (fun i=>pI .u64 (x1 i)) i) i]) (fun i=>[pI .u64 (Jk x1 (0+x2.toNat*1) (shI .shl .u64 1 x2) i)]))] (al1 ⟨rfl,UZ (c:=pI .u64) (v:=x1) (x:=shI .shl .u64 1 x2) (fun _ _=>rfl) rfl⟩ al0))
 obtain rfl:=D0 h;exact B3 Z (And.intro rfl (E4 _ _):(0:Nat)=0/\(An 33 (fun i=>pI .u64 (x1 i))).length=33) ⟨[(2,.reg 3000 0)],[(3000,.arr 33 (fun i=>pI .u64 (x1 i)))]⟩ [] (ids:=[(3000,3000)]) ⟨rfl,rfl,rfl⟩ (hle:=klR [(0,.fn 33 33 (fun i=>[(fun i=>(cA 33 (pI .u64) x1).getD i default) i]) (fun i=>[pI .u64 (x1 i)]))] (al1 ⟨rfl,D4 33 (fun i=>pI .u64 (x1 i))⟩ al0))
def Q8 (N:Nat)(p_x:Nat->Int)(b:Nat->Int):Option (Nat->Int):= Ft N (fun a (x1:Nat->Int) (x2:Int)=>if (decide (x2<33)) then if (((0:Int)<=x2/\x2<33)/\(0+x2.toNat*1)<33)then if (((((0:Int)<=x2/\x2<33)/\(0+x2.toNat*1)<33)/\((0:Int)<=x2/\x2<33))/\(0+x2.toNat*1)<33)then a (Jk x1 (0+x2.toNat*1) (P4 .or .u64 (x1 (0+x2.toNat*1)) (b (0+x2.toNat*1)))) (wrap .i64 (x2+1)) else none else none else some x1) p_x 0
theorem Bz {p_x:Nat->Int}{a:Nat->Int}{y:Nat->Int}(h:Q8 N p_x a=some y) :FunO S Bu [.reg 0 0,.reg 1 0] [.arr 33 (fun i=>pI .u64 (p_x i)),.arr 33 (fun i=>pI .u64 (a i))] (.tup []) ([.arr 33 (fun i=>pI .u64 (y i)),.arr 33 (fun i=>pI .u64 (a i))]) [true,true]:=by
 unfold Q8 at h;refine A8 Z func240 ?_;refine Q7 Z Dz h (fun x1 x2=>⟨[(7,pN x2),(6,.reg 1 0),(0,.reg 0 0)],[(1,.arr 33 (fun i=>pI .u64 (a i))),(0,.arr 33 (fun i=>pI .u64 (x1 i)))]⟩) (ids:=[(0,0),(1,1)]) (fun _ _ _ _ _ b x1 x2 d h=>?_);apply kI Z h<;>intro h
 .refine BG Z Dz ?_;obtain⟨c8,h⟩:=G7 h;refine F6 c8 ?_;refine BG Z Dz ?_;obtain⟨c9,h⟩:=G7 h;refine F6 c9 ?_;exact d _ [(0,0),(1,1)] _ (Jk x1 (0+x2.toNat*1) (P4 .or .u64 (x1 (0+x2.toNat*1)) (a (0+x2.toNat*1)))) (wrap .i64 (x2+1)) Dz h (hle:=klR [(2,.fn 33 33 (fun i=>[(fun i=>if i=(0+x2.toNat*1)then (pI .u64 (P4 .or .u64 (x1 (0+x2.toNat*1)) (a (0+x2.toNat*1))))else (fun i=>pI .u64 (x1 i)) i) i]) (fun i=>[pI .u64 (Jk x1 (0+x2.toNat*1) (P4 .or .u64 (x1 (0+x2.toNat*1)) (a (0+x2.toNat*1))) i)]))] (al1 ⟨rfl,UZ (c:=pI .u64) (v:=x1) (x:=P4 .or .u64 (x1 (0+x2.toNat*1)) (a (0+x2.toNat*1))) (fun _ _=>rfl) rfl⟩ al0))
 obtain rfl:=D0 h;exact B3 Z Dz ⟨[],[(1,.arr 33 (fun i=>pI .u64 (a i))),(0,.arr 33 (fun i=>pI .u64 (x1 i)))]⟩ [0,1] (ids:=[(0,0),(1,1)]) ⟨rfl,rfl,rfl⟩
def AI (N:Nat)(b:Sl A1)(a:Int):Option Int:= if ((decide (a<0))||(decide ((b.n:Int)<a))) then some 3 else some 0
theorem FS {c:Sl A1}{b:Int}{y:Int}(h:AI N c b=some y) :FunO S FP [.p (vSl 2 A0 c),pN b] [] (pN y) ([]) []:=by
 unfold AI at h;refine A8 Z func215 ?_;refine kB Z (B9 Z) Dz Dz 5 (.o (.a (decide (b<0))) (.a (decide ((c.n:Int)<b)))) ?_;apply kI Z h<;>intro h
 .cases h;exact kR Z
 cases h;exact kR Z
def BL (N:Nat)(a:Pat):Option Int:= if (if (a.Kind==0) then a.Kind==0 else (if (a.Kind==2) then a.Kind==2 else a.Kind==6)) then lt (fun (z1:Bool)=>if z1 then some 2 else (W9 N a.Is).bind fun y1=>if (!y1) then some 14 else some 0) fun k1=>if (((a.Is.Plus==0)&&(a.Is.Minus==0)) != true) then k1 true else if a.Not then k1 true else if (a.Min != 0) then k1 true else if (a.Max != 0) then k1 true else k1 (decide (0<(a.L.n:Int))) else if (a.Kind==1) then lt (fun (z2:Bool)=>if z2 then some 2 else (W9 N a.Is).bind fun y2=>if (!y2) then some 14 else some 0) fun k2=>if (((0==0)&&(0==0)) != true) then k2 true else if (a.Min != 0) then k2 true else if (a.Max != 0) then k2 true else k2 (decide (0<(a.L.n:Int))) else lt (fun (z3:Int×Int)=>if (((((((a.Is.Plus==0)&&(a.Is.Minus==0)) != true)||a.Not)||(z3.1 != 0))||(z3.2 != 0))||(decide (0<0))) then some 2 else (W9 N a.Is).bind fun y3=>if (!y3) then some 14 else some 0) fun k3=>if (if (a.Kind==3) then a.Kind==3 else a.Kind==4) then k3 (a.Min,a.Max) else if (a.Kind==5) then if (((((a.L.n:Int) != 1)||(decide (a.Min<0)))||(decide (32<a.Min)))||((a.Max != (-1))&&((decide (a.Max<a.Min))||(decide (32<a.Max))))) then some 2 else k3 (0,0) else some 2
theorem JC {c:Pat}{y:Int}(h:BL N c=some y) :FunO S Et [.p (.agg (G8 c))] [] (pN y) ([]) []:=by
 unfold BL at h;refine A8 Z func130 ?_;obtain⟨t1,f⟩:∃x:Bool,x=(if (c.Kind==0) then c.Kind==0 else (if (c.Kind==2) then c.Kind==2 else c.Kind==6)):=⟨_,rfl⟩;refine Rx Z Dz (B9 Z) 0 ⟨[(8,pB t1),(7,pN c.Kind),(3,.reg 4000 0),(1,.reg 2000 0)],[(4000,.cells [pN 0,pU c.Is.Plus,pU c.Is.Minus,pB c.Not,pN c.Min,pN c.Max,.p (.sl false 7 c.L.n (Cx c))]),(2000,.cells ((G8 c).map .p))]⟩ (fun M1 l=>?_) ?_
 .refine D9 Z Dz (b:=c.Kind==0) (fun c3=>?_) (fun c3=>?_)
  .exact l _ [(2000,2000),(4000,4000)] _ Dz (hle:=klR [(0,.eq (.bb (c.Kind==0)) (.bb t1))] (al1 (by simp only[f,c3,Leaf.ok,pm,Db,Dd]) al0))
  refine D9 Z Dz (b:=c.Kind==2) (fun c4=>?_) (fun c4=>?_)
  .exact l _ [(2000,2000),(4000,4000)] _ Dz (hle:=klR [(0,.eq (.bb (c.Kind==2)) (.bb t1))] (al1 (by simp only[f,c3,c4,Leaf.ok,pm,Db,Dd]) al0))
  exact l _ [(2000,2000),(4000,4000)] _ Dz (hle:=klR [(0,.eq (.bb (c.Kind==6)) (.bb t1))] (al1 (by simp only[f,c3,c4,Leaf.ok,pm,Db,Dd]) al0))
 subst f;apply kI Z h<;>intro h
 .refine Ja Z (by decide +kernel:OD Tryz.prog C8=true) (B9 Z) h 0 (fun z1=>⟨[(57,pB z1),(1,.reg 2000 0)],[(2000,.cells ((G8 c).map .p))]⟩) (fun M3 k1 d h=>?_) (fun z1 h=>?_)
  .refine kG Z h (fun h=>?_) (fun h=>?_)
   .exact d _ [(2000,2000)] _ true Dz h
   refine kG Z h (fun h=>?_) (fun h=>?_)
   .exact d _ [(2000,2000)] _ true Dz h
   refine kG Z h (fun h=>?_) (fun h=>?_)
   .exact d _ [(2000,2000)] _ true Dz h
   refine kG Z h (fun h=>?_) (fun h=>?_)
   .exact d _ [(2000,2000)] _ true Dz h
   refine Aq Z Dz 79 ⟨[(78,.p (vSl 7 G8 c.L)),(76,.p (.v (.bool false))),(1,.reg 2000 0)],[(2000,.cells ((G8 c).map .p))]⟩ (ids:=[(2000,2000)]) ?_ (hle:=klR [(0,.fn c.L.n c.L.n (Cx c) (fun i=>G8 (c.L.g i)))] (al1 ⟨rfl,DX c⟩ al0));exact d _ [(2000,2000)] _ (decide (0<(c.L.n:Int))) Dz h
  apply kI Z h<;>intro h
  .cases h;exact kR Z
  refine kC Z h (By Z Y) (fun y1 h=>?_);apply kI Z h<;>intro h
  .cases h;exact kR Z
  cases h;exact kR Z
 apply kI Z h<;>intro h
 .refine Ja Z (by decide +kernel:OD Tryz.prog C8=true) (B9 Z) h 0 (fun z2=>⟨[(57,pB z2),(1,.reg 2000 0)],[(2000,.cells ((G8 c).map .p))]⟩) (fun M5 k2 j h=>?_) (fun z2 h=>?_)
  .refine kG Z h (fun h=>?_) (fun h=>?_)
   .exact j _ [(2000,2000)] _ true Dz h
   refine EM Z Dz (b:=false) (fun c54=>?_) (fun c54=>?_)
   .exact Bool.noConfusion ((rfl:false=false).symm.trans c54)
   refine kG Z h (fun h=>?_) (fun h=>?_)
   .exact j _ [(2000,2000)] _ true Dz h
   refine kG Z h (fun h=>?_) (fun h=>?_)
   .exact j _ [(2000,2000)] _ true Dz h
   refine Aq Z Dz 79 ⟨[(78,.p (vSl 7 G8 c.L)),(76,.p (.v (.bool false))),(1,.reg 2000 0)],[(2000,.cells ((G8 c).map .p))]⟩ (ids:=[(2000,2000)]) ?_ (hle:=klR [(0,.fn c.L.n c.L.n (Cx c) (fun i=>G8 (c.L.g i)))] (al1 ⟨rfl,DX c⟩ al0));exact j _ [(2000,2000)] _ (decide (0<(c.L.n:Int))) Dz h
  apply kI Z h<;>intro h
  .cases h;exact kR Z
  refine kC Z h (By Z Y) (fun y2 h=>?_);apply kI Z h<;>intro h
  .cases h;exact kR Z
  cases h;exact kR Z
 obtain⟨t4,m⟩:∃x:Bool,x=(if (c.Kind==3) then c.Kind==3 else c.Kind==4):=⟨_,rfl⟩;refine Rx Z Dz (B9 Z) 0 ⟨[(17,pB t4),(7,pN c.Kind),(3,.reg 4000 0),(1,.reg 2000 0)],[(4000,.cells [pN 0,pU c.Is.Plus,pU c.Is.Minus,pB c.Not,pN c.Min,pN c.Max,.p (.sl false 7 c.L.n (Cx c))]),(2000,.cells ((G8 c).map .p))]⟩ (fun M6 q=>?_) ?_
 .refine D9 Z Dz (b:=c.Kind==3) (fun c60=>?_) (fun c60=>?_)
  .exact q _ [(2000,2000),(4000,4000)] _ Dz (hle:=klR [(0,.eq (.bb (c.Kind==3)) (.bb t4))] (al1 (by simp only[m,c60,Leaf.ok,pm,Db,Dd]) al0))
  exact q _ [(2000,2000),(4000,4000)] _ Dz (hle:=klR [(0,.eq (.bb (c.Kind==4)) (.bb t4))] (al1 (by simp only[m,c60,Leaf.ok,pm,Db,Dd]) al0))
 subst m;refine Ja Z Dz (B9 Z) h 0 (fun z3=>⟨[(3,.reg 4000 0),(1,.reg 2000 0)],[(4000,.cells [pN 0,pU c.Is.Plus,pU c.Is.Minus,pB c.Not,pN z3.1,pN z3.2,.p C0]),(2000,.cells ((G8 c).map .p))]⟩) (fun M7 k3 r h=>?_) (fun z3 h=>?_)
 .apply kI Z h<;>intro h
  .exact r _ [(2000,2000),(4000,4000)] _ (c.Min,c.Max) Dz h
  apply kI Z h<;>intro h
  .refine Aq Z Dz 25 ⟨[(24,.p (vSl 7 G8 c.L)),(3,.reg 4000 0),(1,.reg 2000 0)],[(4000,.cells [pN 0,pU c.Is.Plus,pU c.Is.Minus,pB c.Not,pN c.Min,pN c.Max,.p (.sl false 7 c.L.n (Cx c))]),(2000,.cells ((G8 c).map .p))]⟩ (ids:=[(2000,2000),(4000,4000)]) ?_ (hle:=klR [(0,.fn c.L.n c.L.n (Cx c) (fun i=>G8 (c.L.g i)))] (al1 ⟨rfl,DX c⟩ al0));refine kB Z (B9 Z) Dz Dz 26 (.o (.o (.o (.a ((c.L.n:Int) != 1)) (.a (decide (c.Min<0)))) (.a (decide (32<c.Min)))) (.n (.a (c.Max != (-1))) (.o (.a (decide (c.Max<c.Min))) (.a (decide (32<c.Max)))))) ?_;apply kI Z h<;>intro h
   .cases h;exact kR Z
   exact r _ [(2000,2000),(4000,4000)] _ (0,0) Dz h
  cases h;exact kR Z
 refine kB Z (B9 Z) (by decide +kernel:OD Tryz.prog C8=true) Dz 19 (.o (.o (.o (.o (.a (((c.Is.Plus==0)&&(c.Is.Minus==0)) != true)) (.a c.Not)) (.a (z3.1 != 0))) (.a (z3.2 != 0))) (.a (decide (0<0)))) ?_;apply kI Z h<;>intro h
 .cases h;exact kR Z
 refine kC Z h (By Z Y) (fun y3 h=>?_);apply kI Z h<;>intro h
 .cases h;exact kR Z
 cases h;exact kR Z
end Go.AM
namespace Go.AM
open IntKind (wrap)
open Go.Proofs
set_option maxRecDepth 10000
set_option maxHeartbeats 2000000
variable {S:R7}(Z:F4 S Tryz.prog) (Y:HC S)
include Z Y
def Qr (N:Nat)(a:Str):Option Bool:= Cn N (fun b (x1:Int)=>if (decide (x1<(a.length:Int))) then if ((0:Int)<=x1/\x1<(a.length:Int))then if (!(((((decide (97<=(GP a x1)))&&(decide ((GP a x1)<=122)))||((decide (65<=(GP a x1)))&&(decide ((GP a x1)<=90))))||((decide (48<=(GP a x1)))&&(decide ((GP a x1)<=57))))||((GP a x1)==45))) then some false else b (wrap .i64 (x1+1)) else none else some ((decide (1<=(a.length:Int)))&&(decide ((a.length:Int)<=24)))) 0
end Go.AM
namespace Go.AM
open Go.Proofs.Tryz
variable {N:Nat}
open IntKind (wrap)
open Go.Proofs
set_option maxRecDepth 10000
set_option maxHeartbeats 2000000
variable {S:R7}(Z:F4 S Tryz.prog) (Y:HC S)
include Z Y
def P7 (N:Nat)(q0:Int):Option (List (Int)):= Cn N (fun a (x1:Int)=>if (x1 != 0) then (S3 N x1).bind fun y3=>if (0:Int)<=y3 then Hi y3 (a (P4 .andNot .u64 x1 (shI .shl .u64 1 y3))) else none else some []) q0
theorem Ar {q0:Int}{L:List (Int)}(h:P7 N q0=some L) :Di S V9 [] [.reg 0 0] [.cells [.p (pI .u64 q0)]] (L.map (fun (x:Int)=>[pI .i64 x])):=by
 unfold P7 at h;refine DV Z func219 ?_;refine Ds Z Dz h (fun x1 L1=>⟨[(1,.reg 0 0),(0,.yf 1)],[(1,.yld (L1.map (fun (x:Int)=>[pI .i64 x])) true),(0,.cells [.p (pI .u64 x1)])]⟩) (ids:=[(0,0),(1,1)]) (fun _ _ _ _ _ d x1 L1 f h=>?_);apply kI Z h<;>intro h
 .refine kC Z h (Bf Z Y) (fun y3 h=>?_);refine BG Z Dz ?_;obtain⟨c10,h⟩:=G7 h;refine F6 c10 ?_;obtain⟨L4,rfl,c⟩:=Jj h;replace h:=c;refine BH Z Dz (ys:=(fun (x:Int)=>[pI .i64 x]) y3) (rest:=L4.map (fun (x:Int)=>[pI .i64 x])) ?_ ?_
  .refine D9 Z Dz (b:=false) (fun c11=>?_) (fun c11=>?_)
   .exact Bool.noConfusion ((rfl:false=false).symm.trans c11)
   exact f _ [(0,0),(1,1)] _ (P4 .andNot .u64 x1 (shI .shl .u64 1 y3)) L4 Dz h
  refine D9 Z Dz (b:=true) (fun c12=>?_) (fun c12=>?_)
  .exact B3 Z Dz (a:=.tup []) (objs:=[(.cells [.p (pI .u64 (P4 .andNot .u64 x1 (shI .shl .u64 1 y3)))]),.yld [] false]) ⟨[],[(1,.yld [] false),(0,.cells [.p (pI .u64 (P4 .andNot .u64 x1 (shI .shl .u64 1 y3)))])]⟩ [0,1] (ids:=[(0,0),(1,1)]) ⟨false,rfl,rfl,_,rfl⟩
  exact Bool.noConfusion (Hn.symm.trans c12)
 obtain rfl:=D0 h;exact B3 Z Dz (a:=.tup []) (objs:=[(.cells [.p (pI .u64 x1)]),.yld [] true]) ⟨[],[(1,.yld [] true),(0,.cells [.p (pI .u64 x1)])]⟩ [0,1] (ids:=[(0,0),(1,1)]) ⟨true,rfl,rfl,_,rfl⟩
def V5 (N:Nat)(a:Int):Option (Int):= some a
theorem BM {a:Int}{y:Int}(h:V5 N a=some y) :FunO S Ew [.p (pI .u64 a)] [] (.clo V9 [] [.reg 0 0]) ([.cells [.p (pI .u64 y)]]) []:=by unfold V5 at h;refine A8 Z func216 ?_;obtain rfl:=D0 h;exact B3 Z Dz ⟨[(2,.clo V9 [] [.reg 2000 0])],[(2000,.cells [.p (pI .u64 a)])]⟩ [2000] (ids:=[(2000,2000)]) ⟨rfl,rfl,rfl⟩
def H6 (N:Nat)(p_x:Nat->Int)(c:Nat->Int):Option (Nat->Int):= Ft N (fun a (x3:Nat->Int) (x4:Int)=>if (decide (x4<33)) then if (((0:Int)<=x4/\x4<33)/\(0+x4.toNat*1)<33)then (V5 N (p_x (0+x4.toNat*1))).bind fun y3=>(P7 N y3).bind fun L3=>Y5 L3 (fun b (x7:Int) (z3:Nat->Int)=>if (((((((0:Int)<=x4/\x4<33)/\(0+x4.toNat*1)<33)/\((0:Int)<=x7/\x7<33))/\(0+x7.toNat*1)<33)/\((0:Int)<=x4/\x4<33))/\(0+x4.toNat*1)<33)then b (Jk z3 (0+x4.toNat*1) (P4 .or .u64 (z3 (0+x4.toNat*1)) (c (0+x7.toNat*1)))) else none) (fun (z3:Nat->Int)=>a z3 (wrap .i64 (x4+1))) x3 else none else some x3) (fun _=>0) 0
theorem O3 {p_x:Nat->Int}{b:Nat->Int}{y:Nat->Int}(h:H6 N p_x b=some y) :FunO S U2 [.reg 0 0,.reg 1 0] [.arr 33 (fun i=>pI .u64 (p_x i)),.arr 33 (fun i=>pI .u64 (b i))] (.p (.agg (cA 33 (pI .u64) y))) ([.arr 33 (fun i=>pI .u64 (p_x i)),.arr 33 (fun i=>pI .u64 (b i))]) [true,true]:=by
 unfold H6 at h;refine A8 Z func243 ?_;refine Q7 Z Dz h (fun x3 x4=>⟨[(10,pN x4),(9,.reg 0 0),(5,.reg 6000 0),(4,.reg 5000 0),(3,.reg 4000 0)],[(6000,.arr 33 (fun i=>pI .u64 (x3 i))),(5000,.arr 33 (fun i=>pI .u64 ((fun _=>0) i))),(4000,.cells [.reg 1 0]),(1,.arr 33 (fun i=>pI .u64 (b i))),(0,.arr 33 (fun i=>pI .u64 (p_x i)))]⟩) (ids:=[(0,0),(1,1),(4000,4000),(5000,5000),(6000,6000)]) (fun _ _ _ _ _ d x3 x4 f h=>?_) (hle:=klR [(1,.fn 33 33 (fun i=>[(fun i=>(List.replicate 33 (pI .u64 0)).getD i default) i]) (fun i=>[pI .u64 ((fun _=>0) i)])),(2,.fn 33 33 (fun i=>[(fun i=>(List.replicate 33 (pI .u64 0)).getD i default) i]) (fun i=>[pI .u64 ((fun _=>0) i)]))] (al1 ⟨rfl,Z4 (z:=pI .u64 0) rfl⟩ (al1 ⟨rfl,Z4 (z:=pI .u64 0) rfl⟩ al0)));apply kI Z h<;>intro h
 .refine N3 Z Dz [(2,.l [0]),(3,.l [0]),(4,.a [7000]),(5,.a [7000])] ?_;obtain⟨c12,h⟩:=G7 h;refine F6 c12 ?_;refine H1 Z Dz 16 7000 [pI .i64 x4] ?_;refine kC Z h (BM Z Y) (fun y3 h=>?_);obtain⟨L3,e6,h⟩:=B4 h;refine Cu Z Dz [18000] [10,9,6,5,4,3] 905 (fun z3=>⟨[(10,pN x4),(9,.reg 0 0),(6,.p (.ptr [pI .i64 x4])),(5,.reg 6000 0),(4,.reg 5000 0),(3,.reg 4000 0)],[(6000,.arr 33 (fun i=>pI .u64 (z3 i))),(5000,.arr 33 (fun i=>pI .u64 ((fun _=>0) i))),(4000,.cells [.reg 1 0]),(1,.arr 33 (fun i=>pI .u64 (b i))),(0,.arr 33 (fun i=>pI .u64 (p_x i)))]⟩) (idl:=[(0,0),(1,1),(4000,4000),(5000,5000),(6000,6000)]) h (Ar Z Y e6) (fun _=>by kernel_rfl) (fun _=>by kernel_rfl) (fun _=>by kernel_rfl) (fun _=>by kernel_rfl) (fun x7 _ g z3 j h=>?_) (fun z3 h=>?_)
  .refine Fx Z Dz ?_;refine N3 Z Dz [(0,.n),(1,.l [6000]),(2,.l [6000]),(3,.l [4000]),(6,.l [1]),(7,.l [1]),(9,.l [6000]),(10,.a [6000])] ?_;obtain⟨c15,h⟩:=G7 h;refine F6 c15 ?_;exact j _ [(0,0),(1,1),(905,905),(4000,4000),(5000,5000),(6000,6000)] _ (Jk z3 (0+x4.toNat*1) (P4 .or .u64 (z3 (0+x4.toNat*1)) (b (0+x7.toNat*1)))) Dz h (hle:=klR [(0,.fn 33 33 (fun i=>[(fun i=>if i=(0+x4.toNat*1)then (pI .u64 (P4 .or .u64 (z3 (0+x4.toNat*1)) (b (0+x7.toNat*1))))else (fun i=>pI .u64 (z3 i)) i) i]) (fun i=>[pI .u64 (Jk z3 (0+x4.toNat*1) (P4 .or .u64 (z3 (0+x4.toNat*1)) (b (0+x7.toNat*1))) i)]))] (al1 ⟨rfl,UZ (c:=pI .u64) (v:=z3) (x:=P4 .or .u64 (z3 (0+x4.toNat*1)) (b (0+x7.toNat*1))) (fun _ _=>rfl) rfl⟩ al0))
  exact f _ [(0,0),(1,1),(4000,4000),(5000,5000),(6000,6000)] _ z3 (wrap .i64 (x4+1)) Dz h
 obtain rfl:=D0 h;exact B3 Z (And.intro rfl (E4 _ _):(0:Nat)=0/\(An 33 (fun i=>pI .u64 (x3 i))).length=33) ⟨[(4,.reg 5000 0)],[(5000,.arr 33 (fun i=>pI .u64 (x3 i))),(1,.arr 33 (fun i=>pI .u64 (b i))),(0,.arr 33 (fun i=>pI .u64 (p_x i)))]⟩ [0,1] (ids:=[(0,0),(1,1),(5000,5000)]) ⟨rfl,rfl,rfl⟩ (hle:=klR [(0,.fn 33 33 (fun i=>[(fun i=>(cA 33 (pI .u64) x3).getD i default) i]) (fun i=>[pI .u64 (x3 i)]))] (al1 ⟨rfl,D4 33 (fun i=>pI .u64 (x3 i))⟩ al0))
def N5 (N:Nat)(p_x:Nat->Int):Option (Nat->Int):= Ft N (fun a (x3:Nat->Int) (x4:Int)=>if (decide (x4<33)) then if (((0:Int)<=x4/\x4<33)/\(0+x4.toNat*1)<33)then (V5 N (p_x (0+x4.toNat*1))).bind fun y3=>(P7 N y3).bind fun L3=>Y5 L3 (fun b (x7:Int) (z3:Nat->Int)=>if (((((((0:Int)<=x4/\x4<33)/\(0+x4.toNat*1)<33)/\((0:Int)<=x7/\x7<33))/\(0+x7.toNat*1)<33)/\((0:Int)<=x4/\x4<33))/\(0+x4.toNat*1)<33)then b (Jk z3 (0+x4.toNat*1) (P4 .or .u64 (z3 (0+x4.toNat*1)) (p_x (0+x7.toNat*1)))) else none) (fun (z3:Nat->Int)=>a z3 (wrap .i64 (x4+1))) x3 else none else some x3) (fun _=>0) 0
theorem Aj {p_x:Nat->Int}{y:Nat->Int}(h:N5 N p_x=some y) :FunO S U2 [.reg 0 0,.reg 0 0] [.arr 33 (fun i=>pI .u64 (p_x i))] (.p (.agg (cA 33 (pI .u64) y))) ([.arr 33 (fun i=>pI .u64 (p_x i))]) [true]:=by
 unfold N5 at h;refine A8 Z func243 ?_;refine Q7 Z Dz h (fun x3 x4=>⟨[(10,pN x4),(9,.reg 0 0),(5,.reg 6000 0),(4,.reg 5000 0),(3,.reg 4000 0)],[(6000,.arr 33 (fun i=>pI .u64 (x3 i))),(5000,.arr 33 (fun i=>pI .u64 ((fun _=>0) i))),(4000,.cells [.reg 0 0]),(0,.arr 33 (fun i=>pI .u64 (p_x i)))]⟩) (ids:=[(0,0),(4000,4000),(5000,5000),(6000,6000)]) (fun _ _ _ _ _ b x3 x4 d h=>?_) (hle:=klR [(1,.fn 33 33 (fun i=>[(fun i=>(List.replicate 33 (pI .u64 0)).getD i default) i]) (fun i=>[pI .u64 ((fun _=>0) i)])),(2,.fn 33 33 (fun i=>[(fun i=>(List.replicate 33 (pI .u64 0)).getD i default) i]) (fun i=>[pI .u64 ((fun _=>0) i)]))] (al1 ⟨rfl,Z4 (z:=pI .u64 0) rfl⟩ (al1 ⟨rfl,Z4 (z:=pI .u64 0) rfl⟩ al0)));apply kI Z h<;>intro h
 .refine N3 Z Dz [(2,.l [0]),(3,.l [0]),(4,.a [7000]),(5,.a [7000])] ?_;obtain⟨c12,h⟩:=G7 h;refine F6 c12 ?_;refine H1 Z Dz 16 7000 [pI .i64 x4] ?_;refine kC Z h (BM Z Y) (fun y3 h=>?_);obtain⟨L3,e6,h⟩:=B4 h;refine Cu Z Dz [18000] [10,9,6,5,4,3] 905 (fun z3=>⟨[(10,pN x4),(9,.reg 0 0),(6,.p (.ptr [pI .i64 x4])),(5,.reg 6000 0),(4,.reg 5000 0),(3,.reg 4000 0)],[(6000,.arr 33 (fun i=>pI .u64 (z3 i))),(5000,.arr 33 (fun i=>pI .u64 ((fun _=>0) i))),(4000,.cells [.reg 0 0]),(0,.arr 33 (fun i=>pI .u64 (p_x i)))]⟩) (idl:=[(0,0),(4000,4000),(5000,5000),(6000,6000)]) h (Ar Z Y e6) (fun _=>by kernel_rfl) (fun _=>by kernel_rfl) (fun _=>by kernel_rfl) (fun _=>by kernel_rfl) (fun x7 _ f z3 g h=>?_) (fun z3 h=>?_)
  .refine Fx Z Dz ?_;refine N3 Z Dz [(0,.n),(1,.l [6000]),(2,.l [6000]),(3,.l [4000]),(6,.l [0]),(7,.l [0]),(9,.l [6000]),(10,.a [6000])] ?_;obtain⟨c15,h⟩:=G7 h;refine F6 c15 ?_;exact g _ [(0,0),(905,905),(4000,4000),(5000,5000),(6000,6000)] _ (Jk z3 (0+x4.toNat*1) (P4 .or .u64 (z3 (0+x4.toNat*1)) (p_x (0+x7.toNat*1)))) Dz h (hle:=klR [(0,.fn 33 33 (fun i=>[(fun i=>if i=(0+x4.toNat*1)then (pI .u64 (P4 .or .u64 (z3 (0+x4.toNat*1)) (p_x (0+x7.toNat*1))))else (fun i=>pI .u64 (z3 i)) i) i]) (fun i=>[pI .u64 (Jk z3 (0+x4.toNat*1) (P4 .or .u64 (z3 (0+x4.toNat*1)) (p_x (0+x7.toNat*1))) i)]))] (al1 ⟨rfl,UZ (c:=pI .u64) (v:=z3) (x:=P4 .or .u64 (z3 (0+x4.toNat*1)) (p_x (0+x7.toNat*1))) (fun _ _=>rfl) rfl⟩ al0))
  exact d _ [(0,0),(4000,4000),(5000,5000),(6000,6000)] _ z3 (wrap .i64 (x4+1)) Dz h
 obtain rfl:=D0 h;exact B3 Z (And.intro rfl (E4 _ _):(0:Nat)=0/\(An 33 (fun i=>pI .u64 (x3 i))).length=33) ⟨[(4,.reg 5000 0)],[(5000,.arr 33 (fun i=>pI .u64 (x3 i))),(0,.arr 33 (fun i=>pI .u64 (p_x i)))]⟩ [0] (ids:=[(0,0),(5000,5000)]) ⟨rfl,rfl,rfl⟩ (hle:=klR [(0,.fn 33 33 (fun i=>[(fun i=>(cA 33 (pI .u64) x3).getD i default) i]) (fun i=>[pI .u64 (x3 i)]))] (al1 ⟨rfl,D4 33 (fun i=>pI .u64 (x3 i))⟩ al0))
def I8 (N:Nat)(p_x:Nat->Int)(b:Int)(c:Int):Option (Nat->Int):= (S4 N c).bind fun y1=>UI N (fun a (x1:Int) (x2:Nat->Int) (x3:Nat->Int)=>if (decide (0<x1)) then if ((P4 .and .i64 x1 1)==1) then (H6 N x3 x2).bind fun y8=>(N5 N x2).bind fun y9=>a (shI .shr .i64 x1 1) y9 y8 else (N5 N x2).bind fun d=>a (shI .shr .i64 x1 1) d x3 else some x3) b p_x y1
theorem S5 {p_x:Nat->Int}{b:Int}{c:Int}{y:Nat->Int}(h:I8 N p_x b c=some y) :FunO S Ai [.p (.agg (cA 33 (pI .u64) p_x)),pN b,pN c] [] (.p (.agg (cA 33 (pI .u64) y))) ([]) []:=by
 unfold I8 at h;refine A8 Z func236 ?_;refine kC Z h (Bg Z Y) (fun y1 h=>?_);refine Km Z (And.intro rfl (E4 _ _):(0:Nat)=0/\(An 33 (fun i=>pI .u64 (y1 i))).length=33) h (fun x1 x2 x3=>⟨[(7,.reg 8000 0),(6,.reg 7000 0),(3,.reg 4000 0),(1,pN x1)],[(8000,.arr 33 (fun i=>pI .u64 (x3 i))),(7000,.arr 33 (fun i=>pI .u64 ((fun _=>0) i))),(4000,.arr 33 (fun i=>pI .u64 (x2 i)))]⟩) (ids:=[(4000,4000),(7000,7000),(8000,8000)]) (fun _ _ _ _ _ f x1 x2 x3 d h=>?_) (hle:=klR [(1,.fn 33 33 (fun i=>[(fun i=>(cA 33 (pI .u64) y1).getD i default) i]) (fun i=>[pI .u64 (y1 i)])),(2,.fn 33 33 (fun i=>[(fun i=>(List.replicate 33 (pI .u64 0)).getD i default) i]) (fun i=>[pI .u64 ((fun _=>0) i)])),(3,.fn 33 33 (fun i=>[(fun i=>(cA 33 (pI .u64) p_x).getD i default) i]) (fun i=>[pI .u64 (p_x i)]))] (al1 ⟨rfl,D4 33 (fun i=>pI .u64 (y1 i))⟩ (al1 ⟨rfl,Z4 (z:=pI .u64 0) rfl⟩ (al1 ⟨rfl,D4 33 (fun i=>pI .u64 (p_x i))⟩ al0))));apply kI Z h<;>intro h
 .apply kI Z h<;>intro h
  .obtain⟨y8,e8,h⟩:=B4 h;refine C6 Z [8000,4000] Dz (O3 Z Y e8) ?_;obtain⟨y9,e9,h⟩:=B4 h;refine C6 Z [4000] (And.intro rfl (E4 _ _):(0:Nat)=0/\(An 33 (fun i=>pI .u64 (y8 i))).length=33) (Aj Z Y e9) ?_;exact d _ [(4000,4000),(7000,7000),(8000,8000)] _ (shI .shr .i64 x1 1) y9 y8 (And.intro (And.intro rfl (E4 _ _):(0:Nat)=0/\(An 33 (fun i=>pI .u64 (y9 i))).length=33) (by decide:(0:Int)<=1)) h (hle:=klR [(1,.fn 33 33 (fun i=>[(fun i=>(cA 33 (pI .u64) y8).getD i default) i]) (fun i=>[pI .u64 (y8 i)])),(3,.fn 33 33 (fun i=>[(fun i=>(cA 33 (pI .u64) y9).getD i default) i]) (fun i=>[pI .u64 (y9 i)]))] (al1 ⟨rfl,D4 33 (fun i=>pI .u64 (y8 i))⟩ (al1 ⟨rfl,D4 33 (fun i=>pI .u64 (y9 i))⟩ al0)))
  obtain⟨a,e10,h⟩:=B4 h;refine C6 Z [4000] Dz (Aj Z Y e10) ?_;exact d _ [(4000,4000),(7000,7000),(8000,8000)] _ (shI .shr .i64 x1 1) a x3 (And.intro (And.intro rfl (E4 _ _):(0:Nat)=0/\(An 33 (fun i=>pI .u64 (a i))).length=33) (by decide:(0:Int)<=1)) h (hle:=klR [(3,.fn 33 33 (fun i=>[(fun i=>(cA 33 (pI .u64) a).getD i default) i]) (fun i=>[pI .u64 (a i)]))] (al1 ⟨rfl,D4 33 (fun i=>pI .u64 (a i))⟩ al0))
 obtain rfl:=D0 h;exact B3 Z (And.intro rfl (E4 _ _):(0:Nat)=0/\(An 33 (fun i=>pI .u64 (x3 i))).length=33) ⟨[(6,.reg 7000 0)],[(7000,.arr 33 (fun i=>pI .u64 (x3 i)))]⟩ [] (ids:=[(7000,7000)]) ⟨rfl,rfl,rfl⟩ (hle:=klR [(0,.fn 33 33 (fun i=>[(fun i=>(cA 33 (pI .u64) x3).getD i default) i]) (fun i=>[pI .u64 (x3 i)]))] (al1 ⟨rfl,D4 33 (fun i=>pI .u64 (x3 i))⟩ al0))
end Go.AM
namespace Go.AM
open Go.Proofs.Tryz
variable {N:Nat}
open IntKind (wrap)
open Go.Proofs
set_option maxRecDepth 10000
set_option maxHeartbeats 2000000
variable {S:R7}(Z:F4 S Tryz.prog) (Y:HC S)
include Z Y
def Bh (N:Nat)(p_x:RF)(b:Sl A1):Option (Nat->Int):= Ft N (fun a (x1:Nat->Int) (x2:Int)=>if (decide (x2<(b.n:Int))) then if ((0:Int)<=x2/\x2<(b.n:Int))then if ((((P4 .or .u32 (P4 .andNot .u32 p_x.is.Plus (b.g x2.toNat).Plus) (P4 .andNot .u32 p_x.is.Minus (b.g x2.toNat).Minus))==0)==p_x.not) != true) then if (((0:Int)<=(wrap .i64 (x2+1))/\((0:Int)<=x2/\x2<33))/\(0+x2.toNat*1)<33)then a (Jk x1 (0+x2.toNat*1) (shI .shl .u64 1 (wrap .i64 (x2+1)))) (wrap .i64 (x2+1)) else none else a x1 (wrap .i64 (x2+1)) else none else some x1) (fun _=>0) 0
theorem IO {p_x:RF}{a:Sl A1}{y:Nat->Int}(h:Bh N p_x a=some y) :FunO S Be [.p (.agg (Pw p_x)),.p (vSl 2 A0 a)] [] (.p (.agg (cA 33 (pI .u64) y))) ([]) []:=by
 unfold Bh at h;refine A8 Z func237 ?_;refine Q7 Z Dz h (fun x1 x2=>⟨[(9,pN x2),(8,pN (a.n:Int)),(7,.p (vSl 2 A0 a)),(4,.reg 5000 0),(2,.reg 3000 0)],[(5000,.arr 33 (fun i=>pI .u64 (x1 i))),(3000,.cells ((Pw p_x).map .p))]⟩) (ids:=[(3000,3000),(5000,5000)]) (fun _ _ _ _ _ f x1 x2 d h=>?_) (hle:=klR [(3,.fn 33 33 (fun i=>[(fun i=>(List.replicate 33 (pI .u64 0)).getD i default) i]) (fun i=>[pI .u64 ((fun _=>0) i)]))] (al1 ⟨rfl,Z4 (z:=pI .u64 0) rfl⟩ al0));apply kI Z h<;>intro h
 .obtain⟨c8,h⟩:=G7 h;refine D9 Z (And.intro c8 Gx) (b:=(((P4 .or .u32 (P4 .andNot .u32 p_x.is.Plus (a.g x2.toNat).Plus) (P4 .andNot .u32 p_x.is.Minus (a.g x2.toNat).Minus))==0)==p_x.not) != true) (fun c9=>?_) (fun c9=>?_)
  .replace h:=itT c9 h;obtain⟨c10,h⟩:=G7 h;exact d _ [(3000,3000),(5000,5000)] _ (Jk x1 (0+x2.toNat*1) (shI .shl .u64 1 (wrap .i64 (x2+1)))) (wrap .i64 (x2+1)) c10 h (hle:=klR [(3,.fn 33 33 (fun i=>[(fun i=>if i=(0+x2.toNat*1)then (pI .u64 (shI .shl .u64 1 (wrap .i64 (x2+1))))else (fun i=>pI .u64 (x1 i)) i) i]) (fun i=>[pI .u64 (Jk x1 (0+x2.toNat*1) (shI .shl .u64 1 (wrap .i64 (x2+1))) i)]))] (al1 ⟨rfl,UZ (c:=pI .u64) (v:=x1) (x:=shI .shl .u64 1 (wrap .i64 (x2+1))) (fun _ _=>rfl) rfl⟩ al0))
  replace h:=itF c9 h;exact d _ [(3000,3000),(5000,5000)] _ x1 (wrap .i64 (x2+1)) Dz h
 obtain rfl:=D0 h;exact B3 Z (And.intro rfl (E4 _ _):(0:Nat)=0/\(An 33 (fun i=>pI .u64 (x1 i))).length=33) ⟨[(4,.reg 5000 0)],[(5000,.arr 33 (fun i=>pI .u64 (x1 i)))]⟩ [] (ids:=[(5000,5000)]) ⟨rfl,rfl,rfl⟩ (hle:=klR [(0,.fn 33 33 (fun i=>[(fun i=>(cA 33 (pI .u64) x1).getD i default) i]) (fun i=>[pI .u64 (x1 i)]))] (al1 ⟨rfl,D4 33 (fun i=>pI .u64 (x1 i))⟩ al0))
def BN (N:Nat)(p_x:Vh)(a:Sl A1):Option (Nat->Int):= if p_x.end_ then if (((0:Int)<=(a.n:Int)/\((0:Int)<=(a.n:Int)/\(a.n:Int)<33))/\(0+(a.n:Int).toNat*1)<33)then some (Jk (fun _=>0) (0+(a.n:Int).toNat*1) (shI .shl .u64 1 (a.n:Int))) else none else if (((0:Int)<=0/\(0:Int)<33)/\(0+0*1)<33)then some (Jk (fun _=>0) (0+0*1) (shI .shl .u64 1 0)) else none
theorem JD {p_x:Vh}{a:Sl A1}{y:Nat->Int}(h:BN N p_x a=some y) :FunO S BJ [.p (.agg (Vi p_x)),.p (vSl 2 A0 a)] [] (.p (.agg (cA 33 (pI .u64) y))) ([]) []:=by
 unfold BN at h;refine A8 Z func238 ?_;apply kI Z h<;>intro h
 .obtain⟨c2,h⟩:=G7 h;obtain rfl:=D0 h;exact B3 Z (And.intro (And.intro (And.intro c2.1.1 c2.1.2) c2.2) (And.intro rfl (E4 _ _):(0:Nat)=0/\(An 33 (fun i=>if i=(0+(a.n:Int).toNat*1)then (pI .u64 (shI .shl .u64 1 (a.n:Int)))else (fun i=>(List.replicate 33 (pI .u64 0)).getD i default) i)).length=33)) ⟨[(4,.reg 5000 0)],[(5000,.arr 33 (fun i=>pI .u64 (Jk (fun _=>0) (0+(a.n:Int).toNat*1) (shI .shl .u64 1 (a.n:Int)) i)))]⟩ [] (ids:=[(5000,5000)]) ⟨rfl,rfl,rfl⟩ (hle:=klR [(0,.fn 33 33 (fun i=>[(fun i=>(An 33 (fun i=>if i=(0+(a.n:Int).toNat*1)then (pI .u64 (shI .shl .u64 1 (a.n:Int)))else (fun i=>(List.replicate 33 (pI .u64 0)).getD i default) i)).getD i default) i]) (fun i=>[pI .u64 (Jk (fun _=>0) (0+(a.n:Int).toNat*1) (shI .shl .u64 1 (a.n:Int)) i)]))] (al1 ⟨rfl,fun i b=>(D4 33 (fun i=>if i=(0+(a.n:Int).toNat*1)then (pI .u64 (shI .shl .u64 1 (a.n:Int)))else (fun i=>(List.replicate 33 (pI .u64 0)).getD i default) i) i b).trans (UZ (c:=pI .u64) (v:=fun _=>0) (x:=shI .shl .u64 1 (a.n:Int)) (Z4 (z:=pI .u64 0) rfl) rfl i b)⟩ al0))
 obtain⟨c3,h⟩:=G7 h;obtain rfl:=D0 h;exact B3 Z (And.intro (And.intro (And.intro (by decide:(0:Int)<=0) c3.1) c3.2) (And.intro rfl (E4 _ _):(0:Nat)=0/\(An 33 (fun i=>if i=(0+0*1)then (pI .u64 (shI .shl .u64 1 0))else (fun i=>(List.replicate 33 (pI .u64 0)).getD i default) i)).length=33)) ⟨[(4,.reg 5000 0)],[(5000,.arr 33 (fun i=>pI .u64 (Jk (fun _=>0) (0+0*1) (shI .shl .u64 1 0) i)))]⟩ [] (ids:=[(5000,5000)]) ⟨rfl,rfl,rfl⟩ (hle:=klR [(0,.fn 33 33 (fun i=>[(fun i=>(An 33 (fun i=>if i=(0+0*1)then (pI .u64 (shI .shl .u64 1 0))else (fun i=>(List.replicate 33 (pI .u64 0)).getD i default) i)).getD i default) i]) (fun i=>[pI .u64 (Jk (fun _=>0) (0+0*1) (shI .shl .u64 1 0) i)]))] (al1 ⟨rfl,fun i b=>(D4 33 (fun i=>if i=(0+0*1)then (pI .u64 (shI .shl .u64 1 0))else (fun i=>(List.replicate 33 (pI .u64 0)).getD i default) i) i b).trans (UZ (c:=pI .u64) (v:=fun _=>0) (x:=shI .shl .u64 1 0) (Z4 (z:=pI .u64 0) rfl) rfl i b)⟩ al0))
def CG (rec:Part->(Sl A1)->Option (Nat->Int))(N:Nat)(p_x:Pseq)(b:Sl A1):Option (Nat->Int):= (S4 N (b.n:Int)).bind fun y1=>Ft N (fun a (x1:Nat->Int) (x2:Int)=>if (decide (x2<(p_x.l.n:Int))) then if ((0:Int)<=x2/\x2<(p_x.l.n:Int))then (rec (p_x.l.g x2.toNat) b).bind fun y6=>(H6 N x1 y6).bind fun y7=>a y7 (wrap .i64 (x2+1)) else none else some x1) y1 0
theorem LH {rec:Part->(Sl A1)->Option ((Nat->Int))}(b:∀{x:Part}{b0:(Sl A1)}{y:(Nat->Int)},rec x b0=some y->Ww S Tryz.prog (Du x) "ablaut/pats.in" [(.p (vSl 2 A0 b0))] (.p (.agg (cA 33 (pI .u64) y)))){p_x:Pseq}{a:(Sl A1)}{y:(Nat->Int)}(h:CG rec N p_x a=some y) :FunO S CC [(.p (.agg (WJ p_x))),(.p (vSl 2 A0 a))] [] (.p (.agg (cA 33 (pI .u64) y))) ([]) []:=by
 unfold CG at h;refine A8 Z func244 ?_;refine kC Z h (Bg Z Y) (fun y1 h=>?_);refine Q7 Z (And.intro rfl (E4 _ _):(0:Nat)=0/\(An 33 (fun i=>pI .u64 (y1 i))).length=33) h (fun x1 x2=>⟨[(15,(pN x2)),(14,(pN (p_x.l.n:Int))),(13,(.p (vSl 1 Cj p_x.l))),(5,(.reg 6000 0)),(4,(.reg 5000 0)),(1,(.p (vSl 2 A0 a)))],[(6000,(.arr 33 (fun i=>pI .u64 (x1 i)))),(5000,(.arr 33 (fun i=>pI .u64 ((fun _=>0) i))))]⟩) (ids:=[(5000,5000),(6000,6000)]) (fun _ _ _ _ _ c x1 x2 d h=>?_) (hle:=(klR [(4,.fn 33 33 (fun i=>[(fun i=>(cA 33 (pI .u64) y1).getD i default) i]) (fun i=>[pI .u64 (y1 i)])),(5,.fn 33 33 (fun i=>[(fun i=>(List.replicate 33 (pI .u64 0)).getD i default) i]) (fun i=>[pI .u64 ((fun _=>0) i)]))] (al1 ⟨rfl,(D4 33 (fun i=>pI .u64 (y1 i)))⟩ (al1 ⟨rfl,(Z4 (z:=pI .u64 0) rfl)⟩ al0))));apply kI Z h<;>intro h
 .obtain⟨c6,h⟩:=G7 h;obtain⟨y6,e6,h⟩:=B4 h;refine HB Z c6 (b e6) ?_;refine O2 Z (And.intro rfl (E4 _ _):(0:Nat)=0/\(An 33 (fun i=>pI .u64 (y6 i))).length=33) ⟨[(15,(pN x2)),(14,(pN (p_x.l.n:Int))),(13,(.p (vSl 1 Cj p_x.l))),(8,(.reg 9000 0)),(5,(.reg 6000 0)),(4,(.reg 5000 0)),(1,(.p (vSl 2 A0 a)))],[(9000,(.arr 33 (fun i=>pI .u64 (y6 i)))),(6000,(.arr 33 (fun i=>pI .u64 (x1 i)))),(5000,(.arr 33 (fun i=>pI .u64 ((fun _=>0) i))))]⟩ (ids:=[(5000,5000),(6000,6000),(9000,9000)]) ?_ (hle:=(klR [(4,.fn 33 33 (fun i=>[(fun i=>(cA 33 (pI .u64) y6).getD i default) i]) (fun i=>[pI .u64 (y6 i)]))] (al1 ⟨rfl,(D4 33 (fun i=>pI .u64 (y6 i)))⟩ al0)));obtain⟨y7,e7,h⟩:=B4 h;refine C6 Z [6000,9000] Dz (O3 Z Y e7) ?_;exact d _ [(5000,5000),(6000,6000)] _ y7 (wrap .i64 (x2+1)) (And.intro rfl (E4 _ _):(0:Nat)=0/\(An 33 (fun i=>pI .u64 (y7 i))).length=33) h (hle:=klR [(4,.fn 33 33 (fun i=>[(fun i=>(cA 33 (pI .u64) y7).getD i default) i]) (fun i=>[pI .u64 (y7 i)]))] (al1 ⟨rfl,(D4 33 (fun i=>pI .u64 (y7 i)))⟩ al0))
 obtain rfl:=D0 h;exact B3 Z (And.intro rfl (E4 _ _):(0:Nat)=0/\(An 33 (fun i=>pI .u64 (x1 i))).length=33) ⟨[(4,(.reg 5000 0))],[(5000,(.arr 33 (fun i=>pI .u64 (x1 i))))]⟩ [] (ids:=[(5000,5000)]) ⟨rfl,rfl,rfl⟩ (hle:=(klR [(0,.fn 33 33 (fun i=>[(fun i=>(cA 33 (pI .u64) x1).getD i default) i]) (fun i=>[pI .u64 (x1 i)]))] (al1 ⟨rfl,(D4 33 (fun i=>pI .u64 (x1 i)))⟩ al0)))
def CH (rec:Part->(Sl A1)->Option (Nat->Int))(N:Nat)(p_x:Palt)(b:Sl A1):Option (Nat->Int):= Ft N (fun a (x1:Nat->Int) (x2:Int)=>if (decide (x2<(p_x.l.n:Int))) then if ((0:Int)<=x2/\x2<(p_x.l.n:Int))then (rec (p_x.l.g x2.toNat) b).bind fun y5=>(Q8 N x1 y5).bind fun y6=>a y6 (wrap .i64 (x2+1)) else none else some x1) (fun _=>0) 0
theorem LI {rec:Part->(Sl A1)->Option ((Nat->Int))}(b:∀{x:Part}{b0:(Sl A1)}{y:(Nat->Int)},rec x b0=some y->Ww S Tryz.prog (Du x) "ablaut/pats.in" [(.p (vSl 2 A0 b0))] (.p (.agg (cA 33 (pI .u64) y)))){p_x:Palt}{a:(Sl A1)}{y:(Nat->Int)}(h:CH rec N p_x a=some y) :FunO S CA [(.p (.agg (WH p_x))),(.p (vSl 2 A0 a))] [] (.p (.agg (cA 33 (pI .u64) y))) ([]) []:=by
 unfold CH at h;refine A8 Z func239 ?_;refine Q7 Z Dz h (fun x1 x2=>⟨[(11,(pN x2)),(10,(pN (p_x.l.n:Int))),(9,(.p (vSl 1 Cj p_x.l))),(4,(.reg 5000 0)),(1,(.p (vSl 2 A0 a)))],[(5000,(.arr 33 (fun i=>pI .u64 (x1 i))))]⟩) (ids:=[(5000,5000)]) (fun _ _ _ _ _ c x1 x2 d h=>?_) (hle:=(klR [(4,.fn 33 33 (fun i=>[(fun i=>(List.replicate 33 (pI .u64 0)).getD i default) i]) (fun i=>[pI .u64 ((fun _=>0) i)]))] (al1 ⟨rfl,(Z4 (z:=pI .u64 0) rfl)⟩ al0)));apply kI Z h<;>intro h
 .obtain⟨c6,h⟩:=G7 h;obtain⟨y5,e5,h⟩:=B4 h;refine HB Z c6 (b e5) ?_;refine O2 Z (And.intro rfl (E4 _ _):(0:Nat)=0/\(An 33 (fun i=>pI .u64 (y5 i))).length=33) ⟨[(11,(pN x2)),(10,(pN (p_x.l.n:Int))),(9,(.p (vSl 1 Cj p_x.l))),(7,(.reg 8000 0)),(4,(.reg 5000 0)),(1,(.p (vSl 2 A0 a)))],[(8000,(.arr 33 (fun i=>pI .u64 (y5 i)))),(5000,(.arr 33 (fun i=>pI .u64 (x1 i))))]⟩ (ids:=[(5000,5000),(8000,8000)]) ?_ (hle:=(klR [(4,.fn 33 33 (fun i=>[(fun i=>(cA 33 (pI .u64) y5).getD i default) i]) (fun i=>[pI .u64 (y5 i)]))] (al1 ⟨rfl,(D4 33 (fun i=>pI .u64 (y5 i)))⟩ al0)));obtain⟨y6,e6,h⟩:=B4 h;refine C6 Z [5000,8000] Dz (Bz Z Y e6) ?_;exact d _ [(5000,5000)] _ y6 (wrap .i64 (x2+1)) Dz h
 obtain rfl:=D0 h;exact B3 Z (And.intro rfl (E4 _ _):(0:Nat)=0/\(An 33 (fun i=>pI .u64 (x1 i))).length=33) ⟨[(4,(.reg 5000 0))],[(5000,(.arr 33 (fun i=>pI .u64 (x1 i))))]⟩ [] (ids:=[(5000,5000)]) ⟨rfl,rfl,rfl⟩ (hle:=(klR [(0,.fn 33 33 (fun i=>[(fun i=>(cA 33 (pI .u64) x1).getD i default) i]) (fun i=>[pI .u64 (x1 i)]))] (al1 ⟨rfl,(D4 33 (fun i=>pI .u64 (x1 i)))⟩ al0)))
def CJ (rec:Part->(Sl A1)->Option (Nat->Int))(N:Nat)(p_x:Prep)(a:Sl A1):Option (Nat->Int):= (rec p_x.of a).bind fun y1=>(I8 N y1 p_x.min (a.n:Int)).bind fun y2=>(S4 N (a.n:Int)).bind fun y3=>(Q8 N y1 y3).bind fun y4=>if (decide (p_x.max<0)) then (I8 N y4 (a.n:Int) (a.n:Int)).bind fun y5=>(H6 N y2 y5).bind fun y6=>some y6 else (I8 N y4 (wrap .i64 (p_x.max-p_x.min)) (a.n:Int)).bind fun y7=>(H6 N y2 y7).bind fun y8=>some y8
theorem LJ {rec:Part->(Sl A1)->Option ((Nat->Int))}(b:∀{x:Part}{b0:(Sl A1)}{y:(Nat->Int)},rec x b0=some y->Ww S Tryz.prog (Du x) "ablaut/pats.in" [(.p (vSl 2 A0 b0))] (.p (.agg (cA 33 (pI .u64) y)))){p_x:Prep}{a:(Sl A1)}{y:(Nat->Int)}(h:CJ rec N p_x a=some y) :FunO S CB [(.p (.agg (WI p_x))),(.p (vSl 2 A0 a))] [] (.p (.agg (cA 33 (pI .u64) y))) ([]) []:=by
 unfold CJ at h;refine A8 Z func241 ?_;obtain⟨y1,e1,h⟩:=B4 h;refine HB Z Dz (b e1) ?_;refine O2 Z (And.intro rfl (E4 _ _):(0:Nat)=0/\(An 33 (fun i=>pI .u64 (y1 i))).length=33) ⟨[(18,(pN (a.n:Int))),(16,(pN p_x.min)),(14,(.p (.agg (cA 33 (pI .u64) y1)))),(5,(.reg 6000 0)),(4,(.reg 5000 0)),(2,(.reg 3000 0)),(1,(.p (vSl 2 A0 a)))],[(6000,(.arr 33 (fun i=>pI .u64 (y1 i)))),(5000,(.arr 33 (fun i=>pI .u64 ((fun _=>0) i)))),(3000,(.cells [(.p (Du p_x.of)),(pN p_x.min),(pN p_x.max)]))]⟩ (ids:=[(3000,3000),(5000,5000),(6000,6000)]) ?_ (hle:=(klR [(2,.eq (.agg (An 33 (fun i=>(cA 33 (pI .u64) y1).getD i default))) (.agg (cA 33 (pI .u64) y1))),(4,.fn 33 33 (fun i=>[(fun i=>(cA 33 (pI .u64) y1).getD i default) i]) (fun i=>[pI .u64 (y1 i)])),(5,.fn 33 33 (fun i=>[(fun i=>(List.replicate 33 (pI .u64 0)).getD i default) i]) (fun i=>[pI .u64 ((fun _=>0) i)]))] (al1 (congrArg PV.agg (Qi (D4 33 (fun i=>pI .u64 (y1 i))))) (al1 ⟨rfl,(D4 33 (fun i=>pI .u64 (y1 i)))⟩ (al1 ⟨rfl,(Z4 (z:=pI .u64 0) rfl)⟩ al0)))));refine kC Z h (S5 Z Y) (fun y2 h=>?_);obtain⟨y3,e3,h⟩:=B4 h;refine C6 Z [] (And.intro (And.intro rfl (E4 _ _):(0:Nat)=0/\(An 33 (fun i=>pI .u64 (y2 i))).length=33) (And.intro rfl (E4 _ _):(0:Nat)=0/\(An 33 (fun i=>pI .u64 (y1 i))).length=33)) (Bg Z Y e3) ?_;refine O2 Z (And.intro rfl (E4 _ _):(0:Nat)=0/\(An 33 (fun i=>pI .u64 (y3 i))).length=33) ⟨[(8,(.reg 9000 0)),(7,(.reg 8000 0)),(6,(.reg 7000 0)),(4,(.reg 5000 0)),(2,(.reg 3000 0)),(1,(.p (vSl 2 A0 a)))],[(9000,(.arr 33 (fun i=>pI .u64 (y3 i)))),(8000,(.arr 33 (fun i=>pI .u64 (y1 i)))),(7000,(.arr 33 (fun i=>pI .u64 (y2 i)))),(5000,(.arr 33 (fun i=>pI .u64 ((fun _=>0) i)))),(3000,(.cells [(.p (Du p_x.of)),(pN p_x.min),(pN p_x.max)]))]⟩ (ids:=[(3000,3000),(5000,5000),(7000,7000),(8000,8000),(9000,9000)]) ?_ (hle:=(klR [(1,.fn 33 33 (fun i=>[(fun i=>(cA 33 (pI .u64) y3).getD i default) i]) (fun i=>[pI .u64 (y3 i)])),(2,.fn 33 33 (fun i=>[(fun i=>(cA 33 (pI .u64) y1).getD i default) i]) (fun i=>[pI .u64 (y1 i)])),(3,.fn 33 33 (fun i=>[(fun i=>(cA 33 (pI .u64) y2).getD i default) i]) (fun i=>[pI .u64 (y2 i)]))] (al1 ⟨rfl,(D4 33 (fun i=>pI .u64 (y3 i)))⟩ (al1 ⟨rfl,(D4 33 (fun i=>pI .u64 (y1 i)))⟩ (al1 ⟨rfl,(D4 33 (fun i=>pI .u64 (y2 i)))⟩ al0)))));obtain⟨y4,e4,h⟩:=B4 h;refine C6 Z [8000,9000] Dz (Bz Z Y e4) ?_;apply kI Z h<;>intro h
 .refine kC Z h (S5 Z Y) (fun y5 h=>?_);refine O2 Z (And.intro rfl (E4 _ _):(0:Nat)=0/\(An 33 (fun i=>pI .u64 (y5 i))).length=33) ⟨[(7,(.reg 8000 0)),(6,(.reg 7000 0)),(4,(.reg 5000 0))],[(8000,(.arr 33 (fun i=>pI .u64 (y5 i)))),(7000,(.arr 33 (fun i=>pI .u64 (y2 i)))),(5000,(.arr 33 (fun i=>pI .u64 ((fun _=>0) i))))]⟩ (ids:=[(5000,5000),(7000,7000),(8000,8000)]) ?_ (hle:=(klR [(0,.fn 33 33 (fun i=>[(fun i=>(cA 33 (pI .u64) y5).getD i default) i]) (fun i=>[pI .u64 (y5 i)]))] (al1 ⟨rfl,(D4 33 (fun i=>pI .u64 (y5 i)))⟩ al0)));obtain⟨y6,e6,h⟩:=B4 h;refine C6 Z [7000,8000] Dz (O3 Z Y e6) ?_;obtain rfl:=D0 h;exact B3 Z (And.intro rfl (E4 _ _):(0:Nat)=0/\(An 33 (fun i=>pI .u64 (y6 i))).length=33) ⟨[(4,(.reg 5000 0))],[(5000,(.arr 33 (fun i=>pI .u64 (y6 i))))]⟩ [] (ids:=[(5000,5000)]) ⟨rfl,rfl,rfl⟩ (hle:=(klR [(0,.fn 33 33 (fun i=>[(fun i=>(cA 33 (pI .u64) y6).getD i default) i]) (fun i=>[pI .u64 (y6 i)]))] (al1 ⟨rfl,(D4 33 (fun i=>pI .u64 (y6 i)))⟩ al0)))
 refine kC Z h (S5 Z Y) (fun y7 h=>?_);refine O2 Z (And.intro rfl (E4 _ _):(0:Nat)=0/\(An 33 (fun i=>pI .u64 (y7 i))).length=33) ⟨[(7,(.reg 8000 0)),(6,(.reg 7000 0)),(4,(.reg 5000 0))],[(8000,(.arr 33 (fun i=>pI .u64 (y7 i)))),(7000,(.arr 33 (fun i=>pI .u64 (y2 i)))),(5000,(.arr 33 (fun i=>pI .u64 ((fun _=>0) i))))]⟩ (ids:=[(5000,5000),(7000,7000),(8000,8000)]) ?_ (hle:=(klR [(0,.fn 33 33 (fun i=>[(fun i=>(cA 33 (pI .u64) y7).getD i default) i]) (fun i=>[pI .u64 (y7 i)]))] (al1 ⟨rfl,(D4 33 (fun i=>pI .u64 (y7 i)))⟩ al0)));obtain⟨y8,e8,h⟩:=B4 h;refine C6 Z [7000,8000] Dz (O3 Z Y e8) ?_;obtain rfl:=D0 h;exact B3 Z (And.intro rfl (E4 _ _):(0:Nat)=0/\(An 33 (fun i=>pI .u64 (y8 i))).length=33) ⟨[(4,(.reg 5000 0))],[(5000,(.arr 33 (fun i=>pI .u64 (y8 i))))]⟩ [] (ids:=[(5000,5000)]) ⟨rfl,rfl,rfl⟩ (hle:=(klR [(0,.fn 33 33 (fun i=>[(fun i=>(cA 33 (pI .u64) y8).getD i default) i]) (fun i=>[pI .u64 (y8 i)]))] (al1 ⟨rfl,(D4 33 (fun i=>pI .u64 (y8 i)))⟩ al0)))
def At (rec:Pat->Option Part)(N:Nat)(a:Pat):Option Part:= Ft N (fun b (x1:Sl Part) (x2:Int)=>if (decide (x2<(a.L.n:Int))) then if ((0:Int)<=x2/\x2<(a.L.n:Int))then (rec (a.L.g x2.toNat)).bind fun y3=>if ((x1.n+(Sl.of [y3]:Sl Part).n)*16<=140737488355328/\x1.n+(Sl.of [y3]:Sl Part).n<=140737488355328)then b (x1.push y3) (wrap .i64 (x2+1)) else none else none else if (a.Kind==1) then some (Part.sound a.Is a.Not) else if (a.Kind==2) then some (Part.edge false) else if (a.Kind==6) then some (Part.edge true) else if (a.Kind==4) then some (Part.alt x1.n x1.g) else if (a.Kind==5) then if (((0:Int)<=0/\0<(x1.n:Int))/\0<x1.n)then some (Part.rep (x1.g 0) a.Min a.Max) else none else some (Part.seq x1.n x1.g)) (Sl.nil:Sl Part) 0
def BO:Nat->Pat->Option Part
 |0=>fun _=>none
 |N+1=>At (BO N) N
theorem IP {rec:Pat->Option Part}(b:∀{a:Pat}{y:Part},rec a=some y->FunO S Ab [.p (.agg (G8 a))] [] (.p (Du y)) ([]) []){a:Pat}{y:Part}(h:At rec N a=some y) :FunO S Ab [.p (.agg (G8 a))] [] (.p (Du y)) ([]) []:=by
 unfold At at h;refine A8 Z func218 ?_;refine H1 Z Dz 2 2000 (G8 a) ?_;refine Aq Z Dz 8 ⟨[(7,.p (vSl 7 G8 a.L)),(3,.p C0),(1,.p (.ptr (G8 a)))],[]⟩ (ids:=[]) ?_ (hle:=klR [(0,.fn a.L.n a.L.n (Cx a) (fun i=>G8 (a.L.g i)))] (al1 ⟨rfl,DX a⟩ al0));refine Q7 Z Dz h (fun x1 x2=>⟨[(9,pN x2),(8,pN (a.L.n:Int)),(7,.p (vSl 7 G8 a.L)),(3,.vec 4500),(1,.p (.ptr (G8 a)))],[(4500,.vec Oj 1 x1.n (fun i=>Cj (x1.g i)) false)]⟩) (ids:=[]) (fun _ _ _ _ _ d x1 x2 f h=>?_);apply kI Z h<;>intro h
 .obtain⟨c6,h⟩:=G7 h;refine H1 Z (And.intro c6 Hl) 13 6000 (G8 (a.L.g x2.toNat)) ?_;obtain⟨y3,e3,h⟩:=B4 h;refine C6 Z [] Hl (b e3) ?_;obtain⟨c7,h⟩:=G7 h;exact f _ [(4500,18000)] _ (x1.push y3) (wrap .i64 (x2+1)) (And.intro Hn c7) h (hle:=klR [(4,.fn (x1.n+1) (x1.push y3).n (AP x1.n (fun i=>Cj (x1.g i)) (A9 [.v .nilIface] [(0,Cj y3)])) (fun i=>Cj ((x1.push y3).g i)))] (al1 ⟨rfl,NP (c:=Cj) (v:=x1) (x:=y3) (z:=[(.v .nilIface)]) same rfl rfl⟩ al0))
 apply kI Z h<;>intro h
 .obtain rfl:=D0 h;exact Th Z (by decide:(2:Nat)<=6) [] ⟨rfl,rfl,rfl⟩
 apply kI Z h<;>intro h
 .cases h;exact kR Z
 apply kI Z h<;>intro h
 .cases h;exact kR Z
 apply kI Z h<;>intro h
 .refine Aq Z Dz 40 ⟨[(39,.p (vSl 1 Cj x1))],[]⟩ (ids:=[]) ?_;cases h;exact kR Z
 apply kI Z h<;>intro h
 .refine F1 Z Dz [4,6] ?_;obtain⟨c13,h⟩:=G7 h;refine F6 c13 ?_;cases h;exact kR Z
 refine Aq Z Dz 54 ⟨[(53,.p (vSl 1 Cj x1))],[]⟩ (ids:=[]) ?_;cases h;exact kR Z
theorem JE {a:Pat}{y:Part}(h:BO N a=some y) :FunO S Ab [.p (.agg (G8 a))] [] (.p (Du y)) ([]) []:=by
 induction N generalizing a y with
 |zero=>cases (show (none:Option Part)=some y from h)
 |succ N ih=>exact IP Z Y (fun e=>ih e) h
end Go.AM
namespace Go.AM
open Go.Proofs
variable {S:R7}(Z:F4 S Tryz.prog) (Y:HC S)
include Z Y
def DH:Nat->Part->Sl A1->Option (Nat->Int)
 |0=>fun _ _=>none
 |N+1=>fun p w=>match p with
  |.nil=>none
  |.sound x no=>Bh N ⟨x,no⟩ w
  |.edge e=>BN N ⟨e⟩ w
  |.seq n g=>CG (DH N) N ⟨⟨n,g⟩⟩ w
  |.alt n g=>CH (DH N) N ⟨⟨n,g⟩⟩ w
  |.rep o mn mx=>CJ (DH N) N ⟨o,mn,mx⟩ w
theorem RR {N:Nat}{x:Part}{w:Sl A1}{y:Nat->Int}(h:DH N x w=some y):Ww S Tryz.prog (Du x) "ablaut/pats.in" [(.p (vSl 2 A0 w))] (.p (.agg (cA 33 (pI .u64) y))):=by
 induction N generalizing x w y with
 |zero=>cases h
 |succ N ih=>
  cases x with
  |nil=>cases h
  |sound s no=>exact⟨_,_,Be,rfl,by kernel_rfl,IO Z Y (p_x:=⟨s,no⟩) h⟩
  |edge e=>exact⟨_,_,BJ,rfl,by kernel_rfl,JD Z Y (N:=N) (p_x:=⟨e⟩) h⟩
  |seq n g=>exact⟨_,_,CC,rfl,by kernel_rfl,LH Z Y (fun e=>ih e) (p_x:=⟨⟨n,g⟩⟩) h⟩
  |alt n g=>exact⟨_,_,CA,rfl,by kernel_rfl,LI Z Y (fun e=>ih e) (p_x:=⟨⟨n,g⟩⟩) h⟩
  |rep o mn mx=>exact⟨_,_,CB,rfl,by kernel_rfl,LJ Z Y (fun e=>ih e) (p_x:=⟨o,mn,mx⟩) h⟩
end Go.AM
namespace Go.AM
open Go.Proofs.Tryz
variable {N:Nat}
open IntKind (wrap)
open Go.Proofs
set_option maxRecDepth 10000
set_option maxHeartbeats 2000000
variable {S:R7}(Z:F4 S Tryz.prog) (Y:HC S)
include Z Y
def Bi (N:Nat)(a:A1):Option Bool:= (W9 N a).bind fun y1=>some (!y1)
theorem IQ {a:A1}{y:Bool}(h:Bi N a=some y) :FunO S DA [.p (.agg (A0 a))] [] (pB y) ([]) []:=by unfold Bi at h;refine A8 Z func217 ?_;refine kC Z h (By Z Y) (fun y1 h=>?_);cases h;exact kR Z
def E7 (N:Nat)(a:Sl A1)(c:A1->Option Bool):Option Int:= Cn N (fun b (x1:Int)=>if (decide (x1<(a.n:Int))) then if ((0:Int)<=x1/\x1<(a.n:Int))then (c (a.g x1.toNat)).bind fun y3=>if y3 then some x1 else b (wrap .i64 (x1+1)) else none else some (-1)) 0
theorem Q6 {a:Sl A1}{c:A1->Option Bool}{kp_f:Nat}(d:∀{a0:A1}{b:Bool},c a0=some b->FunO S kp_f [.p (.agg (A0 a0))] [] (pB b) [] []){y:Int}(h:E7 N a c=some y) :FunO S I0 [.p (vSl 2 A0 a),.clo kp_f [] []] [] (pN y) ([]) []:=by
 unfold E7 at h;refine A8 Z func132 ?_;refine S0 Z Dz h (fun x1=>⟨[(8,pN x1),(7,pN (a.n:Int)),(1,.clo kp_f [] []),(0,.p (vSl 2 A0 a))],[]⟩) (ids:=[]) (fun _ _ _ _ _ f x1 g h=>?_);apply kI Z h<;>intro h
 .obtain⟨c8,h⟩:=G7 h;obtain⟨y3,e3,h⟩:=B4 h;refine C6 Z [] (And.intro c8 Gx) (d e3) ?_;apply kI Z h<;>intro h
  .cases h;exact kR Z
  exact g _ [] _ (wrap .i64 (x1+1)) Dz h
 cases h;exact kR Z
def C9 (N:Nat)(a:Sl A1)(b:A1->Option Bool):Option Bool:= (E7 N a b).bind fun y1=>some (decide (0<=y1))
theorem H3 {a:Sl A1}{c:A1->Option Bool}{kp_f:Nat}(d:∀{a0:A1}{b:Bool},c a0=some b->FunO S kp_f [.p (.agg (A0 a0))] [] (pB b) [] []){y:Bool}(h:C9 N a c=some y) :FunO S H2 [.p (vSl 2 A0 a),.clo kp_f [] []] [] (pB y) ([]) []:=by unfold C9 at h;refine A8 Z func108 ?_;refine kC Z h (Q6 Z Y (fun e=>d e)) (fun y1 h=>?_);cases h;exact kR Z
def F7 (N:Nat)(q0:Sl Pat):Option (List (Int×Pat)):= Cn N (fun a (x1:Int)=>if (decide (0<=x1)) then if ((0:Int)<=x1/\x1<(q0.n:Int))then Hi (x1,q0.g x1.toNat) (a (wrap .i64 (x1-1))) else none else some []) (wrap .i64 ((q0.n:Int)-1))
theorem T3 {q0:Sl Pat}{L:List (Int×Pat)}(h:F7 N q0=some L) :Di S D5 [] [.reg 0 0] [.cells [.p (vSl 7 G8 q0)]] (L.map (fun (x:Int×Pat)=>[pI .i64 x.1,(fun x=>.agg (G8 x)) x.2])):=by
 unfold F7 at h;refine DV Z func153 ?_;refine Ds Z Dz h (fun x1 L1=>⟨[(3,pN x1),(1,.reg 0 0),(0,.yf 1)],[(1,.yld (L1.map (fun (x:Int×Pat)=>[pI .i64 x.1,(fun x=>.agg (G8 x)) x.2])) true),(0,.cells [.p (vSl 7 G8 q0)])]⟩) (ids:=[(0,0),(1,1)]) (fun _ _ _ _ _ d x1 L1 f h=>?_);apply kI Z h<;>intro h
 .obtain⟨c10,h⟩:=G7 h;obtain⟨L4,rfl,c⟩:=Jj h;replace h:=c;refine BH Z (And.intro c10 Hl) (ys:=(fun (x:Int×Pat)=>[pI .i64 x.1,(fun x=>.agg (G8 x)) x.2]) (x1,q0.g x1.toNat)) (rest:=L4.map (fun (x:Int×Pat)=>[pI .i64 x.1,(fun x=>.agg (G8 x)) x.2])) ?_ ?_
  .refine D9 Z Dz (b:=false) (fun c11=>?_) (fun c11=>?_)
   .exact Bool.noConfusion ((rfl:false=false).symm.trans c11)
   exact f _ [(0,0),(1,1)] _ (wrap .i64 (x1-1)) L4 Dz h
  refine D9 Z Dz (b:=true) (fun c12=>?_) (fun c12=>?_)
  .exact B3 Z Dz (a:=.tup []) (objs:=[(.cells [.p (vSl 7 G8 q0)]),.yld [] false]) ⟨[],[(1,.yld [] false),(0,.cells [.p (vSl 7 G8 q0)])]⟩ [0,1] (ids:=[(0,0),(1,1)]) ⟨false,rfl,rfl,_,rfl⟩
  exact Bool.noConfusion (Hn.symm.trans c12)
 obtain rfl:=D0 h;exact B3 Z Dz (a:=.tup []) (objs:=[(.cells [.p (vSl 7 G8 q0)]),.yld [] true]) ⟨[],[(1,.yld [] true),(0,.cells [.p (vSl 7 G8 q0)])]⟩ [0,1] (ids:=[(0,0),(1,1)]) ⟨true,rfl,rfl,_,rfl⟩
def G4 (N:Nat)(a:Sl Pat):Option (Sl Pat):= some a
theorem V6 {a:Sl Pat}{y:Sl Pat}(h:G4 N a=some y) :FunO S K7 [.p (vSl 7 G8 a)] [] (.clo D5 [] [.reg 0 0]) ([.cells [.p (vSl 7 G8 y)]]) []:=by unfold G4 at h;refine A8 Z func131 ?_;obtain rfl:=D0 h;exact B3 Z Dz ⟨[(2,.clo D5 [] [.reg 2000 0])],[(2000,.cells [.p (vSl 7 G8 a)])]⟩ [2000] (ids:=[(2000,2000)]) ⟨rfl,rfl,rfl⟩
def Ak (N:Nat)(c:Pat):Option Int:= Ft N (fun a (x3:Sl Pat) (x4:Int)=>if (decide (0<(x3.n:Int))) then if (x4==40) then some 12 else if (((0:Int)<=(wrap .i64 ((x3.n:Int)-1))/\(wrap .i64 ((x3.n:Int)-1))<(x3.n:Int))/\(wrap .i64 ((x3.n:Int)-1)).toNat<x3.n)then if ((0:Int)<=(wrap .i64 ((x3.n:Int)-1))/\(wrap .i64 ((x3.n:Int)-1))<=(x3.n:Int))then (BL N (x3.g (wrap .i64 ((x3.n:Int)-1)).toNat)).bind fun y5=>if (y5 != 0) then some y5 else if ((0:Int)<=(if 41<((x3.g (wrap .i64 ((x3.n:Int)-1)).toNat).L.n:Int)then 41 else ((x3.g (wrap .i64 ((x3.n:Int)-1)).toNat).L.n:Int))/\(if 41<((x3.g (wrap .i64 ((x3.n:Int)-1)).toNat).L.n:Int)then 41 else ((x3.g (wrap .i64 ((x3.n:Int)-1)).toNat).L.n:Int))<=((x3.g (wrap .i64 ((x3.n:Int)-1)).toNat).L.n:Int))then (G4 N ((x3.g (wrap .i64 ((x3.n:Int)-1)).toNat).L.take (if 41<((x3.g (wrap .i64 ((x3.n:Int)-1)).toNat).L.n:Int)then 41 else ((x3.g (wrap .i64 ((x3.n:Int)-1)).toNat).L.n:Int)).toNat)).bind fun y6=>(F7 N y6).bind fun L3=>Y5 L3 (fun b (x7:Int×Pat) (z3:Sl Pat)=>if ((((z3.n+(Sl.of [Pat.nil]:Sl Pat).n)*64<=140737488355328/\z3.n+(Sl.of [Pat.nil]:Sl Pat).n<=140737488355328)/\((0:Int)<=(z3.n:Int)/\(z3.n:Int)<((z3.push Pat.nil).n:Int)))/\(z3.n:Int).toNat<(z3.push Pat.nil).n)then b ((z3.push Pat.nil).upd (z3.n:Int).toNat x7.2) else none) (fun (z3:Sl Pat)=>a z3 (wrap .i64 (x4+1))) (x3.take (wrap .i64 ((x3.n:Int)-1)).toNat) else none else none else none else some 0) (Sl.of [c]:Sl Pat) 0
theorem DI {b:Pat}{y:Int}(h:Ak N b=some y) :FunO S GX [.p (.agg (G8 b))] [] (pN y) ([]) []:=by
 unfold Ak at h;refine A8 Z func107 ?_;refine H1 Z Dz 2 2000 (G8 b) ?_;refine Q7 Z (And.intro Hl Hn) h (fun x3 x4=>⟨[(4,pN x4),(3,.reg 4000 0)],[(4501,.vec FR 7 x3.n (fun i=>G8 (x3.g i)) false),(4000,.cells [.vec 4501])]⟩) (ids:=[(4000,4000),(4501,12000)]) (fun _ _ _ _ _ d x3 x4 j h=>?_) (hle:=klR [(1,.fn 1 (Sl.of [b]:Sl Pat).n (A9 [pI .i64 0,pI .u32 0,pI .u32 0,.v (.bool false),pI .i64 0,pI .i64 0,C0] [(0,G8 b)]) (fun i=>G8 ((Sl.of [b]:Sl Pat).g i)))] (al1 ⟨rfl,(fun i m=>match i,m with|0,_=>rfl|_+1,m=>Bs m (by omega))⟩ al0));apply kI Z h<;>intro h
 .apply kI Z h<;>intro h
  .cases h;exact kR Z
  obtain⟨c21,h⟩:=G7 h;refine H1 Z (And.intro (And.intro c21.1 Hl) c21.2) 25 6000 (G8 (x3.g (wrap .i64 ((x3.n:Int)-1)).toNat)) ?_;obtain⟨c22,h⟩:=G7 h;refine Wx Z c22 30 4501 (wrap .i64 ((x3.n:Int)-1)).toNat 4508 (e:=FR) (k:=7) (N:=x3.n) (f:=fun i=>G8 (x3.g i)) (by have r:=c22;omega) ?_;obtain⟨y5,e7,h⟩:=B4 h;refine C6 Z [] Hl (JC Z Y e7) ?_;apply kI Z h<;>intro h
  .cases h;exact kR Z
  refine Aq Z Dz 39 ⟨[(38,.p (vSl 7 G8 (x3.g (wrap .i64 ((x3.n:Int)-1)).toNat).L)),(36,.p (vSl 7 G8 (x3.g (wrap .i64 ((x3.n:Int)-1)).toNat).L)),(4,pN x4),(3,.reg 4000 0)],[(4508,.vec FR 7 (x3.take (wrap .i64 ((x3.n:Int)-1)).toNat).n (fun i=>G8 ((x3.take (wrap .i64 ((x3.n:Int)-1)).toNat).g i)) false),(4000,.cells [.vec 4508])]⟩ (ids:=[(4000,4000),(4508,4508)]) ?_ (hle:=klR [(0,.fn (x3.g (wrap .i64 ((x3.n:Int)-1)).toNat).L.n (x3.g (wrap .i64 ((x3.n:Int)-1)).toNat).L.n (Cx (x3.g (wrap .i64 ((x3.n:Int)-1)).toNat)) (fun i=>G8 ((x3.g (wrap .i64 ((x3.n:Int)-1)).toNat).L.g i))),(1,.fn (x3.g (wrap .i64 ((x3.n:Int)-1)).toNat).L.n (x3.g (wrap .i64 ((x3.n:Int)-1)).toNat).L.n (Cx (x3.g (wrap .i64 ((x3.n:Int)-1)).toNat)) (fun i=>G8 ((x3.g (wrap .i64 ((x3.n:Int)-1)).toNat).L.g i)))] (al1 ⟨rfl,DX (x3.g (wrap .i64 ((x3.n:Int)-1)).toNat)⟩ (al1 ⟨rfl,DX (x3.g (wrap .i64 ((x3.n:Int)-1)).toNat)⟩ al0)));obtain⟨c24,h⟩:=G7 h;obtain⟨y6,e8,h⟩:=B4 h;refine C6 Z [] c24 (V6 Z Y e8) ?_;obtain⟨L3,e9,h⟩:=B4 h;refine Cu Z Dz [44000] [4,3] 905 (fun z3=>⟨[(4,pN x4),(3,.reg 4000 0)],[(4500,.vec FR 7 z3.n (fun i=>G8 (z3.g i)) false),(4000,.cells [.vec 4500])]⟩) (idl:=[(4000,4000),(4500,4508)]) h (T3 Z Y e9) (fun _=>by kernel_rfl) (fun _=>by kernel_rfl) (fun _=>by kernel_rfl) (fun _=>by kernel_rfl) (fun x7 _ o z3 q h=>?_) (fun z3 h=>?_)
  .refine Fx Z Dz ?_;refine Tk Z Dz 10000 (G8 x7.2) ?_;refine N3 Z Dz [(0,.l [4000]),(1,.n),(2,.l [4500]),(4,.a [51000,4500]),(5,.l [51000]),(6,.a [51000]),(7,.a [4000])] ?_;refine B6 Hl (x:=.sl true 7 1 (A9 [pI .i64 0,pI .u32 0,pI .u32 0,.v (.bool false),pI .i64 0,pI .i64 0,C0] [(0,[pI .i64 0,pI .u32 0,pI .u32 0,.v (.bool false),pI .i64 0,pI .i64 0,C0])])) ?_;obtain⟨c27,h⟩:=G7 h;refine F6 (And.intro (And.intro c27.1.1 c27.1.2) (And.intro (rfl:(7:Nat)=7) (And.intro c27.2 Hl))) ?_;exact q _ [(905,905),(4000,4000),(4500,51000)] _ ((z3.push Pat.nil).upd (z3.n:Int).toNat x7.2) Dz h (hle:=klR [(0,.fn (z3.n+1) ((z3.push Pat.nil).upd (z3.n:Int).toNat x7.2).n (fun l=>if l=(z3.n:Int).toNat then splice (AP z3.n (fun i=>G8 (z3.g i)) (A9 [pI .i64 0,pI .u32 0,pI .u32 0,.v (.bool false),pI .i64 0,pI .i64 0,C0] [(0,[pI .i64 0,pI .u32 0,pI .u32 0,.v (.bool false),pI .i64 0,pI .i64 0,C0])]) l) 0 [pI .i64 x7.2.Kind,pI .u32 x7.2.Is.Plus,pI .u32 x7.2.Is.Minus,.bb x7.2.Not,pI .i64 x7.2.Min,pI .i64 x7.2.Max,.sl false 7 x7.2.L.n (Cx x7.2)]else (AP z3.n (fun i=>G8 (z3.g i)) (A9 [pI .i64 0,pI .u32 0,pI .u32 0,.v (.bool false),pI .i64 0,pI .i64 0,C0] [(0,[pI .i64 0,pI .u32 0,pI .u32 0,.v (.bool false),pI .i64 0,pI .i64 0,C0])])) l) (fun i=>G8 (((z3.push Pat.nil).upd (z3.n:Int).toNat x7.2).g i)))] (al1 ⟨rfl,setH (c:=G8) (v:=z3.push Pat.nil) (x:=x7.2) (app1H (c:=G8) (v:=z3) (z:=Pat.nil) same rfl) (fun _=>by simp[AP,A9,splice])⟩ al0))
  exact j _ [(4000,4000),(4501,4500)] _ z3 (wrap .i64 (x4+1)) Dz h
 cases h;exact kR Z
def AJ (N:Nat)(b:Pat)(a:Sl A1):Option ((Nat->Int)×Int):= (Ak N b).bind fun y1=>if (y1 != 0) then some (fun _=>0,y1) else if (decide (32<(a.n:Int))) then some (fun _=>0,11) else (C9 N a (fun (u1:A1)=>Bi N u1)).bind fun y2=>if y2 then some (fun _=>0,14) else (BO N b).bind fun y3=>(DH N y3 a).bind fun y4=>some (y4,0)
theorem FT {a:Pat}{b:Sl A1}{y:(Nat->Int)×Int}(h:AJ N a b=some y) :FunO S FO [.p (.agg (G8 a)),.p (vSl 2 A0 b)] [] (.tup [.p (.agg (cA 33 (pI .u64) y.1)),pN y.2]) ([]) []:=by
 unfold AJ at h;refine A8 Z func214 ?_;refine kC Z h (DI Z Y) (fun y1 h=>?_);apply kI Z h<;>intro h
 .obtain rfl:=D0 h;exact B3 Z (And.intro rfl (E4 _ _):(0:Nat)=0/\(An 33 (fun i=>pI .u64 ((fun _=>0) i))).length=33) ⟨[(5,pN y1),(4,.reg 5000 0)],[(5000,.arr 33 (fun i=>pI .u64 ((fun _=>0) i)))]⟩ [] (ids:=[(5000,5000)]) ⟨rfl,rfl,rfl⟩ (hle:=klR [(1,.fn 33 33 (fun i=>[(fun i=>(cA 33 (pI .u64) (fun _=>0)).getD i default) i]) (fun i=>[pI .u64 ((fun _=>0) i)]))] (al1 ⟨rfl,D4 33 (fun i=>pI .u64 ((fun _=>0) i))⟩ al0))
 apply kI Z h<;>intro h
 .obtain rfl:=D0 h;exact B3 Z (And.intro rfl (E4 _ _):(0:Nat)=0/\(An 33 (fun i=>pI .u64 ((fun _=>0) i))).length=33) ⟨[(5,pN 11),(4,.reg 5000 0)],[(5000,.arr 33 (fun i=>pI .u64 ((fun _=>0) i)))]⟩ [] (ids:=[(5000,5000)]) ⟨rfl,rfl,rfl⟩ (hle:=klR [(1,.fn 33 33 (fun i=>[(fun i=>(cA 33 (pI .u64) (fun _=>0)).getD i default) i]) (fun i=>[pI .u64 ((fun _=>0) i)]))] (al1 ⟨rfl,D4 33 (fun i=>pI .u64 ((fun _=>0) i))⟩ al0))
 refine kC Z h (H3 Z Y (fun e=>IQ Z Y e)) (fun y2 h=>?_);apply kI Z h<;>intro h
 .obtain rfl:=D0 h;exact B3 Z (And.intro rfl (E4 _ _):(0:Nat)=0/\(An 33 (fun i=>pI .u64 ((fun _=>0) i))).length=33) ⟨[(5,pN 14),(4,.reg 5000 0)],[(5000,.arr 33 (fun i=>pI .u64 ((fun _=>0) i)))]⟩ [] (ids:=[(5000,5000)]) ⟨rfl,rfl,rfl⟩ (hle:=klR [(1,.fn 33 33 (fun i=>[(fun i=>(cA 33 (pI .u64) (fun _=>0)).getD i default) i]) (fun i=>[pI .u64 ((fun _=>0) i)]))] (al1 ⟨rfl,D4 33 (fun i=>pI .u64 ((fun _=>0) i))⟩ al0))
 refine kC Z h (JE Z Y) (fun y3 h=>?_);obtain⟨y4,e4,h⟩:=B4 h;refine HB Z Dz (RR Z Y e4) ?_;obtain rfl:=D0 h;exact B3 Z (And.intro rfl (E4 _ _):(0:Nat)=0/\(An 33 (fun i=>pI .u64 (y4 i))).length=33) ⟨[(5,pN 0),(4,.reg 5000 0)],[(5000,.arr 33 (fun i=>pI .u64 (y4 i)))]⟩ [] (ids:=[(5000,5000)]) ⟨rfl,rfl,rfl⟩ (hle:=klR [(1,.fn 33 33 (fun i=>[(fun i=>(cA 33 (pI .u64) y4).getD i default) i]) (fun i=>[pI .u64 (y4 i)]))] (al1 ⟨rfl,D4 33 (fun i=>pI .u64 (y4 i))⟩ al0))
def CK (N:Nat)(d:Pat)(c:Sl A1)(a:Int):Option ((Sl Int)×Int):= (AJ N d c).bind fun y1=>lt (fun (z1:Int)=>if (z1 != 0) then some (Ho,z1) else Ft N (fun b (x2:Sl Int) (x3:Int)=>if (decide (x3<(wrap .i64 ((c.n:Int)+1)))) then if ((((0:Int)<=x3/\x3<33)/\(0+x3.toNat*1)<33)/\(0:Int)<=a)then if ((P4 .and .u64 (shI .shr .u64 (y1.1 (0+x3.toNat*1)) a) 1)==1) then if ((x2.n+(Sl.of [x3]:Sl Int).n)*8<=140737488355328/\x2.n+(Sl.of [x3]:Sl Int).n<=140737488355328)then b (x2.push x3) (wrap .i64 (x3+1)) else none else b x2 (wrap .i64 (x3+1)) else none else some (x2,0)) Ho 0) fun k1=>if (y1.2==0) then (AI N c a).bind fun y3=>k1 y3 else k1 y1.2
theorem LK {f:Pat}{d:Sl A1}{a:Int}{y:(Sl Int)×Int}(h:CK N f d a=some y) :FunO S FN [.p (.agg (G8 f)),.p (vSl 2 A0 d),pN a] [] (.tup [.vec 0,pN y.2]) ([.vec D7 1 y.1.n (fun i=>cI .i64 (y.1.g i)) true]) []:=by
 unfold CK at h;refine A8 Z func210 ?_;refine kC Z h (FT Z Y) (fun y1 h=>?_);refine Ja Z (And.intro rfl (E4 _ _):(0:Nat)=0/\(An 33 (fun i=>pI .u64 (y1.1 i))).length=33) (B9 Z) h 0 (fun z1=>⟨[(9,pN z1),(8,.reg 9000 0),(2,pN a),(1,.p (vSl 2 A0 d))],[(9000,.arr 33 (fun i=>pI .u64 (y1.1 i)))]⟩) (fun M1 k1 j h=>?_) (fun z1 h=>?_)
 .apply kI Z h<;>intro h
  .refine kC Z h (FS Z Y) (fun y3 h=>?_);exact j _ [(9000,9000)] _ y3 Dz h (hle:=klR [(3,.fn 33 33 (fun i=>[(fun i=>(cA 33 (pI .u64) y1.1).getD i default) i]) (fun i=>[pI .u64 (y1.1 i)]))] (al1 ⟨rfl,D4 33 (fun i=>pI .u64 (y1.1 i))⟩ al0))
  exact j _ [(9000,9000)] _ y1.2 Dz h (hle:=klR [(3,.fn 33 33 (fun i=>[(fun i=>(cA 33 (pI .u64) y1.1).getD i default) i]) (fun i=>[pI .u64 (y1.1 i)]))] (al1 ⟨rfl,D4 33 (fun i=>pI .u64 (y1.1 i))⟩ al0))
 apply kI Z h<;>intro h
 .obtain rfl:=D0 h;exact B3 Z Dz ⟨[(7,pN z1),(6,.vec 7700)],[(7700,.vec D7 1 Ho.n (fun i=>cI .i64 (Ho.g i)) true)]⟩ [7700] (ids:=[]) ⟨rfl,rfl,rfl⟩
 refine Q7 Z Dz h (fun x2 x3=>⟨[(29,pN x3),(28,pN (wrap .i64 ((d.n:Int)+1))),(10,.vec 11500),(8,.reg 9000 0),(2,pN a)],[(11500,.vec D7 1 x2.n (fun i=>cI .i64 (x2.g i)) false),(9000,.arr 33 (fun i=>pI .u64 (y1.1 i)))]⟩) (ids:=[(9000,9000)]) (fun _ _ _ _ _ m x2 x3 l h=>?_);apply kI Z h<;>intro h
 .obtain⟨c12,h⟩:=G7 h;refine D9 Z c12 (b:=(P4 .and .u64 (shI .shr .u64 (y1.1 (0+x3.toNat*1)) a) 1)==1) (fun c13=>?_) (fun c13=>?_)
  .replace h:=itT c13 h;obtain⟨c14,h⟩:=G7 h;exact l _ [(9000,9000),(11500,43000)] _ (x2.push x3) (wrap .i64 (x3+1)) (And.intro Hn c14) h (hle:=klR [(3,.fn (x2.n+1) (x2.push x3).n (AP x2.n (fun i=>cI .i64 (x2.g i)) (A9 [pI .i64 0] [(0,cI .i64 x3)])) (fun i=>cI .i64 ((x2.push x3).g i)))] (al1 ⟨rfl,NP (c:=cI .i64) (v:=x2) (x:=x3) (z:=[(pI .i64 0)]) same rfl rfl⟩ al0))
  replace h:=itF c13 h;exact l _ [(9000,9000),(11500,11500)] _ x2 (wrap .i64 (x3+1)) Dz h
 obtain rfl:=D0 h;exact B3 Z Dz ⟨[(7,pN 0),(6,.vec 11500)],[(11500,.vec D7 1 x2.n (fun i=>cI .i64 (x2.g i)) true)]⟩ [11500] (ids:=[(11500,11500)]) ⟨rfl,rfl,rfl⟩
def I9 (N:Nat)(a:List (Int)):Option (Sl Int):= Y5 a (fun b (x1:Int) (z1:Sl Int)=>if ((z1.n+(Sl.of [x1]:Sl Int).n)*8<=140737488355328/\z1.n+(Sl.of [x1]:Sl Int).n<=140737488355328)then b (z1.push x1) else none) (fun (z1:Sl Int)=>some z1) Ho
theorem Al {b:List (Int)}{a:Int}{kp_seq:Nat}(fp_seq:∃fn,Xf[kp_seq]? = some fn/\fn.body.isSome=true/\(fn.name == "runtime.NumGoroutine")=false)(d:Di S kp_seq [] [.reg 0 0] [(.cells [(.p (pI .u64 a))])] (b.map (fun (x:Int)=>[(pI .i64) x]))){y:(Sl Int)}(h:I9 N b=some y) :FunO S J8 [(.p C0),(.clo kp_seq [] [(.reg 0 0)])] [(.cells [(.p (pI .u64 a))])] (.vec 0) ([(.vec D7 1 y.n (fun i=>(cI .i64) (y.g i)) true)]) [false]:=by
 unfold I9 at h;refine A8 Z func134 ?_;refine Lf Z Dz fp_seq [0] [2] 901 (fun z1=>⟨[(2,(.reg 3000 0))],[(3500,(.vec D7 1 z1.n (fun i=>(cI .i64) (z1.g i)) false)),(3000,(.cells [(.vec 3500)]))]⟩) (idl:=[(3000,3000)]) h d (fun _=>by kernel_rfl) (fun _=>by kernel_rfl) (fun _=>by kernel_rfl) (fun _=>by kernel_rfl) (fun x1 _ f z1 j h=>?_) (fun z1 h=>?_)
 .refine Fx Z Dz ?_;obtain⟨c1,h⟩:=G7 h;exact j _ [(901,901),(3000,3000),(3500,12000)] _ (z1.push x1) (And.intro Hn c1) h (hle:=klR [(0,.fn (z1.n+1) (z1.push x1).n (AP z1.n (fun i=>(cI .i64) (z1.g i)) (A9 [(pI .i64 0)] [(0,(cI .i64) x1)])) (fun i=>(cI .i64) ((z1.push x1).g i)))] (al1 ⟨rfl,(NP (c:=(cI .i64)) (v:=z1) (x:=x1) (z:=[(pI .i64 0)]) same rfl rfl)⟩ al0))
 obtain rfl:=D0 h;exact B3 Z Dz ⟨[(4,(.vec 3500))],[(3500,(.vec D7 1 z1.n (fun i=>(cI .i64) (z1.g i)) true))]⟩ [3500] (ids:=[(3500,3500)]) ⟨rfl,rfl,rfl⟩
def S6 (N:Nat)(a:List (Int)):Option (Sl Int):= (I9 N a).bind fun y1=>some y1
theorem DJ {b:List (Int)}{a:Int}{kp_seq:Nat}(fp_seq:∃fn,Xf[kp_seq]? = some fn/\fn.body.isSome=true/\(fn.name == "runtime.NumGoroutine")=false)(c:Di S kp_seq [] [.reg 0 0] [(.cells [(.p (pI .u64 a))])] (b.map (fun (x:Int)=>[(pI .i64) x]))){y:(Sl Int)}(h:S6 N b=some y) :FunO S T8 [(.clo kp_seq [] [(.reg 0 0)])] [(.cells [(.p (pI .u64 a))])] (.vec 0) ([(.vec D7 1 y.n (fun i=>(cI .i64) (y.g i)) true)]) [false]:=by unfold S6 at h;refine A8 Z func111 ?_;obtain⟨y1,e1,h⟩:=B4 h;refine C6 Z [0] Dz (Al Z Y fp_seq c e1) ?_;obtain rfl:=D0 h;exact B3 Z Dz ⟨[(2,(.vec 5000))],[(5000,(.vec D7 1 y1.n (fun i=>(cI .i64) (y1.g i)) true))]⟩ [5000] (ids:=[(5000,5000)]) ⟨rfl,rfl,rfl⟩
def EP (N:Nat)(c:Pat)(b:Sl A1)(a:Int):Option ((Sl Int)×Int):= (AJ N c b).bind fun y1=>lt (fun (z1:Int)=>if (z1 != 0) then some (Ho,z1) else if (((0:Int)<=a/\a<33)/\(0+a.toNat*1)<33)then (V5 N (y1.1 (0+a.toNat*1))).bind fun y4=>(P7 N y4).bind fun L1=>(S6 N L1).bind fun y5=>some (y5,0) else none) fun k1=>if (y1.2==0) then (AI N b a).bind fun y3=>k1 y3 else k1 y1.2
theorem Oo {b:Pat}{c:Sl A1}{a:Int}{y:(Sl Int)×Int}(h:EP N b c a=some y) :FunO S ID [.p (.agg (G8 b)),.p (vSl 2 A0 c),pN a] [] (.tup [.vec 0,pN y.2]) ([.vec D7 1 y.1.n (fun i=>cI .i64 (y.1.g i)) true]) []:=by
 unfold EP at h;refine A8 Z func211 ?_;refine kC Z h (FT Z Y) (fun y1 h=>?_);refine Ja Z (And.intro rfl (E4 _ _):(0:Nat)=0/\(An 33 (fun i=>pI .u64 (y1.1 i))).length=33) (B9 Z) h 0 (fun z1=>⟨[(9,pN z1),(8,.reg 9000 0),(2,pN a)],[(9000,.arr 33 (fun i=>pI .u64 (y1.1 i)))]⟩) (fun M1 k1 d h=>?_) (fun z1 h=>?_)
 .apply kI Z h<;>intro h
  .refine kC Z h (FS Z Y) (fun y3 h=>?_);exact d _ [(9000,9000)] _ y3 Dz h (hle:=klR [(2,.fn 33 33 (fun i=>[(fun i=>(cA 33 (pI .u64) y1.1).getD i default) i]) (fun i=>[pI .u64 (y1.1 i)]))] (al1 ⟨rfl,D4 33 (fun i=>pI .u64 (y1.1 i))⟩ al0))
  exact d _ [(9000,9000)] _ y1.2 Dz h (hle:=klR [(2,.fn 33 33 (fun i=>[(fun i=>(cA 33 (pI .u64) y1.1).getD i default) i]) (fun i=>[pI .u64 (y1.1 i)]))] (al1 ⟨rfl,D4 33 (fun i=>pI .u64 (y1.1 i))⟩ al0))
 apply kI Z h<;>intro h
 .obtain rfl:=D0 h;exact B3 Z Dz ⟨[(7,pN z1),(6,.vec 7700)],[(7700,.vec D7 1 Ho.n (fun i=>cI .i64 (Ho.g i)) true)]⟩ [7700] (ids:=[]) ⟨rfl,rfl,rfl⟩
 obtain⟨c5,h⟩:=G7 h;obtain⟨y4,e4,h⟩:=B4 h;refine C6 Z [] c5 (BM Z Y e4) ?_;obtain⟨L1,e5,h⟩:=B4 h;obtain⟨y5,e6,h⟩:=B4 h;refine C6 Z [28000] Dz (DJ Z Y ⟨_,func219,by decide +kernel,by decide +kernel⟩ (Ar Z Y e5) e6) ?_;obtain rfl:=D0 h;exact B3 Z Dz ⟨[(7,pN 0),(6,.vec 29000)],[(29000,.vec D7 1 y5.n (fun i=>cI .i64 (y5.g i)) true)]⟩ [29000] (ids:=[(29000,29000)]) ⟨rfl,rfl,rfl⟩
end Go.AM
namespace Go.AM
open Go.Proofs.Tryz
variable {N:Nat}
open IntKind (wrap)
open Go.Proofs
set_option maxRecDepth 10000
set_option maxHeartbeats 2000000
variable {S:R7}(Z:F4 S Tryz.prog) (Y:HC S)
include Z Y
def EQ (N:Nat)(a:Str):Option Bool:= lt (fun (z1:Bool)=>some z1) fun k1=>if ((a==[]) != true) then if (decide ((a.length:Int)<=24)) then (Ex N a [97,98,99,100,101,102,103,104,105,106,107,108,109,110,111,112,113,114,115,116,117,118,119,120,121,122,65,66,67,68,69,70,71,72,73,74,75,76,77,78,79,80,81,82,83,84,85,86,87,88,89,90,48,49,50,51,52,53,54,55,56,57,45]).bind fun y2=>k1 ((y2==[]) != false) else k1 false else k1 false
theorem Oq {b:Str}{y:Bool}(h:EQ N b=some y) :FunO S Iy [.p (.str b)] [] (pB y) ([]) []:=by
 unfold EQ at h;refine A8 Z func106 ?_;refine Ja Z Dz (B9 Z) h 0 (fun z1=>⟨[(2,pB z1)],[]⟩) (fun M1 k1 a h=>?_) (fun z1 h=>?_)
 .refine kG Z h (fun h=>?_) (fun h=>?_)
  .refine kG Z h (fun h=>?_) (fun h=>?_)
   .refine kC Z h (JA Z Y) (fun y2 h=>?_);exact a _ [] _ ((y2==[]) != false) Dz h
   exact a _ [] _ false Dz h
  exact a _ [] _ false Dz h
 cases h;exact kR Z
def DY (N:Nat)(p_x:Gd)(a:Int):Option Bool:= lt (fun (z1:Bool)=>if z1 then some false else if ((((P4 .andNot .u32 (P4 .or .u32 p_x.Clear p_x.Take) 16777215) != 0)||((P4 .and .u32 p_x.Clear (P4 .or .u32 p_x.Set.Plus p_x.Set.Minus)) != 0))||((P4 .and .u32 p_x.Take (P4 .or .u32 (P4 .or .u32 p_x.Set.Plus p_x.Set.Minus) p_x.Clear)) != 0)) then some false else if (p_x.Take==0) then some (p_x.Of==0) else some ((decide (0<=p_x.Of))&&(decide (p_x.Of<a)))) fun k1=>if (decide (p_x.From<(-1))) then k1 true else if (decide (a<=p_x.From)) then k1 true else (I5 N p_x.Set).bind fun y2=>k1 (!y2)
theorem Qs {p_x:Gd}{b:Int}{y:Bool}(h:DY N p_x b=some y) :FunO S Ku [.p (.agg (Ah p_x)),pN b] [] (pB y) ([]) []:=by
 unfold DY at h;refine A8 Z func103 ?_;refine Ja Z Dz (B9 Z) h 0 (fun z1=>⟨[(13,pB z1),(5,pU (P4 .or .u32 p_x.Set.Plus p_x.Set.Minus)),(2,.reg 3000 0),(1,pN b)],[(3000,.cells ((Ah p_x).map .p))]⟩) (fun M1 k1 c h=>?_) (fun z1 h=>?_)
 .refine kG Z h (fun h=>?_) (fun h=>?_)
  .exact c _ [(3000,3000)] _ true Dz h
  refine kG Z h (fun h=>?_) (fun h=>?_)
  .exact c _ [(3000,3000)] _ true Dz h
  refine kC Z h (N4 Z Y) (fun y2 h=>?_);exact c _ [(3000,3000)] _ (!y2) Dz h
 apply kI Z h<;>intro h
 .cases h;exact kR Z
 refine kB Z (B9 Z) Dz Dz 16 (.o (.o (.a ((P4 .andNot .u32 (P4 .or .u32 p_x.Clear p_x.Take) 16777215) != 0)) (.a ((P4 .and .u32 p_x.Clear (P4 .or .u32 p_x.Set.Plus p_x.Set.Minus)) != 0))) (.a ((P4 .and .u32 p_x.Take (P4 .or .u32 (P4 .or .u32 p_x.Set.Plus p_x.Set.Minus) p_x.Clear)) != 0))) ?_;apply kI Z h<;>intro h
 .cases h;exact kR Z
 apply kI Z h<;>intro h
 .cases h;exact kR Z
 refine kB Z (B9 Z) Dz Dz 5 (.n (.a (decide (0<=p_x.Of))) (.a (decide (p_x.Of<b)))) ?_;cases h;exact kR Z
def CL (N:Nat)(p_x:Gd)(q0:Int):Option Bool:= (DY N p_x q0).bind fun y1=>some (!y1)
theorem LL {p_x:Gd}{q0:Int}{y:Bool}(h:CL N p_x q0=some y) :FunO S FI [.p (.agg (Ah p_x)),.reg 0 0] [.cells [pN q0]] (pB y) ([.cells [pN q0]]) [true]:=by unfold CL at h;refine A8 Z func102 ?_;refine kC Z h (Qs Z Y) (fun y1 h=>?_);obtain rfl:=D0 h;exact B3 Z Dz ⟨[(3,pB (!y1))],[(0,.cells [pN q0])]⟩ [0] (ids:=[(0,0)]) ⟨rfl,rfl,rfl⟩
def CM (N:Nat)(a:A1):Option Bool:= (I5 N a).bind fun y1=>some (!y1)
theorem LM {a:A1}{y:Bool}(h:CM N a=some y) :FunO S FJ [.p (.agg (A0 a))] [] (pB y) ([]) []:=by unfold CM at h;refine A8 Z func104 ?_;refine kC Z h (N4 Z Y) (fun y1 h=>?_);cases h;exact kR Z
def G0 (N:Nat)(a:Sl Gd)(c:Gd->Option Bool):Option Int:= Cn N (fun b (x1:Int)=>if (decide (x1<(a.n:Int))) then if ((0:Int)<=x1/\x1<(a.n:Int))then (c (a.g x1.toNat)).bind fun y3=>if y3 then some x1 else b (wrap .i64 (x1+1)) else none else some (-1)) 0
theorem U4 {c:Sl Gd}{d:Gd->Option Bool}{a:Int}{kp_f:Nat}(f:∀{a0:Gd}{b:Bool},d a0=some b->FunO S kp_f [.p (.agg (Ah a0)),.reg 0 0] [.cells [pN a]] (pB b) [.cells [pN a]] [true]){y:Int}(h:G0 N c d=some y) :FunO S K4 [.p (vSl 6 Ah c),.clo kp_f [] [.reg 0 0]] [.cells [pN a]] (pN y) ([.cells [pN a]]) [true]:=by
 unfold G0 at h;refine A8 Z func133 ?_;refine S0 Z Dz h (fun x1=>⟨[(8,pN x1),(7,pN (c.n:Int)),(1,.clo kp_f [] [.reg 0 0]),(0,.p (vSl 6 Ah c))],[(0,.cells [pN a])]⟩) (ids:=[(0,0)]) (fun _ _ _ _ _ g x1 i h=>?_);apply kI Z h<;>intro h
 .obtain⟨c8,h⟩:=G7 h;obtain⟨y3,e3,h⟩:=B4 h;refine C6 Z [0] (And.intro c8 (by decide:(6:Nat)<=6)) (f e3) ?_;apply kI Z h<;>intro h
  .obtain rfl:=D0 h;exact B3 Z Dz ⟨[(4,pN x1)],[(0,.cells [pN a])]⟩ [0] (ids:=[(0,0)]) ⟨rfl,rfl,rfl⟩
  exact i _ [(0,0)] _ (wrap .i64 (x1+1)) Dz h
 obtain rfl:=D0 h;exact B3 Z Dz ⟨[(4,pN (-1))],[(0,.cells [pN a])]⟩ [0] (ids:=[(0,0)]) ⟨rfl,rfl,rfl⟩
def E8 (N:Nat)(a:Sl Gd)(b:Gd->Option Bool):Option Bool:= (G0 N a b).bind fun y1=>some (decide (0<=y1))
theorem R5 {c:Sl Gd}{d:Gd->Option Bool}{a:Int}{kp_f:Nat}(f:∀{a0:Gd}{b:Bool},d a0=some b->FunO S kp_f [.p (.agg (Ah a0)),.reg 0 0] [.cells [pN a]] (pB b) [.cells [pN a]] [true]){y:Bool}(h:E8 N c d=some y) :FunO S I2 [.p (vSl 6 Ah c),.clo kp_f [] [.reg 0 0]] [.cells [pN a]] (pB y) ([.cells [pN a]]) [true]:=by unfold E8 at h;refine A8 Z func109 ?_;obtain⟨y1,e1,h⟩:=B4 h;refine C6 Z [0] Dz (U4 Z Y (fun e=>f e) e1) ?_;obtain rfl:=D0 h;exact B3 Z Dz ⟨[(4,pB (decide (0<=y1)))],[(0,.cells [pN a])]⟩ [0] (ids:=[(0,0)]) ⟨rfl,rfl,rfl⟩
def Bj (N:Nat)(a:Law):Option Int:= (EQ N a.Name).bind fun y1=>if (!y1) then some 17 else (Ak N a.Left).bind fun y2=>if (y2 != 0) then some 17 else (Ak N a.Right).bind fun y3=>if (y3 != 0) then some 17 else if (decide (4<(a.If.n:Int))) then some 17 else if (decide (6<(a.Out.n:Int))) then some 17 else if ((wrap .i64 ((a.If.n:Int)+(a.Out.n:Int)))==0) then some 17 else if ((decide (a.Mode<1))||(decide (3<a.Mode))) then some 17 else (C9 N a.If (fun (u1:A1)=>CM N u1)).bind fun y4=>if y4 then some 17 else (E8 N a.Out (fun (u2:Gd)=>CL N u2 (a.If.n:Int))).bind fun y5=>if y5 then some 17 else some 0
theorem ER {c:Law}{y:Int}(h:Bj N c=some y) :FunO S Ir [.p (.agg (B7 c))] [] (pN y) ([]) []:=by
 unfold Bj at h;refine A8 Z func75 ?_;refine kC Z h (Oq Z Y) (fun y1 h=>?_);refine D9 Z Dz (b:=!y1) (fun c1=>?_) (fun c1=>?_)
 .replace h:=itT c1 h;refine D9 Z Dz (b:=!y1) (fun c2=>?_) (fun c2=>?_)
  .cases h;exact kR Z
  exact Bool.noConfusion (c1.symm.trans c2)
 replace h:=itF c1 h;refine kC Z h (DI Z Y) (fun y2 h=>?_);refine D9 Z Dz (b:=y2 != 0) (fun c3=>?_) (fun c3=>?_)
 .replace h:=itT c3 h;refine D9 Z Dz (b:=y2 != 0) (fun c4=>?_) (fun c4=>?_)
  .cases h;exact kR Z
  exact Bool.noConfusion (c3.symm.trans c4)
 replace h:=itF c3 h;refine kC Z h (DI Z Y) (fun y3 h=>?_);refine D9 Z Dz (b:=y3 != 0) (fun c5=>?_) (fun c5=>?_)
 .replace h:=itT c5 h;refine D9 Z Dz (b:=y3 != 0) (fun c6=>?_) (fun c6=>?_)
  .cases h;exact kR Z
  exact Bool.noConfusion (c5.symm.trans c6)
 replace h:=itF c5 h;refine D9 Z Dz (b:=decide (4<(c.If.n:Int))) (fun c7=>?_) (fun c7=>?_)
 .replace h:=itT c7 h;refine D9 Z Dz (b:=decide (4<(c.If.n:Int))) (fun c8=>?_) (fun c8=>?_)
  .cases h;exact kR Z
  exact Bool.noConfusion (c7.symm.trans c8)
 replace h:=itF c7 h;refine D9 Z Dz (b:=decide (6<(c.Out.n:Int))) (fun c9=>?_) (fun c9=>?_)
 .replace h:=itT c9 h;refine D9 Z Dz (b:=decide (6<(c.Out.n:Int))) (fun c10=>?_) (fun c10=>?_)
  .cases h;exact kR Z
  exact Bool.noConfusion (c9.symm.trans c10)
 replace h:=itF c9 h;refine D9 Z Dz (b:=(wrap .i64 ((c.If.n:Int)+(c.Out.n:Int)))==0) (fun c11=>?_) (fun c11=>?_)
 .replace h:=itT c11 h;refine D9 Z Dz (b:=(wrap .i64 ((c.If.n:Int)+(c.Out.n:Int)))==0) (fun c12=>?_) (fun c12=>?_)
  .cases h;exact kR Z
  exact Bool.noConfusion (c11.symm.trans c12)
 replace h:=itF c11 h;refine kB Z (B9 Z) Dz Dz 4 (.o (.a (decide (c.Mode<1))) (.a (decide (3<c.Mode)))) ?_;refine D9 Z Dz (b:=(decide (c.Mode<1))||(decide (3<c.Mode))) (fun c13=>?_) (fun c13=>?_)
 .replace h:=itT c13 h;refine D9 Z Dz (b:=(decide (c.Mode<1))||(decide (3<c.Mode))) (fun c14=>?_) (fun c14=>?_)
  .cases h;exact kR Z
  exact Bool.noConfusion (c13.symm.trans c14)
 replace h:=itF c13 h;refine kC Z h (H3 Z Y (fun e=>LM Z Y e)) (fun y4 h=>?_);refine D9 Z Dz (b:=y4) (fun c15=>?_) (fun c15=>?_)
 .replace h:=itT c15 h;refine D9 Z Dz (b:=y4) (fun c16=>?_) (fun c16=>?_)
  .cases h;exact kR Z
  exact Bool.noConfusion (c15.symm.trans c16)
 replace h:=itF c15 h;obtain⟨y5,e5,h⟩:=B4 h;refine C6 Z [4000] Dz (R5 Z Y (fun e=>LL Z Y e) e5) ?_;apply kI Z h<;>intro h
 .cases h;exact kR Z
 cases h;exact kR Z
def ES (N:Nat)(a:Law)(b:Sl A1):Option Int:= (Bj N a).bind fun y1=>if (y1 != 0) then some y1 else (W7 N b).bind fun y2=>some y2
theorem Or {a:Law}{b:Sl A1}{y:Int}(h:ES N a b=some y) :FunO S IC [.p (.agg (B7 a)),.p (vSl 2 A0 b)] [] (pN y) ([]) []:=by
 unfold ES at h;refine A8 Z func174 ?_;refine kC Z h (ER Z Y) (fun y1 h=>?_);apply kI Z h<;>intro h
 .cases h;exact kR Z
 refine kC Z h (Bw Z Y) (fun y2 h=>?_);cases h;exact kR Z
def BP (N:Nat)(a:Int)(q0:Law)(q1:Sl A1):Option Bool:= (CK N q0.Left q1 a).bind fun y1=>if ((y1.1.n:Int)==0) then some false else (EP N q0.Right q1 (wrap .i64 (a+(q0.If.n:Int)))).bind fun y2=>some (decide (0<(y2.1.n:Int)))
theorem JF {a:Int}{q0:Law}{q1:Sl A1}{y:Bool}(h:BP N a q0 q1=some y) :FunO S P9 [pN a,.reg 0 0,.reg 1 0] [.cells ((B7 q0).map .p),.cells [.p (vSl 2 A0 q1)]] (pB y) ([.cells ((B7 q0).map .p),.cells [.p (vSl 2 A0 q1)]]) [true,true]:=by
 unfold BP at h;refine A8 Z func209 ?_;refine kC Z h (LK Z Y) (fun y1 h=>?_);apply kI Z h<;>intro h
 .obtain rfl:=D0 h;exact B3 Z Dz ⟨[(4,pB false)],[(1,.cells [.p (vSl 2 A0 q1)]),(0,.cells ((B7 q0).map .p))]⟩ [0,1] (ids:=[(0,0),(1,1)]) ⟨rfl,rfl,rfl⟩
 refine kC Z h (Oo Z Y) (fun y2 h=>?_);obtain rfl:=D0 h;exact B3 Z Dz ⟨[(4,pB (decide (0<(y2.1.n:Int))))],[(1,.cells [.p (vSl 2 A0 q1)]),(0,.cells ((B7 q0).map .p))]⟩ [0,1] (ids:=[(0,0),(1,1)]) ⟨rfl,rfl,rfl⟩
def DK (N:Nat)(a:Law)(b:Sl A1):Option (Law×(Sl A1)):= some (a,b)
theorem Ni {a:Law}{b:Sl A1}{y:Law×(Sl A1)}(h:DK N a b=some y) :FunO S Ha [.p (.agg (B7 a)),.p (vSl 2 A0 b)] [] (.clo P9 [] [.reg 0 0,.reg 1 0]) ([.cells ((B7 y.1).map .p),.cells [.p (vSl 2 A0 y.2)]]) []:=by unfold DK at h;refine A8 Z func197 ?_;obtain rfl:=D0 h;exact B3 Z Dz ⟨[(4,.clo P9 [] [.reg 3000 0,.reg 4000 0])],[(4000,.cells [.p (vSl 2 A0 b)]),(3000,.cells ((B7 a).map .p))]⟩ [3000,4000] (ids:=[(3000,3000),(4000,4000)]) ⟨rfl,rfl,rfl⟩
def FU (N:Nat)(a:Law)(b:Sl A1):Option (Sl A1):= Ft N (fun c (x1:Sl A1) (x2:Int)=>if (decide (x2<(a.Out.n:Int))) then if ((0:Int)<=x2/\x2<(a.Out.n:Int))then if ((decide (0<=(a.Out.g x2.toNat).From))=true->((0:Int)<=(a.Out.g x2.toNat).From/\(a.Out.g x2.toNat).From<(b.n:Int)))then (BK N (⟨(if (decide (0<=(a.Out.g x2.toNat).From)) then (b.g (a.Out.g x2.toNat).From.toNat).Plus else 0),(if (decide (0<=(a.Out.g x2.toNat).From)) then (b.g (a.Out.g x2.toNat).From.toNat).Minus else 0)⟩:A1) (a.Out.g x2.toNat).Clear (a.Out.g x2.toNat).Set).bind fun y5=>if ((a.Out.g x2.toNat).Take != 0) then if ((0:Int)<=(a.Out.g x2.toNat).Of/\(a.Out.g x2.toNat).Of<(b.n:Int))then (DE N y5.1 (b.g (a.Out.g x2.toNat).Of.toNat) (a.Out.g x2.toNat).Take).bind fun y6=>if ((x1.n+(Sl.of [y6.1]:Sl A1).n)*8<=140737488355328/\x1.n+(Sl.of [y6.1]:Sl A1).n<=140737488355328)then c (x1.push y6.1) (wrap .i64 (x2+1)) else none else none else if ((x1.n+(Sl.of [y5.1]:Sl A1).n)*8<=140737488355328/\x1.n+(Sl.of [y5.1]:Sl A1).n<=140737488355328)then c (x1.push y5.1) (wrap .i64 (x2+1)) else none else none else none else some x1) (Sl.nil:Sl A1) 0
theorem Nj {d:Law}{a:Sl A1}{y:Sl A1}(h:FU N d a=some y) :FunO S Na [.p (.agg (B7 d)),.p (vSl 2 A0 a)] [] (.p (vSl 2 A0 y)) ([]) []:=by
 unfold FU at h;refine A8 Z func188 ?_;refine H1 Z Dz 4 3000 (B7 d) ?_;refine Q7 Z Dz h (fun x1 x2=>⟨[(12,pN x2),(11,pN (d.Out.n:Int)),(10,.p (vSl 6 Ah d.Out)),(5,.vec 6500),(1,.p (vSl 2 A0 a))],[(6500,.vec C8 2 x1.n (fun i=>A0 (x1.g i)) false)]⟩) (ids:=[]) (fun _ _ _ _ _ o x1 x2 l h=>?_);apply kI Z h<;>intro h
 .obtain⟨c16,h⟩:=G7 h;refine H1 Z (And.intro c16 (by decide:(6:Nat)<=6)) 8 8000 (Ah (d.Out.g x2.toNat)) ?_;obtain⟨c18,h⟩:=G7 h;obtain⟨t5,f⟩:∃x:Int,x=(if (decide (0<=(d.Out.g x2.toNat).From)) then (a.g (d.Out.g x2.toNat).From.toNat).Plus else 0):=⟨_,rfl⟩;obtain⟨t6,j⟩:∃x:Int,x=(if (decide (0<=(d.Out.g x2.toNat).From)) then (a.g (d.Out.g x2.toNat).From.toNat).Minus else 0):=⟨_,rfl⟩;refine Rx Z Dz (B9 Z) 0 ⟨[(12,pN x2),(11,pN (d.Out.n:Int)),(10,.p (vSl 6 Ah d.Out)),(8,.reg 9000 0),(7,.p (.ptr (Ah (d.Out.g x2.toNat)))),(5,.vec 6500),(1,.p (vSl 2 A0 a))],[(9000,.cells [pU t5,pU t6]),(6500,.vec C8 2 x1.n (fun i=>A0 (x1.g i)) false)]⟩ (fun M3 m=>?_) ?_
  .refine D9 Z Dz (b:=decide (0<=(d.Out.g x2.toNat).From)) (fun c19=>?_) (fun c19=>?_)
   .exact m _ [(6500,6500),(9000,9000)] _ (And.intro (c18 c19) Gx) (hle:=klR [(5,.eq (pI .u32 (a.g (d.Out.g x2.toNat).From.toNat).Plus) (pI .u32 t5)),(6,.eq (pI .u32 (a.g (d.Out.g x2.toNat).From.toNat).Minus) (pI .u32 t6))] (al1 (by simp only[f,j,c19,Leaf.ok,pm,Db,Dd]) (al1 (by simp only[f,j,c19,Leaf.ok,pm,Db,Dd]) al0)))
   exact m _ [(6500,6500),(9000,9000)] _ Dz (hle:=klR [(5,.eq (pI .u32 0) (pI .u32 t5)),(6,.eq (pI .u32 0) (pI .u32 t6))] (al1 (by simp only[f,j,c19,Leaf.ok,pm,Db,Dd]) (al1 (by simp only[f,j,c19,Leaf.ok,pm,Db,Dd]) al0)))
  subst j;subst f;obtain⟨y5,e5,h⟩:=B4 h;refine C6 Z [] (by decide:(2:Nat)<=4) (JB Z Y e5) ?_;apply kI Z h<;>intro h
  .refine F1 Z Dz [3,4,5,7,8] ?_;obtain⟨c21,h⟩:=G7 h;obtain⟨y6,e6,h⟩:=B4 h;refine E3 (And.intro c21 Gx) (Ng Z Y e6) ?_;refine F6 Dz ?_;obtain⟨c22,h⟩:=G7 h;exact l _ [(6500,52000)] _ (x1.push y6.1) (wrap .i64 (x2+1)) (And.intro Hn c22) h (hle:=klR [(4,.fn (x1.n+1) (x1.push y6.1).n (AP x1.n (fun i=>A0 (x1.g i)) (A9 [pI .u32 0,pI .u32 0] [(0,A0 y6.1)])) (fun i=>A0 ((x1.push y6.1).g i)))] (al1 ⟨rfl,NP (c:=A0) (v:=x1) (x:=y6.1) (z:=[(pI .u32 0),pI .u32 0]) same rfl rfl⟩ al0))
  obtain⟨c23,h⟩:=G7 h;exact l _ [(6500,52000)] _ (x1.push y5.1) (wrap .i64 (x2+1)) (And.intro Hn c23) h (hle:=klR [(4,.fn (x1.n+1) (x1.push y5.1).n (AP x1.n (fun i=>A0 (x1.g i)) (A9 [pI .u32 0,pI .u32 0] [(0,A0 y5.1)])) (fun i=>A0 ((x1.push y5.1).g i)))] (al1 ⟨rfl,NP (c:=A0) (v:=x1) (x:=y5.1) (z:=[(pI .u32 0),pI .u32 0]) same rfl rfl⟩ al0))
 obtain rfl:=D0 h;exact B3 Z Dz ⟨[(4,.p (vSl 2 A0 x1))],[]⟩ [] (ids:=[]) ⟨rfl,rfl,rfl⟩
def D6 (N:Nat)(a:Sl (Sl A1)):Option (Sl A1):= Ft N (fun b (x1:Int) (x2:Int)=>if (decide (x2<(a.n:Int))) then if ((0:Int)<=x2/\x2<(a.n:Int))then if (decide ((wrap .i64 (x1+((a.g x2.toNat).n:Int)))<0)) then none else b (wrap .i64 (x1+((a.g x2.toNat).n:Int))) (wrap .i64 (x2+1)) else none else (K8 N x1).bind fun y1=>Ft N (fun c (x3:Sl A1) (x4:Int)=>if (decide (x4<(a.n:Int))) then if (((0:Int)<=x4/\x4<(a.n:Int))/\((x3.n+(a.g x4.toNat).n)*8<=140737488355328/\x3.n+(a.g x4.toNat).n<=140737488355328))then c (x3.app (a.g x4.toNat)) (wrap .i64 (x4+1)) else none else some x3) y1 0) 0 0
theorem J6 {a:Sl (Sl A1)}{y:Sl A1}(h:D6 N a=some y) :FunO S J5 [.p (vSl 1 (cL 2 A0) a)] [] (.vec 0) ([.vec C8 2 y.n (fun i=>A0 (y.g i)) true]) []:=by
 unfold D6 at h;refine A8 Z func187 ?_;refine Q7 Z Dz h (fun x1 x2=>⟨[(11,pN x2),(10,pN (a.n:Int)),(9,.p (vSl 1 (cL 2 A0) a)),(3,pN x1),(0,.p (vSl 1 (cL 2 A0) a))],[]⟩) (ids:=[]) (fun _ _ _ _ _ d x1 x2 f h=>?_);apply kI Z h<;>intro h
 .obtain⟨c8,h⟩:=G7 h;refine D9 Z c8 (b:=decide ((wrap .i64 (x1+((a.g x2.toNat).n:Int)))<0)) (fun c9=>?_) (fun c9=>?_)
  .replace h:=itT c9 h;cases h
  replace h:=itF c9 h;exact f _ [] _ (wrap .i64 (x1+((a.g x2.toNat).n:Int))) (wrap .i64 (x2+1)) Dz h
 refine kC Z h (V4 Z Y) (fun y1 h=>?_);refine Q7 Z Dz h (fun x3 x4=>⟨[(27,pN x4),(26,pN (a.n:Int)),(25,.p (vSl 1 (cL 2 A0) a)),(6,.vec 7500)],[(7500,.vec C8 2 x3.n (fun i=>A0 (x3.g i)) false)]⟩) (ids:=[(7500,25000)]) (fun _ _ _ _ _ j x3 x4 l h=>?_);apply kI Z h<;>intro h
 .obtain⟨c13,h⟩:=G7 h;exact l _ [(7500,34000)] _ (x3.app (a.g x4.toNat)) (wrap .i64 (x4+1)) c13 h (hle:=klR [(3,.fn (x3.n+(a.g x4.toNat).n) (x3.app (a.g x4.toNat)).n (AP x3.n (fun i=>A0 (x3.g i)) (fun i=>A0 ((a.g x4.toNat).g i))) (fun i=>A0 ((x3.app (a.g x4.toNat)).g i)))] (al1 ⟨rfl,appL (c:=A0) (v:=x3) (w:=a.g x4.toNat) same rfl same rfl⟩ al0))
 obtain rfl:=D0 h;exact B3 Z Dz ⟨[(2,.vec 7500)],[(7500,.vec C8 2 x3.n (fun i=>A0 (x3.g i)) true)]⟩ [7500] (ids:=[(7500,7500)]) ⟨rfl,rfl,rfl⟩
def AK (N:Nat)(b:Law)(c:Sl A1)(a:Int):Option (Sl A1):= if (((0:Int)<=a/\a<=(c.n:Int))/\((0:Int)<=a/\a<=(wrap .i64 (a+(b.If.n:Int)))/\(wrap .i64 (a+(b.If.n:Int)))<=(c.n:Int)))then (FU N b (c.sub a.toNat (wrap .i64 (a+(b.If.n:Int))).toNat)).bind fun y1=>if ((0:Int)<=(wrap .i64 (a+(b.If.n:Int)))/\(wrap .i64 (a+(b.If.n:Int)))<=(c.n:Int))then (D6 N (Sl.of [c.take a.toNat,y1,c.drop (wrap .i64 (a+(b.If.n:Int))).toNat]:Sl (Sl A1))).bind fun y2=>some y2 else none else none
theorem FV {c:Law}{b:Sl A1}{a:Int}{y:Sl A1}(h:AK N c b a=some y) :FunO S FM [.p (.agg (B7 c)),.p (vSl 2 A0 b),pN a] [] (.vec 0) ([.vec C8 2 y.n (fun i=>A0 (y.g i)) true]) []:=by unfold AK at h;refine A8 Z func190 ?_;refine H1 Z Dz 6 4000 (B7 c) ?_;refine F1 Z Dz [3,8] ?_;obtain⟨c1,h⟩:=G7 h;obtain⟨y1,e1,h⟩:=B4 h;refine E3 (And.intro (And.intro c1.1 Hm) c1.2) (Nj Z Y e1) ?_;obtain⟨c2,h⟩:=G7 h;refine B6 c2 (x:=.sl true 1 3 (A9 [C0] [(0,cL 2 A0 (b.take a.toNat)),(1,cL 2 A0 y1),(2,cL 2 A0 (b.drop (wrap .i64 (a+(c.If.n:Int))).toNat))])) ?_;obtain⟨y2,e2,h⟩:=B4 h;refine Fw [] Dz (FunO.le Z (args:=[.p (.sl true 1 3 (A9 [C0] [(0,cL 2 A0 (b.take a.toNat)),(1,cL 2 A0 y1),(2,cL 2 A0 (b.drop (wrap .i64 (a+(c.If.n:Int))).toNat))]))]) (by exact⟨J3 rfl (fun i d=>match i,d with|0,_=>rfl|1,_=>rfl|2,_=>rfl|_+3,d=>Bs d (by omega)),trivial⟩) (J6 Z Y e2)) ?_;refine F6 Dz ?_;obtain rfl:=D0 h;exact B3 Z Dz ⟨[(6,.vec 27000)],[(27000,.vec C8 2 y2.n (fun i=>A0 (y2.g i)) true)]⟩ [27000] (ids:=[(27000,27000)]) ⟨rfl,rfl,rfl⟩
def BA (N:Nat)(q0:Law)(q1:Sl A1)(q2:Int):Option (List (Int)):= (DK N q0 q1).bind fun y1=>Cn N (fun a (x2:Int)=>if (decide ((wrap .i64 (x2+(q0.If.n:Int)))<=(q1.n:Int))) then Cn N (fun b (x4:Int)=>if (decide (x4<(q0.If.n:Int))) then if ((0:Int)<=x4/\x4<(q0.If.n:Int))then if ((0:Int)<=(wrap .i64 (x2+x4))/\(wrap .i64 (x2+x4))<(q1.n:Int))then (Z5 N (q1.g (wrap .i64 (x2+x4)).toNat) (q0.If.g x4.toNat)).bind fun c=>if (!c) then a (wrap .i64 (x2+1)) else b (wrap .i64 (x4+1)) else none else none else (BP N x2 y1.1 y1.2).bind fun d=>if d then Hi x2 (a (wrap .i64 (x2+1))) else a (wrap .i64 (x2+1))) 0 else some []) q2
theorem Hc {q0:Law}{q1:Sl A1}{q2:Int}{L:List (Int)}(h:BA N q0 q1 q2=some L) :Di S Bt [] [.reg 0 0,.reg 1 0,.reg 2 0] [.cells ((B7 q0).map .p),.cells [.p (vSl 2 A0 q1)],.cells [pN q2]] (L.map (fun (x:Int)=>[pI .i64 x])):=by
 unfold BA at h;refine DV Z func196 ?_;refine kC Z h (Ni Z Y) (fun y1 h=>?_);refine Ds Z Dz h (fun x2 L1=>⟨[(6,pN x2),(5,.clo P9 [] [.reg 12000 0,.reg 12001 0]),(2,.reg 1 0),(1,.reg 0 0),(0,.yf 3)],[(12001,.cells [.p (vSl 2 A0 y1.2)]),(12000,.cells ((B7 y1.1).map .p)),(3,.yld (L1.map (fun (x:Int)=>[pI .i64 x])) true),(2,.cells [pN q2]),(1,.cells [.p (vSl 2 A0 q1)]),(0,.cells ((B7 q0).map .p))]⟩) (ids:=[(0,0),(1,1),(2,2),(3,3),(12000,12000),(12001,12001)]) (fun _ _ _ _ _ f x2 L1 c h=>?_);apply kI Z h<;>intro h
 .refine Ds Z Dz h (fun x4 L8=>⟨[(26,pN x4),(25,pN (q0.If.n:Int)),(24,.p (vSl 2 A0 q0.If)),(6,pN x2),(5,.clo P9 [] [.reg 12000 0,.reg 12001 0]),(2,.reg 1 0),(1,.reg 0 0),(0,.yf 3)],[(12001,.cells [.p (vSl 2 A0 y1.2)]),(12000,.cells ((B7 y1.1).map .p)),(3,.yld (L8.map (fun (x:Int)=>[pI .i64 x])) true),(2,.cells [pN q2]),(1,.cells [.p (vSl 2 A0 q1)]),(0,.cells ((B7 q0).map .p))]⟩) (ids:=[(0,0),(1,1),(2,2),(3,3),(12000,12000),(12001,12001)]) (fun _ _ _ _ _ i x4 L8 j h=>?_);apply kI Z h<;>intro h
  .obtain⟨c47,h⟩:=G7 h;refine Tk Z (And.intro c47 Gx) 9000 [pI .u32 (q0.If.g x4.toNat).Plus,pI .u32 (q0.If.g x4.toNat).Minus] ?_;refine F1 Z Dz [4,5,6,7] ?_;obtain⟨c48,h⟩:=G7 h;obtain⟨l,e12,h⟩:=B4 h;refine E3 (And.intro (And.intro c48 Gx) Gx) (Gy Z Y e12) ?_;refine F6 Dz ?_;apply kI Z h<;>intro h
   .exact c _ [(0,0),(1,1),(2,2),(3,3),(12000,12000),(12001,12001)] _ (wrap .i64 (x2+1)) L8 Dz h
   exact j _ [(0,0),(1,1),(2,2),(3,3),(12000,12000),(12001,12001)] _ (wrap .i64 (x4+1)) L8 Dz h
  obtain⟨m,e13,h⟩:=B4 h;refine C6 Z [12000,12001] Dz (JF Z Y e13) ?_;refine kG Z h (fun h=>?_) (fun h=>?_)
  .obtain⟨L10,rfl,d⟩:=Jj h;replace h:=d;refine BH Z Dz (ys:=(fun (x:Int)=>[pI .i64 x]) x2) (rest:=L10.map (fun (x:Int)=>[pI .i64 x])) ?_ ?_
   .refine D9 Z Dz (b:=false) (fun c53=>?_) (fun c53=>?_)
    .exact Bool.noConfusion ((rfl:false=false).symm.trans c53)
    exact c _ [(0,0),(1,1),(2,2),(3,3),(12000,12000),(12001,12001)] _ (wrap .i64 (x2+1)) L10 Dz h
   refine D9 Z Dz (b:=true) (fun c54=>?_) (fun c54=>?_)
   .exact B3 Z Dz (a:=.tup []) (objs:=[(.cells ((B7 q0).map .p)),.cells [.p (vSl 2 A0 q1)],.cells [pN q2],.yld [] false]) ⟨[],[(3,.yld [] false),(2,.cells [pN q2]),(1,.cells [.p (vSl 2 A0 q1)]),(0,.cells ((B7 q0).map .p))]⟩ [0,1,2,3] (ids:=[(0,0),(1,1),(2,2),(3,3)]) ⟨false,rfl,rfl,_,rfl⟩
   exact Bool.noConfusion (Hn.symm.trans c54)
  exact c _ [(0,0),(1,1),(2,2),(3,3),(12000,12000),(12001,12001)] _ (wrap .i64 (x2+1)) L8 Dz h
 obtain rfl:=D0 h;exact B3 Z Dz (a:=.tup []) (objs:=[(.cells ((B7 q0).map .p)),.cells [.p (vSl 2 A0 q1)],.cells [pN q2],.yld [] true]) ⟨[],[(3,.yld [] true),(2,.cells [pN q2]),(1,.cells [.p (vSl 2 A0 q1)]),(0,.cells ((B7 q0).map .p))]⟩ [0,1,2,3] (ids:=[(0,0),(1,1),(2,2),(3,3)]) ⟨true,rfl,rfl,_,rfl⟩
def DZ (N:Nat)(b:Law)(c:Sl A1)(a:Int):Option (Law×(Sl A1)×Int):= some (b,c,a)
theorem Ky {b:Law}{c:Sl A1}{a:Int}{y:Law×(Sl A1)×Int}(h:DZ N b c a=some y) :FunO S Kv [.p (.agg (B7 b)),.p (vSl 2 A0 c),pN a] [] (.clo Bt [] [.reg 0 0,.reg 1 0,.reg 2 0]) ([.cells ((B7 y.1).map .p),.cells [.p (vSl 2 A0 y.2.1)],.cells [pN y.2.2]]) []:=by unfold DZ at h;refine A8 Z func186 ?_;obtain rfl:=D0 h;exact B3 Z Dz ⟨[(6,.clo Bt [] [.reg 4000 0,.reg 5000 0,.reg 6000 0])],[(6000,.cells [pN a]),(5000,.cells [.p (vSl 2 A0 c)]),(4000,.cells ((B7 b).map .p))]⟩ [4000,5000,6000] (ids:=[(4000,4000),(5000,5000),(6000,6000)]) ⟨rfl,rfl,rfl⟩
def FX (N:Nat)(b:Law)(c:Sl A1)(a:Int):Option Bool:= (DZ N b c a).bind fun y1=>(BA N y1.1 y1.2.1 y1.2.2).bind fun L1=>Y5 L1 (fun d (x1:Int) (_:Unit)=>some (x1==a)) (fun (_:Unit)=>some false) ()
theorem Nk {b:Law}{c:Sl A1}{a:Int}{y:Bool}(h:FX N b c a=some y) :FunO S Nb [.p (.agg (B7 b)),.p (vSl 2 A0 c),pN a] [] (pB y) ([]) []:=by
 unfold FX at h;refine A8 Z func189 ?_;refine kC Z h (Ky Z Y) (fun y1 h=>?_);obtain⟨L1,e2,h⟩:=B4 h;refine Cu Z Dz [12000,12001,12002] [6,5] 901 (fun _=>⟨[(6,.reg 7000 0),(5,.reg 6000 0)],[(7000,.cells [.p (.v (.bool false))]),(6000,.cells [pN a])]⟩) (idl:=[(6000,6000),(7000,7000)]) h (Hc Z Y e2) (fun _=>by kernel_rfl) (fun _=>by kernel_rfl) (fun _=>by kernel_rfl) (fun _=>by kernel_rfl) (fun x1 _ d _ f h=>?_) (fun _ h=>?_)
 .refine Fx Z Dz ?_;refine Li Z Dz ⟨[(6,.reg 7000 0),(5,.reg 6000 0)],[(7000,.cells [pB (x1==a)]),(6000,.cells [pN a])]⟩ (ids:=[(901,901),(6000,6000),(7000,7000)]) ?_;cases h;exact kR Z
 cases h;exact kR Z
def ET (N:Nat)(q0:Sl A1)(q1:Law)(q2:Int)(q3:Int):Option (List (Int×(Sl A1))):= if (q1.Mode==1) then (DZ N q1 q0 0).bind fun y1=>(BA N y1.1 y1.2.1 y1.2.2).bind fun L1=>Y5 L1 (fun b (x1:Int) (z1:(Sl A1)×Int×Int)=>if (decide (x1<z1.2.1)) then b (z1.1,z1.2.1,z1.2.2) else if (((0:Int)<=(wrap .i64 (x1+z1.2.2))/\(wrap .i64 (x1+z1.2.2))<=(z1.1.n:Int))/\((0:Int)<=x1/\x1<=(wrap .i64 (x1+q2))/\(wrap .i64 (x1+q2))<=(q0.n:Int)))then (FU N q1 (q0.sub x1.toNat (wrap .i64 (x1+q2)).toNat)).bind fun y6=>if ((0:Int)<=(wrap .i64 (x1+q2))/\(wrap .i64 (x1+q2))<=(q0.n:Int))then (D6 N (Sl.of [z1.1.take (wrap .i64 (x1+z1.2.2)).toNat,y6,q0.drop (wrap .i64 (x1+q2)).toNat]:Sl (Sl A1))).bind fun y7=>Hi (x1,y7) (b (y7,wrap .i64 (x1+(if q2<1 then 1 else q2)),wrap .i64 ((wrap .i64 (z1.2.2+q3))-q2))) else none else none) (fun (z1:(Sl A1)×Int×Int)=>some []) (q0,0,0) else if (q1.Mode==2) then Ft N (fun a (x5:Sl A1) (x6:Int)=>if (decide ((wrap .i64 (x6+q2))<=(x5.n:Int))) then (FX N q1 x5 x6).bind fun g=>if (!g) then a x5 (wrap .i64 (x6+1)) else (AK N q1 x5 x6).bind fun d=>Hi (x6,d) (if (q2==0) then a d (wrap .i64 ((wrap .i64 (x6+q3))+1)) else a d (wrap .i64 (x6+q3))) else some []) q0 0 else if (q1.Mode==3) then Ft N (fun c (x7:Sl A1) (x8:Int)=>if (decide (0<=x8)) then (FX N q1 x7 x8).bind fun i=>if (!i) then c x7 (wrap .i64 (x8-1)) else (AK N q1 x7 x8).bind fun f=>Hi (x8,f) (c f (wrap .i64 (x8-(if q2<1 then 1 else q2)))) else some []) q0 (wrap .i64 ((q0.n:Int)-q2)) else some []
theorem Ot {q0:Sl A1}{q1:Law}{q2:Int}{q3:Int}{L:List (Int×(Sl A1))}(h:ET N q0 q1 q2 q3=some L) :Di S Cz [] [.reg 0 0,.reg 1 0,.reg 2 0,.reg 3 0] [.cells [.p (vSl 2 A0 q0)],.cells ((B7 q1).map .p),.cells [pN q2],.cells [pN q3]] (L.map (fun (x:Int×(Sl A1))=>[pI .i64 x.1,vSl 2 A0 x.2])):=by
 unfold ET at h;refine DV Z func185 ?_;apply kI Z h<;>intro h
 .refine kC Z h (Ky Z Y) (fun y1 h=>?_);obtain⟨L1,e2,h⟩:=B4 h;refine Tj Z Dz [20000,20001,20002] [8,7,6,5,4,3,2,1] 900 (fun z1 L2=>⟨[(8,.reg 9000 0),(7,.reg 8000 0),(6,.reg 7000 0),(5,.reg 6000 0),(4,.reg 3 0),(3,.reg 2 0),(2,.reg 1 0),(1,.reg 0 0)],[(9000,.cells [pN z1.2.2]),(8000,.cells [pN z1.2.1]),(7000,.cells [.p (vSl 2 A0 z1.1)]),(6000,.cells [.yf 4]),(4,.yld (L2.map (fun (x:Int×(Sl A1))=>[pI .i64 x.1,vSl 2 A0 x.2])) true),(3,.cells [pN q3]),(2,.cells [pN q2]),(1,.cells ((B7 q1).map .p)),(0,.cells [.p (vSl 2 A0 q0)])]⟩) (idl:=[(0,0),(1,1),(2,2),(3,3),(4,4),(6000,6000),(7000,7000),(8000,8000),(9000,9000)]) h (Hc Z Y e2) (fun _=>by kernel_rfl) (fun _ _=>by kernel_rfl) (fun _ _=>by kernel_rfl) (fun _ _=>by kernel_rfl) (fun x1 _ s z1 L2 j h=>?_) (fun z1 L2 h=>?_)
  .refine Fx Z Dz ?_;apply kI Z h<;>intro h
   .exact j _ [(0,0),(1,1),(2,2),(3,3),(4,4),(900,900),(6000,6000),(7000,7000),(8000,8000),(9000,9000)] _ (z1.1,z1.2.1,z1.2.2) L2 Dz h
   refine N3 Z Dz [(0,.l [7000]),(2,.l [9000]),(5,.l [1]),(6,.l [0]),(9,.l [2]),(12,.n),(13,.l [0]),(15,.l [2]),(20,.a [7000])] ?_;obtain⟨c13,h⟩:=G7 h;obtain⟨y6,e7,h⟩:=B4 h;refine E3 c13 (Nj Z Y e7) ?_;obtain⟨c14,h⟩:=G7 h;refine B6 c14 (x:=.sl true 1 3 (A9 [C0] [(0,cL 2 A0 (z1.1.take (wrap .i64 (x1+z1.2.2)).toNat)),(1,cL 2 A0 y6),(2,cL 2 A0 (q0.drop (wrap .i64 (x1+q2)).toNat))])) ?_;obtain⟨y7,e8,h⟩:=B4 h;refine Fw [] Dz (FunO.le Z (args:=[.p (.sl true 1 3 (A9 [C0] [(0,cL 2 A0 (z1.1.take (wrap .i64 (x1+z1.2.2)).toNat)),(1,cL 2 A0 y6),(2,cL 2 A0 (q0.drop (wrap .i64 (x1+q2)).toNat))]))]) (by exact⟨J3 rfl (fun i t=>match i,t with|0,_=>rfl|1,_=>rfl|2,_=>rfl|_+3,t=>Bs t (by omega)),trivial⟩) (J6 Z Y e8)) ?_;refine F6 Dz ?_;obtain⟨L5,rfl,m⟩:=Jj h;replace h:=m;refine BH Z Dz (ys:=(fun (x:Int×(Sl A1))=>[pI .i64 x.1,vSl 2 A0 x.2]) (x1,y7)) (rest:=L5.map (fun (x:Int×(Sl A1))=>[pI .i64 x.1,vSl 2 A0 x.2])) ?_ ?_
   .refine D9 Z Dz (b:=false) (fun c15=>?_) (fun c15=>?_)
    .exact Bool.noConfusion ((rfl:false=false).symm.trans c15)
    refine N3 Z Dz [(1,.l [2]),(4,.l [9000]),(5,.l [3]),(7,.l [2]),(9,.a [8000]),(10,.a [9000])] ?_;refine F6 Dz ?_;exact j _ [(0,0),(1,1),(2,2),(3,3),(4,4),(900,900),(6000,6000),(7000,7000),(8000,8000),(9000,9000)] _ (y7,wrap .i64 (x1+(if q2<1 then 1 else q2)),wrap .i64 ((wrap .i64 (z1.2.2+q3))-q2)) L5 Dz h
   refine D9 Z Dz (b:=true) (fun c16=>?_) (fun c16=>?_)
   .refine Li Z Dz ⟨[(8,.reg 9000 0),(7,.reg 8000 0),(6,.reg 7000 0),(5,.reg 6000 0),(4,.reg 3 0),(3,.reg 2 0),(2,.reg 1 0),(1,.reg 0 0)],[(44000,.vec C8 2 y7.n (fun i=>A0 (y7.g i)) true),(9000,.cells [pN z1.2.2]),(8000,.cells [pN z1.2.1]),(7000,.cells [.vec 44000]),(6000,.cells [.yf 4]),(4,.yld [] false),(3,.cells [pN q3]),(2,.cells [pN q2]),(1,.cells ((B7 q1).map .p)),(0,.cells [.p (vSl 2 A0 q0)])]⟩ (ids:=[(0,0),(1,1),(2,2),(3,3),(4,4),(900,900),(6000,6000),(7000,7000),(8000,8000),(9000,9000),(44000,44000)]) ?_;exact B3 Z Dz (a:=.tup []) (objs:=[(.cells [.p (vSl 2 A0 q0)]),.cells ((B7 q1).map .p),.cells [pN q2],.cells [pN q3],.yld [] false]) ⟨[],[(4,.yld [] false),(3,.cells [pN q3]),(2,.cells [pN q2]),(1,.cells ((B7 q1).map .p)),(0,.cells [.p (vSl 2 A0 q0)])]⟩ [0,1,2,3,4] (ids:=[(0,0),(1,1),(2,2),(3,3),(4,4)]) ⟨false,rfl,rfl,_,rfl⟩
   exact Bool.noConfusion (Hn.symm.trans c16)
  obtain rfl:=D0 h;exact B3 Z Dz (a:=.tup []) (objs:=[(.cells [.p (vSl 2 A0 q0)]),.cells ((B7 q1).map .p),.cells [pN q2],.cells [pN q3],.yld [] true]) ⟨[],[(4,.yld [] true),(3,.cells [pN q3]),(2,.cells [pN q2]),(1,.cells ((B7 q1).map .p)),(0,.cells [.p (vSl 2 A0 q0)])]⟩ [0,1,2,3,4] (ids:=[(0,0),(1,1),(2,2),(3,3),(4,4)]) ⟨true,rfl,rfl,_,rfl⟩
 apply kI Z h<;>intro h
 .refine NT Z Dz h (fun x5 x6 L6=>⟨[(10,pN x6),(6,.reg 7000 0),(5,.reg 6000 0),(4,.reg 3 0),(3,.reg 2 0),(2,.reg 1 0)],[(7000,.cells [.p (vSl 2 A0 x5)]),(6000,.cells [.yf 4]),(4,.yld (L6.map (fun (x:Int×(Sl A1))=>[pI .i64 x.1,vSl 2 A0 x.2])) true),(3,.cells [pN q3]),(2,.cells [pN q2]),(1,.cells ((B7 q1).map .p)),(0,.cells [.p (vSl 2 A0 q0)])]⟩) (ids:=[(0,0),(1,1),(2,2),(3,3),(4,4),(6000,6000),(7000,7000)]) (fun _ _ _ _ _ u x5 x6 L6 c h=>?_);apply kI Z h<;>intro h
  .refine kC Z h (Nk Z Y) (fun w h=>?_);apply kI Z h<;>intro h
   .exact c _ [(0,0),(1,1),(2,2),(3,3),(4,4),(6000,6000),(7000,7000)] _ x5 (wrap .i64 (x6+1)) L6 Dz h
   refine kC Z h (FV Z Y) (fun d h=>?_);obtain⟨L9,rfl,o⟩:=Jj h;replace h:=o;refine BH Z Dz (ys:=(fun (x:Int×(Sl A1))=>[pI .i64 x.1,vSl 2 A0 x.2]) (x6,d)) (rest:=L9.map (fun (x:Int×(Sl A1))=>[pI .i64 x.1,vSl 2 A0 x.2])) ?_ ?_
   .refine D9 Z Dz (b:=false) (fun c30=>?_) (fun c30=>?_)
    .exact Bool.noConfusion ((rfl:false=false).symm.trans c30)
    apply kI Z h<;>intro h
    .exact c _ [(0,0),(1,1),(2,2),(3,3),(4,4),(6000,6000),(7000,7000)] _ d (wrap .i64 ((wrap .i64 (x6+q3))+1)) L9 Dz h
    exact c _ [(0,0),(1,1),(2,2),(3,3),(4,4),(6000,6000),(7000,7000)] _ d (wrap .i64 (x6+q3)) L9 Dz h
   refine D9 Z Dz (b:=true) (fun c32=>?_) (fun c32=>?_)
   .exact B3 Z Dz (a:=.tup []) (objs:=[(.cells [.p (vSl 2 A0 q0)]),.cells ((B7 q1).map .p),.cells [pN q2],.cells [pN q3],.yld [] false]) ⟨[],[(4,.yld [] false),(3,.cells [pN q3]),(2,.cells [pN q2]),(1,.cells ((B7 q1).map .p)),(0,.cells [.p (vSl 2 A0 q0)])]⟩ [0,1,2,3,4] (ids:=[(0,0),(1,1),(2,2),(3,3),(4,4)]) ⟨false,rfl,rfl,_,rfl⟩
   exact Bool.noConfusion (Hn.symm.trans c32)
  obtain rfl:=D0 h;exact B3 Z Dz (a:=.tup []) (objs:=[(.cells [.p (vSl 2 A0 q0)]),.cells ((B7 q1).map .p),.cells [pN q2],.cells [pN q3],.yld [] true]) ⟨[],[(4,.yld [] true),(3,.cells [pN q3]),(2,.cells [pN q2]),(1,.cells ((B7 q1).map .p)),(0,.cells [.p (vSl 2 A0 q0)])]⟩ [0,1,2,3,4] (ids:=[(0,0),(1,1),(2,2),(3,3),(4,4)]) ⟨true,rfl,rfl,_,rfl⟩
 apply kI Z h<;>intro h
 .refine NT Z Dz h (fun x7 x8 L10=>⟨[(11,pN x8),(6,.reg 7000 0),(5,.reg 6000 0),(3,.reg 2 0),(2,.reg 1 0)],[(7000,.cells [.p (vSl 2 A0 x7)]),(6000,.cells [.yf 4]),(4,.yld (L10.map (fun (x:Int×(Sl A1))=>[pI .i64 x.1,vSl 2 A0 x.2])) true),(3,.cells [pN q3]),(2,.cells [pN q2]),(1,.cells ((B7 q1).map .p)),(0,.cells [.p (vSl 2 A0 q0)])]⟩) (ids:=[(0,0),(1,1),(2,2),(3,3),(4,4),(6000,6000),(7000,7000)]) (fun _ _ _ _ _ v x7 x8 L10 q h=>?_);apply kI Z h<;>intro h
  .refine kC Z h (Nk Z Y) (fun y h=>?_);apply kI Z h<;>intro h
   .exact q _ [(0,0),(1,1),(2,2),(3,3),(4,4),(6000,6000),(7000,7000)] _ x7 (wrap .i64 (x8-1)) L10 Dz h
   refine kC Z h (FV Z Y) (fun r h=>?_);obtain⟨L13,rfl,f⟩:=Jj h;replace h:=f;refine BH Z Dz (ys:=(fun (x:Int×(Sl A1))=>[pI .i64 x.1,vSl 2 A0 x.2]) (x8,r)) (rest:=L13.map (fun (x:Int×(Sl A1))=>[pI .i64 x.1,vSl 2 A0 x.2])) ?_ ?_
   .refine D9 Z Dz (b:=false) (fun c44=>?_) (fun c44=>?_)
    .exact Bool.noConfusion ((rfl:false=false).symm.trans c44)
    exact q _ [(0,0),(1,1),(2,2),(3,3),(4,4),(6000,6000),(7000,7000)] _ r (wrap .i64 (x8-(if q2<1 then 1 else q2))) L13 Dz h
   refine D9 Z Dz (b:=true) (fun c45=>?_) (fun c45=>?_)
   .exact B3 Z Dz (a:=.tup []) (objs:=[(.cells [.p (vSl 2 A0 q0)]),.cells ((B7 q1).map .p),.cells [pN q2],.cells [pN q3],.yld [] false]) ⟨[],[(4,.yld [] false),(3,.cells [pN q3]),(2,.cells [pN q2]),(1,.cells ((B7 q1).map .p)),(0,.cells [.p (vSl 2 A0 q0)])]⟩ [0,1,2,3,4] (ids:=[(0,0),(1,1),(2,2),(3,3),(4,4)]) ⟨false,rfl,rfl,_,rfl⟩
   exact Bool.noConfusion (Hn.symm.trans c45)
  obtain rfl:=D0 h;exact B3 Z Dz (a:=.tup []) (objs:=[(.cells [.p (vSl 2 A0 q0)]),.cells ((B7 q1).map .p),.cells [pN q2],.cells [pN q3],.yld [] true]) ⟨[],[(4,.yld [] true),(3,.cells [pN q3]),(2,.cells [pN q2]),(1,.cells ((B7 q1).map .p)),(0,.cells [.p (vSl 2 A0 q0)])]⟩ [0,1,2,3,4] (ids:=[(0,0),(1,1),(2,2),(3,3),(4,4)]) ⟨true,rfl,rfl,_,rfl⟩
 obtain rfl:=D0 h;exact B3 Z Dz (a:=.tup []) (objs:=[(.cells [.p (vSl 2 A0 q0)]),.cells ((B7 q1).map .p),.cells [pN q2],.cells [pN q3],.yld [] true]) ⟨[],[(4,.yld [] true),(3,.cells [pN q3]),(2,.cells [pN q2]),(1,.cells ((B7 q1).map .p)),(0,.cells [.p (vSl 2 A0 q0)])]⟩ [0,1,2,3,4] (ids:=[(0,0),(1,1),(2,2),(3,3),(4,4)]) ⟨true,rfl,rfl,_,rfl⟩
def IR (N:Nat)(a:Law)(b:Sl A1):Option ((Sl A1)×Law×Int×Int):= some (b,a,(a.If.n:Int),(a.Out.n:Int))
theorem RU {b:Law}{c:Sl A1}{y:(Sl A1)×Law×Int×Int}(h:IR N b c=some y) :FunO S MZ [.p (.agg (B7 b)),.p (vSl 2 A0 c)] [] (.clo Cz [] [.reg 0 0,.reg 1 0,.reg 2 0,.reg 3 0]) ([.cells [.p (vSl 2 A0 y.1)],.cells ((B7 y.2.1).map .p),.cells [pN y.2.2.1],.cells [pN y.2.2.2]]) []:=by unfold IR at h;refine A8 Z func175 ?_;refine N3 Z Dz [(1,.l [3000]),(2,.n),(4,.l [3000]),(5,.n),(6,.a [6000]),(7,.a [7000]),(8,.a [6000]),(9,.a [7000])] ?_;refine F6 Dz ?_;obtain rfl:=D0 h;exact B3 Z Dz ⟨[(4,.clo Cz [] [.reg 4000 0,.reg 3000 0,.reg 6000 0,.reg 7000 0])],[(7000,.cells [pN (b.Out.n:Int)]),(6000,.cells [pN (b.If.n:Int)]),(4000,.cells [.p (vSl 2 A0 c)]),(3000,.cells ((B7 b).map .p))]⟩ [4000,3000,6000,7000] (ids:=[(3000,3000),(4000,4000),(6000,6000),(7000,7000)]) ⟨rfl,rfl,rfl⟩
def EU (N:Nat)(b:Law)(c:Sl A1):Option ((Sl Int)×(Sl (Sl A1))×Int):= (ES N b c).bind fun y1=>if (y1 != 0) then some (Ho,(Sl.nil:Sl (Sl A1)),y1) else (IR N b c).bind fun y2=>(ET N y2.1 y2.2.1 y2.2.2.1 y2.2.2.2).bind fun L1=>Y5 L1 (fun a (x1:Int×(Sl A1)) (z1:(Sl Int)×(Sl (Sl A1)))=>if (decide (32<(x1.2.n:Int))) then some (Ho,(Sl.nil:Sl (Sl A1)),11) else if ((z1.1.n+(Sl.of [x1.1]:Sl Int).n)*8<=140737488355328/\z1.1.n+(Sl.of [x1.1]:Sl Int).n<=140737488355328)then if ((z1.2.n+(Sl.of [x1.2]:Sl (Sl A1)).n)*24<=140737488355328/\z1.2.n+(Sl.of [x1.2]:Sl (Sl A1)).n<=140737488355328)then a (z1.1.push x1.1,z1.2.push x1.2) else none else none) (fun (z1:(Sl Int)×(Sl (Sl A1)))=>some (z1.1,z1.2,0)) (Ho,(Sl.nil:Sl (Sl A1)))
theorem Ou {b:Law}{d:Sl A1}{y:(Sl Int)×(Sl (Sl A1))×Int}(h:EU N b d=some y) :FunO S IB [.p (.agg (B7 b)),.p (vSl 2 A0 d)] [] (.tup [.vec 0,.vec 1,pN y.2.2]) ([.vec D7 1 y.1.n (fun i=>cI .i64 (y.1.g i)) true,.vec O1 1 y.2.1.n (fun i=>cL 2 A0 (y.2.1.g i)) true]) []:=by
 unfold EU at h;refine A8 Z func167 ?_;refine H1 Z Dz 4 3000 (B7 b) ?_;obtain⟨y1,e1,h⟩:=B4 h;refine C6 Z [] Hm (Or Z Y e1) ?_;apply kI Z h<;>intro h
 .obtain rfl:=D0 h;exact B3 Z Dz ⟨[(6,.reg 7000 0),(5,.reg 6000 0),(4,.reg 5000 0)],[(7000,.cells [pN y1]),(6701,.vec O1 1 (Sl.nil:Sl (Sl A1)).n (fun i=>cL 2 A0 ((Sl.nil:Sl (Sl A1)).g i)) true),(6000,.cells [.vec 6701]),(5700,.vec D7 1 Ho.n (fun i=>cI .i64 (Ho.g i)) true),(5000,.cells [.vec 5700])]⟩ [5700,6701] (ids:=[(5000,5000),(6000,6000),(7000,7000)]) ⟨rfl,rfl,rfl⟩
 obtain⟨y2,e2,h⟩:=B4 h;refine C6 Z [] Hm (RU Z Y e2) ?_;obtain⟨L1,e3,h⟩:=B4 h;refine Cu Z Dz [21000,21001,21002,21003] [9,8,6,5,4] 901 (fun z1=>⟨[(9,.reg 10000 0),(8,.reg 9000 0),(6,.reg 7000 0),(5,.reg 6000 0),(4,.reg 5000 0)],[(10500,.vec O1 1 z1.2.n (fun i=>cL 2 A0 (z1.2.g i)) false),(10000,.cells [.vec 10500]),(9500,.vec D7 1 z1.1.n (fun i=>cI .i64 (z1.1.g i)) false),(9000,.cells [.vec 9500]),(7000,.cells [pN 0]),(6000,.cells [.p C0]),(5000,.cells [.p C0])]⟩) (idl:=[(5000,5000),(6000,6000),(7000,7000),(9000,9000),(10000,10000)]) h (Ot Z Y e3) (fun _=>by kernel_rfl) (fun _=>by kernel_rfl) (fun _=>by kernel_rfl) (fun _=>by kernel_rfl) (fun x1 _ f z1 j h=>?_) (fun z1 h=>?_)
 .refine Fx Z Dz ?_;apply kI Z h<;>intro h
  .refine Li Z Dz ⟨[(9,.reg 10000 0),(8,.reg 9000 0),(6,.reg 7000 0),(5,.reg 6000 0),(4,.reg 5000 0)],[(10500,.vec O1 1 z1.2.n (fun i=>cL 2 A0 (z1.2.g i)) false),(10000,.cells [.vec 10500]),(9500,.vec D7 1 z1.1.n (fun i=>cI .i64 (z1.1.g i)) false),(9000,.cells [.vec 9500]),(7000,.cells [pN 11]),(6000,.cells [.p C0]),(5000,.cells [.p C0])]⟩ (ids:=[(901,901),(5000,5000),(6000,6000),(7000,7000),(9000,9000),(9500,9500),(10000,10000),(10500,10500)]) ?_;obtain rfl:=D0 h;exact B3 Z Dz ⟨[(6,.reg 7000 0),(5,.reg 6000 0),(4,.reg 5000 0)],[(7000,.cells [pN 11]),(6701,.vec O1 1 (Sl.nil:Sl (Sl A1)).n (fun i=>cL 2 A0 ((Sl.nil:Sl (Sl A1)).g i)) true),(6000,.cells [.vec 6701]),(5700,.vec D7 1 Ho.n (fun i=>cI .i64 (Ho.g i)) true),(5000,.cells [.vec 5700])]⟩ [5700,6701] (ids:=[(5000,5000),(6000,6000),(7000,7000)]) ⟨rfl,rfl,rfl⟩
  refine N3 Z Dz [(0,.l [9000]),(3,.a [30000,9500]),(4,.l [10000]),(7,.a [34000,10500]),(8,.a [9000]),(9,.a [10000])] ?_;refine B6 Dz (x:=.sl true 1 1 (A9 [pI .i64 0] [(0,cI .i64 x1.1)])) ?_;obtain⟨c9,h⟩:=G7 h;refine B6 c9 (x:=.sl true 1 1 (A9 [C0] [(0,cL 2 A0 x1.2)])) ?_;obtain⟨c10,h⟩:=G7 h;refine F6 c10 ?_;exact j _ [(901,901),(5000,5000),(6000,6000),(7000,7000),(9000,9000),(9500,30000),(10000,10000),(10500,34000)] _ (z1.1.push x1.1,z1.2.push x1.2) Dz h (hle:=klR [(0,.fn (z1.2.n+1) (z1.2.push x1.2).n (AP z1.2.n (fun i=>cL 2 A0 (z1.2.g i)) (A9 [C0] [(0,cL 2 A0 x1.2)])) (fun i=>cL 2 A0 ((z1.2.push x1.2).g i))),(1,.fn (z1.1.n+1) (z1.1.push x1.1).n (AP z1.1.n (fun i=>cI .i64 (z1.1.g i)) (A9 [pI .i64 0] [(0,cI .i64 x1.1)])) (fun i=>cI .i64 ((z1.1.push x1.1).g i)))] (al1 ⟨rfl,NP (c:=cL 2 A0) (v:=z1.2) (x:=x1.2) (z:=[C0]) same rfl rfl⟩ (al1 ⟨rfl,NP (c:=cI .i64) (v:=z1.1) (x:=x1.1) (z:=[(pI .i64 0)]) same rfl rfl⟩ al0)))
 refine N3 Z Dz [(0,.l [9000]),(1,.l [10000]),(2,.a [5000]),(3,.a [6000]),(4,.a [7000])] ?_;refine F6 Dz ?_;obtain rfl:=D0 h;exact B3 Z Dz ⟨[(6,.reg 7000 0),(5,.reg 6000 0),(4,.reg 5000 0)],[(10500,.vec O1 1 z1.2.n (fun i=>cL 2 A0 (z1.2.g i)) true),(9500,.vec D7 1 z1.1.n (fun i=>cI .i64 (z1.1.g i)) true),(7000,.cells [pN 0]),(6000,.cells [.vec 10500]),(5000,.cells [.vec 9500])]⟩ [9500,10500] (ids:=[(5000,5000),(6000,6000),(7000,7000),(9500,9500),(10500,10500)]) ⟨rfl,rfl,rfl⟩
def EV (N:Nat)(b:Law)(a:Sl A1):Option ((Sl A1)×Int):= (EU N b a).bind fun y1=>if (y1.2.2 != 0) then some ((Sl.nil:Sl A1),y1.2.2) else if (decide (0<(y1.2.1.n:Int))) then if (((0:Int)<=(wrap .i64 ((y1.2.1.n:Int)-1))/\(wrap .i64 ((y1.2.1.n:Int)-1))<(y1.2.1.n:Int))/\(wrap .i64 ((y1.2.1.n:Int)-1)).toNat<y1.2.1.n)then some (y1.2.1.g (wrap .i64 ((y1.2.1.n:Int)-1)).toNat,0) else none else (D8 N a).bind fun y2=>some (y2,0)
theorem Ov {a:Law}{b:Sl A1}{y:(Sl A1)×Int}(h:EV N a b=some y) :FunO S IA [.p (.agg (B7 a)),.p (vSl 2 A0 b)] [] (.tup [.p (vSl 2 A0 y.1),pN y.2]) ([]) []:=by
 unfold EV at h;refine A8 Z func158 ?_;refine kC Z h (Ou Z Y) (fun y1 h=>?_);apply kI Z h<;>intro h
 .obtain rfl:=D0 h;exact B3 Z Dz ⟨[(5,pN y1.2.2),(4,.p (vSl 2 A0 (Sl.nil:Sl A1)))],[]⟩ [] (ids:=[]) ⟨rfl,rfl,rfl⟩
 apply kI Z h<;>intro h
 .obtain⟨c3,h⟩:=G7 h;obtain rfl:=D0 h;exact Th Z c3 [] ⟨rfl,rfl,rfl⟩
 refine kC Z h (K6 Z Y) (fun y2 h=>?_);obtain rfl:=D0 h;exact B3 Z Dz ⟨[(5,pN 0),(4,.p (vSl 2 A0 y2))],[]⟩ [] (ids:=[]) ⟨rfl,rfl,rfl⟩
end Go.AM
namespace Go.AM
open Go.Proofs.Tryz
variable {N:Nat}
open IntKind (wrap)
open Go.Proofs
set_option maxRecDepth 10000
set_option maxHeartbeats 2000000
variable {S:R7}(Z:F4 S Tryz.prog) (Y:HC S)
include Z Y
def Au (N:Nat)(a:Law):Option Bool:= (Bj N a).bind fun y1=>some (y1 != 0)
theorem Hr {a:Law}{y:Bool}(h:Au N a=some y) :FunO S Dc [.p (.agg (B7 a))] [] (pB y) ([]) []:=by unfold Au at h;refine A8 Z func143 ?_;refine kC Z h (ER Z Y) (fun y1 h=>?_);cases h;exact kR Z
def G1 (N:Nat)(a:Sl Law)(c:Law->Option Bool):Option Int:= Cn N (fun b (x1:Int)=>if (decide (x1<(a.n:Int))) then if ((0:Int)<=x1/\x1<(a.n:Int))then (c (a.g x1.toNat)).bind fun y3=>if y3 then some x1 else b (wrap .i64 (x1+1)) else none else some (-1)) 0
theorem U5 {a:Sl Law}{c:Law->Option Bool}{kp_f:Nat}(d:∀{a0:Law}{b:Bool},c a0=some b->FunO S kp_f [.p (.agg (B7 a0))] [] (pB b) [] []){y:Int}(h:G1 N a c=some y) :FunO S K5 [.p (vSl 18 B7 a),.clo kp_f [] []] [] (pN y) ([]) []:=by
 unfold G1 at h;refine A8 Z func156 ?_;refine S0 Z Dz h (fun x1=>⟨[(8,pN x1),(7,pN (a.n:Int)),(1,.clo kp_f [] []),(0,.p (vSl 18 B7 a))],[]⟩) (ids:=[]) (fun _ _ _ _ _ f x1 g h=>?_);apply kI Z h<;>intro h
 .obtain⟨c8,h⟩:=G7 h;obtain⟨y3,e3,h⟩:=B4 h;refine C6 Z [] (And.intro c8 Hm) (d e3) ?_;apply kI Z h<;>intro h
  .cases h;exact kR Z
  exact g _ [] _ (wrap .i64 (x1+1)) Dz h
 cases h;exact kR Z
def E9 (N:Nat)(a:Sl Law)(b:Law->Option Bool):Option Bool:= (G1 N a b).bind fun y1=>some (decide (0<=y1))
theorem R6 {a:Sl Law}{c:Law->Option Bool}{kp_f:Nat}(d:∀{a0:Law}{b:Bool},c a0=some b->FunO S kp_f [.p (.agg (B7 a0))] [] (pB b) [] []){y:Bool}(h:E9 N a c=some y) :FunO S I3 [.p (vSl 18 B7 a),.clo kp_f [] []] [] (pB y) ([]) []:=by unfold E9 at h;refine A8 Z func142 ?_;refine kC Z h (U5 Z Y (fun e=>d e)) (fun y1 h=>?_);cases h;exact kR Z
def BQ (N:Nat)(a:Sl Law):Option Int:= if (decide (64<(a.n:Int))) then some 12 else (E9 N a (fun (u1:Law)=>Au N u1)).bind fun y1=>if y1 then some 17 else some 0
theorem JG {a:Sl Law}{y:Int}(h:BQ N a=some y) :FunO S Es [.p (vSl 18 B7 a)] [] (pN y) ([]) []:=by
 unfold BQ at h;refine A8 Z func122 ?_;apply kI Z h<;>intro h
 .cases h;exact kR Z
 refine kC Z h (R6 Z Y (fun e=>Hr Z Y e)) (fun y1 h=>?_);apply kI Z h<;>intro h
 .cases h;exact kR Z
 cases h;exact kR Z
def BR (N:Nat)(b:Sl Law)(a:Sl (Sl A1)):Option Int:= (BQ N b).bind fun y1=>if (y1 != 0) then some y1 else if (decide (256<(a.n:Int))) then some 12 else Cn N (fun c (x1:Int)=>if (decide (x1<(a.n:Int))) then if ((0:Int)<=x1/\x1<(a.n:Int))then (W7 N (a.g x1.toNat)).bind fun y4=>if (y4 != 0) then some y4 else c (wrap .i64 (x1+1)) else none else some 0) 0
theorem JH {b:Sl Law}{a:Sl (Sl A1)}{y:Int}(h:BR N b a=some y) :FunO S Er [.p (vSl 18 B7 b),.p (vSl 1 (cL 2 A0) a)] [] (pN y) ([]) []:=by
 unfold BR at h;refine A8 Z func99 ?_;refine kC Z h (JG Z Y) (fun y1 h=>?_);apply kI Z h<;>intro h
 .cases h;exact kR Z
 apply kI Z h<;>intro h
 .cases h;exact kR Z
 refine S0 Z Dz h (fun x1=>⟨[(19,pN x1),(18,pN (a.n:Int)),(17,.p (vSl 1 (cL 2 A0) a))],[]⟩) (ids:=[]) (fun _ _ _ _ _ c x1 d h=>?_);apply kI Z h<;>intro h
 .obtain⟨c10,h⟩:=G7 h;obtain⟨y4,e4,h⟩:=B4 h;refine C6 Z [] c10 (Bw Z Y e4) ?_;apply kI Z h<;>intro h
  .cases h;exact kR Z
  exact d _ [] _ (wrap .i64 (x1+1)) Dz h
 cases h;exact kR Z
end Go.AM
namespace Go.AM
open Go.Proofs.Tryz
variable {N:Nat}
open IntKind (wrap)
open Go.Proofs
set_option maxRecDepth 10000
set_option maxHeartbeats 2000000
variable {S:R7}(Z:F4 S Tryz.prog) (Y:HC S)
include Z Y
def Tx (c:Int):Option PV:=if c=0 then none else some (.iface 181 (pI .i64 c))
def Av (N:Nat)(c:Int)(q0:Sl A1)(q1:Sl Law):Option (List (Int×(Sl A1))):= (D8 N q0).bind fun y1=>Hi (0,y1) (Ft N (fun a (x1:Sl A1) (x2:Int)=>if (decide (x2<(q1.n:Int))) then if ((0:Int)<=x2/\x2<(q1.n:Int))then (EV N (q1.g x2.toNat) x1).bind fun y4=>if (y4.2 != 0) then if y4.2=c then some []else none else Hi (wrap .i64 (x2+1),y4.1) (a y4.1 (wrap .i64 (x2+1))) else none else if c=0 then some []else none) y1 0)
theorem De {q0:Sl A1}{q1:Sl Law}{c:Int}{L:List (Int×(Sl A1))}(h:Av N c q0 q1=some L) :Il S N1 [] [.reg 0 0,.reg 1 0] [.cells [.p (vSl 2 A0 q0)],.cells [.p (vSl 18 B7 q1)]] (L.map (fun (x:Int×(Sl A1))=>[pI .i64 x.1,vSl 2 A0 x.2])) (Tx c):=by
 unfold Av at h;refine RE Z func157 ?_;refine kC Z h (K6 Z Y) (fun y1 h=>?_);obtain⟨L1,rfl,d⟩:=Jj h;replace h:=d;refine BH Z Dz (ys:=(fun (x:Int×(Sl A1))=>[pI .i64 x.1,vSl 2 A0 x.2]) (0,y1)) (rest:=L1.map (fun (x:Int×(Sl A1))=>[pI .i64 x.1,vSl 2 A0 x.2])) ?_ ?_
 .refine D9 Z Dz (b:=false) (fun c1=>?_) (fun c1=>?_)
  .exact Bool.noConfusion ((rfl:false=false).symm.trans c1)
  refine NT Z Dz h (fun x1 x2 L2=>⟨[(17,pN x2),(16,pN (q1.n:Int)),(15,.p (vSl 18 B7 q1)),(4,.p (vSl 2 A0 x1)),(0,.yf 2)],[(2,.yld (L2.map (fun (x:Int×(Sl A1))=>[pI .i64 x.1,vSl 2 A0 x.2])) true),(1,.cells [.p (vSl 18 B7 q1)]),(0,.cells [.p (vSl 2 A0 q0)])]⟩) (ids:=[(0,0),(1,1),(2,2)]) (fun _ _ _ _ _ g x1 x2 L2 i h=>?_);apply kI Z h<;>intro h
  .obtain⟨c13,h⟩:=G7 h;obtain⟨y4,e4,h⟩:=B4 h;refine C6 Z [] (And.intro c13 Hm) (Ov Z Y e4) ?_;refine D9 Z Dz (b:=y4.2 != 0) (fun c14=>?_) (fun c14=>?_)
   .replace h:=itT c14 h;obtain⟨c0,h⟩:=G7 h;obtain rfl:=D0 h;have j:Tx c=some (.iface 181 (pI .i64 y4.2)):=by
     have:¬y4.2=0:=by simpa using c14
     rw[<- c0];simp[Tx,this]
    refine Ve Z Dz (x:=.iface 181 (pI .i64 y4.2)) ?_;exact TZ Z Dz (x:=.iface 181 (pI .i64 y4.2)) (objs:=[(.cells [.p (vSl 2 A0 q0)]),.cells [.p (vSl 18 B7 q1)],.yld [] true]) [0,1,2] ⟨true,rfl,rfl,fun _=>by rw[j];rfl,fun e=>nomatch e⟩
   replace h:=itF c14 h;obtain⟨L5,rfl,f⟩:=Jj h;replace h:=f;refine BH Z Dz (ys:=(fun (x:Int×(Sl A1))=>[pI .i64 x.1,vSl 2 A0 x.2]) (wrap .i64 (x2+1),y4.1)) (rest:=L5.map (fun (x:Int×(Sl A1))=>[pI .i64 x.1,vSl 2 A0 x.2])) ?_ ?_
   .refine D9 Z Dz (b:=false) (fun c15=>?_) (fun c15=>?_)
    .exact Bool.noConfusion ((rfl:false=false).symm.trans c15)
    exact i _ [(0,0),(1,1),(2,2)] _ y4.1 (wrap .i64 (x2+1)) L5 Dz h
   refine D9 Z Dz (b:=true) (fun c16=>?_) (fun c16=>?_)
   .exact B3 Z Dz (a:=.tup []) (objs:=[(.cells [.p (vSl 2 A0 q0)]),.cells [.p (vSl 18 B7 q1)],.yld [] false]) ⟨[],[(2,.yld [] false),(1,.cells [.p (vSl 18 B7 q1)]),(0,.cells [.p (vSl 2 A0 q0)])]⟩ [0,1,2] (ids:=[(0,0),(1,1),(2,2)]) ⟨false,rfl,rfl,fun e=>(nomatch e),fun _=>⟨_,rfl⟩⟩
   exact Bool.noConfusion (Hn.symm.trans c16)
  obtain⟨c0,h⟩:=G7 h;obtain rfl:=D0 h;exact B3 Z Dz (a:=.tup []) (objs:=[(.cells [.p (vSl 2 A0 q0)]),.cells [.p (vSl 18 B7 q1)],.yld [] true]) ⟨[],[(2,.yld [] true),(1,.cells [.p (vSl 18 B7 q1)]),(0,.cells [.p (vSl 2 A0 q0)])]⟩ [0,1,2] (ids:=[(0,0),(1,1),(2,2)]) ⟨true,rfl,rfl,fun _=>by subst c0;exact⟨_,rfl⟩,fun e=>(nomatch e)⟩
 refine D9 Z Dz (b:=true) (fun c17=>?_) (fun c17=>?_)
 .exact B3 Z Dz (a:=.tup []) (objs:=[(.cells [.p (vSl 2 A0 q0)]),.cells [.p (vSl 18 B7 q1)],.yld [] false]) ⟨[],[(2,.yld [] false),(1,.cells [.p (vSl 18 B7 q1)]),(0,.cells [.p (vSl 2 A0 q0)])]⟩ [0,1,2] (ids:=[(0,0),(1,1),(2,2)]) ⟨false,rfl,rfl,fun e=>(nomatch e),fun _=>⟨_,rfl⟩⟩
 exact Bool.noConfusion (Hn.symm.trans c17)
def BS (N:Nat)(a:Sl Law)(b:Sl A1):Option ((Sl A1)×(Sl Law)):= some (b,a)
theorem Ey {a:Sl Law}{b:Sl A1}{y:(Sl A1)×(Sl Law)}(h:BS N a b=some y) :FunO S Eu [.p (vSl 18 B7 a),.p (vSl 2 A0 b)] [] (.clo N1 [] [.reg 0 0,.reg 1 0]) ([.cells [.p (vSl 2 A0 y.1)],.cells [.p (vSl 18 B7 y.2)]]) []:=by unfold BS at h;refine A8 Z func144 ?_;obtain rfl:=D0 h;exact B3 Z Dz ⟨[(4,.clo N1 [] [.reg 4000 0,.reg 3000 0])],[(4000,.cells [.p (vSl 2 A0 b)]),(3000,.cells [.p (vSl 18 B7 a)])]⟩ [4000,3000] (ids:=[(3000,3000),(4000,4000)]) ⟨rfl,rfl,rfl⟩
def J9 (N:Nat)(c:Int)(a:Sl Law)(d:Sl A1):Option (Sl A1):= (BS N a d).bind fun y1=>(Av N c y1.1 y1.2).bind fun L1=>Y5 L1 (fun b (x1:Int×(Sl A1)) (z1:Sl A1)=>b x1.2) (fun (z1:Sl A1)=>some z1) (Sl.nil:Sl A1)
theorem Gz {a:Sl Law}{b:Sl A1}{y:Sl A1}(h:J9 N 0 a b=some y) :FunO S G5 [.p (vSl 18 B7 a),.p (vSl 2 A0 b)] [] (.p (vSl 2 A0 y)) ([]) []:=by
 unfold J9 at h;refine A8 Z func125 ?_;refine kC Z h (Ey Z Y) (fun y1 h=>?_);obtain⟨L1,e2,h⟩:=B4 h;have f:Il S N1 [] [.reg 0 0,.reg 1 0] [.cells [.p (vSl 2 A0 y1.1)],.cells [.p (vSl 18 B7 y1.2)]] (L1.map (fun (x:Int×(Sl A1))=>[pI .i64 x.1,vSl 2 A0 x.2])) none:=De Z Y e2;refine Pv Z Dz [8000,8001] [4] 901 (fun z1=>⟨[(4,.reg 5000 0)],[(5000,.cells [.p (vSl 2 A0 z1)])]⟩) (idl:=[(5000,5000)]) h f (fun _=>by kernel_rfl) (fun _=>by kernel_rfl) (fun _=>by kernel_rfl) (fun _=>by kernel_rfl) (fun x1 _ c z1 d h=>?_) (fun z1 h=>?_)
 .refine Fx Z Dz ?_;exact d _ [(901,901),(5000,5000)] _ x1.2 Dz h
 cases h;exact kR Z
theorem GA {c:Int}{a:Sl Law}{b:Sl A1}{y:Sl A1}(hc:c≠0)(h:J9 N c a b=some y) :S.F G5 [.p (vSl 18 B7 a),.p (vSl 2 A0 b)] [] fun res o k=>res=.panic (.iface 181 (pI .i64 c))/\o=[]/\k=[]:=by
 unfold J9 at h;refine Tt Z func125 ?_;refine kC Z h (Ey Z Y) (fun y1 h=>?_);obtain⟨L1,e2,h⟩:=B4 h;have g:Il S N1 [] [.reg 0 0,.reg 1 0] [.cells [.p (vSl 2 A0 y1.1)],.cells [.p (vSl 18 B7 y1.2)]] (L1.map (fun (x:Int×(Sl A1))=>[pI .i64 x.1,vSl 2 A0 x.2])) (some (.iface 181 (pI .i64 c))):=by
  have:=De Z Y e2
  simpa[Tx,hc]using this
 refine Pv Z Dz [8000,8001] [4] 901 (fun z1=>⟨[(4,.reg 5000 0)],[(5000,.cells [.p (vSl 2 A0 z1)])]⟩) (idl:=[(5000,5000)]) h g (fun _=>by kernel_rfl) (fun _=>by kernel_rfl) (fun _=>by kernel_rfl) (fun _=>by kernel_rfl) (fun x1 _ d z1 f h=>?_) (fun z1 h=>?_)
 .refine Fx Z Dz ?_;exact f _ [(901,901),(5000,5000)] _ x1.2 Dz h
 exact TZ Z Dz (x:=.iface 181 (pI .i64 c)) (objs:=[]) [] ⟨rfl,rfl,rfl⟩
def Aw (N:Nat)(a:Sl Law)(b:Sl A1):Option ((Sl A1)×Bool):=
 match J9 N 0 a b with
 |some y=>some (y,true)
 |none=>(J9 N 11 a b).bind fun _=>some ((Sl.nil:Sl A1),false)
theorem Hs {b:Sl Law}{c:Sl A1}{y:(Sl A1)×Bool}(h:Aw N b c=some y) :FunO S Da [.p (vSl 18 B7 b),.p (vSl 2 A0 c)] [] (.tup [.p (vSl 2 A0 y.1),pB y.2]) ([]) []:=by
 unfold Aw at h;refine A8 Z func100 ?_;rcases e:J9 N 0 b c with _|z
 .rw[e]at h;obtain⟨z,e1,h⟩:=B4 h;obtain rfl:=D0 h;refine C6 Z [7000,3000,4000,5000] Dz (Y.attP (GA Z Y (by decide) e1)) ?_;refine N3 Z Dz [(0,.l [5000]),(1,.l [7000]),(3,.a [5000])] ?_;refine F6 Dz ?_;exact B3 Z Dz ⟨[(5,pB false),(4,.reg 5000 0)],[(5000,.cells [.p (vSl 2 A0 Sl.nil)])]⟩ [] (ids:=[(5000,5000)]) ⟨rfl,rfl,rfl⟩
 rw[e]at h;obtain rfl:=D0 h;refine C6 Z [7000,3000,4000,5000] Dz (Y.attR (Gz Z Y e)) ?_;refine N3 Z Dz [(0,.l [5000]),(1,.l [7000]),(3,.a [5000])] ?_;refine F6 Dz ?_;exact B3 Z Dz ⟨[(5,pB true),(4,.reg 5000 0)],[(5000,.cells [.p (vSl 2 A0 z)])]⟩ [] (ids:=[(5000,5000)]) ⟨rfl,rfl,rfl⟩
end Go.AM
namespace Go.AM
open Go.Proofs
set_option maxRecDepth 10000
set_option maxHeartbeats 2000000
variable {S:R7}(Z:F4 S Tryz.prog) (Y:HC S)
include Z Y
def Bk (N:Nat)(a:Sl Law)(b:Sl A1):Option ((Sl A1)×Int):= (BR N a (Sl.of [b]:Sl (Sl A1))).bind fun y1=>if (y1 != 0) then some ((Sl.nil:Sl A1),y1) else (Aw N a b).bind fun y2=>if (!y2.2) then some ((Sl.nil:Sl A1),11) else some (y2.1,0)
theorem IS {N:Nat}{a:Sl Law}{b:Sl A1}{y:(Sl A1)×Int}(h:Bk N a b=some y) :FunO S Dw [.p (vSl 18 B7 a),.p (vSl 2 A0 b)] [] (.tup [.p (vSl 2 A0 y.1),pN y.2]) ([]) []:=by
 unfold Bk at h;refine A8 Z Tryz.func72 ?_;refine O2 Z Hn ⟨[(11,.vec 12000),(9,.p (vSl 18 B7 a)),(1,.p (vSl 2 A0 b)),(0,.p (vSl 18 B7 a))],[(12000,.vec O1 1 (Sl.of [b]:Sl (Sl A1)).n (fun i=>cL 2 A0 ((Sl.of [b]:Sl (Sl A1)).g i)) false)]⟩ (ids:=[(12000,12000)]) ?_ (hle:=klR [(3,.fn 1 (Sl.of [b]:Sl (Sl A1)).n (A9 [C0] [(0,cL 2 A0 b)]) (fun i=>cL 2 A0 ((Sl.of [b]:Sl (Sl A1)).g i)))] (al1 ⟨rfl,(fun i c=>match i,c with|0,_=>rfl|_+1,c=>Bs c (by omega))⟩ al0));refine kC Z h (JH Z Y) (fun y1 h=>?_);apply kI Z h<;>intro h
 .obtain rfl:=D0 h;exact B3 Z Dz ⟨[(5,pN y1),(4,.p (vSl 2 A0 (Sl.nil:Sl A1)))],[]⟩ [] (ids:=[]) ⟨rfl,rfl,rfl⟩
 refine kC Z h (Hs Z Y) (fun y2 h=>?_);apply kI Z h<;>intro h
 .obtain rfl:=D0 h;exact B3 Z Dz ⟨[(5,pN 11),(4,.p (vSl 2 A0 (Sl.nil:Sl A1)))],[]⟩ [] (ids:=[]) ⟨rfl,rfl,rfl⟩
 cases h;exact kR Z
end Go.AM
namespace Go.AM
open Go.Proofs.Tryz
variable {N:Nat}
open IntKind (wrap)
open Go.Proofs
set_option maxRecDepth 10000
set_option maxHeartbeats 2000000
variable {S:R7}(Z:F4 S Tryz.prog) (Y:HC S)
include Z Y
def CN (N:Nat)(a:Int):Option Bool:= some (((((decide (97<=a))&&(decide (a<=122)))||((decide (65<=a))&&(decide (a<=90))))||((decide (48<=a))&&(decide (a<=57))))||(a==45))
theorem LN {b:Int}{y:Bool}(h:CN N b=some y) :FunO S FL [.p (pI .u8 b)] [] (pB y) ([]) []:=by unfold CN at h;refine A8 Z func121 ?_;refine kB Z (B9 Z) Dz Dz 23 (.o (.o (.o (.n (.a (decide (97<=b))) (.a (decide (b<=122)))) (.n (.a (decide (65<=b))) (.a (decide (b<=90))))) (.n (.a (decide (48<=b))) (.a (decide (b<=57))))) (.a (b==45))) ?_;cases h;exact kR Z
def DL (N:Nat)(a:Str):Option Bool:= Cn N (fun b (x1:Int)=>if (decide (x1<(a.length:Int))) then if ((0:Int)<=x1/\x1<(a.length:Int))then (CN N (GP a x1)).bind fun y3=>if (!y3) then some false else b (wrap .i64 (x1+1)) else none else some ((decide (0<(a.length:Int)))&&(decide ((a.length:Int)<=24)))) 0
theorem Nl {b:Str}{y:Bool}(h:DL N b=some y) :FunO S GW [.p (.str b)] [] (pB y) ([]) []:=by
 unfold DL at h;refine A8 Z func96 ?_;refine S0 Z Dz h (fun x1=>⟨[(6,pN x1),(5,pN (b.length:Int)),(0,.p (.str b))],[]⟩) (ids:=[]) (fun _ _ _ _ _ c x1 d h=>?_);apply kI Z h<;>intro h
 .obtain⟨c8,h⟩:=G7 h;obtain⟨y3,e3,h⟩:=B4 h;refine C6 Z [] c8 (LN Z Y e3) ?_;apply kI Z h<;>intro h
  .cases h;exact kR Z
  exact d _ [] _ (wrap .i64 (x1+1)) Dz h
 refine kB Z (B9 Z) Dz Dz 4 (.n (.a (decide (0<(b.length:Int)))) (.a (decide ((b.length:Int)<=24)))) ?_;cases h;exact kR Z
def X0 (N:Nat)(a:Sl Q4):Option Int:= if (((a.n:Int)==0)||(decide (63<(a.n:Int)))) then some 16 else Ft N (fun b (x2:List (Str×Bool)) (x3:Int)=>if (decide (x3<(a.n:Int))) then if ((0:Int)<=x3/\x3<(a.n:Int))then lt (fun (z3:Bool)=>if z3 then some 16 else b (Nq eqS (a.g x3.toNat).Name true x2) (wrap .i64 (x3+1))) fun k3=>if (decide (x3<=(a.g x3.toNat).Parent)) then k3 true else if (decide ((a.g x3.toNat).Parent<(if 0<(wrap .i64 (x3-1))then 0 else (wrap .i64 (x3-1))))) then k3 true else (DL N (a.g x3.toNat).Name).bind fun y6=>if (!y6) then k3 true else VC (Hh eqS (a.g x3.toNat).Name x2) (k3 false) fun v6=>k3 v6 else none else some 0) [] 0
theorem BB {c:Sl Q4}{y:Int}(h:X0 N c=some y) :FunO S GT [.p (vSl 2 H4 c)] [] (pN y) ([]) []:=by
 unfold X0 at h;refine A8 Z func65 ?_;refine kB Z (B9 Z) Dz Dz 4 (.o (.a ((c.n:Int)==0)) (.a (decide (63<(c.n:Int))))) ?_;apply kI Z h<;>intro h
 .cases h;exact kR Z
 refine Q7 Z Dz h (fun x2 x3=>⟨[(17,pN x3),(16,pN (c.n:Int)),(15,.p (vSl 2 H4 c)),(3,.mref 15000)],[(15000,.map (Gt PV.str PV.bb x2))]⟩) (ids:=[(15000,15000)]) (fun _ _ _ _ _ f x2 x3 i h=>?_);apply kI Z h<;>intro h
 .obtain⟨c25,h⟩:=G7 h;refine Ja Z (And.intro c25 Gx) (B9 Z) h 0 (fun z3=>⟨[(45,pB z3),(17,pN x3),(16,pN (c.n:Int)),(15,.p (vSl 2 H4 c)),(5,.reg 6000 0),(3,.mref 15000)],[(15000,.map (Gt PV.str PV.bb x2)),(6000,.cells [pN (c.g x3.toNat).Parent,.p (.str (c.g x3.toNat).Name)])]⟩) (fun M3 k3 d h=>?_) (fun z3 h=>?_)
  .refine kG Z h (fun h=>?_) (fun h=>?_)
   .exact d _ [(6000,6000),(15000,15000)] _ true Dz h
   refine kG Z h (fun h=>?_) (fun h=>?_)
   .exact d _ [(6000,6000),(15000,15000)] _ true Dz h
   refine kC Z h (Nl Z Y) (fun y6 h=>?_);refine kG Z h (fun h=>?_) (fun h=>?_)
   .exact d _ [(6000,6000),(15000,15000)] _ true Dz h
   rcases o6:Hh eqS (c.g x3.toNat).Name x2 with _|v6
   .replace h:=WZ o6 h;refine DU Z Dz (kt:=Ac) (e:=Px) (key:=PV.str (c.g x3.toNat).Name) (es:=Gt PV.str PV.bb x2) (x:=.v (.bool false)) (b:=false) (fd:=none) ((X8 (kP:=PV.str) (vP:=PV.bb) (eq:=eqS) (fun _ _=>by kernel_rfl) (c.g x3.toNat).Name x2).trans (by rw[o6];rfl)) Dz ?_;exact d _ [(6000,6000),(15000,15000)] _ false Dz h
   replace h:=Xa o6 h;refine DU Z Dz (kt:=Ac) (e:=Px) (key:=PV.str (c.g x3.toNat).Name) (es:=Gt PV.str PV.bb x2) (x:=PV.bb v6) (b:=true) (fd:=some (PV.bb v6)) ((X8 (kP:=PV.str) (vP:=PV.bb) (eq:=eqS) (fun _ _=>by kernel_rfl) (c.g x3.toNat).Name x2).trans (by rw[o6];rfl)) Dz ?_;exact d _ [(6000,6000),(15000,15000)] _ v6 Dz h
  apply kI Z h<;>intro h
  .cases h;exact kR Z
  refine HA Z Dz (kt:=Ac) (key:=PV.str (c.g x3.toNat).Name) (y:=PV.bb true) (es:=Gt PV.str PV.bb x2) (DT (kP:=PV.str) (vP:=PV.bb) (eq:=eqS) (fun _ _=>by kernel_rfl) (c.g x3.toNat).Name true x2) Dz ?_;exact i _ [(15000,15000)] _ (Nq eqS (c.g x3.toNat).Name true x2) (wrap .i64 (x3+1)) Dz h
 cases h;exact kR Z
def Bl (N:Nat)(a:G9):Option Int:= if ((0:Int)<=(a.On.n:Int)/\(a.On.n:Int)<=(a.On.n:Int)/\(a.On.n:Int)*8<=140737488355328/\(a.On.n:Int)<=140737488355328)then UI N (fun c (x4:Sl Int) (x5:Bool) (x6:Int)=>if (decide (x6<(a.On.n:Int))) then if ((((0:Int)<=x6/\x6<(a.On.n:Int))/\((0:Int)<=x6/\x6<(x4.n:Int)))/\x6.toNat<x4.n)then if ((0:Int)<=x6/\x6<(a.Tree.n:Int))then lt (fun (z3:Sl Int)=>if (((0:Int)<=x6/\x6<(z3.n:Int))/\x6.toNat<z3.n)then if (decide (64<(z3.g x6.toNat))) then some 2 else Ft N (fun d (f:Bool) (b:Int)=>if (decide (b<((a.On.g x6.toNat).n:Int))) then if ((0:Int)<=b/\b<((a.On.g x6.toNat).n:Int))then d ((f||(decide (((a.On.g x6.toNat).g b.toNat)<0)))||(decide ((a.Laws.n:Int)<=((a.On.g x6.toNat).g b.toNat)))) (wrap .i64 (b+1)) else none else c z3 f (wrap .i64 (x6+1))) x5 0 else none) fun k3=>if (decide (0<=(a.Tree.g x6.toNat).Parent)) then if (((((((0:Int)<=x6/\x6<((x4.upd x6.toNat ((a.On.g x6.toNat).n:Int)).n:Int))/\x6.toNat<(x4.upd x6.toNat ((a.On.g x6.toNat).n:Int)).n)/\((0:Int)<=(a.Tree.g x6.toNat).Parent/\(a.Tree.g x6.toNat).Parent<((x4.upd x6.toNat ((a.On.g x6.toNat).n:Int)).n:Int)))/\(a.Tree.g x6.toNat).Parent.toNat<(x4.upd x6.toNat ((a.On.g x6.toNat).n:Int)).n)/\((0:Int)<=x6/\x6<((x4.upd x6.toNat ((a.On.g x6.toNat).n:Int)).n:Int)))/\x6.toNat<(x4.upd x6.toNat ((a.On.g x6.toNat).n:Int)).n)then k3 ((x4.upd x6.toNat ((a.On.g x6.toNat).n:Int)).upd x6.toNat (wrap .i64 (((x4.upd x6.toNat ((a.On.g x6.toNat).n:Int)).g x6.toNat)+((x4.upd x6.toNat ((a.On.g x6.toNat).n:Int)).g (a.Tree.g x6.toNat).Parent.toNat)))) else none else k3 (x4.upd x6.toNat ((a.On.g x6.toNat).n:Int)) else none else none else if x5 then some 3 else some 0) (Sl.rep (a.On.n:Int).toNat 0:Sl Int) false 0 else none
theorem IT {d:G9}{y:Int}(h:Bl N d=some y) :FunO S Dx [.p (.agg (B0 d))] [] (pN y) ([]) []:=by
 unfold Bl at h;refine A8 Z func76 ?_;refine H1 Z Dz 2 2000 (B0 d) ?_;obtain⟨c1,h⟩:=G7 h;refine Km Z c1 h (fun x4 x5 x6=>⟨[(17,pN x6),(16,pN (d.On.n:Int)),(15,.p (vSl 1 (cL 1 (cI .i64)) d.On)),(4,pB x5),(3,.vec 14000),(1,.p (.ptr (B0 d)))],[(14000,.vec D7 1 x4.n (fun i=>cI .i64 (x4.g i)) false)]⟩) (ids:=[(14000,14000)]) (fun _ _ _ _ _ q x4 x5 x6 r h=>?_);apply kI Z h<;>intro h
 .obtain⟨c35,h⟩:=G7 h;refine Aq Z (And.intro (And.intro c35.1.1 c35.1.2) (And.intro (rfl:(1:Nat)=1) (And.intro c35.2 Gv))) 27 ⟨[(17,pN x6),(16,pN (d.On.n:Int)),(15,.p (vSl 1 (cL 1 (cI .i64)) d.On)),(6,.p (vSl 1 (cI .i64) (d.On.g x6.toNat))),(5,pN x6),(4,pB x5),(3,.vec 14000),(1,.p (.ptr (B0 d)))],[(14000,.vec D7 1 (x4.upd x6.toNat ((d.On.g x6.toNat).n:Int)).n (fun i=>cI .i64 ((x4.upd x6.toNat ((d.On.g x6.toNat).n:Int)).g i)) false)]⟩ (ids:=[(14000,14000)]) ?_ (hle:=klR [(7,.fn x4.n (x4.upd x6.toNat ((d.On.g x6.toNat).n:Int)).n (fun l=>if l=x6.toNat then splice ((fun i=>cI .i64 (x4.g i)) l) 0 [pI .i64 ((d.On.g x6.toNat).n:Int)]else (fun i=>cI .i64 (x4.g i)) l) (fun i=>cI .i64 ((x4.upd x6.toNat ((d.On.g x6.toNat).n:Int)).g i)))] (al1 ⟨rfl,Wg (c:=cI .i64) (v:=x4) (x:=((d.On.g x6.toNat).n:Int)) same (fun _=>by first|rfl|(dsimp only;split<;>rfl))⟩ al0));obtain⟨c36,h⟩:=G7 h;refine Ja Z c36 (B9 Z) h 0 (fun z3=>⟨[(17,pN x6),(16,pN (d.On.n:Int)),(15,.p (vSl 1 (cL 1 (cI .i64)) d.On)),(6,.p (vSl 1 (cI .i64) (d.On.g x6.toNat))),(5,pN x6),(4,pB x5),(3,.vec 14000),(1,.p (.ptr (B0 d)))],[(14000,.vec D7 1 z3.n (fun i=>cI .i64 (z3.g i)) false)]⟩) (fun M3 k3 m h=>?_) (fun z3 h=>?_)
  .apply kI Z h<;>intro h
   .refine BG Z Dz ?_;obtain⟨c41,h⟩:=G7 h;refine F6 (And.intro (And.intro (And.intro (And.intro (And.intro c41.1.1.1.1.1 c41.1.1.1.1.2) c41.1.1.1.2) c41.1.1.2) c41.1.2) (And.intro (rfl:(1:Nat)=1) (And.intro c41.2 Gv))) ?_;exact m _ [(14000,14000)] _ ((x4.upd x6.toNat ((d.On.g x6.toNat).n:Int)).upd x6.toNat (wrap .i64 (((x4.upd x6.toNat ((d.On.g x6.toNat).n:Int)).g x6.toNat)+((x4.upd x6.toNat ((d.On.g x6.toNat).n:Int)).g (d.Tree.g x6.toNat).Parent.toNat)))) Dz h (hle:=klR [(7,.fn (x4.upd x6.toNat ((d.On.g x6.toNat).n:Int)).n ((x4.upd x6.toNat ((d.On.g x6.toNat).n:Int)).upd x6.toNat (wrap .i64 (((x4.upd x6.toNat ((d.On.g x6.toNat).n:Int)).g x6.toNat)+((x4.upd x6.toNat ((d.On.g x6.toNat).n:Int)).g (d.Tree.g x6.toNat).Parent.toNat)))).n (fun l=>if l=x6.toNat then splice ((fun i=>cI .i64 ((x4.upd x6.toNat ((d.On.g x6.toNat).n:Int)).g i)) l) 0 [pI .i64 (wrap .i64 (((x4.upd x6.toNat ((d.On.g x6.toNat).n:Int)).g x6.toNat)+((x4.upd x6.toNat ((d.On.g x6.toNat).n:Int)).g (d.Tree.g x6.toNat).Parent.toNat)))]else (fun i=>cI .i64 ((x4.upd x6.toNat ((d.On.g x6.toNat).n:Int)).g i)) l) (fun i=>cI .i64 (((x4.upd x6.toNat ((d.On.g x6.toNat).n:Int)).upd x6.toNat (wrap .i64 (((x4.upd x6.toNat ((d.On.g x6.toNat).n:Int)).g x6.toNat)+((x4.upd x6.toNat ((d.On.g x6.toNat).n:Int)).g (d.Tree.g x6.toNat).Parent.toNat)))).g i)))] (al1 ⟨rfl,Wg (c:=cI .i64) (v:=x4.upd x6.toNat ((d.On.g x6.toNat).n:Int)) (x:=wrap .i64 (((x4.upd x6.toNat ((d.On.g x6.toNat).n:Int)).g x6.toNat)+((x4.upd x6.toNat ((d.On.g x6.toNat).n:Int)).g (d.Tree.g x6.toNat).Parent.toNat))) same (fun _=>by first|rfl|(dsimp only;split<;>rfl))⟩ al0))
   exact m _ [(14000,14000)] _ (x4.upd x6.toNat ((d.On.g x6.toNat).n:Int)) Dz h
  obtain⟨c42,h⟩:=G7 h;refine D9 Z c42 (b:=decide (64<(z3.g x6.toNat))) (fun c43=>?_) (fun c43=>?_)
  .replace h:=itT c43 h;cases h;exact kR Z
  replace h:=itF c43 h;refine Q7 Z Dz h (fun j f=>⟨[(52,pN f),(51,pN ((d.On.g x6.toNat).n:Int)),(50,.p (vSl 1 (cI .i64) (d.On.g x6.toNat))),(17,pN x6),(16,pN (d.On.n:Int)),(15,.p (vSl 1 (cL 1 (cI .i64)) d.On)),(4,pB j),(3,.vec 14000),(1,.p (.ptr (B0 d)))],[(14000,.vec D7 1 z3.n (fun i=>cI .i64 (z3.g i)) false)]⟩) (ids:=[(14000,14000)]) (fun _ _ _ _ _ s j f t h=>?_);apply kI Z h<;>intro h
  .obtain⟨c49,h⟩:=G7 h;refine kB Z (B9 Z) c49 Dz 10 (.o (.o (.a j) (.a (decide (((d.On.g x6.toNat).g f.toNat)<0)))) (.a (decide ((d.Laws.n:Int)<=((d.On.g x6.toNat).g f.toNat))))) ?_;exact t _ [(14000,14000)] _ ((j||(decide (((d.On.g x6.toNat).g f.toNat)<0)))||(decide ((d.Laws.n:Int)<=((d.On.g x6.toNat).g f.toNat)))) (wrap .i64 (f+1)) Dz h
  exact r _ [(14000,14000)] _ z3 j (wrap .i64 (x6+1)) Dz h
 apply kI Z h<;>intro h
 .cases h;exact kR Z
 cases h;exact kR Z
def X9 (N:Nat)(a:G9):Option Int:= (X0 N a.Tree).bind fun y1=>if (y1 != 0) then some 16 else if (decide (64<(a.Laws.n:Int))) then some 12 else Ft N (fun b (x1:List (Str×Int)) (x2:Int)=>if (decide (x2<(a.Laws.n:Int))) then if ((0:Int)<=x2/\x2<(a.Laws.n:Int))then (Bj N (a.Laws.g x2.toNat)).bind fun y4=>if (y4 != 0) then some 17 else VC (Hh eqS (a.Laws.g x2.toNat).Name x1) (b (Nq eqS (a.Laws.g x2.toNat).Name (wrap .i64 (0+1)) x1) (wrap .i64 (x2+1))) fun v3=>b (Nq eqS (a.Laws.g x2.toNat).Name (wrap .i64 (v3+1)) x1) (wrap .i64 (x2+1)) else none else if (decide (((Gt PV.str (pI .i64) x1).length:Int)<(a.Laws.n:Int))) then some 6 else if ((a.On.n:Int) != (a.Tree.n:Int)) then some 2 else (Bl N a).bind fun y5=>some y5) [] 0
theorem DM {a:G9}{y:Int}(h:X9 N a=some y) :FunO S Dv [.p (.agg (B0 a))] [] (pN y) ([]) []:=by
 unfold X9 at h;refine A8 Z func46 ?_;refine kC Z h (BB Z Y) (fun y1 h=>?_);apply kI Z h<;>intro h
 .cases h;exact kR Z
 apply kI Z h<;>intro h
 .cases h;exact kR Z
 refine Q7 Z Dz h (fun x1 x2=>⟨[(18,pN x2),(17,pN (a.Laws.n:Int)),(16,.p (vSl 18 B7 a.Laws)),(3,.mref 15000),(1,.reg 2000 0)],[(15000,.map (Gt PV.str (pI .i64) x1)),(2000,.cells ((B0 a).map .p))]⟩) (ids:=[(2000,2000),(15000,15000)]) (fun _ _ _ _ _ d x1 x2 c h=>?_);apply kI Z h<;>intro h
 .obtain⟨c10,h⟩:=G7 h;obtain⟨y4,e4,h⟩:=B4 h;refine C6 Z [] (And.intro c10 Hm) (ER Z Y e4) ?_;apply kI Z h<;>intro h
  .cases h;exact kR Z
  rcases o3:Hh eqS (a.Laws.g x2.toNat).Name x1 with _|v3
  .replace h:=WZ o3 h;refine DU Z Dz (kt:=Ac) (e:=D7) (key:=PV.str (a.Laws.g x2.toNat).Name) (es:=Gt PV.str (pI .i64) x1) (x:=pI .i64 0) (b:=false) (fd:=none) ((X8 (kP:=PV.str) (vP:=pI .i64) (eq:=eqS) (fun _ _=>by kernel_rfl) (a.Laws.g x2.toNat).Name x1).trans (by rw[o3];rfl)) Dz ?_;refine HA Z Dz (kt:=Ac) (key:=PV.str (a.Laws.g x2.toNat).Name) (y:=pI .i64 (wrap .i64 (0+1))) (es:=Gt PV.str (pI .i64) x1) (DT (kP:=PV.str) (vP:=pI .i64) (eq:=eqS) (fun _ _=>by kernel_rfl) (a.Laws.g x2.toNat).Name (wrap .i64 (0+1)) x1) Dz ?_;exact c _ [(2000,2000),(15000,15000)] _ (Nq eqS (a.Laws.g x2.toNat).Name (wrap .i64 (0+1)) x1) (wrap .i64 (x2+1)) Dz h
  replace h:=Xa o3 h;refine DU Z Dz (kt:=Ac) (e:=D7) (key:=PV.str (a.Laws.g x2.toNat).Name) (es:=Gt PV.str (pI .i64) x1) (x:=pI .i64 v3) (b:=true) (fd:=some (pI .i64 v3)) ((X8 (kP:=PV.str) (vP:=pI .i64) (eq:=eqS) (fun _ _=>by kernel_rfl) (a.Laws.g x2.toNat).Name x1).trans (by rw[o3];rfl)) Dz ?_;refine HA Z Dz (kt:=Ac) (key:=PV.str (a.Laws.g x2.toNat).Name) (y:=pI .i64 (wrap .i64 (v3+1))) (es:=Gt PV.str (pI .i64) x1) (DT (kP:=PV.str) (vP:=pI .i64) (eq:=eqS) (fun _ _=>by kernel_rfl) (a.Laws.g x2.toNat).Name (wrap .i64 (v3+1)) x1) Dz ?_;exact c _ [(2000,2000),(15000,15000)] _ (Nq eqS (a.Laws.g x2.toNat).Name (wrap .i64 (v3+1)) x1) (wrap .i64 (x2+1)) Dz h
 apply kI Z h<;>intro h
 .cases h;exact kR Z
 apply kI Z h<;>intro h
 .cases h;exact kR Z
 refine kC Z h (IT Z Y) (fun y5 h=>?_);cases h;exact kR Z
end Go.AM
namespace Go.AM
open IntKind (wrap)
open Go.Proofs
set_option maxRecDepth 10000
set_option maxHeartbeats 2000000
variable {S:R7}(Z:F4 S Tryz.prog) (Y:HC S)
abbrev Ht {T:Type}(e:TypeId)(k:Nat)(c:T->List PV)(x:Sl T):Obj:=.vec e k x.n (fun q=>c (x.g q)) false
theorem WL {T:Type}{e:TypeId}{k n i:Nat}{c:T->List PV}{X:Sl (Sl T)}{z:Sl T}:∀q,q<n->(fun q=>if q=i then Ht e k c z else if q=i then Obj.dead else Ht e k c (X.g q)) q=(fun q=>Ht e k c ((X.upd i z).g q)) q:=fun q _=>by by_cases h:q=i<;>simp[h]
include Z Y
def Bm (N:Nat)(a:Sl Q4):Option (Sl (Sl Int)):= if ((0:Int)<=(a.n:Int)/\(a.n:Int)<=(a.n:Int)/\(a.n:Int)*24<=140737488355328/\(a.n:Int)<=140737488355328)then Ft N (fun b (x:Int) (X:Sl (Sl Int))=>if (decide (x<(a.n:Int))) then if ((0:Int)<=x/\x<(a.n:Int))then if (a.g x.toNat).Parent.toNat<X.n then lt (fun (z:Sl Int)=>b (wrap .i64 (x+1)) (X.upd (a.g x.toNat).Parent.toNat z)) fun k=>if (decide (0<x)) then if (((0:Int)<=(a.g x.toNat).Parent/\(a.g x.toNat).Parent<(X.n:Int))/\(((X.g (a.g x.toNat).Parent.toNat).n+1)*8<=140737488355328/\(X.g (a.g x.toNat).Parent.toNat).n+1<=140737488355328))then k ((X.g (a.g x.toNat).Parent.toNat).push x) else none else k (X.g (a.g x.toNat).Parent.toNat) else none else none else some X) 0 ⟨a.n,fun _=>Sl.nil⟩ else none
theorem IU {N:Nat}{b:Sl Q4}{y:Sl (Sl Int)}(h:Bm N b=some y) :FunO S Dy [.p (vSl 2 H4 b)] [] (.p (vSl 1 (cL 1 (cI .i64)) y)) [] []:=by
 unfold Bm at h;refine A8 Z Tryz.func97 ?_;obtain⟨c1,h⟩:=G7 h;refine Ej Z c1 9 (.fam 9000 9901 fun i=>Ht D7 1 (cI .i64) ((⟨b.n,fun _=>Sl.nil⟩:Sl (Sl Int)).g i)) (⟨by decide,fun i _=>rfl⟩:1000<=9901/\∀i,i<b.n->Ma [C0] (Ht D7 1 (cI .i64) ((⟨b.n,fun _=>Sl.nil⟩:Sl (Sl Int)).g i))) ?_;refine Q7 Z Dz h (fun x X=>⟨[(11,pN x),(10,pN (b.n:Int)),(9,.p (vSl 2 H4 b)),(3,.vec 9000)],[(9901,.rows X.n fun i=>Ht D7 1 (cI .i64) (X.g i)),(9000,.fam LF X.n 9901 none)]⟩) (ids:=[(9901,9901),(9000,9000)]) (fun _ _ _ _ _ j x X f h=>?_);apply kI Z h<;>intro h
 .obtain⟨c2,h⟩:=G7 h;obtain⟨c3,h⟩:=G7 h;refine Ej Z (And.intro c2 Gx) 17 (.take 9000 (b.g x.toNat).Parent.toNat 9801) (⟨⟨by decide,rfl⟩,c3⟩:(1000<=9801/\X.n=X.n)/\(b.g x.toNat).Parent.toNat<X.n) ?_;refine Ja Z Dz (B9 Z) h 0 (fun z=>⟨[(11,pN x),(10,pN (b.n:Int)),(9,.p (vSl 2 H4 b)),(3,.vec 9000)],
   [(9901,(.rows X.n fun l=>if l=(b.g x.toNat).Parent.toNat then .dead else Ht D7 1 (cI .i64) (X.g l))),(9801,Ht D7 1 (cI .i64) z),(9000,.fam LF X.n 9901 (some ((b.g x.toNat).Parent.toNat,.vec 9801)))]⟩) (fun M k d h=>?_) (fun z h=>?_)
  .apply kI Z h<;>intro h
   .obtain⟨c4,h⟩:=G7 h;refine N3 Z Dz [(0,.n),(1,.n),(2,.l [6000]),(3,.n),(4,.n),(5,.l [6000]),(6,.l [9000]),(7,.l [9000]),(8,.n),(10,.a [29000,9801]),(11,.l [9000]),(12,.a [9000])] ?_;refine B6 (And.intro c4.1 (And.intro c3 (rfl:(b.g x.toNat).Parent.toNat=(b.g x.toNat).Parent.toNat))) (x:=.sl true 1 1 (A9 [pI .i64 0] [(0,cI .i64 x)])) ?_;refine F6 (And.intro (And.intro c4.2 c4.1) (And.intro c3 (rfl:(b.g x.toNat).Parent.toNat=(b.g x.toNat).Parent.toNat))) ?_;exact d _ [(9901,9901),(9801,29000),(9000,9000)] _ ((X.g (b.g x.toNat).Parent.toNat).push x) Dz h (hle:=klR [(5,.fn ((X.g (b.g x.toNat).Parent.toNat).n+1) ((X.g (b.g x.toNat).Parent.toNat).push x).n (AP (X.g (b.g x.toNat).Parent.toNat).n (fun i=>cI .i64 ((X.g (b.g x.toNat).Parent.toNat).g i)) (A9 [pI .i64 0] [(0,cI .i64 x)])) (fun i=>cI .i64 (((X.g (b.g x.toNat).Parent.toNat).push x).g i)))] (al1 ⟨rfl,NP (c:=cI .i64) (v:=X.g (b.g x.toNat).Parent.toNat) (x:=x) (z:=[(pI .i64 0)]) same rfl rfl⟩ al0))
   exact d _ [(9901,9901),(9801,9801),(9000,9000)] _ (X.g (b.g x.toNat).Parent.toNat) Dz h
  refine Ej Z Dz 30 (.put 9000 9902) (⟨⟨by decide,rfl⟩,c3⟩:(1000<=9902/\X.n=X.n)/\(b.g x.toNat).Parent.toNat<X.n) ?_;exact f _ [(9901,9902),(9000,9000)] _ (wrap .i64 (x+1)) (X.upd (b.g x.toNat).Parent.toNat z) Dz h (hle:=klR [(4,.ob X.n (fun q=>if q=(b.g x.toNat).Parent.toNat then Ht D7 1 (cI .i64) z else if q=(b.g x.toNat).Parent.toNat then .dead else Ht D7 1 (cI .i64) (X.g q)) fun i=>Ht D7 1 (cI .i64) ((X.upd (b.g x.toNat).Parent.toNat z).g i))] (al1 WL al0))
 refine Ej Z Dz 31 (.pub 9000) (⟨rfl,fun i _=>rfl⟩:X.n=X.n/\∀i,i<X.n->(PC (Ht D7 1 (cI .i64) (X.g i))).isSome=true) ?_;obtain rfl:=D0 h;exact B3 Z Dz ⟨[(2,.p (vSl 1 (cL 1 (cI .i64)) X))],[]⟩ [] (ids:=[]) ⟨rfl,rfl,rfl⟩ (hle:=klR [(0,.fn X.n X.n (fun i=>[(PC (Ht D7 1 (cI .i64) (X.g i))).getD default]) (fun i=>cL 1 (cI .i64) (X.g i)))] (al1 ⟨rfl,fun _ _=>rfl⟩ al0))
end Go.AM
