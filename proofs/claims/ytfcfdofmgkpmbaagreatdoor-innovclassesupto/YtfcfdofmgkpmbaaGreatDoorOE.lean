/- What a law's walk and its plain proof need, part 5: no condition of its own. -/
import Derived.Test.YtfcfdofmgkpmbaaGreatDoorOD
import Derived.Test.YtfcfdofmgkpmbaaGreatDoorOC
import Derived.RecoverIn
import Derived.Test.YtfcfdofmgkpmbaaGreatDoorProg
import Derived.Lib.SlTrimSet
import Derived.TacticsInMore
set_option linter.defProp false
set_option linter.unusedSimpArgs false
set_option linter.unusedVariables false
set_option linter.unusedSectionVars false
namespace Go.AM
noncomputable abbrev AS0:=Go.Proofs.Tryz.prog.funcs
def AT6:=@BitVec.getLsbD_and
def AV7:=@Bool.eq_iff_iff
def AX9:=@BitVec.eq_of_getLsbD_eq
def Bd0:=@BitVec.toNat_ofNat
def Bh1:=@BitVec.getLsbD_ushiftRight
def Bh2:=@BitVec.getLsbD_one
def Bh6:=@BitVec.getLsbD_shiftLeft
def Bi1:=@BitVec.getLsbD_setWidth
def Bj4:=@BitVec.getLsbD_ofBool
def Ac1 (D:List Deferred)(a:Act):Act:={ a with defers:=a.defers++D }
theorem Fp (D:List Deferred)(a:Act)(d:Option Tmp)(v:Value):(Ac1 D a).put d v=Ac1 D (a.put d v):=by cases d<;>rfl
theorem IU {F:Fence}{n:Nat}{P:Program}{ops:Array Oper}{Q:Exit->Act->World->Prop}(D:List Deferred):∀(l:List Nat) (a:Act) (w:World),wpOpsIn F n P ops Q l a w ->
 wpOpsIn F n P ops (fun e a' w'=>∃a0,a' = Ac1 D a0/\Q e a0 w') l (Ac1 D a) w
 |[],a,w,h=>⟨a,rfl,h⟩
 |i::l,a,w,h=>by
  have ih:=IU (F:=F) (n:=n) (P:=P) (ops:=ops) (Q:=Q) D l;simp only[wpOpsIn]at h⊢;have e1:(Ac1 D a).eval=a.eval:=by funext x;cases x<;>rfl
  have e2:(Ac1 D a).tmps=a.tmps:=rfl;cases j:ops[i]? with
  |none=>simp only[j]at h⊢;exact ih a w h
  |some o=>
   simp only[j]at h⊢;rw[e2,e1];by_cases hw:Region.wanted o (yielded ops a.tmps)=true
   ·rw[if_pos hw]at h⊢;refine⟨by rw[e1];exact h.1,?_⟩;have b:=h.2;rw[e1];generalize (o.semAt F.round a.eval).run P w=r at b;unfold Oper.uponIn at b⊢;split at b
    ·rw[Fp];exact ih _ _ b
    ·rw[Fp];exact ih _ _ b
    ·exact ih _ _ b |> fun x=>by
      rename_i d w'
      have:({ (Ac1 D a)with defers:=d::(Ac1 D a).defers }:Act).put o.dst undef=Ac1 D (({ a with defers:=d::a.defers }:Act).put o.dst undef):=by rw[<- Fp];rfl
      rw[this];exact x
    ·refine⟨b.1,b.2.mono ?_⟩;intro e w' f;cases e with
     |returned v=>have:=ih _ _ f;rw[<- Fp]at this;exact this
     |panicked ch=>exact⟨a,rfl,f⟩
     |outgrown=>obtain⟨a1,w1,g⟩:=f;exact⟨Ac1 D a1,w1,a1,rfl,g⟩
    ·refine⟨b.1,fun c cs m=>?_⟩;obtain⟨v,w',g1,g2⟩:=b.2 c cs m;exact⟨v,w',by have:=ih _ _ g1;rw[<- Fp]at this;exact this,g2⟩
    ·refine⟨b.1,b.2.mono ?_⟩;intro e w' f;cases e with
     |returned v=>have:=ih _ _ f;rw[<- Fp]at this;exact this
     |panicked ch=>exact⟨a,rfl,f⟩
     |outgrown=>obtain⟨a1,w1,g⟩:=f;exact⟨Ac1 D a1,w1,a1,rfl,g⟩
    ·exact⟨a,rfl,b⟩
    ·exact b.elim
   ·rw[if_neg hw]at h⊢;rw[Fp];exact⟨h.1,ih _ _ h.2⟩
section
variable {P:Program}{C:Ctx}{st:St}{rho:Nat->Value}
theorem Fq {fn:Func}{R:Ending->World->Prop}{u:FrameMode}(c:u ≠ .run){tmps:Array Value}{D:List Deferred}(b:∀a w,Sat C st a w rho->a.tmps=tmps->LeavesInM Fence.wide 0 P fn tmps R D u w) :∀(ds:List Deferred) (a:Act) (w:World),a.defers=ds->a.tmps=tmps->Sat C st a w rho->LeavesInM Fence.wide 0 P fn tmps R (ds++D) u w
 |[],a,w,hd,ht,h=>b a w h ht
 |d::ds,a,w,hd,ht,h=>by obtain⟨r,w',h1,f,g⟩:=h.unmark hd;exact⟨c,.inl ⟨r,w',h1,f,Fq c b ds { a with defers:=ds } w' rfl ht g⟩⟩
end
end Go.AM
namespace Go.AM
structure A3 where
 Langs:Int
 Has:(Sl Int)
 deriving Inhabited
abbrev D9 (x:A3):List PV:=[(pI .i64 x.Langs),vSl 1 (cI .u64) x.Has]
structure L0 where
 a0:Int
 a1:Int
 deriving Inhabited,DecidableEq
abbrev Q6 (x:L0):List PV:=[(pI .i64 x.a0),pI .i64 x.a1]
structure H9 where
 Parent:Int
 Name:Str
 deriving Inhabited,DecidableEq
abbrev G3 (x:H9):List PV:=[(pI .i64 x.Parent),.str x.Name]
structure Sound where
 Plus:Int
 Minus:Int
 deriving Inhabited,DecidableEq
abbrev A0 (x:Sound):List PV:=[(pI .u32 x.Plus),pI .u32 x.Minus]
inductive Pat where
 |nil
 |mk (Kind:Int) (Is:Sound) (Not:Bool) (Min:Int) (Max:Int) (n:Nat) (g:Nat->Pat)
instance:Inhabited Pat:=⟨.nil⟩
def Pat.Kind:Pat->Int
 |.nil=>0
 |.mk x _ _ _ _ _ _=>x
def Pat.Is:Pat->Sound
 |.nil=>default
 |.mk _ x _ _ _ _ _=>x
def Pat.Not:Pat->Bool
 |.nil=>false
 |.mk _ _ x _ _ _ _=>x
def Pat.Min:Pat->Int
 |.nil=>0
 |.mk _ _ _ x _ _ _=>x
def Pat.Max:Pat->Int
 |.nil=>0
 |.mk _ _ _ _ x _ _=>x
def Pat.L:Pat->Sl Pat
 |.nil=>⟨0,fun _=>.nil⟩
 |.mk _ _ _ _ _ n g=>⟨n,g⟩
def Cb:Pat->Nat->List PV
 |.nil=>fun _=>[]
 |.mk _ _ _ _ _ n g=>fun i=>[(pI .i64 (g i).Kind),pI .u32 (g i).Is.Plus,pI .u32 (g i).Is.Minus,.bb (g i).Not,pI .i64 (g i).Min,pI .i64 (g i).Max,.sl false 7 (g i).L.n (Cb (g i))]
abbrev B5 (x:Pat):List PV:=[(pI .i64 x.Kind),pI .u32 x.Is.Plus,pI .u32 x.Is.Minus,.bb x.Not,pI .i64 x.Min,pI .i64 x.Max,.sl false 7 x.L.n (Cb x)]
theorem T7 (x:Pat):∀i,i<x.L.n->Cb x i=B5 (x.L.g i):=by
 cases x with
 |nil=>intro i a;exact absurd (show i<0 from a) (by omega)
 |mk Kind Is Not Min Max n g=>exact fun _ _=>rfl
structure Bs where
 From:Int
 Clear:Int
 Set:Sound
 Take:Int
 Of:Int
 deriving Inhabited,DecidableEq
abbrev Q7 (x:Bs):List PV:=[(pI .i64 x.From),pI .u32 x.Clear,pI .u32 x.Set.Plus,pI .u32 x.Set.Minus,pI .u32 x.Take,pI .i64 x.Of]
structure Law where
 Name:Str
 Left:Pat
 Right:Pat
 If:(Sl Sound)
 Out:(Sl Bs)
 Mode:Int
 deriving Inhabited
abbrev B4 (x:Law):List PV:=[(.str x.Name),pI .i64 x.Left.Kind,pI .u32 x.Left.Is.Plus,pI .u32 x.Left.Is.Minus,.bb x.Left.Not,pI .i64 x.Left.Min,pI .i64 x.Left.Max,.sl false 7 x.Left.L.n (Cb x.Left),pI .i64 x.Right.Kind,pI .u32 x.Right.Is.Plus,pI .u32 x.Right.Is.Minus,.bb x.Right.Not,pI .i64 x.Right.Min,pI .i64 x.Right.Max,.sl false 7 x.Right.L.n (Cb x.Right),vSl 2 A0 x.If,vSl 6 Q7 x.Out,pI .i64 x.Mode]
structure A7 where
 Tree:(Sl H9)
 Laws:(Sl Law)
 On:(Sl (Sl Int))
 deriving Inhabited
abbrev A8 (x:A7):List PV:=[(vSl 2 G3 x.Tree),vSl 18 B4 x.Laws,vSl 1 (cL 1 (cI .i64)) x.On]
structure Hq where
 Parents:(Sl Int)
 Laws:(Sl Law)
 On:(Sl Int)
 deriving Inhabited
abbrev CL (x:Hq):List PV:=[(vSl 1 (cI .u8) x.Parents),vSl 18 B4 x.Laws,vSl 1 (cI .u16) x.On]
inductive Part where
 |nil
 |sound (x:Sound) (no:Bool)
 |edge (e:Bool)
 |seq (n:Nat) (g:Nat->Part)
 |alt (n:Nat) (g:Nat->Part)
 |rep (o:Part) (mn mx:Int)
instance:Inhabited Part:=⟨.nil⟩
def Part.t:Part->Nat
 |.nil=>0
 |.sound _ _=>276
 |.edge _=>278
 |.seq _ _=>283
 |.alt _ _=>280
 |.rep _ _ _=>282
def Part.v:Part->PV
 |.nil=>.bb false
 |.sound x no=>.agg [pI .u32 x.Plus,pI .u32 x.Minus,.bb no]
 |.edge e=>.agg [.bb e]
 |.seq n g=>.agg [.sl false 1 n fun i=>[.iface (g i).t (g i).v]]
 |.alt n g=>.agg [.sl false 1 n fun i=>[.iface (g i).t (g i).v]]
 |.rep o mn mx=>.agg [.iface o.t o.v,pI .i64 mn,pI .i64 mx]
abbrev Gr (x:Part):PV:=.iface x.t x.v
abbrev EM (x:Part):List PV:=[Gr x]
structure Ac2 where
 is:Sound
 not:Bool
 deriving Inhabited,DecidableEq
abbrev WY (x:Ac2):List PV:=[(pI .u32 x.is.Plus),pI .u32 x.is.Minus,.bb x.not]
structure AD6 where
 end_:Bool
 deriving Inhabited,DecidableEq
abbrev AD7 (x:AD6):List PV:=[(.bb x.end_)]
structure Palt where
 l:(Sl Part)
 deriving Inhabited
abbrev AO6 (x:Palt):List PV:=[(vSl 1 EM x.l)]
structure AO7 where
 of:Part
 min:Int
 max:Int
 deriving Inhabited
abbrev AO8 (x:AO7):List PV:=[(Gr x.of),pI .i64 x.min,pI .i64 x.max]
structure Pseq where
 l:(Sl Part)
 deriving Inhabited
abbrev AO9 (x:Pseq):List PV:=[(vSl 1 EM x.l)]
end Go.AM
namespace Go.AM
open Go.Proofs
abbrev Bu:Nat:=8
abbrev Mz:Nat:=15
abbrev Hz:Nat:=17
abbrev EN:Nat:=19
abbrev IV:Nat:=21
abbrev AI:Nat:=23
abbrev U4:Nat:=24
abbrev KL:Nat:=26
abbrev MA:Nat:=28
abbrev KM:Nat:=29
abbrev IW:Nat:=31
abbrev HA:Nat:=33
abbrev MB:Nat:=35
abbrev FN:Nat:=39
abbrev IX:Nat:=40
abbrev KN:Nat:=41
abbrev P8:Nat:=42
abbrev N8:Nat:=43
abbrev S7:Nat:=45
abbrev IY:Nat:=49
abbrev MC:Nat:=54
abbrev Au:Nat:=56
abbrev Bb:Nat:=57
abbrev FO:Nat:=58
abbrev EO:Nat:=59
abbrev Dw:Nat:=61
abbrev MD:Nat:=62
abbrev M0:Nat:=64
abbrev Gs:Nat:=65
abbrev MF:Nat:=67
abbrev MG:Nat:=68
abbrev Pv:Nat:=69
abbrev Gt:Nat:=70
abbrev HD:Nat:=71
abbrev HE:Nat:=72
abbrev KO:Nat:=75
abbrev HF:Nat:=76
abbrev Gu:Nat:=77
abbrev Gv:Nat:=78
abbrev MJ:Nat:=81
abbrev Bc:Nat:=82
abbrev CP:Nat:=83
abbrev Fr:Nat:=85
abbrev MK:Nat:=86
abbrev ML:Nat:=87
abbrev KP:Nat:=88
abbrev KQ:Nat:=89
abbrev IZ:Nat:=90
abbrev Gw:Nat:=91
abbrev HG:Nat:=92
abbrev Ja:Nat:=93
abbrev HH:Nat:=94
abbrev N3:Nat:=97
abbrev G1:Nat:=98
abbrev P9:Nat:=99
abbrev Pw:Nat:=100
abbrev MN:Nat:=101
abbrev MO:Nat:=102
abbrev Hc:Nat:=103
abbrev Fs:Nat:=104
abbrev Gx:Nat:=105
abbrev KR:Nat:=108
abbrev HI:Nat:=111
abbrev FP:Nat:=112
abbrev S1:Nat:=115
abbrev Cy:Nat:=116
abbrev Jb:Nat:=117
abbrev Px:Nat:=118
abbrev Jc:Nat:=119
abbrev Jd:Nat:=120
abbrev MQ:Nat:=121
abbrev KS:Nat:=122
abbrev I5:Nat:=123
abbrev J6:Nat:=124
abbrev KT:Nat:=125
abbrev Gz:Nat:=126
abbrev BD:Nat:=127
abbrev FQ:Nat:=128
abbrev De:Nat:=132
abbrev Py:Nat:=133
abbrev Pz:Nat:=134
abbrev MT:Nat:=135
abbrev MU:Nat:=136
abbrev PA:Nat:=137
abbrev HJ:Nat:=139
abbrev I8:Nat:=140
abbrev S8:Nat:=141
abbrev H8:Nat:=142
abbrev MV:Nat:=143
abbrev U6:Nat:=146
abbrev Eo:Nat:=147
abbrev HK:Nat:=148
abbrev O7:Nat:=149
abbrev J2:Nat:=150
abbrev N9:Nat:=151
abbrev Je:Nat:=152
abbrev Aa:Nat:=153
abbrev G9:Nat:=154
abbrev Q8:Nat:=155
abbrev KU:Nat:=156
abbrev Hd:Nat:=157
abbrev J7:Nat:=159
abbrev FS:Nat:=160
abbrev HL:Nat:=161
abbrev KV:Nat:=171
abbrev E3:Nat:=172
abbrev PB:Nat:=173
abbrev O1:Nat:=174
abbrev Q3:Nat:=175
abbrev MW:Nat:=176
abbrev MX:Nat:=182
abbrev MY:Nat:=189
abbrev SX:Nat:=190
abbrev Ft:Nat:=196
abbrev PC:Nat:=197
abbrev M8:Nat:=198
abbrev SY:Nat:=199
abbrev SZ:Nat:=200
abbrev Jf:Nat:=201
abbrev Ea:Nat:=207
abbrev KW:Nat:=208
abbrev EP:Nat:=209
abbrev H3:Nat:=210
abbrev HM:Nat:=211
abbrev KX:Nat:=212
abbrev V4:Nat:=217
abbrev Jg:Nat:=218
abbrev MZ:Nat:=219
abbrev Na:Nat:=220
abbrev Nb:Nat:=221
abbrev Jh:Nat:=227
abbrev Ji:Nat:=228
abbrev HN:Nat:=229
abbrev GB:Nat:=234
abbrev Ct:Nat:=235
abbrev AW:Nat:=236
abbrev Cz:Nat:=259
abbrev Dy:Nat:=260
abbrev Ep:Nat:=261
abbrev Fu:Nat:=262
abbrev Eb:Nat:=263
abbrev Fv:Nat:=264
abbrev GD:Nat:=265
abbrev Ax:Nat:=266
abbrev Fw:Nat:=267
abbrev F1:Nat:=3
abbrev Aw4:Nat:=4
abbrev Cu:Nat:=9
abbrev Jk:Nat:=29
abbrev Cd:Nat:=30
abbrev QX:Nat:=42
abbrev AX:Nat:=44
abbrev Ec:Nat:=51
abbrev Vo:Nat:=75
abbrev E2:Nat:=76
abbrev D2:Nat:=87
abbrev Ce:Nat:=95
abbrev EQ:Nat:=121
abbrev Dz:Nat:=124
abbrev Ac6:Nat:=155
abbrev Vp:Nat:=269
end Go.AM
namespace Go.AM
open IntKind (wrap)
abbrev U (x:BitVec 64):Int:=(x.toNat:Int)
theorem GE {n:Nat}(h:n<2 ^ 64):IntKind.u64.wrap (n:Int)=n:=by have h1:((n:Int) % (2 ^ 64:Int))=n:=Bc1 (by omega) (by omega);unfold wrap;simp only[IntKind.bits,IntKind.signed,h1,Bb8,AT0,if_false]
theorem Vq (x:BitVec 64):BitVec.ofInt 64 (U x)=x:=by
 apply AU4;rw[Bk8]
 have:=x.isLt
 show ((x.toNat:Int) % ((2 ^ 64:Nat):Int)).toNat=x.toNat;omega
theorem AP0 (x y:BitVec 64):C9 .and .u64 (U x) (U y)=U (x &&& y):=by simp only[C9,IntKind.bits,Vq];exact GE (x &&& y).isLt
theorem AD8 (x y:BitVec 64):C9 .or .u64 (U x) (U y)=U (x ||| y):=by simp only[C9,IntKind.bits,Vq];exact GE (x ||| y).isLt
theorem Ap2 (x y:BitVec 64):C9 .andNot .u64 (U x) (U y)=U (x &&& ~~~ y):=by simp only[C9,IntKind.bits,Vq];exact GE (x &&& ~~~ y).isLt
theorem shr64 (x:BitVec 64)(n:Nat):shI .shr .u64 (U x) n=U (x >>> n):=by
 simp only[shI,IntKind.bits,AS2];have hx:=x.isLt;show Int.fdiv (x.toNat:Int) (2 ^ min n 64)=((x >>> n).toNat:Int);rw[Be2,Bd7];have e:((2:Int) ^ (min n 64))=((2 ^ (min n 64):Nat):Int):=by norm_cast
 rw[e,Bh0 _ (Bk9 _),<- Int.natCast_ediv];congr 1;by_cases h:n<=64
 ·rw[AZ7 h]
 ·rw[Bf9 (by omega),Ba2 hx,Ba2];exact AU5 hx (Ba4 (by omega) (by omega))
theorem AP1:(1:Int)=U 1#64:=rfl
theorem Ng (n:Nat)(h:n<64):shI .shl .u64 1 n=U (1#64 <<< n):=by
 simp only[shI,IntKind.bits,AS2];rw[AZ7 (by omega)];show wrap .u64 (1*2 ^ n)=((1#64 <<< n).toNat:Int);rw[Bf0,Bi5];have h1:(2:Nat) ^ n<2 ^ 64:=Nat.pow_lt_pow_right (by omega) h;have e:((1:Int)*2 ^ n)=((2 ^ n:Nat):Int):=by norm_cast;omega
 rw[e,GE h1]
 norm_cast
 rw[Ba3]
 ·simp
 ·simpa using h1
theorem Vr {i:Nat}:(1#64).getLsbD i=decide (i=0):=by rw[Bh2];simp
theorem Fx {n i:Nat}(h:n<64)(a:i<64):(1#64 <<< n).getLsbD i=decide (i=n):=by rw[Bh6,Vr,AV7];simp only[AS7,AV0,decide_eq_true_eq,decide_eq_false_iff_not];omega
theorem AD9 (x:BitVec 64)(i:Nat):(C9 .and .u64 (shI .shr .u64 (U x) (i:Int)) 1==1)=x.getLsbD i:=by
 rw[shr64,AP1,AP0];have h:(x >>> i &&& 1#64)=(BitVec.ofBool (x.getLsbD i)).setWidth 64:=by
  apply AX9;intro j b;simp only[AT6,Bh1,Bi1,Bj4];by_cases a:j=0
  ·subst a;simp
  ·have:(1#64).getLsbD j=false:=by rw[Vr];simp[a]
   simp[this,a]
 rw[h];cases x.getLsbD i<;>rfl
theorem QY {x y:BitVec 64}(h:∀b,b<64->(x.getLsbD b=true↔y.getLsbD b=true)):x=y:=
 AX9 fun b hb=>AV7.2 (h b hb)
def HO (n:Nat)(R:Nat->Nat->Prop):Nat->Nat->Nat->Prop
 |0=>fun a b=>a=b
 |k+1=>fun a b=>∃c,c<=n/\HO n R k a c/\R c b
def YA (n:Nat)(Q:Nat->Nat->Nat->Prop):Nat->Nat->Nat->Prop
 |0=>fun a b=>a=b
 |i+1=>fun a b=>∃c,c<=n/\YA n Q i a c/\Q i c b
def Fwd (n:Nat)(R:Nat->Nat->Prop):Prop:=∀a b,a<=n->R a b->a<=b/\b<=n
theorem Jl {n:Nat}{R:Nat->Nat->Prop}(h:Fwd n R):∀k,Fwd n (HO n R k)
 |0,a,b,ha,hb=>by obtain rfl:a=b:=hb;exact⟨AS8 _,ha⟩
 |k+1,a,b,ha,⟨c,hc,h1,h2⟩=>by have g1:=Jl h k a c ha h1;have g2:=h c b hc h2;exact⟨by omega,g2.2⟩
theorem WZ {n:Nat}{Q:Nat->Nat->Nat->Prop}:∀k,(∀i,i<k->Fwd n (Q i))->Fwd n (YA n Q k)
 |0,_,a,b,ha,hb=>by obtain rfl:a=b:=hb;exact⟨AS8 _,ha⟩
 |k+1,h,a,b,ha,⟨c,hc,h1,h2⟩=>by have g1:=WZ k (fun i d=>h i (by omega)) a c ha h1;have g2:=h k (by omega) c b hc h2;exact⟨by omega,g2.2⟩
theorem Ed {n:Nat}{R:Nat->Nat->Prop}(h:Fwd n R)(j:Nat){a:Nat}(ha:a<=n):∀k b,HO n R (j+k) a b ↔ ∃c,c<=n/\HO n R j a c/\HO n R k c b
 |0,b=>⟨fun hp=>⟨b,(Jl h j a b ha hp).2,hp,rfl⟩,fun⟨c,_,hp,e⟩=>by obtain rfl:c=b:=e;exact hp⟩
 |k+1,b=>by
  constructor
  ·rintro⟨d,f,h1,g⟩;obtain⟨c,hc,g1,g2⟩:=(Ed h j ha k d).1 h1;exact⟨c,hc,g1,d,f,g2,g⟩
  ·rintro⟨c,hc,g1,d,f,g2,g⟩;exact⟨d,f,(Ed h j ha k d).2 ⟨c,hc,g1,g2⟩,g⟩
theorem PD {n:Nat}{R:Nat->Nat->Prop}(h:Fwd n R){a:Nat}(ha:a<=n):∀k b,HO n R (k+1) a b->HO n R k a b \/ a+(k+1)<=b
 |0,b,⟨c,hc,h1,h2⟩=>by
  obtain rfl:a=c:=h1;by_cases e:a=b
  ·exact .inl e
  ·have:=(h a b ha h2).1;exact .inr (by omega)
 |k+1,b,⟨c,hc,h1,h2⟩=>by
  by_cases e:c=b
  ·subst e;exact .inl h1
  ·have:=(h c b hc h2).1
   rcases PD h ha k c h1 with g|g
   ·exact .inl ⟨c,hc,g,h2⟩
   ·exact .inr (by omega)
theorem Te {n:Nat}{R:Nat->Nat->Prop}(h:Fwd n R){a:Nat}(ha:a<=n){k b:Nat}(hk:n<=k)(hp:HO n R (k+1) a b):HO n R k a b:=by
 rcases PD h ha k b hp with g|g
 ·exact g
 ·have:=(Jl h (k+1) a b ha hp).2;omega
theorem Tf {n:Nat}{R:Nat->Nat->Prop}(h:Fwd n R){a:Nat}(ha:a<=n){b:Nat}:∀k,HO n R k a b->∃j,j<=n/\HO n R j a b
 |0,hp=>⟨0,Ba9 _,hp⟩
 |k+1,hp=>by
  by_cases hk:n<=k
  ·exact Tf h ha k (Te h ha hk hp)
  ·exact⟨k+1,by omega,hp⟩
theorem Nh {n:Nat}{R:Nat->Nat->Prop}(h:Fwd n R){a:Nat}(ha:a<=n):∀k b,HO n (fun x y=>R x y \/ x=y) k a b ↔ ∃j,j<=k/\HO n R j a b
 |0,b=>⟨fun e=>⟨0,AS8 _,e⟩,fun⟨j,f,hp⟩=>by
  obtain rfl:j=0:=by omega
  exact hp⟩
 |k+1,b=>by
  constructor
  ·rintro⟨c,hc,h1,d⟩;obtain⟨j,f,hp⟩:=(Nh h ha k c).1 h1;rcases d with d|d
   ·exact⟨j+1,by omega,c,hc,hp,d⟩
   ·subst d;exact⟨j,by omega,hp⟩
  ·rintro⟨j,f,hp⟩;by_cases e:j<=k
   ·have hb:=(Jl h j a b ha hp).2;exact⟨b,hb,(Nh h ha k b).2 ⟨j,e,hp⟩,.inr rfl⟩
   ·obtain rfl:j=k+1:=by omega
    obtain⟨c,hc,h1,d⟩:=hp;exact⟨c,hc,(Nh h ha k c).2 ⟨k,AS8 _,h1⟩,.inl d⟩
def Vs (s c:Sound):Bool:=(C9 .and .u32 s.Plus c.Plus==c.Plus)&&(C9 .and .u32 s.Minus c.Minus==c.Minus)
def PR (w:Sl Sound):Pat->Nat->Nat->Prop
 |.nil=>fun a b=>a=b
 |.mk kind is no mn mx m g=>fun a b=>
  if kind=0 then a=b
  else if kind=1 then a<w.n/\b=a+1/\(Vs (w.g a) is != no)=true
  else if kind=2 then a=0/\b=0
  else if kind=6 then a=w.n/\b=w.n
  else if kind=3 then YA w.n (fun i=>PR w (g i)) m a b
  else if kind=4 then ∃i,i<m/\PR w (g i) a b
  else if kind=5 then ∃k:Nat,mn<=k/\(mx = -1 \/ (k:Int)<=mx)/\HO w.n (PR w (g 0)) k a b
  else False
theorem Tg (w:Sl Sound):∀p:Pat,Fwd w.n (PR w p)
 |.nil,a,b,ha,h=>by obtain rfl:a=b:=h;exact⟨AS8 _,ha⟩
 |.mk kind is no mn mx m g,a,b,ha,h=>by
  simp only[PR]at h;split at h
  ·subst h;exact⟨AS8 _,ha⟩
  split at h
  ·obtain⟨h1,d,_⟩:=h;omega
  split at h
  ·omega
  split at h
  ·omega
  split at h
  ·exact WZ m (fun i _=>Tg w (g i)) a b ha h
  split at h
  ·obtain⟨i,_,c⟩:=h;exact Tg w (g i) a b ha c
  split at h
  ·obtain⟨k,_,_,hk⟩:=h;exact Jl (Tg w (g 0)) k a b ha hk
  ·exact h.elim
def TabR (n:Nat)(R:Nat->Nat->Prop)(f:Nat->Int):Prop:=∀a,a<=n->∃x:BitVec 64,f a=U x/\∀b,b<64->(x.getLsbD b=true↔b<=n/\R a b)
theorem TabR.congr {n:Nat}{R R' : Nat->Nat->Prop}{f:Nat->Int}(h:TabR n R f)(d:∀a b,a<=n->b<=n->(R a b↔R' a b)):TabR n R' f:=fun a ha=>by obtain⟨x,e,hx⟩:=h a ha;refine⟨x,e,fun b hb=>(hx b hb).trans ⟨fun⟨h1,c⟩=>⟨h1,(d a b ha h1).1 c⟩,fun⟨h1,c⟩=>⟨h1,(d a b ha h1).2 c⟩⟩⟩
theorem TabR.uniq {n:Nat}{R:Nat->Nat->Prop}{f g:Nat->Int}(h:TabR n R f)(h' : TabR n R g){a:Nat}(ha:a<=n):f a=g a:=by obtain⟨x,e,hx⟩:=h a ha;obtain⟨y,e',hy⟩:=h' a ha;rw[e,e',QY fun b hb=>(hx b hb).trans (hy b hb).symm]
theorem TabR.bit {n:Nat}{R:Nat->Nat->Prop}{f:Nat->Int}(h:TabR n R f){a b:Nat}(ha:a<=n)(hb:b<64):(C9 .and .u64 (shI .shr .u64 (f a) (b:Int)) 1==1)=true↔b<=n/\R a b:=by obtain⟨x,e,hx⟩:=h a ha;rw[e,AD9];exact hx b hb
end Go.AM
namespace Go.AM
open Go.Proofs
abbrev Ap3:List AV:=[.reg 0 0,.reg 1 0,.reg 2 0,.reg 3 0]
abbrev Vt (c:Int)(a:Sl Law)(b:Sl Sound)(y:PV):List Obj:=[.cells [pN c],.cells [.p (vSl 18 B4 a)],.cells [.p (vSl 2 A0 b)],.cells [.p y]]
def byB (x:Int)(i:Nat):UInt8:=UInt8.ofNat (x / 2 ^ (8*i) % 256).toNat
def Th (s:Int×Int)(q:Nat):List UInt8:=(List.range q).flatMap fun i=>[byB s.1 i,byB s.2 i]
def NT (g:Nat->Int×Int)(n:Nat):List UInt8:=(List.range n).flatMap fun i=>Th (g i) 4
def Jm (w:Sl Sound):Str:=NT (fun i=>((w.g i).Plus,(w.g i).Minus)) w.n
structure PF (S:AD):Prop where
 attR:∀{a:Sl Law}{b y:Sl Sound},FunO S H8 [.p (vSl 18 B4 a),.p (vSl 2 A0 b)] [] (.p (vSl 2 A0 y)) [] []->FunO S I8 Ap3 (Vt 0 a b F9) (.tup []) (Vt 0 a b (vSl 2 A0 y)) [true,true,true,true]
 attP:∀{a:Sl Law}{b:Sl Sound}{c:Int},(S.F H8 [.p (vSl 18 B4 a),.p (vSl 2 A0 b)] [] fun res o k=>res=.panic (.iface 210 (pI .i64 c))/\o=[]/\k=[])->FunO S I8 Ap3 (Vt 0 a b F9) (.tup []) (Vt c a b F9) [true,true,true,true]
 tz:∀x:BitVec 64,Zz S P8 [.p (pI .u64 (U x))] (.p (pI .i64 (Lib.ctz 64 x.toNat:Nat)))
 trim:∀s c:Str,s.length<1000000000000->c.length<1000000->(∀b∈c,b.toNat<128)->Zz S Eo [.p (.str s),.p (.str c)] (.p (.str (Lib.trimS s c)))
 growS:∀(f:Nat->List PV) (n:Nat),n*8<=140737488355328->FunO S H3 [.p F9,.p (pI .i64 (n:Int))] [] (.vec 0) [.vec D2 2 0 f false] []
 text:∀(w:Sl Sound) (e:Int),w.n*8<=140737488355328->Zz S Gu [.p (vSl 2 A0 w),.p (pI .i64 e)] (.p (.str (if e=0 then Jm w else [45])))
def B6 (N:Nat)(x:Int):Option Int:=if 0<=x/\x<18446744073709551616 then some ((Lib.ctz 64 x.toNat:Nat):Int)else none
def Er (N:Nat)(s c:Str):Option Str:=if s.length<1000000000000/\c.length<1000000/\(c.all fun b=>decide (b.toNat<128)) then some (Lib.trimS s c)else none
def H4 (N:Nat)(n:Int):Option (Sl Sound):=if 0<=n/\n*8<=140737488355328 then some (Sl.nil:Sl Sound)else none
section
variable {S:AD}(hS:H2 S Tryz.prog) (hL:PF S)
include hS hL
theorem I9 {N:Nat}{x y:Int}(h:B6 N x=some y):FunO S P8 [.p (pI .u64 x)] [] (.p (pI .i64 y)) [] []:=by
 obtain⟨⟨a,h1⟩,h⟩:=F4 h;obtain rfl:=C4 h
 have:=hL.tz (BitVec.ofNat 64 x.toNat)
 have e:(BitVec.ofNat 64 x.toNat).toNat=x.toNat:=by rw[Bd0];omega
 have e2:U (BitVec.ofNat 64 x.toNat)=x:=by show ((BitVec.ofNat 64 x.toNat).toNat:Int)=x;rw[e];omega
 rw[e,e2]at this;exact this
theorem Oy {N:Nat}{s c:Str}{y:Str}(h:Er N s c=some y):FunO S Eo [.p (.str s),.p (.str c)] [] (.p (.str y)) [] []:=by obtain⟨⟨a,h1,d⟩,h⟩:=F4 h;obtain rfl:=C4 h;exact hL.trim s c a h1 fun b hb=>by simpa using AU1.1 d b hb
theorem AL {N:Nat}{n:Int}{y:Sl Sound}(h:H4 N n=some y):FunO S H3 [.p F9,.p (pI .i64 n)] [] (.vec 0) [.vec D2 2 y.n (fun i=>A0 (y.g i)) false] []:=by
 obtain⟨⟨a,h1⟩,h⟩:=F4 h;obtain rfl:=C4 h
 have:=hL.growS (fun i=>A0 default) n.toNat (by omega)
 rw[show ((n.toNat:Nat):Int)=n by omega]at this;exact this
def A4 (N:Nat)(s:Sl Sound):Option (Sl Sound):=if (0+s.n)*8<=140737488355328/\0+s.n<=140737488355328 then some s else none
theorem O2 {N:Nat}{s y:Sl Sound}(h:A4 N s=some y):FunO S G9 [.p (vSl 2 A0 s)] [] (.vec 0) [.vec D2 2 y.n (fun i=>A0 (y.g i)) true] []:=by
 unfold A4 at h;obtain⟨c1,h⟩:=F4 h;obtain rfl:=C4 h;refine A2 hS Tryz.func154 ?_;refine AC7 hS trivial 3 (k:=2) (n:=s.n) (f:=fun i=>A0 (s.g i)) (fun a=>?_) ?_
 ·obtain⟨n,g⟩:=s;obtain rfl:n=0:=a;exact A9 hS trivial ⟨[(2,.vec 3700)],[(3700,.vec D2 2 0 (fun i=>A0 (g i)) true)]⟩ [3700] (ids:=[]) ⟨rfl,rfl,rfl⟩
 ·exact A9 hS (And.intro (rfl:true=true) c1) ⟨[(2,.vec 8000)],[(8000,.vec D2 2 s.n (fun i=>A0 (s.g i)) true)]⟩ [8000] (ids:=[(8000,8000)]) ⟨rfl,rfl,rfl⟩
   (hle:=klR [(0,.fn (0+s.n) s.n (BW 0 (F0 [pI .u32 0,pI .u32 0] []) (fun i=>A0 (s.g i))) (fun i=>A0 (s.g i)))] (al1 ⟨AV9 _,fun i _=>by simp[BW]⟩ al0))
def F8 (N:Nat)(s:Sl Bs):Option (Sl Bs):=if (0+s.n)*32<=140737488355328/\0+s.n<=140737488355328 then some s else none
theorem Ad {N:Nat}{s y:Sl Sound}(h:A4 N s=some y):FunO S G9 [.p (vSl 2 A0 s)] [] (.p (vSl 2 A0 y)) [] []:=by
 unfold A4 at h;obtain⟨c1,h⟩:=F4 h;obtain rfl:=C4 h;refine A2 hS Tryz.func154 ?_;refine AC7 hS trivial 3 (k:=2) (n:=s.n) (f:=fun i=>A0 (s.g i)) (fun a=>?_) ?_
 ·obtain⟨n,g⟩:=s;obtain rfl:n=0:=a;exact A9 hS trivial ⟨[(2,.p (vSl 2 A0 ⟨0,g⟩))],[]⟩ [] (ids:=[]) ⟨rfl,rfl,rfl⟩
 ·exact A9 hS (And.intro (rfl:true=true) c1) ⟨[(2,.p (vSl 2 A0 s))],[]⟩ [] (ids:=[]) ⟨rfl,rfl,rfl⟩
   (hle:=klR [(0,.fn (0+s.n) s.n (BW 0 (F0 [pI .u32 0,pI .u32 0] []) (fun i=>A0 (s.g i))) (fun i=>A0 (s.g i)))] (al1 ⟨AV9 _,fun i _=>by simp[BW]⟩ al0))
theorem Bt {N:Nat}{s y:Sl Bs}(h:F8 N s=some y):FunO S Q8 [.p (vSl 6 Q7 s)] [] (.p (vSl 6 Q7 y)) [] []:=by
 unfold F8 at h;obtain⟨c1,h⟩:=F4 h;obtain rfl:=C4 h;refine A2 hS Tryz.func155 ?_;refine AC7 hS trivial 3 (k:=6) (n:=s.n) (f:=fun i=>Q7 (s.g i)) (fun a=>?_) ?_
 ·obtain⟨n,g⟩:=s;obtain rfl:n=0:=a;exact A9 hS trivial ⟨[(2,.p (vSl 6 Q7 ⟨0,g⟩))],[]⟩ [] (ids:=[]) ⟨rfl,rfl,rfl⟩
 ·exact A9 hS (And.intro (rfl:true=true) c1) ⟨[(2,.p (vSl 6 Q7 s))],[]⟩ [] (ids:=[]) ⟨rfl,rfl,rfl⟩
   (hle:=klR [(0,.fn (0+s.n) s.n (BW 0 (F0 [pI .i64 0,pI .u32 0,pI .u32 0,pI .u32 0,pI .u32 0,pI .i64 0] []) (fun i=>Q7 (s.g i))) (fun i=>Q7 (s.g i)))] (al1 ⟨AV9 _,fun i _=>by simp[BW]⟩ al0))
def CA (N:Nat)(w:Sl Sound)(e:Int):Option Str:=if w.n*8<=140737488355328 then some (if e=0 then Jm w else [45])else none
theorem Ti {N:Nat}{w:Sl Sound}{e:Int}{y:Str}(h:CA N w e=some y):FunO S Gu [.p (vSl 2 A0 w),.p (pI .i64 e)] [] (.p (.str y)) [] []:=by unfold CA at h;obtain⟨c1,h⟩:=F4 h;obtain rfl:=C4 h;exact hL.text w e c1
end
end Go.AM
set_option maxRecDepth 100000
namespace Go.AM
open Go.Proofs
theorem YB (v:Value)(w:World):(Instr.typeAssert (.iface 210 v) 20 210 true).run Tryz.prog w=.ok (.tuple #[v,.bool true]) w:=by kernel_rfl
theorem Vu (p:Value)(w:World):CallsDIn Fence.wide 0 Tryz.prog S8 #[p] .returning w fun e u' w'=>e=.returned (.tuple #[])/\u' = .returning/\w' = w:=by
 refine callsDIn_of_wpSIn Tryz.func141 rfl (by simp[Fence.wide]) fun c₀ cs a=>?_;apply wpSIn_seq;apply wpSIn_region;simp[wpOpsSIn,go_sem,recoverD,a,Tryz.f141,Exit.thenS];refine wpSIn_of_wpIn rfl (wpIn_block (wpIn_seq (wpIn_region ?_)));simp[wpOpsIn,Oper.wpIn,Oper.semAt,Oper.uponIn,go_sem,Exit.then];refine wpIn_cond (t:=true) (by simp[Act.eval]) ?_;simp only[if_true];refine wpIn_region ?_;simp[wpOpsIn,Oper.wpIn,Oper.semAt,Oper.uponIn,go_sem,Exit.inBlock,bodyPostS,results];cases c₀
 simp_all
theorem Lq (p:Value)(c:Int)(older:List PanicEntry)(w w1:World)(a:(Instr.storeAt 30 p (.int .i64 c)).run Tryz.prog w=.ok () w1)(hn:∃b,p=.pointer (some b)) :CallsDIn Fence.wide 0 Tryz.prog S8 #[p] (.panicking ({ v:=.iface 210 (.int .i64 c),recovered:=false }::older)) w fun e u' w'=>
  e=.returned (.tuple #[])/\u' = .panicking ({ v:=.iface 210 (.int .i64 c),recovered:=true }::older)/\w' = w1:=by
 obtain⟨b,rfl⟩:=hn;refine callsDIn_of_wpSIn Tryz.func141 rfl (by simp[Fence.wide]) fun c₀ cs d=>?_;apply wpSIn_seq;apply wpSIn_region;simp[wpOpsSIn,go_sem,recoverD,d,Tryz.f141,Exit.thenS];refine wpSIn_of_wpIn rfl (wpIn_block (wpIn_seq (wpIn_region ?_)));simp[wpOpsIn,Oper.wpIn,Oper.semAt,Oper.uponIn,go_sem,Exit.then];refine wpIn_cond (t:=false) (by simp[Act.eval]) ?_;simp only[AT0,if_false];refine wpIn_seq (wpIn_region ?_);simp[wpOpsIn,Oper.wpIn,Oper.semAt,Oper.uponIn,go_sem,Exit.then,YB];refine wpIn_cond (t:=true) (by simp[Act.eval]) ?_;simp only[if_true];refine wpIn_seq (wpIn_region ?_);simp[wpOpsIn,Oper.wpIn,Oper.semAt,Oper.uponIn,go_sem,Exit.then];refine wpIn_region ?_;simp[wpOpsIn,Oper.wpIn,Oper.semAt,Oper.uponIn,go_sem,a,Exit.inBlock,bodyPostS,results];simp[go_sem]at a;rw[a];simp[Result.andThen]
noncomputable def AI4:Code:=match Tryz.f140.body with
 |some (.seq _ c)=>c
 |_=>.skip
theorem AE0 {S:AD}(hS:H2 S Tryz.prog){a:Sl Law}{b y:Sl Sound}(c:FunO S H8 [.p (vSl 18 B4 a),.p (vSl 2 A0 b)] [] (.p (vSl 2 A0 y)) [] []) :KG S Tryz.prog (Pt S (fun st=>K5 [0,1,2,3] st.regs [0,1,2,3]=some (Vt 0 a b (vSl 2 A0 y))) fun _ _=>False) (.code AI4 [] ⟨argEnv Ap3,objRegs (Vt 0 a b F9)⟩):=by refine B7 hS [] trivial c ?_;exact K_upN hS trivial ⟨[],[(3,.cells [.p (vSl 2 A0 y)]),(2,.cells [.p (vSl 2 A0 b)]),(1,.cells [.p (vSl 18 B4 a)]),(0,.cells [pN 0])]⟩ (ids:=[(0,0),(1,1),(2,2),(3,3)]) rfl
theorem Ac7 {S:AD}(hS:H2 S Tryz.prog){a:Sl Law}{b:Sl Sound}{c:Int}(d:S.F H8 [.p (vSl 18 B4 a),.p (vSl 2 A0 b)] [] fun res o k=>res=.panic (.iface 210 (pI .i64 c))/\o=[]/\k=[]) :KG S Tryz.prog (Pt S (fun _=>False) fun x st=>x=.iface 210 (pI .i64 c)/\store Tryz.prog st.regs 30 (.reg 0 0) (.p (pI .i64 c))=some ([],ins 0 (.cells [pN c]) st.regs)/\K5 [0,1,2,3] (ins 0 (.cells [pN c]) st.regs) [0,1,2,3]=some (Vt c a b F9)) (.code AI4 [] ⟨argEnv Ap3,objRegs (Vt 0 a b F9)⟩):=by refine AD4 hS [] trivial d ?_;exact K_upP hS trivial ⟨rfl,by kernel_rfl,by kernel_rfl⟩
noncomputable def att1:Code:=match Tryz.f140.body with
 |some (.seq c _)=>c
 |_=>.skip
noncomputable def attOps:Array Oper:=match AI4 with
 |.region _ ops _=>ops
 |_=>#[]
theorem Xa:AI4=.region 1 attOps false:=by kernel_rfl
theorem AP2:attOps.toList.all (Hv 7 attOps.toList)=true:=by kernel_rfl
theorem Ap4:¬Tryz.f140.name = "runtime.NumGoroutine" := by decide +kernel
theorem Xb:Tryz.f140.body=some (.seq att1 AI4):=by kernel_rfl
theorem AE1 {C:Ctx}{vs:Array Value}{w:World}{rho:Nat->Value}{args:List AV}{objs:List Obj}{n:Nat}(hS:Sat C ⟨argEnv args,objRegs objs⟩ ⟨vs,[]⟩ w rho)(a:vs.size=args.length) :Sat C ⟨argEnv args,objRegs objs⟩ { tmps:=vs++Array.replicate n undef,defers:=[] } w rho:=by
 refine⟨hS.toSatE,fun t=>?_,hS.pin,hS.marks⟩
 have:=hS.env t
 by_cases ht:t<vs.size
 ·simpa[AS3,AZ9,ht]using this
 ·show RepA w _ _ _ _ (get (argEnv args) t);rw[Bm,AS1,AW9 (by omega)];exact .top _
theorem Ni {R:St->Prop}{X:PV->St->Prop}{a:Sl Law}{b:Sl Sound}{objs' : List Obj}
 (a1:KG (Hn Tryz.prog) Tryz.prog (Pt (Hn Tryz.prog) R X) (.code AI4 [] ⟨argEnv Ap3,objRegs (Vt 0 a b F9)⟩))
 (hR:∀st,R st->K5 [0,1,2,3] st.regs [0,1,2,3]=some objs')
 (hX:∀x st,X x st->∃c regs',x=.iface 210 (pI .i64 c)/\store Tryz.prog st.regs 30 (.reg 0 0) (.p (pI .i64 c))=some ([],regs')/\K5 [0,1,2,3] regs' [0,1,2,3]=some objs') :
 FunO (Hn Tryz.prog) I8 Ap3 (Vt 0 a b F9) (.tup []) objs' [true,true,true,true]:=by
 intro 𝒢 C w vs rho hG hS t;obtain⟨l⟩:=vs
 match l,t with
 |[v0,v1,v2,v3],t=>?_
 refine⟨.enter I8 #[v0,v1,v2,v3],w,by simp[callFunc,Tryz.func140,Xb,Ap4],?_⟩;refine callsIn_of_wp_marks Tryz.func140 Xb trivial ?_;have a2:=AE1 (n:=Tryz.f140.ntmps-4) hS t;have a9:Tryz.f140.ntmps-4=3:=rfl;rw[a9]at a2;have b1:((#[v0,v1,v2,v3]:Array Value)++Array.replicate 3 undef).size=7:=rfl;have hw:JL (Hn Tryz.prog) Tryz.prog attOps.toList attOps.toList (Pt (Hn Tryz.prog) R X) ⟨argEnv Ap3,objRegs (Vt 0 a b F9)⟩:=by
  have:=a1.out
  rw[Xa]at this;simpa only[G,awp,kp,AT0,if_false]using this
 have a4:=Mk (𝒢:=𝒢.fix C.rho0) (n:=7) (ro:=none) (ops:=attOps) AP2 attOps.toList 0 rfl (by simp) ⟨hG,rfl⟩ a2 b1 hw;have a5:=IU [{ target:=.fn (.func S8) #[],args:=#[v0] }] _ _ _ a4;rw[Bh4]at a5;obtain⟨b0,a6,u⟩:∃b0,v0=.pointer (some ⟨b0,0,none⟩)/\rho 0=.pointer (some ⟨b0,0,none⟩):=by
  have h0:RepA w _ _ rho v0 (.reg 0 0):=hS.env 0;cases h0 with
  |reg _ _ b0 _ h=>exact⟨b0,rfl,h⟩
 have s:∀{C' : Ctx}{st' : St}{a' : Act}{w' : World}{rho' : Nat->Value},(𝒢.fix C.rho0).G C' -> Sat C' st' a' w' rho' -> K5 [0,1,2,3] st'.regs [0,1,2,3]=some objs' ->
  LeavesInM Fence.wide 0 Tryz.prog Tryz.f140 a'.tmps (fun e w'=>∃C' r objs0 ks rho', 𝒢.G C' /\ (r=.ret (.tup [])/\objs0=objs' /\ ks=[true,true,true,true])/\SatE C' (objRegs objs0) w' rho' /\
   AA3 w' (Prv C'.X (A1 (objRegs objs0)) rho') (Lv (A1 (objRegs objs0))) rho' e r/\∀i:Nat,ks[i]? = some true->i<objs0.length/\rho' i=rho i) [] .returning w':=by
  intro C' st' a' w' rho' d f m;obtain⟨g1,g2,g3⟩:=Ml f (by decide) m;obtain⟨hl,hg⟩:=Z7 m;refine⟨.tuple #[],by simp[results,Tryz.f140],C', .ret (.tup []),objs',_,_,d.1,⟨rfl,rfl,rfl⟩,g1,⟨_,rfl,.tup _ _ rfl fun i hi=>absurd hi (by simp)⟩,?_⟩;intro i hi;have y:i<4:=by
   have:=(AT4.1 hi).1
   simpa using this
  refine⟨by rw[hl];exact y,?_⟩;have e1:[0,1,2,3][i]? = some i:=by
   match i,y with
   |0,_=>rfl
   |1,_=>rfl
   |2,_=>rfl
   |3,_=>rfl
  obtain⟨o,_,ho,_⟩:=hg i i e1;show rho' ([0,1,2,3].getD i 0)=rho i;rw[CM e1,f.pin i (by omega) (by simp[Lv,ho]),d.2];refine (hS.pin i (by omega) ?_).symm;rw[Lv,D1]
  match i,y with
  |0,_=>rfl
  |1,_=>rfl
  |2,_=>rfl
  |3,_=>rfl
 generalize hQ:bodyPostM _ _ _ _ _=QQ;refine wpIn_seq ?_;simp only[att1,Tryz.f140];refine wpIn_region ?_;simp[wpOpsIn,Oper.wpIn,Oper.semAt,Oper.uponIn,go_sem,Exit.then];subst hQ;rw[Xa];refine wpIn_mono (wpIn_region (F:=FW none) a5) ?_;rintro e a' w' ⟨a0,rfl,z⟩;cases e with
 |exit id=>obtain⟨_,_,_,_,_,_,h⟩:=z;exact h.elim
 |goto l=>obtain⟨_,_,_,_,_,_,h⟩:=z;exact h.elim
 |ret=>obtain⟨_,_,_,_,_,_,h⟩:=z;exact h.elim
 |outgrown=>exact z.elim
 |normal=>
  obtain⟨C',st',rho',d,f,a7,hu⟩:=z;obtain⟨st2,rho2,hR2,_,hs2⟩:=hu C' a0 w' rho' f;refine Fq (C:=C') (st:=st2) (rho:=rho2) (by simp) ?_ a0.defers a0 w' rfl rfl hs2;intro a3 w3 q ht;refine⟨by simp,.inr ⟨by simp[Fence.wide],_,_,S8,#[v0],rfl,by simp[go_sem],fun _ _=>trivial,?_⟩⟩;refine (Vu v0 w3).mono ?_;rintro e u' w4 ⟨rfl,rfl,rfl⟩
  have:=s d q (hR st2 hR2)
  rw[ht]at this;exact this
 |panic chain=>
  obtain⟨C',st',rho',v,x,rfl,d,f,a7,hv,hXx⟩:=z;obtain⟨c,regs',rfl,g,m⟩:=hX x st' hXx;obtain rfl:v=.iface 210 (.int .i64 c):=by
   cases hv with
   |iface _ _ _ h=>cases h;rfl
  refine Fq (C:=C') (st:=st') (rho:=rho') (by simp) ?_ a0.defers a0 w' rfl rfl f;intro a3 w3 q ht;have j:Lv (A1 st'.regs) 0:=by
   cases hj:A1 st'.regs 0 with
   |some o=>simp[Lv,hj]
   |none=>
    unfold store at g;split at g
    ·simp[hj]at g
    ·cases g
  have hr0:rho' 0=.pointer (some ⟨b0,0,none⟩):=by rw[q.pin 0 (by omega) j,d.2,<- u];exact (hS.pin 0 (by omega) rfl).symm
  have hva:RS C' st' w3 rho' v0 (.reg 0 0):=by rw[a6];exact .reg 0 0 b0 j hr0
  obtain⟨w4,a8,hs4,_⟩:=Ma q (vx:=.int .i64 c) hva (.p _ _ (.v _)) g trivial;refine⟨by simp,.inr ⟨by simp[Fence.wide],_,_,S8,#[v0],rfl,by simp[go_sem],fun _ _=>trivial,?_⟩⟩;refine (Lq v0 c [] w3 w4 a8 ⟨_,a6⟩).mono ?_;rintro e u' w5 ⟨rfl,rfl,rfl⟩
  have:=s d hs4 m
  rw[ht]at this;exact this
theorem Vv {a:Sl Law}{b y:Sl Sound}(c:FunO (Hn Tryz.prog) H8 [.p (vSl 18 B4 a),.p (vSl 2 A0 b)] [] (.p (vSl 2 A0 y)) [] []) :FunO (Hn Tryz.prog) I8 Ap3 (Vt 0 a b F9) (.tup []) (Vt 0 a b (vSl 2 A0 y)) [true,true,true,true]:=
 Ni (AE0 (AH9 Tryz.prog) c) (fun st h=>h) (fun x st h=>h.elim)
theorem QZ {a:Sl Law}{b:Sl Sound}{c:Int}(d:(Hn Tryz.prog).F H8 [.p (vSl 18 B4 a),.p (vSl 2 A0 b)] [] fun res o k=>res=.panic (.iface 210 (pI .i64 c))/\o=[]/\k=[]) :FunO (Hn Tryz.prog) I8 Ap3 (Vt 0 a b F9) (.tup []) (Vt c a b F9) [true,true,true,true]:=
 Ni (Ac7 (AH9 Tryz.prog) d) (fun st h=>h.elim) (fun x st h=>⟨c,_,h.1,h.2.1,h.2.2⟩)
end Go.AM
namespace Go.AM
open IntKind (wrap)
open Go.Proofs
set_option maxRecDepth 10000
set_option maxHeartbeats 2000000
variable {S:AD}(hS:H2 S Tryz.prog) (hL:PF S)
include hS hL
def G6 (N:Nat)(a:Sound):Option Bool:=
 some (((C9 .and .u32 a.Plus a.Minus)==0)&&(decide ((C9 .or .u32 a.Plus a.Minus)<=16777215)))
theorem Q9 {N:Nat}{b:Sound}{y:Bool}(h:G6 N b=some y) :FunO S Jd [.p (.agg (A0 b))] [] (pB y) ([]) []:=by unfold G6 at h;refine A2 hS Tryz.func120 ?_;refine kB hS (A6 hS) trivial trivial 7 (.n (.a ((C9 .and .u32 b.Plus b.Minus)==0)) (.a (decide ((C9 .or .u32 b.Plus b.Minus)<=16777215)))) ?_;cases h;exact kR hS
def J4 (N:Nat)(b:Sound)(a:Sound):Option Bool:=
 (G6 N b).bind fun y1=>
 lt (fun (z1:Bool)=>
  some z1
  ) fun k1=>
  if y1 then
   (G6 N a).bind fun y3=>
   if y3 then
    if ((C9 .andNot .u32 a.Plus b.Plus)==0) then
     k1 ((C9 .andNot .u32 a.Minus b.Minus)==0)
    else
     k1 false
   else
    k1 false
  else
   k1 false
theorem Kf {N:Nat}{c:Sound}{a:Sound}{y:Bool}(h:J4 N c a=some y) :FunO S EP [.p (.agg (A0 c)),.p (.agg (A0 a))] [] (pB y) ([]) []:=by
 unfold J4 at h;refine A2 hS Tryz.func209 ?_;refine kC hS h (Q9 hS hL) (fun y1 h=>?_);refine JM hS trivial (A6 hS) h 0 (fun z1=>⟨[(4,pB z1)],[]⟩) (fun M1 k1 b h=>?_) (fun z1 h=>?_)
 ·refine kG hS h (fun h=>?_) (fun h=>?_)
  ·refine kC hS h (Q9 hS hL) (fun y3 h=>?_);refine kG hS h (fun h=>?_) (fun h=>?_)
   ·refine kG hS h (fun h=>?_) (fun h=>?_)
    ·exact b _ [] _ ((C9 .andNot .u32 a.Minus c.Minus)==0) trivial h
    ·exact b _ [] _ false trivial h
   ·exact b _ [] _ false trivial h
  ·exact b _ [] _ false trivial h
 ·cases h;exact kR hS
def DA (N:Nat)(a:Sound):Option Int:=
 some (C9 .or .u32 a.Plus a.Minus)
theorem Nj {N:Nat}{a:Sound}{y:Int}(h:DA N a=some y) :FunO S Na [.p (.agg (A0 a))] [] (pU y) ([]) []:=by unfold DA at h;refine A2 hS Tryz.func220 ?_;cases h;exact kR hS
def Cf (N:Nat)(c:Sound)(b:Sound)(a:Int):Option Sound:=
 some (⟨C9 .or .u32 (C9 .andNot .u32 c.Plus a) (C9 .and .u32 b.Plus a),C9 .or .u32 (C9 .andNot .u32 c.Minus a) (C9 .and .u32 b.Minus a)⟩:Sound)
theorem Nk {N:Nat}{c:Sound}{a:Sound}{b:Int}{y:Sound}(h:Cf N c a b=some y) :FunO S Nb [.p (.agg (A0 c)),.p (.agg (A0 a)),pU b] [] (.p (.agg (A0 y))) ([]) []:=by unfold Cf at h;refine A2 hS Tryz.func221 ?_;cases h;exact kR hS
def O8 (N:Nat)(c:Sound)(a:Int)(b:Sound):Option (Sound×Int):=
 (G6 N c).bind fun y1=>
 lt (fun (z1:Bool)=>
  if z1 then
   some ((⟨0,0⟩:Sound),14)
  else
   lt (fun (z2:Bool)=>
    if z2 then
     some ((⟨0,0⟩:Sound),2)
    else
     (DA N b).bind fun y6=>
     (Cf N c b (C9 .or .u32 a y6)).bind fun y7=>
     some (y7,0)
    ) fun k2=>
    if (decide (16777215<a)) then
     k2 true
    else
     (DA N b).bind fun y5=>
     k2 ((C9 .and .u32 a y5) != 0)
  ) fun k1=>
  if (!y1) then
   k1 true
  else
   (G6 N b).bind fun y3=>
   k1 (!y3)
theorem Oz {N:Nat}{c:Sound}{a:Int}{b:Sound}{y:Sound×Int}(h:O8 N c a b=some y) :FunO S HM [.p (.agg (A0 c)),pU a,.p (.agg (A0 b))] [] (.tup [.p (.agg (A0 y.1)),pN y.2]) ([]) []:=by
 unfold O8 at h;refine A2 hS Tryz.func211 ?_;refine I7 hS trivial 5 4000 [pI .u32 c.Plus,pI .u32 c.Minus] ?_;refine I7 hS trivial 6 6000 [pI .u32 b.Plus,pI .u32 b.Minus] ?_;obtain⟨y1,e1,h⟩:=B9 h;refine B7 hS [] (by decide:(2:Nat)<=2) (Q9 hS hL e1) ?_;refine JM hS trivial (A6 hS) h 0 (fun z1=>⟨[(15,pB z1),(6,.reg 7000 0),(5,.p (.ptr [pI .u32 b.Plus,pI .u32 b.Minus])),(3,.p (.ptr [pI .u32 c.Plus,pI .u32 c.Minus])),(1,pU a)],[(7000,.cells [pU 0,pU 0])]⟩) (fun M1 k1 d h=>?_) (fun z1 h=>?_)
 ·refine kG hS h (fun h=>?_) (fun h=>?_)
  ·exact d _ [(7000,7000)] _ true trivial h
  ·obtain⟨y3,e3,h⟩:=B9 h;refine B7 hS [] (by decide:(2:Nat)<=2) (Q9 hS hL e3) ?_;exact d _ [(7000,7000)] _ (!y3) trivial h
 ·refine kI hS h ?_ ?_<;>intro h
  ·cases h;exact kR hS
  ·refine JM hS trivial (A6 hS) h 0 (fun z2=>⟨[(25,pB z2),(6,.reg 7000 0),(5,.p (.ptr [pI .u32 b.Plus,pI .u32 b.Minus])),(3,.p (.ptr [pI .u32 c.Plus,pI .u32 c.Minus])),(1,pU a)],[(7000,.cells [pU 0,pU 0])]⟩) (fun M2 k2 f h=>?_) (fun z2 h=>?_)
   ·refine kG hS h (fun h=>?_) (fun h=>?_)
    ·exact f _ [(7000,7000)] _ true trivial h
    ·obtain⟨y5,e5,h⟩:=B9 h;refine B7 hS [] (by decide:(2:Nat)<=2) (Nj hS hL e5) ?_;exact f _ [(7000,7000)] _ ((C9 .and .u32 a y5) != 0) trivial h
   ·refine kI hS h ?_ ?_<;>intro h
    ·cases h;exact kR hS
    ·refine H7 hS trivial [0,1,3,4,6] ?_;obtain⟨y6,e6,h⟩:=B9 h;refine BB (And.intro (And.intro (by decide:(2:Nat)<=2) (by decide:(2:Nat)<=2)) (by decide:(2:Nat)<=2)) (Nj hS hL e6) ?_;obtain⟨y7,e7,h⟩:=B9 h;refine BB trivial (Nk hS hL e7) ?_;refine P7 trivial ?_;cases h;exact kR hS
def T2 (N:Nat)(c:Sound)(a:Sound)(b:Int):Option (Sound×Int):=
 (G6 N c).bind fun y1=>
 lt (fun (z1:Bool)=>
  if z1 then
   some ((⟨0,0⟩:Sound),14)
  else
   if (decide (16777215<b)) then
    some ((⟨0,0⟩:Sound),2)
   else
    (Cf N c a b).bind fun y4=>
    some (y4,0)
  ) fun k1=>
  if (!y1) then
   k1 true
  else
   (G6 N a).bind fun y3=>
   k1 (!y3)
theorem Tj {N:Nat}{c:Sound}{a:Sound}{b:Int}{y:Sound×Int}(h:T2 N c a b=some y) :FunO S KX [.p (.agg (A0 c)),.p (.agg (A0 a)),pU b] [] (.tup [.p (.agg (A0 y.1)),pN y.2]) ([]) []:=by
 unfold T2 at h;refine A2 hS Tryz.func212 ?_;refine kC hS h (Q9 hS hL) (fun y1 h=>?_);refine JM hS trivial (A6 hS) h 0 (fun z1=>⟨[(15,pB z1),(6,.reg 7000 0),(4,.reg 5000 0),(3,.reg 4000 0),(2,pU b)],[(7000,.cells [pU 0,pU 0]),(5000,.cells [pU a.Plus,pU a.Minus]),(4000,.cells [pU c.Plus,pU c.Minus])]⟩) (fun M1 k1 d h=>?_) (fun z1 h=>?_)
 ·refine kG hS h (fun h=>?_) (fun h=>?_)
  ·exact d _ [(4000,4000),(5000,5000),(7000,7000)] _ true trivial h
  ·refine kC hS h (Q9 hS hL) (fun y3 h=>?_);exact d _ [(4000,4000),(5000,5000),(7000,7000)] _ (!y3) trivial h
 ·refine kI hS h ?_ ?_<;>intro h
  ·cases h;exact kR hS
  ·refine kI hS h ?_ ?_<;>intro h
   ·cases h;exact kR hS
   ·refine kC hS h (Nk hS hL) (fun y4 h=>?_);cases h;exact kR hS
def I0 (N:Nat)(a:Sound):Option Bool:=
 V9 N (fun b (x1:Int)=>
  if (decide (x1<32)) then
   if ((0:Int)<=x1/\(0:Int)<=x1)then
    if ((((C9 .and .u32 (shI .shr .u32 a.Plus x1) 1)==1)&&((C9 .and .u32 (shI .shr .u32 a.Minus x1) 1)==1))||((((C9 .and .u32 (shI .shr .u32 a.Plus x1) 1)==1)||((C9 .and .u32 (shI .shr .u32 a.Minus x1) 1)==1))&&(decide (24<=x1)))) then
     some false
    else
     b (wrap .i64 (x1+1))
   else none
  else
   some true
  ) 0
theorem Nl {N:Nat}{b:Sound}{y:Bool}(h:I0 N b=some y) :FunO S MU [.p (.agg (A0 b))] [] (pB y) ([]) []:=by
 unfold I0 at h;refine A2 hS Tryz.func136 ?_;refine N7 hS trivial h (fun x1=>⟨[(3,pN x1),(1,.reg 2000 0)],[(2000,.cells [pU b.Plus,pU b.Minus])]⟩) (ids:=[(2000,2000)]) (fun _ _ _ _ _ c x1 d h=>?_);refine kI hS h ?_ ?_<;>intro h
 ·obtain⟨c7,h⟩:=F4 h;refine kB hS (A6 hS) c7 trivial 12 (.o (.n (.a ((C9 .and .u32 (shI .shr .u32 b.Plus x1) 1)==1)) (.a ((C9 .and .u32 (shI .shr .u32 b.Minus x1) 1)==1))) (.n (.o (.a ((C9 .and .u32 (shI .shr .u32 b.Plus x1) 1)==1)) (.a ((C9 .and .u32 (shI .shr .u32 b.Minus x1) 1)==1))) (.a (decide (24<=x1))))) ?_;refine kI hS h ?_ ?_<;>intro h
  ·cases h;exact kR hS
  ·exact d _ [(2000,2000)] _ (wrap .i64 (x1+1)) trivial h
 ·cases h;exact kR hS
def Jn (N:Nat)(a:Int):Option Bool:=
 some ((decide (0<=a))&&(decide (a<24)))
def BG (N:Nat)(b:Sound)(a:Int):Option Int:=
 (I0 N b).bind fun y1=>
 lt (fun (z1:Bool)=>
  if z1 then
   some 0
  else
   if (0:Int)<=a then
    if ((C9 .and .u32 (shI .shr .u32 b.Plus a) 1)==1) then
     some 1
    else
     if (0:Int)<=a then
      if ((C9 .and .u32 (shI .shr .u32 b.Minus a) 1)==1) then
       some (-1)
      else
       some 0
     else none
   else none
  ) fun k1=>
  if (!y1) then
   k1 true
  else
   (Jn N a).bind fun y3=>
   k1 (!y3)
def ER (N:Nat)(b:Sound)(a:Int)(c:Int):Option Sound:=
 if (0:Int)<=a then
  if (c==1) then
   if (c==(-1)) then
    some (⟨C9 .or .u32 (C9 .andNot .u32 b.Plus (shI .shl .u32 1 a)) (shI .shl .u32 1 a),C9 .or .u32 (C9 .andNot .u32 b.Minus (shI .shl .u32 1 a)) (shI .shl .u32 1 a)⟩:Sound)
   else
    some (⟨C9 .or .u32 (C9 .andNot .u32 b.Plus (shI .shl .u32 1 a)) (shI .shl .u32 1 a),C9 .andNot .u32 b.Minus (shI .shl .u32 1 a)⟩:Sound)
  else
   if (c==(-1)) then
    some (⟨C9 .andNot .u32 b.Plus (shI .shl .u32 1 a),C9 .or .u32 (C9 .andNot .u32 b.Minus (shI .shl .u32 1 a)) (shI .shl .u32 1 a)⟩:Sound)
   else
    some (⟨C9 .andNot .u32 b.Plus (shI .shl .u32 1 a),C9 .andNot .u32 b.Minus (shI .shl .u32 1 a)⟩:Sound)
 else none
def X5 (N:Nat)(c:Sound)(a:Sound):Option Bool:=
 (I0 N c).bind fun y1=>
 lt (fun (z1:Bool)=>
  if z1 then
   some false
  else
   V9 N (fun b (x3:Int)=>
    if (decide (x3<24)) then
     (BG N a x3).bind fun d=>
     lt (fun (z4:Bool)=>
      if z4 then
       some false
      else
       b (wrap .i64 (x3+1))
      ) fun k4=>
      if (d != 0) then
       (BG N c x3).bind fun f=>
       k4 (f != d)
      else
       k4 false
    else
     some true
    ) 0
  ) fun k1=>
  if (!y1) then
   k1 true
  else
   (I0 N a).bind fun y3=>
   k1 (!y3)
def X6 (N:Nat)(d:Sound)(b:Int)(a:Sound):Option (Sound×Int):=
 (I0 N d).bind fun y1=>
 lt (fun (z1:Bool)=>
  if z1 then
   some ((⟨0,0⟩:Sound),14)
  else
   if ((decide (16777215<b))||((C9 .and .u32 b (C9 .or .u32 a.Plus a.Minus)) != 0)) then
    some ((⟨0,0⟩:Sound),2)
   else
    Aa6 N (fun c (x2:Int) (x3:Int) (x4:Int)=>
     if (decide (x4<24)) then
      if (0:Int)<=x4 then
       if ((C9 .and .u32 (shI .shr .u32 b x4) 1)==1) then
        (ER N (⟨x2,x3⟩:Sound) x4 0).bind fun f=>
        (BG N a x4).bind fun j=>
        if (j != 0) then
         (BG N a x4).bind fun l=>
         (ER N f x4 l).bind fun g=>
         c g.Plus g.Minus (wrap .i64 (x4+1))
        else
         c f.Plus f.Minus (wrap .i64 (x4+1))
       else
        (BG N a x4).bind fun m=>
        if (m != 0) then
         (BG N a x4).bind fun n=>
         (ER N (⟨x2,x3⟩:Sound) x4 n).bind fun i=>
         c i.Plus i.Minus (wrap .i64 (x4+1))
        else
         c x2 x3 (wrap .i64 (x4+1))
      else none
     else
      some ((⟨x2,x3⟩:Sound),0)
     ) d.Plus d.Minus 0
  ) fun k1=>
  if (!y1) then
   k1 true
  else
   (I0 N a).bind fun y3=>
   k1 (!y3)
def Cg (N:Nat)(d:Sound)(a:Sound)(b:Int):Option (Sound×Int):=
 (I0 N d).bind fun y1=>
 lt (fun (z1:Bool)=>
  if z1 then
   some ((⟨0,0⟩:Sound),14)
  else
   if (decide (16777215<b)) then
    some ((⟨0,0⟩:Sound),2)
   else
    Aa6 N (fun c (x2:Int) (x3:Int) (x4:Int)=>
     if (decide (x4<24)) then
      if (0:Int)<=x4 then
       if ((C9 .and .u32 (shI .shr .u32 b x4) 1)==1) then
        (BG N a x4).bind fun y8=>
        (ER N (⟨x2,x3⟩:Sound) x4 y8).bind fun y9=>
        c y9.Plus y9.Minus (wrap .i64 (x4+1))
       else
        c x2 x3 (wrap .i64 (x4+1))
      else none
     else
      some ((⟨x2,x3⟩:Sound),0)
     ) d.Plus d.Minus 0
  ) fun k1=>
  if (!y1) then
   k1 true
  else
   (I0 N a).bind fun y3=>
   k1 (!y3)
def R7 (N:Nat)(a:Sound):Option Bool:=
 some ((((C9 .and .u32 a.Plus a.Minus)==0)&&(decide (a.Plus<16777216)))&&(decide (a.Minus<16777216)))
theorem Vw {N:Nat}{b:Sound}{y:Bool}(h:R7 N b=some y) :FunO S MV [.p (.agg (A0 b))] [] (pB y) ([]) []:=by unfold R7 at h;refine A2 hS Tryz.func143 ?_;refine kB hS (A6 hS) trivial trivial 9 (.n (.n (.a ((C9 .and .u32 b.Plus b.Minus)==0)) (.a (decide (b.Plus<16777216)))) (.a (decide (b.Minus<16777216)))) ?_;cases h;exact kR hS
def DB (N:Nat)(a:Sl Sound):Option Int:=
 if (decide (32<(a.n:Int))) then
  some 11
 else
  V9 N (fun b (x1:Int)=>
   if (decide (x1<(a.n:Int))) then
    if ((0:Int)<=x1/\x1<(a.n:Int))then
     (R7 N (a.g x1.toNat)).bind fun y3=>
     if (!y3) then
      some 14
     else
      b (wrap .i64 (x1+1))
    else none
   else
    some 0
   ) 0
def Nm (N:Nat)(a:Sl Sound)(b:Sl Sound):Option Bool:=
 if ((a.n:Int) != (b.n:Int)) then
  some false
 else
  V9 N (fun c (x1:Int)=>
   if (decide (x1<(a.n:Int))) then
    if (((0:Int)<=x1/\x1<(a.n:Int))/\((0:Int)<=x1/\x1<(b.n:Int)))then
     if ((((a.g x1.toNat).Plus==(b.g x1.toNat).Plus)&&((a.g x1.toNat).Minus==(b.g x1.toNat).Minus)) != true) then
      some false
     else
      c (wrap .i64 (x1+1))
    else none
   else
    some true
   ) 0
theorem AE2 {N:Nat}{a:Sl Sound}{b:Sl Sound}{y:Bool}(h:Nm N a b=some y) :FunO S MJ [.p (vSl 2 A0 a),.p (vSl 2 A0 b)] [] (pB y) ([]) []:=by
 unfold Nm at h;refine A2 hS Tryz.func81 ?_;refine kI hS h ?_ ?_<;>intro h
 ·cases h;exact kR hS
 ·refine N7 hS trivial h (fun x1=>⟨[(5,pN x1),(1,.p (vSl 2 A0 b)),(0,.p (vSl 2 A0 a))],[]⟩) (ids:=[]) (fun _ _ _ _ _ c x1 d h=>?_);refine kI hS h ?_ ?_<;>intro h
  ·refine H7 hS trivial [2,3,6,7] ?_;obtain⟨c9,h⟩:=F4 h;refine P7 (And.intro (And.intro (And.intro (And.intro c9.1 (by decide:(2:Nat)<=2)) c9.2) (by decide:(2:Nat)<=2)) (by decide +kernel:At8 Tryz.prog D2=true)) ?_;refine kI hS h ?_ ?_<;>intro h
   ·cases h;exact kR hS
   ·exact d _ [] _ (wrap .i64 (x1+1)) trivial h
  ·cases h;exact kR hS
def He (N:Nat)(a:Sl Sound):Option (Sl Sound):=
 P4 N (fun b (x1:Sl Sound) (x2:Int)=>
  if (decide (x2<(a.n:Int))) then
   if (((0:Int)<=x2/\x2<(a.n:Int))/\((x1.n+(Sl.of [a.g x2.toNat]:Sl Sound).n)*8<=140737488355328/\x1.n+(Sl.of [a.g x2.toNat]:Sl Sound).n<=140737488355328))then
    b (x1.push (a.g x2.toNat)) (wrap .i64 (x2+1))
   else none
  else
   some x1
  ) (Sl.nil:Sl Sound) 0
def Bn (N:Nat)(a:Sound):Option Bool:=
 some (((C9 .and .u32 a.Plus a.Minus)==0)&&((shI .shr .u32 (C9 .or .u32 a.Plus a.Minus) 24)==0))
theorem Tk {N:Nat}{a:Sound}{y:Bool}(h:Bn N a=some y) :FunO S KR [.p (.agg (A0 a))] [] (pB y) ([]) []:=by
 unfold Bn at h;refine A2 hS Tryz.func108 ?_;obtain⟨t1,c⟩:∃x:Bool,x=(((C9 .and .u32 a.Plus a.Minus)==0)&&((shI .shr .u32 (C9 .or .u32 a.Plus a.Minus) 24)==0)):=⟨_,rfl⟩;refine UO hS trivial (A6 hS) 0 ⟨[(2,pB t1)],[]⟩ (fun M1 d=>?_) ?_
 ·refine Gn hS trivial (b:=(C9 .and .u32 a.Plus a.Minus)==0) (fun c2=>?_) (fun c2=>?_)
  ·exact d _ [] _ (by decide:(0:Int)<=24) (hle:=klR [(0,.eq (.bb ((shI .shr .u32 (C9 .or .u32 a.Plus a.Minus) 24)==0)) (.bb t1))] (al1 (by simp only[c,c2,Leaf.ok,pm,if_true,if_false]) al0))
  ·exact d _ [] _ trivial (hle:=klR [(0,.eq (.bb false) (.bb t1))] (al1 (by simp only[c,c2,Leaf.ok,pm,if_true,if_false]) al0))
 ·subst c;cases h;exact kR hS
def T3 (N:Nat)(a:Sl Sound):Option Int:=
 if (decide (32<(a.n:Int))) then
  some 11
 else
  V9 N (fun b (x1:Int)=>
   if (decide (x1<(a.n:Int))) then
    if ((0:Int)<=x1/\x1<(a.n:Int))then
     (Bn N (a.g x1.toNat)).bind fun y3=>
     if (!y3) then
      some 14
     else
      b (wrap .i64 (x1+1))
    else none
   else
    some 0
   ) 0
theorem Ee {N:Nat}{a:Sl Sound}{y:Int}(h:T3 N a=some y) :FunO S KO [.p (vSl 2 A0 a)] [] (pN y) ([]) []:=by
 unfold T3 at h;refine A2 hS Tryz.func75 ?_;refine kI hS h ?_ ?_<;>intro h
 ·cases h;exact kR hS
 ·refine N7 hS trivial h (fun x1=>⟨[(10,pN x1),(9,pN (a.n:Int)),(8,.p (vSl 2 A0 a))],[]⟩) (ids:=[]) (fun _ _ _ _ _ b x1 c h=>?_);refine kI hS h ?_ ?_<;>intro h
  ·obtain⟨c9,h⟩:=F4 h;obtain⟨y3,e3,h⟩:=B9 h;refine B7 hS [] (And.intro c9 (by decide:(2:Nat)<=2)) (Tk hS hL e3) ?_;refine kI hS h ?_ ?_<;>intro h
   ·cases h;exact kR hS
   ·exact c _ [] _ (wrap .i64 (x1+1)) trivial h
  ·cases h;exact kR hS
def E5 (N:Nat)(a:Sl Sound)(b:Sl Sound):Option Bool:=
 if ((a.n:Int) != (b.n:Int)) then
  some false
 else
  V9 N (fun c (x1:Int)=>
   if (decide (x1<(a.n:Int))) then
    if (((0:Int)<=x1/\x1<(a.n:Int))/\((0:Int)<=x1/\x1<(b.n:Int)))then
     if ((((a.g x1.toNat).Plus==(b.g x1.toNat).Plus)&&((a.g x1.toNat).Minus==(b.g x1.toNat).Minus)) != true) then
      some false
     else
      c (wrap .i64 (x1+1))
    else none
   else
    some true
   ) 0
theorem Ay {N:Nat}{a:Sl Sound}{b:Sl Sound}{y:Bool}(h:E5 N a b=some y) :FunO S N8 [.p (vSl 2 A0 a),.p (vSl 2 A0 b)] [] (pB y) ([]) []:=by
 unfold E5 at h;refine A2 hS Tryz.func43 ?_;refine kI hS h ?_ ?_<;>intro h
 ·cases h;exact kR hS
 ·refine N7 hS trivial h (fun x1=>⟨[(13,pN x1),(12,pN (a.n:Int)),(1,.p (vSl 2 A0 b)),(0,.p (vSl 2 A0 a))],[]⟩) (ids:=[]) (fun _ _ _ _ _ c x1 d h=>?_);refine kI hS h ?_ ?_<;>intro h
  ·refine H7 hS trivial [2,3,6,7] ?_;obtain⟨c9,h⟩:=F4 h;refine P7 (And.intro (And.intro (And.intro (And.intro c9.1 (by decide:(2:Nat)<=2)) c9.2) (by decide:(2:Nat)<=2)) (by decide +kernel:At8 Tryz.prog D2=true)) ?_;refine kI hS h ?_ ?_<;>intro h
   ·cases h;exact kR hS
   ·exact d _ [] _ (wrap .i64 (x1+1)) trivial h
  ·cases h;exact kR hS
def O9 (N:Nat)(a:Sound):Option Bool:=
 some (((C9 .and .u32 a.Plus a.Minus)==0)&&((shI .shr .u32 (C9 .or .u32 a.Plus a.Minus) 24)==0))
theorem Ef {N:Nat}{a:Sound}{y:Bool}(h:O9 N a=some y) :FunO S KV [.p (.agg (A0 a))] [] (pB y) ([]) []:=by
 unfold O9 at h;refine A2 hS Tryz.func171 ?_;obtain⟨t1,c⟩:∃x:Bool,x=(((C9 .and .u32 a.Plus a.Minus)==0)&&((shI .shr .u32 (C9 .or .u32 a.Plus a.Minus) 24)==0)):=⟨_,rfl⟩;refine UO hS trivial (A6 hS) 0 ⟨[(2,pB t1)],[]⟩ (fun M1 d=>?_) ?_
 ·refine Gn hS trivial (b:=(C9 .and .u32 a.Plus a.Minus)==0) (fun c2=>?_) (fun c2=>?_)
  ·exact d _ [] _ (by decide:(0:Int)<=24) (hle:=klR [(0,.eq (.bb ((shI .shr .u32 (C9 .or .u32 a.Plus a.Minus) 24)==0)) (.bb t1))] (al1 (by simp only[c,c2,Leaf.ok,pm,if_true,if_false]) al0))
  ·exact d _ [] _ trivial (hle:=klR [(0,.eq (.bb false) (.bb t1))] (al1 (by simp only[c,c2,Leaf.ok,pm,if_true,if_false]) al0))
 ·subst c;cases h;exact kR hS
def Q0 (N:Nat)(b:Int):Option (Nat->Int):=
 P4 N (fun a (x1:Nat->Int) (x2:Int)=>
  if (decide (x2<(wrap .i64 (b+1)))) then
   if (((0:Int)<=x2/\((0:Int)<=x2/\x2<33))/\(0+x2.toNat*1)<33)then
    a (KK x1 (0+x2.toNat*1) (shI .shl .u64 1 x2)) (wrap .i64 (x2+1))
   else none
  else
   some x1
  ) (fun _=>0) 0
theorem DC {N:Nat}{a:Int}{y:Nat->Int}(h:Q0 N a=some y) :FunO S GD [pN a] [] (.p (.agg (cA 33 (pI .u64) y))) ([]) []:=by
 unfold Q0 at h;refine A2 hS Tryz.func265 ?_;refine I4 hS trivial h (fun x1 x2=>⟨[(7,pN x2),(6,pN (wrap .i64 (a+1))),(3,.reg 4000 0),(2,.reg 3000 0)],[(4000,.arr 33 (fun i=>pI .u64 (x1 i))),(3000,.arr 33 (fun i=>pI .u64 ((fun _=>0) i)))]⟩) (ids:=[(3000,3000),(4000,4000)]) (fun _ _ _ _ _ b x1 x2 d h=>?_) (hle:=klR [(2,.fn 33 33 (fun i=>[(fun i=>(List.replicate 33 (pI .u64 0)).getD i default) i]) (fun i=>[pI .u64 ((fun _=>0) i)])),(3,.fn 33 33 (fun i=>[(fun i=>(List.replicate 33 (pI .u64 0)).getD i default) i]) (fun i=>[pI .u64 ((fun _=>0) i)]))] (al1 ⟨rfl,BC (z:=pI .u64 0) rfl⟩ (al1 ⟨rfl,BC (z:=pI .u64 0) rfl⟩ al0)));refine kI hS h ?_ ?_<;>intro h
 ·obtain⟨c4,h⟩:=F4 h;exact d _ [(3000,3000),(4000,4000)] _ (KK x1 (0+x2.toNat*1) (shI .shl .u64 1 x2)) (wrap .i64 (x2+1)) c4 h (hle:=klR [(2,.fn 33 33 (fun i=>[(fun i=>if i=(0+x2.toNat*1)then (pI .u64 (shI .shl .u64 1 x2))else (fun i=>pI .u64 (x1 i)) i) i]) (fun i=>[pI .u64 (KK x1 (0+x2.toNat*1) (shI .shl .u64 1 x2) i)]))] (al1 ⟨rfl,Aw1 (c:=pI .u64) (v:=x1) (x:=shI .shl .u64 1 x2) (fun _ _=>rfl) rfl⟩ al0))
 ·obtain rfl:=C4 h;exact A9 hS (And.intro rfl (F3 _ _):(0:Nat)=0/\(Bv 33 (fun i=>pI .u64 (x1 i))).length=33) ⟨[(2,.reg 3000 0)],[(3000,.arr 33 (fun i=>pI .u64 (x1 i)))]⟩ [] (ids:=[(3000,3000)]) ⟨rfl,rfl,rfl⟩ (hle:=klR [(0,.fn 33 33 (fun i=>[(fun i=>(cA 33 (pI .u64) x1).getD i default) i]) (fun i=>[pI .u64 (x1 i)]))] (al1 ⟨rfl,D5 33 (fun i=>pI .u64 (x1 i))⟩ al0))
def N0 (N:Nat)(p_x:Nat->Int)(b:Nat->Int):Option (Nat->Int):=
 P4 N (fun a (x1:Nat->Int) (x2:Int)=>
  if (decide (x2<33)) then
   if (((0:Int)<=x2/\x2<33)/\(0+x2.toNat*1)<33)then
    if (((((0:Int)<=x2/\x2<33)/\(0+x2.toNat*1)<33)/\((0:Int)<=x2/\x2<33))/\(0+x2.toNat*1)<33)then
     a (KK x1 (0+x2.toNat*1) (C9 .or .u64 (x1 (0+x2.toNat*1)) (b (0+x2.toNat*1)))) (wrap .i64 (x2+1))
    else none
   else none
  else
   some x1
  ) p_x 0
theorem Eg {N:Nat}{p_x:Nat->Int}{a:Nat->Int}{y:Nat->Int}(h:N0 N p_x a=some y) :FunO S Eb [.reg 0 0,.reg 1 0] [.arr 33 (fun i=>pI .u64 (p_x i)),.arr 33 (fun i=>pI .u64 (a i))] (.tup []) ([.arr 33 (fun i=>pI .u64 (y i)),.arr 33 (fun i=>pI .u64 (a i))]) [true,true]:=by
 unfold N0 at h;refine A2 hS Tryz.func263 ?_;refine I4 hS trivial h (fun x1 x2=>⟨[(7,pN x2),(6,.reg 1 0),(0,.reg 0 0)],[(1,.arr 33 (fun i=>pI .u64 (a i))),(0,.arr 33 (fun i=>pI .u64 (x1 i)))]⟩) (ids:=[(0,0),(1,1)]) (fun _ _ _ _ _ b x1 x2 d h=>?_);refine kI hS h ?_ ?_<;>intro h
 ·refine Ih hS trivial ?_;obtain⟨c8,h⟩:=F4 h;refine P7 c8 ?_;refine Ih hS trivial ?_;obtain⟨c9,h⟩:=F4 h;refine P7 c9 ?_;exact d _ [(0,0),(1,1)] _ (KK x1 (0+x2.toNat*1) (C9 .or .u64 (x1 (0+x2.toNat*1)) (a (0+x2.toNat*1)))) (wrap .i64 (x2+1)) trivial h (hle:=klR [(2,.fn 33 33 (fun i=>[(fun i=>if i=(0+x2.toNat*1)then (pI .u64 (C9 .or .u64 (x1 (0+x2.toNat*1)) (a (0+x2.toNat*1))))else (fun i=>pI .u64 (x1 i)) i) i]) (fun i=>[pI .u64 (KK x1 (0+x2.toNat*1) (C9 .or .u64 (x1 (0+x2.toNat*1)) (a (0+x2.toNat*1))) i)]))] (al1 ⟨rfl,Aw1 (c:=pI .u64) (v:=x1) (x:=C9 .or .u64 (x1 (0+x2.toNat*1)) (a (0+x2.toNat*1))) (fun _ _=>rfl) rfl⟩ al0))
 ·obtain rfl:=C4 h;exact A9 hS trivial ⟨[],[(1,.arr 33 (fun i=>pI .u64 (a i))),(0,.arr 33 (fun i=>pI .u64 (x1 i)))]⟩ [0,1] (ids:=[(0,0),(1,1)]) ⟨rfl,rfl,rfl⟩
def Ae (N:Nat)(b:Sl Sound)(a:Int):Option Int:=
 if ((decide (a<0))||(decide ((b.n:Int)<a))) then
  some 3
 else
  some 0
theorem Jo {N:Nat}{c:Sl Sound}{b:Int}{y:Int}(h:Ae N c b=some y) :FunO S Ji [.p (vSl 2 A0 c),pN b] [] (pN y) ([]) []:=by
 unfold Ae at h;refine A2 hS Tryz.func228 ?_;refine kB hS (A6 hS) trivial trivial 5 (.o (.a (decide (b<0))) (.a (decide ((c.n:Int)<b)))) ?_;refine kI hS h ?_ ?_<;>intro h
 ·cases h;exact kR hS
 ·cases h;exact kR hS
def AN (N:Nat)(a:Pat):Option Int:=
 if (if (a.Kind==0) then a.Kind==0 else (if (a.Kind==2) then a.Kind==2 else a.Kind==6)) then
  lt (fun (z1:Bool)=>
   if z1 then
    some 2
   else
    (O9 N a.Is).bind fun y1=>
    if (!y1) then
     some 14
    else
     some 0
   ) fun k1=>
   if (((a.Is.Plus==0)&&(a.Is.Minus==0)) != true) then
    k1 true
   else
    if a.Not then
     k1 true
    else
     if (a.Min != 0) then
      k1 true
     else
      if (a.Max != 0) then
       k1 true
      else
       k1 (decide (0<(a.L.n:Int)))
 else
  if (a.Kind==1) then
   lt (fun (z2:Bool)=>
    if z2 then
     some 2
    else
     (O9 N a.Is).bind fun y2=>
     if (!y2) then
      some 14
     else
      some 0
    ) fun k2=>
    if (((0==0)&&(0==0)) != true) then
     k2 true
    else
     if (a.Min != 0) then
      k2 true
     else
      if (a.Max != 0) then
       k2 true
      else
       k2 (decide (0<(a.L.n:Int)))
  else
   lt (fun (z3:Int×Int)=>
    if (((((((a.Is.Plus==0)&&(a.Is.Minus==0)) != true)||a.Not)||(z3.1 != 0))||(z3.2 != 0))||(decide (0<0))) then
     some 2
    else
     (O9 N a.Is).bind fun y3=>
     if (!y3) then
      some 14
     else
      some 0
    ) fun k3=>
    if (if (a.Kind==3) then a.Kind==3 else a.Kind==4) then
     k3 (a.Min,a.Max)
    else
     if (a.Kind==5) then
      if (((((a.L.n:Int) != 1)||(decide (a.Min<0)))||(decide (32<a.Min)))||((a.Max != (-1))&&((decide (a.Max<a.Min))||(decide (32<a.Max))))) then
       some 2
      else
       k3 (0,0)
     else
      some 2
theorem OA {N:Nat}{c:Pat}{y:Int}(h:AN N c=some y) :FunO S HK [.p (.agg (B5 c))] [] (pN y) ([]) []:=by
 unfold AN at h;refine A2 hS Tryz.func148 ?_;obtain⟨t1,f⟩:∃x:Bool,x=(if (c.Kind==0) then c.Kind==0 else (if (c.Kind==2) then c.Kind==2 else c.Kind==6)):=⟨_,rfl⟩;refine UO hS trivial (A6 hS) 0 ⟨[(8,pB t1),(7,pN c.Kind),(3,.reg 4000 0),(1,.reg 2000 0)],[(4000,.cells [pN 0,pU c.Is.Plus,pU c.Is.Minus,pB c.Not,pN c.Min,pN c.Max,.p (.sl false 7 c.L.n (Cb c))]),(2000,.cells ((B5 c).map .p))]⟩ (fun M1 l=>?_) ?_
 ·refine E4 hS trivial (b:=c.Kind==0) (fun c3=>?_) (fun c3=>?_)
  ·exact l _ [(2000,2000),(4000,4000)] _ trivial (hle:=klR [(0,.eq (.bb (c.Kind==0)) (.bb t1))] (al1 (by simp only[f,c3,Leaf.ok,pm,if_true,if_false]) al0))
  ·refine E4 hS trivial (b:=c.Kind==2) (fun c4=>?_) (fun c4=>?_)
   ·exact l _ [(2000,2000),(4000,4000)] _ trivial (hle:=klR [(0,.eq (.bb (c.Kind==2)) (.bb t1))] (al1 (by simp only[f,c3,c4,Leaf.ok,pm,if_true,if_false]) al0))
   ·exact l _ [(2000,2000),(4000,4000)] _ trivial (hle:=klR [(0,.eq (.bb (c.Kind==6)) (.bb t1))] (al1 (by simp only[f,c3,c4,Leaf.ok,pm,if_true,if_false]) al0))
 ·subst f;refine kI hS h ?_ ?_<;>intro h
  ·refine JM hS (by decide +kernel:At8 Tryz.prog D2=true) (A6 hS) h 0 (fun z1=>⟨[(57,pB z1),(1,.reg 2000 0)],[(2000,.cells ((B5 c).map .p))]⟩) (fun M3 k1 d h=>?_) (fun z1 h=>?_)
   ·refine kG hS h (fun h=>?_) (fun h=>?_)
    ·exact d _ [(2000,2000)] _ true trivial h
    ·refine kG hS h (fun h=>?_) (fun h=>?_)
     ·exact d _ [(2000,2000)] _ true trivial h
     ·refine kG hS h (fun h=>?_) (fun h=>?_)
      ·exact d _ [(2000,2000)] _ true trivial h
      ·refine kG hS h (fun h=>?_) (fun h=>?_)
       ·exact d _ [(2000,2000)] _ true trivial h
       ·refine N2 hS trivial 79 ⟨[(78,.p (vSl 7 B5 c.L)),(76,.p (.v (.bool false))),(1,.reg 2000 0)],[(2000,.cells ((B5 c).map .p))]⟩ (ids:=[(2000,2000)]) ?_ (hle:=klR [(0,.fn c.L.n c.L.n (Cb c) (fun i=>B5 (c.L.g i)))] (al1 ⟨rfl,T7 c⟩ al0));exact d _ [(2000,2000)] _ (decide (0<(c.L.n:Int))) trivial h
   ·refine kI hS h ?_ ?_<;>intro h
    ·cases h;exact kR hS
    ·refine kC hS h (Ef hS hL) (fun y1 h=>?_);refine kI hS h ?_ ?_<;>intro h
     ·cases h;exact kR hS
     ·cases h;exact kR hS
  ·refine kI hS h ?_ ?_<;>intro h
   ·refine JM hS (by decide +kernel:At8 Tryz.prog D2=true) (A6 hS) h 0 (fun z2=>⟨[(57,pB z2),(1,.reg 2000 0)],[(2000,.cells ((B5 c).map .p))]⟩) (fun M5 k2 j h=>?_) (fun z2 h=>?_)
    ·refine kG hS h (fun h=>?_) (fun h=>?_)
     ·exact j _ [(2000,2000)] _ true trivial h
     ·refine Gn hS trivial (b:=false) (fun c54=>?_) (fun c54=>?_)
      ·exact Bool.noConfusion ((rfl:false=false).symm.trans c54)
      ·refine kG hS h (fun h=>?_) (fun h=>?_)
       ·exact j _ [(2000,2000)] _ true trivial h
       ·refine kG hS h (fun h=>?_) (fun h=>?_)
        ·exact j _ [(2000,2000)] _ true trivial h
        ·refine N2 hS trivial 79 ⟨[(78,.p (vSl 7 B5 c.L)),(76,.p (.v (.bool false))),(1,.reg 2000 0)],[(2000,.cells ((B5 c).map .p))]⟩ (ids:=[(2000,2000)]) ?_ (hle:=klR [(0,.fn c.L.n c.L.n (Cb c) (fun i=>B5 (c.L.g i)))] (al1 ⟨rfl,T7 c⟩ al0));exact j _ [(2000,2000)] _ (decide (0<(c.L.n:Int))) trivial h
    ·refine kI hS h ?_ ?_<;>intro h
     ·cases h;exact kR hS
     ·refine kC hS h (Ef hS hL) (fun y2 h=>?_);refine kI hS h ?_ ?_<;>intro h
      ·cases h;exact kR hS
      ·cases h;exact kR hS
   ·obtain⟨t4,m⟩:∃x:Bool,x=(if (c.Kind==3) then c.Kind==3 else c.Kind==4):=⟨_,rfl⟩;refine UO hS trivial (A6 hS) 0 ⟨[(17,pB t4),(7,pN c.Kind),(3,.reg 4000 0),(1,.reg 2000 0)],[(4000,.cells [pN 0,pU c.Is.Plus,pU c.Is.Minus,pB c.Not,pN c.Min,pN c.Max,.p (.sl false 7 c.L.n (Cb c))]),(2000,.cells ((B5 c).map .p))]⟩ (fun M6 q=>?_) ?_
    ·refine E4 hS trivial (b:=c.Kind==3) (fun c60=>?_) (fun c60=>?_)
     ·exact q _ [(2000,2000),(4000,4000)] _ trivial (hle:=klR [(0,.eq (.bb (c.Kind==3)) (.bb t4))] (al1 (by simp only[m,c60,Leaf.ok,pm,if_true,if_false]) al0))
     ·exact q _ [(2000,2000),(4000,4000)] _ trivial (hle:=klR [(0,.eq (.bb (c.Kind==4)) (.bb t4))] (al1 (by simp only[m,c60,Leaf.ok,pm,if_true,if_false]) al0))
    ·subst m;refine JM hS trivial (A6 hS) h 0 (fun z3=>⟨[(3,.reg 4000 0),(1,.reg 2000 0)],[(4000,.cells [pN 0,pU c.Is.Plus,pU c.Is.Minus,pB c.Not,pN z3.1,pN z3.2,.p F9]),(2000,.cells ((B5 c).map .p))]⟩) (fun M7 k3 r h=>?_) (fun z3 h=>?_)
     ·refine kI hS h ?_ ?_<;>intro h
      ·exact r _ [(2000,2000),(4000,4000)] _ (c.Min,c.Max) trivial h
      ·refine kI hS h ?_ ?_<;>intro h
       ·refine N2 hS trivial 25 ⟨[(24,.p (vSl 7 B5 c.L)),(3,.reg 4000 0),(1,.reg 2000 0)],[(4000,.cells [pN 0,pU c.Is.Plus,pU c.Is.Minus,pB c.Not,pN c.Min,pN c.Max,.p (.sl false 7 c.L.n (Cb c))]),(2000,.cells ((B5 c).map .p))]⟩ (ids:=[(2000,2000),(4000,4000)]) ?_ (hle:=klR [(0,.fn c.L.n c.L.n (Cb c) (fun i=>B5 (c.L.g i)))] (al1 ⟨rfl,T7 c⟩ al0));refine kB hS (A6 hS) trivial trivial 26 (.o (.o (.o (.a ((c.L.n:Int) != 1)) (.a (decide (c.Min<0)))) (.a (decide (32<c.Min)))) (.n (.a (c.Max != (-1))) (.o (.a (decide (c.Max<c.Min))) (.a (decide (32<c.Max)))))) ?_;refine kI hS h ?_ ?_<;>intro h
        ·cases h;exact kR hS
        ·exact r _ [(2000,2000),(4000,4000)] _ (0,0) trivial h
       ·cases h;exact kR hS
     ·refine kB hS (A6 hS) (by decide +kernel:At8 Tryz.prog D2=true) trivial 19 (.o (.o (.o (.o (.a (((c.Is.Plus==0)&&(c.Is.Minus==0)) != true)) (.a c.Not)) (.a (z3.1 != 0))) (.a (z3.2 != 0))) (.a (decide (0<0)))) ?_;refine kI hS h ?_ ?_<;>intro h
      ·cases h;exact kR hS
      ·refine kC hS h (Ef hS hL) (fun y3 h=>?_);refine kI hS h ?_ ?_<;>intro h
       ·cases h;exact kR hS
       ·cases h;exact kR hS
def ES (N:Nat)(a:Pat):Option Int:=
 if ((decide (a.Kind<0))||(decide (6<a.Kind))) then
  some 2
 else
  if ((a.Kind != 1)&&((((a.Is.Plus==0)&&(a.Is.Minus==0)) != true)||a.Not)) then
   some 2
  else
   lt (fun (z1:Bool)=>
    if z1 then
     some 2
    else
     if ((a.Kind != 5)&&((a.Min != 0)||(a.Max != 0))) then
      some 2
     else
      lt (fun (z2:Bool)=>
       if z2 then
        some 2
       else
        (R7 N a.Is).bind fun y1=>
        if (!y1) then
         some 14
        else
         some 0
       ) fun k2=>
       if (a.Kind==5) then
        if ((a.L.n:Int) != 1) then
         k2 true
        else
         if (decide (a.Min<0)) then
          k2 true
         else
          if (decide (32<a.Min)) then
           k2 true
          else
           if (a.Max != (-1)) then
            if (decide (a.Max<a.Min)) then
             k2 true
            else
             k2 (decide (32<a.Max))
           else
            k2 false
       else
        k2 false
    ) fun k1=>
    if (a.Kind != 3) then
     if (a.Kind != 4) then
      if (a.Kind != 5) then
       k1 (decide (0<(a.L.n:Int)))
      else
       k1 false
     else
      k1 false
    else
     k1 false
theorem YC {N:Nat}{c:Pat}{y:Int}(h:ES N c=some y) :FunO S PB [.p (.agg (B5 c))] [] (pN y) ([]) []:=by
 unfold ES at h;refine A2 hS Tryz.func173 ?_;refine kB hS (A6 hS) trivial trivial 4 (.o (.a (decide (c.Kind<0))) (.a (decide (6<c.Kind)))) ?_;refine kI hS h ?_ ?_<;>intro h
 ·cases h;exact kR hS
 ·obtain⟨t1,f⟩:∃x:Bool,x=((c.Kind != 1)&&((((c.Is.Plus==0)&&(c.Is.Minus==0)) != true)||c.Not)):=⟨_,rfl⟩;refine UO hS trivial (A6 hS) 0 ⟨[(23,pB t1),(1,.reg 2000 0)],[(2000,.cells ((B5 c).map .p))]⟩ (fun M1 l=>?_) ?_
  ·refine Gn hS trivial (b:=c.Kind != 1) (fun c4=>?_) (fun c4=>?_)
   ·refine Gn hS (by decide +kernel:At8 Tryz.prog D2=true) (b:=((c.Is.Plus==0)&&(c.Is.Minus==0)) != true) (fun c5=>?_) (fun c5=>?_)
    ·exact l _ [(2000,2000)] _ trivial (hle:=klR [(0,.eq (.bb true) (.bb t1))] (al1 (by simp only[f,c4,c5,Leaf.ok,pm,if_true,if_false]) al0))
    ·exact l _ [(2000,2000)] _ trivial (hle:=klR [(0,.eq (.bb c.Not) (.bb t1))] (al1 (by simp only[f,c4,c5,Leaf.ok,pm,if_true,if_false]) al0))
   ·exact l _ [(2000,2000)] _ trivial (hle:=klR [(0,.eq (.bb false) (.bb t1))] (al1 (by simp only[f,c4,Leaf.ok,pm,if_true,if_false]) al0))
  ·subst f;refine kI hS h ?_ ?_<;>intro h
   ·cases h;exact kR hS
   ·refine JM hS trivial (A6 hS) h 0 (fun z1=>⟨[(42,pB z1),(1,.reg 2000 0)],[(2000,.cells ((B5 c).map .p))]⟩) (fun M2 k1 j h=>?_) (fun z1 h=>?_)
    ·refine kG hS h (fun h=>?_) (fun h=>?_)
     ·refine kG hS h (fun h=>?_) (fun h=>?_)
      ·refine kG hS h (fun h=>?_) (fun h=>?_)
       ·refine N2 hS trivial 40 ⟨[(39,.p (vSl 7 B5 c.L)),(37,.p (.v (.bool true))),(1,.reg 2000 0)],[(2000,.cells ((B5 c).map .p))]⟩ (ids:=[(2000,2000)]) ?_ (hle:=klR [(0,.fn c.L.n c.L.n (Cb c) (fun i=>B5 (c.L.g i)))] (al1 ⟨rfl,T7 c⟩ al0));exact j _ [(2000,2000)] _ (decide (0<(c.L.n:Int))) trivial h
       ·exact j _ [(2000,2000)] _ false trivial h
      ·exact j _ [(2000,2000)] _ false trivial h
     ·exact j _ [(2000,2000)] _ false trivial h
    ·refine kI hS h ?_ ?_<;>intro h
     ·cases h;exact kR hS
     ·refine kB hS (A6 hS) trivial trivial 9 (.n (.a (c.Kind != 5)) (.o (.a (c.Min != 0)) (.a (c.Max != 0)))) ?_;refine kI hS h ?_ ?_<;>intro h
      ·cases h;exact kR hS
      ·refine JM hS trivial (A6 hS) h 0 (fun z2=>⟨[(91,pB z2),(1,.reg 2000 0)],[(2000,.cells ((B5 c).map .p))]⟩) (fun M3 k2 d h=>?_) (fun z2 h=>?_)
       ·refine kG hS h (fun h=>?_) (fun h=>?_)
        ·refine N2 hS trivial 62 ⟨[(61,.p (vSl 7 B5 c.L)),(59,.p (.v (.bool true))),(1,.reg 2000 0)],[(2000,.cells ((B5 c).map .p))]⟩ (ids:=[(2000,2000)]) ?_ (hle:=klR [(0,.fn c.L.n c.L.n (Cb c) (fun i=>B5 (c.L.g i)))] (al1 ⟨rfl,T7 c⟩ al0));refine kG hS h (fun h=>?_) (fun h=>?_)
         ·exact d _ [(2000,2000)] _ true trivial h
         ·refine kG hS h (fun h=>?_) (fun h=>?_)
          ·exact d _ [(2000,2000)] _ true trivial h
          ·refine kG hS h (fun h=>?_) (fun h=>?_)
           ·exact d _ [(2000,2000)] _ true trivial h
           ·refine kG hS h (fun h=>?_) (fun h=>?_)
            ·refine kG hS h (fun h=>?_) (fun h=>?_)
             ·exact d _ [(2000,2000)] _ true trivial h
             ·exact d _ [(2000,2000)] _ (decide (32<c.Max)) trivial h
            ·exact d _ [(2000,2000)] _ false trivial h
        ·exact d _ [(2000,2000)] _ false trivial h
       ·refine kI hS h ?_ ?_<;>intro h
        ·cases h;exact kR hS
        ·refine kC hS h (Vw hS hL) (fun y1 h=>?_);refine kI hS h ?_ ?_<;>intro h
         ·cases h;exact kR hS
         ·cases h;exact kR hS
def Nn (N:Nat)(b:Sound)(a:Sound):Option Bool:=
 some (((C9 .and .u32 b.Plus a.Plus)==a.Plus)&&((C9 .and .u32 b.Minus a.Minus)==a.Minus))
def Hf (N:Nat)(a:Int):Option (Sl Int):=
 if ((0:Int)<=(wrap .i64 (a+1))/\(wrap .i64 (a+1))<=(wrap .i64 (a+1))/\(wrap .i64 (a+1))*8<=140737488355328/\(wrap .i64 (a+1))<=140737488355328)then
  P4 N (fun b (x1:Sl Int) (x2:Int)=>
   if (decide (x2<=a)) then
    if (((0:Int)<=x2/\((0:Int)<=x2/\x2<(x1.n:Int)))/\x2.toNat<x1.n)then
     b (x1.upd x2.toNat (shI .shl .u64 1 x2)) (wrap .i64 (x2+1))
    else none
   else
    some x1
   ) (Sl.rep (wrap .i64 (a+1)).toNat 0:Sl Int) 0
 else none
def CB (N:Nat)(p_x:Sl Int)(b:Sl Int):Option (Sl Int):=
 if ((0:Int)<=(p_x.n:Int)/\(p_x.n:Int)<=(p_x.n:Int)/\(p_x.n:Int)*8<=140737488355328/\(p_x.n:Int)<=140737488355328)then
  P4 N (fun c (x3:Sl Int) (x4:Int)=>
   if (decide (x4<(p_x.n:Int))) then
    P4 N (fun a (x7:Sl Int) (x8:Int)=>
     if (decide (x8<(b.n:Int))) then
      if (((0:Int)<=x4/\x4<(p_x.n:Int))/\(0:Int)<=x8)then
       if ((C9 .and .u64 (shI .shr .u64 (p_x.g x4.toNat) x8) 1)==1) then
        if ((((((0:Int)<=x4/\x4<(x7.n:Int))/\x4.toNat<x7.n)/\((0:Int)<=x8/\x8<(b.n:Int)))/\((0:Int)<=x4/\x4<(x7.n:Int)))/\x4.toNat<x7.n)then
         a (x7.upd x4.toNat (C9 .or .u64 (x7.g x4.toNat) (b.g x8.toNat))) (wrap .i64 (x8+1))
        else none
       else
        a x7 (wrap .i64 (x8+1))
      else none
     else
      c x7 (wrap .i64 (x4+1))
     ) x3 0
   else
    some x3
   ) (Sl.rep (p_x.n:Int).toNat 0:Sl Int) 0
 else none
def Hg (N:Nat)(p_x:Sl Int)(b:Sl Int):Option (Sl Int):=
 if ((0:Int)<=(p_x.n:Int)/\(p_x.n:Int)<=(p_x.n:Int)/\(p_x.n:Int)*8<=140737488355328/\(p_x.n:Int)<=140737488355328)then
  P4 N (fun a (x1:Sl Int) (x2:Int)=>
   if (decide (x2<(p_x.n:Int))) then
    if (((((0:Int)<=x2/\x2<(p_x.n:Int))/\((0:Int)<=x2/\x2<(b.n:Int)))/\((0:Int)<=x2/\x2<(x1.n:Int)))/\x2.toNat<x1.n)then
     a (x1.upd x2.toNat (C9 .or .u64 (p_x.g x2.toNat) (b.g x2.toNat))) (wrap .i64 (x2+1))
    else none
   else
    some x1
   ) (Sl.rep (p_x.n:Int).toNat 0:Sl Int) 0
 else none
def Ik (N:Nat)(p_x:Sl Int)(b:Sl Int):Option Bool:=
 V9 N (fun a (x1:Int)=>
  if (decide (x1<(p_x.n:Int))) then
   if (((0:Int)<=x1/\x1<(p_x.n:Int))/\((0:Int)<=x1/\x1<(b.n:Int)))then
    if ((p_x.g x1.toNat) != (b.g x1.toNat)) then
     some false
    else
     a (wrap .i64 (x1+1))
   else none
  else
   some true
  ) 0
end Go.AM
namespace Go.AM
open IntKind (wrap)
open Go.Proofs
set_option maxRecDepth 10000
set_option maxHeartbeats 2000000
variable {S:AD}(hS:H2 S Tryz.prog) (hL:PF S)
include hS hL
def BH (rec:Pat->Int->Option Int)(N:Nat)(b:Pat)(a:Int):Option Int:=
 P4 N (fun c (x1:Int) (x2:Int)=>
  if ((decide (x2<(b.L.n:Int)))&&(decide (x1<=40))) then
   if ((0:Int)<=x2/\x2<(b.L.n:Int))then
    (rec (b.L.g x2.toNat) x1).bind fun y3=>
    c y3 (wrap .i64 (x2+1))
   else none
  else
   some x1
  ) (wrap .i64 (a+1)) 0
def Be:Nat->Pat->Int->Option Int
 |0=>fun _ _=>none
 |N+1=>BH (Be N) N
theorem Tl {N:Nat}{rec:Pat->Int->Option Int}(d:∀{b:Pat}{c:Int}{y:Int},rec b c=some y->FunO S Fs [.p (.agg (B5 b)),pN c] [] (pN y) ([]) []){b:Pat}{c:Int}{y:Int}(h:BH rec N b c=some y) :FunO S Fs [.p (.agg (B5 b)),pN c] [] (pN y) ([]) []:=by
 unfold BH at h;refine A2 hS Tryz.func104 ?_;refine I4 hS trivial h (fun x1 x2=>⟨[(6,pN x2),(5,pN x1),(2,.reg 3000 0)],[(3000,.cells ((B5 b).map .p))]⟩) (ids:=[(3000,3000)]) (fun _ _ _ _ _ f x1 x2 j h=>?_);refine N2 hS trivial 12 ⟨[(11,.p (vSl 7 B5 b.L)),(9,pN x2),(6,pN x2),(5,pN x1),(2,.reg 3000 0)],[(3000,.cells ((B5 b).map .p))]⟩ (ids:=[(3000,3000)]) ?_ (hle:=klR [(0,.fn b.L.n b.L.n (Cb b) (fun i=>B5 (b.L.g i)))] (al1 ⟨rfl,T7 b⟩ al0));refine kB hS (A6 hS) trivial trivial 3 (.n (.a (decide (x2<(b.L.n:Int)))) (.a (decide (x1<=40)))) ?_;refine kI hS h ?_ ?_<;>intro h
 ·refine N2 hS trivial 23 ⟨[(22,pN x2),(21,.p (vSl 7 B5 b.L)),(6,pN x2),(5,pN x1),(2,.reg 3000 0)],[(3000,.cells ((B5 b).map .p))]⟩ (ids:=[(3000,3000)]) ?_ (hle:=klR [(1,.fn b.L.n b.L.n (Cb b) (fun i=>B5 (b.L.g i)))] (al1 ⟨rfl,T7 b⟩ al0));obtain⟨c6,h⟩:=F4 h;obtain⟨y3,e3,h⟩:=B9 h;refine B7 hS [] (And.intro c6 (by decide:(7:Nat)<=7)) (d e3) ?_;exact j _ [(3000,3000)] _ y3 (wrap .i64 (x2+1)) trivial h
 ·cases h;exact kR hS
theorem Vx {N:Nat}{b:Pat}{a:Int}{y:Int}(h:Be N b a=some y) :FunO S Fs [.p (.agg (B5 b)),pN a] [] (pN y) ([]) []:=by
 induction N generalizing b a y with
 |zero=>cases (show (none:Option Int)=some y from h)
 |succ N ih=>exact Tl hS hL (fun e=>ih e) h
def Af (N:Nat)(a:Pat):Option Int:=
 (Be N a 0).bind fun y1=>
 some y1
theorem ET {N:Nat}{a:Pat}{y:Int}(h:Af N a=some y) :FunO S Pv [.p (.agg (B5 a))] [] (pN y) ([]) []:=by unfold Af at h;refine A2 hS Tryz.func69 ?_;refine kC hS h (Vx hS hL) (fun y1 h=>?_);cases h;exact kR hS
def X7 (rec:Pat->Option Int)(N:Nat)(a:Pat):Option Int:=
 P4 N (fun b (x1:Int) (x2:Int)=>
  if (decide (x2<(a.L.n:Int))) then
   if ((0:Int)<=x2/\x2<(a.L.n:Int))then
    (rec (a.L.g x2.toNat)).bind fun y3=>
    b (wrap .i64 (x1+y3)) (wrap .i64 (x2+1))
   else none
  else
   some x1
  ) (if (a.Kind==5) then 1 else 0) 0
def Ag:Nat->Pat->Option Int
 |0=>fun _=>none
 |N+1=>X7 (Ag N) N
theorem OB {N:Nat}{rec:Pat->Option Int}(d:∀{a:Pat}{y:Int},rec a=some y->FunO S De [.p (.agg (B5 a))] [] (pN y) ([]) []){a:Pat}{y:Int}(h:X7 rec N a=some y) :FunO S De [.p (.agg (B5 a))] [] (pN y) ([]) []:=by
 unfold X7 at h;refine A2 hS Tryz.func132 ?_;obtain⟨t1,c⟩:∃x:Int,x=(if (a.Kind==5) then 1 else 0):=⟨_,rfl⟩;refine UO hS trivial (A6 hS) 0 ⟨[(3,pN t1),(1,.reg 2000 0)],[(2000,.cells ((B5 a).map .p))]⟩ (fun M1 f=>?_) ?_
 ·refine E4 hS trivial (b:=a.Kind==5) (fun c2=>?_) (fun c2=>?_)
  ·exact f _ [(2000,2000)] _ trivial (hle:=klR [(0,.eq (pI .i64 1) (pI .i64 t1))] (al1 (by simp only[c,c2,Leaf.ok,pm,if_true,if_false]) al0))
  ·exact f _ [(2000,2000)] _ trivial (hle:=klR [(0,.eq (pI .i64 0) (pI .i64 t1))] (al1 (by simp only[c,c2,Leaf.ok,pm,if_true,if_false]) al0))
 ·subst c;refine I4 hS trivial h (fun x1 x2=>⟨[(4,pN x2),(3,pN x1),(1,.reg 2000 0)],[(2000,.cells ((B5 a).map .p))]⟩) (ids:=[(2000,2000)]) (fun _ _ _ _ _ j x1 x2 l h=>?_);refine N2 hS trivial 11 ⟨[(10,.p (vSl 7 B5 a.L)),(8,pN x2),(4,pN x2),(3,pN x1),(1,.reg 2000 0)],[(2000,.cells ((B5 a).map .p))]⟩ (ids:=[(2000,2000)]) ?_ (hle:=klR [(0,.fn a.L.n a.L.n (Cb a) (fun i=>B5 (a.L.g i)))] (al1 ⟨rfl,T7 a⟩ al0));refine kI hS h ?_ ?_<;>intro h
  ·refine N2 hS trivial 19 ⟨[(18,pN x2),(17,.p (vSl 7 B5 a.L)),(15,pN x1),(4,pN x2),(1,.reg 2000 0)],[(2000,.cells ((B5 a).map .p))]⟩ (ids:=[(2000,2000)]) ?_ (hle:=klR [(1,.fn a.L.n a.L.n (Cb a) (fun i=>B5 (a.L.g i)))] (al1 ⟨rfl,T7 a⟩ al0));obtain⟨c8,h⟩:=F4 h;obtain⟨y3,e3,h⟩:=B9 h;refine B7 hS [] (And.intro c8 (by decide:(7:Nat)<=7)) (d e3) ?_;exact l _ [(2000,2000)] _ (wrap .i64 (x1+y3)) (wrap .i64 (x2+1)) trivial h
  ·cases h;exact kR hS
theorem Ra {N:Nat}{a:Pat}{y:Int}(h:Ag N a=some y) :FunO S De [.p (.agg (B5 a))] [] (pN y) ([]) []:=by
 induction N generalizing a y with
 |zero=>cases (show (none:Option Int)=some y from h)
 |succ N ih=>exact OB hS hL (fun e=>ih e) h
def Di (N:Nat)(a:Sl Law):Option Int:=
 P4 N (fun c (x3:Int) (x4:Int)=>
  if ((decide (x4<(a.n:Int)))&&(decide (x4<=300))) then
   if (((0:Int)<=x4/\x4<(a.n:Int))/\((0:Int)<=x4/\x4<(a.n:Int)))then
    P4 N (fun b (x7:Int) (x8:Int)=>
     if (decide (x8<((Sl.of [(a.g x4.toNat).Left,(a.g x4.toNat).Right]:Sl Pat).n:Int))) then
      if ((0:Int)<=x8/\x8<((Sl.of [(a.g x4.toNat).Left,(a.g x4.toNat).Right]:Sl Pat).n:Int))then
       (Af N ((Sl.of [(a.g x4.toNat).Left,(a.g x4.toNat).Right]:Sl Pat).g x8.toNat)).bind fun d=>
       if (decide (d<=40)) then
        (Ag N ((Sl.of [(a.g x4.toNat).Left,(a.g x4.toNat).Right]:Sl Pat).g x8.toNat)).bind fun f=>
        b (wrap .i64 (x7+f)) (wrap .i64 (x8+1))
       else
        b x7 (wrap .i64 (x8+1))
      else none
     else
      c (if x3<x7 then x7 else x3) (wrap .i64 (x4+1))
     ) 0 0
   else none
  else
   some x3
  ) 0 0
theorem YD {N:Nat}{b:Sl Law}{y:Int}(h:Di N b=some y) :FunO S Pw [.p (vSl 18 B4 b)] [] (pN y) ([]) []:=by
 unfold Di at h;refine A2 hS Tryz.func100 ?_;refine I4 hS trivial h (fun x3 x4=>⟨[(4,pN x4),(3,pN x3),(0,.p (vSl 18 B4 b))],[]⟩) (ids:=[]) (fun _ _ _ _ _ d x3 x4 f h=>?_);refine kB hS (A6 hS) trivial trivial 3 (.n (.a (decide (x4<(b.n:Int)))) (.a (decide (x4<=300)))) ?_;refine kI hS h ?_ ?_<;>intro h
 ·refine H7 hS trivial [2,4,7,9] ?_;obtain⟨c24,h⟩:=F4 h;refine CN (And.intro (And.intro (And.intro c24.1 (by decide:(7:Nat)<=17)) c24.2) (by decide:(7:Nat)<=10)) (x:=.sl true 7 2 (F0 [pI .i64 0,pI .u32 0,pI .u32 0,.v (.bool false),pI .i64 0,pI .i64 0,F9] [(0,B5 (b.g x4.toNat).Left),(1,B5 (b.g x4.toNat).Right)])) ?_;refine P7 trivial ?_;refine I4 hS trivial h (fun x7 x8=>⟨[(30,pN x8),(29,pN ((Sl.of [(b.g x4.toNat).Left,(b.g x4.toNat).Right]:Sl Pat).n:Int)),(28,.p (vSl 7 B5 (Sl.of [(b.g x4.toNat).Left,(b.g x4.toNat).Right]:Sl Pat))),(5,pN x7),(4,pN x4),(3,pN x3),(0,.p (vSl 18 B4 b))],[]⟩) (ids:=[]) (fun _ _ _ _ _ j x7 x8 c h=>?_) (hle:=klR [(2,.fn 2 (Sl.of [(b.g x4.toNat).Left,(b.g x4.toNat).Right]:Sl Pat).n (F0 [pI .i64 0,pI .u32 0,pI .u32 0,.v (.bool false),pI .i64 0,pI .i64 0,F9] [(0,B5 (b.g x4.toNat).Left),(1,B5 (b.g x4.toNat).Right)]) (fun i=>B5 ((Sl.of [(b.g x4.toNat).Left,(b.g x4.toNat).Right]:Sl Pat).g i)))] (al1 ⟨rfl,(fun i l=>match i,l with|0,_=>rfl|1,_=>rfl|_+2,l=>absurd l (by omega))⟩ al0));refine kI hS h ?_ ?_<;>intro h
  ·obtain⟨c32,h⟩:=F4 h;refine I7 hS (And.intro c32 (by decide:(7:Nat)<=7)) 34 8000 (B5 ((Sl.of [(b.g x4.toNat).Left,(b.g x4.toNat).Right]:Sl Pat).g x8.toNat)) ?_;obtain⟨o,e17,h⟩:=B9 h;refine B7 hS [] (by decide:(7:Nat)<=7) (ET hS hL e17) ?_;refine kI hS h ?_ ?_<;>intro h
   ·obtain⟨m,e18,h⟩:=B9 h;refine B7 hS [] (by decide:(7:Nat)<=7) (Ra hS hL e18) ?_;exact c _ [] _ (wrap .i64 (x7+m)) (wrap .i64 (x8+1)) trivial h
   ·exact c _ [] _ x7 (wrap .i64 (x8+1)) trivial h
  ·exact f _ [] _ (if x3<x7 then x7 else x3) (wrap .i64 (x4+1)) trivial h
 ·cases h;exact kR hS
def X8 (rec:Pat->Int->Option (Int×Int))(N:Nat)(b:Pat)(a:Int):Option (Int×Int):=
 if (a==40) then
  some (a,12)
 else
  (ES N b).bind fun y1=>
  if (y1 != 0) then
   some (a,y1)
  else
   P4 N (fun c (x1:Int) (x2:Int)=>
    if (decide (x2<(b.L.n:Int))) then
     if ((0:Int)<=x2/\x2<(b.L.n:Int))then
      (rec (b.L.g x2.toNat) x1).bind fun y4=>
      if (y4.2 != 0) then
       some (y4.1,y4.2)
      else
       c y4.1 (wrap .i64 (x2+1))
     else none
    else
     some (x1,0)
    ) (wrap .i64 (a+1)) 0
def Dj:Nat->Pat->Int->Option (Int×Int)
 |0=>fun _ _=>none
 |N+1=>X8 (Dj N) N
theorem Vy {N:Nat}{rec:Pat->Int->Option (Int×Int)}(c:∀{a:Pat}{b:Int}{y:Int×Int},rec a b=some y->FunO S Hd [.p (.agg (B5 a)),pN b] [] (.tup [pN y.1,pN y.2]) ([]) []){a:Pat}{b:Int}{y:Int×Int}(h:X8 rec N a b=some y) :FunO S Hd [.p (.agg (B5 a)),pN b] [] (.tup [pN y.1,pN y.2]) ([]) []:=by
 unfold X8 at h;refine A2 hS Tryz.func157 ?_;refine kI hS h ?_ ?_<;>intro h
 ·cases h;exact kR hS
 ·refine kC hS h (YC hS hL) (fun y1 h=>?_);refine kI hS h ?_ ?_<;>intro h
  ·cases h;exact kR hS
  ·refine I4 hS trivial h (fun x1 x2=>⟨[(8,pN x2),(7,pN x1),(2,.reg 3000 0)],[(3000,.cells ((B5 a).map .p))]⟩) (ids:=[(3000,3000)]) (fun _ _ _ _ _ d x1 x2 f h=>?_);refine N2 hS trivial 23 ⟨[(22,.p (vSl 7 B5 a.L)),(20,pN x2),(8,pN x2),(7,pN x1),(2,.reg 3000 0)],[(3000,.cells ((B5 a).map .p))]⟩ (ids:=[(3000,3000)]) ?_ (hle:=klR [(0,.fn a.L.n a.L.n (Cb a) (fun i=>B5 (a.L.g i)))] (al1 ⟨rfl,T7 a⟩ al0));refine kI hS h ?_ ?_<;>intro h
   ·refine N2 hS trivial 31 ⟨[(30,pN x2),(29,.p (vSl 7 B5 a.L)),(8,pN x2),(7,pN x1),(2,.reg 3000 0)],[(3000,.cells ((B5 a).map .p))]⟩ (ids:=[(3000,3000)]) ?_ (hle:=klR [(1,.fn a.L.n a.L.n (Cb a) (fun i=>B5 (a.L.g i)))] (al1 ⟨rfl,T7 a⟩ al0));obtain⟨c10,h⟩:=F4 h;obtain⟨y4,e4,h⟩:=B9 h;refine B7 hS [] (And.intro c10 (by decide:(7:Nat)<=7)) (c e4) ?_;refine kI hS h ?_ ?_<;>intro h
    ·cases h;exact kR hS
    ·exact f _ [(3000,3000)] _ y4.1 (wrap .i64 (x2+1)) trivial h
   ·cases h;exact kR hS
theorem YE {N:Nat}{b:Pat}{a:Int}{y:Int×Int}(h:Dj N b a=some y) :FunO S Hd [.p (.agg (B5 b)),pN a] [] (.tup [pN y.1,pN y.2]) ([]) []:=by
 induction N generalizing b a y with
 |zero=>cases (show (none:Option (Int×Int))=some y from h)
 |succ N ih=>exact Vy hS hL (fun e=>ih e) h
def Bf (N:Nat)(a:Pat):Option Int:=
 (Dj N a 0).bind fun y1=>
 some y1.2
theorem No {N:Nat}{a:Pat}{y:Int}(h:Bf N a=some y) :FunO S MT [.p (.agg (B5 a))] [] (pN y) ([]) []:=by unfold Bf at h;refine A2 hS Tryz.func135 ?_;refine kC hS h (YE hS hL) (fun y1 h=>?_);cases h;exact kR hS
def Ci (N:Nat)(a:Str):Option Bool:=
 V9 N (fun b (x1:Int)=>
  if (decide (x1<(a.length:Int))) then
   if ((0:Int)<=x1/\x1<(a.length:Int))then
    if (!(((((decide (97<=(Ap a x1)))&&(decide ((Ap a x1)<=122)))||((decide (65<=(Ap a x1)))&&(decide ((Ap a x1)<=90))))||((decide (48<=(Ap a x1)))&&(decide ((Ap a x1)<=57))))||((Ap a x1)==45))) then
     some false
    else
     b (wrap .i64 (x1+1))
   else none
  else
   some ((decide (1<=(a.length:Int)))&&(decide ((a.length:Int)<=24)))
  ) 0
theorem YF {N:Nat}{b:Str}{y:Bool}(h:Ci N b=some y) :FunO S Pz [.p (.str b)] [] (pB y) ([]) []:=by
 unfold Ci at h;refine A2 hS Tryz.func134 ?_;refine N7 hS trivial h (fun x1=>⟨[(3,pN x1),(0,.p (.str b))],[]⟩) (ids:=[]) (fun _ _ _ _ _ c x1 d h=>?_);refine kI hS h ?_ ?_<;>intro h
 ·obtain⟨c8,h⟩:=F4 h;refine kB hS (A6 hS) c8 trivial 23 (.o (.o (.o (.n (.a (decide (97<=(Ap b x1)))) (.a (decide ((Ap b x1)<=122)))) (.n (.a (decide (65<=(Ap b x1)))) (.a (decide ((Ap b x1)<=90))))) (.n (.a (decide (48<=(Ap b x1)))) (.a (decide ((Ap b x1)<=57))))) (.a ((Ap b x1)==45))) ?_;refine kI hS h ?_ ?_<;>intro h
  ·cases h;exact kR hS
  ·exact d _ [] _ (wrap .i64 (x1+1)) trivial h
 ·refine kB hS (A6 hS) trivial trivial 4 (.n (.a (decide (1<=(b.length:Int)))) (.a (decide ((b.length:Int)<=24)))) ?_;cases h;exact kR hS
def EU (N:Nat)(p_x:Bs)(a:Int):Option Bool:=
 lt (fun (z1:Bool)=>
  if z1 then
   some false
  else
   if ((((C9 .and .u32 p_x.Clear (C9 .or .u32 p_x.Set.Plus p_x.Set.Minus)) != 0)||((C9 .and .u32 p_x.Take (C9 .or .u32 p_x.Set.Plus p_x.Set.Minus)) != 0))||((C9 .and .u32 p_x.Take p_x.Clear) != 0)) then
    some false
   else
    if (p_x.Take==0) then
     some (p_x.Of==0)
    else
     some ((decide (0<=p_x.Of))&&(decide (p_x.Of<a)))
  ) fun k1=>
  if (decide (p_x.From<(-1))) then
   k1 true
  else
   if (decide (a<=p_x.From)) then
    k1 true
   else
    (I0 N p_x.Set).bind fun y2=>
    if (!y2) then
     k1 true
    else
     if ((C9 .andNot .u32 p_x.Clear 16777215) != 0) then
      k1 true
     else
      k1 ((C9 .andNot .u32 p_x.Take 16777215) != 0)
theorem YG {N:Nat}{p_x:Bs}{c:Int}{y:Bool}(h:EU N p_x c=some y) :FunO S PA [.p (.agg (Q7 p_x)),pN c] [] (pB y) ([]) []:=by
 unfold EU at h;refine A2 hS Tryz.func137 ?_;refine JM hS trivial (A6 hS) h 0 (fun z1=>⟨[(32,pB z1),(2,.reg 3000 0),(1,pN c)],[(3000,.cells ((Q7 p_x).map .p))]⟩) (fun M1 k1 b h=>?_) (fun z1 h=>?_)
 ·refine kG hS h (fun h=>?_) (fun h=>?_)
  ·exact b _ [(3000,3000)] _ true trivial h
  ·refine kG hS h (fun h=>?_) (fun h=>?_)
   ·exact b _ [(3000,3000)] _ true trivial h
   ·refine kC hS h (Nl hS hL) (fun y2 h=>?_);refine kG hS h (fun h=>?_) (fun h=>?_)
    ·exact b _ [(3000,3000)] _ true trivial h
    ·refine kG hS h (fun h=>?_) (fun h=>?_)
     ·exact b _ [(3000,3000)] _ true trivial h
     ·exact b _ [(3000,3000)] _ ((C9 .andNot .u32 p_x.Take 16777215) != 0) trivial h
 ·refine kI hS h ?_ ?_<;>intro h
  ·cases h;exact kR hS
  ·refine kB hS (A6 hS) trivial trivial 14 (.o (.o (.a ((C9 .and .u32 p_x.Clear (C9 .or .u32 p_x.Set.Plus p_x.Set.Minus)) != 0)) (.a ((C9 .and .u32 p_x.Take (C9 .or .u32 p_x.Set.Plus p_x.Set.Minus)) != 0))) (.a ((C9 .and .u32 p_x.Take p_x.Clear) != 0))) ?_;refine kI hS h ?_ ?_<;>intro h
   ·cases h;exact kR hS
   ·refine kI hS h ?_ ?_<;>intro h
    ·cases h;exact kR hS
    ·refine kB hS (A6 hS) trivial trivial 5 (.n (.a (decide (0<=p_x.Of))) (.a (decide (p_x.Of<c)))) ?_;cases h;exact kR hS
def X9 (N:Nat)(a:Law):Option Int:=
 (Ci N a.Name).bind fun y1=>
 lt (fun (z1:Bool)=>
  if z1 then
   some 17
  else
   if (((((decide (4<(a.If.n:Int)))||(decide (6<(a.Out.n:Int))))||((wrap .i64 ((a.If.n:Int)+(a.Out.n:Int)))==0))||(decide (a.Mode<1)))||(decide (3<a.Mode))) then
    some 17
   else
    V9 N (fun b (x2:Int)=>
     if (decide (x2<(a.If.n:Int))) then
      if ((0:Int)<=x2/\x2<(a.If.n:Int))then
       (I0 N (a.If.g x2.toNat)).bind fun y8=>
       if (!y8) then
        some 17
       else
        b (wrap .i64 (x2+1))
      else none
     else
      V9 N (fun c (x3:Int)=>
       if (decide (x3<(a.Out.n:Int))) then
        if ((0:Int)<=x3/\x3<(a.Out.n:Int))then
         (EU N (a.Out.g x3.toNat) (a.If.n:Int)).bind fun d=>
         if (!d) then
          some 17
         else
          c (wrap .i64 (x3+1))
        else none
       else
        some 0
       ) 0
     ) 0
  ) fun k1=>
  if (!y1) then
   k1 true
  else
   (Bf N a.Left).bind fun y4=>
   if (y4 != 0) then
    k1 true
   else
    (Bf N a.Right).bind fun y5=>
    k1 (y5 != 0)
theorem Vz {N:Nat}{b:Law}{y:Int}(h:X9 N b=some y) :FunO S MO [.p (.agg (B4 b))] [] (pN y) ([]) []:=by
 unfold X9 at h;refine A2 hS Tryz.func102 ?_;refine I7 hS trivial 2 2000 (B4 b) ?_;refine kC hS h (YF hS hL) (fun y1 h=>?_);refine JM hS trivial (A6 hS) h 0 (fun z1=>⟨[(20,pB z1),(1,.p (.ptr (B4 b)))],[]⟩) (fun M1 k1 c h=>?_) (fun z1 h=>?_)
 ·refine kG hS h (fun h=>?_) (fun h=>?_)
  ·exact c _ [] _ true trivial h
  ·obtain⟨y4,e4,h⟩:=B9 h;refine B7 hS [] (by decide:(7:Nat)<=17) (No hS hL e4) ?_;refine kG hS h (fun h=>?_) (fun h=>?_)
   ·exact c _ [] _ true trivial h
   ·obtain⟨y5,e5,h⟩:=B9 h;refine B7 hS [] (by decide:(7:Nat)<=10) (No hS hL e5) ?_;exact c _ [] _ (y5 != 0) trivial h
 ·refine kI hS h ?_ ?_<;>intro h
  ·cases h;exact kR hS
  ·refine kB hS (A6 hS) trivial trivial 25 (.o (.o (.o (.o (.a (decide (4<(b.If.n:Int)))) (.a (decide (6<(b.Out.n:Int))))) (.a ((wrap .i64 ((b.If.n:Int)+(b.Out.n:Int)))==0))) (.a (decide (b.Mode<1)))) (.a (decide (3<b.Mode)))) ?_;refine kI hS h ?_ ?_<;>intro h
   ·cases h;exact kR hS
   ·refine N7 hS trivial h (fun x2=>⟨[(3,pN x2),(1,.p (.ptr (B4 b)))],[]⟩) (ids:=[]) (fun _ _ _ _ _ d x2 f h=>?_);refine kI hS h ?_ ?_<;>intro h
    ·obtain⟨c15,h⟩:=F4 h;obtain⟨y8,e8,h⟩:=B9 h;refine B7 hS [] (And.intro c15 (by decide:(2:Nat)<=2)) (Nl hS hL e8) ?_;refine kI hS h ?_ ?_<;>intro h
     ·cases h;exact kR hS
     ·exact f _ [] _ (wrap .i64 (x2+1)) trivial h
    ·refine N7 hS trivial h (fun x3=>⟨[(4,pN x3),(1,.p (.ptr (B4 b)))],[]⟩) (ids:=[]) (fun _ _ _ _ _ g x3 i h=>?_);refine kI hS h ?_ ?_<;>intro h
     ·refine H7 hS trivial [1,3,4,6,8] ?_;obtain⟨c24,h⟩:=F4 h;obtain⟨j,e11,h⟩:=B9 h;refine BB (And.intro c24 (by decide:(6:Nat)<=6)) (YG hS hL e11) ?_;refine P7 trivial ?_;refine kI hS h ?_ ?_<;>intro h
      ·cases h;exact kR hS
      ·exact i _ [] _ (wrap .i64 (x3+1)) trivial h
     ·cases h;exact kR hS
def Fy (N:Nat)(a:Sl Law):Option Int:=
 if (decide (64<(a.n:Int))) then
  some 12
 else
  V9 N (fun b (x1:Int)=>
   if (decide (x1<(a.n:Int))) then
    if ((0:Int)<=x1/\x1<(a.n:Int))then
     (X9 N (a.g x1.toNat)).bind fun y3=>
     if (y3 != 0) then
      some 17
     else
      b (wrap .i64 (x1+1))
    else none
   else
    some 0
   ) 0
def Np (N:Nat)(a:Law)(b:Sl Sound):Option Int:=
 (X9 N a).bind fun y1=>
 if (y1 != 0) then
  some y1
 else
  (DB N b).bind fun y2=>
  some y2
def Hh (N:Nat)(a:Pat)(b:Sl Sound):Option Int:=
 (Bf N a).bind fun y1=>
 if (y1==0) then
  (DB N b).bind fun y2=>
  some y2
 else
  some y1
def Fz (rec:Pat->(Sl Sound)->Option (Sl Int))(N:Nat)(a:Pat)(c:Sl Sound):Option (Sl Int):=
 if ((0:Int)<=(wrap .i64 ((c.n:Int)+1))/\(wrap .i64 ((c.n:Int)+1))<=(wrap .i64 ((c.n:Int)+1))/\(wrap .i64 ((c.n:Int)+1))*8<=140737488355328/\(wrap .i64 ((c.n:Int)+1))<=140737488355328)then
  P4 N (fun b (x1:Sl Int) (x2:Int)=>
   if (decide (x2<=(c.n:Int))) then
    if (a.Kind==0) then
     if (((0:Int)<=x2/\((0:Int)<=x2/\x2<(x1.n:Int)))/\x2.toNat<x1.n)then
      b (x1.upd x2.toNat (shI .shl .u64 1 x2)) (wrap .i64 (x2+1))
     else none
    else
     if (a.Kind==1) then
      if (decide (x2<(c.n:Int))) then
       if ((0:Int)<=x2/\x2<(c.n:Int))then
        (Nn N (c.g x2.toNat) a.Is).bind fun y3=>
        if ((y3==a.Not) != true) then
         if (((0:Int)<=(wrap .i64 (x2+1))/\((0:Int)<=x2/\x2<(x1.n:Int)))/\x2.toNat<x1.n)then
          b (x1.upd x2.toNat (shI .shl .u64 1 (wrap .i64 (x2+1)))) (wrap .i64 (x2+1))
         else none
        else
         b x1 (wrap .i64 (x2+1))
       else none
      else
       b x1 (wrap .i64 (x2+1))
     else
      if (a.Kind==2) then
       if (x2==0) then
        if (((0:Int)<=x2/\x2<(x1.n:Int))/\x2.toNat<x1.n)then
         b (x1.upd x2.toNat 1) (wrap .i64 (x2+1))
        else none
       else
        b x1 (wrap .i64 (x2+1))
      else
       if (a.Kind==6) then
        if (x2==(c.n:Int)) then
         if (((0:Int)<=x2/\((0:Int)<=x2/\x2<(x1.n:Int)))/\x2.toNat<x1.n)then
          b (x1.upd x2.toNat (shI .shl .u64 1 x2)) (wrap .i64 (x2+1))
         else none
        else
         b x1 (wrap .i64 (x2+1))
       else
        b x1 (wrap .i64 (x2+1))
   else
    if (a.Kind==3) then
     (Hf N (c.n:Int)).bind fun y4=>
     P4 N (fun i (x3:Sl Int) (x4:Int)=>
      if (decide (x4<(a.L.n:Int))) then
       if ((0:Int)<=x4/\x4<(a.L.n:Int))then
        (rec (a.L.g x4.toNat) c).bind fun y9=>
        (CB N x3 y9).bind fun o=>
        i o (wrap .i64 (x4+1))
       else none
      else
       some x3
      ) y4 0
    else
     if (a.Kind==4) then
      P4 N (fun j (x5:Sl Int) (x6:Int)=>
       if (decide (x6<(a.L.n:Int))) then
        if ((0:Int)<=x6/\x6<(a.L.n:Int))then
         (rec (a.L.g x6.toNat) c).bind fun q=>
         (Hg N x5 q).bind fun r=>
         j r (wrap .i64 (x6+1))
        else none
       else
        some x5
       ) x1 0
     else
      if (a.Kind==5) then
       if ((0:Int)<=0/\0<(a.L.n:Int))then
        (rec (a.L.g 0) c).bind fun m=>
        (Hf N (c.n:Int)).bind fun s=>
        Aa6 N (fun d (x8:Sl Int) (x9:Sl Int) (f:Int)=>
         if (decide (a.Min<=f)) then
          (Hg N x8 x9).bind fun l=>
          lt (fun (z3:Bool)=>
           if z3 then
            some l
           else
            (CB N x9 m).bind fun t=>
            d l t (wrap .i64 (f+1))
           ) fun k3=>
           if (f==a.Max) then
            k3 true
           else
            if (decide (a.Min<f)) then
             (Ik N x8 l).bind fun u=>
             k3 u
            else
             k3 false
         else
          (CB N x9 m).bind fun v=>
          d x8 v (wrap .i64 (f+1))
         ) x1 s 0
       else none
      else
       some x1
   ) (Sl.rep (wrap .i64 ((c.n:Int)+1)).toNat 0:Sl Int) 0
 else none
def DD:Nat->Pat->(Sl Sound)->Option (Sl Int)
 |0=>fun _ _=>none
 |N+1=>Fz (DD N) N
def GF (N:Nat)(d:Pat)(c:Sl Sound)(a:Int):Option ((Sl Int)×Int):=
 (Hh N d c).bind fun y1=>
 if (y1 != 0) then
  some ((Sl.nil:Sl Int),y1)
 else
  if ((decide (a<0))||(decide ((c.n:Int)<a))) then
   some ((Sl.nil:Sl Int),3)
  else
   (DD N d c).bind fun y2=>
   P4 N (fun b (x1:Sl Int) (x2:Int)=>
    if (decide (x2<=(c.n:Int))) then
     if ((((0:Int)<=x2/\x2<(y2.n:Int))/\x2.toNat<y2.n)/\(0:Int)<=a)then
      if ((C9 .and .u64 (shI .shr .u64 (y2.g x2.toNat) a) 1)==1) then
       if ((x1.n+(Sl.of [x2]:Sl Int).n)*8<=140737488355328/\x1.n+(Sl.of [x2]:Sl Int).n<=140737488355328)then
        b (x1.push x2) (wrap .i64 (x2+1))
       else none
      else
       b x1 (wrap .i64 (x2+1))
     else none
    else
     some (x1,0)
    ) (Sl.nil:Sl Int) 0
def Kg (N:Nat)(d:Pat)(c:Sl Sound)(a:Int):Option ((Sl Int)×Int):=
 (Hh N d c).bind fun y1=>
 if (y1 != 0) then
  some ((Sl.nil:Sl Int),y1)
 else
  if ((decide (a<0))||(decide ((c.n:Int)<a))) then
   some ((Sl.nil:Sl Int),3)
  else
   (DD N d c).bind fun y2=>
   P4 N (fun b (x1:Sl Int) (x2:Int)=>
    if (decide (x2<=(c.n:Int))) then
     if ((((0:Int)<=a/\a<(y2.n:Int))/\a.toNat<y2.n)/\(0:Int)<=x2)then
      if ((C9 .and .u64 (shI .shr .u64 (y2.g a.toNat) x2) 1)==1) then
       if ((x1.n+(Sl.of [x2]:Sl Int).n)*8<=140737488355328/\x1.n+(Sl.of [x2]:Sl Int).n<=140737488355328)then
        b (x1.push x2) (wrap .i64 (x2+1))
       else none
      else
       b x1 (wrap .i64 (x2+1))
     else none
    else
     some (x1,0)
    ) (Sl.nil:Sl Int) 0
def CC (N:Nat)(a:Law)(c:Sl Sound)(b:Int):Option Bool:=
 if ((decide (b<0))||(decide ((c.n:Int)<(wrap .i64 (b+(a.If.n:Int)))))) then
  some false
 else
  V9 N (fun d (x1:Int)=>
   if (decide (x1<(a.If.n:Int))) then
    if (((0:Int)<=(wrap .i64 (b+x1))/\(wrap .i64 (b+x1))<(c.n:Int))/\((0:Int)<=x1/\x1<(a.If.n:Int)))then
     (X5 N (c.g (wrap .i64 (b+x1)).toNat) (a.If.g x1.toNat)).bind fun y3=>
     if (!y3) then
      some false
     else
      d (wrap .i64 (x1+1))
    else none
   else
    (GF N a.Left c b).bind fun y4=>
    (Kg N a.Right c (wrap .i64 (b+(a.If.n:Int)))).bind fun y5=>
    some ((decide (0<(y4.1.n:Int)))&&(decide (0<(y5.1.n:Int))))
   ) 0
def DE (N:Nat)(a:Law)(b:Sl Sound):Option (Sl Sound):=
 P4 N (fun c (x1:Sl Sound) (x2:Int)=>
  if (decide (x2<(a.Out.n:Int))) then
   if ((0:Int)<=x2/\x2<(a.Out.n:Int))then
    if ((decide (0<=(a.Out.g x2.toNat).From))=true->((0:Int)<=(a.Out.g x2.toNat).From/\(a.Out.g x2.toNat).From<(b.n:Int)))then
     (X6 N (⟨(if (decide (0<=(a.Out.g x2.toNat).From)) then (b.g (a.Out.g x2.toNat).From.toNat).Plus else 0),(if (decide (0<=(a.Out.g x2.toNat).From)) then (b.g (a.Out.g x2.toNat).From.toNat).Minus else 0)⟩:Sound) (a.Out.g x2.toNat).Clear (a.Out.g x2.toNat).Set).bind fun y5=>
     if ((a.Out.g x2.toNat).Take != 0) then
      if ((0:Int)<=(a.Out.g x2.toNat).Of/\(a.Out.g x2.toNat).Of<(b.n:Int))then
       (Cg N y5.1 (b.g (a.Out.g x2.toNat).Of.toNat) (a.Out.g x2.toNat).Take).bind fun y6=>
       if ((x1.n+(Sl.of [y6.1]:Sl Sound).n)*8<=140737488355328/\x1.n+(Sl.of [y6.1]:Sl Sound).n<=140737488355328)then
        c (x1.push y6.1) (wrap .i64 (x2+1))
       else none
      else none
     else
      if ((x1.n+(Sl.of [y5.1]:Sl Sound).n)*8<=140737488355328/\x1.n+(Sl.of [y5.1]:Sl Sound).n<=140737488355328)then
       c (x1.push y5.1) (wrap .i64 (x2+1))
      else none
    else none
   else none
  else
   some x1
  ) (Sl.nil:Sl Sound) 0
def Ah (N:Nat)(c:Law)(b:Sl Sound)(a:Int):Option (Sl Sound):=
 if (((0:Int)<=a/\a<=(b.n:Int))/\(((Sl.of []:Sl Sound).n+(b.take a.toNat).n)*8<=140737488355328/\(Sl.of []:Sl Sound).n+(b.take a.toNat).n<=140737488355328))then
  if ((0:Int)<=a/\a<=(wrap .i64 (a+(c.If.n:Int)))/\(wrap .i64 (a+(c.If.n:Int)))<=(b.n:Int))then
   (DE N c (b.sub a.toNat (wrap .i64 (a+(c.If.n:Int))).toNat)).bind fun y1=>
   if ((((Sl.of []:Sl Sound).app (b.take a.toNat)).n+y1.n)*8<=140737488355328/\((Sl.of []:Sl Sound).app (b.take a.toNat)).n+y1.n<=140737488355328)then
    if (((0:Int)<=(wrap .i64 (a+(c.If.n:Int)))/\(wrap .i64 (a+(c.If.n:Int)))<=(b.n:Int))/\(((((Sl.of []:Sl Sound).app (b.take a.toNat)).app y1).n+(b.drop (wrap .i64 (a+(c.If.n:Int))).toNat).n)*8<=140737488355328/\(((Sl.of []:Sl Sound).app (b.take a.toNat)).app y1).n+(b.drop (wrap .i64 (a+(c.If.n:Int))).toNat).n<=140737488355328))then
     some ((((Sl.of []:Sl Sound).app (b.take a.toNat)).app y1).app (b.drop (wrap .i64 (a+(c.If.n:Int))).toNat))
    else none
   else none
  else none
 else none
def Nq (N:Nat)(a:Law)(b:Sl Sound):Option ((Sl Int)×(Sl (Sl Sound))×Int):=
 An1 N (fun c (x2:Sl Int) (x3:Sl (Sl Sound)) (x4:Sl Sound) (x5:Int)=>
  if (decide (x5<=(b.n:Int))) then
   (CC N a b x5).bind fun y5=>
   if (!y5) then
    lt (fun (z3:Sl Sound)=>
     c x2 x3 z3 (wrap .i64 (x5+1))
     ) fun k3=>
     if (decide (x5<(b.n:Int))) then
      if (((0:Int)<=x5/\x5<(b.n:Int))/\((x4.n+(Sl.of [b.g x5.toNat]:Sl Sound).n)*8<=140737488355328/\x4.n+(Sl.of [b.g x5.toNat]:Sl Sound).n<=140737488355328))then
       k3 (x4.push (b.g x5.toNat))
      else none
     else
      k3 x4
   else
    if ((0:Int)<=x5/\x5<=(wrap .i64 (x5+(a.If.n:Int)))/\(wrap .i64 (x5+(a.If.n:Int)))<=(b.n:Int))then
     (DE N a (b.sub x5.toNat (wrap .i64 (x5+(a.If.n:Int))).toNat)).bind fun y6=>
     if ((x4.n+y6.n)*8<=140737488355328/\x4.n+y6.n<=140737488355328)then
      if ((x2.n+(Sl.of [x5]:Sl Int).n)*8<=140737488355328/\x2.n+(Sl.of [x5]:Sl Int).n<=140737488355328)then
       if (((((Sl.of []:Sl Sound).n+(x4.app y6).n)*8<=140737488355328/\(Sl.of []:Sl Sound).n+(x4.app y6).n<=140737488355328)/\((0:Int)<=(wrap .i64 (x5+(a.If.n:Int)))/\(wrap .i64 (x5+(a.If.n:Int)))<=(b.n:Int)))/\((((Sl.of []:Sl Sound).app (x4.app y6)).n+(b.drop (wrap .i64 (x5+(a.If.n:Int))).toNat).n)*8<=140737488355328/\((Sl.of []:Sl Sound).app (x4.app y6)).n+(b.drop (wrap .i64 (x5+(a.If.n:Int))).toNat).n<=140737488355328))then
        if (decide (32<((((Sl.of []:Sl Sound).app (x4.app y6)).app (b.drop (wrap .i64 (x5+(a.If.n:Int))).toNat)).n:Int))) then
         some ((Sl.nil:Sl Int),(Sl.nil:Sl (Sl Sound)),11)
        else
         if ((x3.n+(Sl.of [((Sl.of []:Sl Sound).app (x4.app y6)).app (b.drop (wrap .i64 (x5+(a.If.n:Int))).toNat)]:Sl (Sl Sound)).n)*24<=140737488355328/\x3.n+(Sl.of [((Sl.of []:Sl Sound).app (x4.app y6)).app (b.drop (wrap .i64 (x5+(a.If.n:Int))).toNat)]:Sl (Sl Sound)).n<=140737488355328)then
          if ((a.If.n:Int)==0) then
           if (decide ((wrap .i64 (x5+(a.If.n:Int)))<(b.n:Int))) then
            if (((0:Int)<=(wrap .i64 (x5+(a.If.n:Int)))/\(wrap .i64 (x5+(a.If.n:Int)))<(b.n:Int))/\(((x4.app y6).n+(Sl.of [b.g (wrap .i64 (x5+(a.If.n:Int))).toNat]:Sl Sound).n)*8<=140737488355328/\(x4.app y6).n+(Sl.of [b.g (wrap .i64 (x5+(a.If.n:Int))).toNat]:Sl Sound).n<=140737488355328))then
             c (x2.push x5) (x3.push (((Sl.of []:Sl Sound).app (x4.app y6)).app (b.drop (wrap .i64 (x5+(a.If.n:Int))).toNat))) ((x4.app y6).push (b.g (wrap .i64 (x5+(a.If.n:Int))).toNat)) (wrap .i64 ((wrap .i64 (x5+(a.If.n:Int)))+1))
            else none
           else
            c (x2.push x5) (x3.push (((Sl.of []:Sl Sound).app (x4.app y6)).app (b.drop (wrap .i64 (x5+(a.If.n:Int))).toNat))) (x4.app y6) (wrap .i64 ((wrap .i64 (x5+(a.If.n:Int)))+1))
          else
           c (x2.push x5) (x3.push (((Sl.of []:Sl Sound).app (x4.app y6)).app (b.drop (wrap .i64 (x5+(a.If.n:Int))).toNat))) (x4.app y6) (wrap .i64 (x5+(a.If.n:Int)))
         else none
       else none
      else none
     else none
    else none
  else
   some (x2,x3,0)
  ) (Sl.nil:Sl Int) (Sl.nil:Sl (Sl Sound)) (Sl.nil:Sl Sound) 0
def Il (N:Nat)(b:Law)(c:Sl Sound):Option ((Sl Int)×(Sl (Sl Sound))×Int):=
 An1 N (fun a (x1:Sl Sound) (x2:Sl Int) (x3:Sl (Sl Sound)) (x4:Int)=>
  if (decide ((wrap .i64 (x4+(b.If.n:Int)))<=(x1.n:Int))) then
   (CC N b x1 x4).bind fun y5=>
   if (!y5) then
    a x1 x2 x3 (wrap .i64 (x4+1))
   else
    (Ah N b x1 x4).bind fun y6=>
    if (decide (32<(y6.n:Int))) then
     some ((Sl.nil:Sl Int),(Sl.nil:Sl (Sl Sound)),11)
    else
     if (((x2.n+(Sl.of [x4]:Sl Int).n)*8<=140737488355328/\x2.n+(Sl.of [x4]:Sl Int).n<=140737488355328)/\((x3.n+(Sl.of [y6]:Sl (Sl Sound)).n)*24<=140737488355328/\x3.n+(Sl.of [y6]:Sl (Sl Sound)).n<=140737488355328))then
      if ((b.If.n:Int)==0) then
       a y6 (x2.push x4) (x3.push y6) (wrap .i64 ((wrap .i64 (x4+(b.Out.n:Int)))+1))
      else
       a y6 (x2.push x4) (x3.push y6) (wrap .i64 (x4+(b.Out.n:Int)))
     else none
  else
   some (x2,x3,0)
  ) c (Sl.nil:Sl Int) (Sl.nil:Sl (Sl Sound)) 0
def Hi (N:Nat)(b:Law)(c:Sl Sound):Option ((Sl Int)×(Sl (Sl Sound))×Int):=
 An1 N (fun a (x1:Sl Sound) (x2:Sl Int) (x3:Sl (Sl Sound)) (x4:Int)=>
  if (decide (0<=x4)) then
   (CC N b x1 x4).bind fun y5=>
   if (!y5) then
    a x1 x2 x3 (wrap .i64 (x4-1))
   else
    (Ah N b x1 x4).bind fun y6=>
    if (decide (32<(y6.n:Int))) then
     some ((Sl.nil:Sl Int),(Sl.nil:Sl (Sl Sound)),11)
    else
     if (((x2.n+(Sl.of [x4]:Sl Int).n)*8<=140737488355328/\x2.n+(Sl.of [x4]:Sl Int).n<=140737488355328)/\((x3.n+(Sl.of [y6]:Sl (Sl Sound)).n)*24<=140737488355328/\x3.n+(Sl.of [y6]:Sl (Sl Sound)).n<=140737488355328))then
      if ((b.If.n:Int)==0) then
       a y6 (x2.push x4) (x3.push y6) (wrap .i64 ((wrap .i64 (x4-(b.If.n:Int)))-1))
      else
       a y6 (x2.push x4) (x3.push y6) (wrap .i64 (x4-(b.If.n:Int)))
     else none
  else
   some (x2,x3,0)
  ) c (Sl.nil:Sl Int) (Sl.nil:Sl (Sl Sound)) (wrap .i64 ((c.n:Int)-(b.If.n:Int)))
def Im (N:Nat)(a:Law)(b:Sl Sound):Option ((Sl Int)×(Sl (Sl Sound))×Int):=
 (Np N a b).bind fun y1=>
 if (y1 != 0) then
  some ((Sl.nil:Sl Int),(Sl.nil:Sl (Sl Sound)),y1)
 else
  if (a.Mode==1) then
   (Nq N a b).bind fun y2=>
   some (y2.1,y2.2.1,y2.2.2)
  else
   if (a.Mode==2) then
    (Il N a b).bind fun y3=>
    some (y3.1,y3.2.1,y3.2.2)
   else
    (Hi N a b).bind fun y4=>
    some (y4.1,y4.2.1,y4.2.2)
def FA (N:Nat)(b:Law)(a:Sl Sound):Option ((Sl Sound)×Int):=
 (Im N b a).bind fun y1=>
 if (y1.2.2 != 0) then
  some ((Sl.nil:Sl Sound),y1.2.2)
 else
  if ((y1.2.1.n:Int)==0) then
   if (((Sl.of []:Sl Sound).n+a.n)*8<=140737488355328/\(Sl.of []:Sl Sound).n+a.n<=140737488355328)then
    some ((Sl.of []:Sl Sound).app a,0)
   else none
  else
   if ((((0:Int)<=(wrap .i64 ((y1.2.1.n:Int)-1))/\(wrap .i64 ((y1.2.1.n:Int)-1))<(y1.2.1.n:Int))/\(wrap .i64 ((y1.2.1.n:Int)-1)).toNat<y1.2.1.n)/\(((Sl.of []:Sl Sound).n+(y1.2.1.g (wrap .i64 ((y1.2.1.n:Int)-1)).toNat).n)*8<=140737488355328/\(Sl.of []:Sl Sound).n+(y1.2.1.g (wrap .i64 ((y1.2.1.n:Int)-1)).toNat).n<=140737488355328))then
    some ((Sl.of []:Sl Sound).app (y1.2.1.g (wrap .i64 ((y1.2.1.n:Int)-1)).toNat),0)
   else none
def Nr (N:Nat)(a:Sl Law)(c:Sl Sound):Option ((Sl (Sl Sound))×Int):=
 (Fy N a).bind fun y1=>
 lt (fun (z1:Int)=>
  if (z1 != 0) then
   some ((Sl.nil:Sl (Sl Sound)),z1)
  else
   (He N c).bind fun y4=>
   P4 N (fun b (x2:Sl (Sl Sound)) (x3:Int)=>
    if (decide (x3<(a.n:Int))) then
     if ((((0:Int)<=x3/\x3<(a.n:Int))/\((0:Int)<=x3/\x3<(x2.n:Int)))/\x3.toNat<x2.n)then
      (FA N (a.g x3.toNat) (x2.g x3.toNat)).bind fun y7=>
      if (y7.2 != 0) then
       some ((Sl.nil:Sl (Sl Sound)),y7.2)
      else
       if ((x2.n+(Sl.of [y7.1]:Sl (Sl Sound)).n)*24<=140737488355328/\x2.n+(Sl.of [y7.1]:Sl (Sl Sound)).n<=140737488355328)then
        b (x2.push y7.1) (wrap .i64 (x3+1))
       else none
     else none
    else
     some (x2,0)
    ) (Sl.of [y4]:Sl (Sl Sound)) 0
  ) fun k1=>
  if (y1==0) then
   (DB N c).bind fun y3=>
   k1 y3
  else
   k1 y1
def GG (N:Nat)(a:Sl Law)(b:Sl Sound):Option ((Sl Sound)×Int):=
 (Nr N a b).bind fun y1=>
 if (y1.2 != 0) then
  some ((Sl.nil:Sl Sound),y1.2)
 else
  if (((0:Int)<=(wrap .i64 ((y1.1.n:Int)-1))/\(wrap .i64 ((y1.1.n:Int)-1))<(y1.1.n:Int))/\(wrap .i64 ((y1.1.n:Int)-1)).toNat<y1.1.n)then
   some (y1.1.g (wrap .i64 ((y1.1.n:Int)-1)).toNat,0)
  else none
end Go.AM
namespace Go.AM
open IntKind (wrap)
open Go.Proofs
set_option maxRecDepth 10000
set_option maxHeartbeats 2000000
variable {S:AD}(hS:H2 S Tryz.prog) (hL:PF S)
include hS hL
def Q4 (N:Nat)(q0:Int):Option (List (Int)):=
 V9 N (fun a (x1:Int)=>
  if (x1 != 0) then
   (B6 N x1).bind fun y3=>
   if (0:Int)<=y3 then
    Ar y3 (
     a (C9 .andNot .u64 x1 (shI .shl .u64 1 y3))
     )
   else none
  else
   some []
  ) q0
theorem CR {N:Nat}{q0:Int}{L:List (Int)}(h:Q4 N q0=some L) :Fj S AW [] [.reg 0 0] [.cells [.p (pI .u64 q0)]] (L.map (fun (x:Int)=>[pI .i64 x])):=by
 unfold Q4 at h;refine Fo hS Tryz.func236 ?_;refine Gp hS trivial h (fun x1 L1=>⟨[(1,.reg 0 0),(0,.yf 1)],[(1,.yld (L1.map (fun (x:Int)=>[pI .i64 x])) true),(0,.cells [.p (pI .u64 x1)])]⟩) (ids:=[(0,0),(1,1)]) (fun _ _ _ _ _ d x1 L1 f h=>?_);refine kI hS h ?_ ?_<;>intro h
 ·refine kC hS h (I9 hS hL) (fun y3 h=>?_);refine Ih hS trivial ?_;obtain⟨c10,h⟩:=F4 h;refine P7 c10 ?_;obtain⟨L4,rfl,c⟩:=Mw h;replace h:=c;refine Dt hS trivial (ys:=(fun (x:Int)=>[pI .i64 x]) y3) (rest:=L4.map (fun (x:Int)=>[pI .i64 x])) ?_ ?_
  ·refine E4 hS trivial (b:=false) (fun c11=>?_) (fun c11=>?_)
   ·exact Bool.noConfusion ((rfl:false=false).symm.trans c11)
   ·exact f _ [(0,0),(1,1)] _ (C9 .andNot .u64 x1 (shI .shl .u64 1 y3)) L4 trivial h
  ·refine E4 hS trivial (b:=true) (fun c12=>?_) (fun c12=>?_)
   ·exact A9 hS trivial (a:=.tup []) (objs:=[(.cells [.p (pI .u64 (C9 .andNot .u64 x1 (shI .shl .u64 1 y3)))]),.yld [] false]) ⟨[],[(1,.yld [] false),(0,.cells [.p (pI .u64 (C9 .andNot .u64 x1 (shI .shl .u64 1 y3)))])]⟩ [0,1] (ids:=[(0,0),(1,1)]) ⟨false,rfl,rfl,_,rfl⟩
   ·exact Bool.noConfusion ((rfl:true=true).symm.trans c12)
 ·obtain rfl:=C4 h;exact A9 hS trivial (a:=.tup []) (objs:=[(.cells [.p (pI .u64 x1)]),.yld [] true]) ⟨[],[(1,.yld [] true),(0,.cells [.p (pI .u64 x1)])]⟩ [0,1] (ids:=[(0,0),(1,1)]) ⟨true,rfl,rfl,_,rfl⟩
def AO (N:Nat)(a:Int):Option (Int):=
 some a
theorem Es {N:Nat}{a:Int}{y:Int}(h:AO N a=some y) :FunO S HN [.p (pI .u64 a)] [] (.clo AW [] [.reg 0 0]) ([.cells [.p (pI .u64 y)]]) []:=by unfold AO at h;refine A2 hS Tryz.func229 ?_;obtain rfl:=C4 h;exact A9 hS trivial ⟨[(2,.clo AW [] [.reg 2000 0])],[(2000,.cells [.p (pI .u64 a)])]⟩ [2000] (ids:=[(2000,2000)]) ⟨rfl,rfl,rfl⟩
def D4 (N:Nat)(p_x:Nat->Int)(c:Nat->Int):Option (Nat->Int):=
 P4 N (fun a (x3:Nat->Int) (x4:Int)=>
  if (decide (x4<33)) then
   if (((0:Int)<=x4/\x4<33)/\(0+x4.toNat*1)<33)then
    (AO N (p_x (0+x4.toNat*1))).bind fun y3=>
    (Q4 N y3).bind fun L3=>
    O5 L3 (fun b (x7:Int) (z3:Nat->Int)=>
     if (((((((0:Int)<=x4/\x4<33)/\(0+x4.toNat*1)<33)/\((0:Int)<=x7/\x7<33))/\(0+x7.toNat*1)<33)/\((0:Int)<=x4/\x4<33))/\(0+x4.toNat*1)<33)then
      b (KK z3 (0+x4.toNat*1) (C9 .or .u64 (z3 (0+x4.toNat*1)) (c (0+x7.toNat*1))))
     else none
     ) (fun (z3:Nat->Int)=>
      a z3 (wrap .i64 (x4+1))
     ) x3
   else none
  else
   some x3
  ) (fun _=>0) 0
theorem S4 {N:Nat}{p_x:Nat->Int}{b:Nat->Int}{y:Nat->Int}(h:D4 N p_x b=some y) :FunO S Ax [.reg 0 0,.reg 1 0] [.arr 33 (fun i=>pI .u64 (p_x i)),.arr 33 (fun i=>pI .u64 (b i))] (.p (.agg (cA 33 (pI .u64) y))) ([.arr 33 (fun i=>pI .u64 (p_x i)),.arr 33 (fun i=>pI .u64 (b i))]) [true,true]:=by
 unfold D4 at h;refine A2 hS Tryz.func266 ?_;refine I4 hS trivial h (fun x3 x4=>⟨[(10,pN x4),(9,.reg 0 0),(5,.reg 6000 0),(4,.reg 5000 0),(3,.reg 4000 0)],[(6000,.arr 33 (fun i=>pI .u64 (x3 i))),(5000,.arr 33 (fun i=>pI .u64 ((fun _=>0) i))),(4000,.cells [.reg 1 0]),(1,.arr 33 (fun i=>pI .u64 (b i))),(0,.arr 33 (fun i=>pI .u64 (p_x i)))]⟩) (ids:=[(0,0),(1,1),(4000,4000),(5000,5000),(6000,6000)]) (fun _ _ _ _ _ d x3 x4 f h=>?_) (hle:=klR [(1,.fn 33 33 (fun i=>[(fun i=>(List.replicate 33 (pI .u64 0)).getD i default) i]) (fun i=>[pI .u64 ((fun _=>0) i)])),(2,.fn 33 33 (fun i=>[(fun i=>(List.replicate 33 (pI .u64 0)).getD i default) i]) (fun i=>[pI .u64 ((fun _=>0) i)]))] (al1 ⟨rfl,BC (z:=pI .u64 0) rfl⟩ (al1 ⟨rfl,BC (z:=pI .u64 0) rfl⟩ al0)));refine kI hS h ?_ ?_<;>intro h
 ·refine Z8 hS trivial [(2,.l [0]),(3,.l [0]),(4,.a [7000]),(5,.a [7000])] ?_;obtain⟨c12,h⟩:=F4 h;refine P7 c12 ?_;refine I7 hS trivial 16 7000 [pI .i64 x4] ?_;refine kC hS h (Es hS hL) (fun y3 h=>?_);obtain⟨L3,e6,h⟩:=B9 h;refine Em hS trivial [18000] [10,9,6,5,4,3] 905 (fun z3=>⟨[(10,pN x4),(9,.reg 0 0),(6,.p (.ptr [pI .i64 x4])),(5,.reg 6000 0),(4,.reg 5000 0),(3,.reg 4000 0)],[(6000,.arr 33 (fun i=>pI .u64 (z3 i))),(5000,.arr 33 (fun i=>pI .u64 ((fun _=>0) i))),(4000,.cells [.reg 1 0]),(1,.arr 33 (fun i=>pI .u64 (b i))),(0,.arr 33 (fun i=>pI .u64 (p_x i)))]⟩) (idl:=[(0,0),(1,1),(4000,4000),(5000,5000),(6000,6000)]) h (CR hS hL e6) (fun _=>by kernel_rfl) (fun _=>by kernel_rfl) (fun _=>by kernel_rfl) (fun _=>by kernel_rfl) (fun x7 _ g z3 j h=>?_) (fun z3 h=>?_)
  ·refine Ii hS trivial ?_;refine Z8 hS trivial [(0,.n),(1,.l [6000]),(2,.l [6000]),(3,.l [4000]),(6,.l [1]),(7,.l [1]),(9,.l [6000]),(10,.a [6000])] ?_;obtain⟨c15,h⟩:=F4 h;refine P7 c15 ?_;exact j _ [(0,0),(1,1),(905,905),(4000,4000),(5000,5000),(6000,6000)] _ (KK z3 (0+x4.toNat*1) (C9 .or .u64 (z3 (0+x4.toNat*1)) (b (0+x7.toNat*1)))) trivial h (hle:=klR [(0,.fn 33 33 (fun i=>[(fun i=>if i=(0+x4.toNat*1)then (pI .u64 (C9 .or .u64 (z3 (0+x4.toNat*1)) (b (0+x7.toNat*1))))else (fun i=>pI .u64 (z3 i)) i) i]) (fun i=>[pI .u64 (KK z3 (0+x4.toNat*1) (C9 .or .u64 (z3 (0+x4.toNat*1)) (b (0+x7.toNat*1))) i)]))] (al1 ⟨rfl,Aw1 (c:=pI .u64) (v:=z3) (x:=C9 .or .u64 (z3 (0+x4.toNat*1)) (b (0+x7.toNat*1))) (fun _ _=>rfl) rfl⟩ al0))
  ·exact f _ [(0,0),(1,1),(4000,4000),(5000,5000),(6000,6000)] _ z3 (wrap .i64 (x4+1)) trivial h
 ·obtain rfl:=C4 h;exact A9 hS (And.intro rfl (F3 _ _):(0:Nat)=0/\(Bv 33 (fun i=>pI .u64 (x3 i))).length=33) ⟨[(4,.reg 5000 0)],[(5000,.arr 33 (fun i=>pI .u64 (x3 i))),(1,.arr 33 (fun i=>pI .u64 (b i))),(0,.arr 33 (fun i=>pI .u64 (p_x i)))]⟩ [0,1] (ids:=[(0,0),(1,1),(5000,5000)]) ⟨rfl,rfl,rfl⟩ (hle:=klR [(0,.fn 33 33 (fun i=>[(fun i=>(cA 33 (pI .u64) x3).getD i default) i]) (fun i=>[pI .u64 (x3 i)]))] (al1 ⟨rfl,D5 33 (fun i=>pI .u64 (x3 i))⟩ al0))
def I2 (N:Nat)(p_x:Nat->Int):Option (Nat->Int):=
 P4 N (fun a (x3:Nat->Int) (x4:Int)=>
  if (decide (x4<33)) then
   if (((0:Int)<=x4/\x4<33)/\(0+x4.toNat*1)<33)then
    (AO N (p_x (0+x4.toNat*1))).bind fun y3=>
    (Q4 N y3).bind fun L3=>
    O5 L3 (fun b (x7:Int) (z3:Nat->Int)=>
     if (((((((0:Int)<=x4/\x4<33)/\(0+x4.toNat*1)<33)/\((0:Int)<=x7/\x7<33))/\(0+x7.toNat*1)<33)/\((0:Int)<=x4/\x4<33))/\(0+x4.toNat*1)<33)then
      b (KK z3 (0+x4.toNat*1) (C9 .or .u64 (z3 (0+x4.toNat*1)) (p_x (0+x7.toNat*1))))
     else none
     ) (fun (z3:Nat->Int)=>
      a z3 (wrap .i64 (x4+1))
     ) x3
   else none
  else
   some x3
  ) (fun _=>0) 0
theorem CD {N:Nat}{p_x:Nat->Int}{y:Nat->Int}(h:I2 N p_x=some y) :FunO S Ax [.reg 0 0,.reg 0 0] [.arr 33 (fun i=>pI .u64 (p_x i))] (.p (.agg (cA 33 (pI .u64) y))) ([.arr 33 (fun i=>pI .u64 (p_x i))]) [true]:=by
 unfold I2 at h;refine A2 hS Tryz.func266 ?_;refine I4 hS trivial h (fun x3 x4=>⟨[(10,pN x4),(9,.reg 0 0),(5,.reg 6000 0),(4,.reg 5000 0),(3,.reg 4000 0)],[(6000,.arr 33 (fun i=>pI .u64 (x3 i))),(5000,.arr 33 (fun i=>pI .u64 ((fun _=>0) i))),(4000,.cells [.reg 0 0]),(0,.arr 33 (fun i=>pI .u64 (p_x i)))]⟩) (ids:=[(0,0),(4000,4000),(5000,5000),(6000,6000)]) (fun _ _ _ _ _ b x3 x4 d h=>?_) (hle:=klR [(1,.fn 33 33 (fun i=>[(fun i=>(List.replicate 33 (pI .u64 0)).getD i default) i]) (fun i=>[pI .u64 ((fun _=>0) i)])),(2,.fn 33 33 (fun i=>[(fun i=>(List.replicate 33 (pI .u64 0)).getD i default) i]) (fun i=>[pI .u64 ((fun _=>0) i)]))] (al1 ⟨rfl,BC (z:=pI .u64 0) rfl⟩ (al1 ⟨rfl,BC (z:=pI .u64 0) rfl⟩ al0)));refine kI hS h ?_ ?_<;>intro h
 ·refine Z8 hS trivial [(2,.l [0]),(3,.l [0]),(4,.a [7000]),(5,.a [7000])] ?_;obtain⟨c12,h⟩:=F4 h;refine P7 c12 ?_;refine I7 hS trivial 16 7000 [pI .i64 x4] ?_;refine kC hS h (Es hS hL) (fun y3 h=>?_);obtain⟨L3,e6,h⟩:=B9 h;refine Em hS trivial [18000] [10,9,6,5,4,3] 905 (fun z3=>⟨[(10,pN x4),(9,.reg 0 0),(6,.p (.ptr [pI .i64 x4])),(5,.reg 6000 0),(4,.reg 5000 0),(3,.reg 4000 0)],[(6000,.arr 33 (fun i=>pI .u64 (z3 i))),(5000,.arr 33 (fun i=>pI .u64 ((fun _=>0) i))),(4000,.cells [.reg 0 0]),(0,.arr 33 (fun i=>pI .u64 (p_x i)))]⟩) (idl:=[(0,0),(4000,4000),(5000,5000),(6000,6000)]) h (CR hS hL e6) (fun _=>by kernel_rfl) (fun _=>by kernel_rfl) (fun _=>by kernel_rfl) (fun _=>by kernel_rfl) (fun x7 _ f z3 g h=>?_) (fun z3 h=>?_)
  ·refine Ii hS trivial ?_;refine Z8 hS trivial [(0,.n),(1,.l [6000]),(2,.l [6000]),(3,.l [4000]),(6,.l [0]),(7,.l [0]),(9,.l [6000]),(10,.a [6000])] ?_;obtain⟨c15,h⟩:=F4 h;refine P7 c15 ?_;exact g _ [(0,0),(905,905),(4000,4000),(5000,5000),(6000,6000)] _ (KK z3 (0+x4.toNat*1) (C9 .or .u64 (z3 (0+x4.toNat*1)) (p_x (0+x7.toNat*1)))) trivial h (hle:=klR [(0,.fn 33 33 (fun i=>[(fun i=>if i=(0+x4.toNat*1)then (pI .u64 (C9 .or .u64 (z3 (0+x4.toNat*1)) (p_x (0+x7.toNat*1))))else (fun i=>pI .u64 (z3 i)) i) i]) (fun i=>[pI .u64 (KK z3 (0+x4.toNat*1) (C9 .or .u64 (z3 (0+x4.toNat*1)) (p_x (0+x7.toNat*1))) i)]))] (al1 ⟨rfl,Aw1 (c:=pI .u64) (v:=z3) (x:=C9 .or .u64 (z3 (0+x4.toNat*1)) (p_x (0+x7.toNat*1))) (fun _ _=>rfl) rfl⟩ al0))
  ·exact d _ [(0,0),(4000,4000),(5000,5000),(6000,6000)] _ z3 (wrap .i64 (x4+1)) trivial h
 ·obtain rfl:=C4 h;exact A9 hS (And.intro rfl (F3 _ _):(0:Nat)=0/\(Bv 33 (fun i=>pI .u64 (x3 i))).length=33) ⟨[(4,.reg 5000 0)],[(5000,.arr 33 (fun i=>pI .u64 (x3 i))),(0,.arr 33 (fun i=>pI .u64 (p_x i)))]⟩ [0] (ids:=[(0,0),(5000,5000)]) ⟨rfl,rfl,rfl⟩ (hle:=klR [(0,.fn 33 33 (fun i=>[(fun i=>(cA 33 (pI .u64) x3).getD i default) i]) (fun i=>[pI .u64 (x3 i)]))] (al1 ⟨rfl,D5 33 (fun i=>pI .u64 (x3 i))⟩ al0))
def F2 (N:Nat)(p_x:Nat->Int)(b:Int)(c:Int):Option (Nat->Int):=
 (Q0 N c).bind fun y1=>
 Aa6 N (fun a (x1:Int) (x2:Nat->Int) (x3:Nat->Int)=>
  if (decide (0<x1)) then
   if ((C9 .and .i64 x1 1)==1) then
    (D4 N x3 x2).bind fun y8=>
    (I2 N x2).bind fun y9=>
    a (shI .shr .i64 x1 1) y9 y8
   else
    (I2 N x2).bind fun d=>
    a (shI .shr .i64 x1 1) d x3
  else
   some x3
  ) b p_x y1
theorem Y0 {N:Nat}{p_x:Nat->Int}{b:Int}{c:Int}{y:Nat->Int}(h:F2 N p_x b c=some y) :FunO S Cz [.p (.agg (cA 33 (pI .u64) p_x)),pN b,pN c] [] (.p (.agg (cA 33 (pI .u64) y))) ([]) []:=by
 unfold F2 at h;refine A2 hS Tryz.func259 ?_;refine kC hS h (DC hS hL) (fun y1 h=>?_);refine Pq hS (And.intro rfl (F3 _ _):(0:Nat)=0/\(Bv 33 (fun i=>pI .u64 (y1 i))).length=33) h (fun x1 x2 x3=>⟨[(7,.reg 8000 0),(6,.reg 7000 0),(3,.reg 4000 0),(1,pN x1)],[(8000,.arr 33 (fun i=>pI .u64 (x3 i))),(7000,.arr 33 (fun i=>pI .u64 ((fun _=>0) i))),(4000,.arr 33 (fun i=>pI .u64 (x2 i)))]⟩) (ids:=[(4000,4000),(7000,7000),(8000,8000)]) (fun _ _ _ _ _ f x1 x2 x3 d h=>?_) (hle:=klR [(1,.fn 33 33 (fun i=>[(fun i=>(cA 33 (pI .u64) y1).getD i default) i]) (fun i=>[pI .u64 (y1 i)])),(2,.fn 33 33 (fun i=>[(fun i=>(List.replicate 33 (pI .u64 0)).getD i default) i]) (fun i=>[pI .u64 ((fun _=>0) i)])),(3,.fn 33 33 (fun i=>[(fun i=>(cA 33 (pI .u64) p_x).getD i default) i]) (fun i=>[pI .u64 (p_x i)]))] (al1 ⟨rfl,D5 33 (fun i=>pI .u64 (y1 i))⟩ (al1 ⟨rfl,BC (z:=pI .u64 0) rfl⟩ (al1 ⟨rfl,D5 33 (fun i=>pI .u64 (p_x i))⟩ al0))));refine kI hS h ?_ ?_<;>intro h
 ·refine kI hS h ?_ ?_<;>intro h
  ·obtain⟨y8,e8,h⟩:=B9 h;refine B7 hS [8000,4000] trivial (S4 hS hL e8) ?_;obtain⟨y9,e9,h⟩:=B9 h;refine B7 hS [4000] (And.intro rfl (F3 _ _):(0:Nat)=0/\(Bv 33 (fun i=>pI .u64 (y8 i))).length=33) (CD hS hL e9) ?_;exact d _ [(4000,4000),(7000,7000),(8000,8000)] _ (shI .shr .i64 x1 1) y9 y8 (And.intro (And.intro rfl (F3 _ _):(0:Nat)=0/\(Bv 33 (fun i=>pI .u64 (y9 i))).length=33) (by decide:(0:Int)<=1)) h (hle:=klR [(1,.fn 33 33 (fun i=>[(fun i=>(cA 33 (pI .u64) y8).getD i default) i]) (fun i=>[pI .u64 (y8 i)])),(3,.fn 33 33 (fun i=>[(fun i=>(cA 33 (pI .u64) y9).getD i default) i]) (fun i=>[pI .u64 (y9 i)]))] (al1 ⟨rfl,D5 33 (fun i=>pI .u64 (y8 i))⟩ (al1 ⟨rfl,D5 33 (fun i=>pI .u64 (y9 i))⟩ al0)))
  ·obtain⟨a,e10,h⟩:=B9 h;refine B7 hS [4000] trivial (CD hS hL e10) ?_;exact d _ [(4000,4000),(7000,7000),(8000,8000)] _ (shI .shr .i64 x1 1) a x3 (And.intro (And.intro rfl (F3 _ _):(0:Nat)=0/\(Bv 33 (fun i=>pI .u64 (a i))).length=33) (by decide:(0:Int)<=1)) h (hle:=klR [(3,.fn 33 33 (fun i=>[(fun i=>(cA 33 (pI .u64) a).getD i default) i]) (fun i=>[pI .u64 (a i)]))] (al1 ⟨rfl,D5 33 (fun i=>pI .u64 (a i))⟩ al0))
 ·obtain rfl:=C4 h;exact A9 hS (And.intro rfl (F3 _ _):(0:Nat)=0/\(Bv 33 (fun i=>pI .u64 (x3 i))).length=33) ⟨[(6,.reg 7000 0)],[(7000,.arr 33 (fun i=>pI .u64 (x3 i)))]⟩ [] (ids:=[(7000,7000)]) ⟨rfl,rfl,rfl⟩ (hle:=klR [(0,.fn 33 33 (fun i=>[(fun i=>(cA 33 (pI .u64) x3).getD i default) i]) (fun i=>[pI .u64 (x3 i)]))] (al1 ⟨rfl,D5 33 (fun i=>pI .u64 (x3 i))⟩ al0))
end Go.AM
namespace Go.AM
open IntKind (wrap)
open Go.Proofs
set_option maxRecDepth 10000
set_option maxHeartbeats 2000000
variable {S:AD}(hS:H2 S Tryz.prog) (hL:PF S)
include hS hL
def Y1 (N:Nat)(p_x:Ac2)(b:Sl Sound):Option (Nat->Int):=
 P4 N (fun a (x1:Nat->Int) (x2:Int)=>
  if (decide (x2<(b.n:Int))) then
   if ((0:Int)<=x2/\x2<(b.n:Int))then
    if ((((C9 .or .u32 (C9 .andNot .u32 p_x.is.Plus (b.g x2.toNat).Plus) (C9 .andNot .u32 p_x.is.Minus (b.g x2.toNat).Minus))==0)==p_x.not) != true) then
     if (((0:Int)<=(wrap .i64 (x2+1))/\((0:Int)<=x2/\x2<33))/\(0+x2.toNat*1)<33)then
      a (KK x1 (0+x2.toNat*1) (shI .shl .u64 1 (wrap .i64 (x2+1)))) (wrap .i64 (x2+1))
     else none
    else
     a x1 (wrap .i64 (x2+1))
   else none
  else
   some x1
  ) (fun _=>0) 0
theorem Ns {N:Nat}{p_x:Ac2}{a:Sl Sound}{y:Nat->Int}(h:Y1 N p_x a=some y) :FunO S Dy [.p (.agg (WY p_x)),.p (vSl 2 A0 a)] [] (.p (.agg (cA 33 (pI .u64) y))) ([]) []:=by
 unfold Y1 at h;refine A2 hS Tryz.func260 ?_;refine I4 hS trivial h (fun x1 x2=>⟨[(9,pN x2),(8,pN (a.n:Int)),(7,.p (vSl 2 A0 a)),(4,.reg 5000 0),(2,.reg 3000 0)],[(5000,.arr 33 (fun i=>pI .u64 (x1 i))),(3000,.cells ((WY p_x).map .p))]⟩) (ids:=[(3000,3000),(5000,5000)]) (fun _ _ _ _ _ f x1 x2 d h=>?_) (hle:=klR [(3,.fn 33 33 (fun i=>[(fun i=>(List.replicate 33 (pI .u64 0)).getD i default) i]) (fun i=>[pI .u64 ((fun _=>0) i)]))] (al1 ⟨rfl,BC (z:=pI .u64 0) rfl⟩ al0));refine kI hS h ?_ ?_<;>intro h
 ·obtain⟨c8,h⟩:=F4 h;refine E4 hS (And.intro c8 (by decide:(2:Nat)<=2)) (b:=(((C9 .or .u32 (C9 .andNot .u32 p_x.is.Plus (a.g x2.toNat).Plus) (C9 .andNot .u32 p_x.is.Minus (a.g x2.toNat).Minus))==0)==p_x.not) != true) (fun c9=>?_) (fun c9=>?_)
  ·replace h:=itT c9 h;obtain⟨c10,h⟩:=F4 h;exact d _ [(3000,3000),(5000,5000)] _ (KK x1 (0+x2.toNat*1) (shI .shl .u64 1 (wrap .i64 (x2+1)))) (wrap .i64 (x2+1)) c10 h (hle:=klR [(3,.fn 33 33 (fun i=>[(fun i=>if i=(0+x2.toNat*1)then (pI .u64 (shI .shl .u64 1 (wrap .i64 (x2+1))))else (fun i=>pI .u64 (x1 i)) i) i]) (fun i=>[pI .u64 (KK x1 (0+x2.toNat*1) (shI .shl .u64 1 (wrap .i64 (x2+1))) i)]))] (al1 ⟨rfl,Aw1 (c:=pI .u64) (v:=x1) (x:=shI .shl .u64 1 (wrap .i64 (x2+1))) (fun _ _=>rfl) rfl⟩ al0))
  ·replace h:=itF c9 h;exact d _ [(3000,3000),(5000,5000)] _ x1 (wrap .i64 (x2+1)) trivial h
 ·obtain rfl:=C4 h;exact A9 hS (And.intro rfl (F3 _ _):(0:Nat)=0/\(Bv 33 (fun i=>pI .u64 (x1 i))).length=33) ⟨[(4,.reg 5000 0)],[(5000,.arr 33 (fun i=>pI .u64 (x1 i)))]⟩ [] (ids:=[(5000,5000)]) ⟨rfl,rfl,rfl⟩ (hle:=klR [(0,.fn 33 33 (fun i=>[(fun i=>(cA 33 (pI .u64) x1).getD i default) i]) (fun i=>[pI .u64 (x1 i)]))] (al1 ⟨rfl,D5 33 (fun i=>pI .u64 (x1 i))⟩ al0))
def AP (N:Nat)(p_x:AD6)(a:Sl Sound):Option (Nat->Int):=
 if p_x.end_ then
  if (((0:Int)<=(a.n:Int)/\((0:Int)<=(a.n:Int)/\(a.n:Int)<33))/\(0+(a.n:Int).toNat*1)<33)then
   some (KK (fun _=>0) (0+(a.n:Int).toNat*1) (shI .shl .u64 1 (a.n:Int)))
  else none
 else
  if (((0:Int)<=0/\(0:Int)<33)/\(0+0*1)<33)then
   some (KK (fun _=>0) (0+0*1) (shI .shl .u64 1 0))
  else none
theorem OC {N:Nat}{p_x:AD6}{a:Sl Sound}{y:Nat->Int}(h:AP N p_x a=some y) :FunO S Ep [.p (.agg (AD7 p_x)),.p (vSl 2 A0 a)] [] (.p (.agg (cA 33 (pI .u64) y))) ([]) []:=by
 unfold AP at h;refine A2 hS Tryz.func261 ?_;refine kI hS h ?_ ?_<;>intro h
 ·obtain⟨c2,h⟩:=F4 h;obtain rfl:=C4 h;exact A9 hS (And.intro (And.intro (And.intro c2.1.1 c2.1.2) c2.2) (And.intro rfl (F3 _ _):(0:Nat)=0/\(Bv 33 (fun i=>if i=(0+(a.n:Int).toNat*1)then (pI .u64 (shI .shl .u64 1 (a.n:Int)))else (fun i=>(List.replicate 33 (pI .u64 0)).getD i default) i)).length=33)) ⟨[(4,.reg 5000 0)],[(5000,.arr 33 (fun i=>pI .u64 (KK (fun _=>0) (0+(a.n:Int).toNat*1) (shI .shl .u64 1 (a.n:Int)) i)))]⟩ [] (ids:=[(5000,5000)]) ⟨rfl,rfl,rfl⟩ (hle:=klR [(0,.fn 33 33 (fun i=>[(fun i=>(Bv 33 (fun i=>if i=(0+(a.n:Int).toNat*1)then (pI .u64 (shI .shl .u64 1 (a.n:Int)))else (fun i=>(List.replicate 33 (pI .u64 0)).getD i default) i)).getD i default) i]) (fun i=>[pI .u64 (KK (fun _=>0) (0+(a.n:Int).toNat*1) (shI .shl .u64 1 (a.n:Int)) i)]))] (al1 ⟨rfl,fun i b=>(D5 33 (fun i=>if i=(0+(a.n:Int).toNat*1)then (pI .u64 (shI .shl .u64 1 (a.n:Int)))else (fun i=>(List.replicate 33 (pI .u64 0)).getD i default) i) i b).trans (Aw1 (c:=pI .u64) (v:=fun _=>0) (x:=shI .shl .u64 1 (a.n:Int)) (BC (z:=pI .u64 0) rfl) rfl i b)⟩ al0))
 ·obtain⟨c3,h⟩:=F4 h;obtain rfl:=C4 h;exact A9 hS (And.intro (And.intro (And.intro (by decide:(0:Int)<=0) c3.1) c3.2) (And.intro rfl (F3 _ _):(0:Nat)=0/\(Bv 33 (fun i=>if i=(0+0*1)then (pI .u64 (shI .shl .u64 1 0))else (fun i=>(List.replicate 33 (pI .u64 0)).getD i default) i)).length=33)) ⟨[(4,.reg 5000 0)],[(5000,.arr 33 (fun i=>pI .u64 (KK (fun _=>0) (0+0*1) (shI .shl .u64 1 0) i)))]⟩ [] (ids:=[(5000,5000)]) ⟨rfl,rfl,rfl⟩ (hle:=klR [(0,.fn 33 33 (fun i=>[(fun i=>(Bv 33 (fun i=>if i=(0+0*1)then (pI .u64 (shI .shl .u64 1 0))else (fun i=>(List.replicate 33 (pI .u64 0)).getD i default) i)).getD i default) i]) (fun i=>[pI .u64 (KK (fun _=>0) (0+0*1) (shI .shl .u64 1 0) i)]))] (al1 ⟨rfl,fun i b=>(D5 33 (fun i=>if i=(0+0*1)then (pI .u64 (shI .shl .u64 1 0))else (fun i=>(List.replicate 33 (pI .u64 0)).getD i default) i) i b).trans (Aw1 (c:=pI .u64) (v:=fun _=>0) (x:=shI .shl .u64 1 0) (BC (z:=pI .u64 0) rfl) rfl i b)⟩ al0))
def BI (rec:Part->(Sl Sound)->Option (Nat->Int))(N:Nat)(p_x:Pseq)(b:Sl Sound):Option (Nat->Int):=
 (Q0 N (b.n:Int)).bind fun y1=>
 P4 N (fun a (x1:Nat->Int) (x2:Int)=>
  if (decide (x2<(p_x.l.n:Int))) then
   if ((0:Int)<=x2/\x2<(p_x.l.n:Int))then
    (rec (p_x.l.g x2.toNat) b).bind fun y6=>
    (D4 N x1 y6).bind fun y7=>
    a y7 (wrap .i64 (x2+1))
   else none
  else
   some x1
  ) y1 0
theorem Rb {N:Nat}{rec:Part->(Sl Sound)->Option ((Nat->Int))}(b:∀{x:Part}{b0:(Sl Sound)}{y:(Nat->Int)},rec x b0=some y->AN7 S Tryz.prog (Gr x) "ablaut/pats.in" [(.p (vSl 2 A0 b0))] (.p (.agg (cA 33 (pI .u64) y)))){p_x:Pseq}{a:(Sl Sound)}{y:(Nat->Int)}(h:BI rec N p_x a=some y) :FunO S Fw [(.p (.agg (AO9 p_x))),(.p (vSl 2 A0 a))] [] (.p (.agg (cA 33 (pI .u64) y))) ([]) []:=by
 unfold BI at h;refine A2 hS Tryz.func267 ?_;refine kC hS h (DC hS hL) (fun y1 h=>?_);refine I4 hS (And.intro rfl (F3 _ _):(0:Nat)=0/\(Bv 33 (fun i=>pI .u64 (y1 i))).length=33) h (fun x1 x2=>⟨[(15,(pN x2)),(14,(pN (p_x.l.n:Int))),(13,(.p (vSl 1 EM p_x.l))),(5,(.reg 6000 0)),(4,(.reg 5000 0)),(1,(.p (vSl 2 A0 a)))],[(6000,(.arr 33 (fun i=>pI .u64 (x1 i)))),(5000,(.arr 33 (fun i=>pI .u64 ((fun _=>0) i))))]⟩) (ids:=[(5000,5000),(6000,6000)]) (fun _ _ _ _ _ c x1 x2 d h=>?_) (hle:=(klR [(4,.fn 33 33 (fun i=>[(fun i=>(cA 33 (pI .u64) y1).getD i default) i]) (fun i=>[pI .u64 (y1 i)])),(5,.fn 33 33 (fun i=>[(fun i=>(List.replicate 33 (pI .u64 0)).getD i default) i]) (fun i=>[pI .u64 ((fun _=>0) i)]))] (al1 ⟨rfl,(D5 33 (fun i=>pI .u64 (y1 i)))⟩ (al1 ⟨rfl,(BC (z:=pI .u64 0) rfl)⟩ al0))));refine kI hS h ?_ ?_<;>intro h
 ·obtain⟨c6,h⟩:=F4 h;obtain⟨y6,e6,h⟩:=B9 h;refine LH hS c6 (b e6) ?_;refine CX hS (And.intro rfl (F3 _ _):(0:Nat)=0/\(Bv 33 (fun i=>pI .u64 (y6 i))).length=33) ⟨[(15,(pN x2)),(14,(pN (p_x.l.n:Int))),(13,(.p (vSl 1 EM p_x.l))),(8,(.reg 9000 0)),(5,(.reg 6000 0)),(4,(.reg 5000 0)),(1,(.p (vSl 2 A0 a)))],[(9000,(.arr 33 (fun i=>pI .u64 (y6 i)))),(6000,(.arr 33 (fun i=>pI .u64 (x1 i)))),(5000,(.arr 33 (fun i=>pI .u64 ((fun _=>0) i))))]⟩ (ids:=[(5000,5000),(6000,6000),(9000,9000)]) ?_ (hle:=(klR [(4,.fn 33 33 (fun i=>[(fun i=>(cA 33 (pI .u64) y6).getD i default) i]) (fun i=>[pI .u64 (y6 i)]))] (al1 ⟨rfl,(D5 33 (fun i=>pI .u64 (y6 i)))⟩ al0)));obtain⟨y7,e7,h⟩:=B9 h;refine B7 hS [6000,9000] trivial (S4 hS hL e7) ?_;exact d _ [(5000,5000),(6000,6000)] _ y7 (wrap .i64 (x2+1)) (And.intro rfl (F3 _ _):(0:Nat)=0/\(Bv 33 (fun i=>pI .u64 (y7 i))).length=33) h (hle:=klR [(4,.fn 33 33 (fun i=>[(fun i=>(cA 33 (pI .u64) y7).getD i default) i]) (fun i=>[pI .u64 (y7 i)]))] (al1 ⟨rfl,(D5 33 (fun i=>pI .u64 (y7 i)))⟩ al0))
 ·obtain rfl:=C4 h;exact A9 hS (And.intro rfl (F3 _ _):(0:Nat)=0/\(Bv 33 (fun i=>pI .u64 (x1 i))).length=33) ⟨[(4,(.reg 5000 0))],[(5000,(.arr 33 (fun i=>pI .u64 (x1 i))))]⟩ [] (ids:=[(5000,5000)]) ⟨rfl,rfl,rfl⟩ (hle:=(klR [(0,.fn 33 33 (fun i=>[(fun i=>(cA 33 (pI .u64) x1).getD i default) i]) (fun i=>[pI .u64 (x1 i)]))] (al1 ⟨rfl,(D5 33 (fun i=>pI .u64 (x1 i)))⟩ al0)))
def BJ (rec:Part->(Sl Sound)->Option (Nat->Int))(N:Nat)(p_x:Palt)(b:Sl Sound):Option (Nat->Int):=
 P4 N (fun a (x1:Nat->Int) (x2:Int)=>
  if (decide (x2<(p_x.l.n:Int))) then
   if ((0:Int)<=x2/\x2<(p_x.l.n:Int))then
    (rec (p_x.l.g x2.toNat) b).bind fun y5=>
    (N0 N x1 y5).bind fun y6=>
    a y6 (wrap .i64 (x2+1))
   else none
  else
   some x1
  ) (fun _=>0) 0
theorem Rc {N:Nat}{rec:Part->(Sl Sound)->Option ((Nat->Int))}(b:∀{x:Part}{b0:(Sl Sound)}{y:(Nat->Int)},rec x b0=some y->AN7 S Tryz.prog (Gr x) "ablaut/pats.in" [(.p (vSl 2 A0 b0))] (.p (.agg (cA 33 (pI .u64) y)))){p_x:Palt}{a:(Sl Sound)}{y:(Nat->Int)}(h:BJ rec N p_x a=some y) :FunO S Fu [(.p (.agg (AO6 p_x))),(.p (vSl 2 A0 a))] [] (.p (.agg (cA 33 (pI .u64) y))) ([]) []:=by
 unfold BJ at h;refine A2 hS Tryz.func262 ?_;refine I4 hS trivial h (fun x1 x2=>⟨[(11,(pN x2)),(10,(pN (p_x.l.n:Int))),(9,(.p (vSl 1 EM p_x.l))),(4,(.reg 5000 0)),(1,(.p (vSl 2 A0 a)))],[(5000,(.arr 33 (fun i=>pI .u64 (x1 i))))]⟩) (ids:=[(5000,5000)]) (fun _ _ _ _ _ c x1 x2 d h=>?_) (hle:=(klR [(4,.fn 33 33 (fun i=>[(fun i=>(List.replicate 33 (pI .u64 0)).getD i default) i]) (fun i=>[pI .u64 ((fun _=>0) i)]))] (al1 ⟨rfl,(BC (z:=pI .u64 0) rfl)⟩ al0)));refine kI hS h ?_ ?_<;>intro h
 ·obtain⟨c6,h⟩:=F4 h;obtain⟨y5,e5,h⟩:=B9 h;refine LH hS c6 (b e5) ?_;refine CX hS (And.intro rfl (F3 _ _):(0:Nat)=0/\(Bv 33 (fun i=>pI .u64 (y5 i))).length=33) ⟨[(11,(pN x2)),(10,(pN (p_x.l.n:Int))),(9,(.p (vSl 1 EM p_x.l))),(7,(.reg 8000 0)),(4,(.reg 5000 0)),(1,(.p (vSl 2 A0 a)))],[(8000,(.arr 33 (fun i=>pI .u64 (y5 i)))),(5000,(.arr 33 (fun i=>pI .u64 (x1 i))))]⟩ (ids:=[(5000,5000),(8000,8000)]) ?_ (hle:=(klR [(4,.fn 33 33 (fun i=>[(fun i=>(cA 33 (pI .u64) y5).getD i default) i]) (fun i=>[pI .u64 (y5 i)]))] (al1 ⟨rfl,(D5 33 (fun i=>pI .u64 (y5 i)))⟩ al0)));obtain⟨y6,e6,h⟩:=B9 h;refine B7 hS [5000,8000] trivial (Eg hS hL e6) ?_;exact d _ [(5000,5000)] _ y6 (wrap .i64 (x2+1)) trivial h
 ·obtain rfl:=C4 h;exact A9 hS (And.intro rfl (F3 _ _):(0:Nat)=0/\(Bv 33 (fun i=>pI .u64 (x1 i))).length=33) ⟨[(4,(.reg 5000 0))],[(5000,(.arr 33 (fun i=>pI .u64 (x1 i))))]⟩ [] (ids:=[(5000,5000)]) ⟨rfl,rfl,rfl⟩ (hle:=(klR [(0,.fn 33 33 (fun i=>[(fun i=>(cA 33 (pI .u64) x1).getD i default) i]) (fun i=>[pI .u64 (x1 i)]))] (al1 ⟨rfl,(D5 33 (fun i=>pI .u64 (x1 i)))⟩ al0)))
def BK (rec:Part->(Sl Sound)->Option (Nat->Int))(N:Nat)(p_x:AO7)(a:Sl Sound):Option (Nat->Int):=
 (rec p_x.of a).bind fun y1=>
 (F2 N y1 p_x.min (a.n:Int)).bind fun y2=>
 (Q0 N (a.n:Int)).bind fun y3=>
 (N0 N y1 y3).bind fun y4=>
 if (decide (p_x.max<0)) then
  (F2 N y4 (a.n:Int) (a.n:Int)).bind fun y5=>
  (D4 N y2 y5).bind fun y6=>
  some y6
 else
  (F2 N y4 (wrap .i64 (p_x.max-p_x.min)) (a.n:Int)).bind fun y7=>
  (D4 N y2 y7).bind fun y8=>
  some y8
theorem Rd {N:Nat}{rec:Part->(Sl Sound)->Option ((Nat->Int))}(b:∀{x:Part}{b0:(Sl Sound)}{y:(Nat->Int)},rec x b0=some y->AN7 S Tryz.prog (Gr x) "ablaut/pats.in" [(.p (vSl 2 A0 b0))] (.p (.agg (cA 33 (pI .u64) y)))){p_x:AO7}{a:(Sl Sound)}{y:(Nat->Int)}(h:BK rec N p_x a=some y) :FunO S Fv [(.p (.agg (AO8 p_x))),(.p (vSl 2 A0 a))] [] (.p (.agg (cA 33 (pI .u64) y))) ([]) []:=by
 unfold BK at h;refine A2 hS Tryz.func264 ?_;obtain⟨y1,e1,h⟩:=B9 h;refine LH hS trivial (b e1) ?_;refine CX hS (And.intro rfl (F3 _ _):(0:Nat)=0/\(Bv 33 (fun i=>pI .u64 (y1 i))).length=33) ⟨[(18,(pN (a.n:Int))),(16,(pN p_x.min)),(14,(.p (.agg (cA 33 (pI .u64) y1)))),(5,(.reg 6000 0)),(4,(.reg 5000 0)),(2,(.reg 3000 0)),(1,(.p (vSl 2 A0 a)))],[(6000,(.arr 33 (fun i=>pI .u64 (y1 i)))),(5000,(.arr 33 (fun i=>pI .u64 ((fun _=>0) i)))),(3000,(.cells [(.p (Gr p_x.of)),(pN p_x.min),(pN p_x.max)]))]⟩ (ids:=[(3000,3000),(5000,5000),(6000,6000)]) ?_ (hle:=(klR [(2,.eq (.agg (Bv 33 (fun i=>(cA 33 (pI .u64) y1).getD i default))) (.agg (cA 33 (pI .u64) y1))),(4,.fn 33 33 (fun i=>[(fun i=>(cA 33 (pI .u64) y1).getD i default) i]) (fun i=>[pI .u64 (y1 i)])),(5,.fn 33 33 (fun i=>[(fun i=>(List.replicate 33 (pI .u64 0)).getD i default) i]) (fun i=>[pI .u64 ((fun _=>0) i)]))] (al1 (congrArg PV.agg (Yn (D5 33 (fun i=>pI .u64 (y1 i))))) (al1 ⟨rfl,(D5 33 (fun i=>pI .u64 (y1 i)))⟩ (al1 ⟨rfl,(BC (z:=pI .u64 0) rfl)⟩ al0)))));refine kC hS h (Y0 hS hL) (fun y2 h=>?_);obtain⟨y3,e3,h⟩:=B9 h;refine B7 hS [] (And.intro (And.intro rfl (F3 _ _):(0:Nat)=0/\(Bv 33 (fun i=>pI .u64 (y2 i))).length=33) (And.intro rfl (F3 _ _):(0:Nat)=0/\(Bv 33 (fun i=>pI .u64 (y1 i))).length=33)) (DC hS hL e3) ?_;refine CX hS (And.intro rfl (F3 _ _):(0:Nat)=0/\(Bv 33 (fun i=>pI .u64 (y3 i))).length=33) ⟨[(8,(.reg 9000 0)),(7,(.reg 8000 0)),(6,(.reg 7000 0)),(4,(.reg 5000 0)),(2,(.reg 3000 0)),(1,(.p (vSl 2 A0 a)))],[(9000,(.arr 33 (fun i=>pI .u64 (y3 i)))),(8000,(.arr 33 (fun i=>pI .u64 (y1 i)))),(7000,(.arr 33 (fun i=>pI .u64 (y2 i)))),(5000,(.arr 33 (fun i=>pI .u64 ((fun _=>0) i)))),(3000,(.cells [(.p (Gr p_x.of)),(pN p_x.min),(pN p_x.max)]))]⟩ (ids:=[(3000,3000),(5000,5000),(7000,7000),(8000,8000),(9000,9000)]) ?_ (hle:=(klR [(1,.fn 33 33 (fun i=>[(fun i=>(cA 33 (pI .u64) y3).getD i default) i]) (fun i=>[pI .u64 (y3 i)])),(2,.fn 33 33 (fun i=>[(fun i=>(cA 33 (pI .u64) y1).getD i default) i]) (fun i=>[pI .u64 (y1 i)])),(3,.fn 33 33 (fun i=>[(fun i=>(cA 33 (pI .u64) y2).getD i default) i]) (fun i=>[pI .u64 (y2 i)]))] (al1 ⟨rfl,(D5 33 (fun i=>pI .u64 (y3 i)))⟩ (al1 ⟨rfl,(D5 33 (fun i=>pI .u64 (y1 i)))⟩ (al1 ⟨rfl,(D5 33 (fun i=>pI .u64 (y2 i)))⟩ al0)))));obtain⟨y4,e4,h⟩:=B9 h;refine B7 hS [8000,9000] trivial (Eg hS hL e4) ?_;refine kI hS h ?_ ?_<;>intro h
 ·refine kC hS h (Y0 hS hL) (fun y5 h=>?_);refine CX hS (And.intro rfl (F3 _ _):(0:Nat)=0/\(Bv 33 (fun i=>pI .u64 (y5 i))).length=33) ⟨[(7,(.reg 8000 0)),(6,(.reg 7000 0)),(4,(.reg 5000 0))],[(8000,(.arr 33 (fun i=>pI .u64 (y5 i)))),(7000,(.arr 33 (fun i=>pI .u64 (y2 i)))),(5000,(.arr 33 (fun i=>pI .u64 ((fun _=>0) i))))]⟩ (ids:=[(5000,5000),(7000,7000),(8000,8000)]) ?_ (hle:=(klR [(0,.fn 33 33 (fun i=>[(fun i=>(cA 33 (pI .u64) y5).getD i default) i]) (fun i=>[pI .u64 (y5 i)]))] (al1 ⟨rfl,(D5 33 (fun i=>pI .u64 (y5 i)))⟩ al0)));obtain⟨y6,e6,h⟩:=B9 h;refine B7 hS [7000,8000] trivial (S4 hS hL e6) ?_;obtain rfl:=C4 h;exact A9 hS (And.intro rfl (F3 _ _):(0:Nat)=0/\(Bv 33 (fun i=>pI .u64 (y6 i))).length=33) ⟨[(4,(.reg 5000 0))],[(5000,(.arr 33 (fun i=>pI .u64 (y6 i))))]⟩ [] (ids:=[(5000,5000)]) ⟨rfl,rfl,rfl⟩ (hle:=(klR [(0,.fn 33 33 (fun i=>[(fun i=>(cA 33 (pI .u64) y6).getD i default) i]) (fun i=>[pI .u64 (y6 i)]))] (al1 ⟨rfl,(D5 33 (fun i=>pI .u64 (y6 i)))⟩ al0)))
 ·refine kC hS h (Y0 hS hL) (fun y7 h=>?_);refine CX hS (And.intro rfl (F3 _ _):(0:Nat)=0/\(Bv 33 (fun i=>pI .u64 (y7 i))).length=33) ⟨[(7,(.reg 8000 0)),(6,(.reg 7000 0)),(4,(.reg 5000 0))],[(8000,(.arr 33 (fun i=>pI .u64 (y7 i)))),(7000,(.arr 33 (fun i=>pI .u64 (y2 i)))),(5000,(.arr 33 (fun i=>pI .u64 ((fun _=>0) i))))]⟩ (ids:=[(5000,5000),(7000,7000),(8000,8000)]) ?_ (hle:=(klR [(0,.fn 33 33 (fun i=>[(fun i=>(cA 33 (pI .u64) y7).getD i default) i]) (fun i=>[pI .u64 (y7 i)]))] (al1 ⟨rfl,(D5 33 (fun i=>pI .u64 (y7 i)))⟩ al0)));obtain⟨y8,e8,h⟩:=B9 h;refine B7 hS [7000,8000] trivial (S4 hS hL e8) ?_;obtain rfl:=C4 h;exact A9 hS (And.intro rfl (F3 _ _):(0:Nat)=0/\(Bv 33 (fun i=>pI .u64 (y8 i))).length=33) ⟨[(4,(.reg 5000 0))],[(5000,(.arr 33 (fun i=>pI .u64 (y8 i))))]⟩ [] (ids:=[(5000,5000)]) ⟨rfl,rfl,rfl⟩ (hle:=(klR [(0,.fn 33 33 (fun i=>[(fun i=>(cA 33 (pI .u64) y8).getD i default) i]) (fun i=>[pI .u64 (y8 i)]))] (al1 ⟨rfl,(D5 33 (fun i=>pI .u64 (y8 i)))⟩ al0)))
def U7 (rec:Pat->Option Part)(N:Nat)(a:Pat):Option Part:=
 P4 N (fun b (x1:Sl Part) (x2:Int)=>
  if (decide (x2<(a.L.n:Int))) then
   if ((0:Int)<=x2/\x2<(a.L.n:Int))then
    (rec (a.L.g x2.toNat)).bind fun y3=>
    if ((x1.n+(Sl.of [y3]:Sl Part).n)*16<=140737488355328/\x1.n+(Sl.of [y3]:Sl Part).n<=140737488355328)then
     b (x1.push y3) (wrap .i64 (x2+1))
    else none
   else none
  else
   if (a.Kind==1) then
    some (Part.sound a.Is a.Not)
   else
    if (a.Kind==2) then
     some (Part.edge false)
    else
     if (a.Kind==6) then
      some (Part.edge true)
     else
      if (a.Kind==4) then
       some (Part.alt x1.n x1.g)
      else
       if (a.Kind==5) then
        if (((0:Int)<=0/\0<(x1.n:Int))/\0<x1.n)then
         some (Part.rep (x1.g 0) a.Min a.Max)
        else none
       else
        some (Part.seq x1.n x1.g)
  ) (Sl.nil:Sl Part) 0
def AQ:Nat->Pat->Option Part
 |0=>fun _=>none
 |N+1=>U7 (AQ N) N
theorem Nt {N:Nat}{rec:Pat->Option Part}(b:∀{a:Pat}{y:Part},rec a=some y->FunO S Ct [.p (.agg (B5 a))] [] (.p (Gr y)) ([]) []){a:Pat}{y:Part}(h:U7 rec N a=some y) :FunO S Ct [.p (.agg (B5 a))] [] (.p (Gr y)) ([]) []:=by
 unfold U7 at h;refine A2 hS Tryz.func235 ?_;refine I7 hS trivial 2 2000 (B5 a) ?_;refine N2 hS trivial 8 ⟨[(7,.p (vSl 7 B5 a.L)),(3,.p F9),(1,.p (.ptr (B5 a)))],[]⟩ (ids:=[]) ?_ (hle:=klR [(0,.fn a.L.n a.L.n (Cb a) (fun i=>B5 (a.L.g i)))] (al1 ⟨rfl,T7 a⟩ al0));refine I4 hS trivial h (fun x1 x2=>⟨[(9,pN x2),(8,pN (a.L.n:Int)),(7,.p (vSl 7 B5 a.L)),(3,.vec 4500),(1,.p (.ptr (B5 a)))],[(4500,.vec Vp 1 x1.n (fun i=>EM (x1.g i)) false)]⟩) (ids:=[]) (fun _ _ _ _ _ d x1 x2 f h=>?_);refine kI hS h ?_ ?_<;>intro h
 ·obtain⟨c6,h⟩:=F4 h;refine I7 hS (And.intro c6 (by decide:(7:Nat)<=7)) 13 6000 (B5 (a.L.g x2.toNat)) ?_;obtain⟨y3,e3,h⟩:=B9 h;refine B7 hS [] (by decide:(7:Nat)<=7) (b e3) ?_;obtain⟨c7,h⟩:=F4 h;exact f _ [(4500,18000)] _ (x1.push y3) (wrap .i64 (x2+1)) (And.intro (rfl:true=true) c7) h (hle:=klR [(4,.fn (x1.n+1) (x1.push y3).n (BW x1.n (fun i=>EM (x1.g i)) (F0 [.v .nilIface] [(0,EM y3)])) (fun i=>EM ((x1.push y3).g i)))] (al1 ⟨rfl,Ms (c:=EM) (v:=x1) (x:=y3) (z:=[(.v .nilIface)]) same rfl rfl⟩ al0))
 ·refine kI hS h ?_ ?_<;>intro h
  ·obtain rfl:=C4 h;exact Yl hS (by decide:(2:Nat)<=6) [] ⟨rfl,rfl,rfl⟩
  ·refine kI hS h ?_ ?_<;>intro h
   ·cases h;exact kR hS
   ·refine kI hS h ?_ ?_<;>intro h
    ·cases h;exact kR hS
    ·refine kI hS h ?_ ?_<;>intro h
     ·refine N2 hS trivial 40 ⟨[(39,.p (vSl 1 EM x1))],[]⟩ (ids:=[]) ?_;cases h;exact kR hS
     ·refine kI hS h ?_ ?_<;>intro h
      ·refine H7 hS trivial [4,6] ?_;obtain⟨c13,h⟩:=F4 h;refine P7 c13 ?_;cases h;exact kR hS
      ·refine N2 hS trivial 54 ⟨[(53,.p (vSl 1 EM x1))],[]⟩ (ids:=[]) ?_;cases h;exact kR hS
theorem OD {N:Nat}{a:Pat}{y:Part}(h:AQ N a=some y) :FunO S Ct [.p (.agg (B5 a))] [] (.p (Gr y)) ([]) []:=by
 induction N generalizing a y with
 |zero=>cases (show (none:Option Part)=some y from h)
 |succ N ih=>exact Nt hS hL (fun e=>ih e) h
end Go.AM
namespace Go.AM
open Go.Proofs
variable {S:AD}(hS:H2 S Tryz.prog) (hL:PF S)
include hS hL
def AR:Nat->Part->Sl Sound->Option (Nat->Int)
 |0=>fun _ _=>none
 |N+1=>fun p w=>match p with
  |.nil=>none
  |.sound x no=>Y1 N ⟨x,no⟩ w
  |.edge e=>AP N ⟨e⟩ w
  |.seq n g=>BI (AR N) N ⟨⟨n,g⟩⟩ w
  |.alt n g=>BJ (AR N) N ⟨⟨n,g⟩⟩ w
  |.rep o mn mx=>BK (AR N) N ⟨o,mn,mx⟩ w
theorem Ac8 {N:Nat}{x:Part}{w:Sl Sound}{y:Nat->Int}(h:AR N x w=some y):AN7 S Tryz.prog (Gr x) "ablaut/pats.in" [(.p (vSl 2 A0 w))] (.p (.agg (cA 33 (pI .u64) y))):=by
 induction N generalizing x w y with
 |zero=>cases h
 |succ N ih=>
  cases x with
  |nil=>cases h
  |sound s no=>exact⟨_,_,Dy,rfl,by kernel_rfl,Ns hS hL (p_x:=⟨s,no⟩) h⟩
  |edge e=>exact⟨_,_,Ep,rfl,by kernel_rfl,OC hS hL (N:=N) (p_x:=⟨e⟩) h⟩
  |seq n g=>exact⟨_,_,Fw,rfl,by kernel_rfl,Rb hS hL (fun e=>ih e) (p_x:=⟨⟨n,g⟩⟩) h⟩
  |alt n g=>exact⟨_,_,Fu,rfl,by kernel_rfl,Rc hS hL (fun e=>ih e) (p_x:=⟨⟨n,g⟩⟩) h⟩
  |rep o mn mx=>exact⟨_,_,Fv,rfl,by kernel_rfl,Rd hS hL (fun e=>ih e) (p_x:=⟨o,mn,mx⟩) h⟩
end Go.AM
namespace Go.AM
open IntKind (wrap)
open Go.Proofs
set_option maxRecDepth 10000
set_option maxHeartbeats 2000000
variable {S:AD}(hS:H2 S Tryz.prog) (hL:PF S)
include hS hL
def S9 (N:Nat)(a:Sound):Option Bool:=
 (O9 N a).bind fun y1=>
 some (!y1)
theorem Nu {N:Nat}{a:Sound}{y:Bool}(h:S9 N a=some y) :FunO S GB [.p (.agg (A0 a))] [] (pB y) ([]) []:=by unfold S9 at h;refine A2 hS Tryz.func234 ?_;refine kC hS h (Ef hS hL) (fun y1 h=>?_);cases h;exact kR hS
def D3 (N:Nat)(a:Sl Sound)(c:Sound->Option Bool):Option Int:=
 V9 N (fun b (x1:Int)=>
  if (decide (x1<(a.n:Int))) then
   if ((0:Int)<=x1/\x1<(a.n:Int))then
    (c (a.g x1.toNat)).bind fun y3=>
    if y3 then
     some x1
    else
     b (wrap .i64 (x1+1))
   else none
  else
   some (-1)
  ) 0
theorem W4 {N:Nat}{a:Sl Sound}{c:Sound->Option Bool}{kp_f:Nat}(d:∀{a0:Sound}{b:Bool},c a0=some b->FunO S kp_f [.p (.agg (A0 a0))] [] (pB b) [] []){y:Int}(h:D3 N a c=some y) :FunO S J2 [.p (vSl 2 A0 a),.clo kp_f [] []] [] (pN y) ([]) []:=by
 unfold D3 at h;refine A2 hS Tryz.func150 ?_;refine N7 hS trivial h (fun x1=>⟨[(8,pN x1),(7,pN (a.n:Int)),(1,.clo kp_f [] []),(0,.p (vSl 2 A0 a))],[]⟩) (ids:=[]) (fun _ _ _ _ _ f x1 g h=>?_);refine kI hS h ?_ ?_<;>intro h
 ·obtain⟨c8,h⟩:=F4 h;obtain⟨y3,e3,h⟩:=B9 h;refine B7 hS [] (And.intro c8 (by decide:(2:Nat)<=2)) (d e3) ?_;refine kI hS h ?_ ?_<;>intro h
  ·cases h;exact kR hS
  ·exact g _ [] _ (wrap .i64 (x1+1)) trivial h
 ·cases h;exact kR hS
def B3 (N:Nat)(a:Sl Sound)(b:Sound->Option Bool):Option Bool:=
 (D3 N a b).bind fun y1=>
 some (decide (0<=y1))
theorem I6 {N:Nat}{a:Sl Sound}{c:Sound->Option Bool}{kp_f:Nat}(d:∀{a0:Sound}{b:Bool},c a0=some b->FunO S kp_f [.p (.agg (A0 a0))] [] (pB b) [] []){y:Bool}(h:B3 N a c=some y) :FunO S I5 [.p (vSl 2 A0 a),.clo kp_f [] []] [] (pB y) ([]) []:=by unfold B3 at h;refine A2 hS Tryz.func123 ?_;refine kC hS h (W4 hS hL (fun e=>d e)) (fun y1 h=>?_);cases h;exact kR hS
def C8 (N:Nat)(q0:Sl Pat):Option (List (Int×Pat)):=
 V9 N (fun a (x1:Int)=>
  if (decide (0<=x1)) then
   if ((0:Int)<=x1/\x1<(q0.n:Int))then
    Ar (x1,q0.g x1.toNat) (
     a (wrap .i64 (x1-1))
     )
   else none
  else
   some []
  ) (wrap .i64 ((q0.n:Int)-1))
theorem Ai {N:Nat}{q0:Sl Pat}{L:List (Int×Pat)}(h:C8 N q0=some L) :Fj S E3 [] [.reg 0 0] [.cells [.p (vSl 7 B5 q0)]] (L.map (fun (x:Int×Pat)=>[pI .i64 x.1,(fun x=>.agg (B5 x)) x.2])):=by
 unfold C8 at h;refine Fo hS Tryz.func172 ?_;refine Gp hS trivial h (fun x1 L1=>⟨[(3,pN x1),(1,.reg 0 0),(0,.yf 1)],[(1,.yld (L1.map (fun (x:Int×Pat)=>[pI .i64 x.1,(fun x=>.agg (B5 x)) x.2])) true),(0,.cells [.p (vSl 7 B5 q0)])]⟩) (ids:=[(0,0),(1,1)]) (fun _ _ _ _ _ d x1 L1 f h=>?_);refine kI hS h ?_ ?_<;>intro h
 ·obtain⟨c10,h⟩:=F4 h;obtain⟨L4,rfl,c⟩:=Mw h;replace h:=c;refine Dt hS (And.intro c10 (by decide:(7:Nat)<=7)) (ys:=(fun (x:Int×Pat)=>[pI .i64 x.1,(fun x=>.agg (B5 x)) x.2]) (x1,q0.g x1.toNat)) (rest:=L4.map (fun (x:Int×Pat)=>[pI .i64 x.1,(fun x=>.agg (B5 x)) x.2])) ?_ ?_
  ·refine E4 hS trivial (b:=false) (fun c11=>?_) (fun c11=>?_)
   ·exact Bool.noConfusion ((rfl:false=false).symm.trans c11)
   ·exact f _ [(0,0),(1,1)] _ (wrap .i64 (x1-1)) L4 trivial h
  ·refine E4 hS trivial (b:=true) (fun c12=>?_) (fun c12=>?_)
   ·exact A9 hS trivial (a:=.tup []) (objs:=[(.cells [.p (vSl 7 B5 q0)]),.yld [] false]) ⟨[],[(1,.yld [] false),(0,.cells [.p (vSl 7 B5 q0)])]⟩ [0,1] (ids:=[(0,0),(1,1)]) ⟨false,rfl,rfl,_,rfl⟩
   ·exact Bool.noConfusion ((rfl:true=true).symm.trans c12)
 ·obtain rfl:=C4 h;exact A9 hS trivial (a:=.tup []) (objs:=[(.cells [.p (vSl 7 B5 q0)]),.yld [] true]) ⟨[],[(1,.yld [] true),(0,.cells [.p (vSl 7 B5 q0)])]⟩ [0,1] (ids:=[(0,0),(1,1)]) ⟨true,rfl,rfl,_,rfl⟩
def H5 (N:Nat)(a:Sl Pat):Option (Sl Pat):=
 some a
theorem AS {N:Nat}{a:Sl Pat}{y:Sl Pat}(h:H5 N a=some y) :FunO S O7 [.p (vSl 7 B5 a)] [] (.clo E3 [] [.reg 0 0]) ([.cells [.p (vSl 7 B5 y)]]) []:=by unfold H5 at h;refine A2 hS Tryz.func149 ?_;obtain rfl:=C4 h;exact A9 hS trivial ⟨[(2,.clo E3 [] [.reg 2000 0])],[(2000,.cells [.p (vSl 7 B5 a)])]⟩ [2000] (ids:=[(2000,2000)]) ⟨rfl,rfl,rfl⟩
def Y2 (N:Nat)(c:Pat):Option Int:=
 P4 N (fun a (x3:Sl Pat) (x4:Int)=>
  if (decide (0<(x3.n:Int))) then
   if (x4==40) then
    some 12
   else
    if (((0:Int)<=(wrap .i64 ((x3.n:Int)-1))/\(wrap .i64 ((x3.n:Int)-1))<(x3.n:Int))/\(wrap .i64 ((x3.n:Int)-1)).toNat<x3.n)then
     if ((0:Int)<=(wrap .i64 ((x3.n:Int)-1))/\(wrap .i64 ((x3.n:Int)-1))<=(x3.n:Int))then
      (AN N (x3.g (wrap .i64 ((x3.n:Int)-1)).toNat)).bind fun y5=>
      if (y5 != 0) then
       some y5
      else
       if ((0:Int)<=(if 41<((x3.g (wrap .i64 ((x3.n:Int)-1)).toNat).L.n:Int)then 41 else ((x3.g (wrap .i64 ((x3.n:Int)-1)).toNat).L.n:Int))/\(if 41<((x3.g (wrap .i64 ((x3.n:Int)-1)).toNat).L.n:Int)then 41 else ((x3.g (wrap .i64 ((x3.n:Int)-1)).toNat).L.n:Int))<=((x3.g (wrap .i64 ((x3.n:Int)-1)).toNat).L.n:Int))then
        (H5 N ((x3.g (wrap .i64 ((x3.n:Int)-1)).toNat).L.take (if 41<((x3.g (wrap .i64 ((x3.n:Int)-1)).toNat).L.n:Int)then 41 else ((x3.g (wrap .i64 ((x3.n:Int)-1)).toNat).L.n:Int)).toNat)).bind fun y6=>
        (C8 N y6).bind fun L3=>
        O5 L3 (fun b (x7:Int×Pat) (z3:Sl Pat)=>
         if ((((z3.n+(Sl.of [Pat.nil]:Sl Pat).n)*64<=140737488355328/\z3.n+(Sl.of [Pat.nil]:Sl Pat).n<=140737488355328)/\((0:Int)<=(z3.n:Int)/\(z3.n:Int)<((z3.push Pat.nil).n:Int)))/\(z3.n:Int).toNat<(z3.push Pat.nil).n)then
          b ((z3.push Pat.nil).upd (z3.n:Int).toNat x7.2)
         else none
         ) (fun (z3:Sl Pat)=>
          a z3 (wrap .i64 (x4+1))
         ) (x3.take (wrap .i64 ((x3.n:Int)-1)).toNat)
       else none
     else none
    else none
  else
   some 0
  ) (Sl.of [c]:Sl Pat) 0
theorem GH {N:Nat}{b:Pat}{y:Int}(h:Y2 N b=some y) :FunO S KS [.p (.agg (B5 b))] [] (pN y) ([]) []:=by
 unfold Y2 at h;refine A2 hS Tryz.func122 ?_;refine I7 hS trivial 2 2000 (B5 b) ?_;refine I4 hS (And.intro (by decide:(7:Nat)<=7) (rfl:true=true)) h (fun x3 x4=>⟨[(4,pN x4),(3,.reg 4000 0)],[(4501,.vec EQ 7 x3.n (fun i=>B5 (x3.g i)) false),(4000,.cells [.vec 4501])]⟩) (ids:=[(4000,4000),(4501,12000)]) (fun _ _ _ _ _ d x3 x4 j h=>?_) (hle:=klR [(1,.fn 1 (Sl.of [b]:Sl Pat).n (F0 [pI .i64 0,pI .u32 0,pI .u32 0,.v (.bool false),pI .i64 0,pI .i64 0,F9] [(0,B5 b)]) (fun i=>B5 ((Sl.of [b]:Sl Pat).g i)))] (al1 ⟨rfl,(fun i m=>match i,m with|0,_=>rfl|_+1,m=>absurd m (by omega))⟩ al0));refine kI hS h ?_ ?_<;>intro h
 ·refine kI hS h ?_ ?_<;>intro h
  ·cases h;exact kR hS
  ·obtain⟨c21,h⟩:=F4 h;refine I7 hS (And.intro (And.intro c21.1 (by decide:(7:Nat)<=7)) c21.2) 25 6000 (B5 (x3.g (wrap .i64 ((x3.n:Int)-1)).toNat)) ?_;obtain⟨c22,h⟩:=F4 h;refine AN8 hS c22 30 4501 (wrap .i64 ((x3.n:Int)-1)).toNat 4508 (e:=EQ) (k:=7) (N:=x3.n) (f:=fun i=>B5 (x3.g i)) (by have r:=c22;omega) ?_;obtain⟨y5,e7,h⟩:=B9 h;refine B7 hS [] (by decide:(7:Nat)<=7) (OA hS hL e7) ?_;refine kI hS h ?_ ?_<;>intro h
   ·cases h;exact kR hS
   ·refine N2 hS trivial 39 ⟨[(38,.p (vSl 7 B5 (x3.g (wrap .i64 ((x3.n:Int)-1)).toNat).L)),(36,.p (vSl 7 B5 (x3.g (wrap .i64 ((x3.n:Int)-1)).toNat).L)),(4,pN x4),(3,.reg 4000 0)],[(4508,.vec EQ 7 (x3.take (wrap .i64 ((x3.n:Int)-1)).toNat).n (fun i=>B5 ((x3.take (wrap .i64 ((x3.n:Int)-1)).toNat).g i)) false),(4000,.cells [.vec 4508])]⟩ (ids:=[(4000,4000),(4508,4508)]) ?_ (hle:=klR [(0,.fn (x3.g (wrap .i64 ((x3.n:Int)-1)).toNat).L.n (x3.g (wrap .i64 ((x3.n:Int)-1)).toNat).L.n (Cb (x3.g (wrap .i64 ((x3.n:Int)-1)).toNat)) (fun i=>B5 ((x3.g (wrap .i64 ((x3.n:Int)-1)).toNat).L.g i))),(1,.fn (x3.g (wrap .i64 ((x3.n:Int)-1)).toNat).L.n (x3.g (wrap .i64 ((x3.n:Int)-1)).toNat).L.n (Cb (x3.g (wrap .i64 ((x3.n:Int)-1)).toNat)) (fun i=>B5 ((x3.g (wrap .i64 ((x3.n:Int)-1)).toNat).L.g i)))] (al1 ⟨rfl,T7 (x3.g (wrap .i64 ((x3.n:Int)-1)).toNat)⟩ (al1 ⟨rfl,T7 (x3.g (wrap .i64 ((x3.n:Int)-1)).toNat)⟩ al0)));obtain⟨c24,h⟩:=F4 h;obtain⟨y6,e8,h⟩:=B9 h;refine B7 hS [] c24 (AS hS hL e8) ?_;obtain⟨L3,e9,h⟩:=B9 h;refine Em hS trivial [44000] [4,3] 905 (fun z3=>⟨[(4,pN x4),(3,.reg 4000 0)],[(4500,.vec EQ 7 z3.n (fun i=>B5 (z3.g i)) false),(4000,.cells [.vec 4500])]⟩) (idl:=[(4000,4000),(4500,4508)]) h (Ai hS hL e9) (fun _=>by kernel_rfl) (fun _=>by kernel_rfl) (fun _=>by kernel_rfl) (fun _=>by kernel_rfl) (fun x7 _ o z3 q h=>?_) (fun z3 h=>?_)
    ·refine Ii hS trivial ?_;refine Ab6 hS trivial 10000 (B5 x7.2) ?_;refine Z8 hS trivial [(0,.l [4000]),(1,.n),(2,.l [4500]),(4,.a [51000,4500]),(5,.l [51000]),(6,.a [51000]),(7,.a [4000])] ?_;refine CN (by decide:(7:Nat)<=7) (x:=.sl true 7 1 (F0 [pI .i64 0,pI .u32 0,pI .u32 0,.v (.bool false),pI .i64 0,pI .i64 0,F9] [(0,[pI .i64 0,pI .u32 0,pI .u32 0,.v (.bool false),pI .i64 0,pI .i64 0,F9])])) ?_;obtain⟨c27,h⟩:=F4 h;refine P7 (And.intro (And.intro c27.1.1 c27.1.2) (And.intro (rfl:(7:Nat)=7) (And.intro c27.2 (by decide:(7:Nat)<=7)))) ?_;exact q _ [(905,905),(4000,4000),(4500,51000)] _ ((z3.push Pat.nil).upd (z3.n:Int).toNat x7.2) trivial h (hle:=klR [(0,.fn (z3.n+1) ((z3.push Pat.nil).upd (z3.n:Int).toNat x7.2).n (fun l=>if l=(z3.n:Int).toNat then splice (BW z3.n (fun i=>B5 (z3.g i)) (F0 [pI .i64 0,pI .u32 0,pI .u32 0,.v (.bool false),pI .i64 0,pI .i64 0,F9] [(0,[pI .i64 0,pI .u32 0,pI .u32 0,.v (.bool false),pI .i64 0,pI .i64 0,F9])]) l) 0 [pI .i64 x7.2.Kind,pI .u32 x7.2.Is.Plus,pI .u32 x7.2.Is.Minus,.bb x7.2.Not,pI .i64 x7.2.Min,pI .i64 x7.2.Max,.sl false 7 x7.2.L.n (Cb x7.2)]else (BW z3.n (fun i=>B5 (z3.g i)) (F0 [pI .i64 0,pI .u32 0,pI .u32 0,.v (.bool false),pI .i64 0,pI .i64 0,F9] [(0,[pI .i64 0,pI .u32 0,pI .u32 0,.v (.bool false),pI .i64 0,pI .i64 0,F9])])) l) (fun i=>B5 (((z3.push Pat.nil).upd (z3.n:Int).toNat x7.2).g i)))] (al1 ⟨rfl,setH (c:=B5) (v:=z3.push Pat.nil) (x:=x7.2) (app1H (c:=B5) (v:=z3) (z:=Pat.nil) same rfl) (fun _=>by simp[BW,F0,splice])⟩ al0))
    ·exact j _ [(4000,4000),(4501,4500)] _ z3 (wrap .i64 (x4+1)) trivial h
 ·cases h;exact kR hS
def Aj (N:Nat)(b:Pat)(a:Sl Sound):Option ((Nat->Int)×Int):=
 (Y2 N b).bind fun y1=>
 if (y1 != 0) then
  some (fun _=>0,y1)
 else
  if (decide (32<(a.n:Int))) then
   some (fun _=>0,11)
  else
   (B3 N a (fun (u1:Sound)=>S9 N u1)).bind fun y2=>
   if y2 then
    some (fun _=>0,14)
   else
    (AQ N b).bind fun y3=>
    (AR N y3 a).bind fun y4=>
    some (y4,0)
theorem Jp {N:Nat}{a:Pat}{b:Sl Sound}{y:(Nat->Int)×Int}(h:Aj N a b=some y) :FunO S Jh [.p (.agg (B5 a)),.p (vSl 2 A0 b)] [] (.tup [.p (.agg (cA 33 (pI .u64) y.1)),pN y.2]) ([]) []:=by
 unfold Aj at h;refine A2 hS Tryz.func227 ?_;refine kC hS h (GH hS hL) (fun y1 h=>?_);refine kI hS h ?_ ?_<;>intro h
 ·obtain rfl:=C4 h;exact A9 hS (And.intro rfl (F3 _ _):(0:Nat)=0/\(Bv 33 (fun i=>pI .u64 ((fun _=>0) i))).length=33) ⟨[(5,pN y1),(4,.reg 5000 0)],[(5000,.arr 33 (fun i=>pI .u64 ((fun _=>0) i)))]⟩ [] (ids:=[(5000,5000)]) ⟨rfl,rfl,rfl⟩ (hle:=klR [(1,.fn 33 33 (fun i=>[(fun i=>(cA 33 (pI .u64) (fun _=>0)).getD i default) i]) (fun i=>[pI .u64 ((fun _=>0) i)]))] (al1 ⟨rfl,D5 33 (fun i=>pI .u64 ((fun _=>0) i))⟩ al0))
 ·refine kI hS h ?_ ?_<;>intro h
  ·obtain rfl:=C4 h;exact A9 hS (And.intro rfl (F3 _ _):(0:Nat)=0/\(Bv 33 (fun i=>pI .u64 ((fun _=>0) i))).length=33) ⟨[(5,pN 11),(4,.reg 5000 0)],[(5000,.arr 33 (fun i=>pI .u64 ((fun _=>0) i)))]⟩ [] (ids:=[(5000,5000)]) ⟨rfl,rfl,rfl⟩ (hle:=klR [(1,.fn 33 33 (fun i=>[(fun i=>(cA 33 (pI .u64) (fun _=>0)).getD i default) i]) (fun i=>[pI .u64 ((fun _=>0) i)]))] (al1 ⟨rfl,D5 33 (fun i=>pI .u64 ((fun _=>0) i))⟩ al0))
  ·refine kC hS h (I6 hS hL (fun e=>Nu hS hL e)) (fun y2 h=>?_);refine kI hS h ?_ ?_<;>intro h
   ·obtain rfl:=C4 h;exact A9 hS (And.intro rfl (F3 _ _):(0:Nat)=0/\(Bv 33 (fun i=>pI .u64 ((fun _=>0) i))).length=33) ⟨[(5,pN 14),(4,.reg 5000 0)],[(5000,.arr 33 (fun i=>pI .u64 ((fun _=>0) i)))]⟩ [] (ids:=[(5000,5000)]) ⟨rfl,rfl,rfl⟩ (hle:=klR [(1,.fn 33 33 (fun i=>[(fun i=>(cA 33 (pI .u64) (fun _=>0)).getD i default) i]) (fun i=>[pI .u64 ((fun _=>0) i)]))] (al1 ⟨rfl,D5 33 (fun i=>pI .u64 ((fun _=>0) i))⟩ al0))
   ·refine kC hS h (OD hS hL) (fun y3 h=>?_);obtain⟨y4,e4,h⟩:=B9 h;refine LH hS trivial (Ac8 hS hL e4) ?_;obtain rfl:=C4 h;exact A9 hS (And.intro rfl (F3 _ _):(0:Nat)=0/\(Bv 33 (fun i=>pI .u64 (y4 i))).length=33) ⟨[(5,pN 0),(4,.reg 5000 0)],[(5000,.arr 33 (fun i=>pI .u64 (y4 i)))]⟩ [] (ids:=[(5000,5000)]) ⟨rfl,rfl,rfl⟩ (hle:=klR [(1,.fn 33 33 (fun i=>[(fun i=>(cA 33 (pI .u64) y4).getD i default) i]) (fun i=>[pI .u64 (y4 i)]))] (al1 ⟨rfl,D5 33 (fun i=>pI .u64 (y4 i))⟩ al0))
def BL (N:Nat)(d:Pat)(c:Sl Sound)(a:Int):Option ((Sl Int)×Int):=
 (Aj N d c).bind fun y1=>
 lt (fun (z1:Int)=>
  if (z1 != 0) then
   some ((Sl.nil:Sl Int),z1)
  else
   P4 N (fun b (x2:Sl Int) (x3:Int)=>
    if (decide (x3<(wrap .i64 ((c.n:Int)+1)))) then
     if ((((0:Int)<=x3/\x3<33)/\(0+x3.toNat*1)<33)/\(0:Int)<=a)then
      if ((C9 .and .u64 (shI .shr .u64 (y1.1 (0+x3.toNat*1)) a) 1)==1) then
       if ((x2.n+(Sl.of [x3]:Sl Int).n)*8<=140737488355328/\x2.n+(Sl.of [x3]:Sl Int).n<=140737488355328)then
        b (x2.push x3) (wrap .i64 (x3+1))
       else none
      else
       b x2 (wrap .i64 (x3+1))
     else none
    else
     some (x2,0)
    ) (Sl.nil:Sl Int) 0
  ) fun k1=>
  if (y1.2==0) then
   (Ae N c a).bind fun y3=>
   k1 y3
  else
   k1 y1.2
theorem Re {N:Nat}{f:Pat}{d:Sl Sound}{a:Int}{y:(Sl Int)×Int}(h:BL N f d a=some y) :FunO S Jg [.p (.agg (B5 f)),.p (vSl 2 A0 d),pN a] [] (.tup [.vec 0,pN y.2]) ([.vec F1 1 y.1.n (fun i=>cI .i64 (y.1.g i)) true]) []:=by
 unfold BL at h;refine A2 hS Tryz.func218 ?_;refine kC hS h (Jp hS hL) (fun y1 h=>?_);refine JM hS (And.intro rfl (F3 _ _):(0:Nat)=0/\(Bv 33 (fun i=>pI .u64 (y1.1 i))).length=33) (A6 hS) h 0 (fun z1=>⟨[(9,pN z1),(8,.reg 9000 0),(2,pN a),(1,.p (vSl 2 A0 d))],[(9000,.arr 33 (fun i=>pI .u64 (y1.1 i)))]⟩) (fun M1 k1 j h=>?_) (fun z1 h=>?_)
 ·refine kI hS h ?_ ?_<;>intro h
  ·refine kC hS h (Jo hS hL) (fun y3 h=>?_);exact j _ [(9000,9000)] _ y3 trivial h (hle:=klR [(3,.fn 33 33 (fun i=>[(fun i=>(cA 33 (pI .u64) y1.1).getD i default) i]) (fun i=>[pI .u64 (y1.1 i)]))] (al1 ⟨rfl,D5 33 (fun i=>pI .u64 (y1.1 i))⟩ al0))
  ·exact j _ [(9000,9000)] _ y1.2 trivial h (hle:=klR [(3,.fn 33 33 (fun i=>[(fun i=>(cA 33 (pI .u64) y1.1).getD i default) i]) (fun i=>[pI .u64 (y1.1 i)]))] (al1 ⟨rfl,D5 33 (fun i=>pI .u64 (y1.1 i))⟩ al0))
 ·refine kI hS h ?_ ?_<;>intro h
  ·obtain rfl:=C4 h;exact A9 hS trivial ⟨[(7,pN z1),(6,.vec 7700)],[(7700,.vec F1 1 (Sl.nil:Sl Int).n (fun i=>cI .i64 ((Sl.nil:Sl Int).g i)) true)]⟩ [7700] (ids:=[]) ⟨rfl,rfl,rfl⟩
  ·refine I4 hS trivial h (fun x2 x3=>⟨[(29,pN x3),(28,pN (wrap .i64 ((d.n:Int)+1))),(10,.vec 11500),(8,.reg 9000 0),(2,pN a)],[(11500,.vec F1 1 x2.n (fun i=>cI .i64 (x2.g i)) false),(9000,.arr 33 (fun i=>pI .u64 (y1.1 i)))]⟩) (ids:=[(9000,9000)]) (fun _ _ _ _ _ m x2 x3 l h=>?_);refine kI hS h ?_ ?_<;>intro h
   ·obtain⟨c12,h⟩:=F4 h;refine E4 hS c12 (b:=(C9 .and .u64 (shI .shr .u64 (y1.1 (0+x3.toNat*1)) a) 1)==1) (fun c13=>?_) (fun c13=>?_)
    ·replace h:=itT c13 h;obtain⟨c14,h⟩:=F4 h;exact l _ [(9000,9000),(11500,43000)] _ (x2.push x3) (wrap .i64 (x3+1)) (And.intro (rfl:true=true) c14) h (hle:=klR [(3,.fn (x2.n+1) (x2.push x3).n (BW x2.n (fun i=>cI .i64 (x2.g i)) (F0 [pI .i64 0] [(0,cI .i64 x3)])) (fun i=>cI .i64 ((x2.push x3).g i)))] (al1 ⟨rfl,Ms (c:=cI .i64) (v:=x2) (x:=x3) (z:=[(pI .i64 0)]) same rfl rfl⟩ al0))
    ·replace h:=itF c13 h;exact l _ [(9000,9000),(11500,11500)] _ x2 (wrap .i64 (x3+1)) trivial h
   ·obtain rfl:=C4 h;exact A9 hS trivial ⟨[(7,pN 0),(6,.vec 11500)],[(11500,.vec F1 1 x2.n (fun i=>cI .i64 (x2.g i)) true)]⟩ [11500] (ids:=[(11500,11500)]) ⟨rfl,rfl,rfl⟩
def H1 (N:Nat)(a:List (Int)):Option (Sl Int):=
 O5 a (fun b (x1:Int) (z1:Sl Int)=>
  if ((z1.n+(Sl.of [x1]:Sl Int).n)*8<=140737488355328/\z1.n+(Sl.of [x1]:Sl Int).n<=140737488355328)then
   b (z1.push x1)
  else none
  ) (fun (z1:Sl Int)=>
   some z1
  ) (Sl.nil:Sl Int)
theorem CE {N:Nat}{b:List (Int)}{a:Int}{kp_seq:Nat}(fp_seq:∃fn,AS0[kp_seq]? = some fn/\fn.body.isSome=true/\(fn.name == "runtime.NumGoroutine")=false)(d:Fj S kp_seq [] [.reg 0 0] [(.cells [(.p (pI .u64 a))])] (b.map (fun (x:Int)=>[(pI .i64) x]))){y:(Sl Int)}(h:H1 N b=some y) :FunO S N3 [(.p F9),(.clo kp_seq [] [(.reg 0 0)])] [(.cells [(.p (pI .u64 a))])] (.vec 0) ([(.vec F1 1 y.n (fun i=>(cI .i64) (y.g i)) true)]) [false]:=by
 unfold H1 at h;refine A2 hS Tryz.func97 ?_;refine Qz hS trivial fp_seq [0] [2] 901 (fun z1=>⟨[(2,(.reg 3000 0))],[(3500,(.vec F1 1 z1.n (fun i=>(cI .i64) (z1.g i)) false)),(3000,(.cells [(.vec 3500)]))]⟩) (idl:=[(3000,3000)]) h d (fun _=>by kernel_rfl) (fun _=>by kernel_rfl) (fun _=>by kernel_rfl) (fun _=>by kernel_rfl) (fun x1 _ f z1 j h=>?_) (fun z1 h=>?_)
 ·refine Ii hS trivial ?_;obtain⟨c1,h⟩:=F4 h;exact j _ [(901,901),(3000,3000),(3500,12000)] _ (z1.push x1) (And.intro (rfl:true=true) c1) h (hle:=klR [(0,.fn (z1.n+1) (z1.push x1).n (BW z1.n (fun i=>(cI .i64) (z1.g i)) (F0 [(pI .i64 0)] [(0,(cI .i64) x1)])) (fun i=>(cI .i64) ((z1.push x1).g i)))] (al1 ⟨rfl,(Ms (c:=(cI .i64)) (v:=z1) (x:=x1) (z:=[(pI .i64 0)]) same rfl rfl)⟩ al0))
 ·obtain rfl:=C4 h;exact A9 hS trivial ⟨[(4,(.vec 3500))],[(3500,(.vec F1 1 z1.n (fun i=>(cI .i64) (z1.g i)) true))]⟩ [3500] (ids:=[(3500,3500)]) ⟨rfl,rfl,rfl⟩
def K6 (N:Nat)(a:List (Int)):Option (Sl Int):=
 (H1 N a).bind fun y1=>
 some y1
theorem GI {N:Nat}{b:List (Int)}{a:Int}{kp_seq:Nat}(fp_seq:∃fn,AS0[kp_seq]? = some fn/\fn.body.isSome=true/\(fn.name == "runtime.NumGoroutine")=false)(c:Fj S kp_seq [] [.reg 0 0] [(.cells [(.p (pI .u64 a))])] (b.map (fun (x:Int)=>[(pI .i64) x]))){y:(Sl Int)}(h:K6 N b=some y) :FunO S Au [(.clo kp_seq [] [(.reg 0 0)])] [(.cells [(.p (pI .u64 a))])] (.vec 0) ([(.vec F1 1 y.n (fun i=>(cI .i64) (y.g i)) true)]) [false]:=by unfold K6 at h;refine A2 hS Tryz.func56 ?_;obtain⟨y1,e1,h⟩:=B9 h;refine B7 hS [0] trivial (CE hS hL fp_seq c e1) ?_;obtain rfl:=C4 h;exact A9 hS trivial ⟨[(2,(.vec 5000))],[(5000,(.vec F1 1 y1.n (fun i=>(cI .i64) (y1.g i)) true))]⟩ [5000] (ids:=[(5000,5000)]) ⟨rfl,rfl,rfl⟩
def DF (N:Nat)(c:Pat)(b:Sl Sound)(a:Int):Option ((Sl Int)×Int):=
 (Aj N c b).bind fun y1=>
 lt (fun (z1:Int)=>
  if (z1 != 0) then
   some ((Sl.nil:Sl Int),z1)
  else
   if (((0:Int)<=a/\a<33)/\(0+a.toNat*1)<33)then
    (AO N (y1.1 (0+a.toNat*1))).bind fun y4=>
    (Q4 N y4).bind fun L1=>
    (K6 N L1).bind fun y5=>
    some (y5,0)
   else none
  ) fun k1=>
  if (y1.2==0) then
   (Ae N b a).bind fun y3=>
   k1 y3
  else
   k1 y1.2
theorem VA {N:Nat}{b:Pat}{c:Sl Sound}{a:Int}{y:(Sl Int)×Int}(h:DF N b c a=some y) :FunO S MZ [.p (.agg (B5 b)),.p (vSl 2 A0 c),pN a] [] (.tup [.vec 0,pN y.2]) ([.vec F1 1 y.1.n (fun i=>cI .i64 (y.1.g i)) true]) []:=by
 unfold DF at h;refine A2 hS Tryz.func219 ?_;refine kC hS h (Jp hS hL) (fun y1 h=>?_);refine JM hS (And.intro rfl (F3 _ _):(0:Nat)=0/\(Bv 33 (fun i=>pI .u64 (y1.1 i))).length=33) (A6 hS) h 0 (fun z1=>⟨[(9,pN z1),(8,.reg 9000 0),(2,pN a)],[(9000,.arr 33 (fun i=>pI .u64 (y1.1 i)))]⟩) (fun M1 k1 d h=>?_) (fun z1 h=>?_)
 ·refine kI hS h ?_ ?_<;>intro h
  ·refine kC hS h (Jo hS hL) (fun y3 h=>?_);exact d _ [(9000,9000)] _ y3 trivial h (hle:=klR [(2,.fn 33 33 (fun i=>[(fun i=>(cA 33 (pI .u64) y1.1).getD i default) i]) (fun i=>[pI .u64 (y1.1 i)]))] (al1 ⟨rfl,D5 33 (fun i=>pI .u64 (y1.1 i))⟩ al0))
  ·exact d _ [(9000,9000)] _ y1.2 trivial h (hle:=klR [(2,.fn 33 33 (fun i=>[(fun i=>(cA 33 (pI .u64) y1.1).getD i default) i]) (fun i=>[pI .u64 (y1.1 i)]))] (al1 ⟨rfl,D5 33 (fun i=>pI .u64 (y1.1 i))⟩ al0))
 ·refine kI hS h ?_ ?_<;>intro h
  ·obtain rfl:=C4 h;exact A9 hS trivial ⟨[(7,pN z1),(6,.vec 7700)],[(7700,.vec F1 1 (Sl.nil:Sl Int).n (fun i=>cI .i64 ((Sl.nil:Sl Int).g i)) true)]⟩ [7700] (ids:=[]) ⟨rfl,rfl,rfl⟩
  ·obtain⟨c5,h⟩:=F4 h;obtain⟨y4,e4,h⟩:=B9 h;refine B7 hS [] c5 (Es hS hL e4) ?_;obtain⟨L1,e5,h⟩:=B9 h;obtain⟨y5,e6,h⟩:=B9 h;refine B7 hS [28000] trivial (GI hS hL ⟨_,Tryz.func236,by decide +kernel,by decide +kernel⟩ (CR hS hL e5) e6) ?_;obtain rfl:=C4 h;exact A9 hS trivial ⟨[(7,pN 0),(6,.vec 29000)],[(29000,.vec F1 1 y5.n (fun i=>cI .i64 (y5.g i)) true)]⟩ [29000] (ids:=[(29000,29000)]) ⟨rfl,rfl,rfl⟩
end Go.AM
