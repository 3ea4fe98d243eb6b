/- Part 6. -/
import Derived.Test.YtppapmfonjmfbaaGreatDoorRE
import Derived.Test.YtppapmfonjmfbaaGreatDoorRD
import Derived.RecoverIn
import Derived.Test.YtppapmfonjmfbaaGreatDoorProg
import Derived.Lib.SlTrimSet
import Derived.TacticsInMore
set_option linter.defProp false
set_option linter.unusedSimpArgs false
set_option linter.unusedVariables false
set_option linter.unusedSectionVars false
namespace Go.AM
abbrev Ra:Sl Int:=Sl.nil
def Og:true=true:=rfl
def Oe:(18:Nat)<=18:=by decide
def Od:(7:Nat)<=7:=by decide
def Ob:(2:Nat)<=2:=by decide
noncomputable abbrev AQ3:=Go.Proofs.Tryz.prog.funcs
def AS4:=@BitVec.getLsbD_and
def AU3:=@Bool.eq_iff_iff
def AW3:=@BitVec.eq_of_getLsbD_eq
def Bf6:=@BitVec.getLsbD_ushiftRight
def Bf7:=@BitVec.getLsbD_one
def Bg1:=@BitVec.getLsbD_shiftLeft
def Bg4:=@BitVec.getLsbD_setWidth
def Bh8:=@BitVec.getLsbD_ofBool
def Bj7:=@BitVec.toNat_ofNat
theorem Fq (D:List Deferred)(a:Act)(d:Option Tmp)(v:Value):(NH D a).put d v=NH D (a.put d v):=by cases d<;>rfl
theorem IJ {F:Fence}{n:Nat}{P:Program}{ops:Array Oper}{Q:Exit->Act->World->Prop}(D:List Deferred):∀(l:List Nat) (a:Act) (w:World),wpOpsIn F n P ops Q l a w ->
 wpOpsIn F n P ops (fun e a' w'=>∃a0,a' = NH D a0/\Q e a0 w') l (NH D a) w
 |[],a,w,h=>⟨a,rfl,h⟩
 |i::l,a,w,h=>by
  have ih:=IJ (F:=F) (n:=n) (P:=P) (ops:=ops) (Q:=Q) D l;simp only[wpOpsIn]at h⊢;have e1:(NH D a).eval=a.eval:=by funext x;cases x<;>rfl
  have e2:(NH D a).tmps=a.tmps:=rfl;cases j:ops[i]? with
  |none=>simp only[j]at h⊢;exact ih a w h
  |some o=>
   simp only[j]at h⊢;rw[e2,e1];by_cases hw:Region.wanted o (yielded ops a.tmps)=true
   .rw[Ll hw]at h⊢;refine⟨by rw[e1];exact h.1,?_⟩;have b:=h.2;rw[e1];generalize (o.semAt F.round a.eval).run P w=r at b;unfold Oper.uponIn at b⊢;split at b
    .rw[Fq];exact ih _ _ b
    .rw[Fq];exact ih _ _ b
    .exact ih _ _ b |> fun x=>by
      rename_i d w'
      have:({ (NH D a)with defers:=d::(NH D a).defers }:Act).put o.dst undef=NH D (({ a with defers:=d::a.defers }:Act).put o.dst undef):=by rw[<- Fq];rfl
      rw[this];exact x
    .refine⟨b.1,b.2.mono ?_⟩;intro e w' f;cases e with
     |returned v=>have:=ih _ _ f;rw[<- Fq]at this;exact this
     |panicked ch=>exact⟨a,rfl,f⟩
     |outgrown=>obtain⟨a1,w1,g⟩:=f;exact⟨NH D a1,w1,a1,rfl,g⟩
    .refine⟨b.1,fun c cs m=>?_⟩;obtain⟨v,w',g1,g2⟩:=b.2 c cs m;exact⟨v,w',by have:=ih _ _ g1;rw[<- Fq]at this;exact this,g2⟩
    .refine⟨b.1,b.2.mono ?_⟩;intro e w' f;cases e with
     |returned v=>have:=ih _ _ f;rw[<- Fq]at this;exact this
     |panicked ch=>exact⟨a,rfl,f⟩
     |outgrown=>obtain⟨a1,w1,g⟩:=f;exact⟨NH D a1,w1,a1,rfl,g⟩
    .exact⟨a,rfl,b⟩
    exact b.elim
   rw[Lm hw]at h⊢;rw[Fq];exact⟨h.1,ih _ _ h.2⟩
section
variable {P:Program}{C:Ctx}{st:St}{rho:Nat->Value}
theorem Fr {fn:Func}{R:Ending->World->Prop}{u:FrameMode}(c:u ≠ .run){tmps:Array Value}{D:List Deferred}(b:∀a w,Sat C st a w rho->a.tmps=tmps->LeavesInM Fence.wide 0 P fn tmps R D u w) :∀(ds:List Deferred) (a:Act) (w:World),a.defers=ds->a.tmps=tmps->Sat C st a w rho->LeavesInM Fence.wide 0 P fn tmps R (ds++D) u w
 |[],a,w,hd,ht,h=>b a w h ht
 |d::ds,a,w,hd,ht,h=>by obtain⟨r,w',h1,f,g⟩:=h.unmark hd;exact⟨c,.inl ⟨r,w',h1,f,Fr c b ds { a with defers:=ds } w' rfl ht g⟩⟩
end
end Go.AM
namespace Go.AM
structure U1 where
 Parent:Int
 Name:Str
 deriving Inhabited,DecidableEq
abbrev H3 (x:U1):List PV:=[(pI .i64 x.Parent),.str x.Name]
structure Tb where
 Plus:Int
 Minus:Int
 deriving Inhabited,DecidableEq
abbrev A0 (x:Tb):List PV:=[(pI .u32 x.Plus),pI .u32 x.Minus]
inductive Pat where
 |nil
 |mk (Kind:Int) (Is:Tb) (Not:Bool) (Min:Int) (Max:Int) (n:Nat) (g:Nat->Pat)
instance:Inhabited Pat:=⟨.nil⟩
def Pat.Kind:Pat->Int
 |.nil=>0
 |.mk x _ _ _ _ _ _=>x
def Pat.Is:Pat->Tb
 |.nil=>default
 |.mk _ x _ _ _ _ _=>x
def Pat.Not:Pat->Bool
 |.nil=>false
 |.mk _ _ x _ _ _ _=>x
def Pat.Min:Pat->Int
 |.nil=>0
 |.mk _ _ _ x _ _ _=>x
def Pat.Max:Pat->Int
 |.nil=>0
 |.mk _ _ _ _ x _ _=>x
def Pat.L:Pat->Sl Pat
 |.nil=>⟨0,fun _=>.nil⟩
 |.mk _ _ _ _ _ n g=>⟨n,g⟩
def Fs:Pat->Nat->List PV
 |.nil=>fun _=>[]
 |.mk _ _ _ _ _ n g=>fun i=>[(pI .i64 (g i).Kind),pI .u32 (g i).Is.Plus,pI .u32 (g i).Is.Minus,.bb (g i).Not,pI .i64 (g i).Min,pI .i64 (g i).Max,.sl false 7 (g i).L.n (Fs (g i))]
abbrev E1 (x:Pat):List PV:=[(pI .i64 x.Kind),pI .u32 x.Is.Plus,pI .u32 x.Is.Minus,.bb x.Not,pI .i64 x.Min,pI .i64 x.Max,.sl false 7 x.L.n (Fs x)]
def Di (x:Pat):∀i,i<x.L.n->Fs x i=E1 (x.L.g i):=by
 cases x with
 |nil=>intro i a;exact Ln (show i<0 from a) (by omega)
 |mk Kind Is Not Min Max n g=>exact fun _ _=>rfl
structure IK where
 From:Int
 Clear:Int
 Set:Tb
 Take:Int
 Of:Int
 deriving Inhabited,DecidableEq
abbrev AX (x:IK):List PV:=[(pI .i64 x.From),pI .u32 x.Clear,pI .u32 x.Set.Plus,pI .u32 x.Set.Minus,pI .u32 x.Take,pI .i64 x.Of]
structure Law where
 Name:Str
 Left:Pat
 Right:Pat
 If:(Sl Tb)
 Out:(Sl IK)
 Mode:Int
 deriving Inhabited
abbrev B3 (x:Law):List PV:=[(.str x.Name),pI .i64 x.Left.Kind,pI .u32 x.Left.Is.Plus,pI .u32 x.Left.Is.Minus,.bb x.Left.Not,pI .i64 x.Left.Min,pI .i64 x.Left.Max,.sl false 7 x.Left.L.n (Fs x.Left),pI .i64 x.Right.Kind,pI .u32 x.Right.Is.Plus,pI .u32 x.Right.Is.Minus,.bb x.Right.Not,pI .i64 x.Right.Min,pI .i64 x.Right.Max,.sl false 7 x.Right.L.n (Fs x.Right),vSl 2 A0 x.If,vSl 6 AX x.Out,pI .i64 x.Mode]
structure A7 where
 Tree:(Sl U1)
 Laws:(Sl Law)
 On:(Sl (Sl Int))
 deriving Inhabited
abbrev B6 (x:A7):List PV:=[(vSl 2 H3 x.Tree),vSl 18 B3 x.Laws,vSl 1 (cL 1 (cI .i64)) x.On]
structure Ca where
 Has:Bool
 W:(Sl Tb)
 deriving Inhabited
abbrev L7 (x:Ca):List PV:=[(.bb x.Has),vSl 2 A0 x.W]
inductive Part where
 |nil
 |sound (x:Tb) (no:Bool)
 |edge (e:Bool)
 |seq (n:Nat) (g:Nat->Part)
 |alt (n:Nat) (g:Nat->Part)
 |rep (o:Part) (mn mx:Int)
instance:Inhabited Part:=⟨.nil⟩
def Part.t:Part->Nat
 |.nil=>0
 |.sound _ _=>229
 |.edge _=>231
 |.seq _ _=>236
 |.alt _ _=>233
 |.rep _ _ _=>235
def Part.v:Part->PV
 |.nil=>.bb false
 |.sound x no=>.agg [pI .u32 x.Plus,pI .u32 x.Minus,.bb no]
 |.edge e=>.agg [.bb e]
 |.seq n g=>.agg [.sl false 1 n fun i=>[.iface (g i).t (g i).v]]
 |.alt n g=>.agg [.sl false 1 n fun i=>[.iface (g i).t (g i).v]]
 |.rep o mn mx=>.agg [.iface o.t o.v,pI .i64 mn,pI .i64 mx]
abbrev Gr (x:Part):PV:=.iface x.t x.v
abbrev EL (x:Part):List PV:=[Gr x]
structure ZY where
 is:Tb
 not:Bool
 deriving Inhabited,DecidableEq
abbrev WJ (x:ZY):List PV:=[(pI .u32 x.is.Plus),pI .u32 x.is.Minus,.bb x.not]
structure AC3 where
 end_:Bool
 deriving Inhabited,DecidableEq
abbrev AC4 (x:AC3):List PV:=[(.bb x.end_)]
structure Palt where
 l:(Sl Part)
 deriving Inhabited
abbrev AM5 (x:Palt):List PV:=[(vSl 1 EL x.l)]
structure AM6 where
 of:Part
 min:Int
 max:Int
 deriving Inhabited
abbrev AM7 (x:AM6):List PV:=[(Gr x.of),pI .i64 x.min,pI .i64 x.max]
structure Pseq where
 l:(Sl Part)
 deriving Inhabited
abbrev AM8 (x:Pseq):List PV:=[(vSl 1 EL x.l)]
end Go.AM
namespace Go.AM
open Go.Proofs
abbrev N8:Nat:=3
abbrev IL:Nat:=5
abbrev EM:Nat:=6
abbrev Dz:Nat:=7
abbrev Mv:Nat:=8
abbrev EN:Nat:=9
abbrev EO:Nat:=10
abbrev KO:Nat:=11
abbrev Ea:Nat:=14
abbrev KP:Nat:=15
abbrev IN:Nat:=16
abbrev EP:Nat:=17
abbrev IO:Nat:=18
abbrev CZ:Nat:=19
abbrev O2:Nat:=20
abbrev IP:Nat:=21
abbrev Gs:Nat:=23
abbrev Mx:Nat:=24
abbrev My:Nat:=25
abbrev KQ:Nat:=26
abbrev Gt:Nat:=27
abbrev Pr:Nat:=28
abbrev FM:Nat:=29
abbrev Gu:Nat:=30
abbrev P6:Nat:=31
abbrev KR:Nat:=32
abbrev IQ:Nat:=33
abbrev F1:Nat:=34
abbrev Gv:Nat:=35
abbrev Hx:Nat:=36
abbrev KS:Nat:=37
abbrev Hy:Nat:=38
abbrev FN:Nat:=39
abbrev KT:Nat:=40
abbrev AJ:Nat:=41
abbrev SW:Nat:=42
abbrev Y6:Nat:=43
abbrev MD:Nat:=44
abbrev IR:Nat:=45
abbrev Ft:Nat:=46
abbrev J4:Nat:=47
abbrev Eb:Nat:=48
abbrev I9:Nat:=49
abbrev EQ:Nat:=50
abbrev IT:Nat:=51
abbrev K4:Nat:=52
abbrev U6:Nat:=53
abbrev N3:Nat:=54
abbrev IU:Nat:=55
abbrev BF:Nat:=56
abbrev MF:Nat:=57
abbrev Gw:Nat:=58
abbrev Hz:Nat:=59
abbrev HA:Nat:=60
abbrev KU:Nat:=61
abbrev HB:Nat:=62
abbrev J1:Nat:=63
abbrev S7:Nat:=64
abbrev I1:Nat:=65
abbrev N9:Nat:=66
abbrev Fu:Nat:=67
abbrev MI:Nat:=68
abbrev SY:Nat:=69
abbrev M8:Nat:=70
abbrev J7:Nat:=71
abbrev O3:Nat:=72
abbrev AG:Nat:=73
abbrev K5:Nat:=74
abbrev D7:Nat:=75
abbrev KV:Nat:=76
abbrev Db:Nat:=77
abbrev IV:Nat:=78
abbrev Ps:Nat:=79
abbrev IW:Nat:=80
abbrev MJ:Nat:=81
abbrev KW:Nat:=82
abbrev K7:Nat:=83
abbrev HC:Nat:=84
abbrev IX:Nat:=85
abbrev FP:Nat:=86
abbrev K8:Nat:=87
abbrev FQ:Nat:=88
abbrev HD:Nat:=89
abbrev Fv:Nat:=90
abbrev Pt:Nat:=91
abbrev N4:Nat:=92
abbrev Tc:Nat:=93
abbrev Td:Nat:=94
abbrev IY:Nat:=95
abbrev J8:Nat:=96
abbrev Q9:Nat:=97
abbrev Gy:Nat:=98
abbrev Ed:Nat:=99
abbrev Et:Nat:=100
abbrev HE:Nat:=101
abbrev P0:Nat:=102
abbrev O4:Nat:=103
abbrev BH:Nat:=104
abbrev Ap:Nat:=105
abbrev R5:Nat:=106
abbrev O5:Nat:=107
abbrev Q6:Nat:=108
abbrev Ee:Nat:=109
abbrev KX:Nat:=110
abbrev ER:Nat:=111
abbrev H8:Nat:=112
abbrev HF:Nat:=113
abbrev KY:Nat:=114
abbrev M9:Nat:=115
abbrev ES:Nat:=124
abbrev KZ:Nat:=132
abbrev E8:Nat:=133
abbrev V6:Nat:=134
abbrev Ja:Nat:=135
abbrev MM:Nat:=136
abbrev MN:Nat:=137
abbrev MO:Nat:=138
abbrev Jb:Nat:=148
abbrev Jc:Nat:=149
abbrev HG:Nat:=150
abbrev Gz:Nat:=155
abbrev Cx:Nat:=156
abbrev Bl:Nat:=157
abbrev P7:Nat:=158
abbrev CC:Nat:=180
abbrev DC:Nat:=181
abbrev Eu:Nat:=182
abbrev Fw:Nat:=183
abbrev Ef:Nat:=184
abbrev Fx:Nat:=185
abbrev GB:Nat:=186
abbrev AO:Nat:=187
abbrev Fy:Nat:=188
abbrev H6:Nat:=3
abbrev Au9:Nat:=4
abbrev Fz:Nat:=9
abbrev Y9:Nat:=23
abbrev Rd:Nat:=26
abbrev A8:Nat:=28
abbrev Re:Nat:=29
abbrev A4:Nat:=54
abbrev ET:Nat:=57
abbrev Ti:Nat:=60
abbrev Yd:Nat:=62
abbrev Pu:Nat:=64
abbrev Aa3:Nat:=138
abbrev UY:Nat:=216
end Go.AM
namespace Go.AM
open IntKind (wrap)
abbrev U (x:BitVec 64):Int:=(x.toNat:Int)
def Je {n:Nat}(h:n<2 ^ 64):IntKind.u64.wrap (n:Int)=n:=by have h1:((n:Int) % (2 ^ 64:Int))=n:=Ba5 (by omega) (by omega);unfold wrap;simp only[IntKind.bits,IntKind.signed,h1,Bb4,AR0,Lp]
def UZ (x:BitVec 64):BitVec.ofInt 64 (U x)=x:=by
 apply AV0;rw[Bj3]
 have:=x.isLt
 show ((x.toNat:Int) % ((2 ^ 64:Nat):Int)).toNat=x.toNat;omega
def and64 (x y:BitVec 64):G7 .and .u64 (U x) (U y)=U (x &&& y):=by simp only[G7,IntKind.bits,UZ];exact Je (x &&& y).isLt
def AP7 (x y:BitVec 64):G7 .or .u64 (U x) (U y)=U (x ||| y):=by simp only[G7,IntKind.bits,UZ];exact Je (x ||| y).isLt
def An7 (x y:BitVec 64):G7 .andNot .u64 (U x) (U y)=U (x &&& ~~~ y):=by simp only[G7,IntKind.bits,UZ];exact Je (x &&& ~~~ y).isLt
def shr64 (x:BitVec 64)(n:Nat):shI .shr .u64 (U x) n=U (x >>> n):=by
 simp only[shI,IntKind.bits,AQ4];have hx:=x.isLt;show Int.fdiv (x.toNat:Int) (2 ^ min n 64)=((x >>> n).toNat:Int);rw[Bd0,Bc4];have e:((2:Int) ^ (min n 64))=((2 ^ (min n 64):Nat):Int):=by norm_cast
 rw[e,Bf5 _ (Bj4 _),<- Int.natCast_ediv];congr 1;by_cases h:n<=64
 .rw[AY1 h]
 rw[Be3 (by omega),AY8 hx,AY8];exact AT0 hx (Ba1 (by omega) (by omega))
def AM9:(1:Int)=U 1#64:=rfl
def Tj (n:Nat)(h:n<64):shI .shl .u64 1 n=U (1#64 <<< n):=by
 simp only[shI,IntKind.bits,AQ4];rw[AY1 (by omega)];show wrap .u64 (1*2 ^ n)=((1#64 <<< n).toNat:Int);rw[Bh0,Nat.shiftLeft_eq];have h1:(2:Nat) ^ n<2 ^ 64:=Nat.pow_lt_pow_right (by omega) h;have e:((1:Int)*2 ^ n)=((2 ^ n:Nat):Int):=by norm_cast;omega
 rw[e,Je h1]
 norm_cast
 rw[AX7]
 .simp
 simpa using h1
def Va {i:Nat}:(1#64).getLsbD i=decide (i=0):=by rw[Bf7];simp
def GC {n i:Nat}(h:n<64)(a:i<64):(1#64 <<< n).getLsbD i=decide (i=n):=by rw[Bg1,Va,AU3];simp only[AQ7,AS7,decide_eq_true_eq,decide_eq_false_iff_not];omega
def bit64 (x:BitVec 64)(i:Nat):(G7 .and .u64 (shI .shr .u64 (U x) (i:Int)) 1==1)=x.getLsbD i:=by
 rw[shr64,AM9,and64];have h:(x >>> i &&& 1#64)=(BitVec.ofBool (x.getLsbD i)).setWidth 64:=by
  apply AW3;intro j hj;simp only[AS4,Bf6,Bg4,Bh8];by_cases a:j=0
  .subst a;simp
  have:(1#64).getLsbD j=false:=by rw[Va];simp[a]
  simp[this,a]
 rw[h];cases x.getLsbD i<;>rfl
def An8 {x y:BitVec 64}(h:∀b,b<64->(x.getLsbD b=true↔y.getLsbD b=true)):x=y:=
 AW3 fun b hb=>AU3.2 (h b hb)
def HH (n:Nat)(R:Nat->Nat->Prop):Nat->Nat->Nat->Prop
 |0=>fun a b=>a=b
 |k+1=>fun a b=>∃c,c<=n/\HH n R k a c/\R c b
def Ye (n:Nat)(Q:Nat->Nat->Nat->Prop):Nat->Nat->Nat->Prop
 |0=>fun a b=>a=b
 |i+1=>fun a b=>∃c,c<=n/\Ye n Q i a c/\Q i c b
def Fwd (n:Nat)(R:Nat->Nat->Prop):Prop:=∀a b,a<=n->R a b->a<=b/\b<=n
def Jf {n:Nat}{R:Nat->Nat->Prop}(h:Fwd n R):∀k,Fwd n (HH n R k)
 |0,a,b,ha,hb=>by obtain rfl:a=b:=hb;exact⟨AQ8 _,ha⟩
 |k+1,a,b,ha,⟨c,hc,h1,h2⟩=>by have g1:=Jf h k a c ha h1;have g2:=h c b hc h2;exact⟨by omega,g2.2⟩
def WK {n:Nat}{Q:Nat->Nat->Nat->Prop}:∀k,(∀i,i<k->Fwd n (Q i))->Fwd n (Ye n Q k)
 |0,_,a,b,ha,hb=>by obtain rfl:a=b:=hb;exact⟨AQ8 _,ha⟩
 |k+1,h,a,b,ha,⟨c,hc,h1,h2⟩=>by have g1:=WK k (fun i d=>h i (by omega)) a c ha h1;have g2:=h k (by omega) c b hc h2;exact⟨by omega,g2.2⟩
def Eg {n:Nat}{R:Nat->Nat->Prop}(h:Fwd n R)(j:Nat){a:Nat}(ha:a<=n):∀k b,HH n R (j+k) a b ↔ ∃c,c<=n/\HH n R j a c/\HH n R k c b
 |0,b=>⟨fun hp=>⟨b,(Jf h j a b ha hp).2,hp,rfl⟩,fun⟨c,_,hp,e⟩=>by obtain rfl:c=b:=e;exact hp⟩
 |k+1,b=>by
  constructor
  .rintro⟨d,f,h1,g⟩;obtain⟨c,hc,g1,g2⟩:=(Eg h j ha k d).1 h1;exact⟨c,hc,g1,d,f,g2,g⟩
  rintro⟨c,hc,g1,d,f,g2,g⟩;exact⟨d,f,(Eg h j ha k d).2 ⟨c,hc,g1,g2⟩,g⟩
def Pv {n:Nat}{R:Nat->Nat->Prop}(h:Fwd n R){a:Nat}(ha:a<=n):∀k b,HH n R (k+1) a b->HH n R k a b \/ a+(k+1)<=b
 |0,b,⟨c,hc,h1,h2⟩=>by
  obtain rfl:a=c:=h1;by_cases e:a=b
  .exact .inl e
  have:=(h a b ha h2).1;exact .inr (by omega)
 |k+1,b,⟨c,hc,h1,h2⟩=>by
  by_cases e:c=b
  .subst e;exact .inl h1
  have:=(h c b hc h2).1
  rcases Pv h ha k c h1 with g|g
  .exact .inl ⟨c,hc,g,h2⟩
  exact .inr (by omega)
def Tk {n:Nat}{R:Nat->Nat->Prop}(h:Fwd n R){a:Nat}(ha:a<=n){k b:Nat}(hk:n<=k)(hp:HH n R (k+1) a b):HH n R k a b:=by
 rcases Pv h ha k b hp with g|g
 .exact g
 have:=(Jf h (k+1) a b ha hp).2;omega
def Tl {n:Nat}{R:Nat->Nat->Prop}(h:Fwd n R){a:Nat}(ha:a<=n){b:Nat}:∀k,HH n R k a b->∃j,j<=n/\HH n R j a b
 |0,hp=>⟨0,AZ8 _,hp⟩
 |k+1,hp=>by
  by_cases hk:n<=k
  .exact Tl h ha k (Tk h ha hk hp)
  exact⟨k+1,by omega,hp⟩
def MS {n:Nat}{R:Nat->Nat->Prop}(h:Fwd n R){a:Nat}(ha:a<=n):∀k b,HH n (fun x y=>R x y \/ x=y) k a b ↔ ∃j,j<=k/\HH n R j a b
 |0,b=>⟨fun e=>⟨0,AQ8 _,e⟩,fun⟨j,hj,hp⟩=>by
  obtain rfl:j=0:=by omega
  exact hp⟩
 |k+1,b=>by
  constructor
  .rintro⟨c,hc,h1,d⟩;obtain⟨j,hj,hp⟩:=(MS h ha k c).1 h1;rcases d with d|d
   .exact⟨j+1,by omega,c,hc,hp,d⟩
   subst d;exact⟨j,by omega,hp⟩
  rintro⟨j,hj,hp⟩;by_cases e:j<=k
  .have hb:=(Jf h j a b ha hp).2;exact⟨b,hb,(MS h ha k b).2 ⟨j,e,hp⟩,.inr rfl⟩
  obtain rfl:j=k+1:=by omega
  obtain⟨c,hc,h1,d⟩:=hp;exact⟨c,hc,(MS h ha k c).2 ⟨k,AQ8 _,h1⟩,.inl d⟩
def Vb (s c:Tb):Bool:=(G7 .and .u32 s.Plus c.Plus==c.Plus)&&(G7 .and .u32 s.Minus c.Minus==c.Minus)
def PR (w:Sl Tb):Pat->Nat->Nat->Prop
 |.nil=>fun a b=>a=b
 |.mk kind is no mn mx m g=>fun a b=>
  if kind=0 then a=b
  else if kind=1 then a<w.n/\b=a+1/\(Vb (w.g a) is != no)=true
  else if kind=2 then a=0/\b=0
  else if kind=6 then a=w.n/\b=w.n
  else if kind=3 then Ye w.n (fun i=>PR w (g i)) m a b
  else if kind=4 then ∃i,i<m/\PR w (g i) a b
  else if kind=5 then ∃k:Nat,mn<=k/\(mx = -1 \/ (k:Int)<=mx)/\HH w.n (PR w (g 0)) k a b
  else False
def Tm (w:Sl Tb):∀p:Pat,Fwd w.n (PR w p)
 |.nil,a,b,ha,h=>by obtain rfl:a=b:=h;exact⟨AQ8 _,ha⟩
 |.mk kind is no mn mx m g,a,b,ha,h=>by
  simp only[PR]at h;split at h
  .subst h;exact⟨AQ8 _,ha⟩
  split at h
  .obtain⟨h1,d,_⟩:=h;omega
  split at h
  .omega
  split at h
  .omega
  split at h
  .exact WK m (fun i _=>Tm w (g i)) a b ha h
  split at h
  .obtain⟨i,_,c⟩:=h;exact Tm w (g i) a b ha c
  split at h
  .obtain⟨k,_,_,hk⟩:=h;exact Jf (Tm w (g 0)) k a b ha hk
  exact h.elim
def TabR (n:Nat)(R:Nat->Nat->Prop)(f:Nat->Int):Prop:=∀a,a<=n->∃x:BitVec 64,f a=U x/\∀b,b<64->(x.getLsbD b=true↔b<=n/\R a b)
def TabR.congr {n:Nat}{R R' : Nat->Nat->Prop}{f:Nat->Int}(h:TabR n R f)(d:∀a b,a<=n->b<=n->(R a b↔R' a b)):TabR n R' f:=fun a ha=>by obtain⟨x,e,hx⟩:=h a ha;refine⟨x,e,fun b hb=>(hx b hb).trans ⟨fun⟨h1,c⟩=>⟨h1,(d a b ha h1).1 c⟩,fun⟨h1,c⟩=>⟨h1,(d a b ha h1).2 c⟩⟩⟩
def TabR.uniq {n:Nat}{R:Nat->Nat->Prop}{f g:Nat->Int}(h:TabR n R f)(h' : TabR n R g){a:Nat}(ha:a<=n):f a=g a:=by obtain⟨x,e,hx⟩:=h a ha;obtain⟨y,e',hy⟩:=h' a ha;rw[e,e',An8 fun b hb=>(hx b hb).trans (hy b hb).symm]
def TabR.bit {n:Nat}{R:Nat->Nat->Prop}{f:Nat->Int}(h:TabR n R f){a b:Nat}(ha:a<=n)(hb:b<64):(G7 .and .u64 (shI .shr .u64 (f a) (b:Int)) 1==1)=true↔b<=n/\R a b:=by obtain⟨x,e,hx⟩:=h a ha;rw[e,bit64];exact hx b hb
end Go.AM
namespace Go.AM
open Go.Proofs.Tryz
variable {N:Nat}
open Go.Proofs
abbrev An9:List AV:=[.reg 0 0,.reg 1 0,.reg 2 0,.reg 3 0]
abbrev Vc (c:Int)(a:Sl Law)(b:Sl Tb)(y:PV):List Obj:=[.cells [pN c],.cells [.p (vSl 18 B3 a)],.cells [.p (vSl 2 A0 b)],.cells [.p y]]
structure Oh (S:W8):Prop where
 attR:∀{a:Sl Law}{b y:Sl Tb},FunO S I1 [.p (vSl 18 B3 a),.p (vSl 2 A0 b)] [] (.p (vSl 2 A0 y)) [] []->FunO S J1 An9 (Vc 0 a b AH) (.tup []) (Vc 0 a b (vSl 2 A0 y)) [true,true,true,true]
 attP:∀{a:Sl Law}{b:Sl Tb}{c:Int},(S.F I1 [.p (vSl 18 B3 a),.p (vSl 2 A0 b)] [] fun res o k=>res=.panic (.iface 147 (pI .i64 c))/\o=[]/\k=[])->FunO S J1 An9 (Vc 0 a b AH) (.tup []) (Vc c a b AH) [true,true,true,true]
 tz:∀x:BitVec 64,Ah3 S P7 [.p (pI .u64 (U x))] (.p (pI .i64 (Lib.ctz 64 x.toNat:Nat)))
 trim:∀s c:Str,s.length<1000000000000->c.length<1000000->(∀b∈c,b.toNat<128)->Ah3 S Et [.p (.str s),.p (.str c)] (.p (.str (Lib.trimS s c)))
 growS:∀(f:Nat->List PV) (n:Nat),n*8<=140737488355328->FunO S H8 [.p AH,.p (pI .i64 (n:Int))] [] (.vec 0) [.vec A4 2 0 f false] []
def G5 (N:Nat)(x:Int):Option Int:=if 0<=x/\x<18446744073709551616 then some ((Lib.ctz 64 x.toNat:Nat):Int)else none
def Ev (N:Nat)(s c:Str):Option Str:=if s.length<1000000000000/\c.length<1000000/\(c.all fun b=>decide (b.toNat<128)) then some (Lib.trimS s c)else none
def H9 (N:Nat)(n:Int):Option (Sl Tb):=if 0<=n/\n*8<=140737488355328 then some (Sl.nil:Sl Tb)else none
section
variable {S:W8}(Z:G8 S Tryz.prog) (Y:Oh S)
include Z Y
theorem DE {x y:Int}(h:G5 N x=some y):FunO S P7 [.p (pI .u64 x)] [] (.p (pI .i64 y)) [] []:=by
 obtain⟨⟨a,h1⟩,h⟩:=I5 h;obtain rfl:=B9 h
 have:=Y.tz (BitVec.ofNat 64 x.toNat)
 have e:(BitVec.ofNat 64 x.toNat).toNat=x.toNat:=by rw[Bj7];omega
 have e2:U (BitVec.ofNat 64 x.toNat)=x:=by show ((BitVec.ofNat 64 x.toNat).toNat:Int)=x;rw[e];omega
 rw[e,e2]at this;exact this
theorem Oi {s c:Str}{y:Str}(h:Ev N s c=some y):FunO S Et [.p (.str s),.p (.str c)] [] (.p (.str y)) [] []:=by obtain⟨⟨a,h1,d⟩,h⟩:=I5 h;obtain rfl:=B9 h;exact Y.trim s c a h1 fun b hb=>by simpa using AR4.1 d b hb
theorem Ba {n:Int}{y:Sl Tb}(h:H9 N n=some y):FunO S H8 [.p AH,.p (pI .i64 n)] [] (.vec 0) [.vec A4 2 y.n (fun i=>A0 (y.g i)) false] []:=by
 obtain⟨⟨a,h1⟩,h⟩:=I5 h;obtain rfl:=B9 h
 have:=Y.growS (fun i=>A0 default) n.toNat (by omega)
 rw[show ((n.toNat:Nat):Int)=n by omega]at this;exact this
def A5 (N:Nat)(s:Sl Tb):Option (Sl Tb):=if (0+s.n)*8<=140737488355328/\0+s.n<=140737488355328 then some s else none
theorem O6 {s y:Sl Tb}(h:A5 N s=some y):FunO S F1 [.p (vSl 2 A0 s)] [] (.vec 0) [.vec A4 2 y.n (fun i=>A0 (y.g i)) true] []:=by
 unfold A5 at h;obtain⟨c1,h⟩:=I5 h;obtain rfl:=B9 h;refine A3 Z func34 ?_;refine Am3 Z Mz 3 (k:=2) (n:=s.n) (f:=fun i=>A0 (s.g i)) (fun a=>?_) ?_
 .obtain⟨n,g⟩:=s;obtain rfl:n=0:=a;exact A6 Z Mz ⟨[(2,.vec 3700)],[(3700,.vec A4 2 0 (fun i=>A0 (g i)) true)]⟩ [3700] (ids:=[]) ⟨rfl,rfl,rfl⟩
 exact A6 Z (And.intro Og c1) ⟨[(2,.vec 8000)],[(8000,.vec A4 2 s.n (fun i=>A0 (s.g i)) true)]⟩ [8000] (ids:=[(8000,8000)]) ⟨rfl,rfl,rfl⟩
  (hle:=klR [(0,.fn (0+s.n) s.n (Cb 0 (J5 [pI .u32 0,pI .u32 0] []) (fun i=>A0 (s.g i))) (fun i=>A0 (s.g i)))] (al1 ⟨AT6 _,fun i _=>by simp[Cb]⟩ al0))
def G1 (N:Nat)(s:Sl IK):Option (Sl IK):=if (0+s.n)*32<=140737488355328/\0+s.n<=140737488355328 then some s else none
theorem Ar {s y:Sl Tb}(h:A5 N s=some y):FunO S F1 [.p (vSl 2 A0 s)] [] (.p (vSl 2 A0 y)) [] []:=by
 unfold A5 at h;obtain⟨c1,h⟩:=I5 h;obtain rfl:=B9 h;refine A3 Z func34 ?_;refine Am3 Z Mz 3 (k:=2) (n:=s.n) (f:=fun i=>A0 (s.g i)) (fun a=>?_) ?_
 .obtain⟨n,g⟩:=s;obtain rfl:n=0:=a;exact A6 Z Mz ⟨[(2,.p (vSl 2 A0 ⟨0,g⟩))],[]⟩ [] (ids:=[]) ⟨rfl,rfl,rfl⟩
 exact A6 Z (And.intro Og c1) ⟨[(2,.p (vSl 2 A0 s))],[]⟩ [] (ids:=[]) ⟨rfl,rfl,rfl⟩
  (hle:=klR [(0,.fn (0+s.n) s.n (Cb 0 (J5 [pI .u32 0,pI .u32 0] []) (fun i=>A0 (s.g i))) (fun i=>A0 (s.g i)))] (al1 ⟨AT6 _,fun i _=>by simp[Cb]⟩ al0))
theorem Bx {s y:Sl IK}(h:G1 N s=some y):FunO S R5 [.p (vSl 6 AX s)] [] (.p (vSl 6 AX y)) [] []:=by
 unfold G1 at h;obtain⟨c1,h⟩:=I5 h;obtain rfl:=B9 h;refine A3 Z func106 ?_;refine Am3 Z Mz 3 (k:=6) (n:=s.n) (f:=fun i=>AX (s.g i)) (fun a=>?_) ?_
 .obtain⟨n,g⟩:=s;obtain rfl:n=0:=a;exact A6 Z Mz ⟨[(2,.p (vSl 6 AX ⟨0,g⟩))],[]⟩ [] (ids:=[]) ⟨rfl,rfl,rfl⟩
 exact A6 Z (And.intro Og c1) ⟨[(2,.p (vSl 6 AX s))],[]⟩ [] (ids:=[]) ⟨rfl,rfl,rfl⟩
  (hle:=klR [(0,.fn (0+s.n) s.n (Cb 0 (J5 [pI .i64 0,pI .u32 0,pI .u32 0,pI .u32 0,pI .u32 0,pI .i64 0] []) (fun i=>AX (s.g i))) (fun i=>AX (s.g i)))] (al1 ⟨AT6 _,fun i _=>by simp[Cb]⟩ al0))
end
end Go.AM
set_option maxRecDepth 100000
namespace Go.AM
open Go.Proofs.Tryz
open Go.Proofs
def Yf (v:Value)(w:World):(Instr.typeAssert (.iface 147 v) 20 147 true).run Tryz.prog w=.ok (.tuple #[v,.bool true]) w:=by kernel_rfl
def Vd (p:Value)(w:World):CallsDIn Fence.wide 0 Tryz.prog S7 #[p] .returning w fun e u' w'=>e=.returned (.tuple #[])/\u' = .returning/\w' = w:=by
 refine callsDIn_of_wpSIn func64 rfl (by simp[Fence.wide]) fun c₀ cs a=>?_;apply wpSIn_seq;apply wpSIn_region;simp[wpOpsSIn,go_sem,recoverD,a,f64,Exit.thenS];refine wpSIn_of_wpIn rfl (wpIn_block (wpIn_seq (wpIn_region ?_)));simp[wpOpsIn,Oper.wpIn,Oper.semAt,Oper.uponIn,go_sem,Exit.then];refine wpIn_cond (t:=true) (by simp[Act.eval]) ?_;simp only[Lo];refine wpIn_region ?_;simp[wpOpsIn,Oper.wpIn,Oper.semAt,Oper.uponIn,go_sem,Exit.inBlock,bodyPostS,results];cases c₀
 simp_all
def Lq (p:Value)(c:Int)(older:List PanicEntry)(w w1:World)(a:(Instr.storeAt 30 p (.int .i64 c)).run Tryz.prog w=.ok () w1)(hn:∃b,p=.pointer (some b)) :CallsDIn Fence.wide 0 Tryz.prog S7 #[p] (.panicking ({ v:=.iface 147 (.int .i64 c),recovered:=false }::older)) w fun e u' w'=>
  e=.returned (.tuple #[])/\u' = .panicking ({ v:=.iface 147 (.int .i64 c),recovered:=true }::older)/\w' = w1:=by
 obtain⟨b,rfl⟩:=hn;refine callsDIn_of_wpSIn func64 rfl (by simp[Fence.wide]) fun c₀ cs d=>?_;apply wpSIn_seq;apply wpSIn_region;simp[wpOpsSIn,go_sem,recoverD,d,f64,Exit.thenS];refine wpSIn_of_wpIn rfl (wpIn_block (wpIn_seq (wpIn_region ?_)));simp[wpOpsIn,Oper.wpIn,Oper.semAt,Oper.uponIn,go_sem,Exit.then];refine wpIn_cond (t:=false) (by simp[Act.eval]) ?_;simp only[AR0,Lp];refine wpIn_seq (wpIn_region ?_);simp[wpOpsIn,Oper.wpIn,Oper.semAt,Oper.uponIn,go_sem,Exit.then,Yf];refine wpIn_cond (t:=true) (by simp[Act.eval]) ?_;simp only[Lo];refine wpIn_seq (wpIn_region ?_);simp[wpOpsIn,Oper.wpIn,Oper.semAt,Oper.uponIn,go_sem,Exit.then];refine wpIn_region ?_;simp[wpOpsIn,Oper.wpIn,Oper.semAt,Oper.uponIn,go_sem,a,Exit.inBlock,bodyPostS,results];simp[go_sem]at a;rw[a];simp[Result.andThen]
noncomputable def AG6:Code:=match Tryz.f63.body with
 |some (.seq _ c)=>c
 |_=>.skip
def AC5 {S:W8}(Z:G8 S Tryz.prog){a:Sl Law}{b y:Sl Tb}(c:FunO S I1 [.p (vSl 18 B3 a),.p (vSl 2 A0 b)] [] (.p (vSl 2 A0 y)) [] []) :KG S Tryz.prog (Po S (fun st=>J6 [0,1,2,3] st.regs [0,1,2,3]=some (Vc 0 a b (vSl 2 A0 y))) fun _ _=>False) (.code AG6 [] ⟨argEnv An9,objRegs (Vc 0 a b AH)⟩):=by refine F0 Z [] Mz c ?_;exact K_upN Z Mz ⟨[],[(3,.cells [.p (vSl 2 A0 y)]),(2,.cells [.p (vSl 2 A0 b)]),(1,.cells [.p (vSl 18 B3 a)]),(0,.cells [pN 0])]⟩ (ids:=[(0,0),(1,1),(2,2),(3,3)]) rfl
def Aa4 {S:W8}(Z:G8 S Tryz.prog){a:Sl Law}{b:Sl Tb}{c:Int}(d:S.F I1 [.p (vSl 18 B3 a),.p (vSl 2 A0 b)] [] fun res o k=>res=.panic (.iface 147 (pI .i64 c))/\o=[]/\k=[]) :KG S Tryz.prog (Po S (fun _=>False) fun x st=>x=.iface 147 (pI .i64 c)/\store Tryz.prog st.regs 30 (.reg 0 0) (.p (pI .i64 c))=some ([],ins 0 (.cells [pN c]) st.regs)/\J6 [0,1,2,3] (ins 0 (.cells [pN c]) st.regs) [0,1,2,3]=some (Vc c a b AH)) (.code AG6 [] ⟨argEnv An9,objRegs (Vc 0 a b AH)⟩):=by refine AC0 Z [] Mz d ?_;exact K_upP Z Mz ⟨rfl,by kernel_rfl,by kernel_rfl⟩
noncomputable def att1:Code:=match Tryz.f63.body with
 |some (.seq c _)=>c
 |_=>.skip
noncomputable def attOps:Array Oper:=match AG6 with
 |.region _ ops _=>ops
 |_=>#[]
def WL:AG6=.region 1 attOps false:=by kernel_rfl
def AN0:attOps.toList.all (Hq 7 attOps.toList)=true:=by kernel_rfl
def Ao0:¬Tryz.f63.name = "runtime.NumGoroutine" := by decide +kernel
def WM:Tryz.f63.body=some (.seq att1 AG6):=by kernel_rfl
def AC6 {C:Ctx}{vs:Array Value}{w:World}{rho:Nat->Value}{args:List AV}{objs:List Obj}{n:Nat}(Z:Sat C ⟨argEnv args,objRegs objs⟩ ⟨vs,[]⟩ w rho)(a:vs.size=args.length) :Sat C ⟨argEnv args,objRegs objs⟩ { tmps:=vs++Array.replicate n undef,defers:=[] } w rho:=by
 refine⟨Z.toSatE,fun t=>?_,Z.pin,Z.marks⟩
 have:=Z.env t
 by_cases ht:t<vs.size
 .simpa[AQ0,AY5,ht]using this
 show RepA w _ _ _ _ (get (argEnv args) t);rw[Ak,AQ1,AU8 (by omega)];exact .top _
def MT {R:St->Prop}{X:PV->St->Prop}{a:Sl Law}{b:Sl Tb}{objs' : List Obj}
 (a1:KG (Ga Tryz.prog) Tryz.prog (Po (Ga Tryz.prog) R X) (.code AG6 [] ⟨argEnv An9,objRegs (Vc 0 a b AH)⟩))
 (hR:∀st,R st->J6 [0,1,2,3] st.regs [0,1,2,3]=some objs')
 (hX:∀x st,X x st->∃c regs',x=.iface 147 (pI .i64 c)/\store Tryz.prog st.regs 30 (.reg 0 0) (.p (pI .i64 c))=some ([],regs')/\J6 [0,1,2,3] regs' [0,1,2,3]=some objs') :
 FunO (Ga Tryz.prog) J1 An9 (Vc 0 a b AH) (.tup []) objs' [true,true,true,true]:=by
 intro 𝒢 C w vs rho hG Z t;obtain⟨l⟩:=vs
 match l,t with
 |[v0,v1,v2,v3],t=>?_
 refine⟨.enter J1 #[v0,v1,v2,v3],w,by simp[callFunc,func63,WM,Ao0],?_⟩;refine callsIn_of_wp_marks func63 WM Mz ?_;have a2:=AC6 (n:=Tryz.f63.ntmps-4) Z t;have a9:Tryz.f63.ntmps-4=3:=rfl;rw[a9]at a2;have b1:((#[v0,v1,v2,v3]:Array Value)++Array.replicate 3 undef).size=7:=rfl;have hw:JA (Ga Tryz.prog) Tryz.prog attOps.toList attOps.toList (Po (Ga Tryz.prog) R X) ⟨argEnv An9,objRegs (Vc 0 a b AH)⟩:=by
  have:=a1.out
  rw[WL]at this;simpa only[G,awp,kp,AR0,Lp]using this
 have a4:=Mk (𝒢:=𝒢.fix C.rho0) (n:=7) (ro:=none) (ops:=attOps) AN0 attOps.toList 0 rfl (by simp) ⟨hG,rfl⟩ a2 b1 hw;have a5:=IJ [{ target:=.fn (.func S7) #[],args:=#[v0] }] _ _ _ a4;rw[Bf9]at a5;obtain⟨b0,a6,u⟩:∃b0,v0=.pointer (some ⟨b0,0,none⟩)/\rho 0=.pointer (some ⟨b0,0,none⟩):=by
  have h0:RepA w _ _ rho v0 (.reg 0 0):=Z.env 0;cases h0 with
  |reg _ _ b0 _ h=>exact⟨b0,rfl,h⟩
 have s:∀{C' : Ctx}{st' : St}{a' : Act}{w' : World}{rho' : Nat->Value},(𝒢.fix C.rho0).G C' -> Sat C' st' a' w' rho' -> J6 [0,1,2,3] st'.regs [0,1,2,3]=some objs' ->
  LeavesInM Fence.wide 0 Tryz.prog f63 a'.tmps (fun e w'=>∃C' r objs0 ks rho', 𝒢.G C' /\ (r=.ret (.tup [])/\objs0=objs' /\ ks=[true,true,true,true])/\SatE C' (objRegs objs0) w' rho' /\
   At0 w' (Prv C'.X (A1 (objRegs objs0)) rho') (Lv (A1 (objRegs objs0))) rho' e r/\∀i:Nat,ks[i]? = some true->i<objs0.length/\rho' i=rho i) [] .returning w':=by
  intro C' st' a' w' rho' d f m;obtain⟨g1,g2,g3⟩:=Ml f (by decide) m;obtain⟨hl,hg⟩:=Al m;refine⟨.tuple #[],by simp[results,f63],C', .ret (.tup []),objs',_,_,d.1,⟨rfl,rfl,rfl⟩,g1,⟨_,rfl,.tup _ _ rfl fun i hi=>Ln hi (by simp)⟩,?_⟩;intro i hi;have y:i<4:=by
   have:=(AR7.1 hi).1
   simpa using this
  refine⟨by rw[hl];exact y,?_⟩;have e1:[0,1,2,3][i]? = some i:=by
   match i,y with
   |0,_=>rfl
   |1,_=>rfl
   |2,_=>rfl
   |3,_=>rfl
  obtain⟨o,_,ho,_⟩:=hg i i e1;show rho' ([0,1,2,3].getD i 0)=rho i;rw[CT e1,f.pin i (by omega) (by simp[Lv,ho]),d.2];refine (Z.pin i (by omega) ?_).symm;rw[Lv,D3]
  match i,y with
  |0,_=>rfl
  |1,_=>rfl
  |2,_=>rfl
  |3,_=>rfl
 generalize hQ:bodyPostM _ _ _ _ _=QQ;refine wpIn_seq ?_;simp only[att1,f63];refine wpIn_region ?_;simp[wpOpsIn,Oper.wpIn,Oper.semAt,Oper.uponIn,go_sem,Exit.then];subst hQ;rw[WL];refine wpIn_mono (wpIn_region (F:=FW none) a5) ?_;rintro e a' w' ⟨a0,rfl,z⟩;cases e with
 |exit id=>obtain⟨_,_,_,_,_,_,h⟩:=z;exact h.elim
 |goto l=>obtain⟨_,_,_,_,_,_,h⟩:=z;exact h.elim
 |ret=>obtain⟨_,_,_,_,_,_,h⟩:=z;exact h.elim
 |outgrown=>exact z.elim
 |normal=>
  obtain⟨C',st',rho',d,f,a7,hu⟩:=z;obtain⟨st2,rho2,hR2,_,hs2⟩:=hu C' a0 w' rho' f;refine Fr (C:=C') (st:=st2) (rho:=rho2) (by simp) ?_ a0.defers a0 w' rfl rfl hs2;intro a3 w3 q ht;refine⟨by simp,.inr ⟨by simp[Fence.wide],_,_,S7,#[v0],rfl,by simp[go_sem],fun _ _=>trivial,?_⟩⟩;refine (Vd v0 w3).mono ?_;rintro e u' w4 ⟨rfl,rfl,rfl⟩
  have:=s d q (hR st2 hR2)
  rw[ht]at this;exact this
 |panic chain=>
  obtain⟨C',st',rho',v,x,rfl,d,f,a7,hv,hXx⟩:=z;obtain⟨c,regs',rfl,g,m⟩:=hX x st' hXx;obtain rfl:v=.iface 147 (.int .i64 c):=by
   cases hv with
   |iface _ _ _ h=>cases h;rfl
  refine Fr (C:=C') (st:=st') (rho:=rho') (by simp) ?_ a0.defers a0 w' rfl rfl f;intro a3 w3 q ht;have j:Lv (A1 st'.regs) 0:=by
   cases hj:A1 st'.regs 0 with
   |some o=>simp[Lv,hj]
   |none=>
    unfold store at g;split at g
    .simp[hj]at g
    cases g
  have hr0:rho' 0=.pointer (some ⟨b0,0,none⟩):=by rw[q.pin 0 (by omega) j,d.2,<- u];exact (Z.pin 0 (by omega) rfl).symm
  have hva:RS C' st' w3 rho' v0 (.reg 0 0):=by rw[a6];exact .reg 0 0 b0 j hr0
  obtain⟨w4,a8,hs4,_⟩:=LY q (vx:=.int .i64 c) hva (.p _ _ (.v _)) g Mz;refine⟨by simp,.inr ⟨by simp[Fence.wide],_,_,S7,#[v0],rfl,by simp[go_sem],fun _ _=>trivial,?_⟩⟩;refine (Lq v0 c [] w3 w4 a8 ⟨_,a6⟩).mono ?_;rintro e u' w5 ⟨rfl,rfl,rfl⟩
  have:=s d hs4 m
  rw[ht]at this;exact this
def Ve {a:Sl Law}{b y:Sl Tb}(c:FunO (Ga Tryz.prog) I1 [.p (vSl 18 B3 a),.p (vSl 2 A0 b)] [] (.p (vSl 2 A0 y)) [] []) :FunO (Ga Tryz.prog) J1 An9 (Vc 0 a b AH) (.tup []) (Vc 0 a b (vSl 2 A0 y)) [true,true,true,true]:=
 MT (AC5 (AF8 Tryz.prog) c) (fun st h=>h) (fun x st h=>h.elim)
def Rf {a:Sl Law}{b:Sl Tb}{c:Int}(d:(Ga Tryz.prog).F I1 [.p (vSl 18 B3 a),.p (vSl 2 A0 b)] [] fun res o k=>res=.panic (.iface 147 (pI .i64 c))/\o=[]/\k=[]) :FunO (Ga Tryz.prog) J1 An9 (Vc 0 a b AH) (.tup []) (Vc c a b AH) [true,true,true,true]:=
 MT (Aa4 (AF8 Tryz.prog) d) (fun st h=>h.elim) (fun x st h=>⟨c,_,h.1,h.2.1,h.2.2⟩)
end Go.AM
namespace Go.AM
open Go.Proofs.Tryz
variable {N:Nat}
open IntKind (wrap)
open Go.Proofs
set_option maxRecDepth 10000
set_option maxHeartbeats 2000000
variable {S:W8}(Z:G8 S Tryz.prog) (Y:Oh S)
include Z Y
def G2 (N:Nat)(a:Tb):Option Bool:= some (((G7 .and .u32 a.Plus a.Minus)==0)&&(decide ((G7 .or .u32 a.Plus a.Minus)<=16777215)))
theorem O9 {b:Tb}{y:Bool}(h:G2 N b=some y) :FunO S IT [.p (.agg (A0 b))] [] (pB y) ([]) []:=by unfold G2 at h;refine A3 Z func51 ?_;refine kB Z (B2 Z) Mz Mz 7 (.n (.a ((G7 .and .u32 b.Plus b.Minus)==0)) (.a (decide ((G7 .or .u32 b.Plus b.Minus)<=16777215)))) ?_;cases h;exact kR Z
def K0 (N:Nat)(b:Tb)(a:Tb):Option Bool:= (G2 N b).bind fun y1=>lt (fun (z1:Bool)=>some z1) fun k1=>if y1 then (G2 N a).bind fun y3=>if y3 then if ((G7 .andNot .u32 a.Plus b.Plus)==0) then k1 ((G7 .andNot .u32 a.Minus b.Minus)==0) else k1 false else k1 false else k1 false
theorem JX {c:Tb}{a:Tb}{y:Bool}(h:K0 N c a=some y) :FunO S ER [.p (.agg (A0 c)),.p (.agg (A0 a))] [] (pB y) ([]) []:=by
 unfold K0 at h;refine A3 Z func111 ?_;refine kC Z h (O9 Z Y) (fun y1 h=>?_);refine QC Z Mz (B2 Z) h 0 (fun z1=>⟨[(4,pB z1)],[]⟩) (fun M1 k1 b h=>?_) (fun z1 h=>?_)
 .refine kG Z h (fun h=>?_) (fun h=>?_)
  .refine kC Z h (O9 Z Y) (fun y3 h=>?_);refine kG Z h (fun h=>?_) (fun h=>?_)
   .refine kG Z h (fun h=>?_) (fun h=>?_)
    .exact b _ [] _ ((G7 .andNot .u32 a.Minus c.Minus)==0) Mz h
    exact b _ [] _ false Mz h
   exact b _ [] _ false Mz h
  exact b _ [] _ false Mz h
 cases h;exact kR Z
def DF (N:Nat)(a:Tb):Option Int:= some (G7 .or .u32 a.Plus a.Minus)
theorem MU {a:Tb}{y:Int}(h:DF N a=some y) :FunO S MN [.p (.agg (A0 a))] [] (pU y) ([]) []:=by unfold DF at h;refine A3 Z func137 ?_;cases h;exact kR Z
def Ck (N:Nat)(c:Tb)(b:Tb)(a:Int):Option Tb:= some (⟨G7 .or .u32 (G7 .andNot .u32 c.Plus a) (G7 .and .u32 b.Plus a),G7 .or .u32 (G7 .andNot .u32 c.Minus a) (G7 .and .u32 b.Minus a)⟩:Tb)
theorem MV {c:Tb}{a:Tb}{b:Int}{y:Tb}(h:Ck N c a b=some y) :FunO S MO [.p (.agg (A0 c)),.p (.agg (A0 a)),pU b] [] (.p (.agg (A0 y))) ([]) []:=by unfold Ck at h;refine A3 Z func138 ?_;cases h;exact kR Z
def P1 (N:Nat)(c:Tb)(a:Int)(b:Tb):Option (Tb×Int):= (G2 N c).bind fun y1=>lt (fun (z1:Bool)=>if z1 then some ((⟨0,0⟩:Tb),14) else lt (fun (z2:Bool)=>if z2 then some ((⟨0,0⟩:Tb),2) else (DF N b).bind fun y6=>(Ck N c b (G7 .or .u32 a y6)).bind fun y7=>some (y7,0)) fun k2=>if (decide (16777215<a)) then k2 true else (DF N b).bind fun y5=>k2 ((G7 .and .u32 a y5) != 0)) fun k1=>if (!y1) then k1 true else (G2 N b).bind fun y3=>k1 (!y3)
theorem Oj {c:Tb}{a:Int}{b:Tb}{y:Tb×Int}(h:P1 N c a b=some y) :FunO S HF [.p (.agg (A0 c)),pU a,.p (.agg (A0 b))] [] (.tup [.p (.agg (A0 y.1)),pN y.2]) ([]) []:=by
 unfold P1 at h;refine A3 Z func113 ?_;refine W7 Z Mz 5 4000 [pI .u32 c.Plus,pI .u32 c.Minus] ?_;refine W7 Z Mz 6 6000 [pI .u32 b.Plus,pI .u32 b.Minus] ?_;obtain⟨y1,e1,h⟩:=D1 h;refine F0 Z [] Ob (O9 Z Y e1) ?_;refine QC Z Mz (B2 Z) h 0 (fun z1=>⟨[(15,pB z1),(6,.reg 7000 0),(5,.p (.ptr [pI .u32 b.Plus,pI .u32 b.Minus])),(3,.p (.ptr [pI .u32 c.Plus,pI .u32 c.Minus])),(1,pU a)],[(7000,.cells [pU 0,pU 0])]⟩) (fun M1 k1 d h=>?_) (fun z1 h=>?_)
 .refine kG Z h (fun h=>?_) (fun h=>?_)
  .exact d _ [(7000,7000)] _ true Mz h
  obtain⟨y3,e3,h⟩:=D1 h;refine F0 Z [] Ob (O9 Z Y e3) ?_;exact d _ [(7000,7000)] _ (!y3) Mz h
 apply kI Z h<;>intro h
 .cases h;exact kR Z
 refine QC Z Mz (B2 Z) h 0 (fun z2=>⟨[(25,pB z2),(6,.reg 7000 0),(5,.p (.ptr [pI .u32 b.Plus,pI .u32 b.Minus])),(3,.p (.ptr [pI .u32 c.Plus,pI .u32 c.Minus])),(1,pU a)],[(7000,.cells [pU 0,pU 0])]⟩) (fun M2 k2 f h=>?_) (fun z2 h=>?_)
 .refine kG Z h (fun h=>?_) (fun h=>?_)
  .exact f _ [(7000,7000)] _ true Mz h
  obtain⟨y5,e5,h⟩:=D1 h;refine F0 Z [] Ob (MU Z Y e5) ?_;exact f _ [(7000,7000)] _ ((G7 .and .u32 a y5) != 0) Mz h
 apply kI Z h<;>intro h
 .cases h;exact kR Z
 refine J0 Z Mz [0,1,3,4,6] ?_;obtain⟨y6,e6,h⟩:=D1 h;refine Bv (And.intro (And.intro Ob Ob) Ob) (MU Z Y e6) ?_;obtain⟨y7,e7,h⟩:=D1 h;refine Bv Mz (MV Z Y e7) ?_;refine N2 Mz ?_;cases h;exact kR Z
def T5 (N:Nat)(c:Tb)(a:Tb)(b:Int):Option (Tb×Int):= (G2 N c).bind fun y1=>lt (fun (z1:Bool)=>if z1 then some ((⟨0,0⟩:Tb),14) else if (decide (16777215<b)) then some ((⟨0,0⟩:Tb),2) else (Ck N c a b).bind fun y4=>some (y4,0)) fun k1=>if (!y1) then k1 true else (G2 N a).bind fun y3=>k1 (!y3)
theorem Tn {c:Tb}{a:Tb}{b:Int}{y:Tb×Int}(h:T5 N c a b=some y) :FunO S KY [.p (.agg (A0 c)),.p (.agg (A0 a)),pU b] [] (.tup [.p (.agg (A0 y.1)),pN y.2]) ([]) []:=by
 unfold T5 at h;refine A3 Z func114 ?_;refine kC Z h (O9 Z Y) (fun y1 h=>?_);refine QC Z Mz (B2 Z) h 0 (fun z1=>⟨[(15,pB z1),(6,.reg 7000 0),(4,.reg 5000 0),(3,.reg 4000 0),(2,pU b)],[(7000,.cells [pU 0,pU 0]),(5000,.cells [pU a.Plus,pU a.Minus]),(4000,.cells [pU c.Plus,pU c.Minus])]⟩) (fun M1 k1 d h=>?_) (fun z1 h=>?_)
 .refine kG Z h (fun h=>?_) (fun h=>?_)
  .exact d _ [(4000,4000),(5000,5000),(7000,7000)] _ true Mz h
  refine kC Z h (O9 Z Y) (fun y3 h=>?_);exact d _ [(4000,4000),(5000,5000),(7000,7000)] _ (!y3) Mz h
 apply kI Z h<;>intro h
 .cases h;exact kR Z
 apply kI Z h<;>intro h
 .cases h;exact kR Z
 refine kC Z h (MV Z Y) (fun y4 h=>?_);cases h;exact kR Z
def Bw (N:Nat)(a:Tb):Option Bool:= some (((G7 .and .u32 a.Plus a.Minus)==0)&&((shI .shr .u32 (G7 .or .u32 a.Plus a.Minus) 24)==0))
theorem To {a:Tb}{y:Bool}(h:Bw N a=some y) :FunO S KU [.p (.agg (A0 a))] [] (pB y) ([]) []:=by
 unfold Bw at h;refine A3 Z func61 ?_;obtain⟨t1,c⟩:∃x:Bool,x=(((G7 .and .u32 a.Plus a.Minus)==0)&&((shI .shr .u32 (G7 .or .u32 a.Plus a.Minus) 24)==0)):=⟨_,rfl⟩;refine UK Z Mz (B2 Z) 0 ⟨[(2,pB t1)],[]⟩ (fun M1 d=>?_) ?_
 .refine QA Z Mz (b:=(G7 .and .u32 a.Plus a.Minus)==0) (fun c2=>?_) (fun c2=>?_)
  .exact d _ [] _ (by decide:(0:Int)<=24) (hle:=klR [(0,.eq (.bb ((shI .shr .u32 (G7 .or .u32 a.Plus a.Minus) 24)==0)) (.bb t1))] (al1 (by simp only[c,c2,Leaf.ok,pm,Lo,Lp]) al0))
  exact d _ [] _ Mz (hle:=klR [(0,.eq (.bb false) (.bb t1))] (al1 (by simp only[c,c2,Leaf.ok,pm,Lo,Lp]) al0))
 subst c;cases h;exact kR Z
def Z0 (N:Nat)(a:Sl Tb):Option Int:= if (decide (32<(a.n:Int))) then some 11 else S3 N (fun b (x1:Int)=>if (decide (x1<(a.n:Int))) then if ((0:Int)<=x1/\x1<(a.n:Int))then (Bw N (a.g x1.toNat)).bind fun y3=>if (!y3) then some 14 else b (wrap .i64 (x1+1)) else none else some 0) 0
theorem GD {a:Sl Tb}{y:Int}(h:Z0 N a=some y) :FunO S KS [.p (vSl 2 A0 a)] [] (pN y) ([]) []:=by
 unfold Z0 at h;refine A3 Z func37 ?_;apply kI Z h<;>intro h
 .cases h;exact kR Z
 refine AF Z Mz h (fun x1=>⟨[(10,pN x1),(9,pN (a.n:Int)),(8,.p (vSl 2 A0 a))],[]⟩) (ids:=[]) (fun _ _ _ _ _ b x1 c h=>?_);apply kI Z h<;>intro h
 .obtain⟨c9,h⟩:=I5 h;obtain⟨y3,e3,h⟩:=D1 h;refine F0 Z [] (And.intro c9 Ob) (To Z Y e3) ?_;apply kI Z h<;>intro h
  .cases h;exact kR Z
  exact c _ [] _ (wrap .i64 (x1+1)) Mz h
 cases h;exact kR Z
def F2 (N:Nat)(a:Sl Tb)(b:Sl Tb):Option Bool:= if ((a.n:Int) != (b.n:Int)) then some false else S3 N (fun c (x1:Int)=>if (decide (x1<(a.n:Int))) then if (((0:Int)<=x1/\x1<(a.n:Int))/\((0:Int)<=x1/\x1<(b.n:Int)))then if ((((a.g x1.toNat).Plus==(b.g x1.toNat).Plus)&&((a.g x1.toNat).Minus==(b.g x1.toNat).Minus)) != true) then some false else c (wrap .i64 (x1+1)) else none else some true) 0
theorem AP {a:Sl Tb}{b:Sl Tb}{y:Bool}(h:F2 N a b=some y) :FunO S O2 [.p (vSl 2 A0 a),.p (vSl 2 A0 b)] [] (pB y) ([]) []:=by
 unfold F2 at h;refine A3 Z func20 ?_;apply kI Z h<;>intro h
 .cases h;exact kR Z
 refine AF Z Mz h (fun x1=>⟨[(13,pN x1),(12,pN (a.n:Int)),(1,.p (vSl 2 A0 b)),(0,.p (vSl 2 A0 a))],[]⟩) (ids:=[]) (fun _ _ _ _ _ c x1 d h=>?_);apply kI Z h<;>intro h
 .refine J0 Z Mz [2,3,6,7] ?_;obtain⟨c9,h⟩:=I5 h;refine N2 (And.intro (And.intro (And.intro (And.intro c9.1 Ob) c9.2) Ob) (by decide +kernel:Aw7 Tryz.prog A4=true)) ?_;apply kI Z h<;>intro h
  .cases h;exact kR Z
  exact d _ [] _ (wrap .i64 (x1+1)) Mz h
 cases h;exact kR Z
def T6 (N:Nat)(a:Sl Tb)(b:Sl Tb):Option Bool:= (F2 N a b).bind fun y1=>some y1
theorem Eh {a:Sl Tb}{b:Sl Tb}{y:Bool}(h:T6 N a b=some y) :FunO S KO [.p (vSl 2 A0 a),.p (vSl 2 A0 b)] [] (pB y) ([]) []:=by unfold T6 at h;refine A3 Z func11 ?_;refine kC Z h (AP Z Y) (fun y1 h=>?_);cases h;exact kR Z
def P2 (N:Nat)(a:Tb):Option Bool:= some (((G7 .and .u32 a.Plus a.Minus)==0)&&((shI .shr .u32 (G7 .or .u32 a.Plus a.Minus) 24)==0))
theorem Ei {a:Tb}{y:Bool}(h:P2 N a=some y) :FunO S KZ [.p (.agg (A0 a))] [] (pB y) ([]) []:=by
 unfold P2 at h;refine A3 Z func132 ?_;obtain⟨t1,c⟩:∃x:Bool,x=(((G7 .and .u32 a.Plus a.Minus)==0)&&((shI .shr .u32 (G7 .or .u32 a.Plus a.Minus) 24)==0)):=⟨_,rfl⟩;refine UK Z Mz (B2 Z) 0 ⟨[(2,pB t1)],[]⟩ (fun M1 d=>?_) ?_
 .refine QA Z Mz (b:=(G7 .and .u32 a.Plus a.Minus)==0) (fun c2=>?_) (fun c2=>?_)
  .exact d _ [] _ (by decide:(0:Int)<=24) (hle:=klR [(0,.eq (.bb ((shI .shr .u32 (G7 .or .u32 a.Plus a.Minus) 24)==0)) (.bb t1))] (al1 (by simp only[c,c2,Leaf.ok,pm,Lo,Lp]) al0))
  exact d _ [] _ Mz (hle:=klR [(0,.eq (.bb false) (.bb t1))] (al1 (by simp only[c,c2,Leaf.ok,pm,Lo,Lp]) al0))
 subst c;cases h;exact kR Z
def P8 (N:Nat)(b:Int):Option (Nat->Int):= W9 N (fun a (x1:Nat->Int) (x2:Int)=>if (decide (x2<(wrap .i64 (b+1)))) then if (((0:Int)<=x2/\((0:Int)<=x2/\x2<33))/\(0+x2.toNat*1)<33)then a (Hw x1 (0+x2.toNat*1) (shI .shl .u64 1 x2)) (wrap .i64 (x2+1)) else none else some x1) (fun _=>0) 0
theorem DH {a:Int}{y:Nat->Int}(h:P8 N a=some y) :FunO S GB [pN a] [] (.p (.agg (cA 33 (pI .u64) y))) ([]) []:=by
 unfold P8 at h;refine A3 Z func186 ?_;refine Q5 Z Mz h (fun x1 x2=>⟨[(7,pN x2),(6,pN (wrap .i64 (a+1))),(3,.reg 4000 0),(2,.reg 3000 0)],[(4000,.arr 33 (fun i=>pI .u64 (x1 i))),(3000,.arr 33 (fun i=>pI .u64 ((fun _=>0) i)))]⟩) (ids:=[(3000,3000),(4000,4000)]) (fun _ _ _ _ _ b x1 x2 d h=>?_) (hle:=klR [(2,.fn 33 33 (fun i=>[(fun i=>(List.replicate 33 (pI .u64 0)).getD i default) i]) (fun i=>[pI .u64 ((fun _=>0) i)])),(3,.fn 33 33 (fun i=>[(fun i=>(List.replicate 33 (pI .u64 0)).getD i default) i]) (fun i=>[pI .u64 ((fun _=>0) i)]))] (al1 ⟨rfl,Ci (z:=pI .u64 0) rfl⟩ (al1 ⟨rfl,Ci (z:=pI .u64 0) rfl⟩ al0)));apply kI Z h<;>intro h
 .obtain⟨c4,h⟩:=I5 h;exact d _ [(3000,3000),(4000,4000)] _ (Hw x1 (0+x2.toNat*1) (shI .shl .u64 1 x2)) (wrap .i64 (x2+1)) c4 h (hle:=klR [(2,.fn 33 33 (fun i=>[(fun i=>if i=(0+x2.toNat*1)then (pI .u64 (shI .shl .u64 1 x2))else (fun i=>pI .u64 (x1 i)) i) i]) (fun i=>[pI .u64 (Hw x1 (0+x2.toNat*1) (shI .shl .u64 1 x2) i)]))] (al1 ⟨rfl,Ag4 (c:=pI .u64) (v:=x1) (x:=shI .shl .u64 1 x2) (fun _ _=>rfl) rfl⟩ al0))
 obtain rfl:=B9 h;exact A6 Z (And.intro rfl (F9 _ _):(0:Nat)=0/\(CR 33 (fun i=>pI .u64 (x1 i))).length=33) ⟨[(2,.reg 3000 0)],[(3000,.arr 33 (fun i=>pI .u64 (x1 i)))]⟩ [] (ids:=[(3000,3000)]) ⟨rfl,rfl,rfl⟩ (hle:=klR [(0,.fn 33 33 (fun i=>[(fun i=>(cA 33 (pI .u64) x1).getD i default) i]) (fun i=>[pI .u64 (x1 i)]))] (al1 ⟨rfl,E3 33 (fun i=>pI .u64 (x1 i))⟩ al0))
def N5 (N:Nat)(p_x:Nat->Int)(b:Nat->Int):Option (Nat->Int):= W9 N (fun a (x1:Nat->Int) (x2:Int)=>if (decide (x2<33)) then if (((0:Int)<=x2/\x2<33)/\(0+x2.toNat*1)<33)then if (((((0:Int)<=x2/\x2<33)/\(0+x2.toNat*1)<33)/\((0:Int)<=x2/\x2<33))/\(0+x2.toNat*1)<33)then a (Hw x1 (0+x2.toNat*1) (G7 .or .u64 (x1 (0+x2.toNat*1)) (b (0+x2.toNat*1)))) (wrap .i64 (x2+1)) else none else none else some x1) p_x 0
theorem Ej {p_x:Nat->Int}{a:Nat->Int}{y:Nat->Int}(h:N5 N p_x a=some y) :FunO S Ef [.reg 0 0,.reg 1 0] [.arr 33 (fun i=>pI .u64 (p_x i)),.arr 33 (fun i=>pI .u64 (a i))] (.tup []) ([.arr 33 (fun i=>pI .u64 (y i)),.arr 33 (fun i=>pI .u64 (a i))]) [true,true]:=by
 unfold N5 at h;refine A3 Z func184 ?_;refine Q5 Z Mz h (fun x1 x2=>⟨[(7,pN x2),(6,.reg 1 0),(0,.reg 0 0)],[(1,.arr 33 (fun i=>pI .u64 (a i))),(0,.arr 33 (fun i=>pI .u64 (x1 i)))]⟩) (ids:=[(0,0),(1,1)]) (fun _ _ _ _ _ b x1 x2 d h=>?_);apply kI Z h<;>intro h
 .refine HX Z Mz ?_;obtain⟨c8,h⟩:=I5 h;refine N2 c8 ?_;refine HX Z Mz ?_;obtain⟨c9,h⟩:=I5 h;refine N2 c9 ?_;exact d _ [(0,0),(1,1)] _ (Hw x1 (0+x2.toNat*1) (G7 .or .u64 (x1 (0+x2.toNat*1)) (a (0+x2.toNat*1)))) (wrap .i64 (x2+1)) Mz h (hle:=klR [(2,.fn 33 33 (fun i=>[(fun i=>if i=(0+x2.toNat*1)then (pI .u64 (G7 .or .u64 (x1 (0+x2.toNat*1)) (a (0+x2.toNat*1))))else (fun i=>pI .u64 (x1 i)) i) i]) (fun i=>[pI .u64 (Hw x1 (0+x2.toNat*1) (G7 .or .u64 (x1 (0+x2.toNat*1)) (a (0+x2.toNat*1))) i)]))] (al1 ⟨rfl,Ag4 (c:=pI .u64) (v:=x1) (x:=G7 .or .u64 (x1 (0+x2.toNat*1)) (a (0+x2.toNat*1))) (fun _ _=>rfl) rfl⟩ al0))
 obtain rfl:=B9 h;exact A6 Z Mz ⟨[],[(1,.arr 33 (fun i=>pI .u64 (a i))),(0,.arr 33 (fun i=>pI .u64 (x1 i)))]⟩ [0,1] (ids:=[(0,0),(1,1)]) ⟨rfl,rfl,rfl⟩
def At (N:Nat)(b:Sl Tb)(a:Int):Option Int:= if ((decide (a<0))||(decide ((b.n:Int)<a))) then some 3 else some 0
theorem Jg {c:Sl Tb}{b:Int}{y:Int}(h:At N c b=some y) :FunO S Jc [.p (vSl 2 A0 c),pN b] [] (pN y) ([]) []:=by
 unfold At at h;refine A3 Z func149 ?_;refine kB Z (B2 Z) Mz Mz 5 (.o (.a (decide (b<0))) (.a (decide ((c.n:Int)<b)))) ?_;apply kI Z h<;>intro h
 .cases h;exact kR Z
 cases h;exact kR Z
def Bb (N:Nat)(a:Pat):Option Int:= if (if (a.Kind==0) then a.Kind==0 else (if (a.Kind==2) then a.Kind==2 else a.Kind==6)) then lt (fun (z1:Bool)=>if z1 then some 2 else (P2 N a.Is).bind fun y1=>if (!y1) then some 14 else some 0) fun k1=>if (((a.Is.Plus==0)&&(a.Is.Minus==0)) != true) then k1 true else if a.Not then k1 true else if (a.Min != 0) then k1 true else if (a.Max != 0) then k1 true else k1 (decide (0<(a.L.n:Int))) else if (a.Kind==1) then lt (fun (z2:Bool)=>if z2 then some 2 else (P2 N a.Is).bind fun y2=>if (!y2) then some 14 else some 0) fun k2=>if (((0==0)&&(0==0)) != true) then k2 true else if (a.Min != 0) then k2 true else if (a.Max != 0) then k2 true else k2 (decide (0<(a.L.n:Int))) else lt (fun (z3:Int×Int)=>if (((((((a.Is.Plus==0)&&(a.Is.Minus==0)) != true)||a.Not)||(z3.1 != 0))||(z3.2 != 0))||(decide (0<0))) then some 2 else (P2 N a.Is).bind fun y3=>if (!y3) then some 14 else some 0) fun k3=>if (if (a.Kind==3) then a.Kind==3 else a.Kind==4) then k3 (a.Min,a.Max) else if (a.Kind==5) then if (((((a.L.n:Int) != 1)||(decide (a.Min<0)))||(decide (32<a.Min)))||((a.Max != (-1))&&((decide (a.Max<a.Min))||(decide (32<a.Max))))) then some 2 else k3 (0,0) else some 2
theorem Ok {c:Pat}{y:Int}(h:Bb N c=some y) :FunO S HE [.p (.agg (E1 c))] [] (pN y) ([]) []:=by
 unfold Bb at h;refine A3 Z func101 ?_;obtain⟨t1,f⟩:∃x:Bool,x=(if (c.Kind==0) then c.Kind==0 else (if (c.Kind==2) then c.Kind==2 else c.Kind==6)):=⟨_,rfl⟩;refine UK Z Mz (B2 Z) 0 ⟨[(8,pB t1),(7,pN c.Kind),(3,.reg 4000 0),(1,.reg 2000 0)],[(4000,.cells [pN 0,pU c.Is.Plus,pU c.Is.Minus,pB c.Not,pN c.Min,pN c.Max,.p (.sl false 7 c.L.n (Fs c))]),(2000,.cells ((E1 c).map .p))]⟩ (fun M1 l=>?_) ?_
 .refine E7 Z Mz (b:=c.Kind==0) (fun c3=>?_) (fun c3=>?_)
  .exact l _ [(2000,2000),(4000,4000)] _ Mz (hle:=klR [(0,.eq (.bb (c.Kind==0)) (.bb t1))] (al1 (by simp only[f,c3,Leaf.ok,pm,Lo,Lp]) al0))
  refine E7 Z Mz (b:=c.Kind==2) (fun c4=>?_) (fun c4=>?_)
  .exact l _ [(2000,2000),(4000,4000)] _ Mz (hle:=klR [(0,.eq (.bb (c.Kind==2)) (.bb t1))] (al1 (by simp only[f,c3,c4,Leaf.ok,pm,Lo,Lp]) al0))
  exact l _ [(2000,2000),(4000,4000)] _ Mz (hle:=klR [(0,.eq (.bb (c.Kind==6)) (.bb t1))] (al1 (by simp only[f,c3,c4,Leaf.ok,pm,Lo,Lp]) al0))
 subst f;apply kI Z h<;>intro h
 .refine QC Z (by decide +kernel:Aw7 Tryz.prog A4=true) (B2 Z) h 0 (fun z1=>⟨[(57,pB z1),(1,.reg 2000 0)],[(2000,.cells ((E1 c).map .p))]⟩) (fun M3 k1 d h=>?_) (fun z1 h=>?_)
  .refine kG Z h (fun h=>?_) (fun h=>?_)
   .exact d _ [(2000,2000)] _ true Mz h
   refine kG Z h (fun h=>?_) (fun h=>?_)
   .exact d _ [(2000,2000)] _ true Mz h
   refine kG Z h (fun h=>?_) (fun h=>?_)
   .exact d _ [(2000,2000)] _ true Mz h
   refine kG Z h (fun h=>?_) (fun h=>?_)
   .exact d _ [(2000,2000)] _ true Mz h
   refine Bo Z Mz 79 ⟨[(78,.p (vSl 7 E1 c.L)),(76,.p (.v (.bool false))),(1,.reg 2000 0)],[(2000,.cells ((E1 c).map .p))]⟩ (ids:=[(2000,2000)]) ?_ (hle:=klR [(0,.fn c.L.n c.L.n (Fs c) (fun i=>E1 (c.L.g i)))] (al1 ⟨rfl,Di c⟩ al0));exact d _ [(2000,2000)] _ (decide (0<(c.L.n:Int))) Mz h
  apply kI Z h<;>intro h
  .cases h;exact kR Z
  refine kC Z h (Ei Z Y) (fun y1 h=>?_);apply kI Z h<;>intro h
  .cases h;exact kR Z
  cases h;exact kR Z
 apply kI Z h<;>intro h
 .refine QC Z (by decide +kernel:Aw7 Tryz.prog A4=true) (B2 Z) h 0 (fun z2=>⟨[(57,pB z2),(1,.reg 2000 0)],[(2000,.cells ((E1 c).map .p))]⟩) (fun M5 k2 j h=>?_) (fun z2 h=>?_)
  .refine kG Z h (fun h=>?_) (fun h=>?_)
   .exact j _ [(2000,2000)] _ true Mz h
   refine QA Z Mz (b:=false) (fun c54=>?_) (fun c54=>?_)
   .exact Bool.noConfusion ((rfl:false=false).symm.trans c54)
   refine kG Z h (fun h=>?_) (fun h=>?_)
   .exact j _ [(2000,2000)] _ true Mz h
   refine kG Z h (fun h=>?_) (fun h=>?_)
   .exact j _ [(2000,2000)] _ true Mz h
   refine Bo Z Mz 79 ⟨[(78,.p (vSl 7 E1 c.L)),(76,.p (.v (.bool false))),(1,.reg 2000 0)],[(2000,.cells ((E1 c).map .p))]⟩ (ids:=[(2000,2000)]) ?_ (hle:=klR [(0,.fn c.L.n c.L.n (Fs c) (fun i=>E1 (c.L.g i)))] (al1 ⟨rfl,Di c⟩ al0));exact j _ [(2000,2000)] _ (decide (0<(c.L.n:Int))) Mz h
  apply kI Z h<;>intro h
  .cases h;exact kR Z
  refine kC Z h (Ei Z Y) (fun y2 h=>?_);apply kI Z h<;>intro h
  .cases h;exact kR Z
  cases h;exact kR Z
 obtain⟨t4,m⟩:∃x:Bool,x=(if (c.Kind==3) then c.Kind==3 else c.Kind==4):=⟨_,rfl⟩;refine UK Z Mz (B2 Z) 0 ⟨[(17,pB t4),(7,pN c.Kind),(3,.reg 4000 0),(1,.reg 2000 0)],[(4000,.cells [pN 0,pU c.Is.Plus,pU c.Is.Minus,pB c.Not,pN c.Min,pN c.Max,.p (.sl false 7 c.L.n (Fs c))]),(2000,.cells ((E1 c).map .p))]⟩ (fun M6 q=>?_) ?_
 .refine E7 Z Mz (b:=c.Kind==3) (fun c60=>?_) (fun c60=>?_)
  .exact q _ [(2000,2000),(4000,4000)] _ Mz (hle:=klR [(0,.eq (.bb (c.Kind==3)) (.bb t4))] (al1 (by simp only[m,c60,Leaf.ok,pm,Lo,Lp]) al0))
  exact q _ [(2000,2000),(4000,4000)] _ Mz (hle:=klR [(0,.eq (.bb (c.Kind==4)) (.bb t4))] (al1 (by simp only[m,c60,Leaf.ok,pm,Lo,Lp]) al0))
 subst m;refine QC Z Mz (B2 Z) h 0 (fun z3=>⟨[(3,.reg 4000 0),(1,.reg 2000 0)],[(4000,.cells [pN 0,pU c.Is.Plus,pU c.Is.Minus,pB c.Not,pN z3.1,pN z3.2,.p AH]),(2000,.cells ((E1 c).map .p))]⟩) (fun M7 k3 r h=>?_) (fun z3 h=>?_)
 .apply kI Z h<;>intro h
  .exact r _ [(2000,2000),(4000,4000)] _ (c.Min,c.Max) Mz h
  apply kI Z h<;>intro h
  .refine Bo Z Mz 25 ⟨[(24,.p (vSl 7 E1 c.L)),(3,.reg 4000 0),(1,.reg 2000 0)],[(4000,.cells [pN 0,pU c.Is.Plus,pU c.Is.Minus,pB c.Not,pN c.Min,pN c.Max,.p (.sl false 7 c.L.n (Fs c))]),(2000,.cells ((E1 c).map .p))]⟩ (ids:=[(2000,2000),(4000,4000)]) ?_ (hle:=klR [(0,.fn c.L.n c.L.n (Fs c) (fun i=>E1 (c.L.g i)))] (al1 ⟨rfl,Di c⟩ al0));refine kB Z (B2 Z) Mz Mz 26 (.o (.o (.o (.a ((c.L.n:Int) != 1)) (.a (decide (c.Min<0)))) (.a (decide (32<c.Min)))) (.n (.a (c.Max != (-1))) (.o (.a (decide (c.Max<c.Min))) (.a (decide (32<c.Max)))))) ?_;apply kI Z h<;>intro h
   .cases h;exact kR Z
   exact r _ [(2000,2000),(4000,4000)] _ (0,0) Mz h
  cases h;exact kR Z
 refine kB Z (B2 Z) (by decide +kernel:Aw7 Tryz.prog A4=true) Mz 19 (.o (.o (.o (.o (.a (((c.Is.Plus==0)&&(c.Is.Minus==0)) != true)) (.a c.Not)) (.a (z3.1 != 0))) (.a (z3.2 != 0))) (.a (decide (0<0)))) ?_;apply kI Z h<;>intro h
 .cases h;exact kR Z
 refine kC Z h (Ei Z Y) (fun y3 h=>?_);apply kI Z h<;>intro h
 .cases h;exact kR Z
 cases h;exact kR Z
end Go.AM
namespace Go.AM
variable {N:Nat}
open IntKind (wrap)
open Go.Proofs
set_option maxRecDepth 10000
set_option maxHeartbeats 2000000
variable {S:W8}(Z:G8 S Tryz.prog) (Y:Oh S)
include Z Y
def BJ (rec:Pat->Int->Option Int)(N:Nat)(b:Pat)(a:Int):Option Int:= W9 N (fun c (x1:Int) (x2:Int)=>if ((decide (x2<(b.L.n:Int)))&&(decide (x1<=40))) then if ((0:Int)<=x2/\x2<(b.L.n:Int))then (rec (b.L.g x2.toNat) x1).bind fun y3=>c y3 (wrap .i64 (x2+1)) else none else some x1) (wrap .i64 (a+1)) 0
def Bp:Nat->Pat->Int->Option Int
 |0=>fun _ _=>none
 |N+1=>BJ (Bp N) N
theorem Tp {rec:Pat->Int->Option Int}(d:∀{b:Pat}{c:Int}{y:Int},rec b c=some y->FunO S Ft [.p (.agg (E1 b)),pN c] [] (pN y) ([]) []){b:Pat}{c:Int}{y:Int}(h:BJ rec N b c=some y) :FunO S Ft [.p (.agg (E1 b)),pN c] [] (pN y) ([]) []:=by
 unfold BJ at h;refine A3 Z Tryz.func46 ?_;refine Q5 Z Mz h (fun x1 x2=>⟨[(6,pN x2),(5,pN x1),(2,.reg 3000 0)],[(3000,.cells ((E1 b).map .p))]⟩) (ids:=[(3000,3000)]) (fun _ _ _ _ _ f x1 x2 j h=>?_);refine Bo Z Mz 12 ⟨[(11,.p (vSl 7 E1 b.L)),(9,pN x2),(6,pN x2),(5,pN x1),(2,.reg 3000 0)],[(3000,.cells ((E1 b).map .p))]⟩ (ids:=[(3000,3000)]) ?_ (hle:=klR [(0,.fn b.L.n b.L.n (Fs b) (fun i=>E1 (b.L.g i)))] (al1 ⟨rfl,Di b⟩ al0));refine kB Z (B2 Z) Mz Mz 3 (.n (.a (decide (x2<(b.L.n:Int)))) (.a (decide (x1<=40)))) ?_;apply kI Z h<;>intro h
 .refine Bo Z Mz 23 ⟨[(22,pN x2),(21,.p (vSl 7 E1 b.L)),(6,pN x2),(5,pN x1),(2,.reg 3000 0)],[(3000,.cells ((E1 b).map .p))]⟩ (ids:=[(3000,3000)]) ?_ (hle:=klR [(1,.fn b.L.n b.L.n (Fs b) (fun i=>E1 (b.L.g i)))] (al1 ⟨rfl,Di b⟩ al0));obtain⟨c6,h⟩:=I5 h;obtain⟨y3,e3,h⟩:=D1 h;refine F0 Z [] (And.intro c6 Od) (d e3) ?_;exact j _ [(3000,3000)] _ y3 (wrap .i64 (x2+1)) Mz h
 cases h;exact kR Z
theorem Vf {b:Pat}{a:Int}{y:Int}(h:Bp N b a=some y) :FunO S Ft [.p (.agg (E1 b)),pN a] [] (pN y) ([]) []:=by
 induction N generalizing b a y with
 |zero=>cases (show (none:Option Int)=some y from h)
 |succ N ih=>exact Tp Z Y (fun e=>ih e) h
def Dl (N:Nat)(a:Pat):Option Int:= (Bp N a 0).bind fun y1=>some y1
theorem Pw {a:Pat}{y:Int}(h:Dl N a=some y) :FunO S Pr [.p (.agg (E1 a))] [] (pN y) ([]) []:=by unfold Dl at h;refine A3 Z Tryz.func28 ?_;refine kC Z h (Vf Z Y) (fun y1 h=>?_);cases h;exact kR Z
end Go.AM
namespace Go.AM
open Go.Proofs.Tryz
variable {N:Nat}
open IntKind (wrap)
open Go.Proofs
set_option maxRecDepth 10000
set_option maxHeartbeats 2000000
variable {S:W8}(Z:G8 S Tryz.prog) (Y:Oh S)
include Z Y
def Q7 (N:Nat)(q0:Int):Option (List (Int)):= S3 N (fun a (x1:Int)=>if (x1 != 0) then (G5 N x1).bind fun y3=>if (0:Int)<=y3 then Y4 y3 (a (G7 .andNot .u64 x1 (shI .shl .u64 1 y3))) else none else some []) q0
theorem CV {q0:Int}{L:List (Int)}(h:Q7 N q0=some L) :Dh S Bl [] [.reg 0 0] [.cells [.p (pI .u64 q0)]] (L.map (fun (x:Int)=>[pI .i64 x])):=by
 unfold Q7 at h;refine DY Z func157 ?_;refine Gn Z Mz h (fun x1 L1=>⟨[(1,.reg 0 0),(0,.yf 1)],[(1,.yld (L1.map (fun (x:Int)=>[pI .i64 x])) true),(0,.cells [.p (pI .u64 x1)])]⟩) (ids:=[(0,0),(1,1)]) (fun _ _ _ _ _ d x1 L1 f h=>?_);apply kI Z h<;>intro h
 .refine kC Z h (DE Z Y) (fun y3 h=>?_);refine HX Z Mz ?_;obtain⟨c10,h⟩:=I5 h;refine N2 c10 ?_;obtain⟨L4,rfl,c⟩:=Li h;replace h:=c;refine Dy Z Mz (ys:=(fun (x:Int)=>[pI .i64 x]) y3) (rest:=L4.map (fun (x:Int)=>[pI .i64 x])) ?_ ?_
  .refine E7 Z Mz (b:=false) (fun c11=>?_) (fun c11=>?_)
   .exact Bool.noConfusion ((rfl:false=false).symm.trans c11)
   exact f _ [(0,0),(1,1)] _ (G7 .andNot .u64 x1 (shI .shl .u64 1 y3)) L4 Mz h
  refine E7 Z Mz (b:=true) (fun c12=>?_) (fun c12=>?_)
  .exact A6 Z Mz (a:=.tup []) (objs:=[(.cells [.p (pI .u64 (G7 .andNot .u64 x1 (shI .shl .u64 1 y3)))]),.yld [] false]) ⟨[],[(1,.yld [] false),(0,.cells [.p (pI .u64 (G7 .andNot .u64 x1 (shI .shl .u64 1 y3)))])]⟩ [0,1] (ids:=[(0,0),(1,1)]) ⟨false,rfl,rfl,_,rfl⟩
  exact Bool.noConfusion (Og.symm.trans c12)
 obtain rfl:=B9 h;exact A6 Z Mz (a:=.tup []) (objs:=[(.cells [.p (pI .u64 x1)]),.yld [] true]) ⟨[],[(1,.yld [] true),(0,.cells [.p (pI .u64 x1)])]⟩ [0,1] (ids:=[(0,0),(1,1)]) ⟨true,rfl,rfl,_,rfl⟩
def Bc (N:Nat)(a:Int):Option (Int):= some a
theorem Ew {a:Int}{y:Int}(h:Bc N a=some y) :FunO S HG [.p (pI .u64 a)] [] (.clo Bl [] [.reg 0 0]) ([.cells [.p (pI .u64 y)]]) []:=by unfold Bc at h;refine A3 Z func150 ?_;obtain rfl:=B9 h;exact A6 Z Mz ⟨[(2,.clo Bl [] [.reg 2000 0])],[(2000,.cells [.p (pI .u64 a)])]⟩ [2000] (ids:=[(2000,2000)]) ⟨rfl,rfl,rfl⟩
def D5 (N:Nat)(p_x:Nat->Int)(c:Nat->Int):Option (Nat->Int):= W9 N (fun a (x3:Nat->Int) (x4:Int)=>if (decide (x4<33)) then if (((0:Int)<=x4/\x4<33)/\(0+x4.toNat*1)<33)then (Bc N (p_x (0+x4.toNat*1))).bind fun y3=>(Q7 N y3).bind fun L3=>O1 L3 (fun b (x7:Int) (z3:Nat->Int)=>if (((((((0:Int)<=x4/\x4<33)/\(0+x4.toNat*1)<33)/\((0:Int)<=x7/\x7<33))/\(0+x7.toNat*1)<33)/\((0:Int)<=x4/\x4<33))/\(0+x4.toNat*1)<33)then b (Hw z3 (0+x4.toNat*1) (G7 .or .u64 (z3 (0+x4.toNat*1)) (c (0+x7.toNat*1)))) else none) (fun (z3:Nat->Int)=>a z3 (wrap .i64 (x4+1))) x3 else none else some x3) (fun _=>0) 0
theorem S4 {p_x:Nat->Int}{b:Nat->Int}{y:Nat->Int}(h:D5 N p_x b=some y) :FunO S AO [.reg 0 0,.reg 1 0] [.arr 33 (fun i=>pI .u64 (p_x i)),.arr 33 (fun i=>pI .u64 (b i))] (.p (.agg (cA 33 (pI .u64) y))) ([.arr 33 (fun i=>pI .u64 (p_x i)),.arr 33 (fun i=>pI .u64 (b i))]) [true,true]:=by
 unfold D5 at h;refine A3 Z func187 ?_;refine Q5 Z Mz h (fun x3 x4=>⟨[(10,pN x4),(9,.reg 0 0),(5,.reg 6000 0),(4,.reg 5000 0),(3,.reg 4000 0)],[(6000,.arr 33 (fun i=>pI .u64 (x3 i))),(5000,.arr 33 (fun i=>pI .u64 ((fun _=>0) i))),(4000,.cells [.reg 1 0]),(1,.arr 33 (fun i=>pI .u64 (b i))),(0,.arr 33 (fun i=>pI .u64 (p_x i)))]⟩) (ids:=[(0,0),(1,1),(4000,4000),(5000,5000),(6000,6000)]) (fun _ _ _ _ _ d x3 x4 f h=>?_) (hle:=klR [(1,.fn 33 33 (fun i=>[(fun i=>(List.replicate 33 (pI .u64 0)).getD i default) i]) (fun i=>[pI .u64 ((fun _=>0) i)])),(2,.fn 33 33 (fun i=>[(fun i=>(List.replicate 33 (pI .u64 0)).getD i default) i]) (fun i=>[pI .u64 ((fun _=>0) i)]))] (al1 ⟨rfl,Ci (z:=pI .u64 0) rfl⟩ (al1 ⟨rfl,Ci (z:=pI .u64 0) rfl⟩ al0)));apply kI Z h<;>intro h
 .refine U0 Z Mz [(2,.l [0]),(3,.l [0]),(4,.a [7000]),(5,.a [7000])] ?_;obtain⟨c12,h⟩:=I5 h;refine N2 c12 ?_;refine W7 Z Mz 16 7000 [pI .i64 x4] ?_;refine kC Z h (Ew Z Y) (fun y3 h=>?_);obtain⟨L3,e6,h⟩:=D1 h;refine JO Z Mz [18000] [10,9,6,5,4,3] 905 (fun z3=>⟨[(10,pN x4),(9,.reg 0 0),(6,.p (.ptr [pI .i64 x4])),(5,.reg 6000 0),(4,.reg 5000 0),(3,.reg 4000 0)],[(6000,.arr 33 (fun i=>pI .u64 (z3 i))),(5000,.arr 33 (fun i=>pI .u64 ((fun _=>0) i))),(4000,.cells [.reg 1 0]),(1,.arr 33 (fun i=>pI .u64 (b i))),(0,.arr 33 (fun i=>pI .u64 (p_x i)))]⟩) (idl:=[(0,0),(1,1),(4000,4000),(5000,5000),(6000,6000)]) h (CV Z Y e6) (fun _=>by kernel_rfl) (fun _=>by kernel_rfl) (fun _=>by kernel_rfl) (fun _=>by kernel_rfl) (fun x7 _ g z3 j h=>?_) (fun z3 h=>?_)
  .refine Lj Z Mz ?_;refine U0 Z Mz [(0,.n),(1,.l [6000]),(2,.l [6000]),(3,.l [4000]),(6,.l [1]),(7,.l [1]),(9,.l [6000]),(10,.a [6000])] ?_;obtain⟨c15,h⟩:=I5 h;refine N2 c15 ?_;exact j _ [(0,0),(1,1),(905,905),(4000,4000),(5000,5000),(6000,6000)] _ (Hw z3 (0+x4.toNat*1) (G7 .or .u64 (z3 (0+x4.toNat*1)) (b (0+x7.toNat*1)))) Mz h (hle:=klR [(0,.fn 33 33 (fun i=>[(fun i=>if i=(0+x4.toNat*1)then (pI .u64 (G7 .or .u64 (z3 (0+x4.toNat*1)) (b (0+x7.toNat*1))))else (fun i=>pI .u64 (z3 i)) i) i]) (fun i=>[pI .u64 (Hw z3 (0+x4.toNat*1) (G7 .or .u64 (z3 (0+x4.toNat*1)) (b (0+x7.toNat*1))) i)]))] (al1 ⟨rfl,Ag4 (c:=pI .u64) (v:=z3) (x:=G7 .or .u64 (z3 (0+x4.toNat*1)) (b (0+x7.toNat*1))) (fun _ _=>rfl) rfl⟩ al0))
  exact f _ [(0,0),(1,1),(4000,4000),(5000,5000),(6000,6000)] _ z3 (wrap .i64 (x4+1)) Mz h
 obtain rfl:=B9 h;exact A6 Z (And.intro rfl (F9 _ _):(0:Nat)=0/\(CR 33 (fun i=>pI .u64 (x3 i))).length=33) ⟨[(4,.reg 5000 0)],[(5000,.arr 33 (fun i=>pI .u64 (x3 i))),(1,.arr 33 (fun i=>pI .u64 (b i))),(0,.arr 33 (fun i=>pI .u64 (p_x i)))]⟩ [0,1] (ids:=[(0,0),(1,1),(5000,5000)]) ⟨rfl,rfl,rfl⟩ (hle:=klR [(0,.fn 33 33 (fun i=>[(fun i=>(cA 33 (pI .u64) x3).getD i default) i]) (fun i=>[pI .u64 (x3 i)]))] (al1 ⟨rfl,E3 33 (fun i=>pI .u64 (x3 i))⟩ al0))
def I6 (N:Nat)(p_x:Nat->Int):Option (Nat->Int):= W9 N (fun a (x3:Nat->Int) (x4:Int)=>if (decide (x4<33)) then if (((0:Int)<=x4/\x4<33)/\(0+x4.toNat*1)<33)then (Bc N (p_x (0+x4.toNat*1))).bind fun y3=>(Q7 N y3).bind fun L3=>O1 L3 (fun b (x7:Int) (z3:Nat->Int)=>if (((((((0:Int)<=x4/\x4<33)/\(0+x4.toNat*1)<33)/\((0:Int)<=x7/\x7<33))/\(0+x7.toNat*1)<33)/\((0:Int)<=x4/\x4<33))/\(0+x4.toNat*1)<33)then b (Hw z3 (0+x4.toNat*1) (G7 .or .u64 (z3 (0+x4.toNat*1)) (p_x (0+x7.toNat*1)))) else none) (fun (z3:Nat->Int)=>a z3 (wrap .i64 (x4+1))) x3 else none else some x3) (fun _=>0) 0
theorem CD {p_x:Nat->Int}{y:Nat->Int}(h:I6 N p_x=some y) :FunO S AO [.reg 0 0,.reg 0 0] [.arr 33 (fun i=>pI .u64 (p_x i))] (.p (.agg (cA 33 (pI .u64) y))) ([.arr 33 (fun i=>pI .u64 (p_x i))]) [true]:=by
 unfold I6 at h;refine A3 Z func187 ?_;refine Q5 Z Mz h (fun x3 x4=>⟨[(10,pN x4),(9,.reg 0 0),(5,.reg 6000 0),(4,.reg 5000 0),(3,.reg 4000 0)],[(6000,.arr 33 (fun i=>pI .u64 (x3 i))),(5000,.arr 33 (fun i=>pI .u64 ((fun _=>0) i))),(4000,.cells [.reg 0 0]),(0,.arr 33 (fun i=>pI .u64 (p_x i)))]⟩) (ids:=[(0,0),(4000,4000),(5000,5000),(6000,6000)]) (fun _ _ _ _ _ b x3 x4 d h=>?_) (hle:=klR [(1,.fn 33 33 (fun i=>[(fun i=>(List.replicate 33 (pI .u64 0)).getD i default) i]) (fun i=>[pI .u64 ((fun _=>0) i)])),(2,.fn 33 33 (fun i=>[(fun i=>(List.replicate 33 (pI .u64 0)).getD i default) i]) (fun i=>[pI .u64 ((fun _=>0) i)]))] (al1 ⟨rfl,Ci (z:=pI .u64 0) rfl⟩ (al1 ⟨rfl,Ci (z:=pI .u64 0) rfl⟩ al0)));apply kI Z h<;>intro h
 .refine U0 Z Mz [(2,.l [0]),(3,.l [0]),(4,.a [7000]),(5,.a [7000])] ?_;obtain⟨c12,h⟩:=I5 h;refine N2 c12 ?_;refine W7 Z Mz 16 7000 [pI .i64 x4] ?_;refine kC Z h (Ew Z Y) (fun y3 h=>?_);obtain⟨L3,e6,h⟩:=D1 h;refine JO Z Mz [18000] [10,9,6,5,4,3] 905 (fun z3=>⟨[(10,pN x4),(9,.reg 0 0),(6,.p (.ptr [pI .i64 x4])),(5,.reg 6000 0),(4,.reg 5000 0),(3,.reg 4000 0)],[(6000,.arr 33 (fun i=>pI .u64 (z3 i))),(5000,.arr 33 (fun i=>pI .u64 ((fun _=>0) i))),(4000,.cells [.reg 0 0]),(0,.arr 33 (fun i=>pI .u64 (p_x i)))]⟩) (idl:=[(0,0),(4000,4000),(5000,5000),(6000,6000)]) h (CV Z Y e6) (fun _=>by kernel_rfl) (fun _=>by kernel_rfl) (fun _=>by kernel_rfl) (fun _=>by kernel_rfl) (fun x7 _ f z3 g h=>?_) (fun z3 h=>?_)
  .refine Lj Z Mz ?_;refine U0 Z Mz [(0,.n),(1,.l [6000]),(2,.l [6000]),(3,.l [4000]),(6,.l [0]),(7,.l [0]),(9,.l [6000]),(10,.a [6000])] ?_;obtain⟨c15,h⟩:=I5 h;refine N2 c15 ?_;exact g _ [(0,0),(905,905),(4000,4000),(5000,5000),(6000,6000)] _ (Hw z3 (0+x4.toNat*1) (G7 .or .u64 (z3 (0+x4.toNat*1)) (p_x (0+x7.toNat*1)))) Mz h (hle:=klR [(0,.fn 33 33 (fun i=>[(fun i=>if i=(0+x4.toNat*1)then (pI .u64 (G7 .or .u64 (z3 (0+x4.toNat*1)) (p_x (0+x7.toNat*1))))else (fun i=>pI .u64 (z3 i)) i) i]) (fun i=>[pI .u64 (Hw z3 (0+x4.toNat*1) (G7 .or .u64 (z3 (0+x4.toNat*1)) (p_x (0+x7.toNat*1))) i)]))] (al1 ⟨rfl,Ag4 (c:=pI .u64) (v:=z3) (x:=G7 .or .u64 (z3 (0+x4.toNat*1)) (p_x (0+x7.toNat*1))) (fun _ _=>rfl) rfl⟩ al0))
  exact d _ [(0,0),(4000,4000),(5000,5000),(6000,6000)] _ z3 (wrap .i64 (x4+1)) Mz h
 obtain rfl:=B9 h;exact A6 Z (And.intro rfl (F9 _ _):(0:Nat)=0/\(CR 33 (fun i=>pI .u64 (x3 i))).length=33) ⟨[(4,.reg 5000 0)],[(5000,.arr 33 (fun i=>pI .u64 (x3 i))),(0,.arr 33 (fun i=>pI .u64 (p_x i)))]⟩ [0] (ids:=[(0,0),(5000,5000)]) ⟨rfl,rfl,rfl⟩ (hle:=klR [(0,.fn 33 33 (fun i=>[(fun i=>(cA 33 (pI .u64) x3).getD i default) i]) (fun i=>[pI .u64 (x3 i)]))] (al1 ⟨rfl,E3 33 (fun i=>pI .u64 (x3 i))⟩ al0))
def F8 (N:Nat)(p_x:Nat->Int)(b:Int)(c:Int):Option (Nat->Int):= (P8 N c).bind fun y1=>Ak9 N (fun a (x1:Int) (x2:Nat->Int) (x3:Nat->Int)=>if (decide (0<x1)) then if ((G7 .and .i64 x1 1)==1) then (D5 N x3 x2).bind fun y8=>(I6 N x2).bind fun y9=>a (shI .shr .i64 x1 1) y9 y8 else (I6 N x2).bind fun d=>a (shI .shr .i64 x1 1) d x3 else some x3) b p_x y1
theorem Z1 {p_x:Nat->Int}{b:Int}{c:Int}{y:Nat->Int}(h:F8 N p_x b c=some y) :FunO S CC [.p (.agg (cA 33 (pI .u64) p_x)),pN b,pN c] [] (.p (.agg (cA 33 (pI .u64) y))) ([]) []:=by
 unfold F8 at h;refine A3 Z func180 ?_;refine kC Z h (DH Z Y) (fun y1 h=>?_);refine Wz Z (And.intro rfl (F9 _ _):(0:Nat)=0/\(CR 33 (fun i=>pI .u64 (y1 i))).length=33) h (fun x1 x2 x3=>⟨[(7,.reg 8000 0),(6,.reg 7000 0),(3,.reg 4000 0),(1,pN x1)],[(8000,.arr 33 (fun i=>pI .u64 (x3 i))),(7000,.arr 33 (fun i=>pI .u64 ((fun _=>0) i))),(4000,.arr 33 (fun i=>pI .u64 (x2 i)))]⟩) (ids:=[(4000,4000),(7000,7000),(8000,8000)]) (fun _ _ _ _ _ f x1 x2 x3 d h=>?_) (hle:=klR [(1,.fn 33 33 (fun i=>[(fun i=>(cA 33 (pI .u64) y1).getD i default) i]) (fun i=>[pI .u64 (y1 i)])),(2,.fn 33 33 (fun i=>[(fun i=>(List.replicate 33 (pI .u64 0)).getD i default) i]) (fun i=>[pI .u64 ((fun _=>0) i)])),(3,.fn 33 33 (fun i=>[(fun i=>(cA 33 (pI .u64) p_x).getD i default) i]) (fun i=>[pI .u64 (p_x i)]))] (al1 ⟨rfl,E3 33 (fun i=>pI .u64 (y1 i))⟩ (al1 ⟨rfl,Ci (z:=pI .u64 0) rfl⟩ (al1 ⟨rfl,E3 33 (fun i=>pI .u64 (p_x i))⟩ al0))));apply kI Z h<;>intro h
 .apply kI Z h<;>intro h
  .obtain⟨y8,e8,h⟩:=D1 h;refine F0 Z [8000,4000] Mz (S4 Z Y e8) ?_;obtain⟨y9,e9,h⟩:=D1 h;refine F0 Z [4000] (And.intro rfl (F9 _ _):(0:Nat)=0/\(CR 33 (fun i=>pI .u64 (y8 i))).length=33) (CD Z Y e9) ?_;exact d _ [(4000,4000),(7000,7000),(8000,8000)] _ (shI .shr .i64 x1 1) y9 y8 (And.intro (And.intro rfl (F9 _ _):(0:Nat)=0/\(CR 33 (fun i=>pI .u64 (y9 i))).length=33) (by decide:(0:Int)<=1)) h (hle:=klR [(1,.fn 33 33 (fun i=>[(fun i=>(cA 33 (pI .u64) y8).getD i default) i]) (fun i=>[pI .u64 (y8 i)])),(3,.fn 33 33 (fun i=>[(fun i=>(cA 33 (pI .u64) y9).getD i default) i]) (fun i=>[pI .u64 (y9 i)]))] (al1 ⟨rfl,E3 33 (fun i=>pI .u64 (y8 i))⟩ (al1 ⟨rfl,E3 33 (fun i=>pI .u64 (y9 i))⟩ al0)))
  obtain⟨a,e10,h⟩:=D1 h;refine F0 Z [4000] Mz (CD Z Y e10) ?_;exact d _ [(4000,4000),(7000,7000),(8000,8000)] _ (shI .shr .i64 x1 1) a x3 (And.intro (And.intro rfl (F9 _ _):(0:Nat)=0/\(CR 33 (fun i=>pI .u64 (a i))).length=33) (by decide:(0:Int)<=1)) h (hle:=klR [(3,.fn 33 33 (fun i=>[(fun i=>(cA 33 (pI .u64) a).getD i default) i]) (fun i=>[pI .u64 (a i)]))] (al1 ⟨rfl,E3 33 (fun i=>pI .u64 (a i))⟩ al0))
 obtain rfl:=B9 h;exact A6 Z (And.intro rfl (F9 _ _):(0:Nat)=0/\(CR 33 (fun i=>pI .u64 (x3 i))).length=33) ⟨[(6,.reg 7000 0)],[(7000,.arr 33 (fun i=>pI .u64 (x3 i)))]⟩ [] (ids:=[(7000,7000)]) ⟨rfl,rfl,rfl⟩ (hle:=klR [(0,.fn 33 33 (fun i=>[(fun i=>(cA 33 (pI .u64) x3).getD i default) i]) (fun i=>[pI .u64 (x3 i)]))] (al1 ⟨rfl,E3 33 (fun i=>pI .u64 (x3 i))⟩ al0))
end Go.AM
namespace Go.AM
open Go.Proofs.Tryz
variable {N:Nat}
open IntKind (wrap)
open Go.Proofs
set_option maxRecDepth 10000
set_option maxHeartbeats 2000000
variable {S:W8}(Z:G8 S Tryz.prog) (Y:Oh S)
include Z Y
def Z2 (N:Nat)(p_x:ZY)(b:Sl Tb):Option (Nat->Int):= W9 N (fun a (x1:Nat->Int) (x2:Int)=>if (decide (x2<(b.n:Int))) then if ((0:Int)<=x2/\x2<(b.n:Int))then if ((((G7 .or .u32 (G7 .andNot .u32 p_x.is.Plus (b.g x2.toNat).Plus) (G7 .andNot .u32 p_x.is.Minus (b.g x2.toNat).Minus))==0)==p_x.not) != true) then if (((0:Int)<=(wrap .i64 (x2+1))/\((0:Int)<=x2/\x2<33))/\(0+x2.toNat*1)<33)then a (Hw x1 (0+x2.toNat*1) (shI .shl .u64 1 (wrap .i64 (x2+1)))) (wrap .i64 (x2+1)) else none else a x1 (wrap .i64 (x2+1)) else none else some x1) (fun _=>0) 0
theorem MW {p_x:ZY}{a:Sl Tb}{y:Nat->Int}(h:Z2 N p_x a=some y) :FunO S DC [.p (.agg (WJ p_x)),.p (vSl 2 A0 a)] [] (.p (.agg (cA 33 (pI .u64) y))) ([]) []:=by
 unfold Z2 at h;refine A3 Z func181 ?_;refine Q5 Z Mz h (fun x1 x2=>⟨[(9,pN x2),(8,pN (a.n:Int)),(7,.p (vSl 2 A0 a)),(4,.reg 5000 0),(2,.reg 3000 0)],[(5000,.arr 33 (fun i=>pI .u64 (x1 i))),(3000,.cells ((WJ p_x).map .p))]⟩) (ids:=[(3000,3000),(5000,5000)]) (fun _ _ _ _ _ f x1 x2 d h=>?_) (hle:=klR [(3,.fn 33 33 (fun i=>[(fun i=>(List.replicate 33 (pI .u64 0)).getD i default) i]) (fun i=>[pI .u64 ((fun _=>0) i)]))] (al1 ⟨rfl,Ci (z:=pI .u64 0) rfl⟩ al0));apply kI Z h<;>intro h
 .obtain⟨c8,h⟩:=I5 h;refine E7 Z (And.intro c8 Ob) (b:=(((G7 .or .u32 (G7 .andNot .u32 p_x.is.Plus (a.g x2.toNat).Plus) (G7 .andNot .u32 p_x.is.Minus (a.g x2.toNat).Minus))==0)==p_x.not) != true) (fun c9=>?_) (fun c9=>?_)
  .replace h:=itT c9 h;obtain⟨c10,h⟩:=I5 h;exact d _ [(3000,3000),(5000,5000)] _ (Hw x1 (0+x2.toNat*1) (shI .shl .u64 1 (wrap .i64 (x2+1)))) (wrap .i64 (x2+1)) c10 h (hle:=klR [(3,.fn 33 33 (fun i=>[(fun i=>if i=(0+x2.toNat*1)then (pI .u64 (shI .shl .u64 1 (wrap .i64 (x2+1))))else (fun i=>pI .u64 (x1 i)) i) i]) (fun i=>[pI .u64 (Hw x1 (0+x2.toNat*1) (shI .shl .u64 1 (wrap .i64 (x2+1))) i)]))] (al1 ⟨rfl,Ag4 (c:=pI .u64) (v:=x1) (x:=shI .shl .u64 1 (wrap .i64 (x2+1))) (fun _ _=>rfl) rfl⟩ al0))
  replace h:=itF c9 h;exact d _ [(3000,3000),(5000,5000)] _ x1 (wrap .i64 (x2+1)) Mz h
 obtain rfl:=B9 h;exact A6 Z (And.intro rfl (F9 _ _):(0:Nat)=0/\(CR 33 (fun i=>pI .u64 (x1 i))).length=33) ⟨[(4,.reg 5000 0)],[(5000,.arr 33 (fun i=>pI .u64 (x1 i)))]⟩ [] (ids:=[(5000,5000)]) ⟨rfl,rfl,rfl⟩ (hle:=klR [(0,.fn 33 33 (fun i=>[(fun i=>(cA 33 (pI .u64) x1).getD i default) i]) (fun i=>[pI .u64 (x1 i)]))] (al1 ⟨rfl,E3 33 (fun i=>pI .u64 (x1 i))⟩ al0))
def Bd (N:Nat)(p_x:AC3)(a:Sl Tb):Option (Nat->Int):= if p_x.end_ then if (((0:Int)<=(a.n:Int)/\((0:Int)<=(a.n:Int)/\(a.n:Int)<33))/\(0+(a.n:Int).toNat*1)<33)then some (Hw (fun _=>0) (0+(a.n:Int).toNat*1) (shI .shl .u64 1 (a.n:Int))) else none else if (((0:Int)<=0/\(0:Int)<33)/\(0+0*1)<33)then some (Hw (fun _=>0) (0+0*1) (shI .shl .u64 1 0)) else none
theorem Ol {p_x:AC3}{a:Sl Tb}{y:Nat->Int}(h:Bd N p_x a=some y) :FunO S Eu [.p (.agg (AC4 p_x)),.p (vSl 2 A0 a)] [] (.p (.agg (cA 33 (pI .u64) y))) ([]) []:=by
 unfold Bd at h;refine A3 Z func182 ?_;apply kI Z h<;>intro h
 .obtain⟨c2,h⟩:=I5 h;obtain rfl:=B9 h;exact A6 Z (And.intro (And.intro (And.intro c2.1.1 c2.1.2) c2.2) (And.intro rfl (F9 _ _):(0:Nat)=0/\(CR 33 (fun i=>if i=(0+(a.n:Int).toNat*1)then (pI .u64 (shI .shl .u64 1 (a.n:Int)))else (fun i=>(List.replicate 33 (pI .u64 0)).getD i default) i)).length=33)) ⟨[(4,.reg 5000 0)],[(5000,.arr 33 (fun i=>pI .u64 (Hw (fun _=>0) (0+(a.n:Int).toNat*1) (shI .shl .u64 1 (a.n:Int)) i)))]⟩ [] (ids:=[(5000,5000)]) ⟨rfl,rfl,rfl⟩ (hle:=klR [(0,.fn 33 33 (fun i=>[(fun i=>(CR 33 (fun i=>if i=(0+(a.n:Int).toNat*1)then (pI .u64 (shI .shl .u64 1 (a.n:Int)))else (fun i=>(List.replicate 33 (pI .u64 0)).getD i default) i)).getD i default) i]) (fun i=>[pI .u64 (Hw (fun _=>0) (0+(a.n:Int).toNat*1) (shI .shl .u64 1 (a.n:Int)) i)]))] (al1 ⟨rfl,fun i b=>(E3 33 (fun i=>if i=(0+(a.n:Int).toNat*1)then (pI .u64 (shI .shl .u64 1 (a.n:Int)))else (fun i=>(List.replicate 33 (pI .u64 0)).getD i default) i) i b).trans (Ag4 (c:=pI .u64) (v:=fun _=>0) (x:=shI .shl .u64 1 (a.n:Int)) (Ci (z:=pI .u64 0) rfl) rfl i b)⟩ al0))
 obtain⟨c3,h⟩:=I5 h;obtain rfl:=B9 h;exact A6 Z (And.intro (And.intro (And.intro (by decide:(0:Int)<=0) c3.1) c3.2) (And.intro rfl (F9 _ _):(0:Nat)=0/\(CR 33 (fun i=>if i=(0+0*1)then (pI .u64 (shI .shl .u64 1 0))else (fun i=>(List.replicate 33 (pI .u64 0)).getD i default) i)).length=33)) ⟨[(4,.reg 5000 0)],[(5000,.arr 33 (fun i=>pI .u64 (Hw (fun _=>0) (0+0*1) (shI .shl .u64 1 0) i)))]⟩ [] (ids:=[(5000,5000)]) ⟨rfl,rfl,rfl⟩ (hle:=klR [(0,.fn 33 33 (fun i=>[(fun i=>(CR 33 (fun i=>if i=(0+0*1)then (pI .u64 (shI .shl .u64 1 0))else (fun i=>(List.replicate 33 (pI .u64 0)).getD i default) i)).getD i default) i]) (fun i=>[pI .u64 (Hw (fun _=>0) (0+0*1) (shI .shl .u64 1 0) i)]))] (al1 ⟨rfl,fun i b=>(E3 33 (fun i=>if i=(0+0*1)then (pI .u64 (shI .shl .u64 1 0))else (fun i=>(List.replicate 33 (pI .u64 0)).getD i default) i) i b).trans (Ag4 (c:=pI .u64) (v:=fun _=>0) (x:=shI .shl .u64 1 0) (Ci (z:=pI .u64 0) rfl) rfl i b)⟩ al0))
def BK (rec:Part->(Sl Tb)->Option (Nat->Int))(N:Nat)(p_x:Pseq)(b:Sl Tb):Option (Nat->Int):= (P8 N (b.n:Int)).bind fun y1=>W9 N (fun a (x1:Nat->Int) (x2:Int)=>if (decide (x2<(p_x.l.n:Int))) then if ((0:Int)<=x2/\x2<(p_x.l.n:Int))then (rec (p_x.l.g x2.toNat) b).bind fun y6=>(D5 N x1 y6).bind fun y7=>a y7 (wrap .i64 (x2+1)) else none else some x1) y1 0
theorem Rg {rec:Part->(Sl Tb)->Option ((Nat->Int))}(b:∀{x:Part}{b0:(Sl Tb)}{y:(Nat->Int)},rec x b0=some y->AL3 S Tryz.prog (Gr x) "ablaut/pats.in" [(.p (vSl 2 A0 b0))] (.p (.agg (cA 33 (pI .u64) y)))){p_x:Pseq}{a:(Sl Tb)}{y:(Nat->Int)}(h:BK rec N p_x a=some y) :FunO S Fy [(.p (.agg (AM8 p_x))),(.p (vSl 2 A0 a))] [] (.p (.agg (cA 33 (pI .u64) y))) ([]) []:=by
 unfold BK at h;refine A3 Z func188 ?_;refine kC Z h (DH Z Y) (fun y1 h=>?_);refine Q5 Z (And.intro rfl (F9 _ _):(0:Nat)=0/\(CR 33 (fun i=>pI .u64 (y1 i))).length=33) h (fun x1 x2=>⟨[(15,(pN x2)),(14,(pN (p_x.l.n:Int))),(13,(.p (vSl 1 EL p_x.l))),(5,(.reg 6000 0)),(4,(.reg 5000 0)),(1,(.p (vSl 2 A0 a)))],[(6000,(.arr 33 (fun i=>pI .u64 (x1 i)))),(5000,(.arr 33 (fun i=>pI .u64 ((fun _=>0) i))))]⟩) (ids:=[(5000,5000),(6000,6000)]) (fun _ _ _ _ _ c x1 x2 d h=>?_) (hle:=(klR [(4,.fn 33 33 (fun i=>[(fun i=>(cA 33 (pI .u64) y1).getD i default) i]) (fun i=>[pI .u64 (y1 i)])),(5,.fn 33 33 (fun i=>[(fun i=>(List.replicate 33 (pI .u64 0)).getD i default) i]) (fun i=>[pI .u64 ((fun _=>0) i)]))] (al1 ⟨rfl,(E3 33 (fun i=>pI .u64 (y1 i)))⟩ (al1 ⟨rfl,(Ci (z:=pI .u64 0) rfl)⟩ al0))));apply kI Z h<;>intro h
 .obtain⟨c6,h⟩:=I5 h;obtain⟨y6,e6,h⟩:=D1 h;refine LK Z c6 (b e6) ?_;refine II Z (And.intro rfl (F9 _ _):(0:Nat)=0/\(CR 33 (fun i=>pI .u64 (y6 i))).length=33) ⟨[(15,(pN x2)),(14,(pN (p_x.l.n:Int))),(13,(.p (vSl 1 EL p_x.l))),(8,(.reg 9000 0)),(5,(.reg 6000 0)),(4,(.reg 5000 0)),(1,(.p (vSl 2 A0 a)))],[(9000,(.arr 33 (fun i=>pI .u64 (y6 i)))),(6000,(.arr 33 (fun i=>pI .u64 (x1 i)))),(5000,(.arr 33 (fun i=>pI .u64 ((fun _=>0) i))))]⟩ (ids:=[(5000,5000),(6000,6000),(9000,9000)]) ?_ (hle:=(klR [(4,.fn 33 33 (fun i=>[(fun i=>(cA 33 (pI .u64) y6).getD i default) i]) (fun i=>[pI .u64 (y6 i)]))] (al1 ⟨rfl,(E3 33 (fun i=>pI .u64 (y6 i)))⟩ al0)));obtain⟨y7,e7,h⟩:=D1 h;refine F0 Z [6000,9000] Mz (S4 Z Y e7) ?_;exact d _ [(5000,5000),(6000,6000)] _ y7 (wrap .i64 (x2+1)) (And.intro rfl (F9 _ _):(0:Nat)=0/\(CR 33 (fun i=>pI .u64 (y7 i))).length=33) h (hle:=klR [(4,.fn 33 33 (fun i=>[(fun i=>(cA 33 (pI .u64) y7).getD i default) i]) (fun i=>[pI .u64 (y7 i)]))] (al1 ⟨rfl,(E3 33 (fun i=>pI .u64 (y7 i)))⟩ al0))
 obtain rfl:=B9 h;exact A6 Z (And.intro rfl (F9 _ _):(0:Nat)=0/\(CR 33 (fun i=>pI .u64 (x1 i))).length=33) ⟨[(4,(.reg 5000 0))],[(5000,(.arr 33 (fun i=>pI .u64 (x1 i))))]⟩ [] (ids:=[(5000,5000)]) ⟨rfl,rfl,rfl⟩ (hle:=(klR [(0,.fn 33 33 (fun i=>[(fun i=>(cA 33 (pI .u64) x1).getD i default) i]) (fun i=>[pI .u64 (x1 i)]))] (al1 ⟨rfl,(E3 33 (fun i=>pI .u64 (x1 i)))⟩ al0)))
def BL (rec:Part->(Sl Tb)->Option (Nat->Int))(N:Nat)(p_x:Palt)(b:Sl Tb):Option (Nat->Int):= W9 N (fun a (x1:Nat->Int) (x2:Int)=>if (decide (x2<(p_x.l.n:Int))) then if ((0:Int)<=x2/\x2<(p_x.l.n:Int))then (rec (p_x.l.g x2.toNat) b).bind fun y5=>(N5 N x1 y5).bind fun y6=>a y6 (wrap .i64 (x2+1)) else none else some x1) (fun _=>0) 0
theorem Rh {rec:Part->(Sl Tb)->Option ((Nat->Int))}(b:∀{x:Part}{b0:(Sl Tb)}{y:(Nat->Int)},rec x b0=some y->AL3 S Tryz.prog (Gr x) "ablaut/pats.in" [(.p (vSl 2 A0 b0))] (.p (.agg (cA 33 (pI .u64) y)))){p_x:Palt}{a:(Sl Tb)}{y:(Nat->Int)}(h:BL rec N p_x a=some y) :FunO S Fw [(.p (.agg (AM5 p_x))),(.p (vSl 2 A0 a))] [] (.p (.agg (cA 33 (pI .u64) y))) ([]) []:=by
 unfold BL at h;refine A3 Z func183 ?_;refine Q5 Z Mz h (fun x1 x2=>⟨[(11,(pN x2)),(10,(pN (p_x.l.n:Int))),(9,(.p (vSl 1 EL p_x.l))),(4,(.reg 5000 0)),(1,(.p (vSl 2 A0 a)))],[(5000,(.arr 33 (fun i=>pI .u64 (x1 i))))]⟩) (ids:=[(5000,5000)]) (fun _ _ _ _ _ c x1 x2 d h=>?_) (hle:=(klR [(4,.fn 33 33 (fun i=>[(fun i=>(List.replicate 33 (pI .u64 0)).getD i default) i]) (fun i=>[pI .u64 ((fun _=>0) i)]))] (al1 ⟨rfl,(Ci (z:=pI .u64 0) rfl)⟩ al0)));apply kI Z h<;>intro h
 .obtain⟨c6,h⟩:=I5 h;obtain⟨y5,e5,h⟩:=D1 h;refine LK Z c6 (b e5) ?_;refine II Z (And.intro rfl (F9 _ _):(0:Nat)=0/\(CR 33 (fun i=>pI .u64 (y5 i))).length=33) ⟨[(11,(pN x2)),(10,(pN (p_x.l.n:Int))),(9,(.p (vSl 1 EL p_x.l))),(7,(.reg 8000 0)),(4,(.reg 5000 0)),(1,(.p (vSl 2 A0 a)))],[(8000,(.arr 33 (fun i=>pI .u64 (y5 i)))),(5000,(.arr 33 (fun i=>pI .u64 (x1 i))))]⟩ (ids:=[(5000,5000),(8000,8000)]) ?_ (hle:=(klR [(4,.fn 33 33 (fun i=>[(fun i=>(cA 33 (pI .u64) y5).getD i default) i]) (fun i=>[pI .u64 (y5 i)]))] (al1 ⟨rfl,(E3 33 (fun i=>pI .u64 (y5 i)))⟩ al0)));obtain⟨y6,e6,h⟩:=D1 h;refine F0 Z [5000,8000] Mz (Ej Z Y e6) ?_;exact d _ [(5000,5000)] _ y6 (wrap .i64 (x2+1)) Mz h
 obtain rfl:=B9 h;exact A6 Z (And.intro rfl (F9 _ _):(0:Nat)=0/\(CR 33 (fun i=>pI .u64 (x1 i))).length=33) ⟨[(4,(.reg 5000 0))],[(5000,(.arr 33 (fun i=>pI .u64 (x1 i))))]⟩ [] (ids:=[(5000,5000)]) ⟨rfl,rfl,rfl⟩ (hle:=(klR [(0,.fn 33 33 (fun i=>[(fun i=>(cA 33 (pI .u64) x1).getD i default) i]) (fun i=>[pI .u64 (x1 i)]))] (al1 ⟨rfl,(E3 33 (fun i=>pI .u64 (x1 i)))⟩ al0)))
def BM (rec:Part->(Sl Tb)->Option (Nat->Int))(N:Nat)(p_x:AM6)(a:Sl Tb):Option (Nat->Int):= (rec p_x.of a).bind fun y1=>(F8 N y1 p_x.min (a.n:Int)).bind fun y2=>(P8 N (a.n:Int)).bind fun y3=>(N5 N y1 y3).bind fun y4=>if (decide (p_x.max<0)) then (F8 N y4 (a.n:Int) (a.n:Int)).bind fun y5=>(D5 N y2 y5).bind fun y6=>some y6 else (F8 N y4 (wrap .i64 (p_x.max-p_x.min)) (a.n:Int)).bind fun y7=>(D5 N y2 y7).bind fun y8=>some y8
theorem Ri {rec:Part->(Sl Tb)->Option ((Nat->Int))}(b:∀{x:Part}{b0:(Sl Tb)}{y:(Nat->Int)},rec x b0=some y->AL3 S Tryz.prog (Gr x) "ablaut/pats.in" [(.p (vSl 2 A0 b0))] (.p (.agg (cA 33 (pI .u64) y)))){p_x:AM6}{a:(Sl Tb)}{y:(Nat->Int)}(h:BM rec N p_x a=some y) :FunO S Fx [(.p (.agg (AM7 p_x))),(.p (vSl 2 A0 a))] [] (.p (.agg (cA 33 (pI .u64) y))) ([]) []:=by
 unfold BM at h;refine A3 Z func185 ?_;obtain⟨y1,e1,h⟩:=D1 h;refine LK Z Mz (b e1) ?_;refine II Z (And.intro rfl (F9 _ _):(0:Nat)=0/\(CR 33 (fun i=>pI .u64 (y1 i))).length=33) ⟨[(18,(pN (a.n:Int))),(16,(pN p_x.min)),(14,(.p (.agg (cA 33 (pI .u64) y1)))),(5,(.reg 6000 0)),(4,(.reg 5000 0)),(2,(.reg 3000 0)),(1,(.p (vSl 2 A0 a)))],[(6000,(.arr 33 (fun i=>pI .u64 (y1 i)))),(5000,(.arr 33 (fun i=>pI .u64 ((fun _=>0) i)))),(3000,(.cells [(.p (Gr p_x.of)),(pN p_x.min),(pN p_x.max)]))]⟩ (ids:=[(3000,3000),(5000,5000),(6000,6000)]) ?_ (hle:=(klR [(2,.eq (.agg (CR 33 (fun i=>(cA 33 (pI .u64) y1).getD i default))) (.agg (cA 33 (pI .u64) y1))),(4,.fn 33 33 (fun i=>[(fun i=>(cA 33 (pI .u64) y1).getD i default) i]) (fun i=>[pI .u64 (y1 i)])),(5,.fn 33 33 (fun i=>[(fun i=>(List.replicate 33 (pI .u64 0)).getD i default) i]) (fun i=>[pI .u64 ((fun _=>0) i)]))] (al1 (congrArg PV.agg (XY (E3 33 (fun i=>pI .u64 (y1 i))))) (al1 ⟨rfl,(E3 33 (fun i=>pI .u64 (y1 i)))⟩ (al1 ⟨rfl,(Ci (z:=pI .u64 0) rfl)⟩ al0)))));refine kC Z h (Z1 Z Y) (fun y2 h=>?_);obtain⟨y3,e3,h⟩:=D1 h;refine F0 Z [] (And.intro (And.intro rfl (F9 _ _):(0:Nat)=0/\(CR 33 (fun i=>pI .u64 (y2 i))).length=33) (And.intro rfl (F9 _ _):(0:Nat)=0/\(CR 33 (fun i=>pI .u64 (y1 i))).length=33)) (DH Z Y e3) ?_;refine II Z (And.intro rfl (F9 _ _):(0:Nat)=0/\(CR 33 (fun i=>pI .u64 (y3 i))).length=33) ⟨[(8,(.reg 9000 0)),(7,(.reg 8000 0)),(6,(.reg 7000 0)),(4,(.reg 5000 0)),(2,(.reg 3000 0)),(1,(.p (vSl 2 A0 a)))],[(9000,(.arr 33 (fun i=>pI .u64 (y3 i)))),(8000,(.arr 33 (fun i=>pI .u64 (y1 i)))),(7000,(.arr 33 (fun i=>pI .u64 (y2 i)))),(5000,(.arr 33 (fun i=>pI .u64 ((fun _=>0) i)))),(3000,(.cells [(.p (Gr p_x.of)),(pN p_x.min),(pN p_x.max)]))]⟩ (ids:=[(3000,3000),(5000,5000),(7000,7000),(8000,8000),(9000,9000)]) ?_ (hle:=(klR [(1,.fn 33 33 (fun i=>[(fun i=>(cA 33 (pI .u64) y3).getD i default) i]) (fun i=>[pI .u64 (y3 i)])),(2,.fn 33 33 (fun i=>[(fun i=>(cA 33 (pI .u64) y1).getD i default) i]) (fun i=>[pI .u64 (y1 i)])),(3,.fn 33 33 (fun i=>[(fun i=>(cA 33 (pI .u64) y2).getD i default) i]) (fun i=>[pI .u64 (y2 i)]))] (al1 ⟨rfl,(E3 33 (fun i=>pI .u64 (y3 i)))⟩ (al1 ⟨rfl,(E3 33 (fun i=>pI .u64 (y1 i)))⟩ (al1 ⟨rfl,(E3 33 (fun i=>pI .u64 (y2 i)))⟩ al0)))));obtain⟨y4,e4,h⟩:=D1 h;refine F0 Z [8000,9000] Mz (Ej Z Y e4) ?_;apply kI Z h<;>intro h
 .refine kC Z h (Z1 Z Y) (fun y5 h=>?_);refine II Z (And.intro rfl (F9 _ _):(0:Nat)=0/\(CR 33 (fun i=>pI .u64 (y5 i))).length=33) ⟨[(7,(.reg 8000 0)),(6,(.reg 7000 0)),(4,(.reg 5000 0))],[(8000,(.arr 33 (fun i=>pI .u64 (y5 i)))),(7000,(.arr 33 (fun i=>pI .u64 (y2 i)))),(5000,(.arr 33 (fun i=>pI .u64 ((fun _=>0) i))))]⟩ (ids:=[(5000,5000),(7000,7000),(8000,8000)]) ?_ (hle:=(klR [(0,.fn 33 33 (fun i=>[(fun i=>(cA 33 (pI .u64) y5).getD i default) i]) (fun i=>[pI .u64 (y5 i)]))] (al1 ⟨rfl,(E3 33 (fun i=>pI .u64 (y5 i)))⟩ al0)));obtain⟨y6,e6,h⟩:=D1 h;refine F0 Z [7000,8000] Mz (S4 Z Y e6) ?_;obtain rfl:=B9 h;exact A6 Z (And.intro rfl (F9 _ _):(0:Nat)=0/\(CR 33 (fun i=>pI .u64 (y6 i))).length=33) ⟨[(4,(.reg 5000 0))],[(5000,(.arr 33 (fun i=>pI .u64 (y6 i))))]⟩ [] (ids:=[(5000,5000)]) ⟨rfl,rfl,rfl⟩ (hle:=(klR [(0,.fn 33 33 (fun i=>[(fun i=>(cA 33 (pI .u64) y6).getD i default) i]) (fun i=>[pI .u64 (y6 i)]))] (al1 ⟨rfl,(E3 33 (fun i=>pI .u64 (y6 i)))⟩ al0)))
 refine kC Z h (Z1 Z Y) (fun y7 h=>?_);refine II Z (And.intro rfl (F9 _ _):(0:Nat)=0/\(CR 33 (fun i=>pI .u64 (y7 i))).length=33) ⟨[(7,(.reg 8000 0)),(6,(.reg 7000 0)),(4,(.reg 5000 0))],[(8000,(.arr 33 (fun i=>pI .u64 (y7 i)))),(7000,(.arr 33 (fun i=>pI .u64 (y2 i)))),(5000,(.arr 33 (fun i=>pI .u64 ((fun _=>0) i))))]⟩ (ids:=[(5000,5000),(7000,7000),(8000,8000)]) ?_ (hle:=(klR [(0,.fn 33 33 (fun i=>[(fun i=>(cA 33 (pI .u64) y7).getD i default) i]) (fun i=>[pI .u64 (y7 i)]))] (al1 ⟨rfl,(E3 33 (fun i=>pI .u64 (y7 i)))⟩ al0)));obtain⟨y8,e8,h⟩:=D1 h;refine F0 Z [7000,8000] Mz (S4 Z Y e8) ?_;obtain rfl:=B9 h;exact A6 Z (And.intro rfl (F9 _ _):(0:Nat)=0/\(CR 33 (fun i=>pI .u64 (y8 i))).length=33) ⟨[(4,(.reg 5000 0))],[(5000,(.arr 33 (fun i=>pI .u64 (y8 i))))]⟩ [] (ids:=[(5000,5000)]) ⟨rfl,rfl,rfl⟩ (hle:=(klR [(0,.fn 33 33 (fun i=>[(fun i=>(cA 33 (pI .u64) y8).getD i default) i]) (fun i=>[pI .u64 (y8 i)]))] (al1 ⟨rfl,(E3 33 (fun i=>pI .u64 (y8 i)))⟩ al0)))
def U8 (rec:Pat->Option Part)(N:Nat)(a:Pat):Option Part:= W9 N (fun b (x1:Sl Part) (x2:Int)=>if (decide (x2<(a.L.n:Int))) then if ((0:Int)<=x2/\x2<(a.L.n:Int))then (rec (a.L.g x2.toNat)).bind fun y3=>if ((x1.n+(Sl.of [y3]:Sl Part).n)*16<=140737488355328/\x1.n+(Sl.of [y3]:Sl Part).n<=140737488355328)then b (x1.push y3) (wrap .i64 (x2+1)) else none else none else if (a.Kind==1) then some (Part.sound a.Is a.Not) else if (a.Kind==2) then some (Part.edge false) else if (a.Kind==6) then some (Part.edge true) else if (a.Kind==4) then some (Part.alt x1.n x1.g) else if (a.Kind==5) then if (((0:Int)<=0/\0<(x1.n:Int))/\0<x1.n)then some (Part.rep (x1.g 0) a.Min a.Max) else none else some (Part.seq x1.n x1.g)) (Sl.nil:Sl Part) 0
def Be:Nat->Pat->Option Part
 |0=>fun _=>none
 |N+1=>U8 (Be N) N
theorem MX {rec:Pat->Option Part}(b:∀{a:Pat}{y:Part},rec a=some y->FunO S Cx [.p (.agg (E1 a))] [] (.p (Gr y)) ([]) []){a:Pat}{y:Part}(h:U8 rec N a=some y) :FunO S Cx [.p (.agg (E1 a))] [] (.p (Gr y)) ([]) []:=by
 unfold U8 at h;refine A3 Z func156 ?_;refine W7 Z Mz 2 2000 (E1 a) ?_;refine Bo Z Mz 8 ⟨[(7,.p (vSl 7 E1 a.L)),(3,.p AH),(1,.p (.ptr (E1 a)))],[]⟩ (ids:=[]) ?_ (hle:=klR [(0,.fn a.L.n a.L.n (Fs a) (fun i=>E1 (a.L.g i)))] (al1 ⟨rfl,Di a⟩ al0));refine Q5 Z Mz h (fun x1 x2=>⟨[(9,pN x2),(8,pN (a.L.n:Int)),(7,.p (vSl 7 E1 a.L)),(3,.vec 4500),(1,.p (.ptr (E1 a)))],[(4500,.vec UY 1 x1.n (fun i=>EL (x1.g i)) false)]⟩) (ids:=[]) (fun _ _ _ _ _ d x1 x2 f h=>?_);apply kI Z h<;>intro h
 .obtain⟨c6,h⟩:=I5 h;refine W7 Z (And.intro c6 Od) 13 6000 (E1 (a.L.g x2.toNat)) ?_;obtain⟨y3,e3,h⟩:=D1 h;refine F0 Z [] Od (b e3) ?_;obtain⟨c7,h⟩:=I5 h;exact f _ [(4500,18000)] _ (x1.push y3) (wrap .i64 (x2+1)) (And.intro Og c7) h (hle:=klR [(4,.fn (x1.n+1) (x1.push y3).n (Cb x1.n (fun i=>EL (x1.g i)) (J5 [.v .nilIface] [(0,EL y3)])) (fun i=>EL ((x1.push y3).g i)))] (al1 ⟨rfl,Uf (c:=EL) (v:=x1) (x:=y3) (z:=[(.v .nilIface)]) same rfl rfl⟩ al0))
 apply kI Z h<;>intro h
 .obtain rfl:=B9 h;exact ZS Z (by decide:(2:Nat)<=6) [] ⟨rfl,rfl,rfl⟩
 apply kI Z h<;>intro h
 .cases h;exact kR Z
 apply kI Z h<;>intro h
 .cases h;exact kR Z
 apply kI Z h<;>intro h
 .refine Bo Z Mz 40 ⟨[(39,.p (vSl 1 EL x1))],[]⟩ (ids:=[]) ?_;cases h;exact kR Z
 apply kI Z h<;>intro h
 .refine J0 Z Mz [4,6] ?_;obtain⟨c13,h⟩:=I5 h;refine N2 c13 ?_;cases h;exact kR Z
 refine Bo Z Mz 54 ⟨[(53,.p (vSl 1 EL x1))],[]⟩ (ids:=[]) ?_;cases h;exact kR Z
theorem Om {a:Pat}{y:Part}(h:Be N a=some y) :FunO S Cx [.p (.agg (E1 a))] [] (.p (Gr y)) ([]) []:=by
 induction N generalizing a y with
 |zero=>cases (show (none:Option Part)=some y from h)
 |succ N ih=>exact MX Z Y (fun e=>ih e) h
end Go.AM
namespace Go.AM
open Go.Proofs
variable {S:W8}(Z:G8 S Tryz.prog) (Y:Oh S)
include Z Y
def Bf:Nat->Part->Sl Tb->Option (Nat->Int)
 |0=>fun _ _=>none
 |N+1=>fun p w=>match p with
  |.nil=>none
  |.sound x no=>Z2 N ⟨x,no⟩ w
  |.edge e=>Bd N ⟨e⟩ w
  |.seq n g=>BK (Bf N) N ⟨⟨n,g⟩⟩ w
  |.alt n g=>BL (Bf N) N ⟨⟨n,g⟩⟩ w
  |.rep o mn mx=>BM (Bf N) N ⟨o,mn,mx⟩ w
theorem Aa5 {N:Nat}{x:Part}{w:Sl Tb}{y:Nat->Int}(h:Bf N x w=some y):AL3 S Tryz.prog (Gr x) "ablaut/pats.in" [(.p (vSl 2 A0 w))] (.p (.agg (cA 33 (pI .u64) y))):=by
 induction N generalizing x w y with
 |zero=>cases h
 |succ N ih=>
  cases x with
  |nil=>cases h
  |sound s no=>exact⟨_,_,DC,rfl,by kernel_rfl,MW Z Y (p_x:=⟨s,no⟩) h⟩
  |edge e=>exact⟨_,_,Eu,rfl,by kernel_rfl,Ol Z Y (N:=N) (p_x:=⟨e⟩) h⟩
  |seq n g=>exact⟨_,_,Fy,rfl,by kernel_rfl,Rg Z Y (fun e=>ih e) (p_x:=⟨⟨n,g⟩⟩) h⟩
  |alt n g=>exact⟨_,_,Fw,rfl,by kernel_rfl,Rh Z Y (fun e=>ih e) (p_x:=⟨⟨n,g⟩⟩) h⟩
  |rep o mn mx=>exact⟨_,_,Fx,rfl,by kernel_rfl,Ri Z Y (fun e=>ih e) (p_x:=⟨o,mn,mx⟩) h⟩
end Go.AM
namespace Go.AM
open Go.Proofs.Tryz
variable {N:Nat}
open IntKind (wrap)
open Go.Proofs
set_option maxRecDepth 10000
set_option maxHeartbeats 2000000
variable {S:W8}(Z:G8 S Tryz.prog) (Y:Oh S)
include Z Y
def S8 (N:Nat)(a:Tb):Option Bool:= (P2 N a).bind fun y1=>some (!y1)
theorem MY {a:Tb}{y:Bool}(h:S8 N a=some y) :FunO S Gz [.p (.agg (A0 a))] [] (pB y) ([]) []:=by unfold S8 at h;refine A3 Z func155 ?_;refine kC Z h (Ei Z Y) (fun y1 h=>?_);cases h;exact kR Z
def D4 (N:Nat)(a:Sl Tb)(c:Tb->Option Bool):Option Int:= S3 N (fun b (x1:Int)=>if (decide (x1<(a.n:Int))) then if ((0:Int)<=x1/\x1<(a.n:Int))then (c (a.g x1.toNat)).bind fun y3=>if y3 then some x1 else b (wrap .i64 (x1+1)) else none else some (-1)) 0
theorem W4 {a:Sl Tb}{c:Tb->Option Bool}{kp_f:Nat}(d:∀{a0:Tb}{b:Bool},c a0=some b->FunO S kp_f [.p (.agg (A0 a0))] [] (pB b) [] []){y:Int}(h:D4 N a c=some y) :FunO S J7 [.p (vSl 2 A0 a),.clo kp_f [] []] [] (pN y) ([]) []:=by
 unfold D4 at h;refine A3 Z func71 ?_;refine AF Z Mz h (fun x1=>⟨[(8,pN x1),(7,pN (a.n:Int)),(1,.clo kp_f [] []),(0,.p (vSl 2 A0 a))],[]⟩) (ids:=[]) (fun _ _ _ _ _ f x1 g h=>?_);apply kI Z h<;>intro h
 .obtain⟨c8,h⟩:=I5 h;obtain⟨y3,e3,h⟩:=D1 h;refine F0 Z [] (And.intro c8 Ob) (d e3) ?_;apply kI Z h<;>intro h
  .cases h;exact kR Z
  exact g _ [] _ (wrap .i64 (x1+1)) Mz h
 cases h;exact kR Z
def B0 (N:Nat)(a:Sl Tb)(b:Tb->Option Bool):Option Bool:= (D4 N a b).bind fun y1=>some (decide (0<=y1))
theorem F7 {a:Sl Tb}{c:Tb->Option Bool}{kp_f:Nat}(d:∀{a0:Tb}{b:Bool},c a0=some b->FunO S kp_f [.p (.agg (A0 a0))] [] (pB b) [] []){y:Bool}(h:B0 N a c=some y) :FunO S I9 [.p (vSl 2 A0 a),.clo kp_f [] []] [] (pB y) ([]) []:=by unfold B0 at h;refine A3 Z func49 ?_;refine kC Z h (W4 Z Y (fun e=>d e)) (fun y1 h=>?_);cases h;exact kR Z
def C8 (N:Nat)(q0:Sl Pat):Option (List (Int×Pat)):= S3 N (fun a (x1:Int)=>if (decide (0<=x1)) then if ((0:Int)<=x1/\x1<(q0.n:Int))then Y4 (x1,q0.g x1.toNat) (a (wrap .i64 (x1-1))) else none else some []) (wrap .i64 ((q0.n:Int)-1))
theorem Au {q0:Sl Pat}{L:List (Int×Pat)}(h:C8 N q0=some L) :Dh S E8 [] [.reg 0 0] [.cells [.p (vSl 7 E1 q0)]] (L.map (fun (x:Int×Pat)=>[pI .i64 x.1,(fun x=>.agg (E1 x)) x.2])):=by
 unfold C8 at h;refine DY Z func133 ?_;refine Gn Z Mz h (fun x1 L1=>⟨[(3,pN x1),(1,.reg 0 0),(0,.yf 1)],[(1,.yld (L1.map (fun (x:Int×Pat)=>[pI .i64 x.1,(fun x=>.agg (E1 x)) x.2])) true),(0,.cells [.p (vSl 7 E1 q0)])]⟩) (ids:=[(0,0),(1,1)]) (fun _ _ _ _ _ d x1 L1 f h=>?_);apply kI Z h<;>intro h
 .obtain⟨c10,h⟩:=I5 h;obtain⟨L4,rfl,c⟩:=Li h;replace h:=c;refine Dy Z (And.intro c10 Od) (ys:=(fun (x:Int×Pat)=>[pI .i64 x.1,(fun x=>.agg (E1 x)) x.2]) (x1,q0.g x1.toNat)) (rest:=L4.map (fun (x:Int×Pat)=>[pI .i64 x.1,(fun x=>.agg (E1 x)) x.2])) ?_ ?_
  .refine E7 Z Mz (b:=false) (fun c11=>?_) (fun c11=>?_)
   .exact Bool.noConfusion ((rfl:false=false).symm.trans c11)
   exact f _ [(0,0),(1,1)] _ (wrap .i64 (x1-1)) L4 Mz h
  refine E7 Z Mz (b:=true) (fun c12=>?_) (fun c12=>?_)
  .exact A6 Z Mz (a:=.tup []) (objs:=[(.cells [.p (vSl 7 E1 q0)]),.yld [] false]) ⟨[],[(1,.yld [] false),(0,.cells [.p (vSl 7 E1 q0)])]⟩ [0,1] (ids:=[(0,0),(1,1)]) ⟨false,rfl,rfl,_,rfl⟩
  exact Bool.noConfusion (Og.symm.trans c12)
 obtain rfl:=B9 h;exact A6 Z Mz (a:=.tup []) (objs:=[(.cells [.p (vSl 7 E1 q0)]),.yld [] true]) ⟨[],[(1,.yld [] true),(0,.cells [.p (vSl 7 E1 q0)])]⟩ [0,1] (ids:=[(0,0),(1,1)]) ⟨true,rfl,rfl,_,rfl⟩
def I0 (N:Nat)(a:Sl Pat):Option (Sl Pat):= some a
theorem Bg {a:Sl Pat}{y:Sl Pat}(h:I0 N a=some y) :FunO S P0 [.p (vSl 7 E1 a)] [] (.clo E8 [] [.reg 0 0]) ([.cells [.p (vSl 7 E1 y)]]) []:=by unfold I0 at h;refine A3 Z func102 ?_;obtain rfl:=B9 h;exact A6 Z Mz ⟨[(2,.clo E8 [] [.reg 2000 0])],[(2000,.cells [.p (vSl 7 E1 a)])]⟩ [2000] (ids:=[(2000,2000)]) ⟨rfl,rfl,rfl⟩
def Z3 (N:Nat)(c:Pat):Option Int:= W9 N (fun a (x3:Sl Pat) (x4:Int)=>if (decide (0<(x3.n:Int))) then if (x4==40) then some 12 else if (((0:Int)<=(wrap .i64 ((x3.n:Int)-1))/\(wrap .i64 ((x3.n:Int)-1))<(x3.n:Int))/\(wrap .i64 ((x3.n:Int)-1)).toNat<x3.n)then if ((0:Int)<=(wrap .i64 ((x3.n:Int)-1))/\(wrap .i64 ((x3.n:Int)-1))<=(x3.n:Int))then (Bb N (x3.g (wrap .i64 ((x3.n:Int)-1)).toNat)).bind fun y5=>if (y5 != 0) then some y5 else if ((0:Int)<=(if 41<((x3.g (wrap .i64 ((x3.n:Int)-1)).toNat).L.n:Int)then 41 else ((x3.g (wrap .i64 ((x3.n:Int)-1)).toNat).L.n:Int))/\(if 41<((x3.g (wrap .i64 ((x3.n:Int)-1)).toNat).L.n:Int)then 41 else ((x3.g (wrap .i64 ((x3.n:Int)-1)).toNat).L.n:Int))<=((x3.g (wrap .i64 ((x3.n:Int)-1)).toNat).L.n:Int))then (I0 N ((x3.g (wrap .i64 ((x3.n:Int)-1)).toNat).L.take (if 41<((x3.g (wrap .i64 ((x3.n:Int)-1)).toNat).L.n:Int)then 41 else ((x3.g (wrap .i64 ((x3.n:Int)-1)).toNat).L.n:Int)).toNat)).bind fun y6=>(C8 N y6).bind fun L3=>O1 L3 (fun b (x7:Int×Pat) (z3:Sl Pat)=>if ((((z3.n+(Sl.of [Pat.nil]:Sl Pat).n)*64<=140737488355328/\z3.n+(Sl.of [Pat.nil]:Sl Pat).n<=140737488355328)/\((0:Int)<=(z3.n:Int)/\(z3.n:Int)<((z3.push Pat.nil).n:Int)))/\(z3.n:Int).toNat<(z3.push Pat.nil).n)then b ((z3.push Pat.nil).upd (z3.n:Int).toNat x7.2) else none) (fun (z3:Sl Pat)=>a z3 (wrap .i64 (x4+1))) (x3.take (wrap .i64 ((x3.n:Int)-1)).toNat) else none else none else none else some 0) (Sl.of [c]:Sl Pat) 0
theorem GE {b:Pat}{y:Int}(h:Z3 N b=some y) :FunO S KW [.p (.agg (E1 b))] [] (pN y) ([]) []:=by
 unfold Z3 at h;refine A3 Z func82 ?_;refine W7 Z Mz 2 2000 (E1 b) ?_;refine Q5 Z (And.intro Od Og) h (fun x3 x4=>⟨[(4,pN x4),(3,.reg 4000 0)],[(4501,.vec ET 7 x3.n (fun i=>E1 (x3.g i)) false),(4000,.cells [.vec 4501])]⟩) (ids:=[(4000,4000),(4501,12000)]) (fun _ _ _ _ _ d x3 x4 j h=>?_) (hle:=klR [(1,.fn 1 (Sl.of [b]:Sl Pat).n (J5 [pI .i64 0,pI .u32 0,pI .u32 0,.v (.bool false),pI .i64 0,pI .i64 0,AH] [(0,E1 b)]) (fun i=>E1 ((Sl.of [b]:Sl Pat).g i)))] (al1 ⟨rfl,(fun i m=>match i,m with|0,_=>rfl|_+1,m=>Ln m (by omega))⟩ al0));apply kI Z h<;>intro h
 .apply kI Z h<;>intro h
  .cases h;exact kR Z
  obtain⟨c21,h⟩:=I5 h;refine W7 Z (And.intro (And.intro c21.1 Od) c21.2) 25 6000 (E1 (x3.g (wrap .i64 ((x3.n:Int)-1)).toNat)) ?_;obtain⟨c22,h⟩:=I5 h;refine AL4 Z c22 30 4501 (wrap .i64 ((x3.n:Int)-1)).toNat 4508 (e:=ET) (k:=7) (N:=x3.n) (f:=fun i=>E1 (x3.g i)) (by have r:=c22;omega) ?_;obtain⟨y5,e7,h⟩:=D1 h;refine F0 Z [] Od (Ok Z Y e7) ?_;apply kI Z h<;>intro h
  .cases h;exact kR Z
  refine Bo Z Mz 39 ⟨[(38,.p (vSl 7 E1 (x3.g (wrap .i64 ((x3.n:Int)-1)).toNat).L)),(36,.p (vSl 7 E1 (x3.g (wrap .i64 ((x3.n:Int)-1)).toNat).L)),(4,pN x4),(3,.reg 4000 0)],[(4508,.vec ET 7 (x3.take (wrap .i64 ((x3.n:Int)-1)).toNat).n (fun i=>E1 ((x3.take (wrap .i64 ((x3.n:Int)-1)).toNat).g i)) false),(4000,.cells [.vec 4508])]⟩ (ids:=[(4000,4000),(4508,4508)]) ?_ (hle:=klR [(0,.fn (x3.g (wrap .i64 ((x3.n:Int)-1)).toNat).L.n (x3.g (wrap .i64 ((x3.n:Int)-1)).toNat).L.n (Fs (x3.g (wrap .i64 ((x3.n:Int)-1)).toNat)) (fun i=>E1 ((x3.g (wrap .i64 ((x3.n:Int)-1)).toNat).L.g i))),(1,.fn (x3.g (wrap .i64 ((x3.n:Int)-1)).toNat).L.n (x3.g (wrap .i64 ((x3.n:Int)-1)).toNat).L.n (Fs (x3.g (wrap .i64 ((x3.n:Int)-1)).toNat)) (fun i=>E1 ((x3.g (wrap .i64 ((x3.n:Int)-1)).toNat).L.g i)))] (al1 ⟨rfl,Di (x3.g (wrap .i64 ((x3.n:Int)-1)).toNat)⟩ (al1 ⟨rfl,Di (x3.g (wrap .i64 ((x3.n:Int)-1)).toNat)⟩ al0)));obtain⟨c24,h⟩:=I5 h;obtain⟨y6,e8,h⟩:=D1 h;refine F0 Z [] c24 (Bg Z Y e8) ?_;obtain⟨L3,e9,h⟩:=D1 h;refine JO Z Mz [44000] [4,3] 905 (fun z3=>⟨[(4,pN x4),(3,.reg 4000 0)],[(4500,.vec ET 7 z3.n (fun i=>E1 (z3.g i)) false),(4000,.cells [.vec 4500])]⟩) (idl:=[(4000,4000),(4500,4508)]) h (Au Z Y e9) (fun _=>by kernel_rfl) (fun _=>by kernel_rfl) (fun _=>by kernel_rfl) (fun _=>by kernel_rfl) (fun x7 _ o z3 q h=>?_) (fun z3 h=>?_)
  .refine Lj Z Mz ?_;refine AB4 Z Mz 10000 (E1 x7.2) ?_;refine U0 Z Mz [(0,.l [4000]),(1,.n),(2,.l [4500]),(4,.a [51000,4500]),(5,.l [51000]),(6,.a [51000]),(7,.a [4000])] ?_;refine Gm Od (x:=.sl true 7 1 (J5 [pI .i64 0,pI .u32 0,pI .u32 0,.v (.bool false),pI .i64 0,pI .i64 0,AH] [(0,[pI .i64 0,pI .u32 0,pI .u32 0,.v (.bool false),pI .i64 0,pI .i64 0,AH])])) ?_;obtain⟨c27,h⟩:=I5 h;refine N2 (And.intro (And.intro c27.1.1 c27.1.2) (And.intro (rfl:(7:Nat)=7) (And.intro c27.2 Od))) ?_;exact q _ [(905,905),(4000,4000),(4500,51000)] _ ((z3.push Pat.nil).upd (z3.n:Int).toNat x7.2) Mz h (hle:=klR [(0,.fn (z3.n+1) ((z3.push Pat.nil).upd (z3.n:Int).toNat x7.2).n (fun l=>if l=(z3.n:Int).toNat then splice (Cb z3.n (fun i=>E1 (z3.g i)) (J5 [pI .i64 0,pI .u32 0,pI .u32 0,.v (.bool false),pI .i64 0,pI .i64 0,AH] [(0,[pI .i64 0,pI .u32 0,pI .u32 0,.v (.bool false),pI .i64 0,pI .i64 0,AH])]) l) 0 [pI .i64 x7.2.Kind,pI .u32 x7.2.Is.Plus,pI .u32 x7.2.Is.Minus,.bb x7.2.Not,pI .i64 x7.2.Min,pI .i64 x7.2.Max,.sl false 7 x7.2.L.n (Fs x7.2)]else (Cb z3.n (fun i=>E1 (z3.g i)) (J5 [pI .i64 0,pI .u32 0,pI .u32 0,.v (.bool false),pI .i64 0,pI .i64 0,AH] [(0,[pI .i64 0,pI .u32 0,pI .u32 0,.v (.bool false),pI .i64 0,pI .i64 0,AH])])) l) (fun i=>E1 (((z3.push Pat.nil).upd (z3.n:Int).toNat x7.2).g i)))] (al1 ⟨rfl,setH (c:=E1) (v:=z3.push Pat.nil) (x:=x7.2) (app1H (c:=E1) (v:=z3) (z:=Pat.nil) same rfl) (fun _=>by simp[Cb,J5,splice])⟩ al0))
  exact j _ [(4000,4000),(4501,4500)] _ z3 (wrap .i64 (x4+1)) Mz h
 cases h;exact kR Z
def Av (N:Nat)(b:Pat)(a:Sl Tb):Option ((Nat->Int)×Int):= (Z3 N b).bind fun y1=>if (y1 != 0) then some (fun _=>0,y1) else if (decide (32<(a.n:Int))) then some (fun _=>0,11) else (B0 N a (fun (u1:Tb)=>S8 N u1)).bind fun y2=>if y2 then some (fun _=>0,14) else (Be N b).bind fun y3=>(Bf N y3 a).bind fun y4=>some (y4,0)
theorem Jh {a:Pat}{b:Sl Tb}{y:(Nat->Int)×Int}(h:Av N a b=some y) :FunO S Jb [.p (.agg (E1 a)),.p (vSl 2 A0 b)] [] (.tup [.p (.agg (cA 33 (pI .u64) y.1)),pN y.2]) ([]) []:=by
 unfold Av at h;refine A3 Z func148 ?_;refine kC Z h (GE Z Y) (fun y1 h=>?_);apply kI Z h<;>intro h
 .obtain rfl:=B9 h;exact A6 Z (And.intro rfl (F9 _ _):(0:Nat)=0/\(CR 33 (fun i=>pI .u64 ((fun _=>0) i))).length=33) ⟨[(5,pN y1),(4,.reg 5000 0)],[(5000,.arr 33 (fun i=>pI .u64 ((fun _=>0) i)))]⟩ [] (ids:=[(5000,5000)]) ⟨rfl,rfl,rfl⟩ (hle:=klR [(1,.fn 33 33 (fun i=>[(fun i=>(cA 33 (pI .u64) (fun _=>0)).getD i default) i]) (fun i=>[pI .u64 ((fun _=>0) i)]))] (al1 ⟨rfl,E3 33 (fun i=>pI .u64 ((fun _=>0) i))⟩ al0))
 apply kI Z h<;>intro h
 .obtain rfl:=B9 h;exact A6 Z (And.intro rfl (F9 _ _):(0:Nat)=0/\(CR 33 (fun i=>pI .u64 ((fun _=>0) i))).length=33) ⟨[(5,pN 11),(4,.reg 5000 0)],[(5000,.arr 33 (fun i=>pI .u64 ((fun _=>0) i)))]⟩ [] (ids:=[(5000,5000)]) ⟨rfl,rfl,rfl⟩ (hle:=klR [(1,.fn 33 33 (fun i=>[(fun i=>(cA 33 (pI .u64) (fun _=>0)).getD i default) i]) (fun i=>[pI .u64 ((fun _=>0) i)]))] (al1 ⟨rfl,E3 33 (fun i=>pI .u64 ((fun _=>0) i))⟩ al0))
 refine kC Z h (F7 Z Y (fun e=>MY Z Y e)) (fun y2 h=>?_);apply kI Z h<;>intro h
 .obtain rfl:=B9 h;exact A6 Z (And.intro rfl (F9 _ _):(0:Nat)=0/\(CR 33 (fun i=>pI .u64 ((fun _=>0) i))).length=33) ⟨[(5,pN 14),(4,.reg 5000 0)],[(5000,.arr 33 (fun i=>pI .u64 ((fun _=>0) i)))]⟩ [] (ids:=[(5000,5000)]) ⟨rfl,rfl,rfl⟩ (hle:=klR [(1,.fn 33 33 (fun i=>[(fun i=>(cA 33 (pI .u64) (fun _=>0)).getD i default) i]) (fun i=>[pI .u64 ((fun _=>0) i)]))] (al1 ⟨rfl,E3 33 (fun i=>pI .u64 ((fun _=>0) i))⟩ al0))
 refine kC Z h (Om Z Y) (fun y3 h=>?_);obtain⟨y4,e4,h⟩:=D1 h;refine LK Z Mz (Aa5 Z Y e4) ?_;obtain rfl:=B9 h;exact A6 Z (And.intro rfl (F9 _ _):(0:Nat)=0/\(CR 33 (fun i=>pI .u64 (y4 i))).length=33) ⟨[(5,pN 0),(4,.reg 5000 0)],[(5000,.arr 33 (fun i=>pI .u64 (y4 i)))]⟩ [] (ids:=[(5000,5000)]) ⟨rfl,rfl,rfl⟩ (hle:=klR [(1,.fn 33 33 (fun i=>[(fun i=>(cA 33 (pI .u64) y4).getD i default) i]) (fun i=>[pI .u64 (y4 i)]))] (al1 ⟨rfl,E3 33 (fun i=>pI .u64 (y4 i))⟩ al0))
def BN (N:Nat)(d:Pat)(c:Sl Tb)(a:Int):Option ((Sl Int)×Int):= (Av N d c).bind fun y1=>lt (fun (z1:Int)=>if (z1 != 0) then some (Ra,z1) else W9 N (fun b (x2:Sl Int) (x3:Int)=>if (decide (x3<(wrap .i64 ((c.n:Int)+1)))) then if ((((0:Int)<=x3/\x3<33)/\(0+x3.toNat*1)<33)/\(0:Int)<=a)then if ((G7 .and .u64 (shI .shr .u64 (y1.1 (0+x3.toNat*1)) a) 1)==1) then if ((x2.n+(Sl.of [x3]:Sl Int).n)*8<=140737488355328/\x2.n+(Sl.of [x3]:Sl Int).n<=140737488355328)then b (x2.push x3) (wrap .i64 (x3+1)) else none else b x2 (wrap .i64 (x3+1)) else none else some (x2,0)) Ra 0) fun k1=>if (y1.2==0) then (At N c a).bind fun y3=>k1 y3 else k1 y1.2
theorem Rj {f:Pat}{d:Sl Tb}{a:Int}{y:(Sl Int)×Int}(h:BN N f d a=some y) :FunO S Ja [.p (.agg (E1 f)),.p (vSl 2 A0 d),pN a] [] (.tup [.vec 0,pN y.2]) ([.vec H6 1 y.1.n (fun i=>cI .i64 (y.1.g i)) true]) []:=by
 unfold BN at h;refine A3 Z func135 ?_;refine kC Z h (Jh Z Y) (fun y1 h=>?_);refine QC Z (And.intro rfl (F9 _ _):(0:Nat)=0/\(CR 33 (fun i=>pI .u64 (y1.1 i))).length=33) (B2 Z) h 0 (fun z1=>⟨[(9,pN z1),(8,.reg 9000 0),(2,pN a),(1,.p (vSl 2 A0 d))],[(9000,.arr 33 (fun i=>pI .u64 (y1.1 i)))]⟩) (fun M1 k1 j h=>?_) (fun z1 h=>?_)
 .apply kI Z h<;>intro h
  .refine kC Z h (Jg Z Y) (fun y3 h=>?_);exact j _ [(9000,9000)] _ y3 Mz h (hle:=klR [(3,.fn 33 33 (fun i=>[(fun i=>(cA 33 (pI .u64) y1.1).getD i default) i]) (fun i=>[pI .u64 (y1.1 i)]))] (al1 ⟨rfl,E3 33 (fun i=>pI .u64 (y1.1 i))⟩ al0))
  exact j _ [(9000,9000)] _ y1.2 Mz h (hle:=klR [(3,.fn 33 33 (fun i=>[(fun i=>(cA 33 (pI .u64) y1.1).getD i default) i]) (fun i=>[pI .u64 (y1.1 i)]))] (al1 ⟨rfl,E3 33 (fun i=>pI .u64 (y1.1 i))⟩ al0))
 apply kI Z h<;>intro h
 .obtain rfl:=B9 h;exact A6 Z Mz ⟨[(7,pN z1),(6,.vec 7700)],[(7700,.vec H6 1 Ra.n (fun i=>cI .i64 (Ra.g i)) true)]⟩ [7700] (ids:=[]) ⟨rfl,rfl,rfl⟩
 refine Q5 Z Mz h (fun x2 x3=>⟨[(29,pN x3),(28,pN (wrap .i64 ((d.n:Int)+1))),(10,.vec 11500),(8,.reg 9000 0),(2,pN a)],[(11500,.vec H6 1 x2.n (fun i=>cI .i64 (x2.g i)) false),(9000,.arr 33 (fun i=>pI .u64 (y1.1 i)))]⟩) (ids:=[(9000,9000)]) (fun _ _ _ _ _ m x2 x3 l h=>?_);apply kI Z h<;>intro h
 .obtain⟨c12,h⟩:=I5 h;refine E7 Z c12 (b:=(G7 .and .u64 (shI .shr .u64 (y1.1 (0+x3.toNat*1)) a) 1)==1) (fun c13=>?_) (fun c13=>?_)
  .replace h:=itT c13 h;obtain⟨c14,h⟩:=I5 h;exact l _ [(9000,9000),(11500,43000)] _ (x2.push x3) (wrap .i64 (x3+1)) (And.intro Og c14) h (hle:=klR [(3,.fn (x2.n+1) (x2.push x3).n (Cb x2.n (fun i=>cI .i64 (x2.g i)) (J5 [pI .i64 0] [(0,cI .i64 x3)])) (fun i=>cI .i64 ((x2.push x3).g i)))] (al1 ⟨rfl,Uf (c:=cI .i64) (v:=x2) (x:=x3) (z:=[(pI .i64 0)]) same rfl rfl⟩ al0))
  replace h:=itF c13 h;exact l _ [(9000,9000),(11500,11500)] _ x2 (wrap .i64 (x3+1)) Mz h
 obtain rfl:=B9 h;exact A6 Z Mz ⟨[(7,pN 0),(6,.vec 11500)],[(11500,.vec H6 1 x2.n (fun i=>cI .i64 (x2.g i)) true)]⟩ [11500] (ids:=[(11500,11500)]) ⟨rfl,rfl,rfl⟩
def H4 (N:Nat)(a:List (Int)):Option (Sl Int):= O1 a (fun b (x1:Int) (z1:Sl Int)=>if ((z1.n+(Sl.of [x1]:Sl Int).n)*8<=140737488355328/\z1.n+(Sl.of [x1]:Sl Int).n<=140737488355328)then b (z1.push x1) else none) (fun (z1:Sl Int)=>some z1) Ra
theorem CE {b:List (Int)}{a:Int}{kp_seq:Nat}(fp_seq:∃fn,AQ3[kp_seq]? = some fn/\fn.body.isSome=true/\(fn.name == "runtime.NumGoroutine")=false)(d:Dh S kp_seq [] [.reg 0 0] [(.cells [(.p (pI .u64 a))])] (b.map (fun (x:Int)=>[(pI .i64) x]))){y:(Sl Int)}(h:H4 N b=some y) :FunO S N9 [(.p AH),(.clo kp_seq [] [(.reg 0 0)])] [(.cells [(.p (pI .u64 a))])] (.vec 0) ([(.vec H6 1 y.n (fun i=>(cI .i64) (y.g i)) true)]) [false]:=by
 unfold H4 at h;refine A3 Z func66 ?_;refine LJ Z Mz fp_seq [0] [2] 901 (fun z1=>⟨[(2,(.reg 3000 0))],[(3500,(.vec H6 1 z1.n (fun i=>(cI .i64) (z1.g i)) false)),(3000,(.cells [(.vec 3500)]))]⟩) (idl:=[(3000,3000)]) h d (fun _=>by kernel_rfl) (fun _=>by kernel_rfl) (fun _=>by kernel_rfl) (fun _=>by kernel_rfl) (fun x1 _ f z1 j h=>?_) (fun z1 h=>?_)
 .refine Lj Z Mz ?_;obtain⟨c1,h⟩:=I5 h;exact j _ [(901,901),(3000,3000),(3500,12000)] _ (z1.push x1) (And.intro Og c1) h (hle:=klR [(0,.fn (z1.n+1) (z1.push x1).n (Cb z1.n (fun i=>(cI .i64) (z1.g i)) (J5 [(pI .i64 0)] [(0,(cI .i64) x1)])) (fun i=>(cI .i64) ((z1.push x1).g i)))] (al1 ⟨rfl,(Uf (c:=(cI .i64)) (v:=z1) (x:=x1) (z:=[(pI .i64 0)]) same rfl rfl)⟩ al0))
 obtain rfl:=B9 h;exact A6 Z Mz ⟨[(4,(.vec 3500))],[(3500,(.vec H6 1 z1.n (fun i=>(cI .i64) (z1.g i)) true))]⟩ [3500] (ids:=[(3500,3500)]) ⟨rfl,rfl,rfl⟩
def N0 (N:Nat)(a:List (Int)):Option (Sl Int):= (H4 N a).bind fun y1=>some y1
theorem GF {b:List (Int)}{a:Int}{kp_seq:Nat}(fp_seq:∃fn,AQ3[kp_seq]? = some fn/\fn.body.isSome=true/\(fn.name == "runtime.NumGoroutine")=false)(c:Dh S kp_seq [] [.reg 0 0] [(.cells [(.p (pI .u64 a))])] (b.map (fun (x:Int)=>[(pI .i64) x]))){y:(Sl Int)}(h:N0 N b=some y) :FunO S AJ [(.clo kp_seq [] [(.reg 0 0)])] [(.cells [(.p (pI .u64 a))])] (.vec 0) ([(.vec H6 1 y.n (fun i=>(cI .i64) (y.g i)) true)]) [false]:=by unfold N0 at h;refine A3 Z func41 ?_;obtain⟨y1,e1,h⟩:=D1 h;refine F0 Z [0] Mz (CE Z Y fp_seq c e1) ?_;obtain rfl:=B9 h;exact A6 Z Mz ⟨[(2,(.vec 5000))],[(5000,(.vec H6 1 y1.n (fun i=>(cI .i64) (y1.g i)) true))]⟩ [5000] (ids:=[(5000,5000)]) ⟨rfl,rfl,rfl⟩
def DI (N:Nat)(c:Pat)(b:Sl Tb)(a:Int):Option ((Sl Int)×Int):= (Av N c b).bind fun y1=>lt (fun (z1:Int)=>if (z1 != 0) then some (Ra,z1) else if (((0:Int)<=a/\a<33)/\(0+a.toNat*1)<33)then (Bc N (y1.1 (0+a.toNat*1))).bind fun y4=>(Q7 N y4).bind fun L1=>(N0 N L1).bind fun y5=>some (y5,0) else none) fun k1=>if (y1.2==0) then (At N b a).bind fun y3=>k1 y3 else k1 y1.2
theorem Vg {b:Pat}{c:Sl Tb}{a:Int}{y:(Sl Int)×Int}(h:DI N b c a=some y) :FunO S MM [.p (.agg (E1 b)),.p (vSl 2 A0 c),pN a] [] (.tup [.vec 0,pN y.2]) ([.vec H6 1 y.1.n (fun i=>cI .i64 (y.1.g i)) true]) []:=by
 unfold DI at h;refine A3 Z func136 ?_;refine kC Z h (Jh Z Y) (fun y1 h=>?_);refine QC Z (And.intro rfl (F9 _ _):(0:Nat)=0/\(CR 33 (fun i=>pI .u64 (y1.1 i))).length=33) (B2 Z) h 0 (fun z1=>⟨[(9,pN z1),(8,.reg 9000 0),(2,pN a)],[(9000,.arr 33 (fun i=>pI .u64 (y1.1 i)))]⟩) (fun M1 k1 d h=>?_) (fun z1 h=>?_)
 .apply kI Z h<;>intro h
  .refine kC Z h (Jg Z Y) (fun y3 h=>?_);exact d _ [(9000,9000)] _ y3 Mz h (hle:=klR [(2,.fn 33 33 (fun i=>[(fun i=>(cA 33 (pI .u64) y1.1).getD i default) i]) (fun i=>[pI .u64 (y1.1 i)]))] (al1 ⟨rfl,E3 33 (fun i=>pI .u64 (y1.1 i))⟩ al0))
  exact d _ [(9000,9000)] _ y1.2 Mz h (hle:=klR [(2,.fn 33 33 (fun i=>[(fun i=>(cA 33 (pI .u64) y1.1).getD i default) i]) (fun i=>[pI .u64 (y1.1 i)]))] (al1 ⟨rfl,E3 33 (fun i=>pI .u64 (y1.1 i))⟩ al0))
 apply kI Z h<;>intro h
 .obtain rfl:=B9 h;exact A6 Z Mz ⟨[(7,pN z1),(6,.vec 7700)],[(7700,.vec H6 1 Ra.n (fun i=>cI .i64 (Ra.g i)) true)]⟩ [7700] (ids:=[]) ⟨rfl,rfl,rfl⟩
 obtain⟨c5,h⟩:=I5 h;obtain⟨y4,e4,h⟩:=D1 h;refine F0 Z [] c5 (Ew Z Y e4) ?_;obtain⟨L1,e5,h⟩:=D1 h;obtain⟨y5,e6,h⟩:=D1 h;refine F0 Z [28000] Mz (GF Z Y ⟨_,func157,by decide +kernel,by decide +kernel⟩ (CV Z Y e5) e6) ?_;obtain rfl:=B9 h;exact A6 Z Mz ⟨[(7,pN 0),(6,.vec 29000)],[(29000,.vec H6 1 y5.n (fun i=>cI .i64 (y5.g i)) true)]⟩ [29000] (ids:=[(29000,29000)]) ⟨rfl,rfl,rfl⟩
end Go.AM
namespace Go.AM
open Go.Proofs.Tryz
variable {N:Nat}
open IntKind (wrap)
open Go.Proofs
set_option maxRecDepth 10000
set_option maxHeartbeats 2000000
variable {S:W8}(Z:G8 S Tryz.prog) (Y:Oh S)
include Z Y
def Cl (N:Nat)(a:Str):Option Bool:= lt (fun (z1:Bool)=>some z1) fun k1=>if ((a==[]) != true) then if (decide ((a.length:Int)<=24)) then (Ev N a [97,98,99,100,101,102,103,104,105,106,107,108,109,110,111,112,113,114,115,116,117,118,119,120,121,122,65,66,67,68,69,70,71,72,73,74,75,76,77,78,79,80,81,82,83,84,85,86,87,88,89,90,48,49,50,51,52,53,54,55,56,57,45]).bind fun y2=>k1 ((y2==[]) != false) else k1 false else k1 false
theorem Vh {b:Str}{y:Bool}(h:Cl N b=some y) :FunO S MJ [.p (.str b)] [] (pB y) ([]) []:=by
 unfold Cl at h;refine A3 Z func81 ?_;refine QC Z Mz (B2 Z) h 0 (fun z1=>⟨[(2,pB z1)],[]⟩) (fun M1 k1 a h=>?_) (fun z1 h=>?_)
 .refine kG Z h (fun h=>?_) (fun h=>?_)
  .refine kG Z h (fun h=>?_) (fun h=>?_)
   .refine kC Z h (Oi Z Y) (fun y2 h=>?_);exact a _ [] _ ((y2==[]) != false) Mz h
   exact a _ [] _ false Mz h
  exact a _ [] _ false Mz h
 cases h;exact kR Z
def V7 (N:Nat)(p_x:IK)(a:Int):Option Bool:= lt (fun (z1:Bool)=>if z1 then some false else if ((((G7 .andNot .u32 (G7 .or .u32 p_x.Clear p_x.Take) 16777215) != 0)||((G7 .and .u32 p_x.Clear (G7 .or .u32 p_x.Set.Plus p_x.Set.Minus)) != 0))||((G7 .and .u32 p_x.Take (G7 .or .u32 (G7 .or .u32 p_x.Set.Plus p_x.Set.Minus) p_x.Clear)) != 0)) then some false else if (p_x.Take==0) then some (p_x.Of==0) else some ((decide (0<=p_x.Of))&&(decide (p_x.Of<a)))) fun k1=>if (decide (p_x.From<(-1))) then k1 true else if (decide (a<=p_x.From)) then k1 true else (G2 N p_x.Set).bind fun y2=>k1 (!y2)
theorem Yg {p_x:IK}{b:Int}{y:Bool}(h:V7 N p_x b=some y) :FunO S Ps [.p (.agg (AX p_x)),pN b] [] (pB y) ([]) []:=by
 unfold V7 at h;refine A3 Z func79 ?_;refine QC Z Mz (B2 Z) h 0 (fun z1=>⟨[(13,pB z1),(5,pU (G7 .or .u32 p_x.Set.Plus p_x.Set.Minus)),(2,.reg 3000 0),(1,pN b)],[(3000,.cells ((AX p_x).map .p))]⟩) (fun M1 k1 c h=>?_) (fun z1 h=>?_)
 .refine kG Z h (fun h=>?_) (fun h=>?_)
  .exact c _ [(3000,3000)] _ true Mz h
  refine kG Z h (fun h=>?_) (fun h=>?_)
  .exact c _ [(3000,3000)] _ true Mz h
  refine kC Z h (O9 Z Y) (fun y2 h=>?_);exact c _ [(3000,3000)] _ (!y2) Mz h
 apply kI Z h<;>intro h
 .cases h;exact kR Z
 refine kB Z (B2 Z) Mz Mz 16 (.o (.o (.a ((G7 .andNot .u32 (G7 .or .u32 p_x.Clear p_x.Take) 16777215) != 0)) (.a ((G7 .and .u32 p_x.Clear (G7 .or .u32 p_x.Set.Plus p_x.Set.Minus)) != 0))) (.a ((G7 .and .u32 p_x.Take (G7 .or .u32 (G7 .or .u32 p_x.Set.Plus p_x.Set.Minus) p_x.Clear)) != 0))) ?_;apply kI Z h<;>intro h
 .cases h;exact kR Z
 apply kI Z h<;>intro h
 .cases h;exact kR Z
 refine kB Z (B2 Z) Mz Mz 5 (.n (.a (decide (0<=p_x.Of))) (.a (decide (p_x.Of<b)))) ?_;cases h;exact kR Z
def Aw (N:Nat)(p_x:IK)(q0:Int):Option Bool:= (V7 N p_x q0).bind fun y1=>some (!y1)
theorem Rk {p_x:IK}{q0:Int}{y:Bool}(h:Aw N p_x q0=some y) :FunO S IV [.p (.agg (AX p_x)),.reg 0 0] [.cells [pN q0]] (pB y) ([.cells [pN q0]]) [true]:=by unfold Aw at h;refine A3 Z func78 ?_;refine kC Z h (Yg Z Y) (fun y1 h=>?_);obtain rfl:=B9 h;exact A6 Z Mz ⟨[(3,pB (!y1))],[(0,.cells [pN q0])]⟩ [0] (ids:=[(0,0)]) ⟨rfl,rfl,rfl⟩
def Ax (N:Nat)(a:Tb):Option Bool:= (G2 N a).bind fun y1=>some (!y1)
theorem Rl {a:Tb}{y:Bool}(h:Ax N a=some y) :FunO S IW [.p (.agg (A0 a))] [] (pB y) ([]) []:=by unfold Ax at h;refine A3 Z func80 ?_;refine kC Z h (O9 Z Y) (fun y1 h=>?_);cases h;exact kR Z
def F3 (N:Nat)(a:Sl IK)(c:IK->Option Bool):Option Int:= S3 N (fun b (x1:Int)=>if (decide (x1<(a.n:Int))) then if ((0:Int)<=x1/\x1<(a.n:Int))then (c (a.g x1.toNat)).bind fun y3=>if y3 then some x1 else b (wrap .i64 (x1+1)) else none else some (-1)) 0
theorem AQ {c:Sl IK}{d:IK->Option Bool}{a:Int}{kp_f:Nat}(f:∀{a0:IK}{b:Bool},d a0=some b->FunO S kp_f [.p (.agg (AX a0)),.reg 0 0] [.cells [pN a]] (pB b) [.cells [pN a]] [true]){y:Int}(h:F3 N c d=some y) :FunO S O4 [.p (vSl 6 AX c),.clo kp_f [] [.reg 0 0]] [.cells [pN a]] (pN y) ([.cells [pN a]]) [true]:=by
 unfold F3 at h;refine A3 Z func103 ?_;refine AF Z Mz h (fun x1=>⟨[(8,pN x1),(7,pN (c.n:Int)),(1,.clo kp_f [] [.reg 0 0]),(0,.p (vSl 6 AX c))],[(0,.cells [pN a])]⟩) (ids:=[(0,0)]) (fun _ _ _ _ _ g x1 i h=>?_);apply kI Z h<;>intro h
 .obtain⟨c8,h⟩:=I5 h;obtain⟨y3,e3,h⟩:=D1 h;refine F0 Z [0] (And.intro c8 (by decide:(6:Nat)<=6)) (f e3) ?_;apply kI Z h<;>intro h
  .obtain rfl:=B9 h;exact A6 Z Mz ⟨[(4,pN x1)],[(0,.cells [pN a])]⟩ [0] (ids:=[(0,0)]) ⟨rfl,rfl,rfl⟩
  exact i _ [(0,0)] _ (wrap .i64 (x1+1)) Mz h
 obtain rfl:=B9 h;exact A6 Z Mz ⟨[(4,pN (-1))],[(0,.cells [pN a])]⟩ [0] (ids:=[(0,0)]) ⟨rfl,rfl,rfl⟩
def C0 (N:Nat)(a:Sl IK)(b:IK->Option Bool):Option Bool:= (F3 N a b).bind fun y1=>some (decide (0<=y1))
theorem X4 {c:Sl IK}{d:IK->Option Bool}{a:Int}{kp_f:Nat}(f:∀{a0:IK}{b:Bool},d a0=some b->FunO S kp_f [.p (.agg (AX a0)),.reg 0 0] [.cells [pN a]] (pB b) [.cells [pN a]] [true]){y:Bool}(h:C0 N c d=some y) :FunO S K7 [.p (vSl 6 AX c),.clo kp_f [] [.reg 0 0]] [.cells [pN a]] (pB y) ([.cells [pN a]]) [true]:=by unfold C0 at h;refine A3 Z func83 ?_;obtain⟨y1,e1,h⟩:=D1 h;refine F0 Z [0] Mz (AQ Z Y (fun e=>f e) e1) ?_;obtain rfl:=B9 h;exact A6 Z Mz ⟨[(4,pB (decide (0<=y1)))],[(0,.cells [pN a])]⟩ [0] (ids:=[(0,0)]) ⟨rfl,rfl,rfl⟩
def Z4 (N:Nat)(a:Law):Option Int:= (Cl N a.Name).bind fun y1=>if (!y1) then some 17 else (Z3 N a.Left).bind fun y2=>if (y2 != 0) then some 17 else (Z3 N a.Right).bind fun y3=>if (y3 != 0) then some 17 else if (decide (4<(a.If.n:Int))) then some 17 else if (decide (6<(a.Out.n:Int))) then some 17 else if ((wrap .i64 ((a.If.n:Int)+(a.Out.n:Int)))==0) then some 17 else if ((decide (a.Mode<1))||(decide (3<a.Mode))) then some 17 else (B0 N a.If (fun (u1:Tb)=>Ax N u1)).bind fun y4=>if y4 then some 17 else (C0 N a.Out (fun (u2:IK)=>Aw N u2 (a.If.n:Int))).bind fun y5=>if y5 then some 17 else some 0
theorem Ib {c:Law}{y:Int}(h:Z4 N c=some y) :FunO S MF [.p (.agg (B3 c))] [] (pN y) ([]) []:=by
 unfold Z4 at h;refine A3 Z func57 ?_;refine kC Z h (Vh Z Y) (fun y1 h=>?_);refine E7 Z Mz (b:=!y1) (fun c1=>?_) (fun c1=>?_)
 .replace h:=itT c1 h;refine E7 Z Mz (b:=!y1) (fun c2=>?_) (fun c2=>?_)
  .cases h;exact kR Z
  exact Bool.noConfusion (c1.symm.trans c2)
 replace h:=itF c1 h;refine kC Z h (GE Z Y) (fun y2 h=>?_);refine E7 Z Mz (b:=y2 != 0) (fun c3=>?_) (fun c3=>?_)
 .replace h:=itT c3 h;refine E7 Z Mz (b:=y2 != 0) (fun c4=>?_) (fun c4=>?_)
  .cases h;exact kR Z
  exact Bool.noConfusion (c3.symm.trans c4)
 replace h:=itF c3 h;refine kC Z h (GE Z Y) (fun y3 h=>?_);refine E7 Z Mz (b:=y3 != 0) (fun c5=>?_) (fun c5=>?_)
 .replace h:=itT c5 h;refine E7 Z Mz (b:=y3 != 0) (fun c6=>?_) (fun c6=>?_)
  .cases h;exact kR Z
  exact Bool.noConfusion (c5.symm.trans c6)
 replace h:=itF c5 h;refine E7 Z Mz (b:=decide (4<(c.If.n:Int))) (fun c7=>?_) (fun c7=>?_)
 .replace h:=itT c7 h;refine E7 Z Mz (b:=decide (4<(c.If.n:Int))) (fun c8=>?_) (fun c8=>?_)
  .cases h;exact kR Z
  exact Bool.noConfusion (c7.symm.trans c8)
 replace h:=itF c7 h;refine E7 Z Mz (b:=decide (6<(c.Out.n:Int))) (fun c9=>?_) (fun c9=>?_)
 .replace h:=itT c9 h;refine E7 Z Mz (b:=decide (6<(c.Out.n:Int))) (fun c10=>?_) (fun c10=>?_)
  .cases h;exact kR Z
  exact Bool.noConfusion (c9.symm.trans c10)
 replace h:=itF c9 h;refine E7 Z Mz (b:=(wrap .i64 ((c.If.n:Int)+(c.Out.n:Int)))==0) (fun c11=>?_) (fun c11=>?_)
 .replace h:=itT c11 h;refine E7 Z Mz (b:=(wrap .i64 ((c.If.n:Int)+(c.Out.n:Int)))==0) (fun c12=>?_) (fun c12=>?_)
  .cases h;exact kR Z
  exact Bool.noConfusion (c11.symm.trans c12)
 replace h:=itF c11 h;refine kB Z (B2 Z) Mz Mz 4 (.o (.a (decide (c.Mode<1))) (.a (decide (3<c.Mode)))) ?_;refine E7 Z Mz (b:=(decide (c.Mode<1))||(decide (3<c.Mode))) (fun c13=>?_) (fun c13=>?_)
 .replace h:=itT c13 h;refine E7 Z Mz (b:=(decide (c.Mode<1))||(decide (3<c.Mode))) (fun c14=>?_) (fun c14=>?_)
  .cases h;exact kR Z
  exact Bool.noConfusion (c13.symm.trans c14)
 replace h:=itF c13 h;refine kC Z h (F7 Z Y (fun e=>Rl Z Y e)) (fun y4 h=>?_);refine E7 Z Mz (b:=y4) (fun c15=>?_) (fun c15=>?_)
 .replace h:=itT c15 h;refine E7 Z Mz (b:=y4) (fun c16=>?_) (fun c16=>?_)
  .cases h;exact kR Z
  exact Bool.noConfusion (c15.symm.trans c16)
 replace h:=itF c15 h;obtain⟨y5,e5,h⟩:=D1 h;refine F0 Z [4000] Mz (X4 Z Y (fun e=>Rk Z Y e) e5) ?_;apply kI Z h<;>intro h
 .cases h;exact kR Z
 cases h;exact kR Z
def FA (N:Nat)(a:Law)(b:Sl Tb):Option Int:= (Z4 N a).bind fun y1=>if (y1 != 0) then some y1 else (Z0 N b).bind fun y2=>some y2
theorem Vi {a:Law}{b:Sl Tb}{y:Int}(h:FA N a b=some y) :FunO S MI [.p (.agg (B3 a)),.p (vSl 2 A0 b)] [] (pN y) ([]) []:=by
 unfold FA at h;refine A3 Z func68 ?_;refine kC Z h (Ib Z Y) (fun y1 h=>?_);apply kI Z h<;>intro h
 .cases h;exact kR Z
 refine kC Z h (GD Z Y) (fun y2 h=>?_);cases h;exact kR Z
def V8 (N:Nat)(a:Int)(q0:Law)(q1:Sl Tb):Option Bool:= (BN N q0.Left q1 a).bind fun y1=>if ((y1.1.n:Int)==0) then some false else (DI N q0.Right q1 (wrap .i64 (a+(q0.If.n:Int)))).bind fun y2=>some (decide (0<(y2.1.n:Int)))
theorem Oo {a:Int}{q0:Law}{q1:Sl Tb}{y:Bool}(h:V8 N a q0 q1=some y) :FunO S V6 [pN a,.reg 0 0,.reg 1 0] [.cells ((B3 q0).map .p),.cells [.p (vSl 2 A0 q1)]] (pB y) ([.cells ((B3 q0).map .p),.cells [.p (vSl 2 A0 q1)]]) [true,true]:=by
 unfold V8 at h;refine A3 Z func134 ?_;refine kC Z h (Rj Z Y) (fun y1 h=>?_);apply kI Z h<;>intro h
 .obtain rfl:=B9 h;exact A6 Z Mz ⟨[(4,pB false)],[(1,.cells [.p (vSl 2 A0 q1)]),(0,.cells ((B3 q0).map .p))]⟩ [0,1] (ids:=[(0,0),(1,1)]) ⟨rfl,rfl,rfl⟩
 refine kC Z h (Vg Z Y) (fun y2 h=>?_);obtain rfl:=B9 h;exact A6 Z Mz ⟨[(4,pB (decide (0<(y2.1.n:Int))))],[(1,.cells [.p (vSl 2 A0 q1)]),(0,.cells ((B3 q0).map .p))]⟩ [0,1] (ids:=[(0,0),(1,1)]) ⟨rfl,rfl,rfl⟩
def GG (N:Nat)(a:Law)(b:Sl Tb):Option (Law×(Sl Tb)):= some (a,b)
theorem Tq {a:Law}{b:Sl Tb}{y:Law×(Sl Tb)}(h:GG N a b=some y) :FunO S KX [.p (.agg (B3 a)),.p (vSl 2 A0 b)] [] (.clo V6 [] [.reg 0 0,.reg 1 0]) ([.cells ((B3 y.1).map .p),.cells [.p (vSl 2 A0 y.2)]]) []:=by unfold GG at h;refine A3 Z func110 ?_;obtain rfl:=B9 h;exact A6 Z Mz ⟨[(4,.clo V6 [] [.reg 3000 0,.reg 4000 0])],[(4000,.cells [.p (vSl 2 A0 b)]),(3000,.cells ((B3 a).map .p))]⟩ [3000,4000] (ids:=[(3000,3000),(4000,4000)]) ⟨rfl,rfl,rfl⟩
def O7 (N:Nat)(a:Law)(b:Sl Tb):Option (Sl Tb):= W9 N (fun c (x1:Sl Tb) (x2:Int)=>if (decide (x2<(a.Out.n:Int))) then if ((0:Int)<=x2/\x2<(a.Out.n:Int))then if ((decide (0<=(a.Out.g x2.toNat).From))=true->((0:Int)<=(a.Out.g x2.toNat).From/\(a.Out.g x2.toNat).From<(b.n:Int)))then (P1 N (⟨(if (decide (0<=(a.Out.g x2.toNat).From)) then (b.g (a.Out.g x2.toNat).From.toNat).Plus else 0),(if (decide (0<=(a.Out.g x2.toNat).From)) then (b.g (a.Out.g x2.toNat).From.toNat).Minus else 0)⟩:Tb) (a.Out.g x2.toNat).Clear (a.Out.g x2.toNat).Set).bind fun y5=>if ((a.Out.g x2.toNat).Take != 0) then if ((0:Int)<=(a.Out.g x2.toNat).Of/\(a.Out.g x2.toNat).Of<(b.n:Int))then (T5 N y5.1 (b.g (a.Out.g x2.toNat).Of.toNat) (a.Out.g x2.toNat).Take).bind fun y6=>if ((x1.n+(Sl.of [y6.1]:Sl Tb).n)*8<=140737488355328/\x1.n+(Sl.of [y6.1]:Sl Tb).n<=140737488355328)then c (x1.push y6.1) (wrap .i64 (x2+1)) else none else none else if ((x1.n+(Sl.of [y5.1]:Sl Tb).n)*8<=140737488355328/\x1.n+(Sl.of [y5.1]:Sl Tb).n<=140737488355328)then c (x1.push y5.1) (wrap .i64 (x2+1)) else none else none else none else some x1) (Sl.nil:Sl Tb) 0
theorem Tr {d:Law}{a:Sl Tb}{y:Sl Tb}(h:O7 N d a=some y) :FunO S Tc [.p (.agg (B3 d)),.p (vSl 2 A0 a)] [] (.p (vSl 2 A0 y)) ([]) []:=by
 unfold O7 at h;refine A3 Z func93 ?_;refine W7 Z Mz 4 3000 (B3 d) ?_;refine Q5 Z Mz h (fun x1 x2=>⟨[(12,pN x2),(11,pN (d.Out.n:Int)),(10,.p (vSl 6 AX d.Out)),(5,.vec 6500),(1,.p (vSl 2 A0 a))],[(6500,.vec A4 2 x1.n (fun i=>A0 (x1.g i)) false)]⟩) (ids:=[]) (fun _ _ _ _ _ o x1 x2 l h=>?_);apply kI Z h<;>intro h
 .obtain⟨c16,h⟩:=I5 h;refine W7 Z (And.intro c16 (by decide:(6:Nat)<=6)) 8 8000 (AX (d.Out.g x2.toNat)) ?_;obtain⟨c18,h⟩:=I5 h;obtain⟨t5,f⟩:∃x:Int,x=(if (decide (0<=(d.Out.g x2.toNat).From)) then (a.g (d.Out.g x2.toNat).From.toNat).Plus else 0):=⟨_,rfl⟩;obtain⟨t6,j⟩:∃x:Int,x=(if (decide (0<=(d.Out.g x2.toNat).From)) then (a.g (d.Out.g x2.toNat).From.toNat).Minus else 0):=⟨_,rfl⟩;refine UK Z Mz (B2 Z) 0 ⟨[(12,pN x2),(11,pN (d.Out.n:Int)),(10,.p (vSl 6 AX d.Out)),(8,.reg 9000 0),(7,.p (.ptr (AX (d.Out.g x2.toNat)))),(5,.vec 6500),(1,.p (vSl 2 A0 a))],[(9000,.cells [pU t5,pU t6]),(6500,.vec A4 2 x1.n (fun i=>A0 (x1.g i)) false)]⟩ (fun M3 m=>?_) ?_
  .refine E7 Z Mz (b:=decide (0<=(d.Out.g x2.toNat).From)) (fun c19=>?_) (fun c19=>?_)
   .exact m _ [(6500,6500),(9000,9000)] _ (And.intro (c18 c19) Ob) (hle:=klR [(5,.eq (pI .u32 (a.g (d.Out.g x2.toNat).From.toNat).Plus) (pI .u32 t5)),(6,.eq (pI .u32 (a.g (d.Out.g x2.toNat).From.toNat).Minus) (pI .u32 t6))] (al1 (by simp only[f,j,c19,Leaf.ok,pm,Lo,Lp]) (al1 (by simp only[f,j,c19,Leaf.ok,pm,Lo,Lp]) al0)))
   exact m _ [(6500,6500),(9000,9000)] _ Mz (hle:=klR [(5,.eq (pI .u32 0) (pI .u32 t5)),(6,.eq (pI .u32 0) (pI .u32 t6))] (al1 (by simp only[f,j,c19,Leaf.ok,pm,Lo,Lp]) (al1 (by simp only[f,j,c19,Leaf.ok,pm,Lo,Lp]) al0)))
  subst j;subst f;obtain⟨y5,e5,h⟩:=D1 h;refine F0 Z [] (by decide:(2:Nat)<=4) (Oj Z Y e5) ?_;apply kI Z h<;>intro h
  .refine J0 Z Mz [3,4,5,7,8] ?_;obtain⟨c21,h⟩:=I5 h;obtain⟨y6,e6,h⟩:=D1 h;refine Bv (And.intro c21 Ob) (Tn Z Y e6) ?_;refine N2 Mz ?_;obtain⟨c22,h⟩:=I5 h;exact l _ [(6500,52000)] _ (x1.push y6.1) (wrap .i64 (x2+1)) (And.intro Og c22) h (hle:=klR [(4,.fn (x1.n+1) (x1.push y6.1).n (Cb x1.n (fun i=>A0 (x1.g i)) (J5 [pI .u32 0,pI .u32 0] [(0,A0 y6.1)])) (fun i=>A0 ((x1.push y6.1).g i)))] (al1 ⟨rfl,Uf (c:=A0) (v:=x1) (x:=y6.1) (z:=[(pI .u32 0),pI .u32 0]) same rfl rfl⟩ al0))
  obtain⟨c23,h⟩:=I5 h;exact l _ [(6500,52000)] _ (x1.push y5.1) (wrap .i64 (x2+1)) (And.intro Og c23) h (hle:=klR [(4,.fn (x1.n+1) (x1.push y5.1).n (Cb x1.n (fun i=>A0 (x1.g i)) (J5 [pI .u32 0,pI .u32 0] [(0,A0 y5.1)])) (fun i=>A0 ((x1.push y5.1).g i)))] (al1 ⟨rfl,Uf (c:=A0) (v:=x1) (x:=y5.1) (z:=[(pI .u32 0),pI .u32 0]) same rfl rfl⟩ al0))
 obtain rfl:=B9 h;exact A6 Z Mz ⟨[(4,.p (vSl 2 A0 x1))],[]⟩ [] (ids:=[]) ⟨rfl,rfl,rfl⟩
def A9 (N:Nat)(a:Sl (Sl Tb)):Option (Sl Tb):= W9 N (fun b (x1:Int) (x2:Int)=>if (decide (x2<(a.n:Int))) then if ((0:Int)<=x2/\x2<(a.n:Int))then if (decide ((wrap .i64 (x1+((a.g x2.toNat).n:Int)))<0)) then none else b (wrap .i64 (x1+((a.g x2.toNat).n:Int))) (wrap .i64 (x2+1)) else none else (H9 N x1).bind fun y1=>W9 N (fun c (x3:Sl Tb) (x4:Int)=>if (decide (x4<(a.n:Int))) then if (((0:Int)<=x4/\x4<(a.n:Int))/\((x3.n+(a.g x4.toNat).n)*8<=140737488355328/\x3.n+(a.g x4.toNat).n<=140737488355328))then c (x3.app (a.g x4.toNat)) (wrap .i64 (x4+1)) else none else some x3) y1 0) 0 0
theorem N6 {a:Sl (Sl Tb)}{y:Sl Tb}(h:A9 N a=some y) :FunO S N4 [.p (vSl 1 (cL 2 A0) a)] [] (.vec 0) ([.vec A4 2 y.n (fun i=>A0 (y.g i)) true]) []:=by
 unfold A9 at h;refine A3 Z func92 ?_;refine Q5 Z Mz h (fun x1 x2=>⟨[(11,pN x2),(10,pN (a.n:Int)),(9,.p (vSl 1 (cL 2 A0) a)),(3,pN x1),(0,.p (vSl 1 (cL 2 A0) a))],[]⟩) (ids:=[]) (fun _ _ _ _ _ d x1 x2 f h=>?_);apply kI Z h<;>intro h
 .obtain⟨c8,h⟩:=I5 h;refine E7 Z c8 (b:=decide ((wrap .i64 (x1+((a.g x2.toNat).n:Int)))<0)) (fun c9=>?_) (fun c9=>?_)
  .replace h:=itT c9 h;cases h
  replace h:=itF c9 h;exact f _ [] _ (wrap .i64 (x1+((a.g x2.toNat).n:Int))) (wrap .i64 (x2+1)) Mz h
 refine kC Z h (Ba Z Y) (fun y1 h=>?_);refine Q5 Z Mz h (fun x3 x4=>⟨[(27,pN x4),(26,pN (a.n:Int)),(25,.p (vSl 1 (cL 2 A0) a)),(6,.vec 7500)],[(7500,.vec A4 2 x3.n (fun i=>A0 (x3.g i)) false)]⟩) (ids:=[(7500,25000)]) (fun _ _ _ _ _ j x3 x4 l h=>?_);apply kI Z h<;>intro h
 .obtain⟨c13,h⟩:=I5 h;exact l _ [(7500,34000)] _ (x3.app (a.g x4.toNat)) (wrap .i64 (x4+1)) c13 h (hle:=klR [(3,.fn (x3.n+(a.g x4.toNat).n) (x3.app (a.g x4.toNat)).n (Cb x3.n (fun i=>A0 (x3.g i)) (fun i=>A0 ((a.g x4.toNat).g i))) (fun i=>A0 ((x3.app (a.g x4.toNat)).g i)))] (al1 ⟨rfl,appL (c:=A0) (v:=x3) (w:=a.g x4.toNat) same rfl same rfl⟩ al0))
 obtain rfl:=B9 h;exact A6 Z Mz ⟨[(2,.vec 7500)],[(7500,.vec A4 2 x3.n (fun i=>A0 (x3.g i)) true)]⟩ [7500] (ids:=[(7500,7500)]) ⟨rfl,rfl,rfl⟩
def R6 (N:Nat)(b:Law)(c:Sl Tb)(a:Int):Option (Sl Tb):= if (((0:Int)<=a/\a<=(c.n:Int))/\((0:Int)<=a/\a<=(wrap .i64 (a+(b.If.n:Int)))/\(wrap .i64 (a+(b.If.n:Int)))<=(c.n:Int)))then (O7 N b (c.sub a.toNat (wrap .i64 (a+(b.If.n:Int))).toNat)).bind fun y1=>if ((0:Int)<=(wrap .i64 (a+(b.If.n:Int)))/\(wrap .i64 (a+(b.If.n:Int)))<=(c.n:Int))then (A9 N (Sl.of [c.take a.toNat,y1,c.drop (wrap .i64 (a+(b.If.n:Int))).toNat]:Sl (Sl Tb))).bind fun y2=>some y2 else none else none
theorem Ji {c:Law}{b:Sl Tb}{a:Int}{y:Sl Tb}(h:R6 N c b a=some y) :FunO S IY [.p (.agg (B3 c)),.p (vSl 2 A0 b),pN a] [] (.vec 0) ([.vec A4 2 y.n (fun i=>A0 (y.g i)) true]) []:=by unfold R6 at h;refine A3 Z func95 ?_;refine W7 Z Mz 6 4000 (B3 c) ?_;refine J0 Z Mz [3,8] ?_;obtain⟨c1,h⟩:=I5 h;obtain⟨y1,e1,h⟩:=D1 h;refine Bv (And.intro (And.intro c1.1 Oe) c1.2) (Tr Z Y e1) ?_;obtain⟨c2,h⟩:=I5 h;refine Gm c2 (x:=.sl true 1 3 (J5 [AH] [(0,cL 2 A0 (b.take a.toNat)),(1,cL 2 A0 y1),(2,cL 2 A0 (b.drop (wrap .i64 (a+(c.If.n:Int))).toNat))])) ?_;obtain⟨y2,e2,h⟩:=D1 h;refine WA [] Mz (FunO.le Z (args:=[.p (.sl true 1 3 (J5 [AH] [(0,cL 2 A0 (b.take a.toNat)),(1,cL 2 A0 y1),(2,cL 2 A0 (b.drop (wrap .i64 (a+(c.If.n:Int))).toNat))]))]) (by exact⟨Za rfl (fun i d=>match i,d with|0,_=>rfl|1,_=>rfl|2,_=>rfl|_+3,d=>Ln d (by omega)),trivial⟩) (N6 Z Y e2)) ?_;refine N2 Mz ?_;obtain rfl:=B9 h;exact A6 Z Mz ⟨[(6,.vec 27000)],[(27000,.vec A4 2 y2.n (fun i=>A0 (y2.g i)) true)]⟩ [27000] (ids:=[(27000,27000)]) ⟨rfl,rfl,rfl⟩
def Z5 (N:Nat)(q0:Law)(q1:Sl Tb)(q2:Int):Option (List (Int)):= (GG N q0 q1).bind fun y1=>S3 N (fun a (x2:Int)=>if (decide ((wrap .i64 (x2+(q0.If.n:Int)))<=(q1.n:Int))) then S3 N (fun b (x4:Int)=>if (decide (x4<(q0.If.n:Int))) then if ((0:Int)<=x4/\x4<(q0.If.n:Int))then if ((0:Int)<=(wrap .i64 (x2+x4))/\(wrap .i64 (x2+x4))<(q1.n:Int))then (K0 N (q1.g (wrap .i64 (x2+x4)).toNat) (q0.If.g x4.toNat)).bind fun c=>if (!c) then a (wrap .i64 (x2+1)) else b (wrap .i64 (x4+1)) else none else none else (V8 N x2 y1.1 y1.2).bind fun d=>if d then Y4 x2 (a (wrap .i64 (x2+1))) else a (wrap .i64 (x2+1))) 0 else some []) q2
theorem La {q0:Law}{q1:Sl Tb}{q2:Int}{L:List (Int)}(h:Z5 N q0 q1 q2=some L) :Dh S Ee [] [.reg 0 0,.reg 1 0,.reg 2 0] [.cells ((B3 q0).map .p),.cells [.p (vSl 2 A0 q1)],.cells [pN q2]] (L.map (fun (x:Int)=>[pI .i64 x])):=by
 unfold Z5 at h;refine DY Z func109 ?_;refine kC Z h (Tq Z Y) (fun y1 h=>?_);refine Gn Z Mz h (fun x2 L1=>⟨[(6,pN x2),(5,.clo V6 [] [.reg 12000 0,.reg 12001 0]),(2,.reg 1 0),(1,.reg 0 0),(0,.yf 3)],[(12001,.cells [.p (vSl 2 A0 y1.2)]),(12000,.cells ((B3 y1.1).map .p)),(3,.yld (L1.map (fun (x:Int)=>[pI .i64 x])) true),(2,.cells [pN q2]),(1,.cells [.p (vSl 2 A0 q1)]),(0,.cells ((B3 q0).map .p))]⟩) (ids:=[(0,0),(1,1),(2,2),(3,3),(12000,12000),(12001,12001)]) (fun _ _ _ _ _ f x2 L1 c h=>?_);apply kI Z h<;>intro h
 .refine Gn Z Mz h (fun x4 L8=>⟨[(26,pN x4),(25,pN (q0.If.n:Int)),(24,.p (vSl 2 A0 q0.If)),(6,pN x2),(5,.clo V6 [] [.reg 12000 0,.reg 12001 0]),(2,.reg 1 0),(1,.reg 0 0),(0,.yf 3)],[(12001,.cells [.p (vSl 2 A0 y1.2)]),(12000,.cells ((B3 y1.1).map .p)),(3,.yld (L8.map (fun (x:Int)=>[pI .i64 x])) true),(2,.cells [pN q2]),(1,.cells [.p (vSl 2 A0 q1)]),(0,.cells ((B3 q0).map .p))]⟩) (ids:=[(0,0),(1,1),(2,2),(3,3),(12000,12000),(12001,12001)]) (fun _ _ _ _ _ i x4 L8 j h=>?_);apply kI Z h<;>intro h
  .obtain⟨c47,h⟩:=I5 h;refine AB4 Z (And.intro c47 Ob) 9000 [pI .u32 (q0.If.g x4.toNat).Plus,pI .u32 (q0.If.g x4.toNat).Minus] ?_;refine J0 Z Mz [4,5,6,7] ?_;obtain⟨c48,h⟩:=I5 h;obtain⟨l,e12,h⟩:=D1 h;refine Bv (And.intro (And.intro c48 Ob) Ob) (JX Z Y e12) ?_;refine N2 Mz ?_;apply kI Z h<;>intro h
   .exact c _ [(0,0),(1,1),(2,2),(3,3),(12000,12000),(12001,12001)] _ (wrap .i64 (x2+1)) L8 Mz h
   exact j _ [(0,0),(1,1),(2,2),(3,3),(12000,12000),(12001,12001)] _ (wrap .i64 (x4+1)) L8 Mz h
  obtain⟨m,e13,h⟩:=D1 h;refine F0 Z [12000,12001] Mz (Oo Z Y e13) ?_;refine kG Z h (fun h=>?_) (fun h=>?_)
  .obtain⟨L10,rfl,d⟩:=Li h;replace h:=d;refine Dy Z Mz (ys:=(fun (x:Int)=>[pI .i64 x]) x2) (rest:=L10.map (fun (x:Int)=>[pI .i64 x])) ?_ ?_
   .refine E7 Z Mz (b:=false) (fun c53=>?_) (fun c53=>?_)
    .exact Bool.noConfusion ((rfl:false=false).symm.trans c53)
    exact c _ [(0,0),(1,1),(2,2),(3,3),(12000,12000),(12001,12001)] _ (wrap .i64 (x2+1)) L10 Mz h
   refine E7 Z Mz (b:=true) (fun c54=>?_) (fun c54=>?_)
   .exact A6 Z Mz (a:=.tup []) (objs:=[(.cells ((B3 q0).map .p)),.cells [.p (vSl 2 A0 q1)],.cells [pN q2],.yld [] false]) ⟨[],[(3,.yld [] false),(2,.cells [pN q2]),(1,.cells [.p (vSl 2 A0 q1)]),(0,.cells ((B3 q0).map .p))]⟩ [0,1,2,3] (ids:=[(0,0),(1,1),(2,2),(3,3)]) ⟨false,rfl,rfl,_,rfl⟩
   exact Bool.noConfusion (Og.symm.trans c54)
  exact c _ [(0,0),(1,1),(2,2),(3,3),(12000,12000),(12001,12001)] _ (wrap .i64 (x2+1)) L8 Mz h
 obtain rfl:=B9 h;exact A6 Z Mz (a:=.tup []) (objs:=[(.cells ((B3 q0).map .p)),.cells [.p (vSl 2 A0 q1)],.cells [pN q2],.yld [] true]) ⟨[],[(3,.yld [] true),(2,.cells [pN q2]),(1,.cells [.p (vSl 2 A0 q1)]),(0,.cells ((B3 q0).map .p))]⟩ [0,1,2,3] (ids:=[(0,0),(1,1),(2,2),(3,3)]) ⟨true,rfl,rfl,_,rfl⟩
def GW (N:Nat)(b:Law)(c:Sl Tb)(a:Int):Option (Law×(Sl Tb)×Int):= some (b,c,a)
theorem Px {b:Law}{c:Sl Tb}{a:Int}{y:Law×(Sl Tb)×Int}(h:GW N b c a=some y) :FunO S Pt [.p (.agg (B3 b)),.p (vSl 2 A0 c),pN a] [] (.clo Ee [] [.reg 0 0,.reg 1 0,.reg 2 0]) ([.cells ((B3 y.1).map .p),.cells [.p (vSl 2 A0 y.2.1)],.cells [pN y.2.2]]) []:=by unfold GW at h;refine A3 Z func91 ?_;obtain rfl:=B9 h;exact A6 Z Mz ⟨[(6,.clo Ee [] [.reg 4000 0,.reg 5000 0,.reg 6000 0])],[(6000,.cells [pN a]),(5000,.cells [.p (vSl 2 A0 c)]),(4000,.cells ((B3 b).map .p))]⟩ [4000,5000,6000] (ids:=[(4000,4000),(5000,5000),(6000,6000)]) ⟨rfl,rfl,rfl⟩
def CF (N:Nat)(b:Law)(c:Sl Tb)(a:Int):Option Bool:= (GW N b c a).bind fun y1=>(Z5 N y1.1 y1.2.1 y1.2.2).bind fun L1=>O1 L1 (fun d (x1:Int) (_:Unit)=>some (x1==a)) (fun (_:Unit)=>some false) ()
theorem Ts {b:Law}{c:Sl Tb}{a:Int}{y:Bool}(h:CF N b c a=some y) :FunO S Td [.p (.agg (B3 b)),.p (vSl 2 A0 c),pN a] [] (pB y) ([]) []:=by
 unfold CF at h;refine A3 Z func94 ?_;refine kC Z h (Px Z Y) (fun y1 h=>?_);obtain⟨L1,e2,h⟩:=D1 h;refine JO Z Mz [12000,12001,12002] [6,5] 901 (fun _=>⟨[(6,.reg 7000 0),(5,.reg 6000 0)],[(7000,.cells [.p (.v (.bool false))]),(6000,.cells [pN a])]⟩) (idl:=[(6000,6000),(7000,7000)]) h (La Z Y e2) (fun _=>by kernel_rfl) (fun _=>by kernel_rfl) (fun _=>by kernel_rfl) (fun _=>by kernel_rfl) (fun x1 _ d _ f h=>?_) (fun _ h=>?_)
 .refine Lj Z Mz ?_;refine QF Z Mz ⟨[(6,.reg 7000 0),(5,.reg 6000 0)],[(7000,.cells [pB (x1==a)]),(6000,.cells [pN a])]⟩ (ids:=[(901,901),(6000,6000),(7000,7000)]) ?_;cases h;exact kR Z
 cases h;exact kR Z
def Cm (N:Nat)(q0:Sl Tb)(q1:Law)(q2:Int)(q3:Int):Option (List (Int×(Sl Tb))):= if (q1.Mode==1) then (GW N q1 q0 0).bind fun y1=>(Z5 N y1.1 y1.2.1 y1.2.2).bind fun L1=>O1 L1 (fun b (x1:Int) (z1:(Sl Tb)×Int×Int)=>if (decide (x1<z1.2.1)) then b (z1.1,z1.2.1,z1.2.2) else if (((0:Int)<=(wrap .i64 (x1+z1.2.2))/\(wrap .i64 (x1+z1.2.2))<=(z1.1.n:Int))/\((0:Int)<=x1/\x1<=(wrap .i64 (x1+q2))/\(wrap .i64 (x1+q2))<=(q0.n:Int)))then (O7 N q1 (q0.sub x1.toNat (wrap .i64 (x1+q2)).toNat)).bind fun y6=>if ((0:Int)<=(wrap .i64 (x1+q2))/\(wrap .i64 (x1+q2))<=(q0.n:Int))then (A9 N (Sl.of [z1.1.take (wrap .i64 (x1+z1.2.2)).toNat,y6,q0.drop (wrap .i64 (x1+q2)).toNat]:Sl (Sl Tb))).bind fun y7=>Y4 (x1,y7) (b (y7,wrap .i64 (x1+(if q2<1 then 1 else q2)),wrap .i64 ((wrap .i64 (z1.2.2+q3))-q2))) else none else none) (fun (z1:(Sl Tb)×Int×Int)=>some []) (q0,0,0) else if (q1.Mode==2) then W9 N (fun a (x5:Sl Tb) (x6:Int)=>if (decide ((wrap .i64 (x6+q2))<=(x5.n:Int))) then (CF N q1 x5 x6).bind fun g=>if (!g) then a x5 (wrap .i64 (x6+1)) else (R6 N q1 x5 x6).bind fun d=>Y4 (x6,d) (if (q2==0) then a d (wrap .i64 ((wrap .i64 (x6+q3))+1)) else a d (wrap .i64 (x6+q3))) else some []) q0 0 else if (q1.Mode==3) then W9 N (fun c (x7:Sl Tb) (x8:Int)=>if (decide (0<=x8)) then (CF N q1 x7 x8).bind fun i=>if (!i) then c x7 (wrap .i64 (x8-1)) else (R6 N q1 x7 x8).bind fun f=>Y4 (x8,f) (c f (wrap .i64 (x8-(if q2<1 then 1 else q2)))) else some []) q0 (wrap .i64 ((q0.n:Int)-q2)) else some []
theorem Vj {q0:Sl Tb}{q1:Law}{q2:Int}{q3:Int}{L:List (Int×(Sl Tb))}(h:Cm N q0 q1 q2 q3=some L) :Dh S Fv [] [.reg 0 0,.reg 1 0,.reg 2 0,.reg 3 0] [.cells [.p (vSl 2 A0 q0)],.cells ((B3 q1).map .p),.cells [pN q2],.cells [pN q3]] (L.map (fun (x:Int×(Sl Tb))=>[pI .i64 x.1,vSl 2 A0 x.2])):=by
 unfold Cm at h;refine DY Z func90 ?_;apply kI Z h<;>intro h
 .refine kC Z h (Px Z Y) (fun y1 h=>?_);obtain⟨L1,e2,h⟩:=D1 h;refine Am2 Z Mz [20000,20001,20002] [8,7,6,5,4,3,2,1] 900 (fun z1 L2=>⟨[(8,.reg 9000 0),(7,.reg 8000 0),(6,.reg 7000 0),(5,.reg 6000 0),(4,.reg 3 0),(3,.reg 2 0),(2,.reg 1 0),(1,.reg 0 0)],[(9000,.cells [pN z1.2.2]),(8000,.cells [pN z1.2.1]),(7000,.cells [.p (vSl 2 A0 z1.1)]),(6000,.cells [.yf 4]),(4,.yld (L2.map (fun (x:Int×(Sl Tb))=>[pI .i64 x.1,vSl 2 A0 x.2])) true),(3,.cells [pN q3]),(2,.cells [pN q2]),(1,.cells ((B3 q1).map .p)),(0,.cells [.p (vSl 2 A0 q0)])]⟩) (idl:=[(0,0),(1,1),(2,2),(3,3),(4,4),(6000,6000),(7000,7000),(8000,8000),(9000,9000)]) h (La Z Y e2) (fun _=>by kernel_rfl) (fun _ _=>by kernel_rfl) (fun _ _=>by kernel_rfl) (fun _ _=>by kernel_rfl) (fun x1 _ s z1 L2 j h=>?_) (fun z1 L2 h=>?_)
  .refine Lj Z Mz ?_;apply kI Z h<;>intro h
   .exact j _ [(0,0),(1,1),(2,2),(3,3),(4,4),(900,900),(6000,6000),(7000,7000),(8000,8000),(9000,9000)] _ (z1.1,z1.2.1,z1.2.2) L2 Mz h
   refine U0 Z Mz [(0,.l [7000]),(2,.l [9000]),(5,.l [1]),(6,.l [0]),(9,.l [2]),(12,.n),(13,.l [0]),(15,.l [2]),(20,.a [7000])] ?_;obtain⟨c13,h⟩:=I5 h;obtain⟨y6,e7,h⟩:=D1 h;refine Bv c13 (Tr Z Y e7) ?_;obtain⟨c14,h⟩:=I5 h;refine Gm c14 (x:=.sl true 1 3 (J5 [AH] [(0,cL 2 A0 (z1.1.take (wrap .i64 (x1+z1.2.2)).toNat)),(1,cL 2 A0 y6),(2,cL 2 A0 (q0.drop (wrap .i64 (x1+q2)).toNat))])) ?_;obtain⟨y7,e8,h⟩:=D1 h;refine WA [] Mz (FunO.le Z (args:=[.p (.sl true 1 3 (J5 [AH] [(0,cL 2 A0 (z1.1.take (wrap .i64 (x1+z1.2.2)).toNat)),(1,cL 2 A0 y6),(2,cL 2 A0 (q0.drop (wrap .i64 (x1+q2)).toNat))]))]) (by exact⟨Za rfl (fun i t=>match i,t with|0,_=>rfl|1,_=>rfl|2,_=>rfl|_+3,t=>Ln t (by omega)),trivial⟩) (N6 Z Y e8)) ?_;refine N2 Mz ?_;obtain⟨L5,rfl,m⟩:=Li h;replace h:=m;refine Dy Z Mz (ys:=(fun (x:Int×(Sl Tb))=>[pI .i64 x.1,vSl 2 A0 x.2]) (x1,y7)) (rest:=L5.map (fun (x:Int×(Sl Tb))=>[pI .i64 x.1,vSl 2 A0 x.2])) ?_ ?_
   .refine E7 Z Mz (b:=false) (fun c15=>?_) (fun c15=>?_)
    .exact Bool.noConfusion ((rfl:false=false).symm.trans c15)
    refine U0 Z Mz [(1,.l [2]),(4,.l [9000]),(5,.l [3]),(7,.l [2]),(9,.a [8000]),(10,.a [9000])] ?_;refine N2 Mz ?_;exact j _ [(0,0),(1,1),(2,2),(3,3),(4,4),(900,900),(6000,6000),(7000,7000),(8000,8000),(9000,9000)] _ (y7,wrap .i64 (x1+(if q2<1 then 1 else q2)),wrap .i64 ((wrap .i64 (z1.2.2+q3))-q2)) L5 Mz h
   refine E7 Z Mz (b:=true) (fun c16=>?_) (fun c16=>?_)
   .refine QF Z Mz ⟨[(8,.reg 9000 0),(7,.reg 8000 0),(6,.reg 7000 0),(5,.reg 6000 0),(4,.reg 3 0),(3,.reg 2 0),(2,.reg 1 0),(1,.reg 0 0)],[(44000,.vec A4 2 y7.n (fun i=>A0 (y7.g i)) true),(9000,.cells [pN z1.2.2]),(8000,.cells [pN z1.2.1]),(7000,.cells [.vec 44000]),(6000,.cells [.yf 4]),(4,.yld [] false),(3,.cells [pN q3]),(2,.cells [pN q2]),(1,.cells ((B3 q1).map .p)),(0,.cells [.p (vSl 2 A0 q0)])]⟩ (ids:=[(0,0),(1,1),(2,2),(3,3),(4,4),(900,900),(6000,6000),(7000,7000),(8000,8000),(9000,9000),(44000,44000)]) ?_;exact A6 Z Mz (a:=.tup []) (objs:=[(.cells [.p (vSl 2 A0 q0)]),.cells ((B3 q1).map .p),.cells [pN q2],.cells [pN q3],.yld [] false]) ⟨[],[(4,.yld [] false),(3,.cells [pN q3]),(2,.cells [pN q2]),(1,.cells ((B3 q1).map .p)),(0,.cells [.p (vSl 2 A0 q0)])]⟩ [0,1,2,3,4] (ids:=[(0,0),(1,1),(2,2),(3,3),(4,4)]) ⟨false,rfl,rfl,_,rfl⟩
   exact Bool.noConfusion (Og.symm.trans c16)
  obtain rfl:=B9 h;exact A6 Z Mz (a:=.tup []) (objs:=[(.cells [.p (vSl 2 A0 q0)]),.cells ((B3 q1).map .p),.cells [pN q2],.cells [pN q3],.yld [] true]) ⟨[],[(4,.yld [] true),(3,.cells [pN q3]),(2,.cells [pN q2]),(1,.cells ((B3 q1).map .p)),(0,.cells [.p (vSl 2 A0 q0)])]⟩ [0,1,2,3,4] (ids:=[(0,0),(1,1),(2,2),(3,3),(4,4)]) ⟨true,rfl,rfl,_,rfl⟩
 apply kI Z h<;>intro h
 .refine HZ Z Mz h (fun x5 x6 L6=>⟨[(10,pN x6),(6,.reg 7000 0),(5,.reg 6000 0),(4,.reg 3 0),(3,.reg 2 0),(2,.reg 1 0)],[(7000,.cells [.p (vSl 2 A0 x5)]),(6000,.cells [.yf 4]),(4,.yld (L6.map (fun (x:Int×(Sl Tb))=>[pI .i64 x.1,vSl 2 A0 x.2])) true),(3,.cells [pN q3]),(2,.cells [pN q2]),(1,.cells ((B3 q1).map .p)),(0,.cells [.p (vSl 2 A0 q0)])]⟩) (ids:=[(0,0),(1,1),(2,2),(3,3),(4,4),(6000,6000),(7000,7000)]) (fun _ _ _ _ _ u x5 x6 L6 c h=>?_);apply kI Z h<;>intro h
  .refine kC Z h (Ts Z Y) (fun w h=>?_);apply kI Z h<;>intro h
   .exact c _ [(0,0),(1,1),(2,2),(3,3),(4,4),(6000,6000),(7000,7000)] _ x5 (wrap .i64 (x6+1)) L6 Mz h
   refine kC Z h (Ji Z Y) (fun d h=>?_);obtain⟨L9,rfl,o⟩:=Li h;replace h:=o;refine Dy Z Mz (ys:=(fun (x:Int×(Sl Tb))=>[pI .i64 x.1,vSl 2 A0 x.2]) (x6,d)) (rest:=L9.map (fun (x:Int×(Sl Tb))=>[pI .i64 x.1,vSl 2 A0 x.2])) ?_ ?_
   .refine E7 Z Mz (b:=false) (fun c30=>?_) (fun c30=>?_)
    .exact Bool.noConfusion ((rfl:false=false).symm.trans c30)
    apply kI Z h<;>intro h
    .exact c _ [(0,0),(1,1),(2,2),(3,3),(4,4),(6000,6000),(7000,7000)] _ d (wrap .i64 ((wrap .i64 (x6+q3))+1)) L9 Mz h
    exact c _ [(0,0),(1,1),(2,2),(3,3),(4,4),(6000,6000),(7000,7000)] _ d (wrap .i64 (x6+q3)) L9 Mz h
   refine E7 Z Mz (b:=true) (fun c32=>?_) (fun c32=>?_)
   .exact A6 Z Mz (a:=.tup []) (objs:=[(.cells [.p (vSl 2 A0 q0)]),.cells ((B3 q1).map .p),.cells [pN q2],.cells [pN q3],.yld [] false]) ⟨[],[(4,.yld [] false),(3,.cells [pN q3]),(2,.cells [pN q2]),(1,.cells ((B3 q1).map .p)),(0,.cells [.p (vSl 2 A0 q0)])]⟩ [0,1,2,3,4] (ids:=[(0,0),(1,1),(2,2),(3,3),(4,4)]) ⟨false,rfl,rfl,_,rfl⟩
   exact Bool.noConfusion (Og.symm.trans c32)
  obtain rfl:=B9 h;exact A6 Z Mz (a:=.tup []) (objs:=[(.cells [.p (vSl 2 A0 q0)]),.cells ((B3 q1).map .p),.cells [pN q2],.cells [pN q3],.yld [] true]) ⟨[],[(4,.yld [] true),(3,.cells [pN q3]),(2,.cells [pN q2]),(1,.cells ((B3 q1).map .p)),(0,.cells [.p (vSl 2 A0 q0)])]⟩ [0,1,2,3,4] (ids:=[(0,0),(1,1),(2,2),(3,3),(4,4)]) ⟨true,rfl,rfl,_,rfl⟩
 apply kI Z h<;>intro h
 .refine HZ Z Mz h (fun x7 x8 L10=>⟨[(11,pN x8),(6,.reg 7000 0),(5,.reg 6000 0),(3,.reg 2 0),(2,.reg 1 0)],[(7000,.cells [.p (vSl 2 A0 x7)]),(6000,.cells [.yf 4]),(4,.yld (L10.map (fun (x:Int×(Sl Tb))=>[pI .i64 x.1,vSl 2 A0 x.2])) true),(3,.cells [pN q3]),(2,.cells [pN q2]),(1,.cells ((B3 q1).map .p)),(0,.cells [.p (vSl 2 A0 q0)])]⟩) (ids:=[(0,0),(1,1),(2,2),(3,3),(4,4),(6000,6000),(7000,7000)]) (fun _ _ _ _ _ v x7 x8 L10 q h=>?_);apply kI Z h<;>intro h
  .refine kC Z h (Ts Z Y) (fun y h=>?_);apply kI Z h<;>intro h
   .exact q _ [(0,0),(1,1),(2,2),(3,3),(4,4),(6000,6000),(7000,7000)] _ x7 (wrap .i64 (x8-1)) L10 Mz h
   refine kC Z h (Ji Z Y) (fun r h=>?_);obtain⟨L13,rfl,f⟩:=Li h;replace h:=f;refine Dy Z Mz (ys:=(fun (x:Int×(Sl Tb))=>[pI .i64 x.1,vSl 2 A0 x.2]) (x8,r)) (rest:=L13.map (fun (x:Int×(Sl Tb))=>[pI .i64 x.1,vSl 2 A0 x.2])) ?_ ?_
   .refine E7 Z Mz (b:=false) (fun c44=>?_) (fun c44=>?_)
    .exact Bool.noConfusion ((rfl:false=false).symm.trans c44)
    exact q _ [(0,0),(1,1),(2,2),(3,3),(4,4),(6000,6000),(7000,7000)] _ r (wrap .i64 (x8-(if q2<1 then 1 else q2))) L13 Mz h
   refine E7 Z Mz (b:=true) (fun c45=>?_) (fun c45=>?_)
   .exact A6 Z Mz (a:=.tup []) (objs:=[(.cells [.p (vSl 2 A0 q0)]),.cells ((B3 q1).map .p),.cells [pN q2],.cells [pN q3],.yld [] false]) ⟨[],[(4,.yld [] false),(3,.cells [pN q3]),(2,.cells [pN q2]),(1,.cells ((B3 q1).map .p)),(0,.cells [.p (vSl 2 A0 q0)])]⟩ [0,1,2,3,4] (ids:=[(0,0),(1,1),(2,2),(3,3),(4,4)]) ⟨false,rfl,rfl,_,rfl⟩
   exact Bool.noConfusion (Og.symm.trans c45)
  obtain rfl:=B9 h;exact A6 Z Mz (a:=.tup []) (objs:=[(.cells [.p (vSl 2 A0 q0)]),.cells ((B3 q1).map .p),.cells [pN q2],.cells [pN q3],.yld [] true]) ⟨[],[(4,.yld [] true),(3,.cells [pN q3]),(2,.cells [pN q2]),(1,.cells ((B3 q1).map .p)),(0,.cells [.p (vSl 2 A0 q0)])]⟩ [0,1,2,3,4] (ids:=[(0,0),(1,1),(2,2),(3,3),(4,4)]) ⟨true,rfl,rfl,_,rfl⟩
 obtain rfl:=B9 h;exact A6 Z Mz (a:=.tup []) (objs:=[(.cells [.p (vSl 2 A0 q0)]),.cells ((B3 q1).map .p),.cells [pN q2],.cells [pN q3],.yld [] true]) ⟨[],[(4,.yld [] true),(3,.cells [pN q3]),(2,.cells [pN q2]),(1,.cells ((B3 q1).map .p)),(0,.cells [.p (vSl 2 A0 q0)])]⟩ [0,1,2,3,4] (ids:=[(0,0),(1,1),(2,2),(3,3),(4,4)]) ⟨true,rfl,rfl,_,rfl⟩
def Jj (N:Nat)(a:Law)(b:Sl Tb):Option ((Sl Tb)×Law×Int×Int):= some (b,a,(a.If.n:Int),(a.Out.n:Int))
theorem Aa6 {b:Law}{c:Sl Tb}{y:(Sl Tb)×Law×Int×Int}(h:Jj N b c=some y) :FunO S SY [.p (.agg (B3 b)),.p (vSl 2 A0 c)] [] (.clo Fv [] [.reg 0 0,.reg 1 0,.reg 2 0,.reg 3 0]) ([.cells [.p (vSl 2 A0 y.1)],.cells ((B3 y.2.1).map .p),.cells [pN y.2.2.1],.cells [pN y.2.2.2]]) []:=by unfold Jj at h;refine A3 Z func69 ?_;refine U0 Z Mz [(1,.l [3000]),(2,.n),(4,.l [3000]),(5,.n),(6,.a [6000]),(7,.a [7000]),(8,.a [6000]),(9,.a [7000])] ?_;refine N2 Mz ?_;obtain rfl:=B9 h;exact A6 Z Mz ⟨[(4,.clo Fv [] [.reg 4000 0,.reg 3000 0,.reg 6000 0,.reg 7000 0])],[(7000,.cells [pN (b.Out.n:Int)]),(6000,.cells [pN (b.If.n:Int)]),(4000,.cells [.p (vSl 2 A0 c)]),(3000,.cells ((B3 b).map .p))]⟩ [4000,3000,6000,7000] (ids:=[(3000,3000),(4000,4000),(6000,6000),(7000,7000)]) ⟨rfl,rfl,rfl⟩
def DJ (N:Nat)(b:Law)(c:Sl Tb):Option ((Sl Int)×(Sl (Sl Tb))×Int):= (FA N b c).bind fun y1=>if (y1 != 0) then some (Ra,(Sl.nil:Sl (Sl Tb)),y1) else (Jj N b c).bind fun y2=>(Cm N y2.1 y2.2.1 y2.2.2.1 y2.2.2.2).bind fun L1=>O1 L1 (fun a (x1:Int×(Sl Tb)) (z1:(Sl Int)×(Sl (Sl Tb)))=>if (decide (32<(x1.2.n:Int))) then some (Ra,(Sl.nil:Sl (Sl Tb)),11) else if ((z1.1.n+(Sl.of [x1.1]:Sl Int).n)*8<=140737488355328/\z1.1.n+(Sl.of [x1.1]:Sl Int).n<=140737488355328)then if ((z1.2.n+(Sl.of [x1.2]:Sl (Sl Tb)).n)*24<=140737488355328/\z1.2.n+(Sl.of [x1.2]:Sl (Sl Tb)).n<=140737488355328)then a (z1.1.push x1.1,z1.2.push x1.2) else none else none) (fun (z1:(Sl Int)×(Sl (Sl Tb)))=>some (z1.1,z1.2,0)) (Ra,(Sl.nil:Sl (Sl Tb)))
theorem Vk {b:Law}{d:Sl Tb}{y:(Sl Int)×(Sl (Sl Tb))×Int}(h:DJ N b d=some y) :FunO S MD [.p (.agg (B3 b)),.p (vSl 2 A0 d)] [] (.tup [.vec 0,.vec 1,pN y.2.2]) ([.vec H6 1 y.1.n (fun i=>cI .i64 (y.1.g i)) true,.vec A8 1 y.2.1.n (fun i=>cL 2 A0 (y.2.1.g i)) true]) []:=by
 unfold DJ at h;refine A3 Z func44 ?_;refine W7 Z Mz 4 3000 (B3 b) ?_;obtain⟨y1,e1,h⟩:=D1 h;refine F0 Z [] Oe (Vi Z Y e1) ?_;apply kI Z h<;>intro h
 .obtain rfl:=B9 h;exact A6 Z Mz ⟨[(6,.reg 7000 0),(5,.reg 6000 0),(4,.reg 5000 0)],[(7000,.cells [pN y1]),(6701,.vec A8 1 (Sl.nil:Sl (Sl Tb)).n (fun i=>cL 2 A0 ((Sl.nil:Sl (Sl Tb)).g i)) true),(6000,.cells [.vec 6701]),(5700,.vec H6 1 Ra.n (fun i=>cI .i64 (Ra.g i)) true),(5000,.cells [.vec 5700])]⟩ [5700,6701] (ids:=[(5000,5000),(6000,6000),(7000,7000)]) ⟨rfl,rfl,rfl⟩
 obtain⟨y2,e2,h⟩:=D1 h;refine F0 Z [] Oe (Aa6 Z Y e2) ?_;obtain⟨L1,e3,h⟩:=D1 h;refine JO Z Mz [21000,21001,21002,21003] [9,8,6,5,4] 901 (fun z1=>⟨[(9,.reg 10000 0),(8,.reg 9000 0),(6,.reg 7000 0),(5,.reg 6000 0),(4,.reg 5000 0)],[(10500,.vec A8 1 z1.2.n (fun i=>cL 2 A0 (z1.2.g i)) false),(10000,.cells [.vec 10500]),(9500,.vec H6 1 z1.1.n (fun i=>cI .i64 (z1.1.g i)) false),(9000,.cells [.vec 9500]),(7000,.cells [pN 0]),(6000,.cells [.p AH]),(5000,.cells [.p AH])]⟩) (idl:=[(5000,5000),(6000,6000),(7000,7000),(9000,9000),(10000,10000)]) h (Vj Z Y e3) (fun _=>by kernel_rfl) (fun _=>by kernel_rfl) (fun _=>by kernel_rfl) (fun _=>by kernel_rfl) (fun x1 _ f z1 j h=>?_) (fun z1 h=>?_)
 .refine Lj Z Mz ?_;apply kI Z h<;>intro h
  .refine QF Z Mz ⟨[(9,.reg 10000 0),(8,.reg 9000 0),(6,.reg 7000 0),(5,.reg 6000 0),(4,.reg 5000 0)],[(10500,.vec A8 1 z1.2.n (fun i=>cL 2 A0 (z1.2.g i)) false),(10000,.cells [.vec 10500]),(9500,.vec H6 1 z1.1.n (fun i=>cI .i64 (z1.1.g i)) false),(9000,.cells [.vec 9500]),(7000,.cells [pN 11]),(6000,.cells [.p AH]),(5000,.cells [.p AH])]⟩ (ids:=[(901,901),(5000,5000),(6000,6000),(7000,7000),(9000,9000),(9500,9500),(10000,10000),(10500,10500)]) ?_;obtain rfl:=B9 h;exact A6 Z Mz ⟨[(6,.reg 7000 0),(5,.reg 6000 0),(4,.reg 5000 0)],[(7000,.cells [pN 11]),(6701,.vec A8 1 (Sl.nil:Sl (Sl Tb)).n (fun i=>cL 2 A0 ((Sl.nil:Sl (Sl Tb)).g i)) true),(6000,.cells [.vec 6701]),(5700,.vec H6 1 Ra.n (fun i=>cI .i64 (Ra.g i)) true),(5000,.cells [.vec 5700])]⟩ [5700,6701] (ids:=[(5000,5000),(6000,6000),(7000,7000)]) ⟨rfl,rfl,rfl⟩
  refine U0 Z Mz [(0,.l [9000]),(3,.a [30000,9500]),(4,.l [10000]),(7,.a [34000,10500]),(8,.a [9000]),(9,.a [10000])] ?_;refine Gm Mz (x:=.sl true 1 1 (J5 [pI .i64 0] [(0,cI .i64 x1.1)])) ?_;obtain⟨c9,h⟩:=I5 h;refine Gm c9 (x:=.sl true 1 1 (J5 [AH] [(0,cL 2 A0 x1.2)])) ?_;obtain⟨c10,h⟩:=I5 h;refine N2 c10 ?_;exact j _ [(901,901),(5000,5000),(6000,6000),(7000,7000),(9000,9000),(9500,30000),(10000,10000),(10500,34000)] _ (z1.1.push x1.1,z1.2.push x1.2) Mz h (hle:=klR [(0,.fn (z1.2.n+1) (z1.2.push x1.2).n (Cb z1.2.n (fun i=>cL 2 A0 (z1.2.g i)) (J5 [AH] [(0,cL 2 A0 x1.2)])) (fun i=>cL 2 A0 ((z1.2.push x1.2).g i))),(1,.fn (z1.1.n+1) (z1.1.push x1.1).n (Cb z1.1.n (fun i=>cI .i64 (z1.1.g i)) (J5 [pI .i64 0] [(0,cI .i64 x1.1)])) (fun i=>cI .i64 ((z1.1.push x1.1).g i)))] (al1 ⟨rfl,Uf (c:=cL 2 A0) (v:=z1.2) (x:=x1.2) (z:=[AH]) same rfl rfl⟩ (al1 ⟨rfl,Uf (c:=cI .i64) (v:=z1.1) (x:=x1.1) (z:=[(pI .i64 0)]) same rfl rfl⟩ al0)))
 refine U0 Z Mz [(0,.l [9000]),(1,.l [10000]),(2,.a [5000]),(3,.a [6000]),(4,.a [7000])] ?_;refine N2 Mz ?_;obtain rfl:=B9 h;exact A6 Z Mz ⟨[(6,.reg 7000 0),(5,.reg 6000 0),(4,.reg 5000 0)],[(10500,.vec A8 1 z1.2.n (fun i=>cL 2 A0 (z1.2.g i)) true),(9500,.vec H6 1 z1.1.n (fun i=>cI .i64 (z1.1.g i)) true),(7000,.cells [pN 0]),(6000,.cells [.vec 10500]),(5000,.cells [.vec 9500])]⟩ [9500,10500] (ids:=[(5000,5000),(6000,6000),(7000,7000),(9500,9500),(10500,10500)]) ⟨rfl,rfl,rfl⟩
def P9 (N:Nat)(b:Law)(a:Sl Tb):Option ((Sl Tb)×Int):= (DJ N b a).bind fun y1=>if (y1.2.2 != 0) then some ((Sl.nil:Sl Tb),y1.2.2) else if (decide (0<(y1.2.1.n:Int))) then if (((0:Int)<=(wrap .i64 ((y1.2.1.n:Int)-1))/\(wrap .i64 ((y1.2.1.n:Int)-1))<(y1.2.1.n:Int))/\(wrap .i64 ((y1.2.1.n:Int)-1)).toNat<y1.2.1.n)then some (y1.2.1.g (wrap .i64 ((y1.2.1.n:Int)-1)).toNat,0) else none else (A5 N a).bind fun y2=>some (y2,0)
theorem MZ {a:Law}{b:Sl Tb}{y:(Sl Tb)×Int}(h:P9 N a b=some y) :FunO S My [.p (.agg (B3 a)),.p (vSl 2 A0 b)] [] (.tup [.p (vSl 2 A0 y.1),pN y.2]) ([]) []:=by
 unfold P9 at h;refine A3 Z func25 ?_;refine kC Z h (Vk Z Y) (fun y1 h=>?_);apply kI Z h<;>intro h
 .obtain rfl:=B9 h;exact A6 Z Mz ⟨[(5,pN y1.2.2),(4,.p (vSl 2 A0 (Sl.nil:Sl Tb)))],[]⟩ [] (ids:=[]) ⟨rfl,rfl,rfl⟩
 apply kI Z h<;>intro h
 .obtain⟨c3,h⟩:=I5 h;obtain rfl:=B9 h;exact ZS Z c3 [] ⟨rfl,rfl,rfl⟩
 refine kC Z h (O6 Z Y) (fun y2 h=>?_);obtain rfl:=B9 h;exact A6 Z Mz ⟨[(5,pN 0),(4,.p (vSl 2 A0 y2))],[]⟩ [] (ids:=[]) ⟨rfl,rfl,rfl⟩
end Go.AM
namespace Go.AM
open Go.Proofs.Tryz
variable {N:Nat}
open IntKind (wrap)
open Go.Proofs
set_option maxRecDepth 10000
set_option maxHeartbeats 2000000
variable {S:W8}(Z:G8 S Tryz.prog) (Y:Oh S)
include Z Y
def Q8 (N:Nat)(a:Law):Option Bool:= (Z4 N a).bind fun y1=>some (y1 != 0)
theorem Lr {a:Law}{y:Bool}(h:Q8 N a=some y) :FunO S FQ [.p (.agg (B3 a))] [] (pB y) ([]) []:=by unfold Q8 at h;refine A3 Z func88 ?_;refine kC Z h (Ib Z Y) (fun y1 h=>?_);cases h;exact kR Z
def F4 (N:Nat)(a:Sl Law)(c:Law->Option Bool):Option Int:= S3 N (fun b (x1:Int)=>if (decide (x1<(a.n:Int))) then if ((0:Int)<=x1/\x1<(a.n:Int))then (c (a.g x1.toNat)).bind fun y3=>if y3 then some x1 else b (wrap .i64 (x1+1)) else none else some (-1)) 0
theorem AR {a:Sl Law}{c:Law->Option Bool}{kp_f:Nat}(d:∀{a0:Law}{b:Bool},c a0=some b->FunO S kp_f [.p (.agg (B3 a0))] [] (pB b) [] []){y:Int}(h:F4 N a c=some y) :FunO S O5 [.p (vSl 18 B3 a),.clo kp_f [] []] [] (pN y) ([]) []:=by
 unfold F4 at h;refine A3 Z func107 ?_;refine AF Z Mz h (fun x1=>⟨[(8,pN x1),(7,pN (a.n:Int)),(1,.clo kp_f [] []),(0,.p (vSl 18 B3 a))],[]⟩) (ids:=[]) (fun _ _ _ _ _ f x1 g h=>?_);apply kI Z h<;>intro h
 .obtain⟨c8,h⟩:=I5 h;obtain⟨y3,e3,h⟩:=D1 h;refine F0 Z [] (And.intro c8 Oe) (d e3) ?_;apply kI Z h<;>intro h
  .cases h;exact kR Z
  exact g _ [] _ (wrap .i64 (x1+1)) Mz h
 cases h;exact kR Z
def C4 (N:Nat)(a:Sl Law)(b:Law->Option Bool):Option Bool:= (F4 N a b).bind fun y1=>some (decide (0<=y1))
theorem X5 {a:Sl Law}{c:Law->Option Bool}{kp_f:Nat}(d:∀{a0:Law}{b:Bool},c a0=some b->FunO S kp_f [.p (.agg (B3 a0))] [] (pB b) [] []){y:Bool}(h:C4 N a c=some y) :FunO S K8 [.p (vSl 18 B3 a),.clo kp_f [] []] [] (pB y) ([]) []:=by unfold C4 at h;refine A3 Z func87 ?_;refine kC Z h (AR Z Y (fun e=>d e)) (fun y1 h=>?_);cases h;exact kR Z
def V9 (N:Nat)(a:Sl Law):Option Int:= if (decide (64<(a.n:Int))) then some 12 else (C4 N a (fun (u1:Law)=>Q8 N u1)).bind fun y1=>if y1 then some 17 else some 0
theorem Oq {a:Sl Law}{y:Int}(h:V9 N a=some y) :FunO S HB [.p (vSl 18 B3 a)] [] (pN y) ([]) []:=by
 unfold V9 at h;refine A3 Z func62 ?_;apply kI Z h<;>intro h
 .cases h;exact kR Z
 refine kC Z h (X5 Z Y (fun e=>Lr Z Y e)) (fun y1 h=>?_);apply kI Z h<;>intro h
 .cases h;exact kR Z
 cases h;exact kR Z
def Bh (N:Nat)(b:Sl Law)(a:Sl (Sl Tb)):Option Int:= (V9 N b).bind fun y1=>if (y1 != 0) then some y1 else if (decide (256<(a.n:Int))) then some 12 else S3 N (fun c (x1:Int)=>if (decide (x1<(a.n:Int))) then if ((0:Int)<=x1/\x1<(a.n:Int))then (Z0 N (a.g x1.toNat)).bind fun y4=>if (y4 != 0) then some y4 else c (wrap .i64 (x1+1)) else none else some 0) 0
theorem Or {b:Sl Law}{a:Sl (Sl Tb)}{y:Int}(h:Bh N b a=some y) :FunO S Hy [.p (vSl 18 B3 b),.p (vSl 1 (cL 2 A0) a)] [] (pN y) ([]) []:=by
 unfold Bh at h;refine A3 Z func38 ?_;refine kC Z h (Oq Z Y) (fun y1 h=>?_);apply kI Z h<;>intro h
 .cases h;exact kR Z
 apply kI Z h<;>intro h
 .cases h;exact kR Z
 refine AF Z Mz h (fun x1=>⟨[(19,pN x1),(18,pN (a.n:Int)),(17,.p (vSl 1 (cL 2 A0) a))],[]⟩) (ids:=[]) (fun _ _ _ _ _ c x1 d h=>?_);apply kI Z h<;>intro h
 .obtain⟨c10,h⟩:=I5 h;obtain⟨y4,e4,h⟩:=D1 h;refine F0 Z [] c10 (GD Z Y e4) ?_;apply kI Z h<;>intro h
  .cases h;exact kR Z
  exact d _ [] _ (wrap .i64 (x1+1)) Mz h
 cases h;exact kR Z
end Go.AM
namespace Go.AM
open Go.Proofs.Tryz
variable {N:Nat}
open IntKind (wrap)
open Go.Proofs
set_option maxRecDepth 10000
set_option maxHeartbeats 2000000
variable {S:W8}(Z:G8 S Tryz.prog) (Y:Oh S)
include Z Y
def Ao1 (c:Int):Option PV:=if c=0 then none else some (.iface 147 (pI .i64 c))
def Bm (N:Nat)(c:Int)(q0:Sl Tb)(q1:Sl Law):Option (List (Int×(Sl Tb))):= (A5 N q0).bind fun y1=>Y4 (0,y1) (W9 N (fun a (x1:Sl Tb) (x2:Int)=>if (decide (x2<(q1.n:Int))) then if ((0:Int)<=x2/\x2<(q1.n:Int))then (P9 N (q1.g x2.toNat) x1).bind fun y4=>if (y4.2 != 0) then if y4.2=c then some []else none else Y4 (wrap .i64 (x2+1),y4.1) (a y4.1 (wrap .i64 (x2+1))) else none else if c=0 then some []else none) y1 0)
theorem FS {q0:Sl Tb}{q1:Sl Law}{c:Int}{L:List (Int×(Sl Tb))}(h:Bm N c q0 q1=some L) :Mu S Q6 [] [.reg 0 0,.reg 1 0] [.cells [.p (vSl 2 A0 q0)],.cells [.p (vSl 18 B3 q1)]] (L.map (fun (x:Int×(Sl Tb))=>[pI .i64 x.1,vSl 2 A0 x.2])) (Ao1 c):=by
 unfold Bm at h;refine ZV Z func108 ?_;refine kC Z h (O6 Z Y) (fun y1 h=>?_);obtain⟨L1,rfl,d⟩:=Li h;replace h:=d;refine Dy Z Mz (ys:=(fun (x:Int×(Sl Tb))=>[pI .i64 x.1,vSl 2 A0 x.2]) (0,y1)) (rest:=L1.map (fun (x:Int×(Sl Tb))=>[pI .i64 x.1,vSl 2 A0 x.2])) ?_ ?_
 .refine E7 Z Mz (b:=false) (fun c1=>?_) (fun c1=>?_)
  .exact Bool.noConfusion ((rfl:false=false).symm.trans c1)
  refine HZ Z Mz h (fun x1 x2 L2=>⟨[(17,pN x2),(16,pN (q1.n:Int)),(15,.p (vSl 18 B3 q1)),(4,.p (vSl 2 A0 x1)),(0,.yf 2)],[(2,.yld (L2.map (fun (x:Int×(Sl Tb))=>[pI .i64 x.1,vSl 2 A0 x.2])) true),(1,.cells [.p (vSl 18 B3 q1)]),(0,.cells [.p (vSl 2 A0 q0)])]⟩) (ids:=[(0,0),(1,1),(2,2)]) (fun _ _ _ _ _ g x1 x2 L2 i h=>?_);apply kI Z h<;>intro h
  .obtain⟨c13,h⟩:=I5 h;obtain⟨y4,e4,h⟩:=D1 h;refine F0 Z [] (And.intro c13 Oe) (MZ Z Y e4) ?_;refine E7 Z Mz (b:=y4.2 != 0) (fun c14=>?_) (fun c14=>?_)
   .replace h:=itT c14 h;obtain⟨c0,h⟩:=I5 h;obtain rfl:=B9 h;have j:Ao1 c=some (.iface 147 (pI .i64 y4.2)):=by
     have:¬y4.2=0:=by simpa using c14
     rw[<- c0];simp[Ao1,this]
    refine AB8 Z Mz (x:=.iface 147 (pI .i64 y4.2)) ?_;exact Au4 Z Mz (x:=.iface 147 (pI .i64 y4.2)) (objs:=[(.cells [.p (vSl 2 A0 q0)]),.cells [.p (vSl 18 B3 q1)],.yld [] true]) [0,1,2] ⟨true,rfl,rfl,fun _=>by rw[j];rfl,fun e=>nomatch e⟩
   replace h:=itF c14 h;obtain⟨L5,rfl,f⟩:=Li h;replace h:=f;refine Dy Z Mz (ys:=(fun (x:Int×(Sl Tb))=>[pI .i64 x.1,vSl 2 A0 x.2]) (wrap .i64 (x2+1),y4.1)) (rest:=L5.map (fun (x:Int×(Sl Tb))=>[pI .i64 x.1,vSl 2 A0 x.2])) ?_ ?_
   .refine E7 Z Mz (b:=false) (fun c15=>?_) (fun c15=>?_)
    .exact Bool.noConfusion ((rfl:false=false).symm.trans c15)
    exact i _ [(0,0),(1,1),(2,2)] _ y4.1 (wrap .i64 (x2+1)) L5 Mz h
   refine E7 Z Mz (b:=true) (fun c16=>?_) (fun c16=>?_)
   .exact A6 Z Mz (a:=.tup []) (objs:=[(.cells [.p (vSl 2 A0 q0)]),.cells [.p (vSl 18 B3 q1)],.yld [] false]) ⟨[],[(2,.yld [] false),(1,.cells [.p (vSl 18 B3 q1)]),(0,.cells [.p (vSl 2 A0 q0)])]⟩ [0,1,2] (ids:=[(0,0),(1,1),(2,2)]) ⟨false,rfl,rfl,fun e=>(nomatch e),fun _=>⟨_,rfl⟩⟩
   exact Bool.noConfusion (Og.symm.trans c16)
  obtain⟨c0,h⟩:=I5 h;obtain rfl:=B9 h;exact A6 Z Mz (a:=.tup []) (objs:=[(.cells [.p (vSl 2 A0 q0)]),.cells [.p (vSl 18 B3 q1)],.yld [] true]) ⟨[],[(2,.yld [] true),(1,.cells [.p (vSl 18 B3 q1)]),(0,.cells [.p (vSl 2 A0 q0)])]⟩ [0,1,2] (ids:=[(0,0),(1,1),(2,2)]) ⟨true,rfl,rfl,fun _=>by subst c0;exact⟨_,rfl⟩,fun e=>(nomatch e)⟩
 refine E7 Z Mz (b:=true) (fun c17=>?_) (fun c17=>?_)
 .exact A6 Z Mz (a:=.tup []) (objs:=[(.cells [.p (vSl 2 A0 q0)]),.cells [.p (vSl 18 B3 q1)],.yld [] false]) ⟨[],[(2,.yld [] false),(1,.cells [.p (vSl 18 B3 q1)]),(0,.cells [.p (vSl 2 A0 q0)])]⟩ [0,1,2] (ids:=[(0,0),(1,1),(2,2)]) ⟨false,rfl,rfl,fun e=>(nomatch e),fun _=>⟨_,rfl⟩⟩
 exact Bool.noConfusion (Og.symm.trans c17)
def Cy (N:Nat)(a:Sl Law)(b:Sl Tb):Option ((Sl Tb)×(Sl Law)):= some (b,a)
theorem HI {a:Sl Law}{b:Sl Tb}{y:(Sl Tb)×(Sl Law)}(h:Cy N a b=some y) :FunO S HD [.p (vSl 18 B3 a),.p (vSl 2 A0 b)] [] (.clo Q6 [] [.reg 0 0,.reg 1 0]) ([.cells [.p (vSl 2 A0 y.1)],.cells [.p (vSl 18 B3 y.2)]]) []:=by unfold Cy at h;refine A3 Z func89 ?_;obtain rfl:=B9 h;exact A6 Z Mz ⟨[(4,.clo Q6 [] [.reg 4000 0,.reg 3000 0])],[(4000,.cells [.p (vSl 2 A0 b)]),(3000,.cells [.p (vSl 18 B3 a)])]⟩ [4000,3000] (ids:=[(3000,3000),(4000,4000)]) ⟨rfl,rfl,rfl⟩
def F6 (N:Nat)(c:Int)(a:Sl Law)(d:Sl Tb):Option (Sl Tb):= (Cy N a d).bind fun y1=>(Bm N c y1.1 y1.2).bind fun L1=>O1 L1 (fun b (x1:Int×(Sl Tb)) (z1:Sl Tb)=>b x1.2) (fun (z1:Sl Tb)=>some z1) (Sl.nil:Sl Tb)
theorem JY {a:Sl Law}{b:Sl Tb}{y:Sl Tb}(h:F6 N 0 a b=some y) :FunO S I1 [.p (vSl 18 B3 a),.p (vSl 2 A0 b)] [] (.p (vSl 2 A0 y)) ([]) []:=by
 unfold F6 at h;refine A3 Z func65 ?_;refine kC Z h (HI Z Y) (fun y1 h=>?_);obtain⟨L1,e2,h⟩:=D1 h;have f:Mu S Q6 [] [.reg 0 0,.reg 1 0] [.cells [.p (vSl 2 A0 y1.1)],.cells [.p (vSl 18 B3 y1.2)]] (L1.map (fun (x:Int×(Sl Tb))=>[pI .i64 x.1,vSl 2 A0 x.2])) none:=FS Z Y e2;refine WH Z Mz [8000,8001] [4] 901 (fun z1=>⟨[(4,.reg 5000 0)],[(5000,.cells [.p (vSl 2 A0 z1)])]⟩) (idl:=[(5000,5000)]) h f (fun _=>by kernel_rfl) (fun _=>by kernel_rfl) (fun _=>by kernel_rfl) (fun _=>by kernel_rfl) (fun x1 _ c z1 d h=>?_) (fun z1 h=>?_)
 .refine Lj Z Mz ?_;exact d _ [(901,901),(5000,5000)] _ x1.2 Mz h
 cases h;exact kR Z
theorem JZ {c:Int}{a:Sl Law}{b:Sl Tb}{y:Sl Tb}(hc:c≠0)(h:F6 N c a b=some y) :S.F I1 [.p (vSl 18 B3 a),.p (vSl 2 A0 b)] [] fun res o k=>res=.panic (.iface 147 (pI .i64 c))/\o=[]/\k=[]:=by
 unfold F6 at h;refine An1 Z func65 ?_;refine kC Z h (HI Z Y) (fun y1 h=>?_);obtain⟨L1,e2,h⟩:=D1 h;have g:Mu S Q6 [] [.reg 0 0,.reg 1 0] [.cells [.p (vSl 2 A0 y1.1)],.cells [.p (vSl 18 B3 y1.2)]] (L1.map (fun (x:Int×(Sl Tb))=>[pI .i64 x.1,vSl 2 A0 x.2])) (some (.iface 147 (pI .i64 c))):=by
  have:=FS Z Y e2
  simpa[Ao1,hc]using this
 refine WH Z Mz [8000,8001] [4] 901 (fun z1=>⟨[(4,.reg 5000 0)],[(5000,.cells [.p (vSl 2 A0 z1)])]⟩) (idl:=[(5000,5000)]) h g (fun _=>by kernel_rfl) (fun _=>by kernel_rfl) (fun _=>by kernel_rfl) (fun _=>by kernel_rfl) (fun x1 _ d z1 f h=>?_) (fun z1 h=>?_)
 .refine Lj Z Mz ?_;exact f _ [(901,901),(5000,5000)] _ x1.2 Mz h
 exact Au4 Z Mz (x:=.iface 147 (pI .i64 c)) (objs:=[]) [] ⟨rfl,rfl,rfl⟩
def O0 (N:Nat)(a:Sl Law)(b:Sl Tb):Option ((Sl Tb)×Bool):=
 match F6 N 0 a b with
 |some y=>some (y,true)
 |none=>(F6 N 11 a b).bind fun _=>some ((Sl.nil:Sl Tb),false)
theorem Ls {b:Sl Law}{c:Sl Tb}{y:(Sl Tb)×Bool}(h:O0 N b c=some y) :FunO S FN [.p (vSl 18 B3 b),.p (vSl 2 A0 c)] [] (.tup [.p (vSl 2 A0 y.1),pB y.2]) ([]) []:=by
 unfold O0 at h;refine A3 Z func39 ?_;rcases e:F6 N 0 b c with _|z
 .rw[e]at h;obtain⟨z,e1,h⟩:=D1 h;obtain rfl:=B9 h;refine F0 Z [7000,3000,4000,5000] Mz (Y.attP (JZ Z Y (by decide) e1)) ?_;refine U0 Z Mz [(0,.l [5000]),(1,.l [7000]),(3,.a [5000])] ?_;refine N2 Mz ?_;exact A6 Z Mz ⟨[(5,pB false),(4,.reg 5000 0)],[(5000,.cells [.p (vSl 2 A0 Sl.nil)])]⟩ [] (ids:=[(5000,5000)]) ⟨rfl,rfl,rfl⟩
 rw[e]at h;obtain rfl:=B9 h;refine F0 Z [7000,3000,4000,5000] Mz (Y.attR (JY Z Y e)) ?_;refine U0 Z Mz [(0,.l [5000]),(1,.l [7000]),(3,.a [5000])] ?_;refine N2 Mz ?_;exact A6 Z Mz ⟨[(5,pB true),(4,.reg 5000 0)],[(5000,.cells [.p (vSl 2 A0 z)])]⟩ [] (ids:=[(5000,5000)]) ⟨rfl,rfl,rfl⟩
end Go.AM
namespace Go.AM
open Go.Proofs
set_option maxRecDepth 10000
set_option maxHeartbeats 2000000
variable {S:W8}(Z:G8 S Tryz.prog) (Y:Oh S)
include Z Y
def Q0 (N:Nat)(a:Sl Law)(b:Sl Tb):Option ((Sl Tb)×Int):= (Bh N a (Sl.of [b]:Sl (Sl Tb))).bind fun y1=>if (y1 != 0) then some ((Sl.nil:Sl Tb),y1) else (O0 N a b).bind fun y2=>if (!y2.2) then some ((Sl.nil:Sl Tb),11) else some (y2.1,0)
theorem Na {N:Nat}{a:Sl Law}{b:Sl Tb}{y:(Sl Tb)×Int}(h:Q0 N a b=some y) :FunO S Gs [.p (vSl 18 B3 a),.p (vSl 2 A0 b)] [] (.tup [.p (vSl 2 A0 y.1),pN y.2]) ([]) []:=by
 unfold Q0 at h;refine A3 Z Tryz.func23 ?_;refine II Z Og ⟨[(11,.vec 12000),(9,.p (vSl 18 B3 a)),(1,.p (vSl 2 A0 b)),(0,.p (vSl 18 B3 a))],[(12000,.vec A8 1 (Sl.of [b]:Sl (Sl Tb)).n (fun i=>cL 2 A0 ((Sl.of [b]:Sl (Sl Tb)).g i)) false)]⟩ (ids:=[(12000,12000)]) ?_ (hle:=klR [(3,.fn 1 (Sl.of [b]:Sl (Sl Tb)).n (J5 [AH] [(0,cL 2 A0 b)]) (fun i=>cL 2 A0 ((Sl.of [b]:Sl (Sl Tb)).g i)))] (al1 ⟨rfl,(fun i c=>match i,c with|0,_=>rfl|_+1,c=>Ln c (by omega))⟩ al0));refine kC Z h (Or Z Y) (fun y1 h=>?_);apply kI Z h<;>intro h
 .obtain rfl:=B9 h;exact A6 Z Mz ⟨[(5,pN y1),(4,.p (vSl 2 A0 (Sl.nil:Sl Tb)))],[]⟩ [] (ids:=[]) ⟨rfl,rfl,rfl⟩
 refine kC Z h (Ls Z Y) (fun y2 h=>?_);apply kI Z h<;>intro h
 .obtain rfl:=B9 h;exact A6 Z Mz ⟨[(5,pN 11),(4,.p (vSl 2 A0 (Sl.nil:Sl Tb)))],[]⟩ [] (ids:=[]) ⟨rfl,rfl,rfl⟩
 cases h;exact kR Z
end Go.AM
