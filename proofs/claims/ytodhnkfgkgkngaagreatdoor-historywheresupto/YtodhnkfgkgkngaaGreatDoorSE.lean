/- What a law's walk and its plain proof need, part 5: no condition of its own. -/
import Derived.Test.YtodhnkfgkgkngaaGreatDoorSD
import Derived.Test.YtodhnkfgkgkngaaGreatDoorSC
import Derived.RecoverIn
import Derived.Test.YtodhnkfgkgkngaaGreatDoorProg
import Derived.Lib.SlTrimSet
import Derived.TacticsInMore
set_option linter.defProp false
set_option linter.unusedSimpArgs false
set_option linter.unusedVariables false
set_option linter.unusedSectionVars false
namespace Go.AM
noncomputable abbrev AC9:=Go.Proofs.Tryz.prog.funcs
def AE5:=@BitVec.getLsbD_and
def AG1:=@Bool.eq_iff_iff
def AI0:=@BitVec.eq_of_getLsbD_eq
def AR3:=@BitVec.getLsbD_ushiftRight
def AR4:=@BitVec.getLsbD_one
def AS0:=@BitVec.getLsbD_shiftLeft
def AT0:=@BitVec.getLsbD_setWidth
def AU2:=@BitVec.getLsbD_ofBool
def AW1:=@BitVec.toNat_ofNat
def AW7:=@Go.Proofs.Tryz.func11
def XL (D:List Deferred)(a:Act):Act:={ a with defers:=a.defers++D }
theorem Ei (D:List Deferred)(a:Act)(d:Option Tmp)(v:Value):(XL D a).put d v=XL D (a.put d v):=by cases d<;>rfl
theorem Hv {F:Fence}{n:Nat}{P:Program}{ops:Array Oper}{Q:Exit->Act->World->Prop}(D:List Deferred):∀(l:List Nat) (a:Act) (w:World),wpOpsIn F n P ops Q l a w ->
 wpOpsIn F n P ops (fun e a' w'=>∃a0,a' = XL D a0/\Q e a0 w') l (XL D a) w
 |[],a,w,h=>⟨a,rfl,h⟩
 |i::l,a,w,h=>by
  have ih:=Hv (F:=F) (n:=n) (P:=P) (ops:=ops) (Q:=Q) D l;simp only[wpOpsIn]at h⊢;have e1:(XL D a).eval=a.eval:=by funext x;cases x<;>rfl
  have e2:(XL D a).tmps=a.tmps:=rfl;cases j:ops[i]? with
  |none=>simp only[j]at h⊢;exact ih a w h
  |some o=>
   simp only[j]at h⊢;rw[e2,e1];by_cases hw:Region.wanted o (yielded ops a.tmps)=true
   ·rw[if_pos hw]at h⊢;refine⟨by rw[e1];exact h.1,?_⟩;have b:=h.2;rw[e1];generalize (o.semAt F.round a.eval).run P w=r at b;unfold Oper.uponIn at b⊢;split at b
    ·rw[Ei];exact ih _ _ b
    ·rw[Ei];exact ih _ _ b
    ·exact ih _ _ b |> fun x=>by
      rename_i d w'
      have:({ (XL D a)with defers:=d::(XL D a).defers }:Act).put o.dst undef=XL D (({ a with defers:=d::a.defers }:Act).put o.dst undef):=by rw[<- Ei];rfl
      rw[this];exact x
    ·refine⟨b.1,b.2.mono ?_⟩;intro e w' f;cases e with
     |returned v=>have:=ih _ _ f;rw[<- Ei]at this;exact this
     |panicked ch=>exact⟨a,rfl,f⟩
     |outgrown=>obtain⟨a1,w1,g⟩:=f;exact⟨XL D a1,w1,a1,rfl,g⟩
    ·refine⟨b.1,fun c cs m=>?_⟩;obtain⟨v,w',g1,g2⟩:=b.2 c cs m;exact⟨v,w',by have:=ih _ _ g1;rw[<- Ei]at this;exact this,g2⟩
    ·refine⟨b.1,b.2.mono ?_⟩;intro e w' f;cases e with
     |returned v=>have:=ih _ _ f;rw[<- Ei]at this;exact this
     |panicked ch=>exact⟨a,rfl,f⟩
     |outgrown=>obtain⟨a1,w1,g⟩:=f;exact⟨XL D a1,w1,a1,rfl,g⟩
    ·exact⟨a,rfl,b⟩
    ·exact b.elim
   ·rw[if_neg hw]at h⊢;rw[Ei];exact⟨h.1,ih _ _ h.2⟩
section
variable {P:Program}{C:Ctx}{st:St}{rho:Nat->Value}
theorem Ej {fn:Func}{R:Ending->World->Prop}{u:FrameMode}(c:u ≠ .run){tmps:Array Value}{D:List Deferred}(b:∀a w,Sat C st a w rho->a.tmps=tmps->LeavesInM Fence.wide 0 P fn tmps R D u w) :∀(ds:List Deferred) (a:Act) (w:World),a.defers=ds->a.tmps=tmps->Sat C st a w rho->LeavesInM Fence.wide 0 P fn tmps R (ds++D) u w
 |[],a,w,hd,ht,h=>b a w h ht
 |d::ds,a,w,hd,ht,h=>by obtain⟨r,w',h1,f,g⟩:=h.unmark hd;exact⟨c,.inl ⟨r,w',h1,f,Ej c b ds { a with defers:=ds } w' rfl ht g⟩⟩
end
end Go.AM
namespace Go.AM
structure F0 where
 Parent:Int
 Name:Str
 deriving Inhabited,DecidableEq
abbrev C6 (x:F0):List PV:=[(pI .i64 x.Parent),.str x.Name]
structure Sound where
 Plus:Int
 Minus:Int
 deriving Inhabited,DecidableEq
abbrev A0 (x:Sound):List PV:=[(pI .u32 x.Plus),pI .u32 x.Minus]
inductive Pat where
 |nil
 |mk (Kind:Int) (Is:Sound) (Not:Bool) (Min:Int) (Max:Int) (n:Nat) (g:Nat->Pat)
instance:Inhabited Pat:=⟨.nil⟩
def Pat.Kind:Pat->Int
 |.nil=>0
 |.mk x _ _ _ _ _ _=>x
def Pat.Is:Pat->Sound
 |.nil=>default
 |.mk _ x _ _ _ _ _=>x
def Pat.Not:Pat->Bool
 |.nil=>false
 |.mk _ _ x _ _ _ _=>x
def Pat.Min:Pat->Int
 |.nil=>0
 |.mk _ _ _ x _ _ _=>x
def Pat.Max:Pat->Int
 |.nil=>0
 |.mk _ _ _ _ x _ _=>x
def Pat.L:Pat->Sl Pat
 |.nil=>⟨0,fun _=>.nil⟩
 |.mk _ _ _ _ _ n g=>⟨n,g⟩
def Co:Pat->Nat->List PV
 |.nil=>fun _=>[]
 |.mk _ _ _ _ _ n g=>fun i=>[(pI .i64 (g i).Kind),pI .u32 (g i).Is.Plus,pI .u32 (g i).Is.Minus,.bb (g i).Not,pI .i64 (g i).Min,pI .i64 (g i).Max,.sl false 7 (g i).L.n (Co (g i))]
abbrev B5 (x:Pat):List PV:=[(pI .i64 x.Kind),pI .u32 x.Is.Plus,pI .u32 x.Is.Minus,.bb x.Not,pI .i64 x.Min,pI .i64 x.Max,.sl false 7 x.L.n (Co x)]
theorem AJ (x:Pat):∀i,i<x.L.n->Co x i=B5 (x.L.g i):=by
 cases x with
 |nil=>intro i a;exact absurd (show i<0 from a) (by omega)
 |mk Kind Is Not Min Max n g=>exact fun _ _=>rfl
structure Bd where
 From:Int
 Clear:Int
 Set:Sound
 Take:Int
 Of:Int
 deriving Inhabited,DecidableEq
abbrev Q9 (x:Bd):List PV:=[(pI .i64 x.From),pI .u32 x.Clear,pI .u32 x.Set.Plus,pI .u32 x.Set.Minus,pI .u32 x.Take,pI .i64 x.Of]
structure Law where
 Name:Str
 Left:Pat
 Right:Pat
 If:(Sl Sound)
 Out:(Sl Bd)
 Mode:Int
 deriving Inhabited
abbrev B2 (x:Law):List PV:=[(.str x.Name),pI .i64 x.Left.Kind,pI .u32 x.Left.Is.Plus,pI .u32 x.Left.Is.Minus,.bb x.Left.Not,pI .i64 x.Left.Min,pI .i64 x.Left.Max,.sl false 7 x.Left.L.n (Co x.Left),pI .i64 x.Right.Kind,pI .u32 x.Right.Is.Plus,pI .u32 x.Right.Is.Minus,.bb x.Right.Not,pI .i64 x.Right.Min,pI .i64 x.Right.Max,.sl false 7 x.Right.L.n (Co x.Right),vSl 2 A0 x.If,vSl 6 Q9 x.Out,pI .i64 x.Mode]
structure A5 where
 Tree:(Sl F0)
 Laws:(Sl Law)
 On:(Sl (Sl Int))
 deriving Inhabited
abbrev A4 (x:A5):List PV:=[(vSl 2 C6 x.Tree),vSl 18 B2 x.Laws,vSl 1 (cL 1 (cI .i64)) x.On]
structure Ek where
 Parents:(Sl Int)
 Laws:(Sl Law)
 On:(Sl Int)
 deriving Inhabited
abbrev Y0 (x:Ek):List PV:=[(vSl 1 (cI .u8) x.Parents),vSl 18 B2 x.Laws,vSl 1 (cI .u16) x.On]
structure R4 where
 w:(Sl Sound)
 e:Int
 deriving Inhabited
abbrev I6 (x:R4):List PV:=[(vSl 2 A0 x.w),pI .i64 x.e]
inductive Part where
 |nil
 |sound (x:Sound) (no:Bool)
 |edge (e:Bool)
 |seq (n:Nat) (g:Nat->Part)
 |alt (n:Nat) (g:Nat->Part)
 |rep (o:Part) (mn mx:Int)
instance:Inhabited Part:=⟨.nil⟩
def Part.t:Part->Nat
 |.nil=>0
 |.sound _ _=>221
 |.edge _=>223
 |.seq _ _=>228
 |.alt _ _=>225
 |.rep _ _ _=>227
def Part.v:Part->PV
 |.nil=>.bb false
 |.sound x no=>.agg [pI .u32 x.Plus,pI .u32 x.Minus,.bb no]
 |.edge e=>.agg [.bb e]
 |.seq n g=>.agg [.sl false 1 n fun i=>[.iface (g i).t (g i).v]]
 |.alt n g=>.agg [.sl false 1 n fun i=>[.iface (g i).t (g i).v]]
 |.rep o mn mx=>.agg [.iface o.t o.v,pI .i64 mn,pI .i64 mx]
abbrev Fg (x:Part):PV:=.iface x.t x.v
abbrev DL (x:Part):List PV:=[Fg x]
structure XM where
 is:Sound
 not:Bool
 deriving Inhabited,DecidableEq
abbrev UA (x:XM):List PV:=[(pI .u32 x.is.Plus),pI .u32 x.is.Minus,.bb x.not]
structure Ap1 where
 end_:Bool
 deriving Inhabited,DecidableEq
abbrev Ap2 (x:Ap1):List PV:=[(.bb x.end_)]
structure Palt where
 l:(Sl Part)
 deriving Inhabited
abbrev Az5 (x:Palt):List PV:=[(vSl 1 DL x.l)]
structure Az6 where
 of:Part
 min:Int
 max:Int
 deriving Inhabited
abbrev Az7 (x:Az6):List PV:=[(Fg x.of),pI .i64 x.min,pI .i64 x.max]
structure Pseq where
 l:(Sl Part)
 deriving Inhabited
abbrev Az8 (x:Pseq):List PV:=[(vSl 1 DL x.l)]
end Go.AM
namespace Go.AM
open Go.Proofs
abbrev AC:Nat:=6
abbrev Ai:Nat:=11
theorem Cd:AC9[Ai]? = some Tryz.f11:=AW7
abbrev KJ:Nat:=12
abbrev KK:Nat:=13
abbrev Jd:Nat:=14
abbrev Fh:Nat:=16
abbrev EI:Nat:=18
abbrev KM:Nat:=20
abbrev KN:Nat:=21
abbrev Gj:Nat:=23
abbrev Gk:Nat:=27
abbrev EJ:Nat:=29
abbrev Fi:Nat:=30
abbrev Hw:Nat:=31
abbrev Fj:Nat:=32
abbrev Gl:Nat:=33
abbrev KQ:Nat:=34
abbrev XN:Nat:=35
abbrev XO:Nat:=36
abbrev Hx:Nat:=47
abbrev Fk:Nat:=48
abbrev XP:Nat:=49
abbrev Gm:Nat:=51
abbrev Np:Nat:=56
abbrev Nq:Nat:=57
abbrev Fl:Nat:=58
abbrev Gn:Nat:=59
abbrev Hy:Nat:=60
abbrev Gp:Nat:=61
abbrev Hz:Nat:=65
abbrev G5:Nat:=66
abbrev Je:Nat:=69
abbrev Jf:Nat:=70
abbrev O2:Nat:=72
abbrev EK:Nat:=73
abbrev Z2:Nat:=74
abbrev KT:Nat:=75
abbrev KU:Nat:=76
abbrev Jg:Nat:=77
abbrev Jh:Nat:=78
abbrev Fm:Nat:=79
abbrev HA:Nat:=80
abbrev Gq:Nat:=81
abbrev EL:Nat:=82
abbrev T7:Nat:=83
abbrev BV:Nat:=88
abbrev El:Nat:=89
abbrev AK:Nat:=90
abbrev Ji:Nat:=93
abbrev L7:Nat:=94
abbrev W5:Nat:=96
abbrev P6:Nat:=97
abbrev HB:Nat:=98
abbrev Nr:Nat:=99
abbrev HC:Nat:=100
abbrev HD:Nat:=101
abbrev KX:Nat:=102
abbrev Jj:Nat:=103
abbrev H8:Nat:=104
abbrev J2:Nat:=105
abbrev Jk:Nat:=106
abbrev Fn:Nat:=107
abbrev Gr:Nat:=108
abbrev I0:Nat:=109
abbrev R5:Nat:=110
abbrev H5:Nat:=111
abbrev Z3:Nat:=112
abbrev Df:Nat:=120
abbrev Gs:Nat:=121
abbrev N6:Nat:=122
abbrev I7:Nat:=123
abbrev M0:Nat:=124
abbrev HE:Nat:=125
abbrev J3:Nat:=126
abbrev EN:Nat:=127
abbrev Gt:Nat:=128
abbrev Jl:Nat:=141
abbrev D8:Nat:=142
abbrev N0:Nat:=143
abbrev O9:Nat:=144
abbrev KZ:Nat:=145
abbrev La:Nat:=152
abbrev Lb:Nat:=160
abbrev QL:Nat:=161
abbrev Em:Nat:=169
abbrev Ns:Nat:=170
abbrev K6:Nat:=171
abbrev QM:Nat:=172
abbrev QN:Nat:=173
abbrev HF:Nat:=174
abbrev CP:Nat:=181
abbrev Jm:Nat:=182
abbrev DM:Nat:=183
abbrev H1:Nat:=184
abbrev Gu:Nat:=185
abbrev Jn:Nat:=186
abbrev S9:Nat:=192
abbrev HG:Nat:=193
abbrev Lc:Nat:=194
abbrev Ld:Nat:=195
abbrev Lf:Nat:=196
abbrev HH:Nat:=203
abbrev HI:Nat:=204
abbrev BO:Nat:=205
abbrev Gv:Nat:=206
abbrev Fp:Nat:=207
abbrev Bo:Nat:=208
abbrev S7:Nat:=209
abbrev Af:Nat:=210
abbrev O3:Nat:=211
abbrev Bv:Nat:=227
abbrev Cq:Nat:=228
abbrev Dg:Nat:=229
abbrev En:Nat:=230
abbrev CQ:Nat:=231
abbrev Eo:Nat:=232
abbrev Fr:Nat:=233
abbrev Y4:Nat:=234
abbrev Ep:Nat:=235
abbrev C8:Nat:=3
abbrev Ai0:Nat:=4
abbrev Er:Nat:=9
abbrev A7:Nat:=27
abbrev I2:Nat:=48
abbrev B6:Nat:=51
abbrev DN:Nat:=54
abbrev R6:Nat:=57
abbrev CR:Nat:=58
abbrev SR:Nat:=63
abbrev F2:Nat:=96
abbrev XT:Nat:=114
abbrev SS:Nat:=214
end Go.AM
namespace Go.AM
open IntKind (wrap)
abbrev U (x:BitVec 64):Int:=(x.toNat:Int)
theorem HK {n:Nat}(h:n<2 ^ 64):IntKind.u64.wrap (n:Int)=n:=by have h1:((n:Int) % (2 ^ 64:Int))=n:=AM3 (by omega) (by omega);unfold wrap;simp only[IntKind.bits,IntKind.signed,h1,AL7,AD5,if_false]
theorem ST (x:BitVec 64):BitVec.ofInt 64 (U x)=x:=by
 apply AG7;rw[AV8]
 have:=x.isLt
 show ((x.toNat:Int) % ((2 ^ 64:Nat):Int)).toNat=x.toNat;omega
theorem and64 (x y:BitVec 64):F9 .and .u64 (U x) (U y)=U (x &&& y):=by simp only[F9,IntKind.bits,ST];exact HK (x &&& y).isLt
theorem AC2 (x y:BitVec 64):F9 .or .u64 (U x) (U y)=U (x ||| y):=by simp only[F9,IntKind.bits,ST];exact HK (x ||| y).isLt
theorem Ab5 (x y:BitVec 64):F9 .andNot .u64 (U x) (U y)=U (x &&& ~~~ y):=by simp only[F9,IntKind.bits,ST];exact HK (x &&& ~~~ y).isLt
theorem shr64 (x:BitVec 64)(n:Nat):shI .shr .u64 (U x) n=U (x >>> n):=by
 simp only[shI,IntKind.bits,AC6];have hx:=x.isLt;show Int.fdiv (x.toNat:Int) (2 ^ min n 64)=((x >>> n).toNat:Int);rw[AO4,AO0];have e:((2:Int) ^ (min n 64))=((2 ^ (min n 64):Nat):Int):=by norm_cast
 rw[e,AR2 _ (AV9 _),<- Int.natCast_ediv];congr 1;by_cases h:n<=64
 ·rw[AJ8 h]
 ·rw[AP9 (by omega),AK4 hx,AK4];exact AF1 hx (AL9 (by omega) (by omega))
theorem Az9:(1:Int)=U 1#64:=rfl
theorem QS (n:Nat)(h:n<64):shI .shl .u64 1 n=U (1#64 <<< n):=by
 simp only[shI,IntKind.bits,AC6];rw[AJ8 (by omega)];show wrap .u64 (1*2 ^ n)=((1#64 <<< n).toNat:Int);rw[AT7,Nat.shiftLeft_eq];have h1:(2:Nat) ^ n<2 ^ 64:=Nat.pow_lt_pow_right (by omega) h;have e:((1:Int)*2 ^ n)=((2 ^ n:Nat):Int):=by norm_cast;omega
 rw[e,HK h1]
 norm_cast
 rw[AL2]
 ·simp
 ·simpa using h1
theorem SU {i:Nat}:(1#64).getLsbD i=decide (i=0):=by rw[AR4];simp
theorem Fs {n i:Nat}(h:n<64)(a:i<64):(1#64 <<< n).getLsbD i=decide (i=n):=by rw[AS0,SU,AG1];simp only[AD2,AE8,decide_eq_true_eq,decide_eq_false_iff_not];omega
theorem bit64 (x:BitVec 64)(i:Nat):(F9 .and .u64 (shI .shr .u64 (U x) (i:Int)) 1==1)=x.getLsbD i:=by
 rw[shr64,Az9,and64];have h:(x >>> i &&& 1#64)=(BitVec.ofBool (x.getLsbD i)).setWidth 64:=by
  apply AI0;intro j b;simp only[AE5,AR3,AT0,AU2];by_cases a:j=0
  ·subst a;simp
  ·have:(1#64).getLsbD j=false:=by rw[SU];simp[a]
   simp[this,a]
 rw[h];cases x.getLsbD i<;>rfl
theorem Ab6 {x y:BitVec 64}(h:∀b,b<64->(x.getLsbD b=true↔y.getLsbD b=true)):x=y:=
 AI0 fun b hb=>AG1.2 (h b hb)
def Gw (n:Nat)(R:Nat->Nat->Prop):Nat->Nat->Nat->Prop
 |0=>fun a b=>a=b
 |k+1=>fun a b=>∃c,c<=n/\Gw n R k a c/\R c b
def VV (n:Nat)(Q:Nat->Nat->Nat->Prop):Nat->Nat->Nat->Prop
 |0=>fun a b=>a=b
 |i+1=>fun a b=>∃c,c<=n/\VV n Q i a c/\Q i c b
def Fwd (n:Nat)(R:Nat->Nat->Prop):Prop:=∀a b,a<=n->R a b->a<=b/\b<=n
theorem HL {n:Nat}{R:Nat->Nat->Prop}(h:Fwd n R):∀k,Fwd n (Gw n R k)
 |0,a,b,ha,hb=>by obtain rfl:a=b:=hb;exact⟨AD3 _,ha⟩
 |k+1,a,b,ha,⟨c,hc,h1,h2⟩=>by have g1:=HL h k a c ha h1;have g2:=h c b hc h2;exact⟨by omega,g2.2⟩
theorem UB {n:Nat}{Q:Nat->Nat->Nat->Prop}:∀k,(∀i,i<k->Fwd n (Q i))->Fwd n (VV n Q k)
 |0,_,a,b,ha,hb=>by obtain rfl:a=b:=hb;exact⟨AD3 _,ha⟩
 |k+1,h,a,b,ha,⟨c,hc,h1,h2⟩=>by have g1:=UB k (fun i d=>h i (by omega)) a c ha h1;have g2:=h k (by omega) c b hc h2;exact⟨by omega,g2.2⟩
theorem CS {n:Nat}{R:Nat->Nat->Prop}(h:Fwd n R)(j:Nat){a:Nat}(ha:a<=n):∀k b,Gw n R (j+k) a b ↔ ∃c,c<=n/\Gw n R j a c/\Gw n R k c b
 |0,b=>⟨fun hp=>⟨b,(HL h j a b ha hp).2,hp,rfl⟩,fun⟨c,_,hp,e⟩=>by obtain rfl:c=b:=e;exact hp⟩
 |k+1,b=>by
  constructor
  ·rintro⟨d,f,h1,g⟩;obtain⟨c,hc,g1,g2⟩:=(CS h j ha k d).1 h1;exact⟨c,hc,g1,d,f,g2,g⟩
  ·rintro⟨c,hc,g1,d,f,g2,g⟩;exact⟨d,f,(CS h j ha k d).2 ⟨c,hc,g1,g2⟩,g⟩
theorem Nt {n:Nat}{R:Nat->Nat->Prop}(h:Fwd n R){a:Nat}(ha:a<=n):∀k b,Gw n R (k+1) a b->Gw n R k a b \/ a+(k+1)<=b
 |0,b,⟨c,hc,h1,h2⟩=>by
  obtain rfl:a=c:=h1;by_cases e:a=b
  ·exact .inl e
  ·have:=(h a b ha h2).1;exact .inr (by omega)
 |k+1,b,⟨c,hc,h1,h2⟩=>by
  by_cases e:c=b
  ·subst e;exact .inl h1
  ·have:=(h c b hc h2).1
   rcases Nt h ha k c h1 with g|g
   ·exact .inl ⟨c,hc,g,h2⟩
   ·exact .inr (by omega)
theorem QT {n:Nat}{R:Nat->Nat->Prop}(h:Fwd n R){a:Nat}(ha:a<=n){k b:Nat}(hk:n<=k)(hp:Gw n R (k+1) a b):Gw n R k a b:=by
 rcases Nt h ha k b hp with g|g
 ·exact g
 ·have:=(HL h (k+1) a b ha hp).2;omega
theorem QU {n:Nat}{R:Nat->Nat->Prop}(h:Fwd n R){a:Nat}(ha:a<=n){b:Nat}:∀k,Gw n R k a b->∃j,j<=n/\Gw n R j a b
 |0,hp=>⟨0,AK9 _,hp⟩
 |k+1,hp=>by
  by_cases hk:n<=k
  ·exact QU h ha k (QT h ha hk hp)
  ·exact⟨k+1,by omega,hp⟩
theorem Lj {n:Nat}{R:Nat->Nat->Prop}(h:Fwd n R){a:Nat}(ha:a<=n):∀k b,Gw n (fun x y=>R x y \/ x=y) k a b ↔ ∃j,j<=k/\Gw n R j a b
 |0,b=>⟨fun e=>⟨0,AD3 _,e⟩,fun⟨j,f,hp⟩=>by
  obtain rfl:j=0:=by omega
  exact hp⟩
 |k+1,b=>by
  constructor
  ·rintro⟨c,hc,h1,d⟩;obtain⟨j,f,hp⟩:=(Lj h ha k c).1 h1;rcases d with d|d
   ·exact⟨j+1,by omega,c,hc,hp,d⟩
   ·subst d;exact⟨j,by omega,hp⟩
  ·rintro⟨j,f,hp⟩;by_cases e:j<=k
   ·have hb:=(HL h j a b ha hp).2;exact⟨b,hb,(Lj h ha k b).2 ⟨j,e,hp⟩,.inr rfl⟩
   ·obtain rfl:j=k+1:=by omega
    obtain⟨c,hc,h1,d⟩:=hp;exact⟨c,hc,(Lj h ha k c).2 ⟨k,AD3 _,h1⟩,.inl d⟩
def SV (s c:Sound):Bool:=(F9 .and .u32 s.Plus c.Plus==c.Plus)&&(F9 .and .u32 s.Minus c.Minus==c.Minus)
def PR (w:Sl Sound):Pat->Nat->Nat->Prop
 |.nil=>fun a b=>a=b
 |.mk kind is no mn mx m g=>fun a b=>
  if kind=0 then a=b
  else if kind=1 then a<w.n/\b=a+1/\(SV (w.g a) is != no)=true
  else if kind=2 then a=0/\b=0
  else if kind=6 then a=w.n/\b=w.n
  else if kind=3 then VV w.n (fun i=>PR w (g i)) m a b
  else if kind=4 then ∃i,i<m/\PR w (g i) a b
  else if kind=5 then ∃k:Nat,mn<=k/\(mx = -1 \/ (k:Int)<=mx)/\Gw w.n (PR w (g 0)) k a b
  else False
theorem QV (w:Sl Sound):∀p:Pat,Fwd w.n (PR w p)
 |.nil,a,b,ha,h=>by obtain rfl:a=b:=h;exact⟨AD3 _,ha⟩
 |.mk kind is no mn mx m g,a,b,ha,h=>by
  simp only[PR]at h;split at h
  ·subst h;exact⟨AD3 _,ha⟩
  split at h
  ·obtain⟨h1,d,_⟩:=h;omega
  split at h
  ·omega
  split at h
  ·omega
  split at h
  ·exact UB m (fun i _=>QV w (g i)) a b ha h
  split at h
  ·obtain⟨i,_,c⟩:=h;exact QV w (g i) a b ha c
  split at h
  ·obtain⟨k,_,_,hk⟩:=h;exact HL (QV w (g 0)) k a b ha hk
  ·exact h.elim
def TabR (n:Nat)(R:Nat->Nat->Prop)(f:Nat->Int):Prop:=∀a,a<=n->∃x:BitVec 64,f a=U x/\∀b,b<64->(x.getLsbD b=true↔b<=n/\R a b)
theorem TabR.congr {n:Nat}{R R' : Nat->Nat->Prop}{f:Nat->Int}(h:TabR n R f)(d:∀a b,a<=n->b<=n->(R a b↔R' a b)):TabR n R' f:=fun a ha=>by obtain⟨x,e,hx⟩:=h a ha;refine⟨x,e,fun b hb=>(hx b hb).trans ⟨fun⟨h1,c⟩=>⟨h1,(d a b ha h1).1 c⟩,fun⟨h1,c⟩=>⟨h1,(d a b ha h1).2 c⟩⟩⟩
theorem TabR.uniq {n:Nat}{R:Nat->Nat->Prop}{f g:Nat->Int}(h:TabR n R f)(h' : TabR n R g){a:Nat}(ha:a<=n):f a=g a:=by obtain⟨x,e,hx⟩:=h a ha;obtain⟨y,e',hy⟩:=h' a ha;rw[e,e',Ab6 fun b hb=>(hx b hb).trans (hy b hb).symm]
theorem TabR.bit {n:Nat}{R:Nat->Nat->Prop}{f:Nat->Int}(h:TabR n R f){a b:Nat}(ha:a<=n)(hb:b<64):(F9 .and .u64 (shI .shr .u64 (f a) (b:Int)) 1==1)=true↔b<=n/\R a b:=by obtain⟨x,e,hx⟩:=h a ha;rw[e,bit64];exact hx b hb
end Go.AM
namespace Go.AM
open Go.Proofs
abbrev Ab7:List AV:=[.reg 0 0,.reg 1 0,.reg 2 0,.reg 3 0]
abbrev SW (c:Int)(a:Sl Law)(b:Sl Sound)(y:PV):List Obj:=[.cells [pN c],.cells [.p (vSl 18 B2 a)],.cells [.p (vSl 2 A0 b)],.cells [.p y]]
structure Nu (S:Ae):Prop where
 attR:∀{a:Sl Law}{b y:Sl Sound},FunO S H5 [.p (vSl 18 B2 a),.p (vSl 2 A0 b)] [] (.p (vSl 2 A0 y)) [] []->FunO S I0 Ab7 (SW 0 a b F1) (.tup []) (SW 0 a b (vSl 2 A0 y)) [true,true,true,true]
 attP:∀{a:Sl Law}{b:Sl Sound}{c:Int},(S.F H5 [.p (vSl 18 B2 a),.p (vSl 2 A0 b)] [] fun res o k=>res=.panic (.iface 149 (pI .i64 c))/\o=[]/\k=[])->FunO S I0 Ab7 (SW 0 a b F1) (.tup []) (SW c a b F1) [true,true,true,true]
 tz:∀x:BitVec 64,Zi S O3 [.p (pI .u64 (U x))] (.p (pI .i64 (Lib.ctz 64 x.toNat:Nat)))
 trim:∀s c:Str,s.length<1000000000000->c.length<1000000->(∀b∈c,b.toNat<128)->Zi S Df [.p (.str s),.p (.str c)] (.p (.str (Lib.trimS s c)))
 growS:∀(f:Nat->List PV) (n:Nat),n*8<=140737488355328->FunO S H1 [.p F1,.p (pI .i64 (n:Int))] [] (.vec 0) [.vec B6 2 0 f false] []
def F6 (N:Nat)(x:Int):Option Int:=if 0<=x/\x<18446744073709551616 then some ((Lib.ctz 64 x.toNat:Nat):Int)else none
def Dh (N:Nat)(s c:Str):Option Str:=if s.length<1000000000000/\c.length<1000000/\(c.all fun b=>decide (b.toNat<128)) then some (Lib.trimS s c)else none
def H2 (N:Nat)(n:Int):Option (Sl Sound):=if 0<=n/\n*8<=140737488355328 then some (Sl.nil:Sl Sound)else none
section
variable {S:Ae}(hS:H0 S Tryz.prog) (hL:Nu S)
include hS hL
theorem Cr {N:Nat}{x y:Int}(h:F6 N x=some y):FunO S O3 [.p (pI .u64 x)] [] (.p (pI .i64 y)) [] []:=by
 obtain⟨⟨a,h1⟩,h⟩:=G4 h;obtain rfl:=D1 h
 have:=hL.tz (BitVec.ofNat 64 x.toNat)
 have e:(BitVec.ofNat 64 x.toNat).toNat=x.toNat:=by rw[AW1];omega
 have e2:U (BitVec.ofNat 64 x.toNat)=x:=by show ((BitVec.ofNat 64 x.toNat).toNat:Int)=x;rw[e];omega
 rw[e,e2]at this;exact this
theorem Ms {N:Nat}{s c:Str}{y:Str}(h:Dh N s c=some y):FunO S Df [.p (.str s),.p (.str c)] [] (.p (.str y)) [] []:=by obtain⟨⟨a,h1,d⟩,h⟩:=G4 h;obtain rfl:=D1 h;exact hL.trim s c a h1 fun b hb=>by simpa using AE6.1 d b hb
theorem Z6 {N:Nat}{n:Int}{y:Sl Sound}(h:H2 N n=some y):FunO S H1 [.p F1,.p (pI .i64 n)] [] (.vec 0) [.vec B6 2 y.n (fun i=>A0 (y.g i)) false] []:=by
 obtain⟨⟨a,h1⟩,h⟩:=G4 h;obtain rfl:=D1 h
 have:=hL.growS (fun i=>A0 default) n.toNat (by omega)
 rw[show ((n.toNat:Nat):Int)=n by omega]at this;exact this
def A3 (N:Nat)(s:Sl Sound):Option (Sl Sound):=if (0+s.n)*8<=140737488355328/\0+s.n<=140737488355328 then some s else none
theorem G6 {N:Nat}{s y:Sl Sound}(h:A3 N s=some y):FunO S G5 [.p (vSl 2 A0 s)] [] (.vec 0) [.vec B6 2 y.n (fun i=>A0 (y.g i)) true] []:=by
 unfold A3 at h;obtain⟨c1,h⟩:=G4 h;obtain rfl:=D1 h;refine A6 hS Tryz.func66 ?_;refine XF hS trivial 3 (k:=2) (n:=s.n) (f:=fun i=>A0 (s.g i)) (fun a=>?_) ?_
 ·obtain⟨n,g⟩:=s;obtain rfl:n=0:=a;exact B1 hS trivial ⟨[(2,.vec 3700)],[(3700,.vec B6 2 0 (fun i=>A0 (g i)) true)]⟩ [3700] (ids:=[]) ⟨rfl,rfl,rfl⟩
 ·exact B1 hS (And.intro (rfl:true=true) c1) ⟨[(2,.vec 8000)],[(8000,.vec B6 2 s.n (fun i=>A0 (s.g i)) true)]⟩ [8000] (ids:=[(8000,8000)]) ⟨rfl,rfl,rfl⟩
   (hle:=klR [(0,.fn (0+s.n) s.n (Aq 0 (E8 [pI .u32 0,pI .u32 0] []) (fun i=>A0 (s.g i))) (fun i=>A0 (s.g i)))] (al1 ⟨AF9 _,fun i _=>by simp[Aq]⟩ al0))
def F3 (N:Nat)(s:Sl Bd):Option (Sl Bd):=if (0+s.n)*32<=140737488355328/\0+s.n<=140737488355328 then some s else none
theorem W8 {N:Nat}{s y:Sl Sound}(h:A3 N s=some y):FunO S G5 [.p (vSl 2 A0 s)] [] (.p (vSl 2 A0 y)) [] []:=by
 unfold A3 at h;obtain⟨c1,h⟩:=G4 h;obtain rfl:=D1 h;refine A6 hS Tryz.func66 ?_;refine XF hS trivial 3 (k:=2) (n:=s.n) (f:=fun i=>A0 (s.g i)) (fun a=>?_) ?_
 ·obtain⟨n,g⟩:=s;obtain rfl:n=0:=a;exact B1 hS trivial ⟨[(2,.p (vSl 2 A0 ⟨0,g⟩))],[]⟩ [] (ids:=[]) ⟨rfl,rfl,rfl⟩
 ·exact B1 hS (And.intro (rfl:true=true) c1) ⟨[(2,.p (vSl 2 A0 s))],[]⟩ [] (ids:=[]) ⟨rfl,rfl,rfl⟩
   (hle:=klR [(0,.fn (0+s.n) s.n (Aq 0 (E8 [pI .u32 0,pI .u32 0] []) (fun i=>A0 (s.g i))) (fun i=>A0 (s.g i)))] (al1 ⟨AF9 _,fun i _=>by simp[Aq]⟩ al0))
theorem Az {N:Nat}{s y:Sl Bd}(h:F3 N s=some y):FunO S P6 [.p (vSl 6 Q9 s)] [] (.p (vSl 6 Q9 y)) [] []:=by
 unfold F3 at h;obtain⟨c1,h⟩:=G4 h;obtain rfl:=D1 h;refine A6 hS Tryz.func97 ?_;refine XF hS trivial 3 (k:=6) (n:=s.n) (f:=fun i=>Q9 (s.g i)) (fun a=>?_) ?_
 ·obtain⟨n,g⟩:=s;obtain rfl:n=0:=a;exact B1 hS trivial ⟨[(2,.p (vSl 6 Q9 ⟨0,g⟩))],[]⟩ [] (ids:=[]) ⟨rfl,rfl,rfl⟩
 ·exact B1 hS (And.intro (rfl:true=true) c1) ⟨[(2,.p (vSl 6 Q9 s))],[]⟩ [] (ids:=[]) ⟨rfl,rfl,rfl⟩
   (hle:=klR [(0,.fn (0+s.n) s.n (Aq 0 (E8 [pI .i64 0,pI .u32 0,pI .u32 0,pI .u32 0,pI .u32 0,pI .i64 0] []) (fun i=>Q9 (s.g i))) (fun i=>Q9 (s.g i)))] (al1 ⟨AF9 _,fun i _=>by simp[Aq]⟩ al0))
end
end Go.AM
set_option maxRecDepth 100000
namespace Go.AM
open Go.Proofs
theorem VW (v:Value)(w:World):(Instr.typeAssert (.iface 149 v) 20 149 true).run Tryz.prog w=.ok (.tuple #[v,.bool true]) w:=by kernel_rfl
theorem SX (p:Value)(w:World):CallsDIn Fence.wide 0 Tryz.prog R5 #[p] .returning w fun e u' w'=>e=.returned (.tuple #[])/\u' = .returning/\w' = w:=by
 refine callsDIn_of_wpSIn Tryz.func110 rfl (by simp[Fence.wide]) fun c₀ cs a=>?_;apply wpSIn_seq;apply wpSIn_region;simp[wpOpsSIn,go_sem,recoverD,a,Tryz.f110,Exit.thenS];refine wpSIn_of_wpIn rfl (wpIn_block (wpIn_seq (wpIn_region ?_)));simp[wpOpsIn,Oper.wpIn,Oper.semAt,Oper.uponIn,go_sem,Exit.then];refine wpIn_cond (t:=true) (by simp[Act.eval]) ?_;simp only[if_true];refine wpIn_region ?_;simp[wpOpsIn,Oper.wpIn,Oper.semAt,Oper.uponIn,go_sem,Exit.inBlock,bodyPostS,results];cases c₀
 simp_all
theorem JE (p:Value)(c:Int)(older:List PanicEntry)(w w1:World)(a:(Instr.storeAt 30 p (.int .i64 c)).run Tryz.prog w=.ok () w1)(hn:∃b,p=.pointer (some b)) :CallsDIn Fence.wide 0 Tryz.prog R5 #[p] (.panicking ({ v:=.iface 149 (.int .i64 c),recovered:=false }::older)) w fun e u' w'=>
  e=.returned (.tuple #[])/\u' = .panicking ({ v:=.iface 149 (.int .i64 c),recovered:=true }::older)/\w' = w1:=by
 obtain⟨b,rfl⟩:=hn;refine callsDIn_of_wpSIn Tryz.func110 rfl (by simp[Fence.wide]) fun c₀ cs d=>?_;apply wpSIn_seq;apply wpSIn_region;simp[wpOpsSIn,go_sem,recoverD,d,Tryz.f110,Exit.thenS];refine wpSIn_of_wpIn rfl (wpIn_block (wpIn_seq (wpIn_region ?_)));simp[wpOpsIn,Oper.wpIn,Oper.semAt,Oper.uponIn,go_sem,Exit.then];refine wpIn_cond (t:=false) (by simp[Act.eval]) ?_;simp only[AD5,if_false];refine wpIn_seq (wpIn_region ?_);simp[wpOpsIn,Oper.wpIn,Oper.semAt,Oper.uponIn,go_sem,Exit.then,VW];refine wpIn_cond (t:=true) (by simp[Act.eval]) ?_;simp only[if_true];refine wpIn_seq (wpIn_region ?_);simp[wpOpsIn,Oper.wpIn,Oper.semAt,Oper.uponIn,go_sem,Exit.then];refine wpIn_region ?_;simp[wpOpsIn,Oper.wpIn,Oper.semAt,Oper.uponIn,go_sem,a,Exit.inBlock,bodyPostS,results];simp[go_sem]at a;rw[a];simp[Result.andThen]
noncomputable def At5:Code:=match Tryz.f109.body with
 |some (.seq _ c)=>c
 |_=>.skip
theorem Ap6 {S:Ae}(hS:H0 S Tryz.prog){a:Sl Law}{b y:Sl Sound}(c:FunO S H5 [.p (vSl 18 B2 a),.p (vSl 2 A0 b)] [] (.p (vSl 2 A0 y)) [] []) :KG S Tryz.prog (Nn S (fun st=>J6 [0,1,2,3] st.regs [0,1,2,3]=some (SW 0 a b (vSl 2 A0 y))) fun _ _=>False) (.code At5 [] ⟨argEnv Ab7,objRegs (SW 0 a b F1)⟩):=by refine C0 hS [] trivial c ?_;exact K_upN hS trivial ⟨[],[(3,.cells [.p (vSl 2 A0 y)]),(2,.cells [.p (vSl 2 A0 b)]),(1,.cells [.p (vSl 18 B2 a)]),(0,.cells [pN 0])]⟩ (ids:=[(0,0),(1,1),(2,2),(3,3)]) rfl
theorem XU {S:Ae}(hS:H0 S Tryz.prog){a:Sl Law}{b:Sl Sound}{c:Int}(d:S.F H5 [.p (vSl 18 B2 a),.p (vSl 2 A0 b)] [] fun res o k=>res=.panic (.iface 149 (pI .i64 c))/\o=[]/\k=[]) :KG S Tryz.prog (Nn S (fun _=>False) fun x st=>x=.iface 149 (pI .i64 c)/\store Tryz.prog st.regs 30 (.reg 0 0) (.p (pI .i64 c))=some ([],ins 0 (.cells [pN c]) st.regs)/\J6 [0,1,2,3] (ins 0 (.cells [pN c]) st.regs) [0,1,2,3]=some (SW c a b F1)) (.code At5 [] ⟨argEnv Ab7,objRegs (SW 0 a b F1)⟩):=by refine Ao9 hS [] trivial d ?_;exact K_upP hS trivial ⟨rfl,by kernel_rfl,by kernel_rfl⟩
noncomputable def att1:Code:=match Tryz.f109.body with
 |some (.seq c _)=>c
 |_=>.skip
noncomputable def attOps:Array Oper:=match At5 with
 |.region _ ops _=>ops
 |_=>#[]
theorem UC:At5=.region 1 attOps false:=by kernel_rfl
theorem AA0:attOps.toList.all (Ge 7 attOps.toList)=true:=by kernel_rfl
theorem Ab8:¬Tryz.f109.name = "runtime.NumGoroutine" := by decide +kernel
theorem UD:Tryz.f109.body=some (.seq att1 At5):=by kernel_rfl
theorem Ap7 {C:Ctx}{vs:Array Value}{w:World}{rho:Nat->Value}{args:List AV}{objs:List Obj}{n:Nat}(hS:Sat C ⟨argEnv args,objRegs objs⟩ ⟨vs,[]⟩ w rho)(a:vs.size=args.length) :Sat C ⟨argEnv args,objRegs objs⟩ { tmps:=vs++Array.replicate n undef,defers:=[] } w rho:=by
 refine⟨hS.toSatE,fun t=>?_,hS.pin,hS.marks⟩
 have:=hS.env t
 by_cases ht:t<vs.size
 ·simpa[AC8,AK0,ht]using this
 ·show RepA w _ _ _ _ (get (argEnv args) t);rw[At,AC5,AH4 (by omega)];exact .top _
theorem Lk {R:St->Prop}{X:PV->St->Prop}{a:Sl Law}{b:Sl Sound}{objs' : List Obj}
 (a1:KG (FZ Tryz.prog) Tryz.prog (Nn (FZ Tryz.prog) R X) (.code At5 [] ⟨argEnv Ab7,objRegs (SW 0 a b F1)⟩))
 (hR:∀st,R st->J6 [0,1,2,3] st.regs [0,1,2,3]=some objs')
 (hX:∀x st,X x st->∃c regs',x=.iface 149 (pI .i64 c)/\store Tryz.prog st.regs 30 (.reg 0 0) (.p (pI .i64 c))=some ([],regs')/\J6 [0,1,2,3] regs' [0,1,2,3]=some objs') :
 FunO (FZ Tryz.prog) I0 Ab7 (SW 0 a b F1) (.tup []) objs' [true,true,true,true]:=by
 intro 𝒢 C w vs rho hG hS t;obtain⟨l⟩:=vs
 match l,t with
 |[v0,v1,v2,v3],t=>?_
 refine⟨.enter I0 #[v0,v1,v2,v3],w,by simp[callFunc,Tryz.func109,UD,Ab8],?_⟩;refine callsIn_of_wp_marks Tryz.func109 UD trivial ?_;have a2:=Ap7 (n:=Tryz.f109.ntmps-4) hS t;have a9:Tryz.f109.ntmps-4=3:=rfl;rw[a9]at a2;have b1:((#[v0,v1,v2,v3]:Array Value)++Array.replicate 3 undef).size=7:=rfl;have hw:Id (FZ Tryz.prog) Tryz.prog attOps.toList attOps.toList (Nn (FZ Tryz.prog) R X) ⟨argEnv Ab7,objRegs (SW 0 a b F1)⟩:=by
  have:=a1.out
  rw[UC]at this;simpa only[G,awp,kp,AD5,if_false]using this
 have a4:=Kt (𝒢:=𝒢.fix C.rho0) (n:=7) (ro:=none) (ops:=attOps) AA0 attOps.toList 0 rfl (by simp) ⟨hG,rfl⟩ a2 b1 hw;have a5:=Hv [{ target:=.fn (.func R5) #[],args:=#[v0] }] _ _ _ a4;rw[AR6]at a5;obtain⟨b0,a6,u⟩:∃b0,v0=.pointer (some ⟨b0,0,none⟩)/\rho 0=.pointer (some ⟨b0,0,none⟩):=by
  have h0:RepA w _ _ rho v0 (.reg 0 0):=hS.env 0;cases h0 with
  |reg _ _ b0 _ h=>exact⟨b0,rfl,h⟩
 have s:∀{C' : Ctx}{st' : St}{a' : Act}{w' : World}{rho' : Nat->Value},(𝒢.fix C.rho0).G C' -> Sat C' st' a' w' rho' -> J6 [0,1,2,3] st'.regs [0,1,2,3]=some objs' ->
  LeavesInM Fence.wide 0 Tryz.prog Tryz.f109 a'.tmps (fun e w'=>∃C' r objs0 ks rho', 𝒢.G C' /\ (r=.ret (.tup [])/\objs0=objs' /\ ks=[true,true,true,true])/\SatE C' (objRegs objs0) w' rho' /\
   Al7 w' (Prv C'.X (A1 (objRegs objs0)) rho') (Lv (A1 (objRegs objs0))) rho' e r/\∀i:Nat,ks[i]? = some true->i<objs0.length/\rho' i=rho i) [] .returning w':=by
  intro C' st' a' w' rho' d f m;obtain⟨g1,g2,g3⟩:=Ku f (by decide) m;obtain⟨hl,hg⟩:=W4 m;refine⟨.tuple #[],by simp[results,Tryz.f109],C', .ret (.tup []),objs',_,_,d.1,⟨rfl,rfl,rfl⟩,g1,⟨_,rfl,.tup _ _ rfl fun i hi=>absurd hi (by simp)⟩,?_⟩;intro i hi;have y:i<4:=by
   have:=(AD9.1 hi).1
   simpa using this
  refine⟨by rw[hl];exact y,?_⟩;have e1:[0,1,2,3][i]? = some i:=by
   match i,y with
   |0,_=>rfl
   |1,_=>rfl
   |2,_=>rfl
   |3,_=>rfl
  obtain⟨o,_,ho,_⟩:=hg i i e1;show rho' ([0,1,2,3].getD i 0)=rho i;rw[BJ e1,f.pin i (by omega) (by simp[Lv,ho]),d.2];refine (hS.pin i (by omega) ?_).symm;rw[Lv,C9]
  match i,y with
  |0,_=>rfl
  |1,_=>rfl
  |2,_=>rfl
  |3,_=>rfl
 generalize hQ:bodyPostM _ _ _ _ _=QQ;refine wpIn_seq ?_;simp only[att1,Tryz.f109];refine wpIn_region ?_;simp[wpOpsIn,Oper.wpIn,Oper.semAt,Oper.uponIn,go_sem,Exit.then];subst hQ;rw[UC];refine wpIn_mono (wpIn_region (F:=FW none) a5) ?_;rintro e a' w' ⟨a0,rfl,z⟩;cases e with
 |exit id=>obtain⟨_,_,_,_,_,_,h⟩:=z;exact h.elim
 |goto l=>obtain⟨_,_,_,_,_,_,h⟩:=z;exact h.elim
 |ret=>obtain⟨_,_,_,_,_,_,h⟩:=z;exact h.elim
 |outgrown=>exact z.elim
 |normal=>
  obtain⟨C',st',rho',d,f,a7,hu⟩:=z;obtain⟨st2,rho2,hR2,_,hs2⟩:=hu C' a0 w' rho' f;refine Ej (C:=C') (st:=st2) (rho:=rho2) (by simp) ?_ a0.defers a0 w' rfl rfl hs2;intro a3 w3 q ht;refine⟨by simp,.inr ⟨by simp[Fence.wide],_,_,R5,#[v0],rfl,by simp[go_sem],fun _ _=>trivial,?_⟩⟩;refine (SX v0 w3).mono ?_;rintro e u' w4 ⟨rfl,rfl,rfl⟩
  have:=s d q (hR st2 hR2)
  rw[ht]at this;exact this
 |panic chain=>
  obtain⟨C',st',rho',v,x,rfl,d,f,a7,hv,hXx⟩:=z;obtain⟨c,regs',rfl,g,m⟩:=hX x st' hXx;obtain rfl:v=.iface 149 (.int .i64 c):=by
   cases hv with
   |iface _ _ _ h=>cases h;rfl
  refine Ej (C:=C') (st:=st') (rho:=rho') (by simp) ?_ a0.defers a0 w' rfl rfl f;intro a3 w3 q ht;have j:Lv (A1 st'.regs) 0:=by
   cases hj:A1 st'.regs 0 with
   |some o=>simp[Lv,hj]
   |none=>
    unfold store at g;split at g
    ·simp[hj]at g
    ·cases g
  have hr0:rho' 0=.pointer (some ⟨b0,0,none⟩):=by rw[q.pin 0 (by omega) j,d.2,<- u];exact (hS.pin 0 (by omega) rfl).symm
  have hva:RS C' st' w3 rho' v0 (.reg 0 0):=by rw[a6];exact .reg 0 0 b0 j hr0
  obtain⟨w4,a8,hs4,_⟩:=Kh q (vx:=.int .i64 c) hva (.p _ _ (.v _)) g trivial;refine⟨by simp,.inr ⟨by simp[Fence.wide],_,_,R5,#[v0],rfl,by simp[go_sem],fun _ _=>trivial,?_⟩⟩;refine (JE v0 c [] w3 w4 a8 ⟨_,a6⟩).mono ?_;rintro e u' w5 ⟨rfl,rfl,rfl⟩
  have:=s d hs4 m
  rw[ht]at this;exact this
theorem SY {a:Sl Law}{b y:Sl Sound}(c:FunO (FZ Tryz.prog) H5 [.p (vSl 18 B2 a),.p (vSl 2 A0 b)] [] (.p (vSl 2 A0 y)) [] []) :FunO (FZ Tryz.prog) I0 Ab7 (SW 0 a b F1) (.tup []) (SW 0 a b (vSl 2 A0 y)) [true,true,true,true]:=
 Lk (Ap6 (Aj5 Tryz.prog) c) (fun st h=>h) (fun x st h=>h.elim)
theorem OU {a:Sl Law}{b:Sl Sound}{c:Int}(d:(FZ Tryz.prog).F H5 [.p (vSl 18 B2 a),.p (vSl 2 A0 b)] [] fun res o k=>res=.panic (.iface 149 (pI .i64 c))/\o=[]/\k=[]) :FunO (FZ Tryz.prog) I0 Ab7 (SW 0 a b F1) (.tup []) (SW c a b F1) [true,true,true,true]:=
 Lk (XU (Aj5 Tryz.prog) d) (fun st h=>h.elim) (fun x st h=>⟨c,_,h.1,h.2.1,h.2.2⟩)
end Go.AM
namespace Go.AM
open IntKind (wrap)
open Go.Proofs
set_option maxRecDepth 10000
set_option maxHeartbeats 2000000
variable {S:Ae}(hS:H0 S Tryz.prog) (hL:Nu S)
include hS hL
def G1 (N:Nat)(a:Sound):Option Bool:=
 some (((F9 .and .u32 a.Plus a.Minus)==0)&&(decide ((F9 .or .u32 a.Plus a.Minus)<=16777215)))
theorem P7 {N:Nat}{b:Sound}{y:Bool}(h:G1 N b=some y) :FunO S HD [.p (.agg (A0 b))] [] (pB y) ([]) []:=by unfold G1 at h;refine A6 hS Tryz.func101 ?_;refine kB hS (A8 hS) trivial trivial 7 (.n (.a ((F9 .and .u32 b.Plus b.Minus)==0)) (.a (decide ((F9 .or .u32 b.Plus b.Minus)<=16777215)))) ?_;cases h;exact kR hS
def J0 (N:Nat)(b:Sound)(a:Sound):Option Bool:=
 (G1 N b).bind fun y1=>
 lt (fun (z1:Bool)=>
  some z1
  ) fun k1=>
  if y1 then
   (G1 N a).bind fun y3=>
   if y3 then
    if ((F9 .andNot .u32 a.Plus b.Plus)==0) then
     k1 ((F9 .andNot .u32 a.Minus b.Minus)==0)
    else
     k1 false
   else
    k1 false
  else
   k1 false
theorem Iz {N:Nat}{c:Sound}{a:Sound}{y:Bool}(h:J0 N c a=some y) :FunO S DM [.p (.agg (A0 c)),.p (.agg (A0 a))] [] (pB y) ([]) []:=by
 unfold J0 at h;refine A6 hS Tryz.func183 ?_;refine kC hS h (P7 hS hL) (fun y1 h=>?_);refine Jx hS trivial (A8 hS) h 0 (fun z1=>⟨[(4,pB z1)],[]⟩) (fun M1 k1 b h=>?_) (fun z1 h=>?_)
 ·refine kG hS h (fun h=>?_) (fun h=>?_)
  ·refine kC hS h (P7 hS hL) (fun y3 h=>?_);refine kG hS h (fun h=>?_) (fun h=>?_)
   ·refine kG hS h (fun h=>?_) (fun h=>?_)
    ·exact b _ [] _ ((F9 .andNot .u32 a.Minus c.Minus)==0) trivial h
    ·exact b _ [] _ false trivial h
   ·exact b _ [] _ false trivial h
  ·exact b _ [] _ false trivial h
 ·cases h;exact kR hS
def Cs (N:Nat)(a:Sound):Option Int:=
 some (F9 .or .u32 a.Plus a.Minus)
theorem Ll {N:Nat}{a:Sound}{y:Int}(h:Cs N a=some y) :FunO S Ld [.p (.agg (A0 a))] [] (pU y) ([]) []:=by unfold Cs at h;refine A6 hS Tryz.func195 ?_;cases h;exact kR hS
def Be (N:Nat)(c:Sound)(b:Sound)(a:Int):Option Sound:=
 some (⟨F9 .or .u32 (F9 .andNot .u32 c.Plus a) (F9 .and .u32 b.Plus a),F9 .or .u32 (F9 .andNot .u32 c.Minus a) (F9 .and .u32 b.Minus a)⟩:Sound)
theorem Lm {N:Nat}{c:Sound}{a:Sound}{b:Int}{y:Sound}(h:Be N c a b=some y) :FunO S Lf [.p (.agg (A0 c)),.p (.agg (A0 a)),pU b] [] (.p (.agg (A0 y))) ([]) []:=by unfold Be at h;refine A6 hS Tryz.func196 ?_;cases h;exact kR hS
def N7 (N:Nat)(c:Sound)(a:Int)(b:Sound):Option (Sound×Int):=
 (G1 N c).bind fun y1=>
 lt (fun (z1:Bool)=>
  if z1 then
   some ((⟨0,0⟩:Sound),14)
  else
   lt (fun (z2:Bool)=>
    if z2 then
     some ((⟨0,0⟩:Sound),2)
    else
     (Cs N b).bind fun y6=>
     (Be N c b (F9 .or .u32 a y6)).bind fun y7=>
     some (y7,0)
    ) fun k2=>
    if (decide (16777215<a)) then
     k2 true
    else
     (Cs N b).bind fun y5=>
     k2 ((F9 .and .u32 a y5) != 0)
  ) fun k1=>
  if (!y1) then
   k1 true
  else
   (G1 N b).bind fun y3=>
   k1 (!y3)
theorem Mt {N:Nat}{c:Sound}{a:Int}{b:Sound}{y:Sound×Int}(h:N7 N c a b=some y) :FunO S Gu [.p (.agg (A0 c)),pU a,.p (.agg (A0 b))] [] (.tup [.p (.agg (A0 y.1)),pN y.2]) ([]) []:=by
 unfold N7 at h;refine A6 hS Tryz.func185 ?_;refine N5 hS trivial 5 4000 [pI .u32 c.Plus,pI .u32 c.Minus] ?_;refine N5 hS trivial 6 6000 [pI .u32 b.Plus,pI .u32 b.Minus] ?_;obtain⟨y1,e1,h⟩:=C4 h;refine C0 hS [] (by decide:(2:Nat)<=2) (P7 hS hL e1) ?_;refine Jx hS trivial (A8 hS) h 0 (fun z1=>⟨[(15,pB z1),(6,.reg 7000 0),(5,.p (.ptr [pI .u32 b.Plus,pI .u32 b.Minus])),(3,.p (.ptr [pI .u32 c.Plus,pI .u32 c.Minus])),(1,pU a)],[(7000,.cells [pU 0,pU 0])]⟩) (fun M1 k1 d h=>?_) (fun z1 h=>?_)
 ·refine kG hS h (fun h=>?_) (fun h=>?_)
  ·exact d _ [(7000,7000)] _ true trivial h
  ·obtain⟨y3,e3,h⟩:=C4 h;refine C0 hS [] (by decide:(2:Nat)<=2) (P7 hS hL e3) ?_;exact d _ [(7000,7000)] _ (!y3) trivial h
 ·refine kI hS h ?_ ?_<;>intro h
  ·cases h;exact kR hS
  ·refine Jx hS trivial (A8 hS) h 0 (fun z2=>⟨[(25,pB z2),(6,.reg 7000 0),(5,.p (.ptr [pI .u32 b.Plus,pI .u32 b.Minus])),(3,.p (.ptr [pI .u32 c.Plus,pI .u32 c.Minus])),(1,pU a)],[(7000,.cells [pU 0,pU 0])]⟩) (fun M2 k2 f h=>?_) (fun z2 h=>?_)
   ·refine kG hS h (fun h=>?_) (fun h=>?_)
    ·exact f _ [(7000,7000)] _ true trivial h
    ·obtain⟨y5,e5,h⟩:=C4 h;refine C0 hS [] (by decide:(2:Nat)<=2) (Ll hS hL e5) ?_;exact f _ [(7000,7000)] _ ((F9 .and .u32 a y5) != 0) trivial h
   ·refine kI hS h ?_ ?_<;>intro h
    ·cases h;exact kR hS
    ·refine J4 hS trivial [0,1,3,4,6] ?_;obtain⟨y6,e6,h⟩:=C4 h;refine Bt (And.intro (And.intro (by decide:(2:Nat)<=2) (by decide:(2:Nat)<=2)) (by decide:(2:Nat)<=2)) (Ll hS hL e6) ?_;obtain⟨y7,e7,h⟩:=C4 h;refine Bt trivial (Lm hS hL e7) ?_;refine O1 trivial ?_;cases h;exact kR hS
def S1 (N:Nat)(c:Sound)(a:Sound)(b:Int):Option (Sound×Int):=
 (G1 N c).bind fun y1=>
 lt (fun (z1:Bool)=>
  if z1 then
   some ((⟨0,0⟩:Sound),14)
  else
   if (decide (16777215<b)) then
    some ((⟨0,0⟩:Sound),2)
   else
    (Be N c a b).bind fun y4=>
    some (y4,0)
  ) fun k1=>
  if (!y1) then
   k1 true
  else
   (G1 N a).bind fun y3=>
   k1 (!y3)
theorem QW {N:Nat}{c:Sound}{a:Sound}{b:Int}{y:Sound×Int}(h:S1 N c a b=some y) :FunO S Jn [.p (.agg (A0 c)),.p (.agg (A0 a)),pU b] [] (.tup [.p (.agg (A0 y.1)),pN y.2]) ([]) []:=by
 unfold S1 at h;refine A6 hS Tryz.func186 ?_;refine kC hS h (P7 hS hL) (fun y1 h=>?_);refine Jx hS trivial (A8 hS) h 0 (fun z1=>⟨[(15,pB z1),(6,.reg 7000 0),(4,.reg 5000 0),(3,.reg 4000 0),(2,pU b)],[(7000,.cells [pU 0,pU 0]),(5000,.cells [pU a.Plus,pU a.Minus]),(4000,.cells [pU c.Plus,pU c.Minus])]⟩) (fun M1 k1 d h=>?_) (fun z1 h=>?_)
 ·refine kG hS h (fun h=>?_) (fun h=>?_)
  ·exact d _ [(4000,4000),(5000,5000),(7000,7000)] _ true trivial h
  ·refine kC hS h (P7 hS hL) (fun y3 h=>?_);exact d _ [(4000,4000),(5000,5000),(7000,7000)] _ (!y3) trivial h
 ·refine kI hS h ?_ ?_<;>intro h
  ·cases h;exact kR hS
  ·refine kI hS h ?_ ?_<;>intro h
   ·cases h;exact kR hS
   ·refine kC hS h (Lm hS hL) (fun y4 h=>?_);cases h;exact kR hS
def J1 (N:Nat)(a:Sound):Option Bool:=
 R9 N (fun b (x1:Int)=>
  if (decide (x1<32)) then
   if ((0:Int)<=x1/\(0:Int)<=x1)then
    if ((((F9 .and .u32 (shI .shr .u32 a.Plus x1) 1)==1)&&((F9 .and .u32 (shI .shr .u32 a.Minus x1) 1)==1))||((((F9 .and .u32 (shI .shr .u32 a.Plus x1) 1)==1)||((F9 .and .u32 (shI .shr .u32 a.Minus x1) 1)==1))&&(decide (24<=x1)))) then
     some false
    else
     b (wrap .i64 (x1+1))
   else none
  else
   some true
  ) 0
def HM (N:Nat)(a:Int):Option Bool:=
 some ((decide (0<=a))&&(decide (a<24)))
def AN (N:Nat)(b:Sound)(a:Int):Option Int:=
 (J1 N b).bind fun y1=>
 lt (fun (z1:Bool)=>
  if z1 then
   some 0
  else
   if (0:Int)<=a then
    if ((F9 .and .u32 (shI .shr .u32 b.Plus a) 1)==1) then
     some 1
    else
     if (0:Int)<=a then
      if ((F9 .and .u32 (shI .shr .u32 b.Minus a) 1)==1) then
       some (-1)
      else
       some 0
     else none
   else none
  ) fun k1=>
  if (!y1) then
   k1 true
  else
   (HM N a).bind fun y3=>
   k1 (!y3)
def DO (N:Nat)(b:Sound)(a:Int)(c:Int):Option Sound:=
 if (0:Int)<=a then
  if (c==1) then
   if (c==(-1)) then
    some (⟨F9 .or .u32 (F9 .andNot .u32 b.Plus (shI .shl .u32 1 a)) (shI .shl .u32 1 a),F9 .or .u32 (F9 .andNot .u32 b.Minus (shI .shl .u32 1 a)) (shI .shl .u32 1 a)⟩:Sound)
   else
    some (⟨F9 .or .u32 (F9 .andNot .u32 b.Plus (shI .shl .u32 1 a)) (shI .shl .u32 1 a),F9 .andNot .u32 b.Minus (shI .shl .u32 1 a)⟩:Sound)
  else
   if (c==(-1)) then
    some (⟨F9 .andNot .u32 b.Plus (shI .shl .u32 1 a),F9 .or .u32 (F9 .andNot .u32 b.Minus (shI .shl .u32 1 a)) (shI .shl .u32 1 a)⟩:Sound)
   else
    some (⟨F9 .andNot .u32 b.Plus (shI .shl .u32 1 a),F9 .andNot .u32 b.Minus (shI .shl .u32 1 a)⟩:Sound)
 else none
def U8 (N:Nat)(c:Sound)(a:Sound):Option Bool:=
 (J1 N c).bind fun y1=>
 lt (fun (z1:Bool)=>
  if z1 then
   some false
  else
   R9 N (fun b (x3:Int)=>
    if (decide (x3<24)) then
     (AN N a x3).bind fun d=>
     lt (fun (z4:Bool)=>
      if z4 then
       some false
      else
       b (wrap .i64 (x3+1))
      ) fun k4=>
      if (d != 0) then
       (AN N c x3).bind fun f=>
       k4 (f != d)
      else
       k4 false
    else
     some true
    ) 0
  ) fun k1=>
  if (!y1) then
   k1 true
  else
   (J1 N a).bind fun y3=>
   k1 (!y3)
def U9 (N:Nat)(d:Sound)(b:Int)(a:Sound):Option (Sound×Int):=
 (J1 N d).bind fun y1=>
 lt (fun (z1:Bool)=>
  if z1 then
   some ((⟨0,0⟩:Sound),14)
  else
   if ((decide (16777215<b))||((F9 .and .u32 b (F9 .or .u32 a.Plus a.Minus)) != 0)) then
    some ((⟨0,0⟩:Sound),2)
   else
    Am8 N (fun c (x2:Int) (x3:Int) (x4:Int)=>
     if (decide (x4<24)) then
      if (0:Int)<=x4 then
       if ((F9 .and .u32 (shI .shr .u32 b x4) 1)==1) then
        (DO N (⟨x2,x3⟩:Sound) x4 0).bind fun f=>
        (AN N a x4).bind fun j=>
        if (j != 0) then
         (AN N a x4).bind fun l=>
         (DO N f x4 l).bind fun g=>
         c g.Plus g.Minus (wrap .i64 (x4+1))
        else
         c f.Plus f.Minus (wrap .i64 (x4+1))
       else
        (AN N a x4).bind fun m=>
        if (m != 0) then
         (AN N a x4).bind fun n=>
         (DO N (⟨x2,x3⟩:Sound) x4 n).bind fun i=>
         c i.Plus i.Minus (wrap .i64 (x4+1))
        else
         c x2 x3 (wrap .i64 (x4+1))
      else none
     else
      some ((⟨x2,x3⟩:Sound),0)
     ) d.Plus d.Minus 0
  ) fun k1=>
  if (!y1) then
   k1 true
  else
   (J1 N a).bind fun y3=>
   k1 (!y3)
def Bf (N:Nat)(d:Sound)(a:Sound)(b:Int):Option (Sound×Int):=
 (J1 N d).bind fun y1=>
 lt (fun (z1:Bool)=>
  if z1 then
   some ((⟨0,0⟩:Sound),14)
  else
   if (decide (16777215<b)) then
    some ((⟨0,0⟩:Sound),2)
   else
    Am8 N (fun c (x2:Int) (x3:Int) (x4:Int)=>
     if (decide (x4<24)) then
      if (0:Int)<=x4 then
       if ((F9 .and .u32 (shI .shr .u32 b x4) 1)==1) then
        (AN N a x4).bind fun y8=>
        (DO N (⟨x2,x3⟩:Sound) x4 y8).bind fun y9=>
        c y9.Plus y9.Minus (wrap .i64 (x4+1))
       else
        c x2 x3 (wrap .i64 (x4+1))
      else none
     else
      some ((⟨x2,x3⟩:Sound),0)
     ) d.Plus d.Minus 0
  ) fun k1=>
  if (!y1) then
   k1 true
  else
   (J1 N a).bind fun y3=>
   k1 (!y3)
def V2 (N:Nat)(a:Sound):Option Bool:=
 some ((((F9 .and .u32 a.Plus a.Minus)==0)&&(decide (a.Plus<16777216)))&&(decide (a.Minus<16777216)))
def Es (N:Nat)(a:Sl Sound):Option Int:=
 if (decide (32<(a.n:Int))) then
  some 11
 else
  R9 N (fun b (x1:Int)=>
   if (decide (x1<(a.n:Int))) then
    if ((0:Int)<=x1/\x1<(a.n:Int))then
     (V2 N (a.g x1.toNat)).bind fun y3=>
     if (!y3) then
      some 14
     else
      b (wrap .i64 (x1+1))
    else none
   else
    some 0
   ) 0
def Q0 (N:Nat)(a:Sl Sound)(b:Sl Sound):Option Bool:=
 if ((a.n:Int) != (b.n:Int)) then
  some false
 else
  R9 N (fun c (x1:Int)=>
   if (decide (x1<(a.n:Int))) then
    if (((0:Int)<=x1/\x1<(a.n:Int))/\((0:Int)<=x1/\x1<(b.n:Int)))then
     if ((((a.g x1.toNat).Plus==(b.g x1.toNat).Plus)&&((a.g x1.toNat).Minus==(b.g x1.toNat).Minus)) != true) then
      some false
     else
      c (wrap .i64 (x1+1))
    else none
   else
    some true
   ) 0
theorem Al {N:Nat}{a:Sl Sound}{b:Sl Sound}{y:Bool}(h:Q0 N a b=some y) :FunO S KM [.p (vSl 2 A0 a),.p (vSl 2 A0 b)] [] (pB y) ([]) []:=by
 unfold Q0 at h;refine A6 hS Tryz.func20 ?_;refine kI hS h ?_ ?_<;>intro h
 ·cases h;exact kR hS
 ·refine Au hS trivial h (fun x1=>⟨[(5,pN x1),(1,.p (vSl 2 A0 b)),(0,.p (vSl 2 A0 a))],[]⟩) (ids:=[]) (fun _ _ _ _ _ c x1 d h=>?_);refine kI hS h ?_ ?_<;>intro h
  ·refine J4 hS trivial [2,3,6,7] ?_;obtain⟨c9,h⟩:=G4 h;refine O1 (And.intro (And.intro (And.intro (And.intro c9.1 (by decide:(2:Nat)<=2)) c9.2) (by decide:(2:Nat)<=2)) (by decide +kernel:Aj7 Tryz.prog B6=true)) ?_;refine kI hS h ?_ ?_<;>intro h
   ·cases h;exact kR hS
   ·exact d _ [] _ (wrap .i64 (x1+1)) trivial h
  ·cases h;exact kR hS
def Av (N:Nat)(a:Sound):Option Bool:=
 some (((F9 .and .u32 a.Plus a.Minus)==0)&&((shI .shr .u32 (F9 .or .u32 a.Plus a.Minus) 24)==0))
theorem QX {N:Nat}{a:Sound}{y:Bool}(h:Av N a=some y) :FunO S Ji [.p (.agg (A0 a))] [] (pB y) ([]) []:=by
 unfold Av at h;refine A6 hS Tryz.func93 ?_;obtain⟨t1,c⟩:∃x:Bool,x=(((F9 .and .u32 a.Plus a.Minus)==0)&&((shI .shr .u32 (F9 .or .u32 a.Plus a.Minus) 24)==0)):=⟨_,rfl⟩;refine Qt hS trivial (A8 hS) 0 ⟨[(2,pB t1)],[]⟩ (fun M1 d=>?_) ?_
 ·refine Ot hS trivial (b:=(F9 .and .u32 a.Plus a.Minus)==0) (fun c2=>?_) (fun c2=>?_)
  ·exact d _ [] _ (by decide:(0:Int)<=24) (hle:=klR [(0,.eq (.bb ((shI .shr .u32 (F9 .or .u32 a.Plus a.Minus) 24)==0)) (.bb t1))] (al1 (by simp only[c,c2,Leaf.ok,pm,if_true,if_false]) al0))
  ·exact d _ [] _ trivial (hle:=klR [(0,.eq (.bb false) (.bb t1))] (al1 (by simp only[c,c2,Leaf.ok,pm,if_true,if_false]) al0))
 ·subst c;cases h;exact kR hS
def J9 (N:Nat)(a:Sl Sound):Option Int:=
 if (decide (32<(a.n:Int))) then
  some 11
 else
  R9 N (fun b (x1:Int)=>
   if (decide (x1<(a.n:Int))) then
    if ((0:Int)<=x1/\x1<(a.n:Int))then
     (Av N (a.g x1.toNat)).bind fun y3=>
     if (!y3) then
      some 14
     else
      b (wrap .i64 (x1+1))
    else none
   else
    some 0
   ) 0
theorem CT {N:Nat}{a:Sl Sound}{y:Int}(h:J9 N a=some y) :FunO S Je [.p (vSl 2 A0 a)] [] (pN y) ([]) []:=by
 unfold J9 at h;refine A6 hS Tryz.func69 ?_;refine kI hS h ?_ ?_<;>intro h
 ·cases h;exact kR hS
 ·refine Au hS trivial h (fun x1=>⟨[(10,pN x1),(9,pN (a.n:Int)),(8,.p (vSl 2 A0 a))],[]⟩) (ids:=[]) (fun _ _ _ _ _ b x1 c h=>?_);refine kI hS h ?_ ?_<;>intro h
  ·obtain⟨c9,h⟩:=G4 h;obtain⟨y3,e3,h⟩:=C4 h;refine C0 hS [] (And.intro c9 (by decide:(2:Nat)<=2)) (QX hS hL e3) ?_;refine kI hS h ?_ ?_<;>intro h
   ·cases h;exact kR hS
   ·exact c _ [] _ (wrap .i64 (x1+1)) trivial h
  ·cases h;exact kR hS
def G7 (N:Nat)(a:Sl Sound)(b:Sl Sound):Option Bool:=
 if ((a.n:Int) != (b.n:Int)) then
  some false
 else
  R9 N (fun c (x1:Int)=>
   if (decide (x1<(a.n:Int))) then
    if (((0:Int)<=x1/\x1<(a.n:Int))/\((0:Int)<=x1/\x1<(b.n:Int)))then
     if ((((a.g x1.toNat).Plus==(b.g x1.toNat).Plus)&&((a.g x1.toNat).Minus==(b.g x1.toNat).Minus)) != true) then
      some false
     else
      c (wrap .i64 (x1+1))
    else none
   else
    some true
   ) 0
theorem Y5 {N:Nat}{a:Sl Sound}{b:Sl Sound}{y:Bool}(h:G7 N a b=some y) :FunO S L7 [.p (vSl 2 A0 a),.p (vSl 2 A0 b)] [] (pB y) ([]) []:=by
 unfold G7 at h;refine A6 hS Tryz.func94 ?_;refine kI hS h ?_ ?_<;>intro h
 ·cases h;exact kR hS
 ·refine Au hS trivial h (fun x1=>⟨[(13,pN x1),(12,pN (a.n:Int)),(1,.p (vSl 2 A0 b)),(0,.p (vSl 2 A0 a))],[]⟩) (ids:=[]) (fun _ _ _ _ _ c x1 d h=>?_);refine kI hS h ?_ ?_<;>intro h
  ·refine J4 hS trivial [2,3,6,7] ?_;obtain⟨c9,h⟩:=G4 h;refine O1 (And.intro (And.intro (And.intro (And.intro c9.1 (by decide:(2:Nat)<=2)) c9.2) (by decide:(2:Nat)<=2)) (by decide +kernel:Aj7 Tryz.prog B6=true)) ?_;refine kI hS h ?_ ?_<;>intro h
   ·cases h;exact kR hS
   ·exact d _ [] _ (wrap .i64 (x1+1)) trivial h
  ·cases h;exact kR hS
def Aw (N:Nat)(a:Sl Sound)(b:Sl Sound):Option Bool:=
 (G7 N a b).bind fun y1=>
 some y1
theorem QY {N:Nat}{a:Sl Sound}{b:Sl Sound}{y:Bool}(h:Aw N a b=some y) :FunO S Jf [.p (vSl 2 A0 a),.p (vSl 2 A0 b)] [] (pB y) ([]) []:=by unfold Aw at h;refine A6 hS Tryz.func70 ?_;refine kC hS h (Y5 hS hL) (fun y1 h=>?_);cases h;exact kR hS
def N8 (N:Nat)(a:Sound):Option Bool:=
 some (((F9 .and .u32 a.Plus a.Minus)==0)&&((shI .shr .u32 (F9 .or .u32 a.Plus a.Minus) 24)==0))
theorem CU {N:Nat}{a:Sound}{y:Bool}(h:N8 N a=some y) :FunO S Jl [.p (.agg (A0 a))] [] (pB y) ([]) []:=by
 unfold N8 at h;refine A6 hS Tryz.func141 ?_;obtain⟨t1,c⟩:∃x:Bool,x=(((F9 .and .u32 a.Plus a.Minus)==0)&&((shI .shr .u32 (F9 .or .u32 a.Plus a.Minus) 24)==0)):=⟨_,rfl⟩;refine Qt hS trivial (A8 hS) 0 ⟨[(2,pB t1)],[]⟩ (fun M1 d=>?_) ?_
 ·refine Ot hS trivial (b:=(F9 .and .u32 a.Plus a.Minus)==0) (fun c2=>?_) (fun c2=>?_)
  ·exact d _ [] _ (by decide:(0:Int)<=24) (hle:=klR [(0,.eq (.bb ((shI .shr .u32 (F9 .or .u32 a.Plus a.Minus) 24)==0)) (.bb t1))] (al1 (by simp only[c,c2,Leaf.ok,pm,if_true,if_false]) al0))
  ·exact d _ [] _ trivial (hle:=klR [(0,.eq (.bb false) (.bb t1))] (al1 (by simp only[c,c2,Leaf.ok,pm,if_true,if_false]) al0))
 ·subst c;cases h;exact kR hS
def O4 (N:Nat)(b:Int):Option (Nat->Int):=
 S5 N (fun a (x1:Nat->Int) (x2:Int)=>
  if (decide (x2<(wrap .i64 (b+1)))) then
   if (((0:Int)<=x2/\((0:Int)<=x2/\x2<33))/\(0+x2.toNat*1)<33)then
    a (KH x1 (0+x2.toNat*1) (shI .shl .u64 1 x2)) (wrap .i64 (x2+1))
   else none
  else
   some x1
  ) (fun _=>0) 0
theorem Ct {N:Nat}{a:Int}{y:Nat->Int}(h:O4 N a=some y) :FunO S Fr [pN a] [] (.p (.agg (cA 33 (pI .u64) y))) ([]) []:=by
 unfold O4 at h;refine A6 hS Tryz.func233 ?_;refine I5 hS trivial h (fun x1 x2=>⟨[(7,pN x2),(6,pN (wrap .i64 (a+1))),(3,.reg 4000 0),(2,.reg 3000 0)],[(4000,.arr 33 (fun i=>pI .u64 (x1 i))),(3000,.arr 33 (fun i=>pI .u64 ((fun _=>0) i)))]⟩) (ids:=[(3000,3000),(4000,4000)]) (fun _ _ _ _ _ b x1 x2 d h=>?_) (hle:=klR [(2,.fn 33 33 (fun i=>[(fun i=>(List.replicate 33 (pI .u64 0)).getD i default) i]) (fun i=>[pI .u64 ((fun _=>0) i)])),(3,.fn 33 33 (fun i=>[(fun i=>(List.replicate 33 (pI .u64 0)).getD i default) i]) (fun i=>[pI .u64 ((fun _=>0) i)]))] (al1 ⟨rfl,Bc (z:=pI .u64 0) rfl⟩ (al1 ⟨rfl,Bc (z:=pI .u64 0) rfl⟩ al0)));refine kI hS h ?_ ?_<;>intro h
 ·obtain⟨c4,h⟩:=G4 h;exact d _ [(3000,3000),(4000,4000)] _ (KH x1 (0+x2.toNat*1) (shI .shl .u64 1 x2)) (wrap .i64 (x2+1)) c4 h (hle:=klR [(2,.fn 33 33 (fun i=>[(fun i=>if i=(0+x2.toNat*1)then (pI .u64 (shI .shl .u64 1 x2))else (fun i=>pI .u64 (x1 i)) i) i]) (fun i=>[pI .u64 (KH x1 (0+x2.toNat*1) (shI .shl .u64 1 x2) i)]))] (al1 ⟨rfl,Ao3 (c:=pI .u64) (v:=x1) (x:=shI .shl .u64 1 x2) (fun _ _=>rfl) rfl⟩ al0))
 ·obtain rfl:=D1 h;exact B1 hS (And.intro rfl (E9 _ _):(0:Nat)=0/\(BH 33 (fun i=>pI .u64 (x1 i))).length=33) ⟨[(2,.reg 3000 0)],[(3000,.arr 33 (fun i=>pI .u64 (x1 i)))]⟩ [] (ids:=[(3000,3000)]) ⟨rfl,rfl,rfl⟩ (hle:=klR [(0,.fn 33 33 (fun i=>[(fun i=>(cA 33 (pI .u64) x1).getD i default) i]) (fun i=>[pI .u64 (x1 i)]))] (al1 ⟨rfl,D6 33 (fun i=>pI .u64 (x1 i))⟩ al0))
def K7 (N:Nat)(p_x:Nat->Int)(b:Nat->Int):Option (Nat->Int):=
 S5 N (fun a (x1:Nat->Int) (x2:Int)=>
  if (decide (x2<33)) then
   if (((0:Int)<=x2/\x2<33)/\(0+x2.toNat*1)<33)then
    if (((((0:Int)<=x2/\x2<33)/\(0+x2.toNat*1)<33)/\((0:Int)<=x2/\x2<33))/\(0+x2.toNat*1)<33)then
     a (KH x1 (0+x2.toNat*1) (F9 .or .u64 (x1 (0+x2.toNat*1)) (b (0+x2.toNat*1)))) (wrap .i64 (x2+1))
    else none
   else none
  else
   some x1
  ) p_x 0
theorem CV {N:Nat}{p_x:Nat->Int}{a:Nat->Int}{y:Nat->Int}(h:K7 N p_x a=some y) :FunO S CQ [.reg 0 0,.reg 1 0] [.arr 33 (fun i=>pI .u64 (p_x i)),.arr 33 (fun i=>pI .u64 (a i))] (.tup []) ([.arr 33 (fun i=>pI .u64 (y i)),.arr 33 (fun i=>pI .u64 (a i))]) [true,true]:=by
 unfold K7 at h;refine A6 hS Tryz.func231 ?_;refine I5 hS trivial h (fun x1 x2=>⟨[(7,pN x2),(6,.reg 1 0),(0,.reg 0 0)],[(1,.arr 33 (fun i=>pI .u64 (a i))),(0,.arr 33 (fun i=>pI .u64 (x1 i)))]⟩) (ids:=[(0,0),(1,1)]) (fun _ _ _ _ _ b x1 x2 d h=>?_);refine kI hS h ?_ ?_<;>intro h
 ·refine Ov hS trivial ?_;obtain⟨c8,h⟩:=G4 h;refine O1 c8 ?_;refine Ov hS trivial ?_;obtain⟨c9,h⟩:=G4 h;refine O1 c9 ?_;exact d _ [(0,0),(1,1)] _ (KH x1 (0+x2.toNat*1) (F9 .or .u64 (x1 (0+x2.toNat*1)) (a (0+x2.toNat*1)))) (wrap .i64 (x2+1)) trivial h (hle:=klR [(2,.fn 33 33 (fun i=>[(fun i=>if i=(0+x2.toNat*1)then (pI .u64 (F9 .or .u64 (x1 (0+x2.toNat*1)) (a (0+x2.toNat*1))))else (fun i=>pI .u64 (x1 i)) i) i]) (fun i=>[pI .u64 (KH x1 (0+x2.toNat*1) (F9 .or .u64 (x1 (0+x2.toNat*1)) (a (0+x2.toNat*1))) i)]))] (al1 ⟨rfl,Ao3 (c:=pI .u64) (v:=x1) (x:=F9 .or .u64 (x1 (0+x2.toNat*1)) (a (0+x2.toNat*1))) (fun _ _=>rfl) rfl⟩ al0))
 ·obtain rfl:=D1 h;exact B1 hS trivial ⟨[],[(1,.arr 33 (fun i=>pI .u64 (a i))),(0,.arr 33 (fun i=>pI .u64 (x1 i)))]⟩ [0,1] (ids:=[(0,0),(1,1)]) ⟨rfl,rfl,rfl⟩
def W9 (N:Nat)(b:Sl Sound)(a:Int):Option Int:=
 if ((decide (a<0))||(decide ((b.n:Int)<a))) then
  some 3
 else
  some 0
theorem HN {N:Nat}{c:Sl Sound}{b:Int}{y:Int}(h:W9 N c b=some y) :FunO S HI [.p (vSl 2 A0 c),pN b] [] (pN y) ([]) []:=by
 unfold W9 at h;refine A6 hS Tryz.func204 ?_;refine kB hS (A8 hS) trivial trivial 5 (.o (.a (decide (b<0))) (.a (decide ((c.n:Int)<b)))) ?_;refine kI hS h ?_ ?_<;>intro h
 ·cases h;exact kR hS
 ·cases h;exact kR hS
def Z7 (N:Nat)(a:Pat):Option Int:=
 if (if (a.Kind==0) then a.Kind==0 else (if (a.Kind==2) then a.Kind==2 else a.Kind==6)) then
  lt (fun (z1:Bool)=>
   if z1 then
    some 2
   else
    (N8 N a.Is).bind fun y1=>
    if (!y1) then
     some 14
    else
     some 0
   ) fun k1=>
   if (((a.Is.Plus==0)&&(a.Is.Minus==0)) != true) then
    k1 true
   else
    if a.Not then
     k1 true
    else
     if (a.Min != 0) then
      k1 true
     else
      if (a.Max != 0) then
       k1 true
      else
       k1 (decide (0<(a.L.n:Int)))
 else
  if (a.Kind==1) then
   lt (fun (z2:Bool)=>
    if z2 then
     some 2
    else
     (N8 N a.Is).bind fun y2=>
     if (!y2) then
      some 14
     else
      some 0
    ) fun k2=>
    if (((0==0)&&(0==0)) != true) then
     k2 true
    else
     if (a.Min != 0) then
      k2 true
     else
      if (a.Max != 0) then
       k2 true
      else
       k2 (decide (0<(a.L.n:Int)))
  else
   lt (fun (z3:Int×Int)=>
    if (((((((a.Is.Plus==0)&&(a.Is.Minus==0)) != true)||a.Not)||(z3.1 != 0))||(z3.2 != 0))||(decide (0<0))) then
     some 2
    else
     (N8 N a.Is).bind fun y3=>
     if (!y3) then
      some 14
     else
      some 0
    ) fun k3=>
    if (if (a.Kind==3) then a.Kind==3 else a.Kind==4) then
     k3 (a.Min,a.Max)
    else
     if (a.Kind==5) then
      if (((((a.L.n:Int) != 1)||(decide (a.Min<0)))||(decide (32<a.Min)))||((a.Max != (-1))&&((decide (a.Max<a.Min))||(decide (32<a.Max))))) then
       some 2
      else
       k3 (0,0)
     else
      some 2
theorem Mu {N:Nat}{c:Pat}{y:Int}(h:Z7 N c=some y) :FunO S Gs [.p (.agg (B5 c))] [] (pN y) ([]) []:=by
 unfold Z7 at h;refine A6 hS Tryz.func121 ?_;obtain⟨t1,f⟩:∃x:Bool,x=(if (c.Kind==0) then c.Kind==0 else (if (c.Kind==2) then c.Kind==2 else c.Kind==6)):=⟨_,rfl⟩;refine Qt hS trivial (A8 hS) 0 ⟨[(8,pB t1),(7,pN c.Kind),(3,.reg 4000 0),(1,.reg 2000 0)],[(4000,.cells [pN 0,pU c.Is.Plus,pU c.Is.Minus,pB c.Not,pN c.Min,pN c.Max,.p (.sl false 7 c.L.n (Co c))]),(2000,.cells ((B5 c).map .p))]⟩ (fun M1 l=>?_) ?_
 ·refine E5 hS trivial (b:=c.Kind==0) (fun c3=>?_) (fun c3=>?_)
  ·exact l _ [(2000,2000),(4000,4000)] _ trivial (hle:=klR [(0,.eq (.bb (c.Kind==0)) (.bb t1))] (al1 (by simp only[f,c3,Leaf.ok,pm,if_true,if_false]) al0))
  ·refine E5 hS trivial (b:=c.Kind==2) (fun c4=>?_) (fun c4=>?_)
   ·exact l _ [(2000,2000),(4000,4000)] _ trivial (hle:=klR [(0,.eq (.bb (c.Kind==2)) (.bb t1))] (al1 (by simp only[f,c3,c4,Leaf.ok,pm,if_true,if_false]) al0))
   ·exact l _ [(2000,2000),(4000,4000)] _ trivial (hle:=klR [(0,.eq (.bb (c.Kind==6)) (.bb t1))] (al1 (by simp only[f,c3,c4,Leaf.ok,pm,if_true,if_false]) al0))
 ·subst f;refine kI hS h ?_ ?_<;>intro h
  ·refine Jx hS (by decide +kernel:Aj7 Tryz.prog B6=true) (A8 hS) h 0 (fun z1=>⟨[(57,pB z1),(1,.reg 2000 0)],[(2000,.cells ((B5 c).map .p))]⟩) (fun M3 k1 d h=>?_) (fun z1 h=>?_)
   ·refine kG hS h (fun h=>?_) (fun h=>?_)
    ·exact d _ [(2000,2000)] _ true trivial h
    ·refine kG hS h (fun h=>?_) (fun h=>?_)
     ·exact d _ [(2000,2000)] _ true trivial h
     ·refine kG hS h (fun h=>?_) (fun h=>?_)
      ·exact d _ [(2000,2000)] _ true trivial h
      ·refine kG hS h (fun h=>?_) (fun h=>?_)
       ·exact d _ [(2000,2000)] _ true trivial h
       ·refine O8 hS trivial 79 ⟨[(78,.p (vSl 7 B5 c.L)),(76,.p (.v (.bool false))),(1,.reg 2000 0)],[(2000,.cells ((B5 c).map .p))]⟩ (ids:=[(2000,2000)]) ?_ (hle:=klR [(0,.fn c.L.n c.L.n (Co c) (fun i=>B5 (c.L.g i)))] (al1 ⟨rfl,AJ c⟩ al0));exact d _ [(2000,2000)] _ (decide (0<(c.L.n:Int))) trivial h
   ·refine kI hS h ?_ ?_<;>intro h
    ·cases h;exact kR hS
    ·refine kC hS h (CU hS hL) (fun y1 h=>?_);refine kI hS h ?_ ?_<;>intro h
     ·cases h;exact kR hS
     ·cases h;exact kR hS
  ·refine kI hS h ?_ ?_<;>intro h
   ·refine Jx hS (by decide +kernel:Aj7 Tryz.prog B6=true) (A8 hS) h 0 (fun z2=>⟨[(57,pB z2),(1,.reg 2000 0)],[(2000,.cells ((B5 c).map .p))]⟩) (fun M5 k2 j h=>?_) (fun z2 h=>?_)
    ·refine kG hS h (fun h=>?_) (fun h=>?_)
     ·exact j _ [(2000,2000)] _ true trivial h
     ·refine Ot hS trivial (b:=false) (fun c54=>?_) (fun c54=>?_)
      ·exact Bool.noConfusion ((rfl:false=false).symm.trans c54)
      ·refine kG hS h (fun h=>?_) (fun h=>?_)
       ·exact j _ [(2000,2000)] _ true trivial h
       ·refine kG hS h (fun h=>?_) (fun h=>?_)
        ·exact j _ [(2000,2000)] _ true trivial h
        ·refine O8 hS trivial 79 ⟨[(78,.p (vSl 7 B5 c.L)),(76,.p (.v (.bool false))),(1,.reg 2000 0)],[(2000,.cells ((B5 c).map .p))]⟩ (ids:=[(2000,2000)]) ?_ (hle:=klR [(0,.fn c.L.n c.L.n (Co c) (fun i=>B5 (c.L.g i)))] (al1 ⟨rfl,AJ c⟩ al0));exact j _ [(2000,2000)] _ (decide (0<(c.L.n:Int))) trivial h
    ·refine kI hS h ?_ ?_<;>intro h
     ·cases h;exact kR hS
     ·refine kC hS h (CU hS hL) (fun y2 h=>?_);refine kI hS h ?_ ?_<;>intro h
      ·cases h;exact kR hS
      ·cases h;exact kR hS
   ·obtain⟨t4,m⟩:∃x:Bool,x=(if (c.Kind==3) then c.Kind==3 else c.Kind==4):=⟨_,rfl⟩;refine Qt hS trivial (A8 hS) 0 ⟨[(17,pB t4),(7,pN c.Kind),(3,.reg 4000 0),(1,.reg 2000 0)],[(4000,.cells [pN 0,pU c.Is.Plus,pU c.Is.Minus,pB c.Not,pN c.Min,pN c.Max,.p (.sl false 7 c.L.n (Co c))]),(2000,.cells ((B5 c).map .p))]⟩ (fun M6 q=>?_) ?_
    ·refine E5 hS trivial (b:=c.Kind==3) (fun c60=>?_) (fun c60=>?_)
     ·exact q _ [(2000,2000),(4000,4000)] _ trivial (hle:=klR [(0,.eq (.bb (c.Kind==3)) (.bb t4))] (al1 (by simp only[m,c60,Leaf.ok,pm,if_true,if_false]) al0))
     ·exact q _ [(2000,2000),(4000,4000)] _ trivial (hle:=klR [(0,.eq (.bb (c.Kind==4)) (.bb t4))] (al1 (by simp only[m,c60,Leaf.ok,pm,if_true,if_false]) al0))
    ·subst m;refine Jx hS trivial (A8 hS) h 0 (fun z3=>⟨[(3,.reg 4000 0),(1,.reg 2000 0)],[(4000,.cells [pN 0,pU c.Is.Plus,pU c.Is.Minus,pB c.Not,pN z3.1,pN z3.2,.p F1]),(2000,.cells ((B5 c).map .p))]⟩) (fun M7 k3 r h=>?_) (fun z3 h=>?_)
     ·refine kI hS h ?_ ?_<;>intro h
      ·exact r _ [(2000,2000),(4000,4000)] _ (c.Min,c.Max) trivial h
      ·refine kI hS h ?_ ?_<;>intro h
       ·refine O8 hS trivial 25 ⟨[(24,.p (vSl 7 B5 c.L)),(3,.reg 4000 0),(1,.reg 2000 0)],[(4000,.cells [pN 0,pU c.Is.Plus,pU c.Is.Minus,pB c.Not,pN c.Min,pN c.Max,.p (.sl false 7 c.L.n (Co c))]),(2000,.cells ((B5 c).map .p))]⟩ (ids:=[(2000,2000),(4000,4000)]) ?_ (hle:=klR [(0,.fn c.L.n c.L.n (Co c) (fun i=>B5 (c.L.g i)))] (al1 ⟨rfl,AJ c⟩ al0));refine kB hS (A8 hS) trivial trivial 26 (.o (.o (.o (.a ((c.L.n:Int) != 1)) (.a (decide (c.Min<0)))) (.a (decide (32<c.Min)))) (.n (.a (c.Max != (-1))) (.o (.a (decide (c.Max<c.Min))) (.a (decide (32<c.Max)))))) ?_;refine kI hS h ?_ ?_<;>intro h
        ·cases h;exact kR hS
        ·exact r _ [(2000,2000),(4000,4000)] _ (0,0) trivial h
       ·cases h;exact kR hS
     ·refine kB hS (A8 hS) (by decide +kernel:Aj7 Tryz.prog B6=true) trivial 19 (.o (.o (.o (.o (.a (((c.Is.Plus==0)&&(c.Is.Minus==0)) != true)) (.a c.Not)) (.a (z3.1 != 0))) (.a (z3.2 != 0))) (.a (decide (0<0)))) ?_;refine kI hS h ?_ ?_<;>intro h
      ·cases h;exact kR hS
      ·refine kC hS h (CU hS hL) (fun y3 h=>?_);refine kI hS h ?_ ?_<;>intro h
       ·cases h;exact kR hS
       ·cases h;exact kR hS
def IA (N:Nat)(a:Pat):Option Int:=
 if ((decide (a.Kind<0))||(decide (6<a.Kind))) then
  some 2
 else
  if ((a.Kind != 1)&&((((a.Is.Plus==0)&&(a.Is.Minus==0)) != true)||a.Not)) then
   some 2
  else
   lt (fun (z1:Bool)=>
    if z1 then
     some 2
    else
     if ((a.Kind != 5)&&((a.Min != 0)||(a.Max != 0))) then
      some 2
     else
      lt (fun (z2:Bool)=>
       if z2 then
        some 2
       else
        (V2 N a.Is).bind fun y1=>
        if (!y1) then
         some 14
        else
         some 0
       ) fun k2=>
       if (a.Kind==5) then
        if ((a.L.n:Int) != 1) then
         k2 true
        else
         if (decide (a.Min<0)) then
          k2 true
         else
          if (decide (32<a.Min)) then
           k2 true
          else
           if (a.Max != (-1)) then
            if (decide (a.Max<a.Min)) then
             k2 true
            else
             k2 (decide (32<a.Max))
           else
            k2 false
       else
        k2 false
    ) fun k1=>
    if (a.Kind != 3) then
     if (a.Kind != 4) then
      if (a.Kind != 5) then
       k1 (decide (0<(a.L.n:Int)))
      else
       k1 false
     else
      k1 false
    else
     k1 false
def Ln (N:Nat)(b:Sound)(a:Sound):Option Bool:=
 some (((F9 .and .u32 b.Plus a.Plus)==a.Plus)&&((F9 .and .u32 b.Minus a.Minus)==a.Minus))
def FQ (N:Nat)(a:Int):Option (Sl Int):=
 if ((0:Int)<=(wrap .i64 (a+1))/\(wrap .i64 (a+1))<=(wrap .i64 (a+1))/\(wrap .i64 (a+1))*8<=140737488355328/\(wrap .i64 (a+1))<=140737488355328)then
  S5 N (fun b (x1:Sl Int) (x2:Int)=>
   if (decide (x2<=a)) then
    if (((0:Int)<=x2/\((0:Int)<=x2/\x2<(x1.n:Int)))/\x2.toNat<x1.n)then
     b (x1.upd x2.toNat (shI .shl .u64 1 x2)) (wrap .i64 (x2+1))
    else none
   else
    some x1
   ) (Sl.rep (wrap .i64 (a+1)).toNat 0:Sl Int) 0
 else none
def Bw (N:Nat)(p_x:Sl Int)(b:Sl Int):Option (Sl Int):=
 if ((0:Int)<=(p_x.n:Int)/\(p_x.n:Int)<=(p_x.n:Int)/\(p_x.n:Int)*8<=140737488355328/\(p_x.n:Int)<=140737488355328)then
  S5 N (fun c (x3:Sl Int) (x4:Int)=>
   if (decide (x4<(p_x.n:Int))) then
    S5 N (fun a (x7:Sl Int) (x8:Int)=>
     if (decide (x8<(b.n:Int))) then
      if (((0:Int)<=x4/\x4<(p_x.n:Int))/\(0:Int)<=x8)then
       if ((F9 .and .u64 (shI .shr .u64 (p_x.g x4.toNat) x8) 1)==1) then
        if ((((((0:Int)<=x4/\x4<(x7.n:Int))/\x4.toNat<x7.n)/\((0:Int)<=x8/\x8<(b.n:Int)))/\((0:Int)<=x4/\x4<(x7.n:Int)))/\x4.toNat<x7.n)then
         a (x7.upd x4.toNat (F9 .or .u64 (x7.g x4.toNat) (b.g x8.toNat))) (wrap .i64 (x8+1))
        else none
       else
        a x7 (wrap .i64 (x8+1))
      else none
     else
      c x7 (wrap .i64 (x4+1))
     ) x3 0
   else
    some x3
   ) (Sl.rep (p_x.n:Int).toNat 0:Sl Int) 0
 else none
def FR (N:Nat)(p_x:Sl Int)(b:Sl Int):Option (Sl Int):=
 if ((0:Int)<=(p_x.n:Int)/\(p_x.n:Int)<=(p_x.n:Int)/\(p_x.n:Int)*8<=140737488355328/\(p_x.n:Int)<=140737488355328)then
  S5 N (fun a (x1:Sl Int) (x2:Int)=>
   if (decide (x2<(p_x.n:Int))) then
    if (((((0:Int)<=x2/\x2<(p_x.n:Int))/\((0:Int)<=x2/\x2<(b.n:Int)))/\((0:Int)<=x2/\x2<(x1.n:Int)))/\x2.toNat<x1.n)then
     a (x1.upd x2.toNat (F9 .or .u64 (p_x.g x2.toNat) (b.g x2.toNat))) (wrap .i64 (x2+1))
    else none
   else
    some x1
   ) (Sl.rep (p_x.n:Int).toNat 0:Sl Int) 0
 else none
def GM (N:Nat)(p_x:Sl Int)(b:Sl Int):Option Bool:=
 R9 N (fun a (x1:Int)=>
  if (decide (x1<(p_x.n:Int))) then
   if (((0:Int)<=x1/\x1<(p_x.n:Int))/\((0:Int)<=x1/\x1<(b.n:Int)))then
    if ((p_x.g x1.toNat) != (b.g x1.toNat)) then
     some false
    else
     a (wrap .i64 (x1+1))
   else none
  else
   some true
  ) 0
end Go.AM
namespace Go.AM
open IntKind (wrap)
open Go.Proofs
set_option maxRecDepth 10000
set_option maxHeartbeats 2000000
variable {S:Ae}(hS:H0 S Tryz.prog) (hL:Nu S)
include hS hL
def AO (rec:Pat->Int->Option Int)(N:Nat)(b:Pat)(a:Int):Option Int:=
 S5 N (fun c (x1:Int) (x2:Int)=>
  if ((decide (x2<(b.L.n:Int)))&&(decide (x1<=40))) then
   if ((0:Int)<=x2/\x2<(b.L.n:Int))then
    (rec (b.L.g x2.toNat) x1).bind fun y3=>
    c y3 (wrap .i64 (x2+1))
   else none
  else
   some x1
  ) (wrap .i64 (a+1)) 0
def Am:Nat->Pat->Int->Option Int
 |0=>fun _ _=>none
 |N+1=>AO (Am N) N
theorem QZ {N:Nat}{rec:Pat->Int->Option Int}(d:∀{b:Pat}{c:Int}{y:Int},rec b c=some y->FunO S El [.p (.agg (B5 b)),pN c] [] (pN y) ([]) []){b:Pat}{c:Int}{y:Int}(h:AO rec N b c=some y) :FunO S El [.p (.agg (B5 b)),pN c] [] (pN y) ([]) []:=by
 unfold AO at h;refine A6 hS Tryz.func89 ?_;refine I5 hS trivial h (fun x1 x2=>⟨[(6,pN x2),(5,pN x1),(2,.reg 3000 0)],[(3000,.cells ((B5 b).map .p))]⟩) (ids:=[(3000,3000)]) (fun _ _ _ _ _ f x1 x2 j h=>?_);refine O8 hS trivial 12 ⟨[(11,.p (vSl 7 B5 b.L)),(9,pN x2),(6,pN x2),(5,pN x1),(2,.reg 3000 0)],[(3000,.cells ((B5 b).map .p))]⟩ (ids:=[(3000,3000)]) ?_ (hle:=klR [(0,.fn b.L.n b.L.n (Co b) (fun i=>B5 (b.L.g i)))] (al1 ⟨rfl,AJ b⟩ al0));refine kB hS (A8 hS) trivial trivial 3 (.n (.a (decide (x2<(b.L.n:Int)))) (.a (decide (x1<=40)))) ?_;refine kI hS h ?_ ?_<;>intro h
 ·refine O8 hS trivial 23 ⟨[(22,pN x2),(21,.p (vSl 7 B5 b.L)),(6,pN x2),(5,pN x1),(2,.reg 3000 0)],[(3000,.cells ((B5 b).map .p))]⟩ (ids:=[(3000,3000)]) ?_ (hle:=klR [(1,.fn b.L.n b.L.n (Co b) (fun i=>B5 (b.L.g i)))] (al1 ⟨rfl,AJ b⟩ al0));obtain⟨c6,h⟩:=G4 h;obtain⟨y3,e3,h⟩:=C4 h;refine C0 hS [] (And.intro c6 (by decide:(7:Nat)<=7)) (d e3) ?_;exact j _ [(3000,3000)] _ y3 (wrap .i64 (x2+1)) trivial h
 ·cases h;exact kR hS
theorem SZ {N:Nat}{b:Pat}{a:Int}{y:Int}(h:Am N b a=some y) :FunO S El [.p (.agg (B5 b)),pN a] [] (pN y) ([]) []:=by
 induction N generalizing b a y with
 |zero=>cases (show (none:Option Int)=some y from h)
 |succ N ih=>exact QZ hS hL (fun e=>ih e) h
def Bg (N:Nat)(a:Pat):Option Int:=
 (Am N a 0).bind fun y1=>
 some y1
theorem IB {N:Nat}{a:Pat}{y:Int}(h:Bg N a=some y) :FunO S Nq [.p (.agg (B5 a))] [] (pN y) ([]) []:=by unfold Bg at h;refine A6 hS Tryz.func57 ?_;refine kC hS h (SZ hS hL) (fun y1 h=>?_);cases h;exact kR hS
def V4 (rec:Pat->Option Int)(N:Nat)(a:Pat):Option Int:=
 S5 N (fun b (x1:Int) (x2:Int)=>
  if (decide (x2<(a.L.n:Int))) then
   if ((0:Int)<=x2/\x2<(a.L.n:Int))then
    (rec (a.L.g x2.toNat)).bind fun y3=>
    b (wrap .i64 (x1+y3)) (wrap .i64 (x2+1))
   else none
  else
   some x1
  ) (if (a.Kind==5) then 1 else 0) 0
def X0:Nat->Pat->Option Int
 |0=>fun _=>none
 |N+1=>V4 (X0 N) N
theorem Mv {N:Nat}{rec:Pat->Option Int}(d:∀{a:Pat}{y:Int},rec a=some y->FunO S BV [.p (.agg (B5 a))] [] (pN y) ([]) []){a:Pat}{y:Int}(h:V4 rec N a=some y) :FunO S BV [.p (.agg (B5 a))] [] (pN y) ([]) []:=by
 unfold V4 at h;refine A6 hS Tryz.func88 ?_;obtain⟨t1,c⟩:∃x:Int,x=(if (a.Kind==5) then 1 else 0):=⟨_,rfl⟩;refine Qt hS trivial (A8 hS) 0 ⟨[(3,pN t1),(1,.reg 2000 0)],[(2000,.cells ((B5 a).map .p))]⟩ (fun M1 f=>?_) ?_
 ·refine E5 hS trivial (b:=a.Kind==5) (fun c2=>?_) (fun c2=>?_)
  ·exact f _ [(2000,2000)] _ trivial (hle:=klR [(0,.eq (pI .i64 1) (pI .i64 t1))] (al1 (by simp only[c,c2,Leaf.ok,pm,if_true,if_false]) al0))
  ·exact f _ [(2000,2000)] _ trivial (hle:=klR [(0,.eq (pI .i64 0) (pI .i64 t1))] (al1 (by simp only[c,c2,Leaf.ok,pm,if_true,if_false]) al0))
 ·subst c;refine I5 hS trivial h (fun x1 x2=>⟨[(4,pN x2),(3,pN x1),(1,.reg 2000 0)],[(2000,.cells ((B5 a).map .p))]⟩) (ids:=[(2000,2000)]) (fun _ _ _ _ _ j x1 x2 l h=>?_);refine O8 hS trivial 11 ⟨[(10,.p (vSl 7 B5 a.L)),(8,pN x2),(4,pN x2),(3,pN x1),(1,.reg 2000 0)],[(2000,.cells ((B5 a).map .p))]⟩ (ids:=[(2000,2000)]) ?_ (hle:=klR [(0,.fn a.L.n a.L.n (Co a) (fun i=>B5 (a.L.g i)))] (al1 ⟨rfl,AJ a⟩ al0));refine kI hS h ?_ ?_<;>intro h
  ·refine O8 hS trivial 19 ⟨[(18,pN x2),(17,.p (vSl 7 B5 a.L)),(15,pN x1),(4,pN x2),(1,.reg 2000 0)],[(2000,.cells ((B5 a).map .p))]⟩ (ids:=[(2000,2000)]) ?_ (hle:=klR [(1,.fn a.L.n a.L.n (Co a) (fun i=>B5 (a.L.g i)))] (al1 ⟨rfl,AJ a⟩ al0));obtain⟨c8,h⟩:=G4 h;obtain⟨y3,e3,h⟩:=C4 h;refine C0 hS [] (And.intro c8 (by decide:(7:Nat)<=7)) (d e3) ?_;exact l _ [(2000,2000)] _ (wrap .i64 (x1+y3)) (wrap .i64 (x2+1)) trivial h
  ·cases h;exact kR hS
theorem OV {N:Nat}{a:Pat}{y:Int}(h:X0 N a=some y) :FunO S BV [.p (.agg (B5 a))] [] (pN y) ([]) []:=by
 induction N generalizing a y with
 |zero=>cases (show (none:Option Int)=some y from h)
 |succ N ih=>exact Mv hS hL (fun e=>ih e) h
def Ca (N:Nat)(a:Sl Law):Option Int:=
 S5 N (fun c (x3:Int) (x4:Int)=>
  if ((decide (x4<(a.n:Int)))&&(decide (x4<=300))) then
   if (((0:Int)<=x4/\x4<(a.n:Int))/\((0:Int)<=x4/\x4<(a.n:Int)))then
    S5 N (fun b (x7:Int) (x8:Int)=>
     if (decide (x8<((Sl.of [(a.g x4.toNat).Left,(a.g x4.toNat).Right]:Sl Pat).n:Int))) then
      if ((0:Int)<=x8/\x8<((Sl.of [(a.g x4.toNat).Left,(a.g x4.toNat).Right]:Sl Pat).n:Int))then
       (Bg N ((Sl.of [(a.g x4.toNat).Left,(a.g x4.toNat).Right]:Sl Pat).g x8.toNat)).bind fun d=>
       if (decide (d<=40)) then
        (X0 N ((Sl.of [(a.g x4.toNat).Left,(a.g x4.toNat).Right]:Sl Pat).g x8.toNat)).bind fun f=>
        b (wrap .i64 (x7+f)) (wrap .i64 (x8+1))
       else
        b x7 (wrap .i64 (x8+1))
      else none
     else
      c (if x3<x7 then x7 else x3) (wrap .i64 (x4+1))
     ) 0 0
   else none
  else
   some x3
  ) 0 0
theorem VX {N:Nat}{b:Sl Law}{y:Int}(h:Ca N b=some y) :FunO S Np [.p (vSl 18 B2 b)] [] (pN y) ([]) []:=by
 unfold Ca at h;refine A6 hS Tryz.func56 ?_;refine I5 hS trivial h (fun x3 x4=>⟨[(4,pN x4),(3,pN x3),(0,.p (vSl 18 B2 b))],[]⟩) (ids:=[]) (fun _ _ _ _ _ d x3 x4 f h=>?_);refine kB hS (A8 hS) trivial trivial 3 (.n (.a (decide (x4<(b.n:Int)))) (.a (decide (x4<=300)))) ?_;refine kI hS h ?_ ?_<;>intro h
 ·refine J4 hS trivial [2,4,7,9] ?_;obtain⟨c24,h⟩:=G4 h;refine Dc (And.intro (And.intro (And.intro c24.1 (by decide:(7:Nat)<=17)) c24.2) (by decide:(7:Nat)<=10)) (x:=.sl true 7 2 (E8 [pI .i64 0,pI .u32 0,pI .u32 0,.v (.bool false),pI .i64 0,pI .i64 0,F1] [(0,B5 (b.g x4.toNat).Left),(1,B5 (b.g x4.toNat).Right)])) ?_;refine O1 trivial ?_;refine I5 hS trivial h (fun x7 x8=>⟨[(30,pN x8),(29,pN ((Sl.of [(b.g x4.toNat).Left,(b.g x4.toNat).Right]:Sl Pat).n:Int)),(28,.p (vSl 7 B5 (Sl.of [(b.g x4.toNat).Left,(b.g x4.toNat).Right]:Sl Pat))),(5,pN x7),(4,pN x4),(3,pN x3),(0,.p (vSl 18 B2 b))],[]⟩) (ids:=[]) (fun _ _ _ _ _ j x7 x8 c h=>?_) (hle:=klR [(2,.fn 2 (Sl.of [(b.g x4.toNat).Left,(b.g x4.toNat).Right]:Sl Pat).n (E8 [pI .i64 0,pI .u32 0,pI .u32 0,.v (.bool false),pI .i64 0,pI .i64 0,F1] [(0,B5 (b.g x4.toNat).Left),(1,B5 (b.g x4.toNat).Right)]) (fun i=>B5 ((Sl.of [(b.g x4.toNat).Left,(b.g x4.toNat).Right]:Sl Pat).g i)))] (al1 ⟨rfl,(fun i l=>match i,l with|0,_=>rfl|1,_=>rfl|_+2,l=>absurd l (by omega))⟩ al0));refine kI hS h ?_ ?_<;>intro h
  ·obtain⟨c32,h⟩:=G4 h;refine N5 hS (And.intro c32 (by decide:(7:Nat)<=7)) 34 8000 (B5 ((Sl.of [(b.g x4.toNat).Left,(b.g x4.toNat).Right]:Sl Pat).g x8.toNat)) ?_;obtain⟨o,e17,h⟩:=C4 h;refine C0 hS [] (by decide:(7:Nat)<=7) (IB hS hL e17) ?_;refine kI hS h ?_ ?_<;>intro h
   ·obtain⟨m,e18,h⟩:=C4 h;refine C0 hS [] (by decide:(7:Nat)<=7) (OV hS hL e18) ?_;exact c _ [] _ (wrap .i64 (x7+m)) (wrap .i64 (x8+1)) trivial h
   ·exact c _ [] _ x7 (wrap .i64 (x8+1)) trivial h
  ·exact f _ [] _ (if x3<x7 then x7 else x3) (wrap .i64 (x4+1)) trivial h
 ·cases h;exact kR hS
def Bx (rec:Pat->Int->Option (Int×Int))(N:Nat)(b:Pat)(a:Int):Option (Int×Int):=
 if (a==40) then
  some (a,12)
 else
  (IA N b).bind fun y1=>
  if (y1 != 0) then
   some (a,y1)
  else
   S5 N (fun c (x1:Int) (x2:Int)=>
    if (decide (x2<(b.L.n:Int))) then
     if ((0:Int)<=x2/\x2<(b.L.n:Int))then
      (rec (b.L.g x2.toNat) x1).bind fun y4=>
      if (y4.2 != 0) then
       some (y4.1,y4.2)
      else
       c y4.1 (wrap .i64 (x2+1))
     else none
    else
     some (x1,0)
    ) (wrap .i64 (a+1)) 0
def DP:Nat->Pat->Int->Option (Int×Int)
 |0=>fun _ _=>none
 |N+1=>Bx (DP N) N
def Cu (N:Nat)(a:Pat):Option Int:=
 (DP N a 0).bind fun y1=>
 some y1.2
def DQ (N:Nat)(a:Str):Option Bool:=
 R9 N (fun b (x1:Int)=>
  if (decide (x1<(a.length:Int))) then
   if ((0:Int)<=x1/\x1<(a.length:Int))then
    if (!(((((decide (97<=(Cm a x1)))&&(decide ((Cm a x1)<=122)))||((decide (65<=(Cm a x1)))&&(decide ((Cm a x1)<=90))))||((decide (48<=(Cm a x1)))&&(decide ((Cm a x1)<=57))))||((Cm a x1)==45))) then
     some false
    else
     b (wrap .i64 (x1+1))
   else none
  else
   some ((decide (1<=(a.length:Int)))&&(decide ((a.length:Int)<=24)))
  ) 0
def IC (N:Nat)(p_x:Bd)(a:Int):Option Bool:=
 lt (fun (z1:Bool)=>
  if z1 then
   some false
  else
   if ((((F9 .and .u32 p_x.Clear (F9 .or .u32 p_x.Set.Plus p_x.Set.Minus)) != 0)||((F9 .and .u32 p_x.Take (F9 .or .u32 p_x.Set.Plus p_x.Set.Minus)) != 0))||((F9 .and .u32 p_x.Take p_x.Clear) != 0)) then
    some false
   else
    if (p_x.Take==0) then
     some (p_x.Of==0)
    else
     some ((decide (0<=p_x.Of))&&(decide (p_x.Of<a)))
  ) fun k1=>
  if (decide (p_x.From<(-1))) then
   k1 true
  else
   if (decide (a<=p_x.From)) then
    k1 true
   else
    (J1 N p_x.Set).bind fun y2=>
    if (!y2) then
     k1 true
    else
     if ((F9 .andNot .u32 p_x.Clear 16777215) != 0) then
      k1 true
     else
      k1 ((F9 .andNot .u32 p_x.Take 16777215) != 0)
def Bh (N:Nat)(a:Law):Option Int:=
 (DQ N a.Name).bind fun y1=>
 lt (fun (z1:Bool)=>
  if z1 then
   some 17
  else
   if (((((decide (4<(a.If.n:Int)))||(decide (6<(a.Out.n:Int))))||((wrap .i64 ((a.If.n:Int)+(a.Out.n:Int)))==0))||(decide (a.Mode<1)))||(decide (3<a.Mode))) then
    some 17
   else
    R9 N (fun b (x2:Int)=>
     if (decide (x2<(a.If.n:Int))) then
      if ((0:Int)<=x2/\x2<(a.If.n:Int))then
       (J1 N (a.If.g x2.toNat)).bind fun y8=>
       if (!y8) then
        some 17
       else
        b (wrap .i64 (x2+1))
      else none
     else
      R9 N (fun c (x3:Int)=>
       if (decide (x3<(a.Out.n:Int))) then
        if ((0:Int)<=x3/\x3<(a.Out.n:Int))then
         (IC N (a.Out.g x3.toNat) (a.If.n:Int)).bind fun d=>
         if (!d) then
          some 17
         else
          c (wrap .i64 (x3+1))
        else none
       else
        some 0
       ) 0
     ) 0
  ) fun k1=>
  if (!y1) then
   k1 true
  else
   (Cu N a.Left).bind fun y4=>
   if (y4 != 0) then
    k1 true
   else
    (Cu N a.Right).bind fun y5=>
    k1 (y5 != 0)
def GN (N:Nat)(a:Sl Law):Option Int:=
 if (decide (64<(a.n:Int))) then
  some 12
 else
  R9 N (fun b (x1:Int)=>
   if (decide (x1<(a.n:Int))) then
    if ((0:Int)<=x1/\x1<(a.n:Int))then
     (Bh N (a.g x1.toNat)).bind fun y3=>
     if (y3 != 0) then
      some 17
     else
      b (wrap .i64 (x1+1))
    else none
   else
    some 0
   ) 0
def Lo (N:Nat)(a:Law)(b:Sl Sound):Option Int:=
 (Bh N a).bind fun y1=>
 if (y1 != 0) then
  some y1
 else
  (Es N b).bind fun y2=>
  some y2
def FS (N:Nat)(a:Pat)(b:Sl Sound):Option Int:=
 (Cu N a).bind fun y1=>
 if (y1==0) then
  (Es N b).bind fun y2=>
  some y2
 else
  some y1
def Et (rec:Pat->(Sl Sound)->Option (Sl Int))(N:Nat)(a:Pat)(c:Sl Sound):Option (Sl Int):=
 if ((0:Int)<=(wrap .i64 ((c.n:Int)+1))/\(wrap .i64 ((c.n:Int)+1))<=(wrap .i64 ((c.n:Int)+1))/\(wrap .i64 ((c.n:Int)+1))*8<=140737488355328/\(wrap .i64 ((c.n:Int)+1))<=140737488355328)then
  S5 N (fun b (x1:Sl Int) (x2:Int)=>
   if (decide (x2<=(c.n:Int))) then
    if (a.Kind==0) then
     if (((0:Int)<=x2/\((0:Int)<=x2/\x2<(x1.n:Int)))/\x2.toNat<x1.n)then
      b (x1.upd x2.toNat (shI .shl .u64 1 x2)) (wrap .i64 (x2+1))
     else none
    else
     if (a.Kind==1) then
      if (decide (x2<(c.n:Int))) then
       if ((0:Int)<=x2/\x2<(c.n:Int))then
        (Ln N (c.g x2.toNat) a.Is).bind fun y3=>
        if ((y3==a.Not) != true) then
         if (((0:Int)<=(wrap .i64 (x2+1))/\((0:Int)<=x2/\x2<(x1.n:Int)))/\x2.toNat<x1.n)then
          b (x1.upd x2.toNat (shI .shl .u64 1 (wrap .i64 (x2+1)))) (wrap .i64 (x2+1))
         else none
        else
         b x1 (wrap .i64 (x2+1))
       else none
      else
       b x1 (wrap .i64 (x2+1))
     else
      if (a.Kind==2) then
       if (x2==0) then
        if (((0:Int)<=x2/\x2<(x1.n:Int))/\x2.toNat<x1.n)then
         b (x1.upd x2.toNat 1) (wrap .i64 (x2+1))
        else none
       else
        b x1 (wrap .i64 (x2+1))
      else
       if (a.Kind==6) then
        if (x2==(c.n:Int)) then
         if (((0:Int)<=x2/\((0:Int)<=x2/\x2<(x1.n:Int)))/\x2.toNat<x1.n)then
          b (x1.upd x2.toNat (shI .shl .u64 1 x2)) (wrap .i64 (x2+1))
         else none
        else
         b x1 (wrap .i64 (x2+1))
       else
        b x1 (wrap .i64 (x2+1))
   else
    if (a.Kind==3) then
     (FQ N (c.n:Int)).bind fun y4=>
     S5 N (fun i (x3:Sl Int) (x4:Int)=>
      if (decide (x4<(a.L.n:Int))) then
       if ((0:Int)<=x4/\x4<(a.L.n:Int))then
        (rec (a.L.g x4.toNat) c).bind fun y9=>
        (Bw N x3 y9).bind fun o=>
        i o (wrap .i64 (x4+1))
       else none
      else
       some x3
      ) y4 0
    else
     if (a.Kind==4) then
      S5 N (fun j (x5:Sl Int) (x6:Int)=>
       if (decide (x6<(a.L.n:Int))) then
        if ((0:Int)<=x6/\x6<(a.L.n:Int))then
         (rec (a.L.g x6.toNat) c).bind fun q=>
         (FR N x5 q).bind fun r=>
         j r (wrap .i64 (x6+1))
        else none
       else
        some x5
       ) x1 0
     else
      if (a.Kind==5) then
       if ((0:Int)<=0/\0<(a.L.n:Int))then
        (rec (a.L.g 0) c).bind fun m=>
        (FQ N (c.n:Int)).bind fun s=>
        Am8 N (fun d (x8:Sl Int) (x9:Sl Int) (f:Int)=>
         if (decide (a.Min<=f)) then
          (FR N x8 x9).bind fun l=>
          lt (fun (z3:Bool)=>
           if z3 then
            some l
           else
            (Bw N x9 m).bind fun t=>
            d l t (wrap .i64 (f+1))
           ) fun k3=>
           if (f==a.Max) then
            k3 true
           else
            if (decide (a.Min<f)) then
             (GM N x8 l).bind fun u=>
             k3 u
            else
             k3 false
         else
          (Bw N x9 m).bind fun v=>
          d x8 v (wrap .i64 (f+1))
         ) x1 s 0
       else none
      else
       some x1
   ) (Sl.rep (wrap .i64 ((c.n:Int)+1)).toNat 0:Sl Int) 0
 else none
def Cv:Nat->Pat->(Sl Sound)->Option (Sl Int)
 |0=>fun _ _=>none
 |N+1=>Et (Cv N) N
def Ft (N:Nat)(d:Pat)(c:Sl Sound)(a:Int):Option ((Sl Int)×Int):=
 (FS N d c).bind fun y1=>
 if (y1 != 0) then
  some ((Sl.nil:Sl Int),y1)
 else
  if ((decide (a<0))||(decide ((c.n:Int)<a))) then
   some ((Sl.nil:Sl Int),3)
  else
   (Cv N d c).bind fun y2=>
   S5 N (fun b (x1:Sl Int) (x2:Int)=>
    if (decide (x2<=(c.n:Int))) then
     if ((((0:Int)<=x2/\x2<(y2.n:Int))/\x2.toNat<y2.n)/\(0:Int)<=a)then
      if ((F9 .and .u64 (shI .shr .u64 (y2.g x2.toNat) a) 1)==1) then
       if ((x1.n+(Sl.of [x2]:Sl Int).n)*8<=140737488355328/\x1.n+(Sl.of [x2]:Sl Int).n<=140737488355328)then
        b (x1.push x2) (wrap .i64 (x2+1))
       else none
      else
       b x1 (wrap .i64 (x2+1))
     else none
    else
     some (x1,0)
    ) (Sl.nil:Sl Int) 0
def ID (N:Nat)(d:Pat)(c:Sl Sound)(a:Int):Option ((Sl Int)×Int):=
 (FS N d c).bind fun y1=>
 if (y1 != 0) then
  some ((Sl.nil:Sl Int),y1)
 else
  if ((decide (a<0))||(decide ((c.n:Int)<a))) then
   some ((Sl.nil:Sl Int),3)
  else
   (Cv N d c).bind fun y2=>
   S5 N (fun b (x1:Sl Int) (x2:Int)=>
    if (decide (x2<=(c.n:Int))) then
     if ((((0:Int)<=a/\a<(y2.n:Int))/\a.toNat<y2.n)/\(0:Int)<=x2)then
      if ((F9 .and .u64 (shI .shr .u64 (y2.g a.toNat) x2) 1)==1) then
       if ((x1.n+(Sl.of [x2]:Sl Int).n)*8<=140737488355328/\x1.n+(Sl.of [x2]:Sl Int).n<=140737488355328)then
        b (x1.push x2) (wrap .i64 (x2+1))
       else none
      else
       b x1 (wrap .i64 (x2+1))
     else none
    else
     some (x1,0)
    ) (Sl.nil:Sl Int) 0
def By (N:Nat)(a:Law)(c:Sl Sound)(b:Int):Option Bool:=
 if ((decide (b<0))||(decide ((c.n:Int)<(wrap .i64 (b+(a.If.n:Int)))))) then
  some false
 else
  R9 N (fun d (x1:Int)=>
   if (decide (x1<(a.If.n:Int))) then
    if (((0:Int)<=(wrap .i64 (b+x1))/\(wrap .i64 (b+x1))<(c.n:Int))/\((0:Int)<=x1/\x1<(a.If.n:Int)))then
     (U8 N (c.g (wrap .i64 (b+x1)).toNat) (a.If.g x1.toNat)).bind fun y3=>
     if (!y3) then
      some false
     else
      d (wrap .i64 (x1+1))
    else none
   else
    (Ft N a.Left c b).bind fun y4=>
    (ID N a.Right c (wrap .i64 (b+(a.If.n:Int)))).bind fun y5=>
    some ((decide (0<(y4.1.n:Int)))&&(decide (0<(y5.1.n:Int))))
   ) 0
def Cw (N:Nat)(a:Law)(b:Sl Sound):Option (Sl Sound):=
 S5 N (fun c (x1:Sl Sound) (x2:Int)=>
  if (decide (x2<(a.Out.n:Int))) then
   if ((0:Int)<=x2/\x2<(a.Out.n:Int))then
    if ((decide (0<=(a.Out.g x2.toNat).From))=true->((0:Int)<=(a.Out.g x2.toNat).From/\(a.Out.g x2.toNat).From<(b.n:Int)))then
     (U9 N (⟨(if (decide (0<=(a.Out.g x2.toNat).From)) then (b.g (a.Out.g x2.toNat).From.toNat).Plus else 0),(if (decide (0<=(a.Out.g x2.toNat).From)) then (b.g (a.Out.g x2.toNat).From.toNat).Minus else 0)⟩:Sound) (a.Out.g x2.toNat).Clear (a.Out.g x2.toNat).Set).bind fun y5=>
     if ((a.Out.g x2.toNat).Take != 0) then
      if ((0:Int)<=(a.Out.g x2.toNat).Of/\(a.Out.g x2.toNat).Of<(b.n:Int))then
       (Bf N y5.1 (b.g (a.Out.g x2.toNat).Of.toNat) (a.Out.g x2.toNat).Take).bind fun y6=>
       if ((x1.n+(Sl.of [y6.1]:Sl Sound).n)*8<=140737488355328/\x1.n+(Sl.of [y6.1]:Sl Sound).n<=140737488355328)then
        c (x1.push y6.1) (wrap .i64 (x2+1))
       else none
      else none
     else
      if ((x1.n+(Sl.of [y5.1]:Sl Sound).n)*8<=140737488355328/\x1.n+(Sl.of [y5.1]:Sl Sound).n<=140737488355328)then
       c (x1.push y5.1) (wrap .i64 (x2+1))
      else none
    else none
   else none
  else
   some x1
  ) (Sl.nil:Sl Sound) 0
def X1 (N:Nat)(c:Law)(b:Sl Sound)(a:Int):Option (Sl Sound):=
 if (((0:Int)<=a/\a<=(b.n:Int))/\(((Sl.of []:Sl Sound).n+(b.take a.toNat).n)*8<=140737488355328/\(Sl.of []:Sl Sound).n+(b.take a.toNat).n<=140737488355328))then
  if ((0:Int)<=a/\a<=(wrap .i64 (a+(c.If.n:Int)))/\(wrap .i64 (a+(c.If.n:Int)))<=(b.n:Int))then
   (Cw N c (b.sub a.toNat (wrap .i64 (a+(c.If.n:Int))).toNat)).bind fun y1=>
   if ((((Sl.of []:Sl Sound).app (b.take a.toNat)).n+y1.n)*8<=140737488355328/\((Sl.of []:Sl Sound).app (b.take a.toNat)).n+y1.n<=140737488355328)then
    if (((0:Int)<=(wrap .i64 (a+(c.If.n:Int)))/\(wrap .i64 (a+(c.If.n:Int)))<=(b.n:Int))/\(((((Sl.of []:Sl Sound).app (b.take a.toNat)).app y1).n+(b.drop (wrap .i64 (a+(c.If.n:Int))).toNat).n)*8<=140737488355328/\(((Sl.of []:Sl Sound).app (b.take a.toNat)).app y1).n+(b.drop (wrap .i64 (a+(c.If.n:Int))).toNat).n<=140737488355328))then
     some ((((Sl.of []:Sl Sound).app (b.take a.toNat)).app y1).app (b.drop (wrap .i64 (a+(c.If.n:Int))).toNat))
    else none
   else none
  else none
 else none
def Lp (N:Nat)(a:Law)(b:Sl Sound):Option ((Sl Int)×(Sl (Sl Sound))×Int):=
 ZT N (fun c (x2:Sl Int) (x3:Sl (Sl Sound)) (x4:Sl Sound) (x5:Int)=>
  if (decide (x5<=(b.n:Int))) then
   (By N a b x5).bind fun y5=>
   if (!y5) then
    lt (fun (z3:Sl Sound)=>
     c x2 x3 z3 (wrap .i64 (x5+1))
     ) fun k3=>
     if (decide (x5<(b.n:Int))) then
      if (((0:Int)<=x5/\x5<(b.n:Int))/\((x4.n+(Sl.of [b.g x5.toNat]:Sl Sound).n)*8<=140737488355328/\x4.n+(Sl.of [b.g x5.toNat]:Sl Sound).n<=140737488355328))then
       k3 (x4.push (b.g x5.toNat))
      else none
     else
      k3 x4
   else
    if ((0:Int)<=x5/\x5<=(wrap .i64 (x5+(a.If.n:Int)))/\(wrap .i64 (x5+(a.If.n:Int)))<=(b.n:Int))then
     (Cw N a (b.sub x5.toNat (wrap .i64 (x5+(a.If.n:Int))).toNat)).bind fun y6=>
     if ((x4.n+y6.n)*8<=140737488355328/\x4.n+y6.n<=140737488355328)then
      if ((x2.n+(Sl.of [x5]:Sl Int).n)*8<=140737488355328/\x2.n+(Sl.of [x5]:Sl Int).n<=140737488355328)then
       if (((((Sl.of []:Sl Sound).n+(x4.app y6).n)*8<=140737488355328/\(Sl.of []:Sl Sound).n+(x4.app y6).n<=140737488355328)/\((0:Int)<=(wrap .i64 (x5+(a.If.n:Int)))/\(wrap .i64 (x5+(a.If.n:Int)))<=(b.n:Int)))/\((((Sl.of []:Sl Sound).app (x4.app y6)).n+(b.drop (wrap .i64 (x5+(a.If.n:Int))).toNat).n)*8<=140737488355328/\((Sl.of []:Sl Sound).app (x4.app y6)).n+(b.drop (wrap .i64 (x5+(a.If.n:Int))).toNat).n<=140737488355328))then
        if (decide (32<((((Sl.of []:Sl Sound).app (x4.app y6)).app (b.drop (wrap .i64 (x5+(a.If.n:Int))).toNat)).n:Int))) then
         some ((Sl.nil:Sl Int),(Sl.nil:Sl (Sl Sound)),11)
        else
         if ((x3.n+(Sl.of [((Sl.of []:Sl Sound).app (x4.app y6)).app (b.drop (wrap .i64 (x5+(a.If.n:Int))).toNat)]:Sl (Sl Sound)).n)*24<=140737488355328/\x3.n+(Sl.of [((Sl.of []:Sl Sound).app (x4.app y6)).app (b.drop (wrap .i64 (x5+(a.If.n:Int))).toNat)]:Sl (Sl Sound)).n<=140737488355328)then
          if ((a.If.n:Int)==0) then
           if (decide ((wrap .i64 (x5+(a.If.n:Int)))<(b.n:Int))) then
            if (((0:Int)<=(wrap .i64 (x5+(a.If.n:Int)))/\(wrap .i64 (x5+(a.If.n:Int)))<(b.n:Int))/\(((x4.app y6).n+(Sl.of [b.g (wrap .i64 (x5+(a.If.n:Int))).toNat]:Sl Sound).n)*8<=140737488355328/\(x4.app y6).n+(Sl.of [b.g (wrap .i64 (x5+(a.If.n:Int))).toNat]:Sl Sound).n<=140737488355328))then
             c (x2.push x5) (x3.push (((Sl.of []:Sl Sound).app (x4.app y6)).app (b.drop (wrap .i64 (x5+(a.If.n:Int))).toNat))) ((x4.app y6).push (b.g (wrap .i64 (x5+(a.If.n:Int))).toNat)) (wrap .i64 ((wrap .i64 (x5+(a.If.n:Int)))+1))
            else none
           else
            c (x2.push x5) (x3.push (((Sl.of []:Sl Sound).app (x4.app y6)).app (b.drop (wrap .i64 (x5+(a.If.n:Int))).toNat))) (x4.app y6) (wrap .i64 ((wrap .i64 (x5+(a.If.n:Int)))+1))
          else
           c (x2.push x5) (x3.push (((Sl.of []:Sl Sound).app (x4.app y6)).app (b.drop (wrap .i64 (x5+(a.If.n:Int))).toNat))) (x4.app y6) (wrap .i64 (x5+(a.If.n:Int)))
         else none
       else none
      else none
     else none
    else none
  else
   some (x2,x3,0)
  ) (Sl.nil:Sl Int) (Sl.nil:Sl (Sl Sound)) (Sl.nil:Sl Sound) 0
def GO (N:Nat)(b:Law)(c:Sl Sound):Option ((Sl Int)×(Sl (Sl Sound))×Int):=
 ZT N (fun a (x1:Sl Sound) (x2:Sl Int) (x3:Sl (Sl Sound)) (x4:Int)=>
  if (decide ((wrap .i64 (x4+(b.If.n:Int)))<=(x1.n:Int))) then
   (By N b x1 x4).bind fun y5=>
   if (!y5) then
    a x1 x2 x3 (wrap .i64 (x4+1))
   else
    (X1 N b x1 x4).bind fun y6=>
    if (decide (32<(y6.n:Int))) then
     some ((Sl.nil:Sl Int),(Sl.nil:Sl (Sl Sound)),11)
    else
     if (((x2.n+(Sl.of [x4]:Sl Int).n)*8<=140737488355328/\x2.n+(Sl.of [x4]:Sl Int).n<=140737488355328)/\((x3.n+(Sl.of [y6]:Sl (Sl Sound)).n)*24<=140737488355328/\x3.n+(Sl.of [y6]:Sl (Sl Sound)).n<=140737488355328))then
      if ((b.If.n:Int)==0) then
       a y6 (x2.push x4) (x3.push y6) (wrap .i64 ((wrap .i64 (x4+(b.Out.n:Int)))+1))
      else
       a y6 (x2.push x4) (x3.push y6) (wrap .i64 (x4+(b.Out.n:Int)))
     else none
  else
   some (x2,x3,0)
  ) c (Sl.nil:Sl Int) (Sl.nil:Sl (Sl Sound)) 0
def FT (N:Nat)(b:Law)(c:Sl Sound):Option ((Sl Int)×(Sl (Sl Sound))×Int):=
 ZT N (fun a (x1:Sl Sound) (x2:Sl Int) (x3:Sl (Sl Sound)) (x4:Int)=>
  if (decide (0<=x4)) then
   (By N b x1 x4).bind fun y5=>
   if (!y5) then
    a x1 x2 x3 (wrap .i64 (x4-1))
   else
    (X1 N b x1 x4).bind fun y6=>
    if (decide (32<(y6.n:Int))) then
     some ((Sl.nil:Sl Int),(Sl.nil:Sl (Sl Sound)),11)
    else
     if (((x2.n+(Sl.of [x4]:Sl Int).n)*8<=140737488355328/\x2.n+(Sl.of [x4]:Sl Int).n<=140737488355328)/\((x3.n+(Sl.of [y6]:Sl (Sl Sound)).n)*24<=140737488355328/\x3.n+(Sl.of [y6]:Sl (Sl Sound)).n<=140737488355328))then
      if ((b.If.n:Int)==0) then
       a y6 (x2.push x4) (x3.push y6) (wrap .i64 ((wrap .i64 (x4-(b.If.n:Int)))-1))
      else
       a y6 (x2.push x4) (x3.push y6) (wrap .i64 (x4-(b.If.n:Int)))
     else none
  else
   some (x2,x3,0)
  ) c (Sl.nil:Sl Int) (Sl.nil:Sl (Sl Sound)) (wrap .i64 ((c.n:Int)-(b.If.n:Int)))
def GP (N:Nat)(a:Law)(b:Sl Sound):Option ((Sl Int)×(Sl (Sl Sound))×Int):=
 (Lo N a b).bind fun y1=>
 if (y1 != 0) then
  some ((Sl.nil:Sl Int),(Sl.nil:Sl (Sl Sound)),y1)
 else
  if (a.Mode==1) then
   (Lp N a b).bind fun y2=>
   some (y2.1,y2.2.1,y2.2.2)
  else
   if (a.Mode==2) then
    (GO N a b).bind fun y3=>
    some (y3.1,y3.2.1,y3.2.2)
   else
    (FT N a b).bind fun y4=>
    some (y4.1,y4.2.1,y4.2.2)
def Lq (N:Nat)(b:Law)(a:Sl Sound):Option ((Sl Sound)×Int):=
 (GP N b a).bind fun y1=>
 if (y1.2.2 != 0) then
  some ((Sl.nil:Sl Sound),y1.2.2)
 else
  if ((y1.2.1.n:Int)==0) then
   if (((Sl.of []:Sl Sound).n+a.n)*8<=140737488355328/\(Sl.of []:Sl Sound).n+a.n<=140737488355328)then
    some ((Sl.of []:Sl Sound).app a,0)
   else none
  else
   if ((((0:Int)<=(wrap .i64 ((y1.2.1.n:Int)-1))/\(wrap .i64 ((y1.2.1.n:Int)-1))<(y1.2.1.n:Int))/\(wrap .i64 ((y1.2.1.n:Int)-1)).toNat<y1.2.1.n)/\(((Sl.of []:Sl Sound).n+(y1.2.1.g (wrap .i64 ((y1.2.1.n:Int)-1)).toNat).n)*8<=140737488355328/\(Sl.of []:Sl Sound).n+(y1.2.1.g (wrap .i64 ((y1.2.1.n:Int)-1)).toNat).n<=140737488355328))then
    some ((Sl.of []:Sl Sound).app (y1.2.1.g (wrap .i64 ((y1.2.1.n:Int)-1)).toNat),0)
   else none
end Go.AM
namespace Go.AM
open IntKind (wrap)
open Go.Proofs
set_option maxRecDepth 10000
set_option maxHeartbeats 2000000
variable {S:Ae}(hS:H0 S Tryz.prog) (hL:Nu S)
include hS hL
def P0 (N:Nat)(q0:Int):Option (List (Int)):=
 R9 N (fun a (x1:Int)=>
  if (x1 != 0) then
   (F6 N x1).bind fun y3=>
   if (0:Int)<=y3 then
    Bb y3 (
     a (F9 .andNot .u64 x1 (shI .shl .u64 1 y3))
     )
   else none
  else
   some []
  ) q0
theorem BL {N:Nat}{q0:Int}{L:List (Int)}(h:P0 N q0=some L) :GG S Af [] [.reg 0 0] [.cells [.p (pI .u64 q0)]] (L.map (fun (x:Int)=>[pI .i64 x])):=by
 unfold P0 at h;refine Ht hS Tryz.func210 ?_;refine Iw hS trivial h (fun x1 L1=>⟨[(1,.reg 0 0),(0,.yf 1)],[(1,.yld (L1.map (fun (x:Int)=>[pI .i64 x])) true),(0,.cells [.p (pI .u64 x1)])]⟩) (ids:=[(0,0),(1,1)]) (fun _ _ _ _ _ d x1 L1 f h=>?_);refine kI hS h ?_ ?_<;>intro h
 ·refine kC hS h (Cr hS hL) (fun y3 h=>?_);refine Ov hS trivial ?_;obtain⟨c10,h⟩:=G4 h;refine O1 c10 ?_;obtain⟨L4,rfl,c⟩:=Ow h;replace h:=c;refine Eh hS trivial (ys:=(fun (x:Int)=>[pI .i64 x]) y3) (rest:=L4.map (fun (x:Int)=>[pI .i64 x])) ?_ ?_
  ·refine E5 hS trivial (b:=false) (fun c11=>?_) (fun c11=>?_)
   ·exact Bool.noConfusion ((rfl:false=false).symm.trans c11)
   ·exact f _ [(0,0),(1,1)] _ (F9 .andNot .u64 x1 (shI .shl .u64 1 y3)) L4 trivial h
  ·refine E5 hS trivial (b:=true) (fun c12=>?_) (fun c12=>?_)
   ·exact B1 hS trivial (a:=.tup []) (objs:=[(.cells [.p (pI .u64 (F9 .andNot .u64 x1 (shI .shl .u64 1 y3)))]),.yld [] false]) ⟨[],[(1,.yld [] false),(0,.cells [.p (pI .u64 (F9 .andNot .u64 x1 (shI .shl .u64 1 y3)))])]⟩ [0,1] (ids:=[(0,0),(1,1)]) ⟨false,rfl,rfl,_,rfl⟩
   ·exact Bool.noConfusion ((rfl:true=true).symm.trans c12)
 ·obtain rfl:=D1 h;exact B1 hS trivial (a:=.tup []) (objs:=[(.cells [.p (pI .u64 x1)]),.yld [] true]) ⟨[],[(1,.yld [] true),(0,.cells [.p (pI .u64 x1)])]⟩ [0,1] (ids:=[(0,0),(1,1)]) ⟨true,rfl,rfl,_,rfl⟩
def Z8 (N:Nat)(a:Int):Option (Int):=
 some a
theorem Di {N:Nat}{a:Int}{y:Int}(h:Z8 N a=some y) :FunO S Gv [.p (pI .u64 a)] [] (.clo Af [] [.reg 0 0]) ([.cells [.p (pI .u64 y)]]) []:=by unfold Z8 at h;refine A6 hS Tryz.func206 ?_;obtain rfl:=D1 h;exact B1 hS trivial ⟨[(2,.clo Af [] [.reg 2000 0])],[(2000,.cells [.p (pI .u64 a)])]⟩ [2000] (ids:=[(2000,2000)]) ⟨rfl,rfl,rfl⟩
def D4 (N:Nat)(p_x:Nat->Int)(c:Nat->Int):Option (Nat->Int):=
 S5 N (fun a (x3:Nat->Int) (x4:Int)=>
  if (decide (x4<33)) then
   if (((0:Int)<=x4/\x4<33)/\(0+x4.toNat*1)<33)then
    (Z8 N (p_x (0+x4.toNat*1))).bind fun y3=>
    (P0 N y3).bind fun L3=>
    P4 L3 (fun b (x7:Int) (z3:Nat->Int)=>
     if (((((((0:Int)<=x4/\x4<33)/\(0+x4.toNat*1)<33)/\((0:Int)<=x7/\x7<33))/\(0+x7.toNat*1)<33)/\((0:Int)<=x4/\x4<33))/\(0+x4.toNat*1)<33)then
      b (KH z3 (0+x4.toNat*1) (F9 .or .u64 (z3 (0+x4.toNat*1)) (c (0+x7.toNat*1))))
     else none
     ) (fun (z3:Nat->Int)=>
      a z3 (wrap .i64 (x4+1))
     ) x3
   else none
  else
   some x3
  ) (fun _=>0) 0
theorem Q5 {N:Nat}{p_x:Nat->Int}{b:Nat->Int}{y:Nat->Int}(h:D4 N p_x b=some y) :FunO S Y4 [.reg 0 0,.reg 1 0] [.arr 33 (fun i=>pI .u64 (p_x i)),.arr 33 (fun i=>pI .u64 (b i))] (.p (.agg (cA 33 (pI .u64) y))) ([.arr 33 (fun i=>pI .u64 (p_x i)),.arr 33 (fun i=>pI .u64 (b i))]) [true,true]:=by
 unfold D4 at h;refine A6 hS Tryz.func234 ?_;refine I5 hS trivial h (fun x3 x4=>⟨[(10,pN x4),(9,.reg 0 0),(5,.reg 6000 0),(4,.reg 5000 0),(3,.reg 4000 0)],[(6000,.arr 33 (fun i=>pI .u64 (x3 i))),(5000,.arr 33 (fun i=>pI .u64 ((fun _=>0) i))),(4000,.cells [.reg 1 0]),(1,.arr 33 (fun i=>pI .u64 (b i))),(0,.arr 33 (fun i=>pI .u64 (p_x i)))]⟩) (ids:=[(0,0),(1,1),(4000,4000),(5000,5000),(6000,6000)]) (fun _ _ _ _ _ d x3 x4 f h=>?_) (hle:=klR [(1,.fn 33 33 (fun i=>[(fun i=>(List.replicate 33 (pI .u64 0)).getD i default) i]) (fun i=>[pI .u64 ((fun _=>0) i)])),(2,.fn 33 33 (fun i=>[(fun i=>(List.replicate 33 (pI .u64 0)).getD i default) i]) (fun i=>[pI .u64 ((fun _=>0) i)]))] (al1 ⟨rfl,Bc (z:=pI .u64 0) rfl⟩ (al1 ⟨rfl,Bc (z:=pI .u64 0) rfl⟩ al0)));refine kI hS h ?_ ?_<;>intro h
 ·refine P5 hS trivial [(2,.l [0]),(3,.l [0]),(4,.a [7000]),(5,.a [7000])] ?_;obtain⟨c12,h⟩:=G4 h;refine O1 c12 ?_;refine N5 hS trivial 16 7000 [pI .i64 x4] ?_;refine kC hS h (Di hS hL) (fun y3 h=>?_);obtain⟨L3,e6,h⟩:=C4 h;refine GL hS trivial [18000] [10,9,6,5,4,3] 905 (fun z3=>⟨[(10,pN x4),(9,.reg 0 0),(6,.p (.ptr [pI .i64 x4])),(5,.reg 6000 0),(4,.reg 5000 0),(3,.reg 4000 0)],[(6000,.arr 33 (fun i=>pI .u64 (z3 i))),(5000,.arr 33 (fun i=>pI .u64 ((fun _=>0) i))),(4000,.cells [.reg 1 0]),(1,.arr 33 (fun i=>pI .u64 (b i))),(0,.arr 33 (fun i=>pI .u64 (p_x i)))]⟩) (idl:=[(0,0),(1,1),(4000,4000),(5000,5000),(6000,6000)]) h (BL hS hL e6) (fun _=>by kernel_rfl) (fun _=>by kernel_rfl) (fun _=>by kernel_rfl) (fun _=>by kernel_rfl) (fun x7 _ g z3 j h=>?_) (fun z3 h=>?_)
  ·refine KF hS trivial ?_;refine P5 hS trivial [(0,.n),(1,.l [6000]),(2,.l [6000]),(3,.l [4000]),(6,.l [1]),(7,.l [1]),(9,.l [6000]),(10,.a [6000])] ?_;obtain⟨c15,h⟩:=G4 h;refine O1 c15 ?_;exact j _ [(0,0),(1,1),(905,905),(4000,4000),(5000,5000),(6000,6000)] _ (KH z3 (0+x4.toNat*1) (F9 .or .u64 (z3 (0+x4.toNat*1)) (b (0+x7.toNat*1)))) trivial h (hle:=klR [(0,.fn 33 33 (fun i=>[(fun i=>if i=(0+x4.toNat*1)then (pI .u64 (F9 .or .u64 (z3 (0+x4.toNat*1)) (b (0+x7.toNat*1))))else (fun i=>pI .u64 (z3 i)) i) i]) (fun i=>[pI .u64 (KH z3 (0+x4.toNat*1) (F9 .or .u64 (z3 (0+x4.toNat*1)) (b (0+x7.toNat*1))) i)]))] (al1 ⟨rfl,Ao3 (c:=pI .u64) (v:=z3) (x:=F9 .or .u64 (z3 (0+x4.toNat*1)) (b (0+x7.toNat*1))) (fun _ _=>rfl) rfl⟩ al0))
  ·exact f _ [(0,0),(1,1),(4000,4000),(5000,5000),(6000,6000)] _ z3 (wrap .i64 (x4+1)) trivial h
 ·obtain rfl:=D1 h;exact B1 hS (And.intro rfl (E9 _ _):(0:Nat)=0/\(BH 33 (fun i=>pI .u64 (x3 i))).length=33) ⟨[(4,.reg 5000 0)],[(5000,.arr 33 (fun i=>pI .u64 (x3 i))),(1,.arr 33 (fun i=>pI .u64 (b i))),(0,.arr 33 (fun i=>pI .u64 (p_x i)))]⟩ [0,1] (ids:=[(0,0),(1,1),(5000,5000)]) ⟨rfl,rfl,rfl⟩ (hle:=klR [(0,.fn 33 33 (fun i=>[(fun i=>(cA 33 (pI .u64) x3).getD i default) i]) (fun i=>[pI .u64 (x3 i)]))] (al1 ⟨rfl,D6 33 (fun i=>pI .u64 (x3 i))⟩ al0))
def H7 (N:Nat)(p_x:Nat->Int):Option (Nat->Int):=
 S5 N (fun a (x3:Nat->Int) (x4:Int)=>
  if (decide (x4<33)) then
   if (((0:Int)<=x4/\x4<33)/\(0+x4.toNat*1)<33)then
    (Z8 N (p_x (0+x4.toNat*1))).bind fun y3=>
    (P0 N y3).bind fun L3=>
    P4 L3 (fun b (x7:Int) (z3:Nat->Int)=>
     if (((((((0:Int)<=x4/\x4<33)/\(0+x4.toNat*1)<33)/\((0:Int)<=x7/\x7<33))/\(0+x7.toNat*1)<33)/\((0:Int)<=x4/\x4<33))/\(0+x4.toNat*1)<33)then
      b (KH z3 (0+x4.toNat*1) (F9 .or .u64 (z3 (0+x4.toNat*1)) (p_x (0+x7.toNat*1))))
     else none
     ) (fun (z3:Nat->Int)=>
      a z3 (wrap .i64 (x4+1))
     ) x3
   else none
  else
   some x3
  ) (fun _=>0) 0
theorem Bz {N:Nat}{p_x:Nat->Int}{y:Nat->Int}(h:H7 N p_x=some y) :FunO S Y4 [.reg 0 0,.reg 0 0] [.arr 33 (fun i=>pI .u64 (p_x i))] (.p (.agg (cA 33 (pI .u64) y))) ([.arr 33 (fun i=>pI .u64 (p_x i))]) [true]:=by
 unfold H7 at h;refine A6 hS Tryz.func234 ?_;refine I5 hS trivial h (fun x3 x4=>⟨[(10,pN x4),(9,.reg 0 0),(5,.reg 6000 0),(4,.reg 5000 0),(3,.reg 4000 0)],[(6000,.arr 33 (fun i=>pI .u64 (x3 i))),(5000,.arr 33 (fun i=>pI .u64 ((fun _=>0) i))),(4000,.cells [.reg 0 0]),(0,.arr 33 (fun i=>pI .u64 (p_x i)))]⟩) (ids:=[(0,0),(4000,4000),(5000,5000),(6000,6000)]) (fun _ _ _ _ _ b x3 x4 d h=>?_) (hle:=klR [(1,.fn 33 33 (fun i=>[(fun i=>(List.replicate 33 (pI .u64 0)).getD i default) i]) (fun i=>[pI .u64 ((fun _=>0) i)])),(2,.fn 33 33 (fun i=>[(fun i=>(List.replicate 33 (pI .u64 0)).getD i default) i]) (fun i=>[pI .u64 ((fun _=>0) i)]))] (al1 ⟨rfl,Bc (z:=pI .u64 0) rfl⟩ (al1 ⟨rfl,Bc (z:=pI .u64 0) rfl⟩ al0)));refine kI hS h ?_ ?_<;>intro h
 ·refine P5 hS trivial [(2,.l [0]),(3,.l [0]),(4,.a [7000]),(5,.a [7000])] ?_;obtain⟨c12,h⟩:=G4 h;refine O1 c12 ?_;refine N5 hS trivial 16 7000 [pI .i64 x4] ?_;refine kC hS h (Di hS hL) (fun y3 h=>?_);obtain⟨L3,e6,h⟩:=C4 h;refine GL hS trivial [18000] [10,9,6,5,4,3] 905 (fun z3=>⟨[(10,pN x4),(9,.reg 0 0),(6,.p (.ptr [pI .i64 x4])),(5,.reg 6000 0),(4,.reg 5000 0),(3,.reg 4000 0)],[(6000,.arr 33 (fun i=>pI .u64 (z3 i))),(5000,.arr 33 (fun i=>pI .u64 ((fun _=>0) i))),(4000,.cells [.reg 0 0]),(0,.arr 33 (fun i=>pI .u64 (p_x i)))]⟩) (idl:=[(0,0),(4000,4000),(5000,5000),(6000,6000)]) h (BL hS hL e6) (fun _=>by kernel_rfl) (fun _=>by kernel_rfl) (fun _=>by kernel_rfl) (fun _=>by kernel_rfl) (fun x7 _ f z3 g h=>?_) (fun z3 h=>?_)
  ·refine KF hS trivial ?_;refine P5 hS trivial [(0,.n),(1,.l [6000]),(2,.l [6000]),(3,.l [4000]),(6,.l [0]),(7,.l [0]),(9,.l [6000]),(10,.a [6000])] ?_;obtain⟨c15,h⟩:=G4 h;refine O1 c15 ?_;exact g _ [(0,0),(905,905),(4000,4000),(5000,5000),(6000,6000)] _ (KH z3 (0+x4.toNat*1) (F9 .or .u64 (z3 (0+x4.toNat*1)) (p_x (0+x7.toNat*1)))) trivial h (hle:=klR [(0,.fn 33 33 (fun i=>[(fun i=>if i=(0+x4.toNat*1)then (pI .u64 (F9 .or .u64 (z3 (0+x4.toNat*1)) (p_x (0+x7.toNat*1))))else (fun i=>pI .u64 (z3 i)) i) i]) (fun i=>[pI .u64 (KH z3 (0+x4.toNat*1) (F9 .or .u64 (z3 (0+x4.toNat*1)) (p_x (0+x7.toNat*1))) i)]))] (al1 ⟨rfl,Ao3 (c:=pI .u64) (v:=z3) (x:=F9 .or .u64 (z3 (0+x4.toNat*1)) (p_x (0+x7.toNat*1))) (fun _ _=>rfl) rfl⟩ al0))
  ·exact d _ [(0,0),(4000,4000),(5000,5000),(6000,6000)] _ z3 (wrap .i64 (x4+1)) trivial h
 ·obtain rfl:=D1 h;exact B1 hS (And.intro rfl (E9 _ _):(0:Nat)=0/\(BH 33 (fun i=>pI .u64 (x3 i))).length=33) ⟨[(4,.reg 5000 0)],[(5000,.arr 33 (fun i=>pI .u64 (x3 i))),(0,.arr 33 (fun i=>pI .u64 (p_x i)))]⟩ [0] (ids:=[(0,0),(5000,5000)]) ⟨rfl,rfl,rfl⟩ (hle:=klR [(0,.fn 33 33 (fun i=>[(fun i=>(cA 33 (pI .u64) x3).getD i default) i]) (fun i=>[pI .u64 (x3 i)]))] (al1 ⟨rfl,D6 33 (fun i=>pI .u64 (x3 i))⟩ al0))
def E6 (N:Nat)(p_x:Nat->Int)(b:Int)(c:Int):Option (Nat->Int):=
 (O4 N c).bind fun y1=>
 Am8 N (fun a (x1:Int) (x2:Nat->Int) (x3:Nat->Int)=>
  if (decide (0<x1)) then
   if ((F9 .and .i64 x1 1)==1) then
    (D4 N x3 x2).bind fun y8=>
    (H7 N x2).bind fun y9=>
    a (shI .shr .i64 x1 1) y9 y8
   else
    (H7 N x2).bind fun d=>
    a (shI .shr .i64 x1 1) d x3
  else
   some x3
  ) b p_x y1
theorem V5 {N:Nat}{p_x:Nat->Int}{b:Int}{c:Int}{y:Nat->Int}(h:E6 N p_x b c=some y) :FunO S Bv [.p (.agg (cA 33 (pI .u64) p_x)),pN b,pN c] [] (.p (.agg (cA 33 (pI .u64) y))) ([]) []:=by
 unfold E6 at h;refine A6 hS Tryz.func227 ?_;refine kC hS h (Ct hS hL) (fun y1 h=>?_);refine Ah6 hS (And.intro rfl (E9 _ _):(0:Nat)=0/\(BH 33 (fun i=>pI .u64 (y1 i))).length=33) h (fun x1 x2 x3=>⟨[(7,.reg 8000 0),(6,.reg 7000 0),(3,.reg 4000 0),(1,pN x1)],[(8000,.arr 33 (fun i=>pI .u64 (x3 i))),(7000,.arr 33 (fun i=>pI .u64 ((fun _=>0) i))),(4000,.arr 33 (fun i=>pI .u64 (x2 i)))]⟩) (ids:=[(4000,4000),(7000,7000),(8000,8000)]) (fun _ _ _ _ _ f x1 x2 x3 d h=>?_) (hle:=klR [(1,.fn 33 33 (fun i=>[(fun i=>(cA 33 (pI .u64) y1).getD i default) i]) (fun i=>[pI .u64 (y1 i)])),(2,.fn 33 33 (fun i=>[(fun i=>(List.replicate 33 (pI .u64 0)).getD i default) i]) (fun i=>[pI .u64 ((fun _=>0) i)])),(3,.fn 33 33 (fun i=>[(fun i=>(cA 33 (pI .u64) p_x).getD i default) i]) (fun i=>[pI .u64 (p_x i)]))] (al1 ⟨rfl,D6 33 (fun i=>pI .u64 (y1 i))⟩ (al1 ⟨rfl,Bc (z:=pI .u64 0) rfl⟩ (al1 ⟨rfl,D6 33 (fun i=>pI .u64 (p_x i))⟩ al0))));refine kI hS h ?_ ?_<;>intro h
 ·refine kI hS h ?_ ?_<;>intro h
  ·obtain⟨y8,e8,h⟩:=C4 h;refine C0 hS [8000,4000] trivial (Q5 hS hL e8) ?_;obtain⟨y9,e9,h⟩:=C4 h;refine C0 hS [4000] (And.intro rfl (E9 _ _):(0:Nat)=0/\(BH 33 (fun i=>pI .u64 (y8 i))).length=33) (Bz hS hL e9) ?_;exact d _ [(4000,4000),(7000,7000),(8000,8000)] _ (shI .shr .i64 x1 1) y9 y8 (And.intro (And.intro rfl (E9 _ _):(0:Nat)=0/\(BH 33 (fun i=>pI .u64 (y9 i))).length=33) (by decide:(0:Int)<=1)) h (hle:=klR [(1,.fn 33 33 (fun i=>[(fun i=>(cA 33 (pI .u64) y8).getD i default) i]) (fun i=>[pI .u64 (y8 i)])),(3,.fn 33 33 (fun i=>[(fun i=>(cA 33 (pI .u64) y9).getD i default) i]) (fun i=>[pI .u64 (y9 i)]))] (al1 ⟨rfl,D6 33 (fun i=>pI .u64 (y8 i))⟩ (al1 ⟨rfl,D6 33 (fun i=>pI .u64 (y9 i))⟩ al0)))
  ·obtain⟨a,e10,h⟩:=C4 h;refine C0 hS [4000] trivial (Bz hS hL e10) ?_;exact d _ [(4000,4000),(7000,7000),(8000,8000)] _ (shI .shr .i64 x1 1) a x3 (And.intro (And.intro rfl (E9 _ _):(0:Nat)=0/\(BH 33 (fun i=>pI .u64 (a i))).length=33) (by decide:(0:Int)<=1)) h (hle:=klR [(3,.fn 33 33 (fun i=>[(fun i=>(cA 33 (pI .u64) a).getD i default) i]) (fun i=>[pI .u64 (a i)]))] (al1 ⟨rfl,D6 33 (fun i=>pI .u64 (a i))⟩ al0))
 ·obtain rfl:=D1 h;exact B1 hS (And.intro rfl (E9 _ _):(0:Nat)=0/\(BH 33 (fun i=>pI .u64 (x3 i))).length=33) ⟨[(6,.reg 7000 0)],[(7000,.arr 33 (fun i=>pI .u64 (x3 i)))]⟩ [] (ids:=[(7000,7000)]) ⟨rfl,rfl,rfl⟩ (hle:=klR [(0,.fn 33 33 (fun i=>[(fun i=>(cA 33 (pI .u64) x3).getD i default) i]) (fun i=>[pI .u64 (x3 i)]))] (al1 ⟨rfl,D6 33 (fun i=>pI .u64 (x3 i))⟩ al0))
end Go.AM
namespace Go.AM
open IntKind (wrap)
open Go.Proofs
set_option maxRecDepth 10000
set_option maxHeartbeats 2000000
variable {S:Ae}(hS:H0 S Tryz.prog) (hL:Nu S)
include hS hL
def V6 (N:Nat)(p_x:XM)(b:Sl Sound):Option (Nat->Int):=
 S5 N (fun a (x1:Nat->Int) (x2:Int)=>
  if (decide (x2<(b.n:Int))) then
   if ((0:Int)<=x2/\x2<(b.n:Int))then
    if ((((F9 .or .u32 (F9 .andNot .u32 p_x.is.Plus (b.g x2.toNat).Plus) (F9 .andNot .u32 p_x.is.Minus (b.g x2.toNat).Minus))==0)==p_x.not) != true) then
     if (((0:Int)<=(wrap .i64 (x2+1))/\((0:Int)<=x2/\x2<33))/\(0+x2.toNat*1)<33)then
      a (KH x1 (0+x2.toNat*1) (shI .shl .u64 1 (wrap .i64 (x2+1)))) (wrap .i64 (x2+1))
     else none
    else
     a x1 (wrap .i64 (x2+1))
   else none
  else
   some x1
  ) (fun _=>0) 0
theorem Lr {N:Nat}{p_x:XM}{a:Sl Sound}{y:Nat->Int}(h:V6 N p_x a=some y) :FunO S Cq [.p (.agg (UA p_x)),.p (vSl 2 A0 a)] [] (.p (.agg (cA 33 (pI .u64) y))) ([]) []:=by
 unfold V6 at h;refine A6 hS Tryz.func228 ?_;refine I5 hS trivial h (fun x1 x2=>⟨[(9,pN x2),(8,pN (a.n:Int)),(7,.p (vSl 2 A0 a)),(4,.reg 5000 0),(2,.reg 3000 0)],[(5000,.arr 33 (fun i=>pI .u64 (x1 i))),(3000,.cells ((UA p_x).map .p))]⟩) (ids:=[(3000,3000),(5000,5000)]) (fun _ _ _ _ _ f x1 x2 d h=>?_) (hle:=klR [(3,.fn 33 33 (fun i=>[(fun i=>(List.replicate 33 (pI .u64 0)).getD i default) i]) (fun i=>[pI .u64 ((fun _=>0) i)]))] (al1 ⟨rfl,Bc (z:=pI .u64 0) rfl⟩ al0));refine kI hS h ?_ ?_<;>intro h
 ·obtain⟨c8,h⟩:=G4 h;refine E5 hS (And.intro c8 (by decide:(2:Nat)<=2)) (b:=(((F9 .or .u32 (F9 .andNot .u32 p_x.is.Plus (a.g x2.toNat).Plus) (F9 .andNot .u32 p_x.is.Minus (a.g x2.toNat).Minus))==0)==p_x.not) != true) (fun c9=>?_) (fun c9=>?_)
  ·replace h:=itT c9 h;obtain⟨c10,h⟩:=G4 h;exact d _ [(3000,3000),(5000,5000)] _ (KH x1 (0+x2.toNat*1) (shI .shl .u64 1 (wrap .i64 (x2+1)))) (wrap .i64 (x2+1)) c10 h (hle:=klR [(3,.fn 33 33 (fun i=>[(fun i=>if i=(0+x2.toNat*1)then (pI .u64 (shI .shl .u64 1 (wrap .i64 (x2+1))))else (fun i=>pI .u64 (x1 i)) i) i]) (fun i=>[pI .u64 (KH x1 (0+x2.toNat*1) (shI .shl .u64 1 (wrap .i64 (x2+1))) i)]))] (al1 ⟨rfl,Ao3 (c:=pI .u64) (v:=x1) (x:=shI .shl .u64 1 (wrap .i64 (x2+1))) (fun _ _=>rfl) rfl⟩ al0))
  ·replace h:=itF c9 h;exact d _ [(3000,3000),(5000,5000)] _ x1 (wrap .i64 (x2+1)) trivial h
 ·obtain rfl:=D1 h;exact B1 hS (And.intro rfl (E9 _ _):(0:Nat)=0/\(BH 33 (fun i=>pI .u64 (x1 i))).length=33) ⟨[(4,.reg 5000 0)],[(5000,.arr 33 (fun i=>pI .u64 (x1 i)))]⟩ [] (ids:=[(5000,5000)]) ⟨rfl,rfl,rfl⟩ (hle:=klR [(0,.fn 33 33 (fun i=>[(fun i=>(cA 33 (pI .u64) x1).getD i default) i]) (fun i=>[pI .u64 (x1 i)]))] (al1 ⟨rfl,D6 33 (fun i=>pI .u64 (x1 i))⟩ al0))
def Z9 (N:Nat)(p_x:Ap1)(a:Sl Sound):Option (Nat->Int):=
 if p_x.end_ then
  if (((0:Int)<=(a.n:Int)/\((0:Int)<=(a.n:Int)/\(a.n:Int)<33))/\(0+(a.n:Int).toNat*1)<33)then
   some (KH (fun _=>0) (0+(a.n:Int).toNat*1) (shI .shl .u64 1 (a.n:Int)))
  else none
 else
  if (((0:Int)<=0/\(0:Int)<33)/\(0+0*1)<33)then
   some (KH (fun _=>0) (0+0*1) (shI .shl .u64 1 0))
  else none
theorem Mw {N:Nat}{p_x:Ap1}{a:Sl Sound}{y:Nat->Int}(h:Z9 N p_x a=some y) :FunO S Dg [.p (.agg (Ap2 p_x)),.p (vSl 2 A0 a)] [] (.p (.agg (cA 33 (pI .u64) y))) ([]) []:=by
 unfold Z9 at h;refine A6 hS Tryz.func229 ?_;refine kI hS h ?_ ?_<;>intro h
 ·obtain⟨c2,h⟩:=G4 h;obtain rfl:=D1 h;exact B1 hS (And.intro (And.intro (And.intro c2.1.1 c2.1.2) c2.2) (And.intro rfl (E9 _ _):(0:Nat)=0/\(BH 33 (fun i=>if i=(0+(a.n:Int).toNat*1)then (pI .u64 (shI .shl .u64 1 (a.n:Int)))else (fun i=>(List.replicate 33 (pI .u64 0)).getD i default) i)).length=33)) ⟨[(4,.reg 5000 0)],[(5000,.arr 33 (fun i=>pI .u64 (KH (fun _=>0) (0+(a.n:Int).toNat*1) (shI .shl .u64 1 (a.n:Int)) i)))]⟩ [] (ids:=[(5000,5000)]) ⟨rfl,rfl,rfl⟩ (hle:=klR [(0,.fn 33 33 (fun i=>[(fun i=>(BH 33 (fun i=>if i=(0+(a.n:Int).toNat*1)then (pI .u64 (shI .shl .u64 1 (a.n:Int)))else (fun i=>(List.replicate 33 (pI .u64 0)).getD i default) i)).getD i default) i]) (fun i=>[pI .u64 (KH (fun _=>0) (0+(a.n:Int).toNat*1) (shI .shl .u64 1 (a.n:Int)) i)]))] (al1 ⟨rfl,fun i b=>(D6 33 (fun i=>if i=(0+(a.n:Int).toNat*1)then (pI .u64 (shI .shl .u64 1 (a.n:Int)))else (fun i=>(List.replicate 33 (pI .u64 0)).getD i default) i) i b).trans (Ao3 (c:=pI .u64) (v:=fun _=>0) (x:=shI .shl .u64 1 (a.n:Int)) (Bc (z:=pI .u64 0) rfl) rfl i b)⟩ al0))
 ·obtain⟨c3,h⟩:=G4 h;obtain rfl:=D1 h;exact B1 hS (And.intro (And.intro (And.intro (by decide:(0:Int)<=0) c3.1) c3.2) (And.intro rfl (E9 _ _):(0:Nat)=0/\(BH 33 (fun i=>if i=(0+0*1)then (pI .u64 (shI .shl .u64 1 0))else (fun i=>(List.replicate 33 (pI .u64 0)).getD i default) i)).length=33)) ⟨[(4,.reg 5000 0)],[(5000,.arr 33 (fun i=>pI .u64 (KH (fun _=>0) (0+0*1) (shI .shl .u64 1 0) i)))]⟩ [] (ids:=[(5000,5000)]) ⟨rfl,rfl,rfl⟩ (hle:=klR [(0,.fn 33 33 (fun i=>[(fun i=>(BH 33 (fun i=>if i=(0+0*1)then (pI .u64 (shI .shl .u64 1 0))else (fun i=>(List.replicate 33 (pI .u64 0)).getD i default) i)).getD i default) i]) (fun i=>[pI .u64 (KH (fun _=>0) (0+0*1) (shI .shl .u64 1 0) i)]))] (al1 ⟨rfl,fun i b=>(D6 33 (fun i=>if i=(0+0*1)then (pI .u64 (shI .shl .u64 1 0))else (fun i=>(List.replicate 33 (pI .u64 0)).getD i default) i) i b).trans (Ao3 (c:=pI .u64) (v:=fun _=>0) (x:=shI .shl .u64 1 0) (Bc (z:=pI .u64 0) rfl) rfl i b)⟩ al0))
def AP (rec:Part->(Sl Sound)->Option (Nat->Int))(N:Nat)(p_x:Pseq)(b:Sl Sound):Option (Nat->Int):=
 (O4 N (b.n:Int)).bind fun y1=>
 S5 N (fun a (x1:Nat->Int) (x2:Int)=>
  if (decide (x2<(p_x.l.n:Int))) then
   if ((0:Int)<=x2/\x2<(p_x.l.n:Int))then
    (rec (p_x.l.g x2.toNat) b).bind fun y6=>
    (D4 N x1 y6).bind fun y7=>
    a y7 (wrap .i64 (x2+1))
   else none
  else
   some x1
  ) y1 0
theorem OW {N:Nat}{rec:Part->(Sl Sound)->Option ((Nat->Int))}(b:∀{x:Part}{b0:(Sl Sound)}{y:(Nat->Int)},rec x b0=some y->Ay8 S Tryz.prog (Fg x) "ablaut/pats.in" [(.p (vSl 2 A0 b0))] (.p (.agg (cA 33 (pI .u64) y)))){p_x:Pseq}{a:(Sl Sound)}{y:(Nat->Int)}(h:AP rec N p_x a=some y) :FunO S Ep [(.p (.agg (Az8 p_x))),(.p (vSl 2 A0 a))] [] (.p (.agg (cA 33 (pI .u64) y))) ([]) []:=by
 unfold AP at h;refine A6 hS Tryz.func235 ?_;refine kC hS h (Ct hS hL) (fun y1 h=>?_);refine I5 hS (And.intro rfl (E9 _ _):(0:Nat)=0/\(BH 33 (fun i=>pI .u64 (y1 i))).length=33) h (fun x1 x2=>⟨[(15,(pN x2)),(14,(pN (p_x.l.n:Int))),(13,(.p (vSl 1 DL p_x.l))),(5,(.reg 6000 0)),(4,(.reg 5000 0)),(1,(.p (vSl 2 A0 a)))],[(6000,(.arr 33 (fun i=>pI .u64 (x1 i)))),(5000,(.arr 33 (fun i=>pI .u64 ((fun _=>0) i))))]⟩) (ids:=[(5000,5000),(6000,6000)]) (fun _ _ _ _ _ c x1 x2 d h=>?_) (hle:=(klR [(4,.fn 33 33 (fun i=>[(fun i=>(cA 33 (pI .u64) y1).getD i default) i]) (fun i=>[pI .u64 (y1 i)])),(5,.fn 33 33 (fun i=>[(fun i=>(List.replicate 33 (pI .u64 0)).getD i default) i]) (fun i=>[pI .u64 ((fun _=>0) i)]))] (al1 ⟨rfl,(D6 33 (fun i=>pI .u64 (y1 i)))⟩ (al1 ⟨rfl,(Bc (z:=pI .u64 0) rfl)⟩ al0))));refine kI hS h ?_ ?_<;>intro h
 ·obtain⟨c6,h⟩:=G4 h;obtain⟨y6,e6,h⟩:=C4 h;refine JQ hS c6 (b e6) ?_;refine CN hS (And.intro rfl (E9 _ _):(0:Nat)=0/\(BH 33 (fun i=>pI .u64 (y6 i))).length=33) ⟨[(15,(pN x2)),(14,(pN (p_x.l.n:Int))),(13,(.p (vSl 1 DL p_x.l))),(8,(.reg 9000 0)),(5,(.reg 6000 0)),(4,(.reg 5000 0)),(1,(.p (vSl 2 A0 a)))],[(9000,(.arr 33 (fun i=>pI .u64 (y6 i)))),(6000,(.arr 33 (fun i=>pI .u64 (x1 i)))),(5000,(.arr 33 (fun i=>pI .u64 ((fun _=>0) i))))]⟩ (ids:=[(5000,5000),(6000,6000),(9000,9000)]) ?_ (hle:=(klR [(4,.fn 33 33 (fun i=>[(fun i=>(cA 33 (pI .u64) y6).getD i default) i]) (fun i=>[pI .u64 (y6 i)]))] (al1 ⟨rfl,(D6 33 (fun i=>pI .u64 (y6 i)))⟩ al0)));obtain⟨y7,e7,h⟩:=C4 h;refine C0 hS [6000,9000] trivial (Q5 hS hL e7) ?_;exact d _ [(5000,5000),(6000,6000)] _ y7 (wrap .i64 (x2+1)) (And.intro rfl (E9 _ _):(0:Nat)=0/\(BH 33 (fun i=>pI .u64 (y7 i))).length=33) h (hle:=klR [(4,.fn 33 33 (fun i=>[(fun i=>(cA 33 (pI .u64) y7).getD i default) i]) (fun i=>[pI .u64 (y7 i)]))] (al1 ⟨rfl,(D6 33 (fun i=>pI .u64 (y7 i)))⟩ al0))
 ·obtain rfl:=D1 h;exact B1 hS (And.intro rfl (E9 _ _):(0:Nat)=0/\(BH 33 (fun i=>pI .u64 (x1 i))).length=33) ⟨[(4,(.reg 5000 0))],[(5000,(.arr 33 (fun i=>pI .u64 (x1 i))))]⟩ [] (ids:=[(5000,5000)]) ⟨rfl,rfl,rfl⟩ (hle:=(klR [(0,.fn 33 33 (fun i=>[(fun i=>(cA 33 (pI .u64) x1).getD i default) i]) (fun i=>[pI .u64 (x1 i)]))] (al1 ⟨rfl,(D6 33 (fun i=>pI .u64 (x1 i)))⟩ al0)))
def AQ (rec:Part->(Sl Sound)->Option (Nat->Int))(N:Nat)(p_x:Palt)(b:Sl Sound):Option (Nat->Int):=
 S5 N (fun a (x1:Nat->Int) (x2:Int)=>
  if (decide (x2<(p_x.l.n:Int))) then
   if ((0:Int)<=x2/\x2<(p_x.l.n:Int))then
    (rec (p_x.l.g x2.toNat) b).bind fun y5=>
    (K7 N x1 y5).bind fun y6=>
    a y6 (wrap .i64 (x2+1))
   else none
  else
   some x1
  ) (fun _=>0) 0
theorem OX {N:Nat}{rec:Part->(Sl Sound)->Option ((Nat->Int))}(b:∀{x:Part}{b0:(Sl Sound)}{y:(Nat->Int)},rec x b0=some y->Ay8 S Tryz.prog (Fg x) "ablaut/pats.in" [(.p (vSl 2 A0 b0))] (.p (.agg (cA 33 (pI .u64) y)))){p_x:Palt}{a:(Sl Sound)}{y:(Nat->Int)}(h:AQ rec N p_x a=some y) :FunO S En [(.p (.agg (Az5 p_x))),(.p (vSl 2 A0 a))] [] (.p (.agg (cA 33 (pI .u64) y))) ([]) []:=by
 unfold AQ at h;refine A6 hS Tryz.func230 ?_;refine I5 hS trivial h (fun x1 x2=>⟨[(11,(pN x2)),(10,(pN (p_x.l.n:Int))),(9,(.p (vSl 1 DL p_x.l))),(4,(.reg 5000 0)),(1,(.p (vSl 2 A0 a)))],[(5000,(.arr 33 (fun i=>pI .u64 (x1 i))))]⟩) (ids:=[(5000,5000)]) (fun _ _ _ _ _ c x1 x2 d h=>?_) (hle:=(klR [(4,.fn 33 33 (fun i=>[(fun i=>(List.replicate 33 (pI .u64 0)).getD i default) i]) (fun i=>[pI .u64 ((fun _=>0) i)]))] (al1 ⟨rfl,(Bc (z:=pI .u64 0) rfl)⟩ al0)));refine kI hS h ?_ ?_<;>intro h
 ·obtain⟨c6,h⟩:=G4 h;obtain⟨y5,e5,h⟩:=C4 h;refine JQ hS c6 (b e5) ?_;refine CN hS (And.intro rfl (E9 _ _):(0:Nat)=0/\(BH 33 (fun i=>pI .u64 (y5 i))).length=33) ⟨[(11,(pN x2)),(10,(pN (p_x.l.n:Int))),(9,(.p (vSl 1 DL p_x.l))),(7,(.reg 8000 0)),(4,(.reg 5000 0)),(1,(.p (vSl 2 A0 a)))],[(8000,(.arr 33 (fun i=>pI .u64 (y5 i)))),(5000,(.arr 33 (fun i=>pI .u64 (x1 i))))]⟩ (ids:=[(5000,5000),(8000,8000)]) ?_ (hle:=(klR [(4,.fn 33 33 (fun i=>[(fun i=>(cA 33 (pI .u64) y5).getD i default) i]) (fun i=>[pI .u64 (y5 i)]))] (al1 ⟨rfl,(D6 33 (fun i=>pI .u64 (y5 i)))⟩ al0)));obtain⟨y6,e6,h⟩:=C4 h;refine C0 hS [5000,8000] trivial (CV hS hL e6) ?_;exact d _ [(5000,5000)] _ y6 (wrap .i64 (x2+1)) trivial h
 ·obtain rfl:=D1 h;exact B1 hS (And.intro rfl (E9 _ _):(0:Nat)=0/\(BH 33 (fun i=>pI .u64 (x1 i))).length=33) ⟨[(4,(.reg 5000 0))],[(5000,(.arr 33 (fun i=>pI .u64 (x1 i))))]⟩ [] (ids:=[(5000,5000)]) ⟨rfl,rfl,rfl⟩ (hle:=(klR [(0,.fn 33 33 (fun i=>[(fun i=>(cA 33 (pI .u64) x1).getD i default) i]) (fun i=>[pI .u64 (x1 i)]))] (al1 ⟨rfl,(D6 33 (fun i=>pI .u64 (x1 i)))⟩ al0)))
def AR (rec:Part->(Sl Sound)->Option (Nat->Int))(N:Nat)(p_x:Az6)(a:Sl Sound):Option (Nat->Int):=
 (rec p_x.of a).bind fun y1=>
 (E6 N y1 p_x.min (a.n:Int)).bind fun y2=>
 (O4 N (a.n:Int)).bind fun y3=>
 (K7 N y1 y3).bind fun y4=>
 if (decide (p_x.max<0)) then
  (E6 N y4 (a.n:Int) (a.n:Int)).bind fun y5=>
  (D4 N y2 y5).bind fun y6=>
  some y6
 else
  (E6 N y4 (wrap .i64 (p_x.max-p_x.min)) (a.n:Int)).bind fun y7=>
  (D4 N y2 y7).bind fun y8=>
  some y8
theorem OY {N:Nat}{rec:Part->(Sl Sound)->Option ((Nat->Int))}(b:∀{x:Part}{b0:(Sl Sound)}{y:(Nat->Int)},rec x b0=some y->Ay8 S Tryz.prog (Fg x) "ablaut/pats.in" [(.p (vSl 2 A0 b0))] (.p (.agg (cA 33 (pI .u64) y)))){p_x:Az6}{a:(Sl Sound)}{y:(Nat->Int)}(h:AR rec N p_x a=some y) :FunO S Eo [(.p (.agg (Az7 p_x))),(.p (vSl 2 A0 a))] [] (.p (.agg (cA 33 (pI .u64) y))) ([]) []:=by
 unfold AR at h;refine A6 hS Tryz.func232 ?_;obtain⟨y1,e1,h⟩:=C4 h;refine JQ hS trivial (b e1) ?_;refine CN hS (And.intro rfl (E9 _ _):(0:Nat)=0/\(BH 33 (fun i=>pI .u64 (y1 i))).length=33) ⟨[(18,(pN (a.n:Int))),(16,(pN p_x.min)),(14,(.p (.agg (cA 33 (pI .u64) y1)))),(5,(.reg 6000 0)),(4,(.reg 5000 0)),(2,(.reg 3000 0)),(1,(.p (vSl 2 A0 a)))],[(6000,(.arr 33 (fun i=>pI .u64 (y1 i)))),(5000,(.arr 33 (fun i=>pI .u64 ((fun _=>0) i)))),(3000,(.cells [(.p (Fg p_x.of)),(pN p_x.min),(pN p_x.max)]))]⟩ (ids:=[(3000,3000),(5000,5000),(6000,6000)]) ?_ (hle:=(klR [(2,.eq (.agg (BH 33 (fun i=>(cA 33 (pI .u64) y1).getD i default))) (.agg (cA 33 (pI .u64) y1))),(4,.fn 33 33 (fun i=>[(fun i=>(cA 33 (pI .u64) y1).getD i default) i]) (fun i=>[pI .u64 (y1 i)])),(5,.fn 33 33 (fun i=>[(fun i=>(List.replicate 33 (pI .u64 0)).getD i default) i]) (fun i=>[pI .u64 ((fun _=>0) i)]))] (al1 (congrArg PV.agg (VN (D6 33 (fun i=>pI .u64 (y1 i))))) (al1 ⟨rfl,(D6 33 (fun i=>pI .u64 (y1 i)))⟩ (al1 ⟨rfl,(Bc (z:=pI .u64 0) rfl)⟩ al0)))));refine kC hS h (V5 hS hL) (fun y2 h=>?_);obtain⟨y3,e3,h⟩:=C4 h;refine C0 hS [] (And.intro (And.intro rfl (E9 _ _):(0:Nat)=0/\(BH 33 (fun i=>pI .u64 (y2 i))).length=33) (And.intro rfl (E9 _ _):(0:Nat)=0/\(BH 33 (fun i=>pI .u64 (y1 i))).length=33)) (Ct hS hL e3) ?_;refine CN hS (And.intro rfl (E9 _ _):(0:Nat)=0/\(BH 33 (fun i=>pI .u64 (y3 i))).length=33) ⟨[(8,(.reg 9000 0)),(7,(.reg 8000 0)),(6,(.reg 7000 0)),(4,(.reg 5000 0)),(2,(.reg 3000 0)),(1,(.p (vSl 2 A0 a)))],[(9000,(.arr 33 (fun i=>pI .u64 (y3 i)))),(8000,(.arr 33 (fun i=>pI .u64 (y1 i)))),(7000,(.arr 33 (fun i=>pI .u64 (y2 i)))),(5000,(.arr 33 (fun i=>pI .u64 ((fun _=>0) i)))),(3000,(.cells [(.p (Fg p_x.of)),(pN p_x.min),(pN p_x.max)]))]⟩ (ids:=[(3000,3000),(5000,5000),(7000,7000),(8000,8000),(9000,9000)]) ?_ (hle:=(klR [(1,.fn 33 33 (fun i=>[(fun i=>(cA 33 (pI .u64) y3).getD i default) i]) (fun i=>[pI .u64 (y3 i)])),(2,.fn 33 33 (fun i=>[(fun i=>(cA 33 (pI .u64) y1).getD i default) i]) (fun i=>[pI .u64 (y1 i)])),(3,.fn 33 33 (fun i=>[(fun i=>(cA 33 (pI .u64) y2).getD i default) i]) (fun i=>[pI .u64 (y2 i)]))] (al1 ⟨rfl,(D6 33 (fun i=>pI .u64 (y3 i)))⟩ (al1 ⟨rfl,(D6 33 (fun i=>pI .u64 (y1 i)))⟩ (al1 ⟨rfl,(D6 33 (fun i=>pI .u64 (y2 i)))⟩ al0)))));obtain⟨y4,e4,h⟩:=C4 h;refine C0 hS [8000,9000] trivial (CV hS hL e4) ?_;refine kI hS h ?_ ?_<;>intro h
 ·refine kC hS h (V5 hS hL) (fun y5 h=>?_);refine CN hS (And.intro rfl (E9 _ _):(0:Nat)=0/\(BH 33 (fun i=>pI .u64 (y5 i))).length=33) ⟨[(7,(.reg 8000 0)),(6,(.reg 7000 0)),(4,(.reg 5000 0))],[(8000,(.arr 33 (fun i=>pI .u64 (y5 i)))),(7000,(.arr 33 (fun i=>pI .u64 (y2 i)))),(5000,(.arr 33 (fun i=>pI .u64 ((fun _=>0) i))))]⟩ (ids:=[(5000,5000),(7000,7000),(8000,8000)]) ?_ (hle:=(klR [(0,.fn 33 33 (fun i=>[(fun i=>(cA 33 (pI .u64) y5).getD i default) i]) (fun i=>[pI .u64 (y5 i)]))] (al1 ⟨rfl,(D6 33 (fun i=>pI .u64 (y5 i)))⟩ al0)));obtain⟨y6,e6,h⟩:=C4 h;refine C0 hS [7000,8000] trivial (Q5 hS hL e6) ?_;obtain rfl:=D1 h;exact B1 hS (And.intro rfl (E9 _ _):(0:Nat)=0/\(BH 33 (fun i=>pI .u64 (y6 i))).length=33) ⟨[(4,(.reg 5000 0))],[(5000,(.arr 33 (fun i=>pI .u64 (y6 i))))]⟩ [] (ids:=[(5000,5000)]) ⟨rfl,rfl,rfl⟩ (hle:=(klR [(0,.fn 33 33 (fun i=>[(fun i=>(cA 33 (pI .u64) y6).getD i default) i]) (fun i=>[pI .u64 (y6 i)]))] (al1 ⟨rfl,(D6 33 (fun i=>pI .u64 (y6 i)))⟩ al0)))
 ·refine kC hS h (V5 hS hL) (fun y7 h=>?_);refine CN hS (And.intro rfl (E9 _ _):(0:Nat)=0/\(BH 33 (fun i=>pI .u64 (y7 i))).length=33) ⟨[(7,(.reg 8000 0)),(6,(.reg 7000 0)),(4,(.reg 5000 0))],[(8000,(.arr 33 (fun i=>pI .u64 (y7 i)))),(7000,(.arr 33 (fun i=>pI .u64 (y2 i)))),(5000,(.arr 33 (fun i=>pI .u64 ((fun _=>0) i))))]⟩ (ids:=[(5000,5000),(7000,7000),(8000,8000)]) ?_ (hle:=(klR [(0,.fn 33 33 (fun i=>[(fun i=>(cA 33 (pI .u64) y7).getD i default) i]) (fun i=>[pI .u64 (y7 i)]))] (al1 ⟨rfl,(D6 33 (fun i=>pI .u64 (y7 i)))⟩ al0)));obtain⟨y8,e8,h⟩:=C4 h;refine C0 hS [7000,8000] trivial (Q5 hS hL e8) ?_;obtain rfl:=D1 h;exact B1 hS (And.intro rfl (E9 _ _):(0:Nat)=0/\(BH 33 (fun i=>pI .u64 (y8 i))).length=33) ⟨[(4,(.reg 5000 0))],[(5000,(.arr 33 (fun i=>pI .u64 (y8 i))))]⟩ [] (ids:=[(5000,5000)]) ⟨rfl,rfl,rfl⟩ (hle:=(klR [(0,.fn 33 33 (fun i=>[(fun i=>(cA 33 (pI .u64) y8).getD i default) i]) (fun i=>[pI .u64 (y8 i)]))] (al1 ⟨rfl,(D6 33 (fun i=>pI .u64 (y8 i)))⟩ al0)))
def S8 (rec:Pat->Option Part)(N:Nat)(a:Pat):Option Part:=
 S5 N (fun b (x1:Sl Part) (x2:Int)=>
  if (decide (x2<(a.L.n:Int))) then
   if ((0:Int)<=x2/\x2<(a.L.n:Int))then
    (rec (a.L.g x2.toNat)).bind fun y3=>
    if ((x1.n+(Sl.of [y3]:Sl Part).n)*16<=140737488355328/\x1.n+(Sl.of [y3]:Sl Part).n<=140737488355328)then
     b (x1.push y3) (wrap .i64 (x2+1))
    else none
   else none
  else
   if (a.Kind==1) then
    some (Part.sound a.Is a.Not)
   else
    if (a.Kind==2) then
     some (Part.edge false)
    else
     if (a.Kind==6) then
      some (Part.edge true)
     else
      if (a.Kind==4) then
       some (Part.alt x1.n x1.g)
      else
       if (a.Kind==5) then
        if (((0:Int)<=0/\0<(x1.n:Int))/\0<x1.n)then
         some (Part.rep (x1.g 0) a.Min a.Max)
        else none
       else
        some (Part.seq x1.n x1.g)
  ) (Sl.nil:Sl Part) 0
def Aa:Nat->Pat->Option Part
 |0=>fun _=>none
 |N+1=>S8 (Aa N) N
theorem Ls {N:Nat}{rec:Pat->Option Part}(b:∀{a:Pat}{y:Part},rec a=some y->FunO S Bo [.p (.agg (B5 a))] [] (.p (Fg y)) ([]) []){a:Pat}{y:Part}(h:S8 rec N a=some y) :FunO S Bo [.p (.agg (B5 a))] [] (.p (Fg y)) ([]) []:=by
 unfold S8 at h;refine A6 hS Tryz.func208 ?_;refine N5 hS trivial 2 2000 (B5 a) ?_;refine O8 hS trivial 8 ⟨[(7,.p (vSl 7 B5 a.L)),(3,.p F1),(1,.p (.ptr (B5 a)))],[]⟩ (ids:=[]) ?_ (hle:=klR [(0,.fn a.L.n a.L.n (Co a) (fun i=>B5 (a.L.g i)))] (al1 ⟨rfl,AJ a⟩ al0));refine I5 hS trivial h (fun x1 x2=>⟨[(9,pN x2),(8,pN (a.L.n:Int)),(7,.p (vSl 7 B5 a.L)),(3,.vec 4500),(1,.p (.ptr (B5 a)))],[(4500,.vec SS 1 x1.n (fun i=>DL (x1.g i)) false)]⟩) (ids:=[]) (fun _ _ _ _ _ d x1 x2 f h=>?_);refine kI hS h ?_ ?_<;>intro h
 ·obtain⟨c6,h⟩:=G4 h;refine N5 hS (And.intro c6 (by decide:(7:Nat)<=7)) 13 6000 (B5 (a.L.g x2.toNat)) ?_;obtain⟨y3,e3,h⟩:=C4 h;refine C0 hS [] (by decide:(7:Nat)<=7) (b e3) ?_;obtain⟨c7,h⟩:=G4 h;exact f _ [(4500,18000)] _ (x1.push y3) (wrap .i64 (x2+1)) (And.intro (rfl:true=true) c7) h (hle:=klR [(4,.fn (x1.n+1) (x1.push y3).n (Aq x1.n (fun i=>DL (x1.g i)) (E8 [.v .nilIface] [(0,DL y3)])) (fun i=>DL ((x1.push y3).g i)))] (al1 ⟨rfl,LY (c:=DL) (v:=x1) (x:=y3) (z:=[(.v .nilIface)]) same rfl rfl⟩ al0))
 ·refine kI hS h ?_ ?_<;>intro h
  ·obtain rfl:=D1 h;exact Aa3 hS (by decide:(2:Nat)<=6) [] ⟨rfl,rfl,rfl⟩
  ·refine kI hS h ?_ ?_<;>intro h
   ·cases h;exact kR hS
   ·refine kI hS h ?_ ?_<;>intro h
    ·cases h;exact kR hS
    ·refine kI hS h ?_ ?_<;>intro h
     ·refine O8 hS trivial 40 ⟨[(39,.p (vSl 1 DL x1))],[]⟩ (ids:=[]) ?_;cases h;exact kR hS
     ·refine kI hS h ?_ ?_<;>intro h
      ·refine J4 hS trivial [4,6] ?_;obtain⟨c13,h⟩:=G4 h;refine O1 c13 ?_;cases h;exact kR hS
      ·refine O8 hS trivial 54 ⟨[(53,.p (vSl 1 DL x1))],[]⟩ (ids:=[]) ?_;cases h;exact kR hS
theorem Mx {N:Nat}{a:Pat}{y:Part}(h:Aa N a=some y) :FunO S Bo [.p (.agg (B5 a))] [] (.p (Fg y)) ([]) []:=by
 induction N generalizing a y with
 |zero=>cases (show (none:Option Part)=some y from h)
 |succ N ih=>exact Ls hS hL (fun e=>ih e) h
end Go.AM
namespace Go.AM
open Go.Proofs
variable {S:Ae}(hS:H0 S Tryz.prog) (hL:Nu S)
include hS hL
def Ab:Nat->Part->Sl Sound->Option (Nat->Int)
 |0=>fun _ _=>none
 |N+1=>fun p w=>match p with
  |.nil=>none
  |.sound x no=>V6 N ⟨x,no⟩ w
  |.edge e=>Z9 N ⟨e⟩ w
  |.seq n g=>AP (Ab N) N ⟨⟨n,g⟩⟩ w
  |.alt n g=>AQ (Ab N) N ⟨⟨n,g⟩⟩ w
  |.rep o mn mx=>AR (Ab N) N ⟨o,mn,mx⟩ w
theorem XV {N:Nat}{x:Part}{w:Sl Sound}{y:Nat->Int}(h:Ab N x w=some y):Ay8 S Tryz.prog (Fg x) "ablaut/pats.in" [(.p (vSl 2 A0 w))] (.p (.agg (cA 33 (pI .u64) y))):=by
 induction N generalizing x w y with
 |zero=>cases h
 |succ N ih=>
  cases x with
  |nil=>cases h
  |sound s no=>exact⟨_,_,Cq,rfl,by kernel_rfl,Lr hS hL (p_x:=⟨s,no⟩) h⟩
  |edge e=>exact⟨_,_,Dg,rfl,by kernel_rfl,Mw hS hL (N:=N) (p_x:=⟨e⟩) h⟩
  |seq n g=>exact⟨_,_,Ep,rfl,by kernel_rfl,OW hS hL (fun e=>ih e) (p_x:=⟨⟨n,g⟩⟩) h⟩
  |alt n g=>exact⟨_,_,En,rfl,by kernel_rfl,OX hS hL (fun e=>ih e) (p_x:=⟨⟨n,g⟩⟩) h⟩
  |rep o mn mx=>exact⟨_,_,Eo,rfl,by kernel_rfl,OY hS hL (fun e=>ih e) (p_x:=⟨o,mn,mx⟩) h⟩
end Go.AM
namespace Go.AM
open IntKind (wrap)
open Go.Proofs
set_option maxRecDepth 10000
set_option maxHeartbeats 2000000
variable {S:Ae}(hS:H0 S Tryz.prog) (hL:Nu S)
include hS hL
def R7 (N:Nat)(a:Sound):Option Bool:=
 (N8 N a).bind fun y1=>
 some (!y1)
theorem Lt {N:Nat}{a:Sound}{y:Bool}(h:R7 N a=some y) :FunO S Fp [.p (.agg (A0 a))] [] (pB y) ([]) []:=by unfold R7 at h;refine A6 hS Tryz.func207 ?_;refine kC hS h (CU hS hL) (fun y1 h=>?_);cases h;exact kR hS
def D2 (N:Nat)(a:Sl Sound)(c:Sound->Option Bool):Option Int:=
 R9 N (fun b (x1:Int)=>
  if (decide (x1<(a.n:Int))) then
   if ((0:Int)<=x1/\x1<(a.n:Int))then
    (c (a.g x1.toNat)).bind fun y3=>
    if y3 then
     some x1
    else
     b (wrap .i64 (x1+1))
   else none
  else
   some (-1)
  ) 0
theorem T6 {N:Nat}{a:Sl Sound}{c:Sound->Option Bool}{kp_f:Nat}(d:∀{a0:Sound}{b:Bool},c a0=some b->FunO S kp_f [.p (.agg (A0 a0))] [] (pB b) [] []){y:Int}(h:D2 N a c=some y) :FunO S I7 [.p (vSl 2 A0 a),.clo kp_f [] []] [] (pN y) ([]) []:=by
 unfold D2 at h;refine A6 hS Tryz.func123 ?_;refine Au hS trivial h (fun x1=>⟨[(8,pN x1),(7,pN (a.n:Int)),(1,.clo kp_f [] []),(0,.p (vSl 2 A0 a))],[]⟩) (ids:=[]) (fun _ _ _ _ _ f x1 g h=>?_);refine kI hS h ?_ ?_<;>intro h
 ·obtain⟨c8,h⟩:=G4 h;obtain⟨y3,e3,h⟩:=C4 h;refine C0 hS [] (And.intro c8 (by decide:(2:Nat)<=2)) (d e3) ?_;refine kI hS h ?_ ?_<;>intro h
  ·cases h;exact kR hS
  ·exact g _ [] _ (wrap .i64 (x1+1)) trivial h
 ·cases h;exact kR hS
def B3 (N:Nat)(a:Sl Sound)(b:Sound->Option Bool):Option Bool:=
 (D2 N a b).bind fun y1=>
 some (decide (0<=y1))
theorem H9 {N:Nat}{a:Sl Sound}{c:Sound->Option Bool}{kp_f:Nat}(d:∀{a0:Sound}{b:Bool},c a0=some b->FunO S kp_f [.p (.agg (A0 a0))] [] (pB b) [] []){y:Bool}(h:B3 N a c=some y) :FunO S H8 [.p (vSl 2 A0 a),.clo kp_f [] []] [] (pB y) ([]) []:=by unfold B3 at h;refine A6 hS Tryz.func104 ?_;refine kC hS h (T6 hS hL (fun e=>d e)) (fun y1 h=>?_);cases h;exact kR hS
def C7 (N:Nat)(q0:Sl Pat):Option (List (Int×Pat)):=
 R9 N (fun a (x1:Int)=>
  if (decide (0<=x1)) then
   if ((0:Int)<=x1/\x1<(q0.n:Int))then
    Bb (x1,q0.g x1.toNat) (
     a (wrap .i64 (x1-1))
     )
   else none
  else
   some []
  ) (wrap .i64 ((q0.n:Int)-1))
theorem X2 {N:Nat}{q0:Sl Pat}{L:List (Int×Pat)}(h:C7 N q0=some L) :GG S D8 [] [.reg 0 0] [.cells [.p (vSl 7 B5 q0)]] (L.map (fun (x:Int×Pat)=>[pI .i64 x.1,(fun x=>.agg (B5 x)) x.2])):=by
 unfold C7 at h;refine Ht hS Tryz.func142 ?_;refine Iw hS trivial h (fun x1 L1=>⟨[(3,pN x1),(1,.reg 0 0),(0,.yf 1)],[(1,.yld (L1.map (fun (x:Int×Pat)=>[pI .i64 x.1,(fun x=>.agg (B5 x)) x.2])) true),(0,.cells [.p (vSl 7 B5 q0)])]⟩) (ids:=[(0,0),(1,1)]) (fun _ _ _ _ _ d x1 L1 f h=>?_);refine kI hS h ?_ ?_<;>intro h
 ·obtain⟨c10,h⟩:=G4 h;obtain⟨L4,rfl,c⟩:=Ow h;replace h:=c;refine Eh hS (And.intro c10 (by decide:(7:Nat)<=7)) (ys:=(fun (x:Int×Pat)=>[pI .i64 x.1,(fun x=>.agg (B5 x)) x.2]) (x1,q0.g x1.toNat)) (rest:=L4.map (fun (x:Int×Pat)=>[pI .i64 x.1,(fun x=>.agg (B5 x)) x.2])) ?_ ?_
  ·refine E5 hS trivial (b:=false) (fun c11=>?_) (fun c11=>?_)
   ·exact Bool.noConfusion ((rfl:false=false).symm.trans c11)
   ·exact f _ [(0,0),(1,1)] _ (wrap .i64 (x1-1)) L4 trivial h
  ·refine E5 hS trivial (b:=true) (fun c12=>?_) (fun c12=>?_)
   ·exact B1 hS trivial (a:=.tup []) (objs:=[(.cells [.p (vSl 7 B5 q0)]),.yld [] false]) ⟨[],[(1,.yld [] false),(0,.cells [.p (vSl 7 B5 q0)])]⟩ [0,1] (ids:=[(0,0),(1,1)]) ⟨false,rfl,rfl,_,rfl⟩
   ·exact Bool.noConfusion ((rfl:true=true).symm.trans c12)
 ·obtain rfl:=D1 h;exact B1 hS trivial (a:=.tup []) (objs:=[(.cells [.p (vSl 7 B5 q0)]),.yld [] true]) ⟨[],[(1,.yld [] true),(0,.cells [.p (vSl 7 B5 q0)])]⟩ [0,1] (ids:=[(0,0),(1,1)]) ⟨true,rfl,rfl,_,rfl⟩
def H3 (N:Nat)(a:Sl Pat):Option (Sl Pat):=
 some a
theorem Ac {N:Nat}{a:Sl Pat}{y:Sl Pat}(h:H3 N a=some y) :FunO S N6 [.p (vSl 7 B5 a)] [] (.clo D8 [] [.reg 0 0]) ([.cells [.p (vSl 7 B5 y)]]) []:=by unfold H3 at h;refine A6 hS Tryz.func122 ?_;obtain rfl:=D1 h;exact B1 hS trivial ⟨[(2,.clo D8 [] [.reg 2000 0])],[(2000,.cells [.p (vSl 7 B5 a)])]⟩ [2000] (ids:=[(2000,2000)]) ⟨rfl,rfl,rfl⟩
def V7 (N:Nat)(c:Pat):Option Int:=
 S5 N (fun a (x3:Sl Pat) (x4:Int)=>
  if (decide (0<(x3.n:Int))) then
   if (x4==40) then
    some 12
   else
    if (((0:Int)<=(wrap .i64 ((x3.n:Int)-1))/\(wrap .i64 ((x3.n:Int)-1))<(x3.n:Int))/\(wrap .i64 ((x3.n:Int)-1)).toNat<x3.n)then
     if ((0:Int)<=(wrap .i64 ((x3.n:Int)-1))/\(wrap .i64 ((x3.n:Int)-1))<=(x3.n:Int))then
      (Z7 N (x3.g (wrap .i64 ((x3.n:Int)-1)).toNat)).bind fun y5=>
      if (y5 != 0) then
       some y5
      else
       if ((0:Int)<=(if 41<((x3.g (wrap .i64 ((x3.n:Int)-1)).toNat).L.n:Int)then 41 else ((x3.g (wrap .i64 ((x3.n:Int)-1)).toNat).L.n:Int))/\(if 41<((x3.g (wrap .i64 ((x3.n:Int)-1)).toNat).L.n:Int)then 41 else ((x3.g (wrap .i64 ((x3.n:Int)-1)).toNat).L.n:Int))<=((x3.g (wrap .i64 ((x3.n:Int)-1)).toNat).L.n:Int))then
        (H3 N ((x3.g (wrap .i64 ((x3.n:Int)-1)).toNat).L.take (if 41<((x3.g (wrap .i64 ((x3.n:Int)-1)).toNat).L.n:Int)then 41 else ((x3.g (wrap .i64 ((x3.n:Int)-1)).toNat).L.n:Int)).toNat)).bind fun y6=>
        (C7 N y6).bind fun L3=>
        P4 L3 (fun b (x7:Int×Pat) (z3:Sl Pat)=>
         if ((((z3.n+(Sl.of [Pat.nil]:Sl Pat).n)*64<=140737488355328/\z3.n+(Sl.of [Pat.nil]:Sl Pat).n<=140737488355328)/\((0:Int)<=(z3.n:Int)/\(z3.n:Int)<((z3.push Pat.nil).n:Int)))/\(z3.n:Int).toNat<(z3.push Pat.nil).n)then
          b ((z3.push Pat.nil).upd (z3.n:Int).toNat x7.2)
         else none
         ) (fun (z3:Sl Pat)=>
          a z3 (wrap .i64 (x4+1))
         ) (x3.take (wrap .i64 ((x3.n:Int)-1)).toNat)
       else none
     else none
    else none
  else
   some 0
  ) (Sl.of [c]:Sl Pat) 0
theorem Fu {N:Nat}{b:Pat}{y:Int}(h:V7 N b=some y) :FunO S Jj [.p (.agg (B5 b))] [] (pN y) ([]) []:=by
 unfold V7 at h;refine A6 hS Tryz.func103 ?_;refine N5 hS trivial 2 2000 (B5 b) ?_;refine I5 hS (And.intro (by decide:(7:Nat)<=7) (rfl:true=true)) h (fun x3 x4=>⟨[(4,pN x4),(3,.reg 4000 0)],[(4501,.vec DN 7 x3.n (fun i=>B5 (x3.g i)) false),(4000,.cells [.vec 4501])]⟩) (ids:=[(4000,4000),(4501,12000)]) (fun _ _ _ _ _ d x3 x4 j h=>?_) (hle:=klR [(1,.fn 1 (Sl.of [b]:Sl Pat).n (E8 [pI .i64 0,pI .u32 0,pI .u32 0,.v (.bool false),pI .i64 0,pI .i64 0,F1] [(0,B5 b)]) (fun i=>B5 ((Sl.of [b]:Sl Pat).g i)))] (al1 ⟨rfl,(fun i m=>match i,m with|0,_=>rfl|_+1,m=>absurd m (by omega))⟩ al0));refine kI hS h ?_ ?_<;>intro h
 ·refine kI hS h ?_ ?_<;>intro h
  ·cases h;exact kR hS
  ·obtain⟨c21,h⟩:=G4 h;refine N5 hS (And.intro (And.intro c21.1 (by decide:(7:Nat)<=7)) c21.2) 25 6000 (B5 (x3.g (wrap .i64 ((x3.n:Int)-1)).toNat)) ?_;obtain⟨c22,h⟩:=G4 h;refine Ay9 hS c22 30 4501 (wrap .i64 ((x3.n:Int)-1)).toNat 4508 (e:=DN) (k:=7) (N:=x3.n) (f:=fun i=>B5 (x3.g i)) (by have r:=c22;omega) ?_;obtain⟨y5,e7,h⟩:=C4 h;refine C0 hS [] (by decide:(7:Nat)<=7) (Mu hS hL e7) ?_;refine kI hS h ?_ ?_<;>intro h
   ·cases h;exact kR hS
   ·refine O8 hS trivial 39 ⟨[(38,.p (vSl 7 B5 (x3.g (wrap .i64 ((x3.n:Int)-1)).toNat).L)),(36,.p (vSl 7 B5 (x3.g (wrap .i64 ((x3.n:Int)-1)).toNat).L)),(4,pN x4),(3,.reg 4000 0)],[(4508,.vec DN 7 (x3.take (wrap .i64 ((x3.n:Int)-1)).toNat).n (fun i=>B5 ((x3.take (wrap .i64 ((x3.n:Int)-1)).toNat).g i)) false),(4000,.cells [.vec 4508])]⟩ (ids:=[(4000,4000),(4508,4508)]) ?_ (hle:=klR [(0,.fn (x3.g (wrap .i64 ((x3.n:Int)-1)).toNat).L.n (x3.g (wrap .i64 ((x3.n:Int)-1)).toNat).L.n (Co (x3.g (wrap .i64 ((x3.n:Int)-1)).toNat)) (fun i=>B5 ((x3.g (wrap .i64 ((x3.n:Int)-1)).toNat).L.g i))),(1,.fn (x3.g (wrap .i64 ((x3.n:Int)-1)).toNat).L.n (x3.g (wrap .i64 ((x3.n:Int)-1)).toNat).L.n (Co (x3.g (wrap .i64 ((x3.n:Int)-1)).toNat)) (fun i=>B5 ((x3.g (wrap .i64 ((x3.n:Int)-1)).toNat).L.g i)))] (al1 ⟨rfl,AJ (x3.g (wrap .i64 ((x3.n:Int)-1)).toNat)⟩ (al1 ⟨rfl,AJ (x3.g (wrap .i64 ((x3.n:Int)-1)).toNat)⟩ al0)));obtain⟨c24,h⟩:=G4 h;obtain⟨y6,e8,h⟩:=C4 h;refine C0 hS [] c24 (Ac hS hL e8) ?_;obtain⟨L3,e9,h⟩:=C4 h;refine GL hS trivial [44000] [4,3] 905 (fun z3=>⟨[(4,pN x4),(3,.reg 4000 0)],[(4500,.vec DN 7 z3.n (fun i=>B5 (z3.g i)) false),(4000,.cells [.vec 4500])]⟩) (idl:=[(4000,4000),(4500,4508)]) h (X2 hS hL e9) (fun _=>by kernel_rfl) (fun _=>by kernel_rfl) (fun _=>by kernel_rfl) (fun _=>by kernel_rfl) (fun x7 _ o z3 q h=>?_) (fun z3 h=>?_)
    ·refine KF hS trivial ?_;refine Ao2 hS trivial 10000 (B5 x7.2) ?_;refine P5 hS trivial [(0,.l [4000]),(1,.n),(2,.l [4500]),(4,.a [51000,4500]),(5,.l [51000]),(6,.a [51000]),(7,.a [4000])] ?_;refine Dc (by decide:(7:Nat)<=7) (x:=.sl true 7 1 (E8 [pI .i64 0,pI .u32 0,pI .u32 0,.v (.bool false),pI .i64 0,pI .i64 0,F1] [(0,[pI .i64 0,pI .u32 0,pI .u32 0,.v (.bool false),pI .i64 0,pI .i64 0,F1])])) ?_;obtain⟨c27,h⟩:=G4 h;refine O1 (And.intro (And.intro c27.1.1 c27.1.2) (And.intro (rfl:(7:Nat)=7) (And.intro c27.2 (by decide:(7:Nat)<=7)))) ?_;exact q _ [(905,905),(4000,4000),(4500,51000)] _ ((z3.push Pat.nil).upd (z3.n:Int).toNat x7.2) trivial h (hle:=klR [(0,.fn (z3.n+1) ((z3.push Pat.nil).upd (z3.n:Int).toNat x7.2).n (fun l=>if l=(z3.n:Int).toNat then splice (Aq z3.n (fun i=>B5 (z3.g i)) (E8 [pI .i64 0,pI .u32 0,pI .u32 0,.v (.bool false),pI .i64 0,pI .i64 0,F1] [(0,[pI .i64 0,pI .u32 0,pI .u32 0,.v (.bool false),pI .i64 0,pI .i64 0,F1])]) l) 0 [pI .i64 x7.2.Kind,pI .u32 x7.2.Is.Plus,pI .u32 x7.2.Is.Minus,.bb x7.2.Not,pI .i64 x7.2.Min,pI .i64 x7.2.Max,.sl false 7 x7.2.L.n (Co x7.2)]else (Aq z3.n (fun i=>B5 (z3.g i)) (E8 [pI .i64 0,pI .u32 0,pI .u32 0,.v (.bool false),pI .i64 0,pI .i64 0,F1] [(0,[pI .i64 0,pI .u32 0,pI .u32 0,.v (.bool false),pI .i64 0,pI .i64 0,F1])])) l) (fun i=>B5 (((z3.push Pat.nil).upd (z3.n:Int).toNat x7.2).g i)))] (al1 ⟨rfl,setH (c:=B5) (v:=z3.push Pat.nil) (x:=x7.2) (app1H (c:=B5) (v:=z3) (z:=Pat.nil) same rfl) (fun _=>by simp[Aq,E8,splice])⟩ al0))
    ·exact j _ [(4000,4000),(4501,4500)] _ z3 (wrap .i64 (x4+1)) trivial h
 ·cases h;exact kR hS
def X3 (N:Nat)(b:Pat)(a:Sl Sound):Option ((Nat->Int)×Int):=
 (V7 N b).bind fun y1=>
 if (y1 != 0) then
  some (fun _=>0,y1)
 else
  if (decide (32<(a.n:Int))) then
   some (fun _=>0,11)
  else
   (B3 N a (fun (u1:Sound)=>R7 N u1)).bind fun y2=>
   if y2 then
    some (fun _=>0,14)
   else
    (Aa N b).bind fun y3=>
    (Ab N y3 a).bind fun y4=>
    some (y4,0)
theorem HO {N:Nat}{a:Pat}{b:Sl Sound}{y:(Nat->Int)×Int}(h:X3 N a b=some y) :FunO S HH [.p (.agg (B5 a)),.p (vSl 2 A0 b)] [] (.tup [.p (.agg (cA 33 (pI .u64) y.1)),pN y.2]) ([]) []:=by
 unfold X3 at h;refine A6 hS Tryz.func203 ?_;refine kC hS h (Fu hS hL) (fun y1 h=>?_);refine kI hS h ?_ ?_<;>intro h
 ·obtain rfl:=D1 h;exact B1 hS (And.intro rfl (E9 _ _):(0:Nat)=0/\(BH 33 (fun i=>pI .u64 ((fun _=>0) i))).length=33) ⟨[(5,pN y1),(4,.reg 5000 0)],[(5000,.arr 33 (fun i=>pI .u64 ((fun _=>0) i)))]⟩ [] (ids:=[(5000,5000)]) ⟨rfl,rfl,rfl⟩ (hle:=klR [(1,.fn 33 33 (fun i=>[(fun i=>(cA 33 (pI .u64) (fun _=>0)).getD i default) i]) (fun i=>[pI .u64 ((fun _=>0) i)]))] (al1 ⟨rfl,D6 33 (fun i=>pI .u64 ((fun _=>0) i))⟩ al0))
 ·refine kI hS h ?_ ?_<;>intro h
  ·obtain rfl:=D1 h;exact B1 hS (And.intro rfl (E9 _ _):(0:Nat)=0/\(BH 33 (fun i=>pI .u64 ((fun _=>0) i))).length=33) ⟨[(5,pN 11),(4,.reg 5000 0)],[(5000,.arr 33 (fun i=>pI .u64 ((fun _=>0) i)))]⟩ [] (ids:=[(5000,5000)]) ⟨rfl,rfl,rfl⟩ (hle:=klR [(1,.fn 33 33 (fun i=>[(fun i=>(cA 33 (pI .u64) (fun _=>0)).getD i default) i]) (fun i=>[pI .u64 ((fun _=>0) i)]))] (al1 ⟨rfl,D6 33 (fun i=>pI .u64 ((fun _=>0) i))⟩ al0))
  ·refine kC hS h (H9 hS hL (fun e=>Lt hS hL e)) (fun y2 h=>?_);refine kI hS h ?_ ?_<;>intro h
   ·obtain rfl:=D1 h;exact B1 hS (And.intro rfl (E9 _ _):(0:Nat)=0/\(BH 33 (fun i=>pI .u64 ((fun _=>0) i))).length=33) ⟨[(5,pN 14),(4,.reg 5000 0)],[(5000,.arr 33 (fun i=>pI .u64 ((fun _=>0) i)))]⟩ [] (ids:=[(5000,5000)]) ⟨rfl,rfl,rfl⟩ (hle:=klR [(1,.fn 33 33 (fun i=>[(fun i=>(cA 33 (pI .u64) (fun _=>0)).getD i default) i]) (fun i=>[pI .u64 ((fun _=>0) i)]))] (al1 ⟨rfl,D6 33 (fun i=>pI .u64 ((fun _=>0) i))⟩ al0))
   ·refine kC hS h (Mx hS hL) (fun y3 h=>?_);obtain⟨y4,e4,h⟩:=C4 h;refine JQ hS trivial (XV hS hL e4) ?_;obtain rfl:=D1 h;exact B1 hS (And.intro rfl (E9 _ _):(0:Nat)=0/\(BH 33 (fun i=>pI .u64 (y4 i))).length=33) ⟨[(5,pN 0),(4,.reg 5000 0)],[(5000,.arr 33 (fun i=>pI .u64 (y4 i)))]⟩ [] (ids:=[(5000,5000)]) ⟨rfl,rfl,rfl⟩ (hle:=klR [(1,.fn 33 33 (fun i=>[(fun i=>(cA 33 (pI .u64) y4).getD i default) i]) (fun i=>[pI .u64 (y4 i)]))] (al1 ⟨rfl,D6 33 (fun i=>pI .u64 (y4 i))⟩ al0))
def AS (N:Nat)(d:Pat)(c:Sl Sound)(a:Int):Option ((Sl Int)×Int):=
 (X3 N d c).bind fun y1=>
 lt (fun (z1:Int)=>
  if (z1 != 0) then
   some ((Sl.nil:Sl Int),z1)
  else
   S5 N (fun b (x2:Sl Int) (x3:Int)=>
    if (decide (x3<(wrap .i64 ((c.n:Int)+1)))) then
     if ((((0:Int)<=x3/\x3<33)/\(0+x3.toNat*1)<33)/\(0:Int)<=a)then
      if ((F9 .and .u64 (shI .shr .u64 (y1.1 (0+x3.toNat*1)) a) 1)==1) then
       if ((x2.n+(Sl.of [x3]:Sl Int).n)*8<=140737488355328/\x2.n+(Sl.of [x3]:Sl Int).n<=140737488355328)then
        b (x2.push x3) (wrap .i64 (x3+1))
       else none
      else
       b x2 (wrap .i64 (x3+1))
     else none
    else
     some (x2,0)
    ) (Sl.nil:Sl Int) 0
  ) fun k1=>
  if (y1.2==0) then
   (W9 N c a).bind fun y3=>
   k1 y3
  else
   k1 y1.2
theorem OZ {N:Nat}{f:Pat}{d:Sl Sound}{a:Int}{y:(Sl Int)×Int}(h:AS N f d a=some y) :FunO S HG [.p (.agg (B5 f)),.p (vSl 2 A0 d),pN a] [] (.tup [.vec 0,pN y.2]) ([.vec C8 1 y.1.n (fun i=>cI .i64 (y.1.g i)) true]) []:=by
 unfold AS at h;refine A6 hS Tryz.func193 ?_;refine kC hS h (HO hS hL) (fun y1 h=>?_);refine Jx hS (And.intro rfl (E9 _ _):(0:Nat)=0/\(BH 33 (fun i=>pI .u64 (y1.1 i))).length=33) (A8 hS) h 0 (fun z1=>⟨[(9,pN z1),(8,.reg 9000 0),(2,pN a),(1,.p (vSl 2 A0 d))],[(9000,.arr 33 (fun i=>pI .u64 (y1.1 i)))]⟩) (fun M1 k1 j h=>?_) (fun z1 h=>?_)
 ·refine kI hS h ?_ ?_<;>intro h
  ·refine kC hS h (HN hS hL) (fun y3 h=>?_);exact j _ [(9000,9000)] _ y3 trivial h (hle:=klR [(3,.fn 33 33 (fun i=>[(fun i=>(cA 33 (pI .u64) y1.1).getD i default) i]) (fun i=>[pI .u64 (y1.1 i)]))] (al1 ⟨rfl,D6 33 (fun i=>pI .u64 (y1.1 i))⟩ al0))
  ·exact j _ [(9000,9000)] _ y1.2 trivial h (hle:=klR [(3,.fn 33 33 (fun i=>[(fun i=>(cA 33 (pI .u64) y1.1).getD i default) i]) (fun i=>[pI .u64 (y1.1 i)]))] (al1 ⟨rfl,D6 33 (fun i=>pI .u64 (y1.1 i))⟩ al0))
 ·refine kI hS h ?_ ?_<;>intro h
  ·obtain rfl:=D1 h;exact B1 hS trivial ⟨[(7,pN z1),(6,.vec 7700)],[(7700,.vec C8 1 (Sl.nil:Sl Int).n (fun i=>cI .i64 ((Sl.nil:Sl Int).g i)) true)]⟩ [7700] (ids:=[]) ⟨rfl,rfl,rfl⟩
  ·refine I5 hS trivial h (fun x2 x3=>⟨[(29,pN x3),(28,pN (wrap .i64 ((d.n:Int)+1))),(10,.vec 11500),(8,.reg 9000 0),(2,pN a)],[(11500,.vec C8 1 x2.n (fun i=>cI .i64 (x2.g i)) false),(9000,.arr 33 (fun i=>pI .u64 (y1.1 i)))]⟩) (ids:=[(9000,9000)]) (fun _ _ _ _ _ m x2 x3 l h=>?_);refine kI hS h ?_ ?_<;>intro h
   ·obtain⟨c12,h⟩:=G4 h;refine E5 hS c12 (b:=(F9 .and .u64 (shI .shr .u64 (y1.1 (0+x3.toNat*1)) a) 1)==1) (fun c13=>?_) (fun c13=>?_)
    ·replace h:=itT c13 h;obtain⟨c14,h⟩:=G4 h;exact l _ [(9000,9000),(11500,43000)] _ (x2.push x3) (wrap .i64 (x3+1)) (And.intro (rfl:true=true) c14) h (hle:=klR [(3,.fn (x2.n+1) (x2.push x3).n (Aq x2.n (fun i=>cI .i64 (x2.g i)) (E8 [pI .i64 0] [(0,cI .i64 x3)])) (fun i=>cI .i64 ((x2.push x3).g i)))] (al1 ⟨rfl,LY (c:=cI .i64) (v:=x2) (x:=x3) (z:=[(pI .i64 0)]) same rfl rfl⟩ al0))
    ·replace h:=itF c13 h;exact l _ [(9000,9000),(11500,11500)] _ x2 (wrap .i64 (x3+1)) trivial h
   ·obtain rfl:=D1 h;exact B1 hS trivial ⟨[(7,pN 0),(6,.vec 11500)],[(11500,.vec C8 1 x2.n (fun i=>cI .i64 (x2.g i)) true)]⟩ [11500] (ids:=[(11500,11500)]) ⟨rfl,rfl,rfl⟩
def G9 (N:Nat)(a:List (Int)):Option (Sl Int):=
 P4 a (fun b (x1:Int) (z1:Sl Int)=>
  if ((z1.n+(Sl.of [x1]:Sl Int).n)*8<=140737488355328/\z1.n+(Sl.of [x1]:Sl Int).n<=140737488355328)then
   b (z1.push x1)
  else none
  ) (fun (z1:Sl Int)=>
   some z1
  ) (Sl.nil:Sl Int)
theorem BA {N:Nat}{b:List (Int)}{a:Int}{kp_seq:Nat}(fp_seq:∃fn,AC9[kp_seq]? = some fn/\fn.body.isSome=true/\(fn.name == "runtime.NumGoroutine")=false)(d:GG S kp_seq [] [.reg 0 0] [(.cells [(.p (pI .u64 a))])] (b.map (fun (x:Int)=>[(pI .i64) x]))){y:(Sl Int)}(h:G9 N b=some y) :FunO S S7 [(.p F1),(.clo kp_seq [] [(.reg 0 0)])] [(.cells [(.p (pI .u64 a))])] (.vec 0) ([(.vec C8 1 y.n (fun i=>(cI .i64) (y.g i)) true)]) [false]:=by
 unfold G9 at h;refine A6 hS Tryz.func209 ?_;refine Uu hS trivial fp_seq [0] [2] 901 (fun z1=>⟨[(2,(.reg 3000 0))],[(3500,(.vec C8 1 z1.n (fun i=>(cI .i64) (z1.g i)) false)),(3000,(.cells [(.vec 3500)]))]⟩) (idl:=[(3000,3000)]) h d (fun _=>by kernel_rfl) (fun _=>by kernel_rfl) (fun _=>by kernel_rfl) (fun _=>by kernel_rfl) (fun x1 _ f z1 j h=>?_) (fun z1 h=>?_)
 ·refine KF hS trivial ?_;obtain⟨c1,h⟩:=G4 h;exact j _ [(901,901),(3000,3000),(3500,12000)] _ (z1.push x1) (And.intro (rfl:true=true) c1) h (hle:=klR [(0,.fn (z1.n+1) (z1.push x1).n (Aq z1.n (fun i=>(cI .i64) (z1.g i)) (E8 [(pI .i64 0)] [(0,(cI .i64) x1)])) (fun i=>(cI .i64) ((z1.push x1).g i)))] (al1 ⟨rfl,(LY (c:=(cI .i64)) (v:=z1) (x:=x1) (z:=[(pI .i64 0)]) same rfl rfl)⟩ al0))
 ·obtain rfl:=D1 h;exact B1 hS trivial ⟨[(4,(.vec 3500))],[(3500,(.vec C8 1 z1.n (fun i=>(cI .i64) (z1.g i)) true))]⟩ [3500] (ids:=[(3500,3500)]) ⟨rfl,rfl,rfl⟩
def K0 (N:Nat)(a:List (Int)):Option (Sl Int):=
 (G9 N a).bind fun y1=>
 some y1
theorem Fv {N:Nat}{b:List (Int)}{a:Int}{kp_seq:Nat}(fp_seq:∃fn,AC9[kp_seq]? = some fn/\fn.body.isSome=true/\(fn.name == "runtime.NumGoroutine")=false)(c:GG S kp_seq [] [.reg 0 0] [(.cells [(.p (pI .u64 a))])] (b.map (fun (x:Int)=>[(pI .i64) x]))){y:(Sl Int)}(h:K0 N b=some y) :FunO S BO [(.clo kp_seq [] [(.reg 0 0)])] [(.cells [(.p (pI .u64 a))])] (.vec 0) ([(.vec C8 1 y.n (fun i=>(cI .i64) (y.g i)) true)]) [false]:=by unfold K0 at h;refine A6 hS Tryz.func205 ?_;obtain⟨y1,e1,h⟩:=C4 h;refine C0 hS [0] trivial (BA hS hL fp_seq c e1) ?_;obtain rfl:=D1 h;exact B1 hS trivial ⟨[(2,(.vec 5000))],[(5000,(.vec C8 1 y1.n (fun i=>(cI .i64) (y1.g i)) true))]⟩ [5000] (ids:=[(5000,5000)]) ⟨rfl,rfl,rfl⟩
def Cx (N:Nat)(c:Pat)(b:Sl Sound)(a:Int):Option ((Sl Int)×Int):=
 (X3 N c b).bind fun y1=>
 lt (fun (z1:Int)=>
  if (z1 != 0) then
   some ((Sl.nil:Sl Int),z1)
  else
   if (((0:Int)<=a/\a<33)/\(0+a.toNat*1)<33)then
    (Z8 N (y1.1 (0+a.toNat*1))).bind fun y4=>
    (P0 N y4).bind fun L1=>
    (K0 N L1).bind fun y5=>
    some (y5,0)
   else none
  ) fun k1=>
  if (y1.2==0) then
   (W9 N b a).bind fun y3=>
   k1 y3
  else
   k1 y1.2
theorem Tb {N:Nat}{b:Pat}{c:Sl Sound}{a:Int}{y:(Sl Int)×Int}(h:Cx N b c a=some y) :FunO S Lc [.p (.agg (B5 b)),.p (vSl 2 A0 c),pN a] [] (.tup [.vec 0,pN y.2]) ([.vec C8 1 y.1.n (fun i=>cI .i64 (y.1.g i)) true]) []:=by
 unfold Cx at h;refine A6 hS Tryz.func194 ?_;refine kC hS h (HO hS hL) (fun y1 h=>?_);refine Jx hS (And.intro rfl (E9 _ _):(0:Nat)=0/\(BH 33 (fun i=>pI .u64 (y1.1 i))).length=33) (A8 hS) h 0 (fun z1=>⟨[(9,pN z1),(8,.reg 9000 0),(2,pN a)],[(9000,.arr 33 (fun i=>pI .u64 (y1.1 i)))]⟩) (fun M1 k1 d h=>?_) (fun z1 h=>?_)
 ·refine kI hS h ?_ ?_<;>intro h
  ·refine kC hS h (HN hS hL) (fun y3 h=>?_);exact d _ [(9000,9000)] _ y3 trivial h (hle:=klR [(2,.fn 33 33 (fun i=>[(fun i=>(cA 33 (pI .u64) y1.1).getD i default) i]) (fun i=>[pI .u64 (y1.1 i)]))] (al1 ⟨rfl,D6 33 (fun i=>pI .u64 (y1.1 i))⟩ al0))
  ·exact d _ [(9000,9000)] _ y1.2 trivial h (hle:=klR [(2,.fn 33 33 (fun i=>[(fun i=>(cA 33 (pI .u64) y1.1).getD i default) i]) (fun i=>[pI .u64 (y1.1 i)]))] (al1 ⟨rfl,D6 33 (fun i=>pI .u64 (y1.1 i))⟩ al0))
 ·refine kI hS h ?_ ?_<;>intro h
  ·obtain rfl:=D1 h;exact B1 hS trivial ⟨[(7,pN z1),(6,.vec 7700)],[(7700,.vec C8 1 (Sl.nil:Sl Int).n (fun i=>cI .i64 ((Sl.nil:Sl Int).g i)) true)]⟩ [7700] (ids:=[]) ⟨rfl,rfl,rfl⟩
  ·obtain⟨c5,h⟩:=G4 h;obtain⟨y4,e4,h⟩:=C4 h;refine C0 hS [] c5 (Di hS hL e4) ?_;obtain⟨L1,e5,h⟩:=C4 h;obtain⟨y5,e6,h⟩:=C4 h;refine C0 hS [28000] trivial (Fv hS hL ⟨_,Tryz.func210,by decide +kernel,by decide +kernel⟩ (BL hS hL e5) e6) ?_;obtain rfl:=D1 h;exact B1 hS trivial ⟨[(7,pN 0),(6,.vec 29000)],[(29000,.vec C8 1 y5.n (fun i=>cI .i64 (y5.g i)) true)]⟩ [29000] (ids:=[(29000,29000)]) ⟨rfl,rfl,rfl⟩
end Go.AM
