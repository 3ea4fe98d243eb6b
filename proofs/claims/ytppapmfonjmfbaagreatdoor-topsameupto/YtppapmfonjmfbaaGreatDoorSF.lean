/- Part 6. -/
import Derived.Test.YtppapmfonjmfbaaGreatDoorSE
import Derived.Test.YtppapmfonjmfbaaGreatDoorSD
import Derived.RecoverIn
import Derived.Test.YtppapmfonjmfbaaGreatDoorProg
import Derived.Lib.SlTrimSet
import Derived.TacticsInMore
set_option linter.defProp false
set_option linter.unusedSimpArgs false
set_option linter.unusedVariables false
set_option linter.unusedSectionVars false
namespace Go.AM
abbrev Mv:Sl Int:=Sl.nil
def Mu:true=true:=rfl
def Mr:(18:Nat)<=18:=by decide
def Mq:(7:Nat)<=7:=by decide
def Lh:(2:Nat)<=2:=by decide
noncomputable abbrev AM8:=Go.Proofs.Tryz.prog.funcs
def AO8:=@BitVec.getLsbD_and
def AQ4:=@Bool.eq_iff_iff
def AS6:=@BitVec.eq_of_getLsbD_eq
def Bb9:=@BitVec.getLsbD_ushiftRight
def Bc0:=@BitVec.getLsbD_one
def Bc4:=@BitVec.getLsbD_shiftLeft
def Bc7:=@BitVec.getLsbD_setWidth
def Be1:=@BitVec.getLsbD_ofBool
def Bf9:=@BitVec.toNat_ofNat
theorem Fk (D:List Deferred)(a:Act)(d:Option Tmp)(v:Value):(Nz D a).put d v=Nz D (a.put d v):=by cases d<;>rfl
theorem II {F:Fence}{n:Nat}{P:Program}{ops:Array Oper}{Q:Exit->Act->World->Prop}(D:List Deferred):∀(l:List Nat) (a:Act) (w:World),wpOpsIn F n P ops Q l a w ->
 wpOpsIn F n P ops (fun e a' w'=>∃a0,a' = Nz D a0/\Q e a0 w') l (Nz D a) w
 |[],a,w,h=>⟨a,rfl,h⟩
 |i::l,a,w,h=>by
  have ih:=II (F:=F) (n:=n) (P:=P) (ops:=ops) (Q:=Q) D l;simp only[wpOpsIn]at h⊢;have e1:(Nz D a).eval=a.eval:=by funext x;cases x<;>rfl
  have e2:(Nz D a).tmps=a.tmps:=rfl;cases j:ops[i]? with
  |none=>simp only[j]at h⊢;exact ih a w h
  |some o=>
   simp only[j]at h⊢;rw[e2,e1];by_cases hw:Region.wanted o (yielded ops a.tmps)=true
   .rw[He hw]at h⊢;refine⟨by rw[e1];exact h.1,?_⟩;have b:=h.2;rw[e1];generalize (o.semAt F.round a.eval).run P w=r at b;unfold Oper.uponIn at b⊢;split at b
    .rw[Fk];exact ih _ _ b
    .rw[Fk];exact ih _ _ b
    .exact ih _ _ b |> fun x=>by
      rename_i d w'
      have:({ (Nz D a)with defers:=d::(Nz D a).defers }:Act).put o.dst undef=Nz D (({ a with defers:=d::a.defers }:Act).put o.dst undef):=by rw[<- Fk];rfl
      rw[this];exact x
    .refine⟨b.1,b.2.mono ?_⟩;intro e w' f;cases e with
     |returned v=>have:=ih _ _ f;rw[<- Fk]at this;exact this
     |panicked ch=>exact⟨a,rfl,f⟩
     |outgrown=>obtain⟨a1,w1,g⟩:=f;exact⟨Nz D a1,w1,a1,rfl,g⟩
    .refine⟨b.1,fun c cs m=>?_⟩;obtain⟨v,w',g1,g2⟩:=b.2 c cs m;exact⟨v,w',by have:=ih _ _ g1;rw[<- Fk]at this;exact this,g2⟩
    .refine⟨b.1,b.2.mono ?_⟩;intro e w' f;cases e with
     |returned v=>have:=ih _ _ f;rw[<- Fk]at this;exact this
     |panicked ch=>exact⟨a,rfl,f⟩
     |outgrown=>obtain⟨a1,w1,g⟩:=f;exact⟨Nz D a1,w1,a1,rfl,g⟩
    .exact⟨a,rfl,b⟩
    exact b.elim
   rw[Hf hw]at h⊢;rw[Fk];exact⟨h.1,ih _ _ h.2⟩
section
variable {P:Program}{C:Ctx}{st:St}{rho:Nat->Value}
theorem Fl {fn:Func}{R:Ending->World->Prop}{u:FrameMode}(c:u ≠ .run){tmps:Array Value}{D:List Deferred}(b:∀a w,Sat C st a w rho->a.tmps=tmps->LeavesInM Fence.wide 0 P fn tmps R D u w) :∀(ds:List Deferred) (a:Act) (w:World),a.defers=ds->a.tmps=tmps->Sat C st a w rho->LeavesInM Fence.wide 0 P fn tmps R (ds++D) u w
 |[],a,w,hd,ht,h=>b a w h ht
 |d::ds,a,w,hd,ht,h=>by obtain⟨r,w',h1,f,g⟩:=h.unmark hd;exact⟨c,.inl ⟨r,w',h1,f,Fl c b ds { a with defers:=ds } w' rfl ht g⟩⟩
end
end Go.AM
namespace Go.AM
structure T0 where
 Parent:Int
 Name:Str
 deriving Inhabited,DecidableEq
abbrev H2 (x:T0):List PV:=[(pI .i64 x.Parent),.str x.Name]
structure Qz where
 Plus:Int
 Minus:Int
 deriving Inhabited,DecidableEq
abbrev A0 (x:Qz):List PV:=[(pI .u32 x.Plus),pI .u32 x.Minus]
inductive Pat where
 |nil
 |mk (Kind:Int) (Is:Qz) (Not:Bool) (Min:Int) (Max:Int) (n:Nat) (g:Nat->Pat)
instance:Inhabited Pat:=⟨.nil⟩
def Pat.Kind:Pat->Int
 |.nil=>0
 |.mk x _ _ _ _ _ _=>x
def Pat.Is:Pat->Qz
 |.nil=>default
 |.mk _ x _ _ _ _ _=>x
def Pat.Not:Pat->Bool
 |.nil=>false
 |.mk _ _ x _ _ _ _=>x
def Pat.Min:Pat->Int
 |.nil=>0
 |.mk _ _ _ x _ _ _=>x
def Pat.Max:Pat->Int
 |.nil=>0
 |.mk _ _ _ _ x _ _=>x
def Pat.L:Pat->Sl Pat
 |.nil=>⟨0,fun _=>.nil⟩
 |.mk _ _ _ _ _ n g=>⟨n,g⟩
def Fm:Pat->Nat->List PV
 |.nil=>fun _=>[]
 |.mk _ _ _ _ _ n g=>fun i=>[(pI .i64 (g i).Kind),pI .u32 (g i).Is.Plus,pI .u32 (g i).Is.Minus,.bb (g i).Not,pI .i64 (g i).Min,pI .i64 (g i).Max,.sl false 7 (g i).L.n (Fm (g i))]
abbrev D3 (x:Pat):List PV:=[(pI .i64 x.Kind),pI .u32 x.Is.Plus,pI .u32 x.Is.Minus,.bb x.Not,pI .i64 x.Min,pI .i64 x.Max,.sl false 7 x.L.n (Fm x)]
def CU (x:Pat):∀i,i<x.L.n->Fm x i=D3 (x.L.g i):=by
 cases x with
 |nil=>intro i a;exact Ia (show i<0 from a) (by omega)
 |mk Kind Is Not Min Max n g=>exact fun _ _=>rfl
structure IJ where
 From:Int
 Clear:Int
 Set:Qz
 Take:Int
 Of:Int
 deriving Inhabited,DecidableEq
abbrev AI (x:IJ):List PV:=[(pI .i64 x.From),pI .u32 x.Clear,pI .u32 x.Set.Plus,pI .u32 x.Set.Minus,pI .u32 x.Take,pI .i64 x.Of]
structure Law where
 Name:Str
 Left:Pat
 Right:Pat
 If:(Sl Qz)
 Out:(Sl IJ)
 Mode:Int
 deriving Inhabited
abbrev B2 (x:Law):List PV:=[(.str x.Name),pI .i64 x.Left.Kind,pI .u32 x.Left.Is.Plus,pI .u32 x.Left.Is.Minus,.bb x.Left.Not,pI .i64 x.Left.Min,pI .i64 x.Left.Max,.sl false 7 x.Left.L.n (Fm x.Left),pI .i64 x.Right.Kind,pI .u32 x.Right.Is.Plus,pI .u32 x.Right.Is.Minus,.bb x.Right.Not,pI .i64 x.Right.Min,pI .i64 x.Right.Max,.sl false 7 x.Right.L.n (Fm x.Right),vSl 2 A0 x.If,vSl 6 AI x.Out,pI .i64 x.Mode]
structure A9 where
 Tree:(Sl T0)
 Laws:(Sl Law)
 On:(Sl (Sl Int))
 deriving Inhabited
abbrev B9 (x:A9):List PV:=[(vSl 2 H2 x.Tree),vSl 18 B2 x.Laws,vSl 1 (cL 1 (cI .i64)) x.On]
structure FU where
 Has:Bool
 W:(Sl Qz)
 deriving Inhabited
abbrev T4 (x:FU):List PV:=[(.bb x.Has),vSl 2 A0 x.W]
inductive Part where
 |nil
 |sound (x:Qz) (no:Bool)
 |edge (e:Bool)
 |seq (n:Nat) (g:Nat->Part)
 |alt (n:Nat) (g:Nat->Part)
 |rep (o:Part) (mn mx:Int)
instance:Inhabited Part:=⟨.nil⟩
def Part.t:Part->Nat
 |.nil=>0
 |.sound _ _=>229
 |.edge _=>231
 |.seq _ _=>236
 |.alt _ _=>233
 |.rep _ _ _=>235
def Part.v:Part->PV
 |.nil=>.bb false
 |.sound x no=>.agg [pI .u32 x.Plus,pI .u32 x.Minus,.bb no]
 |.edge e=>.agg [.bb e]
 |.seq n g=>.agg [.sl false 1 n fun i=>[.iface (g i).t (g i).v]]
 |.alt n g=>.agg [.sl false 1 n fun i=>[.iface (g i).t (g i).v]]
 |.rep o mn mx=>.agg [.iface o.t o.v,pI .i64 mn,pI .i64 mx]
abbrev Gl (x:Part):PV:=.iface x.t x.v
abbrev EH (x:Part):List PV:=[Gl x]
structure ZI where
 is:Qz
 not:Bool
 deriving Inhabited,DecidableEq
abbrev Ww (x:ZI):List PV:=[(pI .u32 x.is.Plus),pI .u32 x.is.Minus,.bb x.not]
structure AA0 where
 end_:Bool
 deriving Inhabited,DecidableEq
abbrev AA1 (x:AA0):List PV:=[(.bb x.end_)]
structure Palt where
 l:(Sl Part)
 deriving Inhabited
abbrev AK0 (x:Palt):List PV:=[(vSl 1 EH x.l)]
structure AK1 where
 of:Part
 min:Int
 max:Int
 deriving Inhabited
abbrev AK2 (x:AK1):List PV:=[(Gl x.of),pI .i64 x.min,pI .i64 x.max]
structure Pseq where
 l:(Sl Part)
 deriving Inhabited
abbrev AK3 (x:Pseq):List PV:=[(vSl 1 EH x.l)]
end Go.AM
namespace Go.AM
open Go.Proofs
abbrev AZ:Nat:=4
abbrev IK:Nat:=5
abbrev EI:Nat:=6
abbrev Dm:Nat:=7
abbrev Mp:Nat:=8
abbrev KF:Nat:=11
abbrev KH:Nat:=12
abbrev Hu:Nat:=13
abbrev DU:Nat:=14
abbrev KI:Nat:=15
abbrev IM:Nat:=16
abbrev EJ:Nat:=17
abbrev IN:Nat:=18
abbrev CL:Nat:=19
abbrev N5:Nat:=20
abbrev IO:Nat:=21
abbrev Gm:Nat:=22
abbrev Gn:Nat:=23
abbrev Ms:Nat:=24
abbrev Mt:Nat:=25
abbrev KJ:Nat:=26
abbrev Gp:Nat:=27
abbrev Ph:Nat:=28
abbrev FJ:Nat:=29
abbrev Gq:Nat:=30
abbrev O9:Nat:=31
abbrev KK:Nat:=32
abbrev IP:Nat:=33
abbrev E1:Nat:=34
abbrev Gr:Nat:=35
abbrev Hv:Nat:=36
abbrev KL:Nat:=37
abbrev Hw:Nat:=38
abbrev FK:Nat:=39
abbrev KM:Nat:=40
abbrev At:Nat:=41
abbrev SK:Nat:=42
abbrev X6:Nat:=43
abbrev My:Nat:=44
abbrev IQ:Nat:=45
abbrev Fn:Nat:=46
abbrev I9:Nat:=47
abbrev DV:Nat:=48
abbrev I5:Nat:=49
abbrev EK:Nat:=50
abbrev IS:Nat:=51
abbrev J6:Nat:=52
abbrev T6:Nat:=53
abbrev M0:Nat:=54
abbrev IT:Nat:=55
abbrev Bu:Nat:=56
abbrev MA:Nat:=57
abbrev Gs:Nat:=58
abbrev Hx:Nat:=59
abbrev Hy:Nat:=60
abbrev KN:Nat:=61
abbrev Hz:Nat:=62
abbrev I6:Nat:=63
abbrev R7:Nat:=64
abbrev I0:Nat:=65
abbrev N2:Nat:=66
abbrev Fo:Nat:=67
abbrev MD:Nat:=68
abbrev SM:Nat:=69
abbrev K8:Nat:=70
abbrev J1:Nat:=71
abbrev N6:Nat:=72
abbrev Ap:Nat:=73
abbrev J7:Nat:=74
abbrev D2:Nat:=75
abbrev KO:Nat:=76
abbrev CN:Nat:=77
abbrev IU:Nat:=78
abbrev Pj:Nat:=79
abbrev IV:Nat:=80
abbrev ME:Nat:=81
abbrev KP:Nat:=82
abbrev J9:Nat:=83
abbrev HA:Nat:=84
abbrev IW:Nat:=85
abbrev FM:Nat:=86
abbrev K0:Nat:=87
abbrev FN:Nat:=88
abbrev HB:Nat:=89
abbrev Fp:Nat:=90
abbrev Pk:Nat:=91
abbrev M8:Nat:=92
abbrev SP:Nat:=93
abbrev SQ:Nat:=94
abbrev IX:Nat:=95
abbrev J2:Nat:=96
abbrev Q1:Nat:=97
abbrev Gu:Nat:=98
abbrev DX:Nat:=99
abbrev Eo:Nat:=100
abbrev HC:Nat:=101
abbrev O2:Nat:=102
abbrev N7:Nat:=103
abbrev Bw:Nat:=104
abbrev Aa:Nat:=105
abbrev Q2:Nat:=106
abbrev N8:Nat:=107
abbrev P8:Nat:=108
abbrev DY:Nat:=109
abbrev KQ:Nat:=110
abbrev EL:Nat:=111
abbrev H6:Nat:=112
abbrev HD:Nat:=113
abbrev KR:Nat:=114
abbrev K9:Nat:=115
abbrev EM:Nat:=124
abbrev KS:Nat:=132
abbrev D8:Nat:=133
abbrev U3:Nat:=134
abbrev IZ:Nat:=135
abbrev MH:Nat:=136
abbrev MI:Nat:=137
abbrev MJ:Nat:=138
abbrev Ja:Nat:=148
abbrev Jb:Nat:=149
abbrev HE:Nat:=150
abbrev Gv:Nat:=155
abbrev Ci:Nat:=156
abbrev AX:Nat:=157
abbrev P0:Nat:=158
abbrev Cn:Nat:=180
abbrev Dq:Nat:=181
abbrev Ep:Nat:=182
abbrev Fq:Nat:=183
abbrev DZ:Nat:=184
abbrev Fr:Nat:=185
abbrev Gx:Nat:=186
abbrev Ax:Nat:=187
abbrev Fs:Nat:=188
abbrev H7:Nat:=3
abbrev As6:Nat:=4
abbrev Ft:Nat:=9
abbrev O3:Nat:=23
abbrev QS:Nat:=26
abbrev B4:Nat:=28
abbrev QT:Nat:=29
abbrev A4:Nat:=54
abbrev EN:Nat:=57
abbrev SV:Nat:=60
abbrev XL:Nat:=62
abbrev XM:Nat:=64
abbrev ZN:Nat:=138
abbrev UN:Nat:=216
end Go.AM
namespace Go.AM
open IntKind (wrap)
abbrev U (x:BitVec 64):Int:=(x.toNat:Int)
def Jd {n:Nat}(h:n<2 ^ 64):IntKind.u64.wrap (n:Int)=n:=by have h1:((n:Int) % (2 ^ 64:Int))=n:=AX1 (by omega) (by omega);unfold wrap;simp only[IntKind.bits,IntKind.signed,h1,AX7,AN5,Jc]
def UO (x:BitVec 64):BitVec.ofInt 64 (U x)=x:=by
 apply AR1;rw[Bf5]
 have:=x.isLt
 show ((x.toNat:Int) % ((2 ^ 64:Nat):Int)).toNat=x.toNat;omega
def and64 (x y:BitVec 64):G3 .and .u64 (U x) (U y)=U (x &&& y):=by simp only[G3,IntKind.bits,UO];exact Jd (x &&& y).isLt
def AM3 (x y:BitVec 64):G3 .or .u64 (U x) (U y)=U (x ||| y):=by simp only[G3,IntKind.bits,UO];exact Jd (x ||| y).isLt
def Al2 (x y:BitVec 64):G3 .andNot .u64 (U x) (U y)=U (x &&& ~~~ y):=by simp only[G3,IntKind.bits,UO];exact Jd (x &&& ~~~ y).isLt
def shr64 (x:BitVec 64)(n:Nat):shI .shr .u64 (U x) n=U (x >>> n):=by
 simp only[shI,IntKind.bits,AM9];have hx:=x.isLt;show Int.fdiv (x.toNat:Int) (2 ^ min n 64)=((x >>> n).toNat:Int);rw[AZ4,AY5];have e:((2:Int) ^ (min n 64))=((2 ^ (min n 64):Nat):Int):=by norm_cast
 rw[e,Bb8 _ (Bf6 _),<- Int.natCast_ediv];congr 1;by_cases h:n<=64
 .rw[AU5 h]
 rw[Ba6 (by omega),AV3 hx,AV3];exact AP2 hx (AW6 (by omega) (by omega))
def AK4:(1:Int)=U 1#64:=rfl
def SW (n:Nat)(h:n<64):shI .shl .u64 1 n=U (1#64 <<< n):=by
 simp only[shI,IntKind.bits,AM9];rw[AU5 (by omega)];show wrap .u64 (1*2 ^ n)=((1#64 <<< n).toNat:Int);rw[Bd3,Nat.shiftLeft_eq];have h1:(2:Nat) ^ n<2 ^ 64:=Nat.pow_lt_pow_right (by omega) h;have e:((1:Int)*2 ^ n)=((2 ^ n:Nat):Int):=by norm_cast;omega
 rw[e,Jd h1]
 norm_cast
 rw[AU2]
 .simp
 simpa using h1
def UP {i:Nat}:(1#64).getLsbD i=decide (i=0):=by rw[Bc0];simp
def Gy {n i:Nat}(h:n<64)(a:i<64):(1#64 <<< n).getLsbD i=decide (i=n):=by rw[Bc4,UP,AQ4];simp only[AN1,AP0,decide_eq_true_eq,decide_eq_false_iff_not];omega
def bit64 (x:BitVec 64)(i:Nat):(G3 .and .u64 (shI .shr .u64 (U x) (i:Int)) 1==1)=x.getLsbD i:=by
 rw[shr64,AK4,and64];have h:(x >>> i &&& 1#64)=(BitVec.ofBool (x.getLsbD i)).setWidth 64:=by
  apply AS6;intro j hj;simp only[AO8,Bb9,Bc7,Be1];by_cases a:j=0
  .subst a;simp
  have:(1#64).getLsbD j=false:=by rw[UP];simp[a]
  simp[this,a]
 rw[h];cases x.getLsbD i<;>rfl
def Al3 {x y:BitVec 64}(h:∀b,b<64->(x.getLsbD b=true↔y.getLsbD b=true)):x=y:=
 AS6 fun b hb=>AQ4.2 (h b hb)
def HF (n:Nat)(R:Nat->Nat->Prop):Nat->Nat->Nat->Prop
 |0=>fun a b=>a=b
 |k+1=>fun a b=>∃c,c<=n/\HF n R k a c/\R c b
def XN (n:Nat)(Q:Nat->Nat->Nat->Prop):Nat->Nat->Nat->Prop
 |0=>fun a b=>a=b
 |i+1=>fun a b=>∃c,c<=n/\XN n Q i a c/\Q i c b
def Fwd (n:Nat)(R:Nat->Nat->Prop):Prop:=∀a b,a<=n->R a b->a<=b/\b<=n
def Je {n:Nat}{R:Nat->Nat->Prop}(h:Fwd n R):∀k,Fwd n (HF n R k)
 |0,a,b,ha,hb=>by obtain rfl:a=b:=hb;exact⟨AN3 _,ha⟩
 |k+1,a,b,ha,⟨c,hc,h1,h2⟩=>by have g1:=Je h k a c ha h1;have g2:=h c b hc h2;exact⟨by omega,g2.2⟩
def Wx {n:Nat}{Q:Nat->Nat->Nat->Prop}:∀k,(∀i,i<k->Fwd n (Q i))->Fwd n (XN n Q k)
 |0,_,a,b,ha,hb=>by obtain rfl:a=b:=hb;exact⟨AN3 _,ha⟩
 |k+1,h,a,b,ha,⟨c,hc,h1,h2⟩=>by have g1:=Wx k (fun i d=>h i (by omega)) a c ha h1;have g2:=h k (by omega) c b hc h2;exact⟨by omega,g2.2⟩
def Ea {n:Nat}{R:Nat->Nat->Prop}(h:Fwd n R)(j:Nat){a:Nat}(ha:a<=n):∀k b,HF n R (j+k) a b ↔ ∃c,c<=n/\HF n R j a c/\HF n R k c b
 |0,b=>⟨fun hp=>⟨b,(Je h j a b ha hp).2,hp,rfl⟩,fun⟨c,_,hp,e⟩=>by obtain rfl:c=b:=e;exact hp⟩
 |k+1,b=>by
  constructor
  .rintro⟨d,f,h1,g⟩;obtain⟨c,hc,g1,g2⟩:=(Ea h j ha k d).1 h1;exact⟨c,hc,g1,d,f,g2,g⟩
  rintro⟨c,hc,g1,d,f,g2,g⟩;exact⟨d,f,(Ea h j ha k d).2 ⟨c,hc,g1,g2⟩,g⟩
def Pl {n:Nat}{R:Nat->Nat->Prop}(h:Fwd n R){a:Nat}(ha:a<=n):∀k b,HF n R (k+1) a b->HF n R k a b \/ a+(k+1)<=b
 |0,b,⟨c,hc,h1,h2⟩=>by
  obtain rfl:a=c:=h1;by_cases e:a=b
  .exact .inl e
  have:=(h a b ha h2).1;exact .inr (by omega)
 |k+1,b,⟨c,hc,h1,h2⟩=>by
  by_cases e:c=b
  .subst e;exact .inl h1
  have:=(h c b hc h2).1
  rcases Pl h ha k c h1 with g|g
  .exact .inl ⟨c,hc,g,h2⟩
  exact .inr (by omega)
def SX {n:Nat}{R:Nat->Nat->Prop}(h:Fwd n R){a:Nat}(ha:a<=n){k b:Nat}(hk:n<=k)(hp:HF n R (k+1) a b):HF n R k a b:=by
 rcases Pl h ha k b hp with g|g
 .exact g
 have:=(Je h (k+1) a b ha hp).2;omega
def SY {n:Nat}{R:Nat->Nat->Prop}(h:Fwd n R){a:Nat}(ha:a<=n){b:Nat}:∀k,HF n R k a b->∃j,j<=n/\HF n R j a b
 |0,hp=>⟨0,AV7 _,hp⟩
 |k+1,hp=>by
  by_cases hk:n<=k
  .exact SY h ha k (SX h ha hk hp)
  exact⟨k+1,by omega,hp⟩
def MN {n:Nat}{R:Nat->Nat->Prop}(h:Fwd n R){a:Nat}(ha:a<=n):∀k b,HF n (fun x y=>R x y \/ x=y) k a b ↔ ∃j,j<=k/\HF n R j a b
 |0,b=>⟨fun e=>⟨0,AN3 _,e⟩,fun⟨j,hj,hp⟩=>by
  obtain rfl:j=0:=by omega
  exact hp⟩
 |k+1,b=>by
  constructor
  .rintro⟨c,hc,h1,d⟩;obtain⟨j,hj,hp⟩:=(MN h ha k c).1 h1;rcases d with d|d
   .exact⟨j+1,by omega,c,hc,hp,d⟩
   subst d;exact⟨j,by omega,hp⟩
  rintro⟨j,hj,hp⟩;by_cases e:j<=k
  .have hb:=(Je h j a b ha hp).2;exact⟨b,hb,(MN h ha k b).2 ⟨j,e,hp⟩,.inr rfl⟩
  obtain rfl:j=k+1:=by omega
  obtain⟨c,hc,h1,d⟩:=hp;exact⟨c,hc,(MN h ha k c).2 ⟨k,AN3 _,h1⟩,.inl d⟩
def UQ (s c:Qz):Bool:=(G3 .and .u32 s.Plus c.Plus==c.Plus)&&(G3 .and .u32 s.Minus c.Minus==c.Minus)
def PR (w:Sl Qz):Pat->Nat->Nat->Prop
 |.nil=>fun a b=>a=b
 |.mk kind is no mn mx m g=>fun a b=>
  if kind=0 then a=b
  else if kind=1 then a<w.n/\b=a+1/\(UQ (w.g a) is != no)=true
  else if kind=2 then a=0/\b=0
  else if kind=6 then a=w.n/\b=w.n
  else if kind=3 then XN w.n (fun i=>PR w (g i)) m a b
  else if kind=4 then ∃i,i<m/\PR w (g i) a b
  else if kind=5 then ∃k:Nat,mn<=k/\(mx = -1 \/ (k:Int)<=mx)/\HF w.n (PR w (g 0)) k a b
  else False
def SZ (w:Sl Qz):∀p:Pat,Fwd w.n (PR w p)
 |.nil,a,b,ha,h=>by obtain rfl:a=b:=h;exact⟨AN3 _,ha⟩
 |.mk kind is no mn mx m g,a,b,ha,h=>by
  simp only[PR]at h;split at h
  .subst h;exact⟨AN3 _,ha⟩
  split at h
  .obtain⟨h1,d,_⟩:=h;omega
  split at h
  .omega
  split at h
  .omega
  split at h
  .exact Wx m (fun i _=>SZ w (g i)) a b ha h
  split at h
  .obtain⟨i,_,c⟩:=h;exact SZ w (g i) a b ha c
  split at h
  .obtain⟨k,_,_,hk⟩:=h;exact Je (SZ w (g 0)) k a b ha hk
  exact h.elim
def TabR (n:Nat)(R:Nat->Nat->Prop)(f:Nat->Int):Prop:=∀a,a<=n->∃x:BitVec 64,f a=U x/\∀b,b<64->(x.getLsbD b=true↔b<=n/\R a b)
def TabR.congr {n:Nat}{R R' : Nat->Nat->Prop}{f:Nat->Int}(h:TabR n R f)(d:∀a b,a<=n->b<=n->(R a b↔R' a b)):TabR n R' f:=fun a ha=>by obtain⟨x,e,hx⟩:=h a ha;refine⟨x,e,fun b hb=>(hx b hb).trans ⟨fun⟨h1,c⟩=>⟨h1,(d a b ha h1).1 c⟩,fun⟨h1,c⟩=>⟨h1,(d a b ha h1).2 c⟩⟩⟩
def TabR.uniq {n:Nat}{R:Nat->Nat->Prop}{f g:Nat->Int}(h:TabR n R f)(h' : TabR n R g){a:Nat}(ha:a<=n):f a=g a:=by obtain⟨x,e,hx⟩:=h a ha;obtain⟨y,e',hy⟩:=h' a ha;rw[e,e',Al3 fun b hb=>(hx b hb).trans (hy b hb).symm]
def TabR.bit {n:Nat}{R:Nat->Nat->Prop}{f:Nat->Int}(h:TabR n R f){a b:Nat}(ha:a<=n)(hb:b<64):(G3 .and .u64 (shI .shr .u64 (f a) (b:Int)) 1==1)=true↔b<=n/\R a b:=by obtain⟨x,e,hx⟩:=h a ha;rw[e,bit64];exact hx b hb
end Go.AM
namespace Go.AM
open Go.Proofs.Tryz
variable {N:Nat}
open Go.Proofs
abbrev Al4:List AV:=[.reg 0 0,.reg 1 0,.reg 2 0,.reg 3 0]
abbrev UR (c:Int)(a:Sl Law)(b:Sl Qz)(y:PV):List Obj:=[.cells [pN c],.cells [.p (vSl 18 B2 a)],.cells [.p (vSl 2 A0 b)],.cells [.p y]]
structure NZ (S:V9):Prop where
 attR:∀{a:Sl Law}{b y:Sl Qz},FunO S I0 [.p (vSl 18 B2 a),.p (vSl 2 A0 b)] [] (.p (vSl 2 A0 y)) [] []->FunO S I6 Al4 (UR 0 a b AG) (.tup []) (UR 0 a b (vSl 2 A0 y)) [true,true,true,true]
 attP:∀{a:Sl Law}{b:Sl Qz}{c:Int},(S.F I0 [.p (vSl 18 B2 a),.p (vSl 2 A0 b)] [] fun res o k=>res=.panic (.iface 147 (pI .i64 c))/\o=[]/\k=[])->FunO S I6 Al4 (UR 0 a b AG) (.tup []) (UR c a b AG) [true,true,true,true]
 tz:∀x:BitVec 64,Ae9 S P0 [.p (pI .u64 (U x))] (.p (pI .i64 (Lib.ctz 64 x.toNat:Nat)))
 trim:∀s c:Str,s.length<1000000000000->c.length<1000000->(∀b∈c,b.toNat<128)->Ae9 S Eo [.p (.str s),.p (.str c)] (.p (.str (Lib.trimS s c)))
 growS:∀(f:Nat->List PV) (n:Nat),n*8<=140737488355328->FunO S H6 [.p AG,.p (pI .i64 (n:Int))] [] (.vec 0) [.vec A4 2 0 f false] []
def F9 (N:Nat)(x:Int):Option Int:=if 0<=x/\x<18446744073709551616 then some ((Lib.ctz 64 x.toNat:Nat):Int)else none
def Er (N:Nat)(s c:Str):Option Str:=if s.length<1000000000000/\c.length<1000000/\(c.all fun b=>decide (b.toNat<128)) then some (Lib.trimS s c)else none
def H8 (N:Nat)(n:Int):Option (Sl Qz):=if 0<=n/\n*8<=140737488355328 then some (Sl.nil:Sl Qz)else none
section
variable {S:V9}(Z:G4 S Tryz.prog) (Y:NZ S)
include Z Y
theorem Dr {x y:Int}(h:F9 N x=some y):FunO S P0 [.p (pI .u64 x)] [] (.p (pI .i64 y)) [] []:=by
 obtain⟨⟨a,h1⟩,h⟩:=I4 h;obtain rfl:=B6 h
 have:=Y.tz (BitVec.ofNat 64 x.toNat)
 have e:(BitVec.ofNat 64 x.toNat).toNat=x.toNat:=by rw[Bf9];omega
 have e2:U (BitVec.ofNat 64 x.toNat)=x:=by show ((BitVec.ofNat 64 x.toNat).toNat:Int)=x;rw[e];omega
 rw[e,e2]at this;exact this
theorem Oa {s c:Str}{y:Str}(h:Er N s c=some y):FunO S Eo [.p (.str s),.p (.str c)] [] (.p (.str y)) [] []:=by obtain⟨⟨a,h1,d⟩,h⟩:=I4 h;obtain rfl:=B6 h;exact Y.trim s c a h1 fun b hb=>by simpa using AN9.1 d b hb
theorem AL {n:Int}{y:Sl Qz}(h:H8 N n=some y):FunO S H6 [.p AG,.p (pI .i64 n)] [] (.vec 0) [.vec A4 2 y.n (fun i=>A0 (y.g i)) false] []:=by
 obtain⟨⟨a,h1⟩,h⟩:=I4 h;obtain rfl:=B6 h
 have:=Y.growS (fun i=>A0 default) n.toNat (by omega)
 rw[show ((n.toNat:Nat):Int)=n by omega]at this;exact this
def A5 (N:Nat)(s:Sl Qz):Option (Sl Qz):=if (0+s.n)*8<=140737488355328/\0+s.n<=140737488355328 then some s else none
theorem N9 {s y:Sl Qz}(h:A5 N s=some y):FunO S E1 [.p (vSl 2 A0 s)] [] (.vec 0) [.vec A4 2 y.n (fun i=>A0 (y.g i)) true] []:=by
 unfold A5 at h;obtain⟨c1,h⟩:=I4 h;obtain rfl:=B6 h;refine A3 Z func34 ?_;refine Aj8 Z Lf 3 (k:=2) (n:=s.n) (f:=fun i=>A0 (s.g i)) (fun a=>?_) ?_
 .obtain⟨n,g⟩:=s;obtain rfl:n=0:=a;exact A6 Z Lf ⟨[(2,.vec 3700)],[(3700,.vec A4 2 0 (fun i=>A0 (g i)) true)]⟩ [3700] (ids:=[]) ⟨rfl,rfl,rfl⟩
 exact A6 Z (And.intro Mu c1) ⟨[(2,.vec 8000)],[(8000,.vec A4 2 s.n (fun i=>A0 (s.g i)) true)]⟩ [8000] (ids:=[(8000,8000)]) ⟨rfl,rfl,rfl⟩
  (hle:=klR [(0,.fn (0+s.n) s.n (CA 0 (L7 [pI .u32 0,pI .u32 0] []) (fun i=>A0 (s.g i))) (fun i=>A0 (s.g i)))] (al1 ⟨AQ0 _,fun i _=>by simp[CA]⟩ al0))
def F2 (N:Nat)(s:Sl IJ):Option (Sl IJ):=if (0+s.n)*32<=140737488355328/\0+s.n<=140737488355328 then some s else none
theorem Ac {s y:Sl Qz}(h:A5 N s=some y):FunO S E1 [.p (vSl 2 A0 s)] [] (.p (vSl 2 A0 y)) [] []:=by
 unfold A5 at h;obtain⟨c1,h⟩:=I4 h;obtain rfl:=B6 h;refine A3 Z func34 ?_;refine Aj8 Z Lf 3 (k:=2) (n:=s.n) (f:=fun i=>A0 (s.g i)) (fun a=>?_) ?_
 .obtain⟨n,g⟩:=s;obtain rfl:n=0:=a;exact A6 Z Lf ⟨[(2,.p (vSl 2 A0 ⟨0,g⟩))],[]⟩ [] (ids:=[]) ⟨rfl,rfl,rfl⟩
 exact A6 Z (And.intro Mu c1) ⟨[(2,.p (vSl 2 A0 s))],[]⟩ [] (ids:=[]) ⟨rfl,rfl,rfl⟩
  (hle:=klR [(0,.fn (0+s.n) s.n (CA 0 (L7 [pI .u32 0,pI .u32 0] []) (fun i=>A0 (s.g i))) (fun i=>A0 (s.g i)))] (al1 ⟨AQ0 _,fun i _=>by simp[CA]⟩ al0))
theorem Bm {s y:Sl IJ}(h:F2 N s=some y):FunO S Q2 [.p (vSl 6 AI s)] [] (.p (vSl 6 AI y)) [] []:=by
 unfold F2 at h;obtain⟨c1,h⟩:=I4 h;obtain rfl:=B6 h;refine A3 Z func106 ?_;refine Aj8 Z Lf 3 (k:=6) (n:=s.n) (f:=fun i=>AI (s.g i)) (fun a=>?_) ?_
 .obtain⟨n,g⟩:=s;obtain rfl:n=0:=a;exact A6 Z Lf ⟨[(2,.p (vSl 6 AI ⟨0,g⟩))],[]⟩ [] (ids:=[]) ⟨rfl,rfl,rfl⟩
 exact A6 Z (And.intro Mu c1) ⟨[(2,.p (vSl 6 AI s))],[]⟩ [] (ids:=[]) ⟨rfl,rfl,rfl⟩
  (hle:=klR [(0,.fn (0+s.n) s.n (CA 0 (L7 [pI .i64 0,pI .u32 0,pI .u32 0,pI .u32 0,pI .u32 0,pI .i64 0] []) (fun i=>AI (s.g i))) (fun i=>AI (s.g i)))] (al1 ⟨AQ0 _,fun i _=>by simp[CA]⟩ al0))
end
end Go.AM
set_option maxRecDepth 100000
namespace Go.AM
open Go.Proofs.Tryz
open Go.Proofs
def XO (v:Value)(w:World):(Instr.typeAssert (.iface 147 v) 20 147 true).run Tryz.prog w=.ok (.tuple #[v,.bool true]) w:=by kernel_rfl
def US (p:Value)(w:World):CallsDIn Fence.wide 0 Tryz.prog R7 #[p] .returning w fun e u' w'=>e=.returned (.tuple #[])/\u' = .returning/\w' = w:=by
 refine callsDIn_of_wpSIn func64 rfl (by simp[Fence.wide]) fun c₀ cs a=>?_;apply wpSIn_seq;apply wpSIn_region;simp[wpOpsSIn,go_sem,recoverD,a,f64,Exit.thenS];refine wpSIn_of_wpIn rfl (wpIn_block (wpIn_seq (wpIn_region ?_)));simp[wpOpsIn,Oper.wpIn,Oper.semAt,Oper.uponIn,go_sem,Exit.then];refine wpIn_cond (t:=true) (by simp[Act.eval]) ?_;simp only[J8];refine wpIn_region ?_;simp[wpOpsIn,Oper.wpIn,Oper.semAt,Oper.uponIn,go_sem,Exit.inBlock,bodyPostS,results];cases c₀
 simp_all
def Lj (p:Value)(c:Int)(older:List PanicEntry)(w w1:World)(a:(Instr.storeAt 30 p (.int .i64 c)).run Tryz.prog w=.ok () w1)(hn:∃b,p=.pointer (some b)) :CallsDIn Fence.wide 0 Tryz.prog R7 #[p] (.panicking ({ v:=.iface 147 (.int .i64 c),recovered:=false }::older)) w fun e u' w'=>
  e=.returned (.tuple #[])/\u' = .panicking ({ v:=.iface 147 (.int .i64 c),recovered:=true }::older)/\w' = w1:=by
 obtain⟨b,rfl⟩:=hn;refine callsDIn_of_wpSIn func64 rfl (by simp[Fence.wide]) fun c₀ cs d=>?_;apply wpSIn_seq;apply wpSIn_region;simp[wpOpsSIn,go_sem,recoverD,d,f64,Exit.thenS];refine wpSIn_of_wpIn rfl (wpIn_block (wpIn_seq (wpIn_region ?_)));simp[wpOpsIn,Oper.wpIn,Oper.semAt,Oper.uponIn,go_sem,Exit.then];refine wpIn_cond (t:=false) (by simp[Act.eval]) ?_;simp only[AN5,Jc];refine wpIn_seq (wpIn_region ?_);simp[wpOpsIn,Oper.wpIn,Oper.semAt,Oper.uponIn,go_sem,Exit.then,XO];refine wpIn_cond (t:=true) (by simp[Act.eval]) ?_;simp only[J8];refine wpIn_seq (wpIn_region ?_);simp[wpOpsIn,Oper.wpIn,Oper.semAt,Oper.uponIn,go_sem,Exit.then];refine wpIn_region ?_;simp[wpOpsIn,Oper.wpIn,Oper.semAt,Oper.uponIn,go_sem,a,Exit.inBlock,bodyPostS,results];simp[go_sem]at a;rw[a];simp[Result.andThen]
noncomputable def AE1:Code:=match Tryz.f63.body with
 |some (.seq _ c)=>c
 |_=>.skip
def AA2 {S:V9}(Z:G4 S Tryz.prog){a:Sl Law}{b y:Sl Qz}(c:FunO S I0 [.p (vSl 18 B2 a),.p (vSl 2 A0 b)] [] (.p (vSl 2 A0 y)) [] []) :KG S Tryz.prog (Pf S (fun st=>J0 [0,1,2,3] st.regs [0,1,2,3]=some (UR 0 a b (vSl 2 A0 y))) fun _ _=>False) (.code AE1 [] ⟨argEnv Al4,objRegs (UR 0 a b AG)⟩):=by refine D5 Z [] Lf c ?_;exact K_upN Z Lf ⟨[],[(3,.cells [.p (vSl 2 A0 y)]),(2,.cells [.p (vSl 2 A0 b)]),(1,.cells [.p (vSl 18 B2 a)]),(0,.cells [pN 0])]⟩ (ids:=[(0,0),(1,1),(2,2),(3,3)]) rfl
def ZO {S:V9}(Z:G4 S Tryz.prog){a:Sl Law}{b:Sl Qz}{c:Int}(d:S.F I0 [.p (vSl 18 B2 a),.p (vSl 2 A0 b)] [] fun res o k=>res=.panic (.iface 147 (pI .i64 c))/\o=[]/\k=[]) :KG S Tryz.prog (Pf S (fun _=>False) fun x st=>x=.iface 147 (pI .i64 c)/\store Tryz.prog st.regs 30 (.reg 0 0) (.p (pI .i64 c))=some ([],ins 0 (.cells [pN c]) st.regs)/\J0 [0,1,2,3] (ins 0 (.cells [pN c]) st.regs) [0,1,2,3]=some (UR c a b AG)) (.code AE1 [] ⟨argEnv Al4,objRegs (UR 0 a b AG)⟩):=by refine Az7 Z [] Lf d ?_;exact K_upP Z Lf ⟨rfl,by kernel_rfl,by kernel_rfl⟩
noncomputable def att1:Code:=match Tryz.f63.body with
 |some (.seq c _)=>c
 |_=>.skip
noncomputable def attOps:Array Oper:=match AE1 with
 |.region _ ops _=>ops
 |_=>#[]
def Wy:AE1=.region 1 attOps false:=by kernel_rfl
def AK5:attOps.toList.all (Hl 7 attOps.toList)=true:=by kernel_rfl
def Al5:¬Tryz.f63.name = "runtime.NumGoroutine" := by decide +kernel
def Wz:Tryz.f63.body=some (.seq att1 AE1):=by kernel_rfl
def AA3 {C:Ctx}{vs:Array Value}{w:World}{rho:Nat->Value}{args:List AV}{objs:List Obj}{n:Nat}(Z:Sat C ⟨argEnv args,objRegs objs⟩ ⟨vs,[]⟩ w rho)(a:vs.size=args.length) :Sat C ⟨argEnv args,objRegs objs⟩ { tmps:=vs++Array.replicate n undef,defers:=[] } w rho:=by
 refine⟨Z.toSatE,fun t=>?_,Z.pin,Z.marks⟩
 have:=Z.env t
 by_cases ht:t<vs.size
 .simpa[AM5,AU9,ht]using this
 show RepA w _ _ _ _ (get (argEnv args) t);rw[Z5,AM6,AQ9 (by omega)];exact .top _
def MO {R:St->Prop}{X:PV->St->Prop}{a:Sl Law}{b:Sl Qz}{objs' : List Obj}
 (a1:KG (FX Tryz.prog) Tryz.prog (Pf (FX Tryz.prog) R X) (.code AE1 [] ⟨argEnv Al4,objRegs (UR 0 a b AG)⟩))
 (hR:∀st,R st->J0 [0,1,2,3] st.regs [0,1,2,3]=some objs')
 (hX:∀x st,X x st->∃c regs',x=.iface 147 (pI .i64 c)/\store Tryz.prog st.regs 30 (.reg 0 0) (.p (pI .i64 c))=some ([],regs')/\J0 [0,1,2,3] regs' [0,1,2,3]=some objs') :
 FunO (FX Tryz.prog) I6 Al4 (UR 0 a b AG) (.tup []) objs' [true,true,true,true]:=by
 intro 𝒢 C w vs rho hG Z t;obtain⟨l⟩:=vs
 match l,t with
 |[v0,v1,v2,v3],t=>?_
 refine⟨.enter I6 #[v0,v1,v2,v3],w,by simp[callFunc,func63,Wz,Al5],?_⟩;refine callsIn_of_wp_marks func63 Wz Lf ?_;have a2:=AA3 (n:=Tryz.f63.ntmps-4) Z t;have a9:Tryz.f63.ntmps-4=3:=rfl;rw[a9]at a2;have b1:((#[v0,v1,v2,v3]:Array Value)++Array.replicate 3 undef).size=7:=rfl;have hw:Jx (FX Tryz.prog) Tryz.prog attOps.toList attOps.toList (Pf (FX Tryz.prog) R X) ⟨argEnv Al4,objRegs (UR 0 a b AG)⟩:=by
  have:=a1.out
  rw[Wy]at this;simpa only[G,awp,kp,AN5,Jc]using this
 have a4:=Md (𝒢:=𝒢.fix C.rho0) (n:=7) (ro:=none) (ops:=attOps) AK5 attOps.toList 0 rfl (by simp) ⟨hG,rfl⟩ a2 b1 hw;have a5:=II [{ target:=.fn (.func R7) #[],args:=#[v0] }] _ _ _ a4;rw[Bc2]at a5;obtain⟨b0,a6,u⟩:∃b0,v0=.pointer (some ⟨b0,0,none⟩)/\rho 0=.pointer (some ⟨b0,0,none⟩):=by
  have h0:RepA w _ _ rho v0 (.reg 0 0):=Z.env 0;cases h0 with
  |reg _ _ b0 _ h=>exact⟨b0,rfl,h⟩
 have s:∀{C' : Ctx}{st' : St}{a' : Act}{w' : World}{rho' : Nat->Value},(𝒢.fix C.rho0).G C' -> Sat C' st' a' w' rho' -> J0 [0,1,2,3] st'.regs [0,1,2,3]=some objs' ->
  LeavesInM Fence.wide 0 Tryz.prog f63 a'.tmps (fun e w'=>∃C' r objs0 ks rho', 𝒢.G C' /\ (r=.ret (.tup [])/\objs0=objs' /\ ks=[true,true,true,true])/\SatE C' (objRegs objs0) w' rho' /\
   Aq5 w' (Prv C'.X (A1 (objRegs objs0)) rho') (Lv (A1 (objRegs objs0))) rho' e r/\∀i:Nat,ks[i]? = some true->i<objs0.length/\rho' i=rho i) [] .returning w':=by
  intro C' st' a' w' rho' d f m;obtain⟨g1,g2,g3⟩:=Me f (by decide) m;obtain⟨hl,hg⟩:=Z6 m;refine⟨.tuple #[],by simp[results,f63],C', .ret (.tup []),objs',_,_,d.1,⟨rfl,rfl,rfl⟩,g1,⟨_,rfl,.tup _ _ rfl fun i hi=>Ia hi (by simp)⟩,?_⟩;intro i hi;have y:i<4:=by
   have:=(AO2.1 hi).1
   simpa using this
  refine⟨by rw[hl];exact y,?_⟩;have e1:[0,1,2,3][i]? = some i:=by
   match i,y with
   |0,_=>rfl
   |1,_=>rfl
   |2,_=>rfl
   |3,_=>rfl
  obtain⟨o,_,ho,_⟩:=hg i i e1;show rho' ([0,1,2,3].getD i 0)=rho i;rw[CD e1,f.pin i (by omega) (by simp[Lv,ho]),d.2];refine (Z.pin i (by omega) ?_).symm;rw[Lv,C8]
  match i,y with
  |0,_=>rfl
  |1,_=>rfl
  |2,_=>rfl
  |3,_=>rfl
 generalize hQ:bodyPostM _ _ _ _ _=QQ;refine wpIn_seq ?_;simp only[att1,f63];refine wpIn_region ?_;simp[wpOpsIn,Oper.wpIn,Oper.semAt,Oper.uponIn,go_sem,Exit.then];subst hQ;rw[Wy];refine wpIn_mono (wpIn_region (F:=FW none) a5) ?_;rintro e a' w' ⟨a0,rfl,z⟩;cases e with
 |exit id=>obtain⟨_,_,_,_,_,_,h⟩:=z;exact h.elim
 |goto l=>obtain⟨_,_,_,_,_,_,h⟩:=z;exact h.elim
 |ret=>obtain⟨_,_,_,_,_,_,h⟩:=z;exact h.elim
 |outgrown=>exact z.elim
 |normal=>
  obtain⟨C',st',rho',d,f,a7,hu⟩:=z;obtain⟨st2,rho2,hR2,_,hs2⟩:=hu C' a0 w' rho' f;refine Fl (C:=C') (st:=st2) (rho:=rho2) (by simp) ?_ a0.defers a0 w' rfl rfl hs2;intro a3 w3 q ht;refine⟨by simp,.inr ⟨by simp[Fence.wide],_,_,R7,#[v0],rfl,by simp[go_sem],fun _ _=>trivial,?_⟩⟩;refine (US v0 w3).mono ?_;rintro e u' w4 ⟨rfl,rfl,rfl⟩
  have:=s d q (hR st2 hR2)
  rw[ht]at this;exact this
 |panic chain=>
  obtain⟨C',st',rho',v,x,rfl,d,f,a7,hv,hXx⟩:=z;obtain⟨c,regs',rfl,g,m⟩:=hX x st' hXx;obtain rfl:v=.iface 147 (.int .i64 c):=by
   cases hv with
   |iface _ _ _ h=>cases h;rfl
  refine Fl (C:=C') (st:=st') (rho:=rho') (by simp) ?_ a0.defers a0 w' rfl rfl f;intro a3 w3 q ht;have j:Lv (A1 st'.regs) 0:=by
   cases hj:A1 st'.regs 0 with
   |some o=>simp[Lv,hj]
   |none=>
    unfold store at g;split at g
    .simp[hj]at g
    cases g
  have hr0:rho' 0=.pointer (some ⟨b0,0,none⟩):=by rw[q.pin 0 (by omega) j,d.2,<- u];exact (Z.pin 0 (by omega) rfl).symm
  have hva:RS C' st' w3 rho' v0 (.reg 0 0):=by rw[a6];exact .reg 0 0 b0 j hr0
  obtain⟨w4,a8,hs4,_⟩:=LP q (vx:=.int .i64 c) hva (.p _ _ (.v _)) g Lf;refine⟨by simp,.inr ⟨by simp[Fence.wide],_,_,R7,#[v0],rfl,by simp[go_sem],fun _ _=>trivial,?_⟩⟩;refine (Lj v0 c [] w3 w4 a8 ⟨_,a6⟩).mono ?_;rintro e u' w5 ⟨rfl,rfl,rfl⟩
  have:=s d hs4 m
  rw[ht]at this;exact this
def UT {a:Sl Law}{b y:Sl Qz}(c:FunO (FX Tryz.prog) I0 [.p (vSl 18 B2 a),.p (vSl 2 A0 b)] [] (.p (vSl 2 A0 y)) [] []) :FunO (FX Tryz.prog) I6 Al4 (UR 0 a b AG) (.tup []) (UR 0 a b (vSl 2 A0 y)) [true,true,true,true]:=
 MO (AA2 (AD3 Tryz.prog) c) (fun st h=>h) (fun x st h=>h.elim)
def QU {a:Sl Law}{b:Sl Qz}{c:Int}(d:(FX Tryz.prog).F I0 [.p (vSl 18 B2 a),.p (vSl 2 A0 b)] [] fun res o k=>res=.panic (.iface 147 (pI .i64 c))/\o=[]/\k=[]) :FunO (FX Tryz.prog) I6 Al4 (UR 0 a b AG) (.tup []) (UR c a b AG) [true,true,true,true]:=
 MO (ZO (AD3 Tryz.prog) d) (fun st h=>h.elim) (fun x st h=>⟨c,_,h.1,h.2.1,h.2.2⟩)
end Go.AM
namespace Go.AM
open Go.Proofs.Tryz
variable {N:Nat}
open IntKind (wrap)
open Go.Proofs
set_option maxRecDepth 10000
set_option maxHeartbeats 2000000
variable {S:V9}(Z:G4 S Tryz.prog) (Y:NZ S)
include Z Y
def F3 (N:Nat)(a:Qz):Option Bool:= some (((G3 .and .u32 a.Plus a.Minus)==0)&&(decide ((G3 .or .u32 a.Plus a.Minus)<=16777215)))
theorem O1 {b:Qz}{y:Bool}(h:F3 N b=some y) :FunO S IS [.p (.agg (A0 b))] [] (pB y) ([]) []:=by unfold F3 at h;refine A3 Z func51 ?_;refine kB Z (B1 Z) Lf Lf 7 (.n (.a ((G3 .and .u32 b.Plus b.Minus)==0)) (.a (decide ((G3 .or .u32 b.Plus b.Minus)<=16777215)))) ?_;cases h;exact kR Z
def J4 (N:Nat)(b:Qz)(a:Qz):Option Bool:= (F3 N b).bind fun y1=>lt (fun (z1:Bool)=>some z1) fun k1=>if y1 then (F3 N a).bind fun y3=>if y3 then if ((G3 .andNot .u32 a.Plus b.Plus)==0) then k1 ((G3 .andNot .u32 a.Minus b.Minus)==0) else k1 false else k1 false else k1 false
theorem JT {c:Qz}{a:Qz}{y:Bool}(h:J4 N c a=some y) :FunO S EL [.p (.agg (A0 c)),.p (.agg (A0 a))] [] (pB y) ([]) []:=by
 unfold J4 at h;refine A3 Z func111 ?_;refine kC Z h (O1 Z Y) (fun y1 h=>?_);refine NJ Z Lf (B1 Z) h 0 (fun z1=>⟨[(4,pB z1)],[]⟩) (fun M1 k1 b h=>?_) (fun z1 h=>?_)
 .refine kG Z h (fun h=>?_) (fun h=>?_)
  .refine kC Z h (O1 Z Y) (fun y3 h=>?_);refine kG Z h (fun h=>?_) (fun h=>?_)
   .refine kG Z h (fun h=>?_) (fun h=>?_)
    .exact b _ [] _ ((G3 .andNot .u32 a.Minus c.Minus)==0) Lf h
    exact b _ [] _ false Lf h
   exact b _ [] _ false Lf h
  exact b _ [] _ false Lf h
 cases h;exact kR Z
def Ds (N:Nat)(a:Qz):Option Int:= some (G3 .or .u32 a.Plus a.Minus)
theorem MP {a:Qz}{y:Int}(h:Ds N a=some y) :FunO S MI [.p (.agg (A0 a))] [] (pU y) ([]) []:=by unfold Ds at h;refine A3 Z func137 ?_;cases h;exact kR Z
def BV (N:Nat)(c:Qz)(b:Qz)(a:Int):Option Qz:= some (⟨G3 .or .u32 (G3 .andNot .u32 c.Plus a) (G3 .and .u32 b.Plus a),G3 .or .u32 (G3 .andNot .u32 c.Minus a) (G3 .and .u32 b.Minus a)⟩:Qz)
theorem MQ {c:Qz}{a:Qz}{b:Int}{y:Qz}(h:BV N c a b=some y) :FunO S MJ [.p (.agg (A0 c)),.p (.agg (A0 a)),pU b] [] (.p (.agg (A0 y))) ([]) []:=by unfold BV at h;refine A3 Z func138 ?_;cases h;exact kR Z
def O4 (N:Nat)(c:Qz)(a:Int)(b:Qz):Option (Qz×Int):= (F3 N c).bind fun y1=>lt (fun (z1:Bool)=>if z1 then some ((⟨0,0⟩:Qz),14) else lt (fun (z2:Bool)=>if z2 then some ((⟨0,0⟩:Qz),2) else (Ds N b).bind fun y6=>(BV N c b (G3 .or .u32 a y6)).bind fun y7=>some (y7,0)) fun k2=>if (decide (16777215<a)) then k2 true else (Ds N b).bind fun y5=>k2 ((G3 .and .u32 a y5) != 0)) fun k1=>if (!y1) then k1 true else (F3 N b).bind fun y3=>k1 (!y3)
theorem Ob {c:Qz}{a:Int}{b:Qz}{y:Qz×Int}(h:O4 N c a b=some y) :FunO S HD [.p (.agg (A0 c)),pU a,.p (.agg (A0 b))] [] (.tup [.p (.agg (A0 y.1)),pN y.2]) ([]) []:=by
 unfold O4 at h;refine A3 Z func113 ?_;refine X5 Z Lf 5 4000 [pI .u32 c.Plus,pI .u32 c.Minus] ?_;refine X5 Z Lf 6 6000 [pI .u32 b.Plus,pI .u32 b.Minus] ?_;obtain⟨y1,e1,h⟩:=C6 h;refine D5 Z [] Lh (O1 Z Y e1) ?_;refine NJ Z Lf (B1 Z) h 0 (fun z1=>⟨[(15,pB z1),(6,.reg 7000 0),(5,.p (.ptr [pI .u32 b.Plus,pI .u32 b.Minus])),(3,.p (.ptr [pI .u32 c.Plus,pI .u32 c.Minus])),(1,pU a)],[(7000,.cells [pU 0,pU 0])]⟩) (fun M1 k1 d h=>?_) (fun z1 h=>?_)
 .refine kG Z h (fun h=>?_) (fun h=>?_)
  .exact d _ [(7000,7000)] _ true Lf h
  obtain⟨y3,e3,h⟩:=C6 h;refine D5 Z [] Lh (O1 Z Y e3) ?_;exact d _ [(7000,7000)] _ (!y3) Lf h
 apply kI Z h<;>intro h
 .cases h;exact kR Z
 refine NJ Z Lf (B1 Z) h 0 (fun z2=>⟨[(25,pB z2),(6,.reg 7000 0),(5,.p (.ptr [pI .u32 b.Plus,pI .u32 b.Minus])),(3,.p (.ptr [pI .u32 c.Plus,pI .u32 c.Minus])),(1,pU a)],[(7000,.cells [pU 0,pU 0])]⟩) (fun M2 k2 f h=>?_) (fun z2 h=>?_)
 .refine kG Z h (fun h=>?_) (fun h=>?_)
  .exact f _ [(7000,7000)] _ true Lf h
  obtain⟨y5,e5,h⟩:=C6 h;refine D5 Z [] Lh (MP Z Y e5) ?_;exact f _ [(7000,7000)] _ ((G3 .and .u32 a y5) != 0) Lf h
 apply kI Z h<;>intro h
 .cases h;exact kR Z
 refine K5 Z Lf [0,1,3,4,6] ?_;obtain⟨y6,e6,h⟩:=C6 h;refine Bi (And.intro (And.intro Lh Lh) Lh) (MP Z Y e6) ?_;obtain⟨y7,e7,h⟩:=C6 h;refine Bi Lf (MQ Z Y e7) ?_;refine O7 Lf ?_;cases h;exact kR Z
def S4 (N:Nat)(c:Qz)(a:Qz)(b:Int):Option (Qz×Int):= (F3 N c).bind fun y1=>lt (fun (z1:Bool)=>if z1 then some ((⟨0,0⟩:Qz),14) else if (decide (16777215<b)) then some ((⟨0,0⟩:Qz),2) else (BV N c a b).bind fun y4=>some (y4,0)) fun k1=>if (!y1) then k1 true else (F3 N a).bind fun y3=>k1 (!y3)
theorem Tb {c:Qz}{a:Qz}{b:Int}{y:Qz×Int}(h:S4 N c a b=some y) :FunO S KR [.p (.agg (A0 c)),.p (.agg (A0 a)),pU b] [] (.tup [.p (.agg (A0 y.1)),pN y.2]) ([]) []:=by
 unfold S4 at h;refine A3 Z func114 ?_;refine kC Z h (O1 Z Y) (fun y1 h=>?_);refine NJ Z Lf (B1 Z) h 0 (fun z1=>⟨[(15,pB z1),(6,.reg 7000 0),(4,.reg 5000 0),(3,.reg 4000 0),(2,pU b)],[(7000,.cells [pU 0,pU 0]),(5000,.cells [pU a.Plus,pU a.Minus]),(4000,.cells [pU c.Plus,pU c.Minus])]⟩) (fun M1 k1 d h=>?_) (fun z1 h=>?_)
 .refine kG Z h (fun h=>?_) (fun h=>?_)
  .exact d _ [(4000,4000),(5000,5000),(7000,7000)] _ true Lf h
  refine kC Z h (O1 Z Y) (fun y3 h=>?_);exact d _ [(4000,4000),(5000,5000),(7000,7000)] _ (!y3) Lf h
 apply kI Z h<;>intro h
 .cases h;exact kR Z
 apply kI Z h<;>intro h
 .cases h;exact kR Z
 refine kC Z h (MQ Z Y) (fun y4 h=>?_);cases h;exact kR Z
def Bk (N:Nat)(a:Qz):Option Bool:= some (((G3 .and .u32 a.Plus a.Minus)==0)&&((shI .shr .u32 (G3 .or .u32 a.Plus a.Minus) 24)==0))
theorem Tc {a:Qz}{y:Bool}(h:Bk N a=some y) :FunO S KN [.p (.agg (A0 a))] [] (pB y) ([]) []:=by
 unfold Bk at h;refine A3 Z func61 ?_;obtain⟨t1,c⟩:∃x:Bool,x=(((G3 .and .u32 a.Plus a.Minus)==0)&&((shI .shr .u32 (G3 .or .u32 a.Plus a.Minus) 24)==0)):=⟨_,rfl⟩;refine Uz Z Lf (B1 Z) 0 ⟨[(2,pB t1)],[]⟩ (fun M1 d=>?_) ?_
 .refine Qr Z Lf (b:=(G3 .and .u32 a.Plus a.Minus)==0) (fun c2=>?_) (fun c2=>?_)
  .exact d _ [] _ (by decide:(0:Int)<=24) (hle:=klR [(0,.eq (.bb ((shI .shr .u32 (G3 .or .u32 a.Plus a.Minus) 24)==0)) (.bb t1))] (al1 (by simp only[c,c2,Leaf.ok,pm,J8,Jc]) al0))
  exact d _ [] _ Lf (hle:=klR [(0,.eq (.bb false) (.bb t1))] (al1 (by simp only[c,c2,Leaf.ok,pm,J8,Jc]) al0))
 subst c;cases h;exact kR Z
def S5 (N:Nat)(a:Sl Qz):Option Int:= if (decide (32<(a.n:Int))) then some 11 else S9 N (fun b (x1:Int)=>if (decide (x1<(a.n:Int))) then if ((0:Int)<=x1/\x1<(a.n:Int))then (Bk N (a.g x1.toNat)).bind fun y3=>if (!y3) then some 14 else b (wrap .i64 (x1+1)) else none else some 0) 0
theorem Eb {a:Sl Qz}{y:Int}(h:S5 N a=some y) :FunO S KL [.p (vSl 2 A0 a)] [] (pN y) ([]) []:=by
 unfold S5 at h;refine A3 Z func37 ?_;apply kI Z h<;>intro h
 .cases h;exact kR Z
 refine AH Z Lf h (fun x1=>⟨[(10,pN x1),(9,pN (a.n:Int)),(8,.p (vSl 2 A0 a))],[]⟩) (ids:=[]) (fun _ _ _ _ _ b x1 c h=>?_);apply kI Z h<;>intro h
 .obtain⟨c9,h⟩:=I4 h;obtain⟨y3,e3,h⟩:=C6 h;refine D5 Z [] (And.intro c9 Lh) (Tc Z Y e3) ?_;apply kI Z h<;>intro h
  .cases h;exact kR Z
  exact c _ [] _ (wrap .i64 (x1+1)) Lf h
 cases h;exact kR Z
def E2 (N:Nat)(a:Sl Qz)(b:Sl Qz):Option Bool:= if ((a.n:Int) != (b.n:Int)) then some false else S9 N (fun c (x1:Int)=>if (decide (x1<(a.n:Int))) then if (((0:Int)<=x1/\x1<(a.n:Int))/\((0:Int)<=x1/\x1<(b.n:Int)))then if ((((a.g x1.toNat).Plus==(b.g x1.toNat).Plus)&&((a.g x1.toNat).Minus==(b.g x1.toNat).Minus)) != true) then some false else c (wrap .i64 (x1+1)) else none else some true) 0
theorem Ay {a:Sl Qz}{b:Sl Qz}{y:Bool}(h:E2 N a b=some y) :FunO S N5 [.p (vSl 2 A0 a),.p (vSl 2 A0 b)] [] (pB y) ([]) []:=by
 unfold E2 at h;refine A3 Z func20 ?_;apply kI Z h<;>intro h
 .cases h;exact kR Z
 refine AH Z Lf h (fun x1=>⟨[(13,pN x1),(12,pN (a.n:Int)),(1,.p (vSl 2 A0 b)),(0,.p (vSl 2 A0 a))],[]⟩) (ids:=[]) (fun _ _ _ _ _ c x1 d h=>?_);apply kI Z h<;>intro h
 .refine K5 Z Lf [2,3,6,7] ?_;obtain⟨c9,h⟩:=I4 h;refine O7 (And.intro (And.intro (And.intro (And.intro c9.1 Lh) c9.2) Lh) (by decide +kernel:Au4 Tryz.prog A4=true)) ?_;apply kI Z h<;>intro h
  .cases h;exact kR Z
  exact d _ [] _ (wrap .i64 (x1+1)) Lf h
 cases h;exact kR Z
def S6 (N:Nat)(a:Sl Qz)(b:Sl Qz):Option Bool:= (E2 N a b).bind fun y1=>some y1
theorem Ec {a:Sl Qz}{b:Sl Qz}{y:Bool}(h:S6 N a b=some y) :FunO S KF [.p (vSl 2 A0 a),.p (vSl 2 A0 b)] [] (pB y) ([]) []:=by unfold S6 at h;refine A3 Z func11 ?_;refine kC Z h (Ay Z Y) (fun y1 h=>?_);cases h;exact kR Z
def O5 (N:Nat)(a:Qz):Option Bool:= some (((G3 .and .u32 a.Plus a.Minus)==0)&&((shI .shr .u32 (G3 .or .u32 a.Plus a.Minus) 24)==0))
theorem Ed {a:Qz}{y:Bool}(h:O5 N a=some y) :FunO S KS [.p (.agg (A0 a))] [] (pB y) ([]) []:=by
 unfold O5 at h;refine A3 Z func132 ?_;obtain⟨t1,c⟩:∃x:Bool,x=(((G3 .and .u32 a.Plus a.Minus)==0)&&((shI .shr .u32 (G3 .or .u32 a.Plus a.Minus) 24)==0)):=⟨_,rfl⟩;refine Uz Z Lf (B1 Z) 0 ⟨[(2,pB t1)],[]⟩ (fun M1 d=>?_) ?_
 .refine Qr Z Lf (b:=(G3 .and .u32 a.Plus a.Minus)==0) (fun c2=>?_) (fun c2=>?_)
  .exact d _ [] _ (by decide:(0:Int)<=24) (hle:=klR [(0,.eq (.bb ((shI .shr .u32 (G3 .or .u32 a.Plus a.Minus) 24)==0)) (.bb t1))] (al1 (by simp only[c,c2,Leaf.ok,pm,J8,Jc]) al0))
  exact d _ [] _ Lf (hle:=klR [(0,.eq (.bb false) (.bb t1))] (al1 (by simp only[c,c2,Leaf.ok,pm,J8,Jc]) al0))
 subst c;cases h;exact kR Z
def P1 (N:Nat)(b:Int):Option (Nat->Int):= X4 N (fun a (x1:Nat->Int) (x2:Int)=>if (decide (x2<(wrap .i64 (b+1)))) then if (((0:Int)<=x2/\((0:Int)<=x2/\x2<33))/\(0+x2.toNat*1)<33)then a (Ht x1 (0+x2.toNat*1) (shI .shl .u64 1 x2)) (wrap .i64 (x2+1)) else none else some x1) (fun _=>0) 0
theorem Dt {a:Int}{y:Nat->Int}(h:P1 N a=some y) :FunO S Gx [pN a] [] (.p (.agg (cA 33 (pI .u64) y))) ([]) []:=by
 unfold P1 at h;refine A3 Z func186 ?_;refine Q7 Z Lf h (fun x1 x2=>⟨[(7,pN x2),(6,pN (wrap .i64 (a+1))),(3,.reg 4000 0),(2,.reg 3000 0)],[(4000,.arr 33 (fun i=>pI .u64 (x1 i))),(3000,.arr 33 (fun i=>pI .u64 ((fun _=>0) i)))]⟩) (ids:=[(3000,3000),(4000,4000)]) (fun _ _ _ _ _ b x1 x2 d h=>?_) (hle:=klR [(2,.fn 33 33 (fun i=>[(fun i=>(List.replicate 33 (pI .u64 0)).getD i default) i]) (fun i=>[pI .u64 ((fun _=>0) i)])),(3,.fn 33 33 (fun i=>[(fun i=>(List.replicate 33 (pI .u64 0)).getD i default) i]) (fun i=>[pI .u64 ((fun _=>0) i)]))] (al1 ⟨rfl,BU (z:=pI .u64 0) rfl⟩ (al1 ⟨rfl,BU (z:=pI .u64 0) rfl⟩ al0)));apply kI Z h<;>intro h
 .obtain⟨c4,h⟩:=I4 h;exact d _ [(3000,3000),(4000,4000)] _ (Ht x1 (0+x2.toNat*1) (shI .shl .u64 1 x2)) (wrap .i64 (x2+1)) c4 h (hle:=klR [(2,.fn 33 33 (fun i=>[(fun i=>if i=(0+x2.toNat*1)then (pI .u64 (shI .shl .u64 1 x2))else (fun i=>pI .u64 (x1 i)) i) i]) (fun i=>[pI .u64 (Ht x1 (0+x2.toNat*1) (shI .shl .u64 1 x2) i)]))] (al1 ⟨rfl,Ae0 (c:=pI .u64) (v:=x1) (x:=shI .shl .u64 1 x2) (fun _ _=>rfl) rfl⟩ al0))
 obtain rfl:=B6 h;exact A6 Z (And.intro rfl (E8 _ _):(0:Nat)=0/\(CB 33 (fun i=>pI .u64 (x1 i))).length=33) ⟨[(2,.reg 3000 0)],[(3000,.arr 33 (fun i=>pI .u64 (x1 i)))]⟩ [] (ids:=[(3000,3000)]) ⟨rfl,rfl,rfl⟩ (hle:=klR [(0,.fn 33 33 (fun i=>[(fun i=>(cA 33 (pI .u64) x1).getD i default) i]) (fun i=>[pI .u64 (x1 i)]))] (al1 ⟨rfl,D6 33 (fun i=>pI .u64 (x1 i))⟩ al0))
def M9 (N:Nat)(p_x:Nat->Int)(b:Nat->Int):Option (Nat->Int):= X4 N (fun a (x1:Nat->Int) (x2:Int)=>if (decide (x2<33)) then if (((0:Int)<=x2/\x2<33)/\(0+x2.toNat*1)<33)then if (((((0:Int)<=x2/\x2<33)/\(0+x2.toNat*1)<33)/\((0:Int)<=x2/\x2<33))/\(0+x2.toNat*1)<33)then a (Ht x1 (0+x2.toNat*1) (G3 .or .u64 (x1 (0+x2.toNat*1)) (b (0+x2.toNat*1)))) (wrap .i64 (x2+1)) else none else none else some x1) p_x 0
theorem Ee {p_x:Nat->Int}{a:Nat->Int}{y:Nat->Int}(h:M9 N p_x a=some y) :FunO S DZ [.reg 0 0,.reg 1 0] [.arr 33 (fun i=>pI .u64 (p_x i)),.arr 33 (fun i=>pI .u64 (a i))] (.tup []) ([.arr 33 (fun i=>pI .u64 (y i)),.arr 33 (fun i=>pI .u64 (a i))]) [true,true]:=by
 unfold M9 at h;refine A3 Z func184 ?_;refine Q7 Z Lf h (fun x1 x2=>⟨[(7,pN x2),(6,.reg 1 0),(0,.reg 0 0)],[(1,.arr 33 (fun i=>pI .u64 (a i))),(0,.arr 33 (fun i=>pI .u64 (x1 i)))]⟩) (ids:=[(0,0),(1,1)]) (fun _ _ _ _ _ b x1 x2 d h=>?_);apply kI Z h<;>intro h
 .refine HX Z Lf ?_;obtain⟨c8,h⟩:=I4 h;refine O7 c8 ?_;refine HX Z Lf ?_;obtain⟨c9,h⟩:=I4 h;refine O7 c9 ?_;exact d _ [(0,0),(1,1)] _ (Ht x1 (0+x2.toNat*1) (G3 .or .u64 (x1 (0+x2.toNat*1)) (a (0+x2.toNat*1)))) (wrap .i64 (x2+1)) Lf h (hle:=klR [(2,.fn 33 33 (fun i=>[(fun i=>if i=(0+x2.toNat*1)then (pI .u64 (G3 .or .u64 (x1 (0+x2.toNat*1)) (a (0+x2.toNat*1))))else (fun i=>pI .u64 (x1 i)) i) i]) (fun i=>[pI .u64 (Ht x1 (0+x2.toNat*1) (G3 .or .u64 (x1 (0+x2.toNat*1)) (a (0+x2.toNat*1))) i)]))] (al1 ⟨rfl,Ae0 (c:=pI .u64) (v:=x1) (x:=G3 .or .u64 (x1 (0+x2.toNat*1)) (a (0+x2.toNat*1))) (fun _ _=>rfl) rfl⟩ al0))
 obtain rfl:=B6 h;exact A6 Z Lf ⟨[],[(1,.arr 33 (fun i=>pI .u64 (a i))),(0,.arr 33 (fun i=>pI .u64 (x1 i)))]⟩ [0,1] (ids:=[(0,0),(1,1)]) ⟨rfl,rfl,rfl⟩
def Ad (N:Nat)(b:Sl Qz)(a:Int):Option Int:= if ((decide (a<0))||(decide ((b.n:Int)<a))) then some 3 else some 0
theorem Jf {c:Sl Qz}{b:Int}{y:Int}(h:Ad N c b=some y) :FunO S Jb [.p (vSl 2 A0 c),pN b] [] (pN y) ([]) []:=by
 unfold Ad at h;refine A3 Z func149 ?_;refine kB Z (B1 Z) Lf Lf 5 (.o (.a (decide (b<0))) (.a (decide ((c.n:Int)<b)))) ?_;apply kI Z h<;>intro h
 .cases h;exact kR Z
 cases h;exact kR Z
def AN (N:Nat)(a:Pat):Option Int:= if (if (a.Kind==0) then a.Kind==0 else (if (a.Kind==2) then a.Kind==2 else a.Kind==6)) then lt (fun (z1:Bool)=>if z1 then some 2 else (O5 N a.Is).bind fun y1=>if (!y1) then some 14 else some 0) fun k1=>if (((a.Is.Plus==0)&&(a.Is.Minus==0)) != true) then k1 true else if a.Not then k1 true else if (a.Min != 0) then k1 true else if (a.Max != 0) then k1 true else k1 (decide (0<(a.L.n:Int))) else if (a.Kind==1) then lt (fun (z2:Bool)=>if z2 then some 2 else (O5 N a.Is).bind fun y2=>if (!y2) then some 14 else some 0) fun k2=>if (((0==0)&&(0==0)) != true) then k2 true else if (a.Min != 0) then k2 true else if (a.Max != 0) then k2 true else k2 (decide (0<(a.L.n:Int))) else lt (fun (z3:Int×Int)=>if (((((((a.Is.Plus==0)&&(a.Is.Minus==0)) != true)||a.Not)||(z3.1 != 0))||(z3.2 != 0))||(decide (0<0))) then some 2 else (O5 N a.Is).bind fun y3=>if (!y3) then some 14 else some 0) fun k3=>if (if (a.Kind==3) then a.Kind==3 else a.Kind==4) then k3 (a.Min,a.Max) else if (a.Kind==5) then if (((((a.L.n:Int) != 1)||(decide (a.Min<0)))||(decide (32<a.Min)))||((a.Max != (-1))&&((decide (a.Max<a.Min))||(decide (32<a.Max))))) then some 2 else k3 (0,0) else some 2
theorem Oc {c:Pat}{y:Int}(h:AN N c=some y) :FunO S HC [.p (.agg (D3 c))] [] (pN y) ([]) []:=by
 unfold AN at h;refine A3 Z func101 ?_;obtain⟨t1,f⟩:∃x:Bool,x=(if (c.Kind==0) then c.Kind==0 else (if (c.Kind==2) then c.Kind==2 else c.Kind==6)):=⟨_,rfl⟩;refine Uz Z Lf (B1 Z) 0 ⟨[(8,pB t1),(7,pN c.Kind),(3,.reg 4000 0),(1,.reg 2000 0)],[(4000,.cells [pN 0,pU c.Is.Plus,pU c.Is.Minus,pB c.Not,pN c.Min,pN c.Max,.p (.sl false 7 c.L.n (Fm c))]),(2000,.cells ((D3 c).map .p))]⟩ (fun M1 l=>?_) ?_
 .refine D9 Z Lf (b:=c.Kind==0) (fun c3=>?_) (fun c3=>?_)
  .exact l _ [(2000,2000),(4000,4000)] _ Lf (hle:=klR [(0,.eq (.bb (c.Kind==0)) (.bb t1))] (al1 (by simp only[f,c3,Leaf.ok,pm,J8,Jc]) al0))
  refine D9 Z Lf (b:=c.Kind==2) (fun c4=>?_) (fun c4=>?_)
  .exact l _ [(2000,2000),(4000,4000)] _ Lf (hle:=klR [(0,.eq (.bb (c.Kind==2)) (.bb t1))] (al1 (by simp only[f,c3,c4,Leaf.ok,pm,J8,Jc]) al0))
  exact l _ [(2000,2000),(4000,4000)] _ Lf (hle:=klR [(0,.eq (.bb (c.Kind==6)) (.bb t1))] (al1 (by simp only[f,c3,c4,Leaf.ok,pm,J8,Jc]) al0))
 subst f;apply kI Z h<;>intro h
 .refine NJ Z (by decide +kernel:Au4 Tryz.prog A4=true) (B1 Z) h 0 (fun z1=>⟨[(57,pB z1),(1,.reg 2000 0)],[(2000,.cells ((D3 c).map .p))]⟩) (fun M3 k1 d h=>?_) (fun z1 h=>?_)
  .refine kG Z h (fun h=>?_) (fun h=>?_)
   .exact d _ [(2000,2000)] _ true Lf h
   refine kG Z h (fun h=>?_) (fun h=>?_)
   .exact d _ [(2000,2000)] _ true Lf h
   refine kG Z h (fun h=>?_) (fun h=>?_)
   .exact d _ [(2000,2000)] _ true Lf h
   refine kG Z h (fun h=>?_) (fun h=>?_)
   .exact d _ [(2000,2000)] _ true Lf h
   refine Bb Z Lf 79 ⟨[(78,.p (vSl 7 D3 c.L)),(76,.p (.v (.bool false))),(1,.reg 2000 0)],[(2000,.cells ((D3 c).map .p))]⟩ (ids:=[(2000,2000)]) ?_ (hle:=klR [(0,.fn c.L.n c.L.n (Fm c) (fun i=>D3 (c.L.g i)))] (al1 ⟨rfl,CU c⟩ al0));exact d _ [(2000,2000)] _ (decide (0<(c.L.n:Int))) Lf h
  apply kI Z h<;>intro h
  .cases h;exact kR Z
  refine kC Z h (Ed Z Y) (fun y1 h=>?_);apply kI Z h<;>intro h
  .cases h;exact kR Z
  cases h;exact kR Z
 apply kI Z h<;>intro h
 .refine NJ Z (by decide +kernel:Au4 Tryz.prog A4=true) (B1 Z) h 0 (fun z2=>⟨[(57,pB z2),(1,.reg 2000 0)],[(2000,.cells ((D3 c).map .p))]⟩) (fun M5 k2 j h=>?_) (fun z2 h=>?_)
  .refine kG Z h (fun h=>?_) (fun h=>?_)
   .exact j _ [(2000,2000)] _ true Lf h
   refine Qr Z Lf (b:=false) (fun c54=>?_) (fun c54=>?_)
   .exact Bool.noConfusion ((rfl:false=false).symm.trans c54)
   refine kG Z h (fun h=>?_) (fun h=>?_)
   .exact j _ [(2000,2000)] _ true Lf h
   refine kG Z h (fun h=>?_) (fun h=>?_)
   .exact j _ [(2000,2000)] _ true Lf h
   refine Bb Z Lf 79 ⟨[(78,.p (vSl 7 D3 c.L)),(76,.p (.v (.bool false))),(1,.reg 2000 0)],[(2000,.cells ((D3 c).map .p))]⟩ (ids:=[(2000,2000)]) ?_ (hle:=klR [(0,.fn c.L.n c.L.n (Fm c) (fun i=>D3 (c.L.g i)))] (al1 ⟨rfl,CU c⟩ al0));exact j _ [(2000,2000)] _ (decide (0<(c.L.n:Int))) Lf h
  apply kI Z h<;>intro h
  .cases h;exact kR Z
  refine kC Z h (Ed Z Y) (fun y2 h=>?_);apply kI Z h<;>intro h
  .cases h;exact kR Z
  cases h;exact kR Z
 obtain⟨t4,m⟩:∃x:Bool,x=(if (c.Kind==3) then c.Kind==3 else c.Kind==4):=⟨_,rfl⟩;refine Uz Z Lf (B1 Z) 0 ⟨[(17,pB t4),(7,pN c.Kind),(3,.reg 4000 0),(1,.reg 2000 0)],[(4000,.cells [pN 0,pU c.Is.Plus,pU c.Is.Minus,pB c.Not,pN c.Min,pN c.Max,.p (.sl false 7 c.L.n (Fm c))]),(2000,.cells ((D3 c).map .p))]⟩ (fun M6 q=>?_) ?_
 .refine D9 Z Lf (b:=c.Kind==3) (fun c60=>?_) (fun c60=>?_)
  .exact q _ [(2000,2000),(4000,4000)] _ Lf (hle:=klR [(0,.eq (.bb (c.Kind==3)) (.bb t4))] (al1 (by simp only[m,c60,Leaf.ok,pm,J8,Jc]) al0))
  exact q _ [(2000,2000),(4000,4000)] _ Lf (hle:=klR [(0,.eq (.bb (c.Kind==4)) (.bb t4))] (al1 (by simp only[m,c60,Leaf.ok,pm,J8,Jc]) al0))
 subst m;refine NJ Z Lf (B1 Z) h 0 (fun z3=>⟨[(3,.reg 4000 0),(1,.reg 2000 0)],[(4000,.cells [pN 0,pU c.Is.Plus,pU c.Is.Minus,pB c.Not,pN z3.1,pN z3.2,.p AG]),(2000,.cells ((D3 c).map .p))]⟩) (fun M7 k3 r h=>?_) (fun z3 h=>?_)
 .apply kI Z h<;>intro h
  .exact r _ [(2000,2000),(4000,4000)] _ (c.Min,c.Max) Lf h
  apply kI Z h<;>intro h
  .refine Bb Z Lf 25 ⟨[(24,.p (vSl 7 D3 c.L)),(3,.reg 4000 0),(1,.reg 2000 0)],[(4000,.cells [pN 0,pU c.Is.Plus,pU c.Is.Minus,pB c.Not,pN c.Min,pN c.Max,.p (.sl false 7 c.L.n (Fm c))]),(2000,.cells ((D3 c).map .p))]⟩ (ids:=[(2000,2000),(4000,4000)]) ?_ (hle:=klR [(0,.fn c.L.n c.L.n (Fm c) (fun i=>D3 (c.L.g i)))] (al1 ⟨rfl,CU c⟩ al0));refine kB Z (B1 Z) Lf Lf 26 (.o (.o (.o (.a ((c.L.n:Int) != 1)) (.a (decide (c.Min<0)))) (.a (decide (32<c.Min)))) (.n (.a (c.Max != (-1))) (.o (.a (decide (c.Max<c.Min))) (.a (decide (32<c.Max)))))) ?_;apply kI Z h<;>intro h
   .cases h;exact kR Z
   exact r _ [(2000,2000),(4000,4000)] _ (0,0) Lf h
  cases h;exact kR Z
 refine kB Z (B1 Z) (by decide +kernel:Au4 Tryz.prog A4=true) Lf 19 (.o (.o (.o (.o (.a (((c.Is.Plus==0)&&(c.Is.Minus==0)) != true)) (.a c.Not)) (.a (z3.1 != 0))) (.a (z3.2 != 0))) (.a (decide (0<0)))) ?_;apply kI Z h<;>intro h
 .cases h;exact kR Z
 refine kC Z h (Ed Z Y) (fun y3 h=>?_);apply kI Z h<;>intro h
 .cases h;exact kR Z
 cases h;exact kR Z
end Go.AM
namespace Go.AM
variable {N:Nat}
open IntKind (wrap)
open Go.Proofs
set_option maxRecDepth 10000
set_option maxHeartbeats 2000000
variable {S:V9}(Z:G4 S Tryz.prog) (Y:NZ S)
include Z Y
def By (rec:Pat->Int->Option Int)(N:Nat)(b:Pat)(a:Int):Option Int:= X4 N (fun c (x1:Int) (x2:Int)=>if ((decide (x2<(b.L.n:Int)))&&(decide (x1<=40))) then if ((0:Int)<=x2/\x2<(b.L.n:Int))then (rec (b.L.g x2.toNat) x1).bind fun y3=>c y3 (wrap .i64 (x2+1)) else none else some x1) (wrap .i64 (a+1)) 0
def Bc:Nat->Pat->Int->Option Int
 |0=>fun _ _=>none
 |N+1=>By (Bc N) N
theorem Td {rec:Pat->Int->Option Int}(d:∀{b:Pat}{c:Int}{y:Int},rec b c=some y->FunO S Fn [.p (.agg (D3 b)),pN c] [] (pN y) ([]) []){b:Pat}{c:Int}{y:Int}(h:By rec N b c=some y) :FunO S Fn [.p (.agg (D3 b)),pN c] [] (pN y) ([]) []:=by
 unfold By at h;refine A3 Z Tryz.func46 ?_;refine Q7 Z Lf h (fun x1 x2=>⟨[(6,pN x2),(5,pN x1),(2,.reg 3000 0)],[(3000,.cells ((D3 b).map .p))]⟩) (ids:=[(3000,3000)]) (fun _ _ _ _ _ f x1 x2 j h=>?_);refine Bb Z Lf 12 ⟨[(11,.p (vSl 7 D3 b.L)),(9,pN x2),(6,pN x2),(5,pN x1),(2,.reg 3000 0)],[(3000,.cells ((D3 b).map .p))]⟩ (ids:=[(3000,3000)]) ?_ (hle:=klR [(0,.fn b.L.n b.L.n (Fm b) (fun i=>D3 (b.L.g i)))] (al1 ⟨rfl,CU b⟩ al0));refine kB Z (B1 Z) Lf Lf 3 (.n (.a (decide (x2<(b.L.n:Int)))) (.a (decide (x1<=40)))) ?_;apply kI Z h<;>intro h
 .refine Bb Z Lf 23 ⟨[(22,pN x2),(21,.p (vSl 7 D3 b.L)),(6,pN x2),(5,pN x1),(2,.reg 3000 0)],[(3000,.cells ((D3 b).map .p))]⟩ (ids:=[(3000,3000)]) ?_ (hle:=klR [(1,.fn b.L.n b.L.n (Fm b) (fun i=>D3 (b.L.g i)))] (al1 ⟨rfl,CU b⟩ al0));obtain⟨c6,h⟩:=I4 h;obtain⟨y3,e3,h⟩:=C6 h;refine D5 Z [] (And.intro c6 Mq) (d e3) ?_;exact j _ [(3000,3000)] _ y3 (wrap .i64 (x2+1)) Lf h
 cases h;exact kR Z
theorem UU {b:Pat}{a:Int}{y:Int}(h:Bc N b a=some y) :FunO S Fn [.p (.agg (D3 b)),pN a] [] (pN y) ([]) []:=by
 induction N generalizing b a y with
 |zero=>cases (show (none:Option Int)=some y from h)
 |succ N ih=>exact Td Z Y (fun e=>ih e) h
def CY (N:Nat)(a:Pat):Option Int:= (Bc N a 0).bind fun y1=>some y1
theorem Pm {a:Pat}{y:Int}(h:CY N a=some y) :FunO S Ph [.p (.agg (D3 a))] [] (pN y) ([]) []:=by unfold CY at h;refine A3 Z Tryz.func28 ?_;refine kC Z h (UU Z Y) (fun y1 h=>?_);cases h;exact kR Z
end Go.AM
namespace Go.AM
open Go.Proofs.Tryz
variable {N:Nat}
open IntKind (wrap)
open Go.Proofs
set_option maxRecDepth 10000
set_option maxHeartbeats 2000000
variable {S:V9}(Z:G4 S Tryz.prog) (Y:NZ S)
include Z Y
def P9 (N:Nat)(q0:Int):Option (List (Int)):= S9 N (fun a (x1:Int)=>if (x1 != 0) then (F9 N x1).bind fun y3=>if (0:Int)<=y3 then Aq y3 (a (G3 .andNot .u64 x1 (shI .shl .u64 1 y3))) else none else some []) q0
theorem CF {q0:Int}{L:List (Int)}(h:P9 N q0=some L) :CT S AX [] [.reg 0 0] [.cells [.p (pI .u64 q0)]] (L.map (fun (x:Int)=>[pI .i64 x])):=by
 unfold P9 at h;refine DS Z func157 ?_;refine Gi Z Lf h (fun x1 L1=>⟨[(1,.reg 0 0),(0,.yf 1)],[(1,.yld (L1.map (fun (x:Int)=>[pI .i64 x])) true),(0,.cells [.p (pI .u64 x1)])]⟩) (ids:=[(0,0),(1,1)]) (fun _ _ _ _ _ d x1 L1 f h=>?_);apply kI Z h<;>intro h
 .refine kC Z h (Dr Z Y) (fun y3 h=>?_);refine HX Z Lf ?_;obtain⟨c10,h⟩:=I4 h;refine O7 c10 ?_;obtain⟨L4,rfl,c⟩:=Lb h;replace h:=c;refine Dl Z Lf (ys:=(fun (x:Int)=>[pI .i64 x]) y3) (rest:=L4.map (fun (x:Int)=>[pI .i64 x])) ?_ ?_
  .refine D9 Z Lf (b:=false) (fun c11=>?_) (fun c11=>?_)
   .exact Bool.noConfusion ((rfl:false=false).symm.trans c11)
   exact f _ [(0,0),(1,1)] _ (G3 .andNot .u64 x1 (shI .shl .u64 1 y3)) L4 Lf h
  refine D9 Z Lf (b:=true) (fun c12=>?_) (fun c12=>?_)
  .exact A6 Z Lf (a:=.tup []) (objs:=[(.cells [.p (pI .u64 (G3 .andNot .u64 x1 (shI .shl .u64 1 y3)))]),.yld [] false]) ⟨[],[(1,.yld [] false),(0,.cells [.p (pI .u64 (G3 .andNot .u64 x1 (shI .shl .u64 1 y3)))])]⟩ [0,1] (ids:=[(0,0),(1,1)]) ⟨false,rfl,rfl,_,rfl⟩
  exact Bool.noConfusion (Mu.symm.trans c12)
 obtain rfl:=B6 h;exact A6 Z Lf (a:=.tup []) (objs:=[(.cells [.p (pI .u64 x1)]),.yld [] true]) ⟨[],[(1,.yld [] true),(0,.cells [.p (pI .u64 x1)])]⟩ [0,1] (ids:=[(0,0),(1,1)]) ⟨true,rfl,rfl,_,rfl⟩
def AO (N:Nat)(a:Int):Option (Int):= some a
theorem Es {a:Int}{y:Int}(h:AO N a=some y) :FunO S HE [.p (pI .u64 a)] [] (.clo AX [] [.reg 0 0]) ([.cells [.p (pI .u64 y)]]) []:=by unfold AO at h;refine A3 Z func150 ?_;obtain rfl:=B6 h;exact A6 Z Lf ⟨[(2,.clo AX [] [.reg 2000 0])],[(2000,.cells [.p (pI .u64 a)])]⟩ [2000] (ids:=[(2000,2000)]) ⟨rfl,rfl,rfl⟩
def D0 (N:Nat)(p_x:Nat->Int)(c:Nat->Int):Option (Nat->Int):= X4 N (fun a (x3:Nat->Int) (x4:Int)=>if (decide (x4<33)) then if (((0:Int)<=x4/\x4<33)/\(0+x4.toNat*1)<33)then (AO N (p_x (0+x4.toNat*1))).bind fun y3=>(P9 N y3).bind fun L3=>O6 L3 (fun b (x7:Int) (z3:Nat->Int)=>if (((((((0:Int)<=x4/\x4<33)/\(0+x4.toNat*1)<33)/\((0:Int)<=x7/\x7<33))/\(0+x7.toNat*1)<33)/\((0:Int)<=x4/\x4<33))/\(0+x4.toNat*1)<33)then b (Ht z3 (0+x4.toNat*1) (G3 .or .u64 (z3 (0+x4.toNat*1)) (c (0+x7.toNat*1)))) else none) (fun (z3:Nat->Int)=>a z3 (wrap .i64 (x4+1))) x3 else none else some x3) (fun _=>0) 0
theorem Q8 {p_x:Nat->Int}{b:Nat->Int}{y:Nat->Int}(h:D0 N p_x b=some y) :FunO S Ax [.reg 0 0,.reg 1 0] [.arr 33 (fun i=>pI .u64 (p_x i)),.arr 33 (fun i=>pI .u64 (b i))] (.p (.agg (cA 33 (pI .u64) y))) ([.arr 33 (fun i=>pI .u64 (p_x i)),.arr 33 (fun i=>pI .u64 (b i))]) [true,true]:=by
 unfold D0 at h;refine A3 Z func187 ?_;refine Q7 Z Lf h (fun x3 x4=>⟨[(10,pN x4),(9,.reg 0 0),(5,.reg 6000 0),(4,.reg 5000 0),(3,.reg 4000 0)],[(6000,.arr 33 (fun i=>pI .u64 (x3 i))),(5000,.arr 33 (fun i=>pI .u64 ((fun _=>0) i))),(4000,.cells [.reg 1 0]),(1,.arr 33 (fun i=>pI .u64 (b i))),(0,.arr 33 (fun i=>pI .u64 (p_x i)))]⟩) (ids:=[(0,0),(1,1),(4000,4000),(5000,5000),(6000,6000)]) (fun _ _ _ _ _ d x3 x4 f h=>?_) (hle:=klR [(1,.fn 33 33 (fun i=>[(fun i=>(List.replicate 33 (pI .u64 0)).getD i default) i]) (fun i=>[pI .u64 ((fun _=>0) i)])),(2,.fn 33 33 (fun i=>[(fun i=>(List.replicate 33 (pI .u64 0)).getD i default) i]) (fun i=>[pI .u64 ((fun _=>0) i)]))] (al1 ⟨rfl,BU (z:=pI .u64 0) rfl⟩ (al1 ⟨rfl,BU (z:=pI .u64 0) rfl⟩ al0)));apply kI Z h<;>intro h
 .refine V7 Z Lf [(2,.l [0]),(3,.l [0]),(4,.a [7000]),(5,.a [7000])] ?_;obtain⟨c12,h⟩:=I4 h;refine O7 c12 ?_;refine X5 Z Lf 16 7000 [pI .i64 x4] ?_;refine kC Z h (Es Z Y) (fun y3 h=>?_);obtain⟨L3,e6,h⟩:=C6 h;refine JM Z Lf [18000] [10,9,6,5,4,3] 905 (fun z3=>⟨[(10,pN x4),(9,.reg 0 0),(6,.p (.ptr [pI .i64 x4])),(5,.reg 6000 0),(4,.reg 5000 0),(3,.reg 4000 0)],[(6000,.arr 33 (fun i=>pI .u64 (z3 i))),(5000,.arr 33 (fun i=>pI .u64 ((fun _=>0) i))),(4000,.cells [.reg 1 0]),(1,.arr 33 (fun i=>pI .u64 (b i))),(0,.arr 33 (fun i=>pI .u64 (p_x i)))]⟩) (idl:=[(0,0),(1,1),(4000,4000),(5000,5000),(6000,6000)]) h (CF Z Y e6) (fun _=>by kernel_rfl) (fun _=>by kernel_rfl) (fun _=>by kernel_rfl) (fun _=>by kernel_rfl) (fun x7 _ g z3 j h=>?_) (fun z3 h=>?_)
  .refine Lc Z Lf ?_;refine V7 Z Lf [(0,.n),(1,.l [6000]),(2,.l [6000]),(3,.l [4000]),(6,.l [1]),(7,.l [1]),(9,.l [6000]),(10,.a [6000])] ?_;obtain⟨c15,h⟩:=I4 h;refine O7 c15 ?_;exact j _ [(0,0),(1,1),(905,905),(4000,4000),(5000,5000),(6000,6000)] _ (Ht z3 (0+x4.toNat*1) (G3 .or .u64 (z3 (0+x4.toNat*1)) (b (0+x7.toNat*1)))) Lf h (hle:=klR [(0,.fn 33 33 (fun i=>[(fun i=>if i=(0+x4.toNat*1)then (pI .u64 (G3 .or .u64 (z3 (0+x4.toNat*1)) (b (0+x7.toNat*1))))else (fun i=>pI .u64 (z3 i)) i) i]) (fun i=>[pI .u64 (Ht z3 (0+x4.toNat*1) (G3 .or .u64 (z3 (0+x4.toNat*1)) (b (0+x7.toNat*1))) i)]))] (al1 ⟨rfl,Ae0 (c:=pI .u64) (v:=z3) (x:=G3 .or .u64 (z3 (0+x4.toNat*1)) (b (0+x7.toNat*1))) (fun _ _=>rfl) rfl⟩ al0))
  exact f _ [(0,0),(1,1),(4000,4000),(5000,5000),(6000,6000)] _ z3 (wrap .i64 (x4+1)) Lf h
 obtain rfl:=B6 h;exact A6 Z (And.intro rfl (E8 _ _):(0:Nat)=0/\(CB 33 (fun i=>pI .u64 (x3 i))).length=33) ⟨[(4,.reg 5000 0)],[(5000,.arr 33 (fun i=>pI .u64 (x3 i))),(1,.arr 33 (fun i=>pI .u64 (b i))),(0,.arr 33 (fun i=>pI .u64 (p_x i)))]⟩ [0,1] (ids:=[(0,0),(1,1),(5000,5000)]) ⟨rfl,rfl,rfl⟩ (hle:=klR [(0,.fn 33 33 (fun i=>[(fun i=>(cA 33 (pI .u64) x3).getD i default) i]) (fun i=>[pI .u64 (x3 i)]))] (al1 ⟨rfl,D6 33 (fun i=>pI .u64 (x3 i))⟩ al0))
def I2 (N:Nat)(p_x:Nat->Int):Option (Nat->Int):= X4 N (fun a (x3:Nat->Int) (x4:Int)=>if (decide (x4<33)) then if (((0:Int)<=x4/\x4<33)/\(0+x4.toNat*1)<33)then (AO N (p_x (0+x4.toNat*1))).bind fun y3=>(P9 N y3).bind fun L3=>O6 L3 (fun b (x7:Int) (z3:Nat->Int)=>if (((((((0:Int)<=x4/\x4<33)/\(0+x4.toNat*1)<33)/\((0:Int)<=x7/\x7<33))/\(0+x7.toNat*1)<33)/\((0:Int)<=x4/\x4<33))/\(0+x4.toNat*1)<33)then b (Ht z3 (0+x4.toNat*1) (G3 .or .u64 (z3 (0+x4.toNat*1)) (p_x (0+x7.toNat*1)))) else none) (fun (z3:Nat->Int)=>a z3 (wrap .i64 (x4+1))) x3 else none else some x3) (fun _=>0) 0
theorem Co {p_x:Nat->Int}{y:Nat->Int}(h:I2 N p_x=some y) :FunO S Ax [.reg 0 0,.reg 0 0] [.arr 33 (fun i=>pI .u64 (p_x i))] (.p (.agg (cA 33 (pI .u64) y))) ([.arr 33 (fun i=>pI .u64 (p_x i))]) [true]:=by
 unfold I2 at h;refine A3 Z func187 ?_;refine Q7 Z Lf h (fun x3 x4=>⟨[(10,pN x4),(9,.reg 0 0),(5,.reg 6000 0),(4,.reg 5000 0),(3,.reg 4000 0)],[(6000,.arr 33 (fun i=>pI .u64 (x3 i))),(5000,.arr 33 (fun i=>pI .u64 ((fun _=>0) i))),(4000,.cells [.reg 0 0]),(0,.arr 33 (fun i=>pI .u64 (p_x i)))]⟩) (ids:=[(0,0),(4000,4000),(5000,5000),(6000,6000)]) (fun _ _ _ _ _ b x3 x4 d h=>?_) (hle:=klR [(1,.fn 33 33 (fun i=>[(fun i=>(List.replicate 33 (pI .u64 0)).getD i default) i]) (fun i=>[pI .u64 ((fun _=>0) i)])),(2,.fn 33 33 (fun i=>[(fun i=>(List.replicate 33 (pI .u64 0)).getD i default) i]) (fun i=>[pI .u64 ((fun _=>0) i)]))] (al1 ⟨rfl,BU (z:=pI .u64 0) rfl⟩ (al1 ⟨rfl,BU (z:=pI .u64 0) rfl⟩ al0)));apply kI Z h<;>intro h
 .refine V7 Z Lf [(2,.l [0]),(3,.l [0]),(4,.a [7000]),(5,.a [7000])] ?_;obtain⟨c12,h⟩:=I4 h;refine O7 c12 ?_;refine X5 Z Lf 16 7000 [pI .i64 x4] ?_;refine kC Z h (Es Z Y) (fun y3 h=>?_);obtain⟨L3,e6,h⟩:=C6 h;refine JM Z Lf [18000] [10,9,6,5,4,3] 905 (fun z3=>⟨[(10,pN x4),(9,.reg 0 0),(6,.p (.ptr [pI .i64 x4])),(5,.reg 6000 0),(4,.reg 5000 0),(3,.reg 4000 0)],[(6000,.arr 33 (fun i=>pI .u64 (z3 i))),(5000,.arr 33 (fun i=>pI .u64 ((fun _=>0) i))),(4000,.cells [.reg 0 0]),(0,.arr 33 (fun i=>pI .u64 (p_x i)))]⟩) (idl:=[(0,0),(4000,4000),(5000,5000),(6000,6000)]) h (CF Z Y e6) (fun _=>by kernel_rfl) (fun _=>by kernel_rfl) (fun _=>by kernel_rfl) (fun _=>by kernel_rfl) (fun x7 _ f z3 g h=>?_) (fun z3 h=>?_)
  .refine Lc Z Lf ?_;refine V7 Z Lf [(0,.n),(1,.l [6000]),(2,.l [6000]),(3,.l [4000]),(6,.l [0]),(7,.l [0]),(9,.l [6000]),(10,.a [6000])] ?_;obtain⟨c15,h⟩:=I4 h;refine O7 c15 ?_;exact g _ [(0,0),(905,905),(4000,4000),(5000,5000),(6000,6000)] _ (Ht z3 (0+x4.toNat*1) (G3 .or .u64 (z3 (0+x4.toNat*1)) (p_x (0+x7.toNat*1)))) Lf h (hle:=klR [(0,.fn 33 33 (fun i=>[(fun i=>if i=(0+x4.toNat*1)then (pI .u64 (G3 .or .u64 (z3 (0+x4.toNat*1)) (p_x (0+x7.toNat*1))))else (fun i=>pI .u64 (z3 i)) i) i]) (fun i=>[pI .u64 (Ht z3 (0+x4.toNat*1) (G3 .or .u64 (z3 (0+x4.toNat*1)) (p_x (0+x7.toNat*1))) i)]))] (al1 ⟨rfl,Ae0 (c:=pI .u64) (v:=z3) (x:=G3 .or .u64 (z3 (0+x4.toNat*1)) (p_x (0+x7.toNat*1))) (fun _ _=>rfl) rfl⟩ al0))
  exact d _ [(0,0),(4000,4000),(5000,5000),(6000,6000)] _ z3 (wrap .i64 (x4+1)) Lf h
 obtain rfl:=B6 h;exact A6 Z (And.intro rfl (E8 _ _):(0:Nat)=0/\(CB 33 (fun i=>pI .u64 (x3 i))).length=33) ⟨[(4,.reg 5000 0)],[(5000,.arr 33 (fun i=>pI .u64 (x3 i))),(0,.arr 33 (fun i=>pI .u64 (p_x i)))]⟩ [0] (ids:=[(0,0),(5000,5000)]) ⟨rfl,rfl,rfl⟩ (hle:=klR [(0,.fn 33 33 (fun i=>[(fun i=>(cA 33 (pI .u64) x3).getD i default) i]) (fun i=>[pI .u64 (x3 i)]))] (al1 ⟨rfl,D6 33 (fun i=>pI .u64 (x3 i))⟩ al0))
def E7 (N:Nat)(p_x:Nat->Int)(b:Int)(c:Int):Option (Nat->Int):= (P1 N c).bind fun y1=>Ar1 N (fun a (x1:Int) (x2:Nat->Int) (x3:Nat->Int)=>if (decide (0<x1)) then if ((G3 .and .i64 x1 1)==1) then (D0 N x3 x2).bind fun y8=>(I2 N x2).bind fun y9=>a (shI .shr .i64 x1 1) y9 y8 else (I2 N x2).bind fun d=>a (shI .shr .i64 x1 1) d x3 else some x3) b p_x y1
theorem X9 {p_x:Nat->Int}{b:Int}{c:Int}{y:Nat->Int}(h:E7 N p_x b c=some y) :FunO S Cn [.p (.agg (cA 33 (pI .u64) p_x)),pN b,pN c] [] (.p (.agg (cA 33 (pI .u64) y))) ([]) []:=by
 unfold E7 at h;refine A3 Z func180 ?_;refine kC Z h (Dt Z Y) (fun y1 h=>?_);refine ZA Z (And.intro rfl (E8 _ _):(0:Nat)=0/\(CB 33 (fun i=>pI .u64 (y1 i))).length=33) h (fun x1 x2 x3=>⟨[(7,.reg 8000 0),(6,.reg 7000 0),(3,.reg 4000 0),(1,pN x1)],[(8000,.arr 33 (fun i=>pI .u64 (x3 i))),(7000,.arr 33 (fun i=>pI .u64 ((fun _=>0) i))),(4000,.arr 33 (fun i=>pI .u64 (x2 i)))]⟩) (ids:=[(4000,4000),(7000,7000),(8000,8000)]) (fun _ _ _ _ _ f x1 x2 x3 d h=>?_) (hle:=klR [(1,.fn 33 33 (fun i=>[(fun i=>(cA 33 (pI .u64) y1).getD i default) i]) (fun i=>[pI .u64 (y1 i)])),(2,.fn 33 33 (fun i=>[(fun i=>(List.replicate 33 (pI .u64 0)).getD i default) i]) (fun i=>[pI .u64 ((fun _=>0) i)])),(3,.fn 33 33 (fun i=>[(fun i=>(cA 33 (pI .u64) p_x).getD i default) i]) (fun i=>[pI .u64 (p_x i)]))] (al1 ⟨rfl,D6 33 (fun i=>pI .u64 (y1 i))⟩ (al1 ⟨rfl,BU (z:=pI .u64 0) rfl⟩ (al1 ⟨rfl,D6 33 (fun i=>pI .u64 (p_x i))⟩ al0))));apply kI Z h<;>intro h
 .apply kI Z h<;>intro h
  .obtain⟨y8,e8,h⟩:=C6 h;refine D5 Z [8000,4000] Lf (Q8 Z Y e8) ?_;obtain⟨y9,e9,h⟩:=C6 h;refine D5 Z [4000] (And.intro rfl (E8 _ _):(0:Nat)=0/\(CB 33 (fun i=>pI .u64 (y8 i))).length=33) (Co Z Y e9) ?_;exact d _ [(4000,4000),(7000,7000),(8000,8000)] _ (shI .shr .i64 x1 1) y9 y8 (And.intro (And.intro rfl (E8 _ _):(0:Nat)=0/\(CB 33 (fun i=>pI .u64 (y9 i))).length=33) (by decide:(0:Int)<=1)) h (hle:=klR [(1,.fn 33 33 (fun i=>[(fun i=>(cA 33 (pI .u64) y8).getD i default) i]) (fun i=>[pI .u64 (y8 i)])),(3,.fn 33 33 (fun i=>[(fun i=>(cA 33 (pI .u64) y9).getD i default) i]) (fun i=>[pI .u64 (y9 i)]))] (al1 ⟨rfl,D6 33 (fun i=>pI .u64 (y8 i))⟩ (al1 ⟨rfl,D6 33 (fun i=>pI .u64 (y9 i))⟩ al0)))
  obtain⟨a,e10,h⟩:=C6 h;refine D5 Z [4000] Lf (Co Z Y e10) ?_;exact d _ [(4000,4000),(7000,7000),(8000,8000)] _ (shI .shr .i64 x1 1) a x3 (And.intro (And.intro rfl (E8 _ _):(0:Nat)=0/\(CB 33 (fun i=>pI .u64 (a i))).length=33) (by decide:(0:Int)<=1)) h (hle:=klR [(3,.fn 33 33 (fun i=>[(fun i=>(cA 33 (pI .u64) a).getD i default) i]) (fun i=>[pI .u64 (a i)]))] (al1 ⟨rfl,D6 33 (fun i=>pI .u64 (a i))⟩ al0))
 obtain rfl:=B6 h;exact A6 Z (And.intro rfl (E8 _ _):(0:Nat)=0/\(CB 33 (fun i=>pI .u64 (x3 i))).length=33) ⟨[(6,.reg 7000 0)],[(7000,.arr 33 (fun i=>pI .u64 (x3 i)))]⟩ [] (ids:=[(7000,7000)]) ⟨rfl,rfl,rfl⟩ (hle:=klR [(0,.fn 33 33 (fun i=>[(fun i=>(cA 33 (pI .u64) x3).getD i default) i]) (fun i=>[pI .u64 (x3 i)]))] (al1 ⟨rfl,D6 33 (fun i=>pI .u64 (x3 i))⟩ al0))
end Go.AM
namespace Go.AM
open Go.Proofs.Tryz
variable {N:Nat}
open IntKind (wrap)
open Go.Proofs
set_option maxRecDepth 10000
set_option maxHeartbeats 2000000
variable {S:V9}(Z:G4 S Tryz.prog) (Y:NZ S)
include Z Y
def Y0 (N:Nat)(p_x:ZI)(b:Sl Qz):Option (Nat->Int):= X4 N (fun a (x1:Nat->Int) (x2:Int)=>if (decide (x2<(b.n:Int))) then if ((0:Int)<=x2/\x2<(b.n:Int))then if ((((G3 .or .u32 (G3 .andNot .u32 p_x.is.Plus (b.g x2.toNat).Plus) (G3 .andNot .u32 p_x.is.Minus (b.g x2.toNat).Minus))==0)==p_x.not) != true) then if (((0:Int)<=(wrap .i64 (x2+1))/\((0:Int)<=x2/\x2<33))/\(0+x2.toNat*1)<33)then a (Ht x1 (0+x2.toNat*1) (shI .shl .u64 1 (wrap .i64 (x2+1)))) (wrap .i64 (x2+1)) else none else a x1 (wrap .i64 (x2+1)) else none else some x1) (fun _=>0) 0
theorem MR {p_x:ZI}{a:Sl Qz}{y:Nat->Int}(h:Y0 N p_x a=some y) :FunO S Dq [.p (.agg (Ww p_x)),.p (vSl 2 A0 a)] [] (.p (.agg (cA 33 (pI .u64) y))) ([]) []:=by
 unfold Y0 at h;refine A3 Z func181 ?_;refine Q7 Z Lf h (fun x1 x2=>⟨[(9,pN x2),(8,pN (a.n:Int)),(7,.p (vSl 2 A0 a)),(4,.reg 5000 0),(2,.reg 3000 0)],[(5000,.arr 33 (fun i=>pI .u64 (x1 i))),(3000,.cells ((Ww p_x).map .p))]⟩) (ids:=[(3000,3000),(5000,5000)]) (fun _ _ _ _ _ f x1 x2 d h=>?_) (hle:=klR [(3,.fn 33 33 (fun i=>[(fun i=>(List.replicate 33 (pI .u64 0)).getD i default) i]) (fun i=>[pI .u64 ((fun _=>0) i)]))] (al1 ⟨rfl,BU (z:=pI .u64 0) rfl⟩ al0));apply kI Z h<;>intro h
 .obtain⟨c8,h⟩:=I4 h;refine D9 Z (And.intro c8 Lh) (b:=(((G3 .or .u32 (G3 .andNot .u32 p_x.is.Plus (a.g x2.toNat).Plus) (G3 .andNot .u32 p_x.is.Minus (a.g x2.toNat).Minus))==0)==p_x.not) != true) (fun c9=>?_) (fun c9=>?_)
  .replace h:=itT c9 h;obtain⟨c10,h⟩:=I4 h;exact d _ [(3000,3000),(5000,5000)] _ (Ht x1 (0+x2.toNat*1) (shI .shl .u64 1 (wrap .i64 (x2+1)))) (wrap .i64 (x2+1)) c10 h (hle:=klR [(3,.fn 33 33 (fun i=>[(fun i=>if i=(0+x2.toNat*1)then (pI .u64 (shI .shl .u64 1 (wrap .i64 (x2+1))))else (fun i=>pI .u64 (x1 i)) i) i]) (fun i=>[pI .u64 (Ht x1 (0+x2.toNat*1) (shI .shl .u64 1 (wrap .i64 (x2+1))) i)]))] (al1 ⟨rfl,Ae0 (c:=pI .u64) (v:=x1) (x:=shI .shl .u64 1 (wrap .i64 (x2+1))) (fun _ _=>rfl) rfl⟩ al0))
  replace h:=itF c9 h;exact d _ [(3000,3000),(5000,5000)] _ x1 (wrap .i64 (x2+1)) Lf h
 obtain rfl:=B6 h;exact A6 Z (And.intro rfl (E8 _ _):(0:Nat)=0/\(CB 33 (fun i=>pI .u64 (x1 i))).length=33) ⟨[(4,.reg 5000 0)],[(5000,.arr 33 (fun i=>pI .u64 (x1 i)))]⟩ [] (ids:=[(5000,5000)]) ⟨rfl,rfl,rfl⟩ (hle:=klR [(0,.fn 33 33 (fun i=>[(fun i=>(cA 33 (pI .u64) x1).getD i default) i]) (fun i=>[pI .u64 (x1 i)]))] (al1 ⟨rfl,D6 33 (fun i=>pI .u64 (x1 i))⟩ al0))
def AP (N:Nat)(p_x:AA0)(a:Sl Qz):Option (Nat->Int):= if p_x.end_ then if (((0:Int)<=(a.n:Int)/\((0:Int)<=(a.n:Int)/\(a.n:Int)<33))/\(0+(a.n:Int).toNat*1)<33)then some (Ht (fun _=>0) (0+(a.n:Int).toNat*1) (shI .shl .u64 1 (a.n:Int))) else none else if (((0:Int)<=0/\(0:Int)<33)/\(0+0*1)<33)then some (Ht (fun _=>0) (0+0*1) (shI .shl .u64 1 0)) else none
theorem Od {p_x:AA0}{a:Sl Qz}{y:Nat->Int}(h:AP N p_x a=some y) :FunO S Ep [.p (.agg (AA1 p_x)),.p (vSl 2 A0 a)] [] (.p (.agg (cA 33 (pI .u64) y))) ([]) []:=by
 unfold AP at h;refine A3 Z func182 ?_;apply kI Z h<;>intro h
 .obtain⟨c2,h⟩:=I4 h;obtain rfl:=B6 h;exact A6 Z (And.intro (And.intro (And.intro c2.1.1 c2.1.2) c2.2) (And.intro rfl (E8 _ _):(0:Nat)=0/\(CB 33 (fun i=>if i=(0+(a.n:Int).toNat*1)then (pI .u64 (shI .shl .u64 1 (a.n:Int)))else (fun i=>(List.replicate 33 (pI .u64 0)).getD i default) i)).length=33)) ⟨[(4,.reg 5000 0)],[(5000,.arr 33 (fun i=>pI .u64 (Ht (fun _=>0) (0+(a.n:Int).toNat*1) (shI .shl .u64 1 (a.n:Int)) i)))]⟩ [] (ids:=[(5000,5000)]) ⟨rfl,rfl,rfl⟩ (hle:=klR [(0,.fn 33 33 (fun i=>[(fun i=>(CB 33 (fun i=>if i=(0+(a.n:Int).toNat*1)then (pI .u64 (shI .shl .u64 1 (a.n:Int)))else (fun i=>(List.replicate 33 (pI .u64 0)).getD i default) i)).getD i default) i]) (fun i=>[pI .u64 (Ht (fun _=>0) (0+(a.n:Int).toNat*1) (shI .shl .u64 1 (a.n:Int)) i)]))] (al1 ⟨rfl,fun i b=>(D6 33 (fun i=>if i=(0+(a.n:Int).toNat*1)then (pI .u64 (shI .shl .u64 1 (a.n:Int)))else (fun i=>(List.replicate 33 (pI .u64 0)).getD i default) i) i b).trans (Ae0 (c:=pI .u64) (v:=fun _=>0) (x:=shI .shl .u64 1 (a.n:Int)) (BU (z:=pI .u64 0) rfl) rfl i b)⟩ al0))
 obtain⟨c3,h⟩:=I4 h;obtain rfl:=B6 h;exact A6 Z (And.intro (And.intro (And.intro (by decide:(0:Int)<=0) c3.1) c3.2) (And.intro rfl (E8 _ _):(0:Nat)=0/\(CB 33 (fun i=>if i=(0+0*1)then (pI .u64 (shI .shl .u64 1 0))else (fun i=>(List.replicate 33 (pI .u64 0)).getD i default) i)).length=33)) ⟨[(4,.reg 5000 0)],[(5000,.arr 33 (fun i=>pI .u64 (Ht (fun _=>0) (0+0*1) (shI .shl .u64 1 0) i)))]⟩ [] (ids:=[(5000,5000)]) ⟨rfl,rfl,rfl⟩ (hle:=klR [(0,.fn 33 33 (fun i=>[(fun i=>(CB 33 (fun i=>if i=(0+0*1)then (pI .u64 (shI .shl .u64 1 0))else (fun i=>(List.replicate 33 (pI .u64 0)).getD i default) i)).getD i default) i]) (fun i=>[pI .u64 (Ht (fun _=>0) (0+0*1) (shI .shl .u64 1 0) i)]))] (al1 ⟨rfl,fun i b=>(D6 33 (fun i=>if i=(0+0*1)then (pI .u64 (shI .shl .u64 1 0))else (fun i=>(List.replicate 33 (pI .u64 0)).getD i default) i) i b).trans (Ae0 (c:=pI .u64) (v:=fun _=>0) (x:=shI .shl .u64 1 0) (BU (z:=pI .u64 0) rfl) rfl i b)⟩ al0))
def Bz (rec:Part->(Sl Qz)->Option (Nat->Int))(N:Nat)(p_x:Pseq)(b:Sl Qz):Option (Nat->Int):= (P1 N (b.n:Int)).bind fun y1=>X4 N (fun a (x1:Nat->Int) (x2:Int)=>if (decide (x2<(p_x.l.n:Int))) then if ((0:Int)<=x2/\x2<(p_x.l.n:Int))then (rec (p_x.l.g x2.toNat) b).bind fun y6=>(D0 N x1 y6).bind fun y7=>a y7 (wrap .i64 (x2+1)) else none else some x1) y1 0
theorem QV {rec:Part->(Sl Qz)->Option ((Nat->Int))}(b:∀{x:Part}{b0:(Sl Qz)}{y:(Nat->Int)},rec x b0=some y->AI8 S Tryz.prog (Gl x) "ablaut/pats.in" [(.p (vSl 2 A0 b0))] (.p (.agg (cA 33 (pI .u64) y)))){p_x:Pseq}{a:(Sl Qz)}{y:(Nat->Int)}(h:Bz rec N p_x a=some y) :FunO S Fs [(.p (.agg (AK3 p_x))),(.p (vSl 2 A0 a))] [] (.p (.agg (cA 33 (pI .u64) y))) ([]) []:=by
 unfold Bz at h;refine A3 Z func188 ?_;refine kC Z h (Dt Z Y) (fun y1 h=>?_);refine Q7 Z (And.intro rfl (E8 _ _):(0:Nat)=0/\(CB 33 (fun i=>pI .u64 (y1 i))).length=33) h (fun x1 x2=>⟨[(15,(pN x2)),(14,(pN (p_x.l.n:Int))),(13,(.p (vSl 1 EH p_x.l))),(5,(.reg 6000 0)),(4,(.reg 5000 0)),(1,(.p (vSl 2 A0 a)))],[(6000,(.arr 33 (fun i=>pI .u64 (x1 i)))),(5000,(.arr 33 (fun i=>pI .u64 ((fun _=>0) i))))]⟩) (ids:=[(5000,5000),(6000,6000)]) (fun _ _ _ _ _ c x1 x2 d h=>?_) (hle:=(klR [(4,.fn 33 33 (fun i=>[(fun i=>(cA 33 (pI .u64) y1).getD i default) i]) (fun i=>[pI .u64 (y1 i)])),(5,.fn 33 33 (fun i=>[(fun i=>(List.replicate 33 (pI .u64 0)).getD i default) i]) (fun i=>[pI .u64 ((fun _=>0) i)]))] (al1 ⟨rfl,(D6 33 (fun i=>pI .u64 (y1 i)))⟩ (al1 ⟨rfl,(BU (z:=pI .u64 0) rfl)⟩ al0))));apply kI Z h<;>intro h
 .obtain⟨c6,h⟩:=I4 h;obtain⟨y6,e6,h⟩:=C6 h;refine LC Z c6 (b e6) ?_;refine Hs Z (And.intro rfl (E8 _ _):(0:Nat)=0/\(CB 33 (fun i=>pI .u64 (y6 i))).length=33) ⟨[(15,(pN x2)),(14,(pN (p_x.l.n:Int))),(13,(.p (vSl 1 EH p_x.l))),(8,(.reg 9000 0)),(5,(.reg 6000 0)),(4,(.reg 5000 0)),(1,(.p (vSl 2 A0 a)))],[(9000,(.arr 33 (fun i=>pI .u64 (y6 i)))),(6000,(.arr 33 (fun i=>pI .u64 (x1 i)))),(5000,(.arr 33 (fun i=>pI .u64 ((fun _=>0) i))))]⟩ (ids:=[(5000,5000),(6000,6000),(9000,9000)]) ?_ (hle:=(klR [(4,.fn 33 33 (fun i=>[(fun i=>(cA 33 (pI .u64) y6).getD i default) i]) (fun i=>[pI .u64 (y6 i)]))] (al1 ⟨rfl,(D6 33 (fun i=>pI .u64 (y6 i)))⟩ al0)));obtain⟨y7,e7,h⟩:=C6 h;refine D5 Z [6000,9000] Lf (Q8 Z Y e7) ?_;exact d _ [(5000,5000),(6000,6000)] _ y7 (wrap .i64 (x2+1)) (And.intro rfl (E8 _ _):(0:Nat)=0/\(CB 33 (fun i=>pI .u64 (y7 i))).length=33) h (hle:=klR [(4,.fn 33 33 (fun i=>[(fun i=>(cA 33 (pI .u64) y7).getD i default) i]) (fun i=>[pI .u64 (y7 i)]))] (al1 ⟨rfl,(D6 33 (fun i=>pI .u64 (y7 i)))⟩ al0))
 obtain rfl:=B6 h;exact A6 Z (And.intro rfl (E8 _ _):(0:Nat)=0/\(CB 33 (fun i=>pI .u64 (x1 i))).length=33) ⟨[(4,(.reg 5000 0))],[(5000,(.arr 33 (fun i=>pI .u64 (x1 i))))]⟩ [] (ids:=[(5000,5000)]) ⟨rfl,rfl,rfl⟩ (hle:=(klR [(0,.fn 33 33 (fun i=>[(fun i=>(cA 33 (pI .u64) x1).getD i default) i]) (fun i=>[pI .u64 (x1 i)]))] (al1 ⟨rfl,(D6 33 (fun i=>pI .u64 (x1 i)))⟩ al0)))
def BA (rec:Part->(Sl Qz)->Option (Nat->Int))(N:Nat)(p_x:Palt)(b:Sl Qz):Option (Nat->Int):= X4 N (fun a (x1:Nat->Int) (x2:Int)=>if (decide (x2<(p_x.l.n:Int))) then if ((0:Int)<=x2/\x2<(p_x.l.n:Int))then (rec (p_x.l.g x2.toNat) b).bind fun y5=>(M9 N x1 y5).bind fun y6=>a y6 (wrap .i64 (x2+1)) else none else some x1) (fun _=>0) 0
theorem QW {rec:Part->(Sl Qz)->Option ((Nat->Int))}(b:∀{x:Part}{b0:(Sl Qz)}{y:(Nat->Int)},rec x b0=some y->AI8 S Tryz.prog (Gl x) "ablaut/pats.in" [(.p (vSl 2 A0 b0))] (.p (.agg (cA 33 (pI .u64) y)))){p_x:Palt}{a:(Sl Qz)}{y:(Nat->Int)}(h:BA rec N p_x a=some y) :FunO S Fq [(.p (.agg (AK0 p_x))),(.p (vSl 2 A0 a))] [] (.p (.agg (cA 33 (pI .u64) y))) ([]) []:=by
 unfold BA at h;refine A3 Z func183 ?_;refine Q7 Z Lf h (fun x1 x2=>⟨[(11,(pN x2)),(10,(pN (p_x.l.n:Int))),(9,(.p (vSl 1 EH p_x.l))),(4,(.reg 5000 0)),(1,(.p (vSl 2 A0 a)))],[(5000,(.arr 33 (fun i=>pI .u64 (x1 i))))]⟩) (ids:=[(5000,5000)]) (fun _ _ _ _ _ c x1 x2 d h=>?_) (hle:=(klR [(4,.fn 33 33 (fun i=>[(fun i=>(List.replicate 33 (pI .u64 0)).getD i default) i]) (fun i=>[pI .u64 ((fun _=>0) i)]))] (al1 ⟨rfl,(BU (z:=pI .u64 0) rfl)⟩ al0)));apply kI Z h<;>intro h
 .obtain⟨c6,h⟩:=I4 h;obtain⟨y5,e5,h⟩:=C6 h;refine LC Z c6 (b e5) ?_;refine Hs Z (And.intro rfl (E8 _ _):(0:Nat)=0/\(CB 33 (fun i=>pI .u64 (y5 i))).length=33) ⟨[(11,(pN x2)),(10,(pN (p_x.l.n:Int))),(9,(.p (vSl 1 EH p_x.l))),(7,(.reg 8000 0)),(4,(.reg 5000 0)),(1,(.p (vSl 2 A0 a)))],[(8000,(.arr 33 (fun i=>pI .u64 (y5 i)))),(5000,(.arr 33 (fun i=>pI .u64 (x1 i))))]⟩ (ids:=[(5000,5000),(8000,8000)]) ?_ (hle:=(klR [(4,.fn 33 33 (fun i=>[(fun i=>(cA 33 (pI .u64) y5).getD i default) i]) (fun i=>[pI .u64 (y5 i)]))] (al1 ⟨rfl,(D6 33 (fun i=>pI .u64 (y5 i)))⟩ al0)));obtain⟨y6,e6,h⟩:=C6 h;refine D5 Z [5000,8000] Lf (Ee Z Y e6) ?_;exact d _ [(5000,5000)] _ y6 (wrap .i64 (x2+1)) Lf h
 obtain rfl:=B6 h;exact A6 Z (And.intro rfl (E8 _ _):(0:Nat)=0/\(CB 33 (fun i=>pI .u64 (x1 i))).length=33) ⟨[(4,(.reg 5000 0))],[(5000,(.arr 33 (fun i=>pI .u64 (x1 i))))]⟩ [] (ids:=[(5000,5000)]) ⟨rfl,rfl,rfl⟩ (hle:=(klR [(0,.fn 33 33 (fun i=>[(fun i=>(cA 33 (pI .u64) x1).getD i default) i]) (fun i=>[pI .u64 (x1 i)]))] (al1 ⟨rfl,(D6 33 (fun i=>pI .u64 (x1 i)))⟩ al0)))
def BB (rec:Part->(Sl Qz)->Option (Nat->Int))(N:Nat)(p_x:AK1)(a:Sl Qz):Option (Nat->Int):= (rec p_x.of a).bind fun y1=>(E7 N y1 p_x.min (a.n:Int)).bind fun y2=>(P1 N (a.n:Int)).bind fun y3=>(M9 N y1 y3).bind fun y4=>if (decide (p_x.max<0)) then (E7 N y4 (a.n:Int) (a.n:Int)).bind fun y5=>(D0 N y2 y5).bind fun y6=>some y6 else (E7 N y4 (wrap .i64 (p_x.max-p_x.min)) (a.n:Int)).bind fun y7=>(D0 N y2 y7).bind fun y8=>some y8
theorem QX {rec:Part->(Sl Qz)->Option ((Nat->Int))}(b:∀{x:Part}{b0:(Sl Qz)}{y:(Nat->Int)},rec x b0=some y->AI8 S Tryz.prog (Gl x) "ablaut/pats.in" [(.p (vSl 2 A0 b0))] (.p (.agg (cA 33 (pI .u64) y)))){p_x:AK1}{a:(Sl Qz)}{y:(Nat->Int)}(h:BB rec N p_x a=some y) :FunO S Fr [(.p (.agg (AK2 p_x))),(.p (vSl 2 A0 a))] [] (.p (.agg (cA 33 (pI .u64) y))) ([]) []:=by
 unfold BB at h;refine A3 Z func185 ?_;obtain⟨y1,e1,h⟩:=C6 h;refine LC Z Lf (b e1) ?_;refine Hs Z (And.intro rfl (E8 _ _):(0:Nat)=0/\(CB 33 (fun i=>pI .u64 (y1 i))).length=33) ⟨[(18,(pN (a.n:Int))),(16,(pN p_x.min)),(14,(.p (.agg (cA 33 (pI .u64) y1)))),(5,(.reg 6000 0)),(4,(.reg 5000 0)),(2,(.reg 3000 0)),(1,(.p (vSl 2 A0 a)))],[(6000,(.arr 33 (fun i=>pI .u64 (y1 i)))),(5000,(.arr 33 (fun i=>pI .u64 ((fun _=>0) i)))),(3000,(.cells [(.p (Gl p_x.of)),(pN p_x.min),(pN p_x.max)]))]⟩ (ids:=[(3000,3000),(5000,5000),(6000,6000)]) ?_ (hle:=(klR [(2,.eq (.agg (CB 33 (fun i=>(cA 33 (pI .u64) y1).getD i default))) (.agg (cA 33 (pI .u64) y1))),(4,.fn 33 33 (fun i=>[(fun i=>(cA 33 (pI .u64) y1).getD i default) i]) (fun i=>[pI .u64 (y1 i)])),(5,.fn 33 33 (fun i=>[(fun i=>(List.replicate 33 (pI .u64 0)).getD i default) i]) (fun i=>[pI .u64 ((fun _=>0) i)]))] (al1 (congrArg PV.agg (XE (D6 33 (fun i=>pI .u64 (y1 i))))) (al1 ⟨rfl,(D6 33 (fun i=>pI .u64 (y1 i)))⟩ (al1 ⟨rfl,(BU (z:=pI .u64 0) rfl)⟩ al0)))));refine kC Z h (X9 Z Y) (fun y2 h=>?_);obtain⟨y3,e3,h⟩:=C6 h;refine D5 Z [] (And.intro (And.intro rfl (E8 _ _):(0:Nat)=0/\(CB 33 (fun i=>pI .u64 (y2 i))).length=33) (And.intro rfl (E8 _ _):(0:Nat)=0/\(CB 33 (fun i=>pI .u64 (y1 i))).length=33)) (Dt Z Y e3) ?_;refine Hs Z (And.intro rfl (E8 _ _):(0:Nat)=0/\(CB 33 (fun i=>pI .u64 (y3 i))).length=33) ⟨[(8,(.reg 9000 0)),(7,(.reg 8000 0)),(6,(.reg 7000 0)),(4,(.reg 5000 0)),(2,(.reg 3000 0)),(1,(.p (vSl 2 A0 a)))],[(9000,(.arr 33 (fun i=>pI .u64 (y3 i)))),(8000,(.arr 33 (fun i=>pI .u64 (y1 i)))),(7000,(.arr 33 (fun i=>pI .u64 (y2 i)))),(5000,(.arr 33 (fun i=>pI .u64 ((fun _=>0) i)))),(3000,(.cells [(.p (Gl p_x.of)),(pN p_x.min),(pN p_x.max)]))]⟩ (ids:=[(3000,3000),(5000,5000),(7000,7000),(8000,8000),(9000,9000)]) ?_ (hle:=(klR [(1,.fn 33 33 (fun i=>[(fun i=>(cA 33 (pI .u64) y3).getD i default) i]) (fun i=>[pI .u64 (y3 i)])),(2,.fn 33 33 (fun i=>[(fun i=>(cA 33 (pI .u64) y1).getD i default) i]) (fun i=>[pI .u64 (y1 i)])),(3,.fn 33 33 (fun i=>[(fun i=>(cA 33 (pI .u64) y2).getD i default) i]) (fun i=>[pI .u64 (y2 i)]))] (al1 ⟨rfl,(D6 33 (fun i=>pI .u64 (y3 i)))⟩ (al1 ⟨rfl,(D6 33 (fun i=>pI .u64 (y1 i)))⟩ (al1 ⟨rfl,(D6 33 (fun i=>pI .u64 (y2 i)))⟩ al0)))));obtain⟨y4,e4,h⟩:=C6 h;refine D5 Z [8000,9000] Lf (Ee Z Y e4) ?_;apply kI Z h<;>intro h
 .refine kC Z h (X9 Z Y) (fun y5 h=>?_);refine Hs Z (And.intro rfl (E8 _ _):(0:Nat)=0/\(CB 33 (fun i=>pI .u64 (y5 i))).length=33) ⟨[(7,(.reg 8000 0)),(6,(.reg 7000 0)),(4,(.reg 5000 0))],[(8000,(.arr 33 (fun i=>pI .u64 (y5 i)))),(7000,(.arr 33 (fun i=>pI .u64 (y2 i)))),(5000,(.arr 33 (fun i=>pI .u64 ((fun _=>0) i))))]⟩ (ids:=[(5000,5000),(7000,7000),(8000,8000)]) ?_ (hle:=(klR [(0,.fn 33 33 (fun i=>[(fun i=>(cA 33 (pI .u64) y5).getD i default) i]) (fun i=>[pI .u64 (y5 i)]))] (al1 ⟨rfl,(D6 33 (fun i=>pI .u64 (y5 i)))⟩ al0)));obtain⟨y6,e6,h⟩:=C6 h;refine D5 Z [7000,8000] Lf (Q8 Z Y e6) ?_;obtain rfl:=B6 h;exact A6 Z (And.intro rfl (E8 _ _):(0:Nat)=0/\(CB 33 (fun i=>pI .u64 (y6 i))).length=33) ⟨[(4,(.reg 5000 0))],[(5000,(.arr 33 (fun i=>pI .u64 (y6 i))))]⟩ [] (ids:=[(5000,5000)]) ⟨rfl,rfl,rfl⟩ (hle:=(klR [(0,.fn 33 33 (fun i=>[(fun i=>(cA 33 (pI .u64) y6).getD i default) i]) (fun i=>[pI .u64 (y6 i)]))] (al1 ⟨rfl,(D6 33 (fun i=>pI .u64 (y6 i)))⟩ al0)))
 refine kC Z h (X9 Z Y) (fun y7 h=>?_);refine Hs Z (And.intro rfl (E8 _ _):(0:Nat)=0/\(CB 33 (fun i=>pI .u64 (y7 i))).length=33) ⟨[(7,(.reg 8000 0)),(6,(.reg 7000 0)),(4,(.reg 5000 0))],[(8000,(.arr 33 (fun i=>pI .u64 (y7 i)))),(7000,(.arr 33 (fun i=>pI .u64 (y2 i)))),(5000,(.arr 33 (fun i=>pI .u64 ((fun _=>0) i))))]⟩ (ids:=[(5000,5000),(7000,7000),(8000,8000)]) ?_ (hle:=(klR [(0,.fn 33 33 (fun i=>[(fun i=>(cA 33 (pI .u64) y7).getD i default) i]) (fun i=>[pI .u64 (y7 i)]))] (al1 ⟨rfl,(D6 33 (fun i=>pI .u64 (y7 i)))⟩ al0)));obtain⟨y8,e8,h⟩:=C6 h;refine D5 Z [7000,8000] Lf (Q8 Z Y e8) ?_;obtain rfl:=B6 h;exact A6 Z (And.intro rfl (E8 _ _):(0:Nat)=0/\(CB 33 (fun i=>pI .u64 (y8 i))).length=33) ⟨[(4,(.reg 5000 0))],[(5000,(.arr 33 (fun i=>pI .u64 (y8 i))))]⟩ [] (ids:=[(5000,5000)]) ⟨rfl,rfl,rfl⟩ (hle:=(klR [(0,.fn 33 33 (fun i=>[(fun i=>(cA 33 (pI .u64) y8).getD i default) i]) (fun i=>[pI .u64 (y8 i)]))] (al1 ⟨rfl,(D6 33 (fun i=>pI .u64 (y8 i)))⟩ al0)))
def T8 (rec:Pat->Option Part)(N:Nat)(a:Pat):Option Part:= X4 N (fun b (x1:Sl Part) (x2:Int)=>if (decide (x2<(a.L.n:Int))) then if ((0:Int)<=x2/\x2<(a.L.n:Int))then (rec (a.L.g x2.toNat)).bind fun y3=>if ((x1.n+(Sl.of [y3]:Sl Part).n)*16<=140737488355328/\x1.n+(Sl.of [y3]:Sl Part).n<=140737488355328)then b (x1.push y3) (wrap .i64 (x2+1)) else none else none else if (a.Kind==1) then some (Part.sound a.Is a.Not) else if (a.Kind==2) then some (Part.edge false) else if (a.Kind==6) then some (Part.edge true) else if (a.Kind==4) then some (Part.alt x1.n x1.g) else if (a.Kind==5) then if (((0:Int)<=0/\0<(x1.n:Int))/\0<x1.n)then some (Part.rep (x1.g 0) a.Min a.Max) else none else some (Part.seq x1.n x1.g)) (Sl.nil:Sl Part) 0
def AQ:Nat->Pat->Option Part
 |0=>fun _=>none
 |N+1=>T8 (AQ N) N
theorem MS {rec:Pat->Option Part}(b:∀{a:Pat}{y:Part},rec a=some y->FunO S Ci [.p (.agg (D3 a))] [] (.p (Gl y)) ([]) []){a:Pat}{y:Part}(h:T8 rec N a=some y) :FunO S Ci [.p (.agg (D3 a))] [] (.p (Gl y)) ([]) []:=by
 unfold T8 at h;refine A3 Z func156 ?_;refine X5 Z Lf 2 2000 (D3 a) ?_;refine Bb Z Lf 8 ⟨[(7,.p (vSl 7 D3 a.L)),(3,.p AG),(1,.p (.ptr (D3 a)))],[]⟩ (ids:=[]) ?_ (hle:=klR [(0,.fn a.L.n a.L.n (Fm a) (fun i=>D3 (a.L.g i)))] (al1 ⟨rfl,CU a⟩ al0));refine Q7 Z Lf h (fun x1 x2=>⟨[(9,pN x2),(8,pN (a.L.n:Int)),(7,.p (vSl 7 D3 a.L)),(3,.vec 4500),(1,.p (.ptr (D3 a)))],[(4500,.vec UN 1 x1.n (fun i=>EH (x1.g i)) false)]⟩) (ids:=[]) (fun _ _ _ _ _ d x1 x2 f h=>?_);apply kI Z h<;>intro h
 .obtain⟨c6,h⟩:=I4 h;refine X5 Z (And.intro c6 Mq) 13 6000 (D3 (a.L.g x2.toNat)) ?_;obtain⟨y3,e3,h⟩:=C6 h;refine D5 Z [] Mq (b e3) ?_;obtain⟨c7,h⟩:=I4 h;exact f _ [(4500,18000)] _ (x1.push y3) (wrap .i64 (x2+1)) (And.intro Mu c7) h (hle:=klR [(4,.fn (x1.n+1) (x1.push y3).n (CA x1.n (fun i=>EH (x1.g i)) (L7 [.v .nilIface] [(0,EH y3)])) (fun i=>EH ((x1.push y3).g i)))] (al1 ⟨rfl,Uu (c:=EH) (v:=x1) (x:=y3) (z:=[(.v .nilIface)]) same rfl rfl⟩ al0))
 apply kI Z h<;>intro h
 .obtain rfl:=B6 h;exact ZB Z (by decide:(2:Nat)<=6) [] ⟨rfl,rfl,rfl⟩
 apply kI Z h<;>intro h
 .cases h;exact kR Z
 apply kI Z h<;>intro h
 .cases h;exact kR Z
 apply kI Z h<;>intro h
 .refine Bb Z Lf 40 ⟨[(39,.p (vSl 1 EH x1))],[]⟩ (ids:=[]) ?_;cases h;exact kR Z
 apply kI Z h<;>intro h
 .refine K5 Z Lf [4,6] ?_;obtain⟨c13,h⟩:=I4 h;refine O7 c13 ?_;cases h;exact kR Z
 refine Bb Z Lf 54 ⟨[(53,.p (vSl 1 EH x1))],[]⟩ (ids:=[]) ?_;cases h;exact kR Z
theorem Oe {a:Pat}{y:Part}(h:AQ N a=some y) :FunO S Ci [.p (.agg (D3 a))] [] (.p (Gl y)) ([]) []:=by
 induction N generalizing a y with
 |zero=>cases (show (none:Option Part)=some y from h)
 |succ N ih=>exact MS Z Y (fun e=>ih e) h
end Go.AM
namespace Go.AM
open Go.Proofs
variable {S:V9}(Z:G4 S Tryz.prog) (Y:NZ S)
include Z Y
def AR:Nat->Part->Sl Qz->Option (Nat->Int)
 |0=>fun _ _=>none
 |N+1=>fun p w=>match p with
  |.nil=>none
  |.sound x no=>Y0 N ⟨x,no⟩ w
  |.edge e=>AP N ⟨e⟩ w
  |.seq n g=>Bz (AR N) N ⟨⟨n,g⟩⟩ w
  |.alt n g=>BA (AR N) N ⟨⟨n,g⟩⟩ w
  |.rep o mn mx=>BB (AR N) N ⟨o,mn,mx⟩ w
theorem ZP {N:Nat}{x:Part}{w:Sl Qz}{y:Nat->Int}(h:AR N x w=some y):AI8 S Tryz.prog (Gl x) "ablaut/pats.in" [(.p (vSl 2 A0 w))] (.p (.agg (cA 33 (pI .u64) y))):=by
 induction N generalizing x w y with
 |zero=>cases h
 |succ N ih=>
  cases x with
  |nil=>cases h
  |sound s no=>exact⟨_,_,Dq,rfl,by kernel_rfl,MR Z Y (p_x:=⟨s,no⟩) h⟩
  |edge e=>exact⟨_,_,Ep,rfl,by kernel_rfl,Od Z Y (N:=N) (p_x:=⟨e⟩) h⟩
  |seq n g=>exact⟨_,_,Fs,rfl,by kernel_rfl,QV Z Y (fun e=>ih e) (p_x:=⟨⟨n,g⟩⟩) h⟩
  |alt n g=>exact⟨_,_,Fq,rfl,by kernel_rfl,QW Z Y (fun e=>ih e) (p_x:=⟨⟨n,g⟩⟩) h⟩
  |rep o mn mx=>exact⟨_,_,Fr,rfl,by kernel_rfl,QX Z Y (fun e=>ih e) (p_x:=⟨o,mn,mx⟩) h⟩
end Go.AM
namespace Go.AM
open Go.Proofs.Tryz
variable {N:Nat}
open IntKind (wrap)
open Go.Proofs
set_option maxRecDepth 10000
set_option maxHeartbeats 2000000
variable {S:V9}(Z:G4 S Tryz.prog) (Y:NZ S)
include Z Y
def R8 (N:Nat)(a:Qz):Option Bool:= (O5 N a).bind fun y1=>some (!y1)
theorem MT {a:Qz}{y:Bool}(h:R8 N a=some y) :FunO S Gv [.p (.agg (A0 a))] [] (pB y) ([]) []:=by unfold R8 at h;refine A3 Z func155 ?_;refine kC Z h (Ed Z Y) (fun y1 h=>?_);cases h;exact kR Z
def C9 (N:Nat)(a:Sl Qz)(c:Qz->Option Bool):Option Int:= S9 N (fun b (x1:Int)=>if (decide (x1<(a.n:Int))) then if ((0:Int)<=x1/\x1<(a.n:Int))then (c (a.g x1.toNat)).bind fun y3=>if y3 then some x1 else b (wrap .i64 (x1+1)) else none else some (-1)) 0
theorem V5 {a:Sl Qz}{c:Qz->Option Bool}{kp_f:Nat}(d:∀{a0:Qz}{b:Bool},c a0=some b->FunO S kp_f [.p (.agg (A0 a0))] [] (pB b) [] []){y:Int}(h:C9 N a c=some y) :FunO S J1 [.p (vSl 2 A0 a),.clo kp_f [] []] [] (pN y) ([]) []:=by
 unfold C9 at h;refine A3 Z func71 ?_;refine AH Z Lf h (fun x1=>⟨[(8,pN x1),(7,pN (a.n:Int)),(1,.clo kp_f [] []),(0,.p (vSl 2 A0 a))],[]⟩) (ids:=[]) (fun _ _ _ _ _ f x1 g h=>?_);apply kI Z h<;>intro h
 .obtain⟨c8,h⟩:=I4 h;obtain⟨y3,e3,h⟩:=C6 h;refine D5 Z [] (And.intro c8 Lh) (d e3) ?_;apply kI Z h<;>intro h
  .cases h;exact kR Z
  exact g _ [] _ (wrap .i64 (x1+1)) Lf h
 cases h;exact kR Z
def A8 (N:Nat)(a:Sl Qz)(b:Qz->Option Bool):Option Bool:= (C9 N a b).bind fun y1=>some (decide (0<=y1))
theorem E6 {a:Sl Qz}{c:Qz->Option Bool}{kp_f:Nat}(d:∀{a0:Qz}{b:Bool},c a0=some b->FunO S kp_f [.p (.agg (A0 a0))] [] (pB b) [] []){y:Bool}(h:A8 N a c=some y) :FunO S I5 [.p (vSl 2 A0 a),.clo kp_f [] []] [] (pB y) ([]) []:=by unfold A8 at h;refine A3 Z func49 ?_;refine kC Z h (V5 Z Y (fun e=>d e)) (fun y1 h=>?_);cases h;exact kR Z
def C4 (N:Nat)(q0:Sl Pat):Option (List (Int×Pat)):= S9 N (fun a (x1:Int)=>if (decide (0<=x1)) then if ((0:Int)<=x1/\x1<(q0.n:Int))then Aq (x1,q0.g x1.toNat) (a (wrap .i64 (x1-1))) else none else some []) (wrap .i64 ((q0.n:Int)-1))
theorem Ae {q0:Sl Pat}{L:List (Int×Pat)}(h:C4 N q0=some L) :CT S D8 [] [.reg 0 0] [.cells [.p (vSl 7 D3 q0)]] (L.map (fun (x:Int×Pat)=>[pI .i64 x.1,(fun x=>.agg (D3 x)) x.2])):=by
 unfold C4 at h;refine DS Z func133 ?_;refine Gi Z Lf h (fun x1 L1=>⟨[(3,pN x1),(1,.reg 0 0),(0,.yf 1)],[(1,.yld (L1.map (fun (x:Int×Pat)=>[pI .i64 x.1,(fun x=>.agg (D3 x)) x.2])) true),(0,.cells [.p (vSl 7 D3 q0)])]⟩) (ids:=[(0,0),(1,1)]) (fun _ _ _ _ _ d x1 L1 f h=>?_);apply kI Z h<;>intro h
 .obtain⟨c10,h⟩:=I4 h;obtain⟨L4,rfl,c⟩:=Lb h;replace h:=c;refine Dl Z (And.intro c10 Mq) (ys:=(fun (x:Int×Pat)=>[pI .i64 x.1,(fun x=>.agg (D3 x)) x.2]) (x1,q0.g x1.toNat)) (rest:=L4.map (fun (x:Int×Pat)=>[pI .i64 x.1,(fun x=>.agg (D3 x)) x.2])) ?_ ?_
  .refine D9 Z Lf (b:=false) (fun c11=>?_) (fun c11=>?_)
   .exact Bool.noConfusion ((rfl:false=false).symm.trans c11)
   exact f _ [(0,0),(1,1)] _ (wrap .i64 (x1-1)) L4 Lf h
  refine D9 Z Lf (b:=true) (fun c12=>?_) (fun c12=>?_)
  .exact A6 Z Lf (a:=.tup []) (objs:=[(.cells [.p (vSl 7 D3 q0)]),.yld [] false]) ⟨[],[(1,.yld [] false),(0,.cells [.p (vSl 7 D3 q0)])]⟩ [0,1] (ids:=[(0,0),(1,1)]) ⟨false,rfl,rfl,_,rfl⟩
  exact Bool.noConfusion (Mu.symm.trans c12)
 obtain rfl:=B6 h;exact A6 Z Lf (a:=.tup []) (objs:=[(.cells [.p (vSl 7 D3 q0)]),.yld [] true]) ⟨[],[(1,.yld [] true),(0,.cells [.p (vSl 7 D3 q0)])]⟩ [0,1] (ids:=[(0,0),(1,1)]) ⟨true,rfl,rfl,_,rfl⟩
def H9 (N:Nat)(a:Sl Pat):Option (Sl Pat):= some a
theorem AS {a:Sl Pat}{y:Sl Pat}(h:H9 N a=some y) :FunO S O2 [.p (vSl 7 D3 a)] [] (.clo D8 [] [.reg 0 0]) ([.cells [.p (vSl 7 D3 y)]]) []:=by unfold H9 at h;refine A3 Z func102 ?_;obtain rfl:=B6 h;exact A6 Z Lf ⟨[(2,.clo D8 [] [.reg 2000 0])],[(2000,.cells [.p (vSl 7 D3 a)])]⟩ [2000] (ids:=[(2000,2000)]) ⟨rfl,rfl,rfl⟩
def Y1 (N:Nat)(c:Pat):Option Int:= X4 N (fun a (x3:Sl Pat) (x4:Int)=>if (decide (0<(x3.n:Int))) then if (x4==40) then some 12 else if (((0:Int)<=(wrap .i64 ((x3.n:Int)-1))/\(wrap .i64 ((x3.n:Int)-1))<(x3.n:Int))/\(wrap .i64 ((x3.n:Int)-1)).toNat<x3.n)then if ((0:Int)<=(wrap .i64 ((x3.n:Int)-1))/\(wrap .i64 ((x3.n:Int)-1))<=(x3.n:Int))then (AN N (x3.g (wrap .i64 ((x3.n:Int)-1)).toNat)).bind fun y5=>if (y5 != 0) then some y5 else if ((0:Int)<=(if 41<((x3.g (wrap .i64 ((x3.n:Int)-1)).toNat).L.n:Int)then 41 else ((x3.g (wrap .i64 ((x3.n:Int)-1)).toNat).L.n:Int))/\(if 41<((x3.g (wrap .i64 ((x3.n:Int)-1)).toNat).L.n:Int)then 41 else ((x3.g (wrap .i64 ((x3.n:Int)-1)).toNat).L.n:Int))<=((x3.g (wrap .i64 ((x3.n:Int)-1)).toNat).L.n:Int))then (H9 N ((x3.g (wrap .i64 ((x3.n:Int)-1)).toNat).L.take (if 41<((x3.g (wrap .i64 ((x3.n:Int)-1)).toNat).L.n:Int)then 41 else ((x3.g (wrap .i64 ((x3.n:Int)-1)).toNat).L.n:Int)).toNat)).bind fun y6=>(C4 N y6).bind fun L3=>O6 L3 (fun b (x7:Int×Pat) (z3:Sl Pat)=>if ((((z3.n+(Sl.of [Pat.nil]:Sl Pat).n)*64<=140737488355328/\z3.n+(Sl.of [Pat.nil]:Sl Pat).n<=140737488355328)/\((0:Int)<=(z3.n:Int)/\(z3.n:Int)<((z3.push Pat.nil).n:Int)))/\(z3.n:Int).toNat<(z3.push Pat.nil).n)then b ((z3.push Pat.nil).upd (z3.n:Int).toNat x7.2) else none) (fun (z3:Sl Pat)=>a z3 (wrap .i64 (x4+1))) (x3.take (wrap .i64 ((x3.n:Int)-1)).toNat) else none else none else none else some 0) (Sl.of [c]:Sl Pat) 0
theorem Gz {b:Pat}{y:Int}(h:Y1 N b=some y) :FunO S KP [.p (.agg (D3 b))] [] (pN y) ([]) []:=by
 unfold Y1 at h;refine A3 Z func82 ?_;refine X5 Z Lf 2 2000 (D3 b) ?_;refine Q7 Z (And.intro Mq Mu) h (fun x3 x4=>⟨[(4,pN x4),(3,.reg 4000 0)],[(4501,.vec EN 7 x3.n (fun i=>D3 (x3.g i)) false),(4000,.cells [.vec 4501])]⟩) (ids:=[(4000,4000),(4501,12000)]) (fun _ _ _ _ _ d x3 x4 j h=>?_) (hle:=klR [(1,.fn 1 (Sl.of [b]:Sl Pat).n (L7 [pI .i64 0,pI .u32 0,pI .u32 0,.v (.bool false),pI .i64 0,pI .i64 0,AG] [(0,D3 b)]) (fun i=>D3 ((Sl.of [b]:Sl Pat).g i)))] (al1 ⟨rfl,(fun i m=>match i,m with|0,_=>rfl|_+1,m=>Ia m (by omega))⟩ al0));apply kI Z h<;>intro h
 .apply kI Z h<;>intro h
  .cases h;exact kR Z
  obtain⟨c21,h⟩:=I4 h;refine X5 Z (And.intro (And.intro c21.1 Mq) c21.2) 25 6000 (D3 (x3.g (wrap .i64 ((x3.n:Int)-1)).toNat)) ?_;obtain⟨c22,h⟩:=I4 h;refine AI9 Z c22 30 4501 (wrap .i64 ((x3.n:Int)-1)).toNat 4508 (e:=EN) (k:=7) (N:=x3.n) (f:=fun i=>D3 (x3.g i)) (by have r:=c22;omega) ?_;obtain⟨y5,e7,h⟩:=C6 h;refine D5 Z [] Mq (Oc Z Y e7) ?_;apply kI Z h<;>intro h
  .cases h;exact kR Z
  refine Bb Z Lf 39 ⟨[(38,.p (vSl 7 D3 (x3.g (wrap .i64 ((x3.n:Int)-1)).toNat).L)),(36,.p (vSl 7 D3 (x3.g (wrap .i64 ((x3.n:Int)-1)).toNat).L)),(4,pN x4),(3,.reg 4000 0)],[(4508,.vec EN 7 (x3.take (wrap .i64 ((x3.n:Int)-1)).toNat).n (fun i=>D3 ((x3.take (wrap .i64 ((x3.n:Int)-1)).toNat).g i)) false),(4000,.cells [.vec 4508])]⟩ (ids:=[(4000,4000),(4508,4508)]) ?_ (hle:=klR [(0,.fn (x3.g (wrap .i64 ((x3.n:Int)-1)).toNat).L.n (x3.g (wrap .i64 ((x3.n:Int)-1)).toNat).L.n (Fm (x3.g (wrap .i64 ((x3.n:Int)-1)).toNat)) (fun i=>D3 ((x3.g (wrap .i64 ((x3.n:Int)-1)).toNat).L.g i))),(1,.fn (x3.g (wrap .i64 ((x3.n:Int)-1)).toNat).L.n (x3.g (wrap .i64 ((x3.n:Int)-1)).toNat).L.n (Fm (x3.g (wrap .i64 ((x3.n:Int)-1)).toNat)) (fun i=>D3 ((x3.g (wrap .i64 ((x3.n:Int)-1)).toNat).L.g i)))] (al1 ⟨rfl,CU (x3.g (wrap .i64 ((x3.n:Int)-1)).toNat)⟩ (al1 ⟨rfl,CU (x3.g (wrap .i64 ((x3.n:Int)-1)).toNat)⟩ al0)));obtain⟨c24,h⟩:=I4 h;obtain⟨y6,e8,h⟩:=C6 h;refine D5 Z [] c24 (AS Z Y e8) ?_;obtain⟨L3,e9,h⟩:=C6 h;refine JM Z Lf [44000] [4,3] 905 (fun z3=>⟨[(4,pN x4),(3,.reg 4000 0)],[(4500,.vec EN 7 z3.n (fun i=>D3 (z3.g i)) false),(4000,.cells [.vec 4500])]⟩) (idl:=[(4000,4000),(4500,4508)]) h (Ae Z Y e9) (fun _=>by kernel_rfl) (fun _=>by kernel_rfl) (fun _=>by kernel_rfl) (fun _=>by kernel_rfl) (fun x7 _ o z3 q h=>?_) (fun z3 h=>?_)
  .refine Lc Z Lf ?_;refine Az1 Z Lf 10000 (D3 x7.2) ?_;refine V7 Z Lf [(0,.l [4000]),(1,.n),(2,.l [4500]),(4,.a [51000,4500]),(5,.l [51000]),(6,.a [51000]),(7,.a [4000])] ?_;refine HY Mq (x:=.sl true 7 1 (L7 [pI .i64 0,pI .u32 0,pI .u32 0,.v (.bool false),pI .i64 0,pI .i64 0,AG] [(0,[pI .i64 0,pI .u32 0,pI .u32 0,.v (.bool false),pI .i64 0,pI .i64 0,AG])])) ?_;obtain⟨c27,h⟩:=I4 h;refine O7 (And.intro (And.intro c27.1.1 c27.1.2) (And.intro (rfl:(7:Nat)=7) (And.intro c27.2 Mq))) ?_;exact q _ [(905,905),(4000,4000),(4500,51000)] _ ((z3.push Pat.nil).upd (z3.n:Int).toNat x7.2) Lf h (hle:=klR [(0,.fn (z3.n+1) ((z3.push Pat.nil).upd (z3.n:Int).toNat x7.2).n (fun l=>if l=(z3.n:Int).toNat then splice (CA z3.n (fun i=>D3 (z3.g i)) (L7 [pI .i64 0,pI .u32 0,pI .u32 0,.v (.bool false),pI .i64 0,pI .i64 0,AG] [(0,[pI .i64 0,pI .u32 0,pI .u32 0,.v (.bool false),pI .i64 0,pI .i64 0,AG])]) l) 0 [pI .i64 x7.2.Kind,pI .u32 x7.2.Is.Plus,pI .u32 x7.2.Is.Minus,.bb x7.2.Not,pI .i64 x7.2.Min,pI .i64 x7.2.Max,.sl false 7 x7.2.L.n (Fm x7.2)]else (CA z3.n (fun i=>D3 (z3.g i)) (L7 [pI .i64 0,pI .u32 0,pI .u32 0,.v (.bool false),pI .i64 0,pI .i64 0,AG] [(0,[pI .i64 0,pI .u32 0,pI .u32 0,.v (.bool false),pI .i64 0,pI .i64 0,AG])])) l) (fun i=>D3 (((z3.push Pat.nil).upd (z3.n:Int).toNat x7.2).g i)))] (al1 ⟨rfl,setH (c:=D3) (v:=z3.push Pat.nil) (x:=x7.2) (app1H (c:=D3) (v:=z3) (z:=Pat.nil) same rfl) (fun _=>by simp[CA,L7,splice])⟩ al0))
  exact j _ [(4000,4000),(4501,4500)] _ z3 (wrap .i64 (x4+1)) Lf h
 cases h;exact kR Z
def Af (N:Nat)(b:Pat)(a:Sl Qz):Option ((Nat->Int)×Int):= (Y1 N b).bind fun y1=>if (y1 != 0) then some (fun _=>0,y1) else if (decide (32<(a.n:Int))) then some (fun _=>0,11) else (A8 N a (fun (u1:Qz)=>R8 N u1)).bind fun y2=>if y2 then some (fun _=>0,14) else (AQ N b).bind fun y3=>(AR N y3 a).bind fun y4=>some (y4,0)
theorem Jg {a:Pat}{b:Sl Qz}{y:(Nat->Int)×Int}(h:Af N a b=some y) :FunO S Ja [.p (.agg (D3 a)),.p (vSl 2 A0 b)] [] (.tup [.p (.agg (cA 33 (pI .u64) y.1)),pN y.2]) ([]) []:=by
 unfold Af at h;refine A3 Z func148 ?_;refine kC Z h (Gz Z Y) (fun y1 h=>?_);apply kI Z h<;>intro h
 .obtain rfl:=B6 h;exact A6 Z (And.intro rfl (E8 _ _):(0:Nat)=0/\(CB 33 (fun i=>pI .u64 ((fun _=>0) i))).length=33) ⟨[(5,pN y1),(4,.reg 5000 0)],[(5000,.arr 33 (fun i=>pI .u64 ((fun _=>0) i)))]⟩ [] (ids:=[(5000,5000)]) ⟨rfl,rfl,rfl⟩ (hle:=klR [(1,.fn 33 33 (fun i=>[(fun i=>(cA 33 (pI .u64) (fun _=>0)).getD i default) i]) (fun i=>[pI .u64 ((fun _=>0) i)]))] (al1 ⟨rfl,D6 33 (fun i=>pI .u64 ((fun _=>0) i))⟩ al0))
 apply kI Z h<;>intro h
 .obtain rfl:=B6 h;exact A6 Z (And.intro rfl (E8 _ _):(0:Nat)=0/\(CB 33 (fun i=>pI .u64 ((fun _=>0) i))).length=33) ⟨[(5,pN 11),(4,.reg 5000 0)],[(5000,.arr 33 (fun i=>pI .u64 ((fun _=>0) i)))]⟩ [] (ids:=[(5000,5000)]) ⟨rfl,rfl,rfl⟩ (hle:=klR [(1,.fn 33 33 (fun i=>[(fun i=>(cA 33 (pI .u64) (fun _=>0)).getD i default) i]) (fun i=>[pI .u64 ((fun _=>0) i)]))] (al1 ⟨rfl,D6 33 (fun i=>pI .u64 ((fun _=>0) i))⟩ al0))
 refine kC Z h (E6 Z Y (fun e=>MT Z Y e)) (fun y2 h=>?_);apply kI Z h<;>intro h
 .obtain rfl:=B6 h;exact A6 Z (And.intro rfl (E8 _ _):(0:Nat)=0/\(CB 33 (fun i=>pI .u64 ((fun _=>0) i))).length=33) ⟨[(5,pN 14),(4,.reg 5000 0)],[(5000,.arr 33 (fun i=>pI .u64 ((fun _=>0) i)))]⟩ [] (ids:=[(5000,5000)]) ⟨rfl,rfl,rfl⟩ (hle:=klR [(1,.fn 33 33 (fun i=>[(fun i=>(cA 33 (pI .u64) (fun _=>0)).getD i default) i]) (fun i=>[pI .u64 ((fun _=>0) i)]))] (al1 ⟨rfl,D6 33 (fun i=>pI .u64 ((fun _=>0) i))⟩ al0))
 refine kC Z h (Oe Z Y) (fun y3 h=>?_);obtain⟨y4,e4,h⟩:=C6 h;refine LC Z Lf (ZP Z Y e4) ?_;obtain rfl:=B6 h;exact A6 Z (And.intro rfl (E8 _ _):(0:Nat)=0/\(CB 33 (fun i=>pI .u64 (y4 i))).length=33) ⟨[(5,pN 0),(4,.reg 5000 0)],[(5000,.arr 33 (fun i=>pI .u64 (y4 i)))]⟩ [] (ids:=[(5000,5000)]) ⟨rfl,rfl,rfl⟩ (hle:=klR [(1,.fn 33 33 (fun i=>[(fun i=>(cA 33 (pI .u64) y4).getD i default) i]) (fun i=>[pI .u64 (y4 i)]))] (al1 ⟨rfl,D6 33 (fun i=>pI .u64 (y4 i))⟩ al0))
def BC (N:Nat)(d:Pat)(c:Sl Qz)(a:Int):Option ((Sl Int)×Int):= (Af N d c).bind fun y1=>lt (fun (z1:Int)=>if (z1 != 0) then some (Mv,z1) else X4 N (fun b (x2:Sl Int) (x3:Int)=>if (decide (x3<(wrap .i64 ((c.n:Int)+1)))) then if ((((0:Int)<=x3/\x3<33)/\(0+x3.toNat*1)<33)/\(0:Int)<=a)then if ((G3 .and .u64 (shI .shr .u64 (y1.1 (0+x3.toNat*1)) a) 1)==1) then if ((x2.n+(Sl.of [x3]:Sl Int).n)*8<=140737488355328/\x2.n+(Sl.of [x3]:Sl Int).n<=140737488355328)then b (x2.push x3) (wrap .i64 (x3+1)) else none else b x2 (wrap .i64 (x3+1)) else none else some (x2,0)) Mv 0) fun k1=>if (y1.2==0) then (Ad N c a).bind fun y3=>k1 y3 else k1 y1.2
theorem QY {f:Pat}{d:Sl Qz}{a:Int}{y:(Sl Int)×Int}(h:BC N f d a=some y) :FunO S IZ [.p (.agg (D3 f)),.p (vSl 2 A0 d),pN a] [] (.tup [.vec 0,pN y.2]) ([.vec H7 1 y.1.n (fun i=>cI .i64 (y.1.g i)) true]) []:=by
 unfold BC at h;refine A3 Z func135 ?_;refine kC Z h (Jg Z Y) (fun y1 h=>?_);refine NJ Z (And.intro rfl (E8 _ _):(0:Nat)=0/\(CB 33 (fun i=>pI .u64 (y1.1 i))).length=33) (B1 Z) h 0 (fun z1=>⟨[(9,pN z1),(8,.reg 9000 0),(2,pN a),(1,.p (vSl 2 A0 d))],[(9000,.arr 33 (fun i=>pI .u64 (y1.1 i)))]⟩) (fun M1 k1 j h=>?_) (fun z1 h=>?_)
 .apply kI Z h<;>intro h
  .refine kC Z h (Jf Z Y) (fun y3 h=>?_);exact j _ [(9000,9000)] _ y3 Lf h (hle:=klR [(3,.fn 33 33 (fun i=>[(fun i=>(cA 33 (pI .u64) y1.1).getD i default) i]) (fun i=>[pI .u64 (y1.1 i)]))] (al1 ⟨rfl,D6 33 (fun i=>pI .u64 (y1.1 i))⟩ al0))
  exact j _ [(9000,9000)] _ y1.2 Lf h (hle:=klR [(3,.fn 33 33 (fun i=>[(fun i=>(cA 33 (pI .u64) y1.1).getD i default) i]) (fun i=>[pI .u64 (y1.1 i)]))] (al1 ⟨rfl,D6 33 (fun i=>pI .u64 (y1.1 i))⟩ al0))
 apply kI Z h<;>intro h
 .obtain rfl:=B6 h;exact A6 Z Lf ⟨[(7,pN z1),(6,.vec 7700)],[(7700,.vec H7 1 Mv.n (fun i=>cI .i64 (Mv.g i)) true)]⟩ [7700] (ids:=[]) ⟨rfl,rfl,rfl⟩
 refine Q7 Z Lf h (fun x2 x3=>⟨[(29,pN x3),(28,pN (wrap .i64 ((d.n:Int)+1))),(10,.vec 11500),(8,.reg 9000 0),(2,pN a)],[(11500,.vec H7 1 x2.n (fun i=>cI .i64 (x2.g i)) false),(9000,.arr 33 (fun i=>pI .u64 (y1.1 i)))]⟩) (ids:=[(9000,9000)]) (fun _ _ _ _ _ m x2 x3 l h=>?_);apply kI Z h<;>intro h
 .obtain⟨c12,h⟩:=I4 h;refine D9 Z c12 (b:=(G3 .and .u64 (shI .shr .u64 (y1.1 (0+x3.toNat*1)) a) 1)==1) (fun c13=>?_) (fun c13=>?_)
  .replace h:=itT c13 h;obtain⟨c14,h⟩:=I4 h;exact l _ [(9000,9000),(11500,43000)] _ (x2.push x3) (wrap .i64 (x3+1)) (And.intro Mu c14) h (hle:=klR [(3,.fn (x2.n+1) (x2.push x3).n (CA x2.n (fun i=>cI .i64 (x2.g i)) (L7 [pI .i64 0] [(0,cI .i64 x3)])) (fun i=>cI .i64 ((x2.push x3).g i)))] (al1 ⟨rfl,Uu (c:=cI .i64) (v:=x2) (x:=x3) (z:=[(pI .i64 0)]) same rfl rfl⟩ al0))
  replace h:=itF c13 h;exact l _ [(9000,9000),(11500,11500)] _ x2 (wrap .i64 (x3+1)) Lf h
 obtain rfl:=B6 h;exact A6 Z Lf ⟨[(7,pN 0),(6,.vec 11500)],[(11500,.vec H7 1 x2.n (fun i=>cI .i64 (x2.g i)) true)]⟩ [11500] (ids:=[(11500,11500)]) ⟨rfl,rfl,rfl⟩
def H3 (N:Nat)(a:List (Int)):Option (Sl Int):= O6 a (fun b (x1:Int) (z1:Sl Int)=>if ((z1.n+(Sl.of [x1]:Sl Int).n)*8<=140737488355328/\z1.n+(Sl.of [x1]:Sl Int).n<=140737488355328)then b (z1.push x1) else none) (fun (z1:Sl Int)=>some z1) Mv
theorem Cp {b:List (Int)}{a:Int}{kp_seq:Nat}(fp_seq:∃fn,AM8[kp_seq]? = some fn/\fn.body.isSome=true/\(fn.name == "runtime.NumGoroutine")=false)(d:CT S kp_seq [] [.reg 0 0] [(.cells [(.p (pI .u64 a))])] (b.map (fun (x:Int)=>[(pI .i64) x]))){y:(Sl Int)}(h:H3 N b=some y) :FunO S N2 [(.p AG),(.clo kp_seq [] [(.reg 0 0)])] [(.cells [(.p (pI .u64 a))])] (.vec 0) ([(.vec H7 1 y.n (fun i=>(cI .i64) (y.g i)) true)]) [false]:=by
 unfold H3 at h;refine A3 Z func66 ?_;refine LB Z Lf fp_seq [0] [2] 901 (fun z1=>⟨[(2,(.reg 3000 0))],[(3500,(.vec H7 1 z1.n (fun i=>(cI .i64) (z1.g i)) false)),(3000,(.cells [(.vec 3500)]))]⟩) (idl:=[(3000,3000)]) h d (fun _=>by kernel_rfl) (fun _=>by kernel_rfl) (fun _=>by kernel_rfl) (fun _=>by kernel_rfl) (fun x1 _ f z1 j h=>?_) (fun z1 h=>?_)
 .refine Lc Z Lf ?_;obtain⟨c1,h⟩:=I4 h;exact j _ [(901,901),(3000,3000),(3500,12000)] _ (z1.push x1) (And.intro Mu c1) h (hle:=klR [(0,.fn (z1.n+1) (z1.push x1).n (CA z1.n (fun i=>(cI .i64) (z1.g i)) (L7 [(pI .i64 0)] [(0,(cI .i64) x1)])) (fun i=>(cI .i64) ((z1.push x1).g i)))] (al1 ⟨rfl,(Uu (c:=(cI .i64)) (v:=z1) (x:=x1) (z:=[(pI .i64 0)]) same rfl rfl)⟩ al0))
 obtain rfl:=B6 h;exact A6 Z Lf ⟨[(4,(.vec 3500))],[(3500,(.vec H7 1 z1.n (fun i=>(cI .i64) (z1.g i)) true))]⟩ [3500] (ids:=[(3500,3500)]) ⟨rfl,rfl,rfl⟩
def L0 (N:Nat)(a:List (Int)):Option (Sl Int):= (H3 N a).bind fun y1=>some y1
theorem GA {b:List (Int)}{a:Int}{kp_seq:Nat}(fp_seq:∃fn,AM8[kp_seq]? = some fn/\fn.body.isSome=true/\(fn.name == "runtime.NumGoroutine")=false)(c:CT S kp_seq [] [.reg 0 0] [(.cells [(.p (pI .u64 a))])] (b.map (fun (x:Int)=>[(pI .i64) x]))){y:(Sl Int)}(h:L0 N b=some y) :FunO S At [(.clo kp_seq [] [(.reg 0 0)])] [(.cells [(.p (pI .u64 a))])] (.vec 0) ([(.vec H7 1 y.n (fun i=>(cI .i64) (y.g i)) true)]) [false]:=by unfold L0 at h;refine A3 Z func41 ?_;obtain⟨y1,e1,h⟩:=C6 h;refine D5 Z [0] Lf (Cp Z Y fp_seq c e1) ?_;obtain rfl:=B6 h;exact A6 Z Lf ⟨[(2,(.vec 5000))],[(5000,(.vec H7 1 y1.n (fun i=>(cI .i64) (y1.g i)) true))]⟩ [5000] (ids:=[(5000,5000)]) ⟨rfl,rfl,rfl⟩
def Du (N:Nat)(c:Pat)(b:Sl Qz)(a:Int):Option ((Sl Int)×Int):= (Af N c b).bind fun y1=>lt (fun (z1:Int)=>if (z1 != 0) then some (Mv,z1) else if (((0:Int)<=a/\a<33)/\(0+a.toNat*1)<33)then (AO N (y1.1 (0+a.toNat*1))).bind fun y4=>(P9 N y4).bind fun L1=>(L0 N L1).bind fun y5=>some (y5,0) else none) fun k1=>if (y1.2==0) then (Ad N b a).bind fun y3=>k1 y3 else k1 y1.2
theorem UV {b:Pat}{c:Sl Qz}{a:Int}{y:(Sl Int)×Int}(h:Du N b c a=some y) :FunO S MH [.p (.agg (D3 b)),.p (vSl 2 A0 c),pN a] [] (.tup [.vec 0,pN y.2]) ([.vec H7 1 y.1.n (fun i=>cI .i64 (y.1.g i)) true]) []:=by
 unfold Du at h;refine A3 Z func136 ?_;refine kC Z h (Jg Z Y) (fun y1 h=>?_);refine NJ Z (And.intro rfl (E8 _ _):(0:Nat)=0/\(CB 33 (fun i=>pI .u64 (y1.1 i))).length=33) (B1 Z) h 0 (fun z1=>⟨[(9,pN z1),(8,.reg 9000 0),(2,pN a)],[(9000,.arr 33 (fun i=>pI .u64 (y1.1 i)))]⟩) (fun M1 k1 d h=>?_) (fun z1 h=>?_)
 .apply kI Z h<;>intro h
  .refine kC Z h (Jf Z Y) (fun y3 h=>?_);exact d _ [(9000,9000)] _ y3 Lf h (hle:=klR [(2,.fn 33 33 (fun i=>[(fun i=>(cA 33 (pI .u64) y1.1).getD i default) i]) (fun i=>[pI .u64 (y1.1 i)]))] (al1 ⟨rfl,D6 33 (fun i=>pI .u64 (y1.1 i))⟩ al0))
  exact d _ [(9000,9000)] _ y1.2 Lf h (hle:=klR [(2,.fn 33 33 (fun i=>[(fun i=>(cA 33 (pI .u64) y1.1).getD i default) i]) (fun i=>[pI .u64 (y1.1 i)]))] (al1 ⟨rfl,D6 33 (fun i=>pI .u64 (y1.1 i))⟩ al0))
 apply kI Z h<;>intro h
 .obtain rfl:=B6 h;exact A6 Z Lf ⟨[(7,pN z1),(6,.vec 7700)],[(7700,.vec H7 1 Mv.n (fun i=>cI .i64 (Mv.g i)) true)]⟩ [7700] (ids:=[]) ⟨rfl,rfl,rfl⟩
 obtain⟨c5,h⟩:=I4 h;obtain⟨y4,e4,h⟩:=C6 h;refine D5 Z [] c5 (Es Z Y e4) ?_;obtain⟨L1,e5,h⟩:=C6 h;obtain⟨y5,e6,h⟩:=C6 h;refine D5 Z [28000] Lf (GA Z Y ⟨_,func157,by decide +kernel,by decide +kernel⟩ (CF Z Y e5) e6) ?_;obtain rfl:=B6 h;exact A6 Z Lf ⟨[(7,pN 0),(6,.vec 29000)],[(29000,.vec H7 1 y5.n (fun i=>cI .i64 (y5.g i)) true)]⟩ [29000] (ids:=[(29000,29000)]) ⟨rfl,rfl,rfl⟩
end Go.AM
namespace Go.AM
open Go.Proofs.Tryz
variable {N:Nat}
open IntKind (wrap)
open Go.Proofs
set_option maxRecDepth 10000
set_option maxHeartbeats 2000000
variable {S:V9}(Z:G4 S Tryz.prog) (Y:NZ S)
include Z Y
def BW (N:Nat)(a:Str):Option Bool:= lt (fun (z1:Bool)=>some z1) fun k1=>if ((a==[]) != true) then if (decide ((a.length:Int)<=24)) then (Er N a [97,98,99,100,101,102,103,104,105,106,107,108,109,110,111,112,113,114,115,116,117,118,119,120,121,122,65,66,67,68,69,70,71,72,73,74,75,76,77,78,79,80,81,82,83,84,85,86,87,88,89,90,48,49,50,51,52,53,54,55,56,57,45]).bind fun y2=>k1 ((y2==[]) != false) else k1 false else k1 false
theorem UW {b:Str}{y:Bool}(h:BW N b=some y) :FunO S ME [.p (.str b)] [] (pB y) ([]) []:=by
 unfold BW at h;refine A3 Z func81 ?_;refine NJ Z Lf (B1 Z) h 0 (fun z1=>⟨[(2,pB z1)],[]⟩) (fun M1 k1 a h=>?_) (fun z1 h=>?_)
 .refine kG Z h (fun h=>?_) (fun h=>?_)
  .refine kG Z h (fun h=>?_) (fun h=>?_)
   .refine kC Z h (Oa Z Y) (fun y2 h=>?_);exact a _ [] _ ((y2==[]) != false) Lf h
   exact a _ [] _ false Lf h
  exact a _ [] _ false Lf h
 cases h;exact kR Z
def U4 (N:Nat)(p_x:IJ)(a:Int):Option Bool:= lt (fun (z1:Bool)=>if z1 then some false else if ((((G3 .andNot .u32 (G3 .or .u32 p_x.Clear p_x.Take) 16777215) != 0)||((G3 .and .u32 p_x.Clear (G3 .or .u32 p_x.Set.Plus p_x.Set.Minus)) != 0))||((G3 .and .u32 p_x.Take (G3 .or .u32 (G3 .or .u32 p_x.Set.Plus p_x.Set.Minus) p_x.Clear)) != 0)) then some false else if (p_x.Take==0) then some (p_x.Of==0) else some ((decide (0<=p_x.Of))&&(decide (p_x.Of<a)))) fun k1=>if (decide (p_x.From<(-1))) then k1 true else if (decide (a<=p_x.From)) then k1 true else (F3 N p_x.Set).bind fun y2=>k1 (!y2)
theorem XP {p_x:IJ}{b:Int}{y:Bool}(h:U4 N p_x b=some y) :FunO S Pj [.p (.agg (AI p_x)),pN b] [] (pB y) ([]) []:=by
 unfold U4 at h;refine A3 Z func79 ?_;refine NJ Z Lf (B1 Z) h 0 (fun z1=>⟨[(13,pB z1),(5,pU (G3 .or .u32 p_x.Set.Plus p_x.Set.Minus)),(2,.reg 3000 0),(1,pN b)],[(3000,.cells ((AI p_x).map .p))]⟩) (fun M1 k1 c h=>?_) (fun z1 h=>?_)
 .refine kG Z h (fun h=>?_) (fun h=>?_)
  .exact c _ [(3000,3000)] _ true Lf h
  refine kG Z h (fun h=>?_) (fun h=>?_)
  .exact c _ [(3000,3000)] _ true Lf h
  refine kC Z h (O1 Z Y) (fun y2 h=>?_);exact c _ [(3000,3000)] _ (!y2) Lf h
 apply kI Z h<;>intro h
 .cases h;exact kR Z
 refine kB Z (B1 Z) Lf Lf 16 (.o (.o (.a ((G3 .andNot .u32 (G3 .or .u32 p_x.Clear p_x.Take) 16777215) != 0)) (.a ((G3 .and .u32 p_x.Clear (G3 .or .u32 p_x.Set.Plus p_x.Set.Minus)) != 0))) (.a ((G3 .and .u32 p_x.Take (G3 .or .u32 (G3 .or .u32 p_x.Set.Plus p_x.Set.Minus) p_x.Clear)) != 0))) ?_;apply kI Z h<;>intro h
 .cases h;exact kR Z
 apply kI Z h<;>intro h
 .cases h;exact kR Z
 refine kB Z (B1 Z) Lf Lf 5 (.n (.a (decide (0<=p_x.Of))) (.a (decide (p_x.Of<b)))) ?_;cases h;exact kR Z
def Ag (N:Nat)(p_x:IJ)(q0:Int):Option Bool:= (U4 N p_x q0).bind fun y1=>some (!y1)
theorem QZ {p_x:IJ}{q0:Int}{y:Bool}(h:Ag N p_x q0=some y) :FunO S IU [.p (.agg (AI p_x)),.reg 0 0] [.cells [pN q0]] (pB y) ([.cells [pN q0]]) [true]:=by unfold Ag at h;refine A3 Z func78 ?_;refine kC Z h (XP Z Y) (fun y1 h=>?_);obtain rfl:=B6 h;exact A6 Z Lf ⟨[(3,pB (!y1))],[(0,.cells [pN q0])]⟩ [0] (ids:=[(0,0)]) ⟨rfl,rfl,rfl⟩
def Ah (N:Nat)(a:Qz):Option Bool:= (F3 N a).bind fun y1=>some (!y1)
theorem Ra {a:Qz}{y:Bool}(h:Ah N a=some y) :FunO S IV [.p (.agg (A0 a))] [] (pB y) ([]) []:=by unfold Ah at h;refine A3 Z func80 ?_;refine kC Z h (O1 Z Y) (fun y1 h=>?_);cases h;exact kR Z
def E3 (N:Nat)(a:Sl IJ)(c:IJ->Option Bool):Option Int:= S9 N (fun b (x1:Int)=>if (decide (x1<(a.n:Int))) then if ((0:Int)<=x1/\x1<(a.n:Int))then (c (a.g x1.toNat)).bind fun y3=>if y3 then some x1 else b (wrap .i64 (x1+1)) else none else some (-1)) 0
theorem Az {c:Sl IJ}{d:IJ->Option Bool}{a:Int}{kp_f:Nat}(f:∀{a0:IJ}{b:Bool},d a0=some b->FunO S kp_f [.p (.agg (AI a0)),.reg 0 0] [.cells [pN a]] (pB b) [.cells [pN a]] [true]){y:Int}(h:E3 N c d=some y) :FunO S N7 [.p (vSl 6 AI c),.clo kp_f [] [.reg 0 0]] [.cells [pN a]] (pN y) ([.cells [pN a]]) [true]:=by
 unfold E3 at h;refine A3 Z func103 ?_;refine AH Z Lf h (fun x1=>⟨[(8,pN x1),(7,pN (c.n:Int)),(1,.clo kp_f [] [.reg 0 0]),(0,.p (vSl 6 AI c))],[(0,.cells [pN a])]⟩) (ids:=[(0,0)]) (fun _ _ _ _ _ g x1 i h=>?_);apply kI Z h<;>intro h
 .obtain⟨c8,h⟩:=I4 h;obtain⟨y3,e3,h⟩:=C6 h;refine D5 Z [0] (And.intro c8 (by decide:(6:Nat)<=6)) (f e3) ?_;apply kI Z h<;>intro h
  .obtain rfl:=B6 h;exact A6 Z Lf ⟨[(4,pN x1)],[(0,.cells [pN a])]⟩ [0] (ids:=[(0,0)]) ⟨rfl,rfl,rfl⟩
  exact i _ [(0,0)] _ (wrap .i64 (x1+1)) Lf h
 obtain rfl:=B6 h;exact A6 Z Lf ⟨[(4,pN (-1))],[(0,.cells [pN a])]⟩ [0] (ids:=[(0,0)]) ⟨rfl,rfl,rfl⟩
def B7 (N:Nat)(a:Sl IJ)(b:IJ->Option Bool):Option Bool:= (E3 N a b).bind fun y1=>some (decide (0<=y1))
theorem W4 {c:Sl IJ}{d:IJ->Option Bool}{a:Int}{kp_f:Nat}(f:∀{a0:IJ}{b:Bool},d a0=some b->FunO S kp_f [.p (.agg (AI a0)),.reg 0 0] [.cells [pN a]] (pB b) [.cells [pN a]] [true]){y:Bool}(h:B7 N c d=some y) :FunO S J9 [.p (vSl 6 AI c),.clo kp_f [] [.reg 0 0]] [.cells [pN a]] (pB y) ([.cells [pN a]]) [true]:=by unfold B7 at h;refine A3 Z func83 ?_;obtain⟨y1,e1,h⟩:=C6 h;refine D5 Z [0] Lf (Az Z Y (fun e=>f e) e1) ?_;obtain rfl:=B6 h;exact A6 Z Lf ⟨[(4,pB (decide (0<=y1)))],[(0,.cells [pN a])]⟩ [0] (ids:=[(0,0)]) ⟨rfl,rfl,rfl⟩
def Y2 (N:Nat)(a:Law):Option Int:= (BW N a.Name).bind fun y1=>if (!y1) then some 17 else (Y1 N a.Left).bind fun y2=>if (y2 != 0) then some 17 else (Y1 N a.Right).bind fun y3=>if (y3 != 0) then some 17 else if (decide (4<(a.If.n:Int))) then some 17 else if (decide (6<(a.Out.n:Int))) then some 17 else if ((wrap .i64 ((a.If.n:Int)+(a.Out.n:Int)))==0) then some 17 else if ((decide (a.Mode<1))||(decide (3<a.Mode))) then some 17 else (A8 N a.If (fun (u1:Qz)=>Ah N u1)).bind fun y4=>if y4 then some 17 else (B7 N a.Out (fun (u2:IJ)=>Ag N u2 (a.If.n:Int))).bind fun y5=>if y5 then some 17 else some 0
theorem Ib {c:Law}{y:Int}(h:Y2 N c=some y) :FunO S MA [.p (.agg (B2 c))] [] (pN y) ([]) []:=by
 unfold Y2 at h;refine A3 Z func57 ?_;refine kC Z h (UW Z Y) (fun y1 h=>?_);refine D9 Z Lf (b:=!y1) (fun c1=>?_) (fun c1=>?_)
 .replace h:=itT c1 h;refine D9 Z Lf (b:=!y1) (fun c2=>?_) (fun c2=>?_)
  .cases h;exact kR Z
  exact Bool.noConfusion (c1.symm.trans c2)
 replace h:=itF c1 h;refine kC Z h (Gz Z Y) (fun y2 h=>?_);refine D9 Z Lf (b:=y2 != 0) (fun c3=>?_) (fun c3=>?_)
 .replace h:=itT c3 h;refine D9 Z Lf (b:=y2 != 0) (fun c4=>?_) (fun c4=>?_)
  .cases h;exact kR Z
  exact Bool.noConfusion (c3.symm.trans c4)
 replace h:=itF c3 h;refine kC Z h (Gz Z Y) (fun y3 h=>?_);refine D9 Z Lf (b:=y3 != 0) (fun c5=>?_) (fun c5=>?_)
 .replace h:=itT c5 h;refine D9 Z Lf (b:=y3 != 0) (fun c6=>?_) (fun c6=>?_)
  .cases h;exact kR Z
  exact Bool.noConfusion (c5.symm.trans c6)
 replace h:=itF c5 h;refine D9 Z Lf (b:=decide (4<(c.If.n:Int))) (fun c7=>?_) (fun c7=>?_)
 .replace h:=itT c7 h;refine D9 Z Lf (b:=decide (4<(c.If.n:Int))) (fun c8=>?_) (fun c8=>?_)
  .cases h;exact kR Z
  exact Bool.noConfusion (c7.symm.trans c8)
 replace h:=itF c7 h;refine D9 Z Lf (b:=decide (6<(c.Out.n:Int))) (fun c9=>?_) (fun c9=>?_)
 .replace h:=itT c9 h;refine D9 Z Lf (b:=decide (6<(c.Out.n:Int))) (fun c10=>?_) (fun c10=>?_)
  .cases h;exact kR Z
  exact Bool.noConfusion (c9.symm.trans c10)
 replace h:=itF c9 h;refine D9 Z Lf (b:=(wrap .i64 ((c.If.n:Int)+(c.Out.n:Int)))==0) (fun c11=>?_) (fun c11=>?_)
 .replace h:=itT c11 h;refine D9 Z Lf (b:=(wrap .i64 ((c.If.n:Int)+(c.Out.n:Int)))==0) (fun c12=>?_) (fun c12=>?_)
  .cases h;exact kR Z
  exact Bool.noConfusion (c11.symm.trans c12)
 replace h:=itF c11 h;refine kB Z (B1 Z) Lf Lf 4 (.o (.a (decide (c.Mode<1))) (.a (decide (3<c.Mode)))) ?_;refine D9 Z Lf (b:=(decide (c.Mode<1))||(decide (3<c.Mode))) (fun c13=>?_) (fun c13=>?_)
 .replace h:=itT c13 h;refine D9 Z Lf (b:=(decide (c.Mode<1))||(decide (3<c.Mode))) (fun c14=>?_) (fun c14=>?_)
  .cases h;exact kR Z
  exact Bool.noConfusion (c13.symm.trans c14)
 replace h:=itF c13 h;refine kC Z h (E6 Z Y (fun e=>Ra Z Y e)) (fun y4 h=>?_);refine D9 Z Lf (b:=y4) (fun c15=>?_) (fun c15=>?_)
 .replace h:=itT c15 h;refine D9 Z Lf (b:=y4) (fun c16=>?_) (fun c16=>?_)
  .cases h;exact kR Z
  exact Bool.noConfusion (c15.symm.trans c16)
 replace h:=itF c15 h;obtain⟨y5,e5,h⟩:=C6 h;refine D5 Z [4000] Lf (W4 Z Y (fun e=>QZ Z Y e) e5) ?_;apply kI Z h<;>intro h
 .cases h;exact kR Z
 cases h;exact kR Z
def Fu (N:Nat)(a:Law)(b:Sl Qz):Option Int:= (Y2 N a).bind fun y1=>if (y1 != 0) then some y1 else (S5 N b).bind fun y2=>some y2
theorem UX {a:Law}{b:Sl Qz}{y:Int}(h:Fu N a b=some y) :FunO S MD [.p (.agg (B2 a)),.p (vSl 2 A0 b)] [] (pN y) ([]) []:=by
 unfold Fu at h;refine A3 Z func68 ?_;refine kC Z h (Ib Z Y) (fun y1 h=>?_);apply kI Z h<;>intro h
 .cases h;exact kR Z
 refine kC Z h (Eb Z Y) (fun y2 h=>?_);cases h;exact kR Z
def U5 (N:Nat)(a:Int)(q0:Law)(q1:Sl Qz):Option Bool:= (BC N q0.Left q1 a).bind fun y1=>if ((y1.1.n:Int)==0) then some false else (Du N q0.Right q1 (wrap .i64 (a+(q0.If.n:Int)))).bind fun y2=>some (decide (0<(y2.1.n:Int)))
theorem Og {a:Int}{q0:Law}{q1:Sl Qz}{y:Bool}(h:U5 N a q0 q1=some y) :FunO S U3 [pN a,.reg 0 0,.reg 1 0] [.cells ((B2 q0).map .p),.cells [.p (vSl 2 A0 q1)]] (pB y) ([.cells ((B2 q0).map .p),.cells [.p (vSl 2 A0 q1)]]) [true,true]:=by
 unfold U5 at h;refine A3 Z func134 ?_;refine kC Z h (QY Z Y) (fun y1 h=>?_);apply kI Z h<;>intro h
 .obtain rfl:=B6 h;exact A6 Z Lf ⟨[(4,pB false)],[(1,.cells [.p (vSl 2 A0 q1)]),(0,.cells ((B2 q0).map .p))]⟩ [0,1] (ids:=[(0,0),(1,1)]) ⟨rfl,rfl,rfl⟩
 refine kC Z h (UV Z Y) (fun y2 h=>?_);obtain rfl:=B6 h;exact A6 Z Lf ⟨[(4,pB (decide (0<(y2.1.n:Int))))],[(1,.cells [.p (vSl 2 A0 q1)]),(0,.cells ((B2 q0).map .p))]⟩ [0,1] (ids:=[(0,0),(1,1)]) ⟨rfl,rfl,rfl⟩
def GB (N:Nat)(a:Law)(b:Sl Qz):Option (Law×(Sl Qz)):= some (a,b)
theorem Te {a:Law}{b:Sl Qz}{y:Law×(Sl Qz)}(h:GB N a b=some y) :FunO S KQ [.p (.agg (B2 a)),.p (vSl 2 A0 b)] [] (.clo U3 [] [.reg 0 0,.reg 1 0]) ([.cells ((B2 y.1).map .p),.cells [.p (vSl 2 A0 y.2)]]) []:=by unfold GB at h;refine A3 Z func110 ?_;obtain rfl:=B6 h;exact A6 Z Lf ⟨[(4,.clo U3 [] [.reg 3000 0,.reg 4000 0])],[(4000,.cells [.p (vSl 2 A0 b)]),(3000,.cells ((B2 a).map .p))]⟩ [3000,4000] (ids:=[(3000,3000),(4000,4000)]) ⟨rfl,rfl,rfl⟩
def O0 (N:Nat)(a:Law)(b:Sl Qz):Option (Sl Qz):= X4 N (fun c (x1:Sl Qz) (x2:Int)=>if (decide (x2<(a.Out.n:Int))) then if ((0:Int)<=x2/\x2<(a.Out.n:Int))then if ((decide (0<=(a.Out.g x2.toNat).From))=true->((0:Int)<=(a.Out.g x2.toNat).From/\(a.Out.g x2.toNat).From<(b.n:Int)))then (O4 N (⟨(if (decide (0<=(a.Out.g x2.toNat).From)) then (b.g (a.Out.g x2.toNat).From.toNat).Plus else 0),(if (decide (0<=(a.Out.g x2.toNat).From)) then (b.g (a.Out.g x2.toNat).From.toNat).Minus else 0)⟩:Qz) (a.Out.g x2.toNat).Clear (a.Out.g x2.toNat).Set).bind fun y5=>if ((a.Out.g x2.toNat).Take != 0) then if ((0:Int)<=(a.Out.g x2.toNat).Of/\(a.Out.g x2.toNat).Of<(b.n:Int))then (S4 N y5.1 (b.g (a.Out.g x2.toNat).Of.toNat) (a.Out.g x2.toNat).Take).bind fun y6=>if ((x1.n+(Sl.of [y6.1]:Sl Qz).n)*8<=140737488355328/\x1.n+(Sl.of [y6.1]:Sl Qz).n<=140737488355328)then c (x1.push y6.1) (wrap .i64 (x2+1)) else none else none else if ((x1.n+(Sl.of [y5.1]:Sl Qz).n)*8<=140737488355328/\x1.n+(Sl.of [y5.1]:Sl Qz).n<=140737488355328)then c (x1.push y5.1) (wrap .i64 (x2+1)) else none else none else none else some x1) (Sl.nil:Sl Qz) 0
theorem Tf {d:Law}{a:Sl Qz}{y:Sl Qz}(h:O0 N d a=some y) :FunO S SP [.p (.agg (B2 d)),.p (vSl 2 A0 a)] [] (.p (vSl 2 A0 y)) ([]) []:=by
 unfold O0 at h;refine A3 Z func93 ?_;refine X5 Z Lf 4 3000 (B2 d) ?_;refine Q7 Z Lf h (fun x1 x2=>⟨[(12,pN x2),(11,pN (d.Out.n:Int)),(10,.p (vSl 6 AI d.Out)),(5,.vec 6500),(1,.p (vSl 2 A0 a))],[(6500,.vec A4 2 x1.n (fun i=>A0 (x1.g i)) false)]⟩) (ids:=[]) (fun _ _ _ _ _ o x1 x2 l h=>?_);apply kI Z h<;>intro h
 .obtain⟨c16,h⟩:=I4 h;refine X5 Z (And.intro c16 (by decide:(6:Nat)<=6)) 8 8000 (AI (d.Out.g x2.toNat)) ?_;obtain⟨c18,h⟩:=I4 h;obtain⟨t5,f⟩:∃x:Int,x=(if (decide (0<=(d.Out.g x2.toNat).From)) then (a.g (d.Out.g x2.toNat).From.toNat).Plus else 0):=⟨_,rfl⟩;obtain⟨t6,j⟩:∃x:Int,x=(if (decide (0<=(d.Out.g x2.toNat).From)) then (a.g (d.Out.g x2.toNat).From.toNat).Minus else 0):=⟨_,rfl⟩;refine Uz Z Lf (B1 Z) 0 ⟨[(12,pN x2),(11,pN (d.Out.n:Int)),(10,.p (vSl 6 AI d.Out)),(8,.reg 9000 0),(7,.p (.ptr (AI (d.Out.g x2.toNat)))),(5,.vec 6500),(1,.p (vSl 2 A0 a))],[(9000,.cells [pU t5,pU t6]),(6500,.vec A4 2 x1.n (fun i=>A0 (x1.g i)) false)]⟩ (fun M3 m=>?_) ?_
  .refine D9 Z Lf (b:=decide (0<=(d.Out.g x2.toNat).From)) (fun c19=>?_) (fun c19=>?_)
   .exact m _ [(6500,6500),(9000,9000)] _ (And.intro (c18 c19) Lh) (hle:=klR [(5,.eq (pI .u32 (a.g (d.Out.g x2.toNat).From.toNat).Plus) (pI .u32 t5)),(6,.eq (pI .u32 (a.g (d.Out.g x2.toNat).From.toNat).Minus) (pI .u32 t6))] (al1 (by simp only[f,j,c19,Leaf.ok,pm,J8,Jc]) (al1 (by simp only[f,j,c19,Leaf.ok,pm,J8,Jc]) al0)))
   exact m _ [(6500,6500),(9000,9000)] _ Lf (hle:=klR [(5,.eq (pI .u32 0) (pI .u32 t5)),(6,.eq (pI .u32 0) (pI .u32 t6))] (al1 (by simp only[f,j,c19,Leaf.ok,pm,J8,Jc]) (al1 (by simp only[f,j,c19,Leaf.ok,pm,J8,Jc]) al0)))
  subst j;subst f;obtain⟨y5,e5,h⟩:=C6 h;refine D5 Z [] (by decide:(2:Nat)<=4) (Ob Z Y e5) ?_;apply kI Z h<;>intro h
  .refine K5 Z Lf [3,4,5,7,8] ?_;obtain⟨c21,h⟩:=I4 h;obtain⟨y6,e6,h⟩:=C6 h;refine Bi (And.intro c21 Lh) (Tb Z Y e6) ?_;refine O7 Lf ?_;obtain⟨c22,h⟩:=I4 h;exact l _ [(6500,52000)] _ (x1.push y6.1) (wrap .i64 (x2+1)) (And.intro Mu c22) h (hle:=klR [(4,.fn (x1.n+1) (x1.push y6.1).n (CA x1.n (fun i=>A0 (x1.g i)) (L7 [pI .u32 0,pI .u32 0] [(0,A0 y6.1)])) (fun i=>A0 ((x1.push y6.1).g i)))] (al1 ⟨rfl,Uu (c:=A0) (v:=x1) (x:=y6.1) (z:=[(pI .u32 0),pI .u32 0]) same rfl rfl⟩ al0))
  obtain⟨c23,h⟩:=I4 h;exact l _ [(6500,52000)] _ (x1.push y5.1) (wrap .i64 (x2+1)) (And.intro Mu c23) h (hle:=klR [(4,.fn (x1.n+1) (x1.push y5.1).n (CA x1.n (fun i=>A0 (x1.g i)) (L7 [pI .u32 0,pI .u32 0] [(0,A0 y5.1)])) (fun i=>A0 ((x1.push y5.1).g i)))] (al1 ⟨rfl,Uu (c:=A0) (v:=x1) (x:=y5.1) (z:=[(pI .u32 0),pI .u32 0]) same rfl rfl⟩ al0))
 obtain rfl:=B6 h;exact A6 Z Lf ⟨[(4,.p (vSl 2 A0 x1))],[]⟩ [] (ids:=[]) ⟨rfl,rfl,rfl⟩
def A7 (N:Nat)(a:Sl (Sl Qz)):Option (Sl Qz):= X4 N (fun b (x1:Int) (x2:Int)=>if (decide (x2<(a.n:Int))) then if ((0:Int)<=x2/\x2<(a.n:Int))then if (decide ((wrap .i64 (x1+((a.g x2.toNat).n:Int)))<0)) then none else b (wrap .i64 (x1+((a.g x2.toNat).n:Int))) (wrap .i64 (x2+1)) else none else (H8 N x1).bind fun y1=>X4 N (fun c (x3:Sl Qz) (x4:Int)=>if (decide (x4<(a.n:Int))) then if (((0:Int)<=x4/\x4<(a.n:Int))/\((x3.n+(a.g x4.toNat).n)*8<=140737488355328/\x3.n+(a.g x4.toNat).n<=140737488355328))then c (x3.app (a.g x4.toNat)) (wrap .i64 (x4+1)) else none else some x3) y1 0) 0 0
theorem N0 {a:Sl (Sl Qz)}{y:Sl Qz}(h:A7 N a=some y) :FunO S M8 [.p (vSl 1 (cL 2 A0) a)] [] (.vec 0) ([.vec A4 2 y.n (fun i=>A0 (y.g i)) true]) []:=by
 unfold A7 at h;refine A3 Z func92 ?_;refine Q7 Z Lf h (fun x1 x2=>⟨[(11,pN x2),(10,pN (a.n:Int)),(9,.p (vSl 1 (cL 2 A0) a)),(3,pN x1),(0,.p (vSl 1 (cL 2 A0) a))],[]⟩) (ids:=[]) (fun _ _ _ _ _ d x1 x2 f h=>?_);apply kI Z h<;>intro h
 .obtain⟨c8,h⟩:=I4 h;refine D9 Z c8 (b:=decide ((wrap .i64 (x1+((a.g x2.toNat).n:Int)))<0)) (fun c9=>?_) (fun c9=>?_)
  .replace h:=itT c9 h;cases h
  replace h:=itF c9 h;exact f _ [] _ (wrap .i64 (x1+((a.g x2.toNat).n:Int))) (wrap .i64 (x2+1)) Lf h
 refine kC Z h (AL Z Y) (fun y1 h=>?_);refine Q7 Z Lf h (fun x3 x4=>⟨[(27,pN x4),(26,pN (a.n:Int)),(25,.p (vSl 1 (cL 2 A0) a)),(6,.vec 7500)],[(7500,.vec A4 2 x3.n (fun i=>A0 (x3.g i)) false)]⟩) (ids:=[(7500,25000)]) (fun _ _ _ _ _ j x3 x4 l h=>?_);apply kI Z h<;>intro h
 .obtain⟨c13,h⟩:=I4 h;exact l _ [(7500,34000)] _ (x3.app (a.g x4.toNat)) (wrap .i64 (x4+1)) c13 h (hle:=klR [(3,.fn (x3.n+(a.g x4.toNat).n) (x3.app (a.g x4.toNat)).n (CA x3.n (fun i=>A0 (x3.g i)) (fun i=>A0 ((a.g x4.toNat).g i))) (fun i=>A0 ((x3.app (a.g x4.toNat)).g i)))] (al1 ⟨rfl,appL (c:=A0) (v:=x3) (w:=a.g x4.toNat) same rfl same rfl⟩ al0))
 obtain rfl:=B6 h;exact A6 Z Lf ⟨[(2,.vec 7500)],[(7500,.vec A4 2 x3.n (fun i=>A0 (x3.g i)) true)]⟩ [7500] (ids:=[(7500,7500)]) ⟨rfl,rfl,rfl⟩
def Q3 (N:Nat)(b:Law)(c:Sl Qz)(a:Int):Option (Sl Qz):= if (((0:Int)<=a/\a<=(c.n:Int))/\((0:Int)<=a/\a<=(wrap .i64 (a+(b.If.n:Int)))/\(wrap .i64 (a+(b.If.n:Int)))<=(c.n:Int)))then (O0 N b (c.sub a.toNat (wrap .i64 (a+(b.If.n:Int))).toNat)).bind fun y1=>if ((0:Int)<=(wrap .i64 (a+(b.If.n:Int)))/\(wrap .i64 (a+(b.If.n:Int)))<=(c.n:Int))then (A7 N (Sl.of [c.take a.toNat,y1,c.drop (wrap .i64 (a+(b.If.n:Int))).toNat]:Sl (Sl Qz))).bind fun y2=>some y2 else none else none
theorem Jh {c:Law}{b:Sl Qz}{a:Int}{y:Sl Qz}(h:Q3 N c b a=some y) :FunO S IX [.p (.agg (B2 c)),.p (vSl 2 A0 b),pN a] [] (.vec 0) ([.vec A4 2 y.n (fun i=>A0 (y.g i)) true]) []:=by unfold Q3 at h;refine A3 Z func95 ?_;refine X5 Z Lf 6 4000 (B2 c) ?_;refine K5 Z Lf [3,8] ?_;obtain⟨c1,h⟩:=I4 h;obtain⟨y1,e1,h⟩:=C6 h;refine Bi (And.intro (And.intro c1.1 Mr) c1.2) (Tf Z Y e1) ?_;obtain⟨c2,h⟩:=I4 h;refine HY c2 (x:=.sl true 1 3 (L7 [AG] [(0,cL 2 A0 (b.take a.toNat)),(1,cL 2 A0 y1),(2,cL 2 A0 (b.drop (wrap .i64 (a+(c.If.n:Int))).toNat))])) ?_;obtain⟨y2,e2,h⟩:=C6 h;refine Ar7 [] Lf (FunO.le Z (args:=[.p (.sl true 1 3 (L7 [AG] [(0,cL 2 A0 (b.take a.toNat)),(1,cL 2 A0 y1),(2,cL 2 A0 (b.drop (wrap .i64 (a+(c.If.n:Int))).toNat))]))]) (by exact⟨YI rfl (fun i d=>match i,d with|0,_=>rfl|1,_=>rfl|2,_=>rfl|_+3,d=>Ia d (by omega)),trivial⟩) (N0 Z Y e2)) ?_;refine O7 Lf ?_;obtain rfl:=B6 h;exact A6 Z Lf ⟨[(6,.vec 27000)],[(27000,.vec A4 2 y2.n (fun i=>A0 (y2.g i)) true)]⟩ [27000] (ids:=[(27000,27000)]) ⟨rfl,rfl,rfl⟩
def Y3 (N:Nat)(q0:Law)(q1:Sl Qz)(q2:Int):Option (List (Int)):= (GB N q0 q1).bind fun y1=>S9 N (fun a (x2:Int)=>if (decide ((wrap .i64 (x2+(q0.If.n:Int)))<=(q1.n:Int))) then S9 N (fun b (x4:Int)=>if (decide (x4<(q0.If.n:Int))) then if ((0:Int)<=x4/\x4<(q0.If.n:Int))then if ((0:Int)<=(wrap .i64 (x2+x4))/\(wrap .i64 (x2+x4))<(q1.n:Int))then (J4 N (q1.g (wrap .i64 (x2+x4)).toNat) (q0.If.g x4.toNat)).bind fun c=>if (!c) then a (wrap .i64 (x2+1)) else b (wrap .i64 (x4+1)) else none else none else (U5 N x2 y1.1 y1.2).bind fun d=>if d then Aq x2 (a (wrap .i64 (x2+1))) else a (wrap .i64 (x2+1))) 0 else some []) q2
theorem KT {q0:Law}{q1:Sl Qz}{q2:Int}{L:List (Int)}(h:Y3 N q0 q1 q2=some L) :CT S DY [] [.reg 0 0,.reg 1 0,.reg 2 0] [.cells ((B2 q0).map .p),.cells [.p (vSl 2 A0 q1)],.cells [pN q2]] (L.map (fun (x:Int)=>[pI .i64 x])):=by
 unfold Y3 at h;refine DS Z func109 ?_;refine kC Z h (Te Z Y) (fun y1 h=>?_);refine Gi Z Lf h (fun x2 L1=>⟨[(6,pN x2),(5,.clo U3 [] [.reg 12000 0,.reg 12001 0]),(2,.reg 1 0),(1,.reg 0 0),(0,.yf 3)],[(12001,.cells [.p (vSl 2 A0 y1.2)]),(12000,.cells ((B2 y1.1).map .p)),(3,.yld (L1.map (fun (x:Int)=>[pI .i64 x])) true),(2,.cells [pN q2]),(1,.cells [.p (vSl 2 A0 q1)]),(0,.cells ((B2 q0).map .p))]⟩) (ids:=[(0,0),(1,1),(2,2),(3,3),(12000,12000),(12001,12001)]) (fun _ _ _ _ _ f x2 L1 c h=>?_);apply kI Z h<;>intro h
 .refine Gi Z Lf h (fun x4 L8=>⟨[(26,pN x4),(25,pN (q0.If.n:Int)),(24,.p (vSl 2 A0 q0.If)),(6,pN x2),(5,.clo U3 [] [.reg 12000 0,.reg 12001 0]),(2,.reg 1 0),(1,.reg 0 0),(0,.yf 3)],[(12001,.cells [.p (vSl 2 A0 y1.2)]),(12000,.cells ((B2 y1.1).map .p)),(3,.yld (L8.map (fun (x:Int)=>[pI .i64 x])) true),(2,.cells [pN q2]),(1,.cells [.p (vSl 2 A0 q1)]),(0,.cells ((B2 q0).map .p))]⟩) (ids:=[(0,0),(1,1),(2,2),(3,3),(12000,12000),(12001,12001)]) (fun _ _ _ _ _ i x4 L8 j h=>?_);apply kI Z h<;>intro h
  .obtain⟨c47,h⟩:=I4 h;refine Az1 Z (And.intro c47 Lh) 9000 [pI .u32 (q0.If.g x4.toNat).Plus,pI .u32 (q0.If.g x4.toNat).Minus] ?_;refine K5 Z Lf [4,5,6,7] ?_;obtain⟨c48,h⟩:=I4 h;obtain⟨l,e12,h⟩:=C6 h;refine Bi (And.intro (And.intro c48 Lh) Lh) (JT Z Y e12) ?_;refine O7 Lf ?_;apply kI Z h<;>intro h
   .exact c _ [(0,0),(1,1),(2,2),(3,3),(12000,12000),(12001,12001)] _ (wrap .i64 (x2+1)) L8 Lf h
   exact j _ [(0,0),(1,1),(2,2),(3,3),(12000,12000),(12001,12001)] _ (wrap .i64 (x4+1)) L8 Lf h
  obtain⟨m,e13,h⟩:=C6 h;refine D5 Z [12000,12001] Lf (Og Z Y e13) ?_;refine kG Z h (fun h=>?_) (fun h=>?_)
  .obtain⟨L10,rfl,d⟩:=Lb h;replace h:=d;refine Dl Z Lf (ys:=(fun (x:Int)=>[pI .i64 x]) x2) (rest:=L10.map (fun (x:Int)=>[pI .i64 x])) ?_ ?_
   .refine D9 Z Lf (b:=false) (fun c53=>?_) (fun c53=>?_)
    .exact Bool.noConfusion ((rfl:false=false).symm.trans c53)
    exact c _ [(0,0),(1,1),(2,2),(3,3),(12000,12000),(12001,12001)] _ (wrap .i64 (x2+1)) L10 Lf h
   refine D9 Z Lf (b:=true) (fun c54=>?_) (fun c54=>?_)
   .exact A6 Z Lf (a:=.tup []) (objs:=[(.cells ((B2 q0).map .p)),.cells [.p (vSl 2 A0 q1)],.cells [pN q2],.yld [] false]) ⟨[],[(3,.yld [] false),(2,.cells [pN q2]),(1,.cells [.p (vSl 2 A0 q1)]),(0,.cells ((B2 q0).map .p))]⟩ [0,1,2,3] (ids:=[(0,0),(1,1),(2,2),(3,3)]) ⟨false,rfl,rfl,_,rfl⟩
   exact Bool.noConfusion (Mu.symm.trans c54)
  exact c _ [(0,0),(1,1),(2,2),(3,3),(12000,12000),(12001,12001)] _ (wrap .i64 (x2+1)) L8 Lf h
 obtain rfl:=B6 h;exact A6 Z Lf (a:=.tup []) (objs:=[(.cells ((B2 q0).map .p)),.cells [.p (vSl 2 A0 q1)],.cells [pN q2],.yld [] true]) ⟨[],[(3,.yld [] true),(2,.cells [pN q2]),(1,.cells [.p (vSl 2 A0 q1)]),(0,.cells ((B2 q0).map .p))]⟩ [0,1,2,3] (ids:=[(0,0),(1,1),(2,2),(3,3)]) ⟨true,rfl,rfl,_,rfl⟩
def GT (N:Nat)(b:Law)(c:Sl Qz)(a:Int):Option (Law×(Sl Qz)×Int):= some (b,c,a)
theorem Pn {b:Law}{c:Sl Qz}{a:Int}{y:Law×(Sl Qz)×Int}(h:GT N b c a=some y) :FunO S Pk [.p (.agg (B2 b)),.p (vSl 2 A0 c),pN a] [] (.clo DY [] [.reg 0 0,.reg 1 0,.reg 2 0]) ([.cells ((B2 y.1).map .p),.cells [.p (vSl 2 A0 y.2.1)],.cells [pN y.2.2]]) []:=by unfold GT at h;refine A3 Z func91 ?_;obtain rfl:=B6 h;exact A6 Z Lf ⟨[(6,.clo DY [] [.reg 4000 0,.reg 5000 0,.reg 6000 0])],[(6000,.cells [pN a]),(5000,.cells [.p (vSl 2 A0 c)]),(4000,.cells ((B2 b).map .p))]⟩ [4000,5000,6000] (ids:=[(4000,4000),(5000,5000),(6000,6000)]) ⟨rfl,rfl,rfl⟩
def Cq (N:Nat)(b:Law)(c:Sl Qz)(a:Int):Option Bool:= (GT N b c a).bind fun y1=>(Y3 N y1.1 y1.2.1 y1.2.2).bind fun L1=>O6 L1 (fun d (x1:Int) (_:Unit)=>some (x1==a)) (fun (_:Unit)=>some false) ()
theorem Tg {b:Law}{c:Sl Qz}{a:Int}{y:Bool}(h:Cq N b c a=some y) :FunO S SQ [.p (.agg (B2 b)),.p (vSl 2 A0 c),pN a] [] (pB y) ([]) []:=by
 unfold Cq at h;refine A3 Z func94 ?_;refine kC Z h (Pn Z Y) (fun y1 h=>?_);obtain⟨L1,e2,h⟩:=C6 h;refine JM Z Lf [12000,12001,12002] [6,5] 901 (fun _=>⟨[(6,.reg 7000 0),(5,.reg 6000 0)],[(7000,.cells [.p (.v (.bool false))]),(6000,.cells [pN a])]⟩) (idl:=[(6000,6000),(7000,7000)]) h (KT Z Y e2) (fun _=>by kernel_rfl) (fun _=>by kernel_rfl) (fun _=>by kernel_rfl) (fun _=>by kernel_rfl) (fun x1 _ d _ f h=>?_) (fun _ h=>?_)
 .refine Lc Z Lf ?_;refine Qv Z Lf ⟨[(6,.reg 7000 0),(5,.reg 6000 0)],[(7000,.cells [pB (x1==a)]),(6000,.cells [pN a])]⟩ (ids:=[(901,901),(6000,6000),(7000,7000)]) ?_;cases h;exact kR Z
 cases h;exact kR Z
def BX (N:Nat)(q0:Sl Qz)(q1:Law)(q2:Int)(q3:Int):Option (List (Int×(Sl Qz))):= if (q1.Mode==1) then (GT N q1 q0 0).bind fun y1=>(Y3 N y1.1 y1.2.1 y1.2.2).bind fun L1=>O6 L1 (fun b (x1:Int) (z1:(Sl Qz)×Int×Int)=>if (decide (x1<z1.2.1)) then b (z1.1,z1.2.1,z1.2.2) else if (((0:Int)<=(wrap .i64 (x1+z1.2.2))/\(wrap .i64 (x1+z1.2.2))<=(z1.1.n:Int))/\((0:Int)<=x1/\x1<=(wrap .i64 (x1+q2))/\(wrap .i64 (x1+q2))<=(q0.n:Int)))then (O0 N q1 (q0.sub x1.toNat (wrap .i64 (x1+q2)).toNat)).bind fun y6=>if ((0:Int)<=(wrap .i64 (x1+q2))/\(wrap .i64 (x1+q2))<=(q0.n:Int))then (A7 N (Sl.of [z1.1.take (wrap .i64 (x1+z1.2.2)).toNat,y6,q0.drop (wrap .i64 (x1+q2)).toNat]:Sl (Sl Qz))).bind fun y7=>Aq (x1,y7) (b (y7,wrap .i64 (x1+(if q2<1 then 1 else q2)),wrap .i64 ((wrap .i64 (z1.2.2+q3))-q2))) else none else none) (fun (z1:(Sl Qz)×Int×Int)=>some []) (q0,0,0) else if (q1.Mode==2) then X4 N (fun a (x5:Sl Qz) (x6:Int)=>if (decide ((wrap .i64 (x6+q2))<=(x5.n:Int))) then (Cq N q1 x5 x6).bind fun g=>if (!g) then a x5 (wrap .i64 (x6+1)) else (Q3 N q1 x5 x6).bind fun d=>Aq (x6,d) (if (q2==0) then a d (wrap .i64 ((wrap .i64 (x6+q3))+1)) else a d (wrap .i64 (x6+q3))) else some []) q0 0 else if (q1.Mode==3) then X4 N (fun c (x7:Sl Qz) (x8:Int)=>if (decide (0<=x8)) then (Cq N q1 x7 x8).bind fun i=>if (!i) then c x7 (wrap .i64 (x8-1)) else (Q3 N q1 x7 x8).bind fun f=>Aq (x8,f) (c f (wrap .i64 (x8-(if q2<1 then 1 else q2)))) else some []) q0 (wrap .i64 ((q0.n:Int)-q2)) else some []
theorem UY {q0:Sl Qz}{q1:Law}{q2:Int}{q3:Int}{L:List (Int×(Sl Qz))}(h:BX N q0 q1 q2 q3=some L) :CT S Fp [] [.reg 0 0,.reg 1 0,.reg 2 0,.reg 3 0] [.cells [.p (vSl 2 A0 q0)],.cells ((B2 q1).map .p),.cells [pN q2],.cells [pN q3]] (L.map (fun (x:Int×(Sl Qz))=>[pI .i64 x.1,vSl 2 A0 x.2])):=by
 unfold BX at h;refine DS Z func90 ?_;apply kI Z h<;>intro h
 .refine kC Z h (Pn Z Y) (fun y1 h=>?_);obtain⟨L1,e2,h⟩:=C6 h;refine Aj7 Z Lf [20000,20001,20002] [8,7,6,5,4,3,2,1] 900 (fun z1 L2=>⟨[(8,.reg 9000 0),(7,.reg 8000 0),(6,.reg 7000 0),(5,.reg 6000 0),(4,.reg 3 0),(3,.reg 2 0),(2,.reg 1 0),(1,.reg 0 0)],[(9000,.cells [pN z1.2.2]),(8000,.cells [pN z1.2.1]),(7000,.cells [.p (vSl 2 A0 z1.1)]),(6000,.cells [.yf 4]),(4,.yld (L2.map (fun (x:Int×(Sl Qz))=>[pI .i64 x.1,vSl 2 A0 x.2])) true),(3,.cells [pN q3]),(2,.cells [pN q2]),(1,.cells ((B2 q1).map .p)),(0,.cells [.p (vSl 2 A0 q0)])]⟩) (idl:=[(0,0),(1,1),(2,2),(3,3),(4,4),(6000,6000),(7000,7000),(8000,8000),(9000,9000)]) h (KT Z Y e2) (fun _=>by kernel_rfl) (fun _ _=>by kernel_rfl) (fun _ _=>by kernel_rfl) (fun _ _=>by kernel_rfl) (fun x1 _ s z1 L2 j h=>?_) (fun z1 L2 h=>?_)
  .refine Lc Z Lf ?_;apply kI Z h<;>intro h
   .exact j _ [(0,0),(1,1),(2,2),(3,3),(4,4),(900,900),(6000,6000),(7000,7000),(8000,8000),(9000,9000)] _ (z1.1,z1.2.1,z1.2.2) L2 Lf h
   refine V7 Z Lf [(0,.l [7000]),(2,.l [9000]),(5,.l [1]),(6,.l [0]),(9,.l [2]),(12,.n),(13,.l [0]),(15,.l [2]),(20,.a [7000])] ?_;obtain⟨c13,h⟩:=I4 h;obtain⟨y6,e7,h⟩:=C6 h;refine Bi c13 (Tf Z Y e7) ?_;obtain⟨c14,h⟩:=I4 h;refine HY c14 (x:=.sl true 1 3 (L7 [AG] [(0,cL 2 A0 (z1.1.take (wrap .i64 (x1+z1.2.2)).toNat)),(1,cL 2 A0 y6),(2,cL 2 A0 (q0.drop (wrap .i64 (x1+q2)).toNat))])) ?_;obtain⟨y7,e8,h⟩:=C6 h;refine Ar7 [] Lf (FunO.le Z (args:=[.p (.sl true 1 3 (L7 [AG] [(0,cL 2 A0 (z1.1.take (wrap .i64 (x1+z1.2.2)).toNat)),(1,cL 2 A0 y6),(2,cL 2 A0 (q0.drop (wrap .i64 (x1+q2)).toNat))]))]) (by exact⟨YI rfl (fun i t=>match i,t with|0,_=>rfl|1,_=>rfl|2,_=>rfl|_+3,t=>Ia t (by omega)),trivial⟩) (N0 Z Y e8)) ?_;refine O7 Lf ?_;obtain⟨L5,rfl,m⟩:=Lb h;replace h:=m;refine Dl Z Lf (ys:=(fun (x:Int×(Sl Qz))=>[pI .i64 x.1,vSl 2 A0 x.2]) (x1,y7)) (rest:=L5.map (fun (x:Int×(Sl Qz))=>[pI .i64 x.1,vSl 2 A0 x.2])) ?_ ?_
   .refine D9 Z Lf (b:=false) (fun c15=>?_) (fun c15=>?_)
    .exact Bool.noConfusion ((rfl:false=false).symm.trans c15)
    refine V7 Z Lf [(1,.l [2]),(4,.l [9000]),(5,.l [3]),(7,.l [2]),(9,.a [8000]),(10,.a [9000])] ?_;refine O7 Lf ?_;exact j _ [(0,0),(1,1),(2,2),(3,3),(4,4),(900,900),(6000,6000),(7000,7000),(8000,8000),(9000,9000)] _ (y7,wrap .i64 (x1+(if q2<1 then 1 else q2)),wrap .i64 ((wrap .i64 (z1.2.2+q3))-q2)) L5 Lf h
   refine D9 Z Lf (b:=true) (fun c16=>?_) (fun c16=>?_)
   .refine Qv Z Lf ⟨[(8,.reg 9000 0),(7,.reg 8000 0),(6,.reg 7000 0),(5,.reg 6000 0),(4,.reg 3 0),(3,.reg 2 0),(2,.reg 1 0),(1,.reg 0 0)],[(44000,.vec A4 2 y7.n (fun i=>A0 (y7.g i)) true),(9000,.cells [pN z1.2.2]),(8000,.cells [pN z1.2.1]),(7000,.cells [.vec 44000]),(6000,.cells [.yf 4]),(4,.yld [] false),(3,.cells [pN q3]),(2,.cells [pN q2]),(1,.cells ((B2 q1).map .p)),(0,.cells [.p (vSl 2 A0 q0)])]⟩ (ids:=[(0,0),(1,1),(2,2),(3,3),(4,4),(900,900),(6000,6000),(7000,7000),(8000,8000),(9000,9000),(44000,44000)]) ?_;exact A6 Z Lf (a:=.tup []) (objs:=[(.cells [.p (vSl 2 A0 q0)]),.cells ((B2 q1).map .p),.cells [pN q2],.cells [pN q3],.yld [] false]) ⟨[],[(4,.yld [] false),(3,.cells [pN q3]),(2,.cells [pN q2]),(1,.cells ((B2 q1).map .p)),(0,.cells [.p (vSl 2 A0 q0)])]⟩ [0,1,2,3,4] (ids:=[(0,0),(1,1),(2,2),(3,3),(4,4)]) ⟨false,rfl,rfl,_,rfl⟩
   exact Bool.noConfusion (Mu.symm.trans c16)
  obtain rfl:=B6 h;exact A6 Z Lf (a:=.tup []) (objs:=[(.cells [.p (vSl 2 A0 q0)]),.cells ((B2 q1).map .p),.cells [pN q2],.cells [pN q3],.yld [] true]) ⟨[],[(4,.yld [] true),(3,.cells [pN q3]),(2,.cells [pN q2]),(1,.cells ((B2 q1).map .p)),(0,.cells [.p (vSl 2 A0 q0)])]⟩ [0,1,2,3,4] (ids:=[(0,0),(1,1),(2,2),(3,3),(4,4)]) ⟨true,rfl,rfl,_,rfl⟩
 apply kI Z h<;>intro h
 .refine HZ Z Lf h (fun x5 x6 L6=>⟨[(10,pN x6),(6,.reg 7000 0),(5,.reg 6000 0),(4,.reg 3 0),(3,.reg 2 0),(2,.reg 1 0)],[(7000,.cells [.p (vSl 2 A0 x5)]),(6000,.cells [.yf 4]),(4,.yld (L6.map (fun (x:Int×(Sl Qz))=>[pI .i64 x.1,vSl 2 A0 x.2])) true),(3,.cells [pN q3]),(2,.cells [pN q2]),(1,.cells ((B2 q1).map .p)),(0,.cells [.p (vSl 2 A0 q0)])]⟩) (ids:=[(0,0),(1,1),(2,2),(3,3),(4,4),(6000,6000),(7000,7000)]) (fun _ _ _ _ _ u x5 x6 L6 c h=>?_);apply kI Z h<;>intro h
  .refine kC Z h (Tg Z Y) (fun w h=>?_);apply kI Z h<;>intro h
   .exact c _ [(0,0),(1,1),(2,2),(3,3),(4,4),(6000,6000),(7000,7000)] _ x5 (wrap .i64 (x6+1)) L6 Lf h
   refine kC Z h (Jh Z Y) (fun d h=>?_);obtain⟨L9,rfl,o⟩:=Lb h;replace h:=o;refine Dl Z Lf (ys:=(fun (x:Int×(Sl Qz))=>[pI .i64 x.1,vSl 2 A0 x.2]) (x6,d)) (rest:=L9.map (fun (x:Int×(Sl Qz))=>[pI .i64 x.1,vSl 2 A0 x.2])) ?_ ?_
   .refine D9 Z Lf (b:=false) (fun c30=>?_) (fun c30=>?_)
    .exact Bool.noConfusion ((rfl:false=false).symm.trans c30)
    apply kI Z h<;>intro h
    .exact c _ [(0,0),(1,1),(2,2),(3,3),(4,4),(6000,6000),(7000,7000)] _ d (wrap .i64 ((wrap .i64 (x6+q3))+1)) L9 Lf h
    exact c _ [(0,0),(1,1),(2,2),(3,3),(4,4),(6000,6000),(7000,7000)] _ d (wrap .i64 (x6+q3)) L9 Lf h
   refine D9 Z Lf (b:=true) (fun c32=>?_) (fun c32=>?_)
   .exact A6 Z Lf (a:=.tup []) (objs:=[(.cells [.p (vSl 2 A0 q0)]),.cells ((B2 q1).map .p),.cells [pN q2],.cells [pN q3],.yld [] false]) ⟨[],[(4,.yld [] false),(3,.cells [pN q3]),(2,.cells [pN q2]),(1,.cells ((B2 q1).map .p)),(0,.cells [.p (vSl 2 A0 q0)])]⟩ [0,1,2,3,4] (ids:=[(0,0),(1,1),(2,2),(3,3),(4,4)]) ⟨false,rfl,rfl,_,rfl⟩
   exact Bool.noConfusion (Mu.symm.trans c32)
  obtain rfl:=B6 h;exact A6 Z Lf (a:=.tup []) (objs:=[(.cells [.p (vSl 2 A0 q0)]),.cells ((B2 q1).map .p),.cells [pN q2],.cells [pN q3],.yld [] true]) ⟨[],[(4,.yld [] true),(3,.cells [pN q3]),(2,.cells [pN q2]),(1,.cells ((B2 q1).map .p)),(0,.cells [.p (vSl 2 A0 q0)])]⟩ [0,1,2,3,4] (ids:=[(0,0),(1,1),(2,2),(3,3),(4,4)]) ⟨true,rfl,rfl,_,rfl⟩
 apply kI Z h<;>intro h
 .refine HZ Z Lf h (fun x7 x8 L10=>⟨[(11,pN x8),(6,.reg 7000 0),(5,.reg 6000 0),(3,.reg 2 0),(2,.reg 1 0)],[(7000,.cells [.p (vSl 2 A0 x7)]),(6000,.cells [.yf 4]),(4,.yld (L10.map (fun (x:Int×(Sl Qz))=>[pI .i64 x.1,vSl 2 A0 x.2])) true),(3,.cells [pN q3]),(2,.cells [pN q2]),(1,.cells ((B2 q1).map .p)),(0,.cells [.p (vSl 2 A0 q0)])]⟩) (ids:=[(0,0),(1,1),(2,2),(3,3),(4,4),(6000,6000),(7000,7000)]) (fun _ _ _ _ _ v x7 x8 L10 q h=>?_);apply kI Z h<;>intro h
  .refine kC Z h (Tg Z Y) (fun y h=>?_);apply kI Z h<;>intro h
   .exact q _ [(0,0),(1,1),(2,2),(3,3),(4,4),(6000,6000),(7000,7000)] _ x7 (wrap .i64 (x8-1)) L10 Lf h
   refine kC Z h (Jh Z Y) (fun r h=>?_);obtain⟨L13,rfl,f⟩:=Lb h;replace h:=f;refine Dl Z Lf (ys:=(fun (x:Int×(Sl Qz))=>[pI .i64 x.1,vSl 2 A0 x.2]) (x8,r)) (rest:=L13.map (fun (x:Int×(Sl Qz))=>[pI .i64 x.1,vSl 2 A0 x.2])) ?_ ?_
   .refine D9 Z Lf (b:=false) (fun c44=>?_) (fun c44=>?_)
    .exact Bool.noConfusion ((rfl:false=false).symm.trans c44)
    exact q _ [(0,0),(1,1),(2,2),(3,3),(4,4),(6000,6000),(7000,7000)] _ r (wrap .i64 (x8-(if q2<1 then 1 else q2))) L13 Lf h
   refine D9 Z Lf (b:=true) (fun c45=>?_) (fun c45=>?_)
   .exact A6 Z Lf (a:=.tup []) (objs:=[(.cells [.p (vSl 2 A0 q0)]),.cells ((B2 q1).map .p),.cells [pN q2],.cells [pN q3],.yld [] false]) ⟨[],[(4,.yld [] false),(3,.cells [pN q3]),(2,.cells [pN q2]),(1,.cells ((B2 q1).map .p)),(0,.cells [.p (vSl 2 A0 q0)])]⟩ [0,1,2,3,4] (ids:=[(0,0),(1,1),(2,2),(3,3),(4,4)]) ⟨false,rfl,rfl,_,rfl⟩
   exact Bool.noConfusion (Mu.symm.trans c45)
  obtain rfl:=B6 h;exact A6 Z Lf (a:=.tup []) (objs:=[(.cells [.p (vSl 2 A0 q0)]),.cells ((B2 q1).map .p),.cells [pN q2],.cells [pN q3],.yld [] true]) ⟨[],[(4,.yld [] true),(3,.cells [pN q3]),(2,.cells [pN q2]),(1,.cells ((B2 q1).map .p)),(0,.cells [.p (vSl 2 A0 q0)])]⟩ [0,1,2,3,4] (ids:=[(0,0),(1,1),(2,2),(3,3),(4,4)]) ⟨true,rfl,rfl,_,rfl⟩
 obtain rfl:=B6 h;exact A6 Z Lf (a:=.tup []) (objs:=[(.cells [.p (vSl 2 A0 q0)]),.cells ((B2 q1).map .p),.cells [pN q2],.cells [pN q3],.yld [] true]) ⟨[],[(4,.yld [] true),(3,.cells [pN q3]),(2,.cells [pN q2]),(1,.cells ((B2 q1).map .p)),(0,.cells [.p (vSl 2 A0 q0)])]⟩ [0,1,2,3,4] (ids:=[(0,0),(1,1),(2,2),(3,3),(4,4)]) ⟨true,rfl,rfl,_,rfl⟩
def Ji (N:Nat)(a:Law)(b:Sl Qz):Option ((Sl Qz)×Law×Int×Int):= some (b,a,(a.If.n:Int),(a.Out.n:Int))
theorem ZQ {b:Law}{c:Sl Qz}{y:(Sl Qz)×Law×Int×Int}(h:Ji N b c=some y) :FunO S SM [.p (.agg (B2 b)),.p (vSl 2 A0 c)] [] (.clo Fp [] [.reg 0 0,.reg 1 0,.reg 2 0,.reg 3 0]) ([.cells [.p (vSl 2 A0 y.1)],.cells ((B2 y.2.1).map .p),.cells [pN y.2.2.1],.cells [pN y.2.2.2]]) []:=by unfold Ji at h;refine A3 Z func69 ?_;refine V7 Z Lf [(1,.l [3000]),(2,.n),(4,.l [3000]),(5,.n),(6,.a [6000]),(7,.a [7000]),(8,.a [6000]),(9,.a [7000])] ?_;refine O7 Lf ?_;obtain rfl:=B6 h;exact A6 Z Lf ⟨[(4,.clo Fp [] [.reg 4000 0,.reg 3000 0,.reg 6000 0,.reg 7000 0])],[(7000,.cells [pN (b.Out.n:Int)]),(6000,.cells [pN (b.If.n:Int)]),(4000,.cells [.p (vSl 2 A0 c)]),(3000,.cells ((B2 b).map .p))]⟩ [4000,3000,6000,7000] (ids:=[(3000,3000),(4000,4000),(6000,6000),(7000,7000)]) ⟨rfl,rfl,rfl⟩
def Dv (N:Nat)(b:Law)(c:Sl Qz):Option ((Sl Int)×(Sl (Sl Qz))×Int):= (Fu N b c).bind fun y1=>if (y1 != 0) then some (Mv,(Sl.nil:Sl (Sl Qz)),y1) else (Ji N b c).bind fun y2=>(BX N y2.1 y2.2.1 y2.2.2.1 y2.2.2.2).bind fun L1=>O6 L1 (fun a (x1:Int×(Sl Qz)) (z1:(Sl Int)×(Sl (Sl Qz)))=>if (decide (32<(x1.2.n:Int))) then some (Mv,(Sl.nil:Sl (Sl Qz)),11) else if ((z1.1.n+(Sl.of [x1.1]:Sl Int).n)*8<=140737488355328/\z1.1.n+(Sl.of [x1.1]:Sl Int).n<=140737488355328)then if ((z1.2.n+(Sl.of [x1.2]:Sl (Sl Qz)).n)*24<=140737488355328/\z1.2.n+(Sl.of [x1.2]:Sl (Sl Qz)).n<=140737488355328)then a (z1.1.push x1.1,z1.2.push x1.2) else none else none) (fun (z1:(Sl Int)×(Sl (Sl Qz)))=>some (z1.1,z1.2,0)) (Mv,(Sl.nil:Sl (Sl Qz)))
theorem UZ {b:Law}{d:Sl Qz}{y:(Sl Int)×(Sl (Sl Qz))×Int}(h:Dv N b d=some y) :FunO S My [.p (.agg (B2 b)),.p (vSl 2 A0 d)] [] (.tup [.vec 0,.vec 1,pN y.2.2]) ([.vec H7 1 y.1.n (fun i=>cI .i64 (y.1.g i)) true,.vec B4 1 y.2.1.n (fun i=>cL 2 A0 (y.2.1.g i)) true]) []:=by
 unfold Dv at h;refine A3 Z func44 ?_;refine X5 Z Lf 4 3000 (B2 b) ?_;obtain⟨y1,e1,h⟩:=C6 h;refine D5 Z [] Mr (UX Z Y e1) ?_;apply kI Z h<;>intro h
 .obtain rfl:=B6 h;exact A6 Z Lf ⟨[(6,.reg 7000 0),(5,.reg 6000 0),(4,.reg 5000 0)],[(7000,.cells [pN y1]),(6701,.vec B4 1 (Sl.nil:Sl (Sl Qz)).n (fun i=>cL 2 A0 ((Sl.nil:Sl (Sl Qz)).g i)) true),(6000,.cells [.vec 6701]),(5700,.vec H7 1 Mv.n (fun i=>cI .i64 (Mv.g i)) true),(5000,.cells [.vec 5700])]⟩ [5700,6701] (ids:=[(5000,5000),(6000,6000),(7000,7000)]) ⟨rfl,rfl,rfl⟩
 obtain⟨y2,e2,h⟩:=C6 h;refine D5 Z [] Mr (ZQ Z Y e2) ?_;obtain⟨L1,e3,h⟩:=C6 h;refine JM Z Lf [21000,21001,21002,21003] [9,8,6,5,4] 901 (fun z1=>⟨[(9,.reg 10000 0),(8,.reg 9000 0),(6,.reg 7000 0),(5,.reg 6000 0),(4,.reg 5000 0)],[(10500,.vec B4 1 z1.2.n (fun i=>cL 2 A0 (z1.2.g i)) false),(10000,.cells [.vec 10500]),(9500,.vec H7 1 z1.1.n (fun i=>cI .i64 (z1.1.g i)) false),(9000,.cells [.vec 9500]),(7000,.cells [pN 0]),(6000,.cells [.p AG]),(5000,.cells [.p AG])]⟩) (idl:=[(5000,5000),(6000,6000),(7000,7000),(9000,9000),(10000,10000)]) h (UY Z Y e3) (fun _=>by kernel_rfl) (fun _=>by kernel_rfl) (fun _=>by kernel_rfl) (fun _=>by kernel_rfl) (fun x1 _ f z1 j h=>?_) (fun z1 h=>?_)
 .refine Lc Z Lf ?_;apply kI Z h<;>intro h
  .refine Qv Z Lf ⟨[(9,.reg 10000 0),(8,.reg 9000 0),(6,.reg 7000 0),(5,.reg 6000 0),(4,.reg 5000 0)],[(10500,.vec B4 1 z1.2.n (fun i=>cL 2 A0 (z1.2.g i)) false),(10000,.cells [.vec 10500]),(9500,.vec H7 1 z1.1.n (fun i=>cI .i64 (z1.1.g i)) false),(9000,.cells [.vec 9500]),(7000,.cells [pN 11]),(6000,.cells [.p AG]),(5000,.cells [.p AG])]⟩ (ids:=[(901,901),(5000,5000),(6000,6000),(7000,7000),(9000,9000),(9500,9500),(10000,10000),(10500,10500)]) ?_;obtain rfl:=B6 h;exact A6 Z Lf ⟨[(6,.reg 7000 0),(5,.reg 6000 0),(4,.reg 5000 0)],[(7000,.cells [pN 11]),(6701,.vec B4 1 (Sl.nil:Sl (Sl Qz)).n (fun i=>cL 2 A0 ((Sl.nil:Sl (Sl Qz)).g i)) true),(6000,.cells [.vec 6701]),(5700,.vec H7 1 Mv.n (fun i=>cI .i64 (Mv.g i)) true),(5000,.cells [.vec 5700])]⟩ [5700,6701] (ids:=[(5000,5000),(6000,6000),(7000,7000)]) ⟨rfl,rfl,rfl⟩
  refine V7 Z Lf [(0,.l [9000]),(3,.a [30000,9500]),(4,.l [10000]),(7,.a [34000,10500]),(8,.a [9000]),(9,.a [10000])] ?_;refine HY Lf (x:=.sl true 1 1 (L7 [pI .i64 0] [(0,cI .i64 x1.1)])) ?_;obtain⟨c9,h⟩:=I4 h;refine HY c9 (x:=.sl true 1 1 (L7 [AG] [(0,cL 2 A0 x1.2)])) ?_;obtain⟨c10,h⟩:=I4 h;refine O7 c10 ?_;exact j _ [(901,901),(5000,5000),(6000,6000),(7000,7000),(9000,9000),(9500,30000),(10000,10000),(10500,34000)] _ (z1.1.push x1.1,z1.2.push x1.2) Lf h (hle:=klR [(0,.fn (z1.2.n+1) (z1.2.push x1.2).n (CA z1.2.n (fun i=>cL 2 A0 (z1.2.g i)) (L7 [AG] [(0,cL 2 A0 x1.2)])) (fun i=>cL 2 A0 ((z1.2.push x1.2).g i))),(1,.fn (z1.1.n+1) (z1.1.push x1.1).n (CA z1.1.n (fun i=>cI .i64 (z1.1.g i)) (L7 [pI .i64 0] [(0,cI .i64 x1.1)])) (fun i=>cI .i64 ((z1.1.push x1.1).g i)))] (al1 ⟨rfl,Uu (c:=cL 2 A0) (v:=z1.2) (x:=x1.2) (z:=[AG]) same rfl rfl⟩ (al1 ⟨rfl,Uu (c:=cI .i64) (v:=z1.1) (x:=x1.1) (z:=[(pI .i64 0)]) same rfl rfl⟩ al0)))
 refine V7 Z Lf [(0,.l [9000]),(1,.l [10000]),(2,.a [5000]),(3,.a [6000]),(4,.a [7000])] ?_;refine O7 Lf ?_;obtain rfl:=B6 h;exact A6 Z Lf ⟨[(6,.reg 7000 0),(5,.reg 6000 0),(4,.reg 5000 0)],[(10500,.vec B4 1 z1.2.n (fun i=>cL 2 A0 (z1.2.g i)) true),(9500,.vec H7 1 z1.1.n (fun i=>cI .i64 (z1.1.g i)) true),(7000,.cells [pN 0]),(6000,.cells [.vec 10500]),(5000,.cells [.vec 9500])]⟩ [9500,10500] (ids:=[(5000,5000),(6000,6000),(7000,7000),(9500,9500),(10500,10500)]) ⟨rfl,rfl,rfl⟩
def P2 (N:Nat)(b:Law)(a:Sl Qz):Option ((Sl Qz)×Int):= (Dv N b a).bind fun y1=>if (y1.2.2 != 0) then some ((Sl.nil:Sl Qz),y1.2.2) else if (decide (0<(y1.2.1.n:Int))) then if (((0:Int)<=(wrap .i64 ((y1.2.1.n:Int)-1))/\(wrap .i64 ((y1.2.1.n:Int)-1))<(y1.2.1.n:Int))/\(wrap .i64 ((y1.2.1.n:Int)-1)).toNat<y1.2.1.n)then some (y1.2.1.g (wrap .i64 ((y1.2.1.n:Int)-1)).toNat,0) else none else (A5 N a).bind fun y2=>some (y2,0)
theorem MU {a:Law}{b:Sl Qz}{y:(Sl Qz)×Int}(h:P2 N a b=some y) :FunO S Mt [.p (.agg (B2 a)),.p (vSl 2 A0 b)] [] (.tup [.p (vSl 2 A0 y.1),pN y.2]) ([]) []:=by
 unfold P2 at h;refine A3 Z func25 ?_;refine kC Z h (UZ Z Y) (fun y1 h=>?_);apply kI Z h<;>intro h
 .obtain rfl:=B6 h;exact A6 Z Lf ⟨[(5,pN y1.2.2),(4,.p (vSl 2 A0 (Sl.nil:Sl Qz)))],[]⟩ [] (ids:=[]) ⟨rfl,rfl,rfl⟩
 apply kI Z h<;>intro h
 .obtain⟨c3,h⟩:=I4 h;obtain rfl:=B6 h;exact ZB Z c3 [] ⟨rfl,rfl,rfl⟩
 refine kC Z h (N9 Z Y) (fun y2 h=>?_);obtain rfl:=B6 h;exact A6 Z Lf ⟨[(5,pN 0),(4,.p (vSl 2 A0 y2))],[]⟩ [] (ids:=[]) ⟨rfl,rfl,rfl⟩
end Go.AM
namespace Go.AM
open Go.Proofs.Tryz
variable {N:Nat}
open IntKind (wrap)
open Go.Proofs
set_option maxRecDepth 10000
set_option maxHeartbeats 2000000
variable {S:V9}(Z:G4 S Tryz.prog) (Y:NZ S)
include Z Y
def Q0 (N:Nat)(a:Law):Option Bool:= (Y2 N a).bind fun y1=>some (y1 != 0)
theorem Lk {a:Law}{y:Bool}(h:Q0 N a=some y) :FunO S FN [.p (.agg (B2 a))] [] (pB y) ([]) []:=by unfold Q0 at h;refine A3 Z func88 ?_;refine kC Z h (Ib Z Y) (fun y1 h=>?_);cases h;exact kR Z
def E4 (N:Nat)(a:Sl Law)(c:Law->Option Bool):Option Int:= S9 N (fun b (x1:Int)=>if (decide (x1<(a.n:Int))) then if ((0:Int)<=x1/\x1<(a.n:Int))then (c (a.g x1.toNat)).bind fun y3=>if y3 then some x1 else b (wrap .i64 (x1+1)) else none else some (-1)) 0
theorem AA {a:Sl Law}{c:Law->Option Bool}{kp_f:Nat}(d:∀{a0:Law}{b:Bool},c a0=some b->FunO S kp_f [.p (.agg (B2 a0))] [] (pB b) [] []){y:Int}(h:E4 N a c=some y) :FunO S N8 [.p (vSl 18 B2 a),.clo kp_f [] []] [] (pN y) ([]) []:=by
 unfold E4 at h;refine A3 Z func107 ?_;refine AH Z Lf h (fun x1=>⟨[(8,pN x1),(7,pN (a.n:Int)),(1,.clo kp_f [] []),(0,.p (vSl 18 B2 a))],[]⟩) (ids:=[]) (fun _ _ _ _ _ f x1 g h=>?_);apply kI Z h<;>intro h
 .obtain⟨c8,h⟩:=I4 h;obtain⟨y3,e3,h⟩:=C6 h;refine D5 Z [] (And.intro c8 Mr) (d e3) ?_;apply kI Z h<;>intro h
  .cases h;exact kR Z
  exact g _ [] _ (wrap .i64 (x1+1)) Lf h
 cases h;exact kR Z
def B8 (N:Nat)(a:Sl Law)(b:Law->Option Bool):Option Bool:= (E4 N a b).bind fun y1=>some (decide (0<=y1))
theorem W5 {a:Sl Law}{c:Law->Option Bool}{kp_f:Nat}(d:∀{a0:Law}{b:Bool},c a0=some b->FunO S kp_f [.p (.agg (B2 a0))] [] (pB b) [] []){y:Bool}(h:B8 N a c=some y) :FunO S K0 [.p (vSl 18 B2 a),.clo kp_f [] []] [] (pB y) ([]) []:=by unfold B8 at h;refine A3 Z func87 ?_;refine kC Z h (AA Z Y (fun e=>d e)) (fun y1 h=>?_);cases h;exact kR Z
def U6 (N:Nat)(a:Sl Law):Option Int:= if (decide (64<(a.n:Int))) then some 12 else (B8 N a (fun (u1:Law)=>Q0 N u1)).bind fun y1=>if y1 then some 17 else some 0
theorem Oh {a:Sl Law}{y:Int}(h:U6 N a=some y) :FunO S Hz [.p (vSl 18 B2 a)] [] (pN y) ([]) []:=by
 unfold U6 at h;refine A3 Z func62 ?_;apply kI Z h<;>intro h
 .cases h;exact kR Z
 refine kC Z h (W5 Z Y (fun e=>Lk Z Y e)) (fun y1 h=>?_);apply kI Z h<;>intro h
 .cases h;exact kR Z
 cases h;exact kR Z
def AT (N:Nat)(b:Sl Law)(a:Sl (Sl Qz)):Option Int:= (U6 N b).bind fun y1=>if (y1 != 0) then some y1 else if (decide (256<(a.n:Int))) then some 12 else S9 N (fun c (x1:Int)=>if (decide (x1<(a.n:Int))) then if ((0:Int)<=x1/\x1<(a.n:Int))then (S5 N (a.g x1.toNat)).bind fun y4=>if (y4 != 0) then some y4 else c (wrap .i64 (x1+1)) else none else some 0) 0
theorem Oi {b:Sl Law}{a:Sl (Sl Qz)}{y:Int}(h:AT N b a=some y) :FunO S Hw [.p (vSl 18 B2 b),.p (vSl 1 (cL 2 A0) a)] [] (pN y) ([]) []:=by
 unfold AT at h;refine A3 Z func38 ?_;refine kC Z h (Oh Z Y) (fun y1 h=>?_);apply kI Z h<;>intro h
 .cases h;exact kR Z
 apply kI Z h<;>intro h
 .cases h;exact kR Z
 refine AH Z Lf h (fun x1=>⟨[(19,pN x1),(18,pN (a.n:Int)),(17,.p (vSl 1 (cL 2 A0) a))],[]⟩) (ids:=[]) (fun _ _ _ _ _ c x1 d h=>?_);apply kI Z h<;>intro h
 .obtain⟨c10,h⟩:=I4 h;obtain⟨y4,e4,h⟩:=C6 h;refine D5 Z [] c10 (Eb Z Y e4) ?_;apply kI Z h<;>intro h
  .cases h;exact kR Z
  exact d _ [] _ (wrap .i64 (x1+1)) Lf h
 cases h;exact kR Z
end Go.AM
namespace Go.AM
open Go.Proofs.Tryz
variable {N:Nat}
open IntKind (wrap)
open Go.Proofs
set_option maxRecDepth 10000
set_option maxHeartbeats 2000000
variable {S:V9}(Z:G4 S Tryz.prog) (Y:NZ S)
include Z Y
def Al6 (c:Int):Option PV:=if c=0 then none else some (.iface 147 (pI .i64 c))
def AY (N:Nat)(c:Int)(q0:Sl Qz)(q1:Sl Law):Option (List (Int×(Sl Qz))):= (A5 N q0).bind fun y1=>Aq (0,y1) (X4 N (fun a (x1:Sl Qz) (x2:Int)=>if (decide (x2<(q1.n:Int))) then if ((0:Int)<=x2/\x2<(q1.n:Int))then (P2 N (q1.g x2.toNat) x1).bind fun y4=>if (y4.2 != 0) then if y4.2=c then some []else none else Aq (wrap .i64 (x2+1),y4.1) (a y4.1 (wrap .i64 (x2+1))) else none else if c=0 then some []else none) y1 0)
theorem FP {q0:Sl Qz}{q1:Sl Law}{c:Int}{L:List (Int×(Sl Qz))}(h:AY N c q0 q1=some L) :Mn S P8 [] [.reg 0 0,.reg 1 0] [.cells [.p (vSl 2 A0 q0)],.cells [.p (vSl 18 B2 q1)]] (L.map (fun (x:Int×(Sl Qz))=>[pI .i64 x.1,vSl 2 A0 x.2])) (Al6 c):=by
 unfold AY at h;refine ZF Z func108 ?_;refine kC Z h (N9 Z Y) (fun y1 h=>?_);obtain⟨L1,rfl,d⟩:=Lb h;replace h:=d;refine Dl Z Lf (ys:=(fun (x:Int×(Sl Qz))=>[pI .i64 x.1,vSl 2 A0 x.2]) (0,y1)) (rest:=L1.map (fun (x:Int×(Sl Qz))=>[pI .i64 x.1,vSl 2 A0 x.2])) ?_ ?_
 .refine D9 Z Lf (b:=false) (fun c1=>?_) (fun c1=>?_)
  .exact Bool.noConfusion ((rfl:false=false).symm.trans c1)
  refine HZ Z Lf h (fun x1 x2 L2=>⟨[(17,pN x2),(16,pN (q1.n:Int)),(15,.p (vSl 18 B2 q1)),(4,.p (vSl 2 A0 x1)),(0,.yf 2)],[(2,.yld (L2.map (fun (x:Int×(Sl Qz))=>[pI .i64 x.1,vSl 2 A0 x.2])) true),(1,.cells [.p (vSl 18 B2 q1)]),(0,.cells [.p (vSl 2 A0 q0)])]⟩) (ids:=[(0,0),(1,1),(2,2)]) (fun _ _ _ _ _ g x1 x2 L2 i h=>?_);apply kI Z h<;>intro h
  .obtain⟨c13,h⟩:=I4 h;obtain⟨y4,e4,h⟩:=C6 h;refine D5 Z [] (And.intro c13 Mr) (MU Z Y e4) ?_;refine D9 Z Lf (b:=y4.2 != 0) (fun c14=>?_) (fun c14=>?_)
   .replace h:=itT c14 h;obtain⟨c0,h⟩:=I4 h;obtain rfl:=B6 h;have j:Al6 c=some (.iface 147 (pI .i64 y4.2)):=by
     have:¬y4.2=0:=by simpa using c14
     rw[<- c0];simp[Al6,this]
    refine Az5 Z Lf (x:=.iface 147 (pI .i64 y4.2)) ?_;exact As1 Z Lf (x:=.iface 147 (pI .i64 y4.2)) (objs:=[(.cells [.p (vSl 2 A0 q0)]),.cells [.p (vSl 18 B2 q1)],.yld [] true]) [0,1,2] ⟨true,rfl,rfl,fun _=>by rw[j];rfl,fun e=>nomatch e⟩
   replace h:=itF c14 h;obtain⟨L5,rfl,f⟩:=Lb h;replace h:=f;refine Dl Z Lf (ys:=(fun (x:Int×(Sl Qz))=>[pI .i64 x.1,vSl 2 A0 x.2]) (wrap .i64 (x2+1),y4.1)) (rest:=L5.map (fun (x:Int×(Sl Qz))=>[pI .i64 x.1,vSl 2 A0 x.2])) ?_ ?_
   .refine D9 Z Lf (b:=false) (fun c15=>?_) (fun c15=>?_)
    .exact Bool.noConfusion ((rfl:false=false).symm.trans c15)
    exact i _ [(0,0),(1,1),(2,2)] _ y4.1 (wrap .i64 (x2+1)) L5 Lf h
   refine D9 Z Lf (b:=true) (fun c16=>?_) (fun c16=>?_)
   .exact A6 Z Lf (a:=.tup []) (objs:=[(.cells [.p (vSl 2 A0 q0)]),.cells [.p (vSl 18 B2 q1)],.yld [] false]) ⟨[],[(2,.yld [] false),(1,.cells [.p (vSl 18 B2 q1)]),(0,.cells [.p (vSl 2 A0 q0)])]⟩ [0,1,2] (ids:=[(0,0),(1,1),(2,2)]) ⟨false,rfl,rfl,fun e=>(nomatch e),fun _=>⟨_,rfl⟩⟩
   exact Bool.noConfusion (Mu.symm.trans c16)
  obtain⟨c0,h⟩:=I4 h;obtain rfl:=B6 h;exact A6 Z Lf (a:=.tup []) (objs:=[(.cells [.p (vSl 2 A0 q0)]),.cells [.p (vSl 18 B2 q1)],.yld [] true]) ⟨[],[(2,.yld [] true),(1,.cells [.p (vSl 18 B2 q1)]),(0,.cells [.p (vSl 2 A0 q0)])]⟩ [0,1,2] (ids:=[(0,0),(1,1),(2,2)]) ⟨true,rfl,rfl,fun _=>by subst c0;exact⟨_,rfl⟩,fun e=>(nomatch e)⟩
 refine D9 Z Lf (b:=true) (fun c17=>?_) (fun c17=>?_)
 .exact A6 Z Lf (a:=.tup []) (objs:=[(.cells [.p (vSl 2 A0 q0)]),.cells [.p (vSl 18 B2 q1)],.yld [] false]) ⟨[],[(2,.yld [] false),(1,.cells [.p (vSl 18 B2 q1)]),(0,.cells [.p (vSl 2 A0 q0)])]⟩ [0,1,2] (ids:=[(0,0),(1,1),(2,2)]) ⟨false,rfl,rfl,fun e=>(nomatch e),fun _=>⟨_,rfl⟩⟩
 exact Bool.noConfusion (Mu.symm.trans c17)
def Cj (N:Nat)(a:Sl Law)(b:Sl Qz):Option ((Sl Qz)×(Sl Law)):= some (b,a)
theorem HG {a:Sl Law}{b:Sl Qz}{y:(Sl Qz)×(Sl Law)}(h:Cj N a b=some y) :FunO S HB [.p (vSl 18 B2 a),.p (vSl 2 A0 b)] [] (.clo P8 [] [.reg 0 0,.reg 1 0]) ([.cells [.p (vSl 2 A0 y.1)],.cells [.p (vSl 18 B2 y.2)]]) []:=by unfold Cj at h;refine A3 Z func89 ?_;obtain rfl:=B6 h;exact A6 Z Lf ⟨[(4,.clo P8 [] [.reg 4000 0,.reg 3000 0])],[(4000,.cells [.p (vSl 2 A0 b)]),(3000,.cells [.p (vSl 18 B2 a)])]⟩ [4000,3000] (ids:=[(3000,3000),(4000,4000)]) ⟨rfl,rfl,rfl⟩
def E5 (N:Nat)(c:Int)(a:Sl Law)(d:Sl Qz):Option (Sl Qz):= (Cj N a d).bind fun y1=>(AY N c y1.1 y1.2).bind fun L1=>O6 L1 (fun b (x1:Int×(Sl Qz)) (z1:Sl Qz)=>b x1.2) (fun (z1:Sl Qz)=>some z1) (Sl.nil:Sl Qz)
theorem JU {a:Sl Law}{b:Sl Qz}{y:Sl Qz}(h:E5 N 0 a b=some y) :FunO S I0 [.p (vSl 18 B2 a),.p (vSl 2 A0 b)] [] (.p (vSl 2 A0 y)) ([]) []:=by
 unfold E5 at h;refine A3 Z func65 ?_;refine kC Z h (HG Z Y) (fun y1 h=>?_);obtain⟨L1,e2,h⟩:=C6 h;have f:Mn S P8 [] [.reg 0 0,.reg 1 0] [.cells [.p (vSl 2 A0 y1.1)],.cells [.p (vSl 18 B2 y1.2)]] (L1.map (fun (x:Int×(Sl Qz))=>[pI .i64 x.1,vSl 2 A0 x.2])) none:=FP Z Y e2;refine Wu Z Lf [8000,8001] [4] 901 (fun z1=>⟨[(4,.reg 5000 0)],[(5000,.cells [.p (vSl 2 A0 z1)])]⟩) (idl:=[(5000,5000)]) h f (fun _=>by kernel_rfl) (fun _=>by kernel_rfl) (fun _=>by kernel_rfl) (fun _=>by kernel_rfl) (fun x1 _ c z1 d h=>?_) (fun z1 h=>?_)
 .refine Lc Z Lf ?_;exact d _ [(901,901),(5000,5000)] _ x1.2 Lf h
 cases h;exact kR Z
theorem JV {c:Int}{a:Sl Law}{b:Sl Qz}{y:Sl Qz}(hc:c≠0)(h:E5 N c a b=some y) :S.F I0 [.p (vSl 18 B2 a),.p (vSl 2 A0 b)] [] fun res o k=>res=.panic (.iface 147 (pI .i64 c))/\o=[]/\k=[]:=by
 unfold E5 at h;refine Ak6 Z func65 ?_;refine kC Z h (HG Z Y) (fun y1 h=>?_);obtain⟨L1,e2,h⟩:=C6 h;have g:Mn S P8 [] [.reg 0 0,.reg 1 0] [.cells [.p (vSl 2 A0 y1.1)],.cells [.p (vSl 18 B2 y1.2)]] (L1.map (fun (x:Int×(Sl Qz))=>[pI .i64 x.1,vSl 2 A0 x.2])) (some (.iface 147 (pI .i64 c))):=by
  have:=FP Z Y e2
  simpa[Al6,hc]using this
 refine Wu Z Lf [8000,8001] [4] 901 (fun z1=>⟨[(4,.reg 5000 0)],[(5000,.cells [.p (vSl 2 A0 z1)])]⟩) (idl:=[(5000,5000)]) h g (fun _=>by kernel_rfl) (fun _=>by kernel_rfl) (fun _=>by kernel_rfl) (fun _=>by kernel_rfl) (fun x1 _ d z1 f h=>?_) (fun z1 h=>?_)
 .refine Lc Z Lf ?_;exact f _ [(901,901),(5000,5000)] _ x1.2 Lf h
 exact As1 Z Lf (x:=.iface 147 (pI .i64 c)) (objs:=[]) [] ⟨rfl,rfl,rfl⟩
def N3 (N:Nat)(a:Sl Law)(b:Sl Qz):Option ((Sl Qz)×Bool):=
 match E5 N 0 a b with
 |some y=>some (y,true)
 |none=>(E5 N 11 a b).bind fun _=>some ((Sl.nil:Sl Qz),false)
theorem Ll {b:Sl Law}{c:Sl Qz}{y:(Sl Qz)×Bool}(h:N3 N b c=some y) :FunO S FK [.p (vSl 18 B2 b),.p (vSl 2 A0 c)] [] (.tup [.p (vSl 2 A0 y.1),pB y.2]) ([]) []:=by
 unfold N3 at h;refine A3 Z func39 ?_;rcases e:E5 N 0 b c with _|z
 .rw[e]at h;obtain⟨z,e1,h⟩:=C6 h;obtain rfl:=B6 h;refine D5 Z [7000,3000,4000,5000] Lf (Y.attP (JV Z Y (by decide) e1)) ?_;refine V7 Z Lf [(0,.l [5000]),(1,.l [7000]),(3,.a [5000])] ?_;refine O7 Lf ?_;exact A6 Z Lf ⟨[(5,pB false),(4,.reg 5000 0)],[(5000,.cells [.p (vSl 2 A0 Sl.nil)])]⟩ [] (ids:=[(5000,5000)]) ⟨rfl,rfl,rfl⟩
 rw[e]at h;obtain rfl:=B6 h;refine D5 Z [7000,3000,4000,5000] Lf (Y.attR (JU Z Y e)) ?_;refine V7 Z Lf [(0,.l [5000]),(1,.l [7000]),(3,.a [5000])] ?_;refine O7 Lf ?_;exact A6 Z Lf ⟨[(5,pB true),(4,.reg 5000 0)],[(5000,.cells [.p (vSl 2 A0 z)])]⟩ [] (ids:=[(5000,5000)]) ⟨rfl,rfl,rfl⟩
end Go.AM
namespace Go.AM
open Go.Proofs
set_option maxRecDepth 10000
set_option maxHeartbeats 2000000
variable {S:V9}(Z:G4 S Tryz.prog) (Y:NZ S)
include Z Y
def I7 (N:Nat)(a:Sl Law)(b:Sl Qz):Option ((Sl Qz)×Int):= (AT N a (Sl.of [b]:Sl (Sl Qz))).bind fun y1=>if (y1 != 0) then some ((Sl.nil:Sl Qz),y1) else (N3 N a b).bind fun y2=>if (!y2.2) then some ((Sl.nil:Sl Qz),11) else some (y2.1,0)
theorem Dw {N:Nat}{a:Sl Law}{b:Sl Qz}{y:(Sl Qz)×Int}(h:I7 N a b=some y) :FunO S Gn [.p (vSl 18 B2 a),.p (vSl 2 A0 b)] [] (.tup [.p (vSl 2 A0 y.1),pN y.2]) ([]) []:=by
 unfold I7 at h;refine A3 Z Tryz.func23 ?_;refine Hs Z Mu ⟨[(11,.vec 12000),(9,.p (vSl 18 B2 a)),(1,.p (vSl 2 A0 b)),(0,.p (vSl 18 B2 a))],[(12000,.vec B4 1 (Sl.of [b]:Sl (Sl Qz)).n (fun i=>cL 2 A0 ((Sl.of [b]:Sl (Sl Qz)).g i)) false)]⟩ (ids:=[(12000,12000)]) ?_ (hle:=klR [(3,.fn 1 (Sl.of [b]:Sl (Sl Qz)).n (L7 [AG] [(0,cL 2 A0 b)]) (fun i=>cL 2 A0 ((Sl.of [b]:Sl (Sl Qz)).g i)))] (al1 ⟨rfl,(fun i c=>match i,c with|0,_=>rfl|_+1,c=>Ia c (by omega))⟩ al0));refine kC Z h (Oi Z Y) (fun y1 h=>?_);apply kI Z h<;>intro h
 .obtain rfl:=B6 h;exact A6 Z Lf ⟨[(5,pN y1),(4,.p (vSl 2 A0 (Sl.nil:Sl Qz)))],[]⟩ [] (ids:=[]) ⟨rfl,rfl,rfl⟩
 refine kC Z h (Ll Z Y) (fun y2 h=>?_);apply kI Z h<;>intro h
 .obtain rfl:=B6 h;exact A6 Z Lf ⟨[(5,pN 11),(4,.p (vSl 2 A0 (Sl.nil:Sl Qz)))],[]⟩ [] (ids:=[]) ⟨rfl,rfl,rfl⟩
 cases h;exact kR Z
end Go.AM
