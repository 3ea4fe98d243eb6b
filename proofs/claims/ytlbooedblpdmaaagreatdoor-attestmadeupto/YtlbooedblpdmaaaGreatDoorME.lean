/- Part 5. -/
import Derived.Test.YtlbooedblpdmaaaGreatDoorMD
import Derived.Test.YtlbooedblpdmaaaGreatDoorMC
import Derived.RecoverIn
import Derived.Test.YtlbooedblpdmaaaGreatDoorProg
import Derived.Lib.SlTrimSet
import Derived.TacticsInMore
set_option linter.defProp false
set_option linter.unusedSimpArgs false
set_option linter.unusedVariables false
set_option linter.unusedSectionVars false
namespace Go.AM
abbrev Oc:Sl Int:=Sl.nil
def Ob:true=true:=rfl
def O2:(7:Nat)<=7:=by decide
def Nf:(2:Nat)<=2:=by decide
noncomputable abbrev AZ5:=Go.Proofs.Tryz.prog.funcs
def Bb3:=@BitVec.getLsbD_and
def Bd2:=@Bool.eq_iff_iff
def Bf3:=@BitVec.eq_of_getLsbD_eq
def Bo6:=@BitVec.getLsbD_ushiftRight
def Bo7:=@BitVec.getLsbD_one
def Bp2:=@BitVec.getLsbD_shiftLeft
def Bp6:=@BitVec.getLsbD_setWidth
def Bq8:=@BitVec.getLsbD_ofBool
def Bs9:=@BitVec.toNat_ofNat
def Bt7:=@Go.Proofs.Tryz.func13
def Ac4 (D:List Deferred)(a:Act):Act:={ a with defers:=a.defers++D }
theorem Fi (D:List Deferred)(a:Act)(d:Option Tmp)(v:Value):(Ac4 D a).put d v=Ac4 D (a.put d v):=by cases d<;>rfl
theorem IX {F:Fence}{n:Nat}{P:Program}{ops:Array Oper}{Q:Exit->Act->World->Prop}(D:List Deferred):∀(l:List Nat) (a:Act) (w:World),wpOpsIn F n P ops Q l a w ->
 wpOpsIn F n P ops (fun e a' w'=>∃a0,a' = Ac4 D a0/\Q e a0 w') l (Ac4 D a) w
 |[],a,w,h=>⟨a,rfl,h⟩
 |i::l,a,w,h=>by
  have ih:=IX (F:=F) (n:=n) (P:=P) (ops:=ops) (Q:=Q) D l;simp only[wpOpsIn]at h⊢;have e1:(Ac4 D a).eval=a.eval:=by funext x;cases x<;>rfl
  have e2:(Ac4 D a).tmps=a.tmps:=rfl;cases j:ops[i]? with
  |none=>simp only[j]at h⊢;exact ih a w h
  |some o=>
   simp only[j]at h⊢;rw[e2,e1];by_cases hw:Region.wanted o (yielded ops a.tmps)=true
   .rw[Kc hw]at h⊢;refine⟨by rw[e1];exact h.1,?_⟩;have b:=h.2;rw[e1];generalize (o.semAt F.round a.eval).run P w=r at b;unfold Oper.uponIn at b⊢;split at b
    .rw[Fi];exact ih _ _ b
    .rw[Fi];exact ih _ _ b
    .exact ih _ _ b |> fun x=>by
      rename_i d w'
      have:({ (Ac4 D a)with defers:=d::(Ac4 D a).defers }:Act).put o.dst undef=Ac4 D (({ a with defers:=d::a.defers }:Act).put o.dst undef):=by rw[<- Fi];rfl
      rw[this];exact x
    .refine⟨b.1,b.2.mono ?_⟩;intro e w' f;cases e with
     |returned v=>have:=ih _ _ f;rw[<- Fi]at this;exact this
     |panicked ch=>exact⟨a,rfl,f⟩
     |outgrown=>obtain⟨a1,w1,g⟩:=f;exact⟨Ac4 D a1,w1,a1,rfl,g⟩
    .refine⟨b.1,fun c cs m=>?_⟩;obtain⟨v,w',g1,g2⟩:=b.2 c cs m;exact⟨v,w',by have:=ih _ _ g1;rw[<- Fi]at this;exact this,g2⟩
    .refine⟨b.1,b.2.mono ?_⟩;intro e w' f;cases e with
     |returned v=>have:=ih _ _ f;rw[<- Fi]at this;exact this
     |panicked ch=>exact⟨a,rfl,f⟩
     |outgrown=>obtain⟨a1,w1,g⟩:=f;exact⟨Ac4 D a1,w1,a1,rfl,g⟩
    .exact⟨a,rfl,b⟩
    exact b.elim
   rw[Ke hw]at h⊢;rw[Fi];exact⟨h.1,ih _ _ h.2⟩
section
variable {P:Program}{C:Ctx}{st:St}{rho:Nat->Value}
theorem Fj {fn:Func}{R:Ending->World->Prop}{u:FrameMode}(c:u ≠ .run){tmps:Array Value}{D:List Deferred}(b:∀a w,Sat C st a w rho->a.tmps=tmps->LeavesInM Fence.wide 0 P fn tmps R D u w) :∀(ds:List Deferred) (a:Act) (w:World),a.defers=ds->a.tmps=tmps->Sat C st a w rho->LeavesInM Fence.wide 0 P fn tmps R (ds++D) u w
 |[],a,w,hd,ht,h=>b a w h ht
 |d::ds,a,w,hd,ht,h=>by obtain⟨r,w',h1,f,g⟩:=h.unmark hd;exact⟨c,.inl ⟨r,w',h1,f,Fj c b ds { a with defers:=ds } w' rfl ht g⟩⟩
end
end Go.AM
namespace Go.AM
structure I9 where
 Parent:Int
 Name:Str
 deriving Inhabited,DecidableEq
abbrev G2 (x:I9):List PV:=[(pI .i64 x.Parent),.str x.Name]
structure Oh where
 Plus:Int
 Minus:Int
 deriving Inhabited,DecidableEq
abbrev A0 (x:Oh):List PV:=[(pI .u32 x.Plus),pI .u32 x.Minus]
inductive Pat where
 |nil
 |mk (Kind:Int) (Is:Oh) (Not:Bool) (Min:Int) (Max:Int) (n:Nat) (g:Nat->Pat)
instance:Inhabited Pat:=⟨.nil⟩
def Pat.Kind:Pat->Int
 |.nil=>0
 |.mk x _ _ _ _ _ _=>x
def Pat.Is:Pat->Oh
 |.nil=>default
 |.mk _ x _ _ _ _ _=>x
def Pat.Not:Pat->Bool
 |.nil=>false
 |.mk _ _ x _ _ _ _=>x
def Pat.Min:Pat->Int
 |.nil=>0
 |.mk _ _ _ x _ _ _=>x
def Pat.Max:Pat->Int
 |.nil=>0
 |.mk _ _ _ _ x _ _=>x
def Pat.L:Pat->Sl Pat
 |.nil=>⟨0,fun _=>.nil⟩
 |.mk _ _ _ _ _ n g=>⟨n,g⟩
def De:Pat->Nat->List PV
 |.nil=>fun _=>[]
 |.mk _ _ _ _ _ n g=>fun i=>[(pI .i64 (g i).Kind),pI .u32 (g i).Is.Plus,pI .u32 (g i).Is.Minus,.bb (g i).Not,pI .i64 (g i).Min,pI .i64 (g i).Max,.sl false 7 (g i).L.n (De (g i))]
abbrev E8 (x:Pat):List PV:=[(pI .i64 x.Kind),pI .u32 x.Is.Plus,pI .u32 x.Is.Minus,.bb x.Not,pI .i64 x.Min,pI .i64 x.Max,.sl false 7 x.L.n (De x)]
def CK (x:Pat):∀i,i<x.L.n->De x i=E8 (x.L.g i):=by
 cases x with
 |nil=>intro i a;exact Lq (show i<0 from a) (by omega)
 |mk Kind Is Not Min Max n g=>exact fun _ _=>rfl
structure EV where
 From:Int
 Clear:Int
 Set:Oh
 Take:Int
 Of:Int
 deriving Inhabited,DecidableEq
abbrev U6 (x:EV):List PV:=[(pI .i64 x.From),pI .u32 x.Clear,pI .u32 x.Set.Plus,pI .u32 x.Set.Minus,pI .u32 x.Take,pI .i64 x.Of]
structure Law where
 Name:Str
 Left:Pat
 Right:Pat
 If:(Sl Oh)
 Out:(Sl EV)
 Mode:Int
 deriving Inhabited
abbrev B5 (x:Law):List PV:=[(.str x.Name),pI .i64 x.Left.Kind,pI .u32 x.Left.Is.Plus,pI .u32 x.Left.Is.Minus,.bb x.Left.Not,pI .i64 x.Left.Min,pI .i64 x.Left.Max,.sl false 7 x.Left.L.n (De x.Left),pI .i64 x.Right.Kind,pI .u32 x.Right.Is.Plus,pI .u32 x.Right.Is.Minus,.bb x.Right.Not,pI .i64 x.Right.Min,pI .i64 x.Right.Max,.sl false 7 x.Right.L.n (De x.Right),vSl 2 A0 x.If,vSl 6 U6 x.Out,pI .i64 x.Mode]
structure A3 where
 Tree:(Sl I9)
 Laws:(Sl Law)
 On:(Sl (Sl Int))
 deriving Inhabited
abbrev A7 (x:A3):List PV:=[(vSl 2 G2 x.Tree),vSl 18 B5 x.Laws,vSl 1 (cL 1 (cI .i64)) x.On]
structure Xf where
 N:Int
 D:Int
 deriving Inhabited,DecidableEq
abbrev AU9 (x:Xf):List PV:=[(pI .i64 x.N),pI .i64 x.D]
structure C9 where
 Has:Bool
 W:(Sl Oh)
 deriving Inhabited
abbrev B9 (x:C9):List PV:=[(.bb x.Has),vSl 2 A0 x.W]
structure Entry where
 Gloss:Str
 Forms:(Sl C9)
 deriving Inhabited
abbrev B6 (x:Entry):List PV:=[(.str x.Gloss),vSl 2 B9 x.Forms]
structure A2 where
 Entry:Int
 Leaf:Int
 Kind:Int
 Cost:Int
 deriving Inhabited,DecidableEq
abbrev B7 (x:A2):List PV:=[(pI .i64 x.Entry),pI .i64 x.Leaf,pI .i64 x.Kind,pI .i64 x.Cost]
structure I3 where
 entry:Int
 leaf:Int
 deriving Inhabited,DecidableEq
abbrev Al (x:I3):List PV:=[(pI .i64 x.entry),pI .i64 x.leaf]
inductive Part where
 |nil
 |sound (x:Oh) (no:Bool)
 |edge (e:Bool)
 |seq (n:Nat) (g:Nat->Part)
 |alt (n:Nat) (g:Nat->Part)
 |rep (o:Part) (mn mx:Int)
instance:Inhabited Part:=⟨.nil⟩
def Part.t:Part->Nat
 |.nil=>0
 |.sound _ _=>248
 |.edge _=>250
 |.seq _ _=>255
 |.alt _ _=>252
 |.rep _ _ _=>254
def Part.v:Part->PV
 |.nil=>.bb false
 |.sound x no=>.agg [pI .u32 x.Plus,pI .u32 x.Minus,.bb no]
 |.edge e=>.agg [.bb e]
 |.seq n g=>.agg [.sl false 1 n fun i=>[.iface (g i).t (g i).v]]
 |.alt n g=>.agg [.sl false 1 n fun i=>[.iface (g i).t (g i).v]]
 |.rep o mn mx=>.agg [.iface o.t o.v,pI .i64 mn,pI .i64 mx]
abbrev Gp (x:Part):PV:=.iface x.t x.v
abbrev Ey (x:Part):List PV:=[Gp x]
structure Ac5 where
 is:Oh
 not:Bool
 deriving Inhabited,DecidableEq
abbrev Xg (x:Ac5):List PV:=[(pI .u32 x.is.Plus),pI .u32 x.is.Minus,.bb x.not]
structure AI5 where
 end_:Bool
 deriving Inhabited,DecidableEq
abbrev AI6 (x:AI5):List PV:=[(.bb x.end_)]
structure Palt where
 l:(Sl Part)
 deriving Inhabited
abbrev AV0 (x:Palt):List PV:=[(vSl 1 Ey x.l)]
structure AV1 where
 of:Part
 min:Int
 max:Int
 deriving Inhabited
abbrev AV2 (x:AV1):List PV:=[(Gp x.of),pI .i64 x.min,pI .i64 x.max]
structure Pseq where
 l:(Sl Part)
 deriving Inhabited
abbrev AV3 (x:Pseq):List PV:=[(vSl 1 Ey x.l)]
end Go.AM
namespace Go.AM
open Go.Proofs
abbrev Cw:Nat:=13
def FJ:AZ5[Cw]? = some Tryz.f13:=Bt7
abbrev MK:Nat:=14
abbrev ML:Nat:=16
abbrev KT:Nat:=17
abbrev IY:Nat:=19
abbrev HC:Nat:=21
abbrev Pt:Nat:=23
abbrev HD:Nat:=24
abbrev IZ:Nat:=26
abbrev Ja:Nat:=27
abbrev Ez:Nat:=33
abbrev Jb:Nat:=37
abbrev Jc:Nat:=38
abbrev Pu:Nat:=39
abbrev Ac6:Nat:=40
abbrev Ac7:Nat:=41
abbrev Ac8:Nat:=42
abbrev MM:Nat:=43
abbrev KU:Nat:=44
abbrev KV:Nat:=45
abbrev Gq:Nat:=46
abbrev KW:Nat:=47
abbrev Pv:Nat:=48
abbrev FP:Nat:=49
abbrev EA:Nat:=50
abbrev HE:Nat:=54
abbrev FQ:Nat:=55
abbrev HF:Nat:=56
abbrev G4:Nat:=63
abbrev P7:Nat:=64
abbrev KX:Nat:=65
abbrev Jd:Nat:=66
abbrev Ac9:Nat:=67
abbrev Ad0:Nat:=68
abbrev Gr:Nat:=69
abbrev HG:Nat:=70
abbrev Je:Nat:=71
abbrev Gs:Nat:=72
abbrev HH:Nat:=73
abbrev O1:Nat:=74
abbrev MQ:Nat:=75
abbrev Gt:Nat:=76
abbrev KY:Nat:=77
abbrev Fk:Nat:=78
abbrev MS:Nat:=79
abbrev C0:Nat:=80
abbrev KZ:Nat:=81
abbrev T8:Nat:=82
abbrev MT:Nat:=83
abbrev J5:Nat:=86
abbrev FR:Nat:=87
abbrev HI:Nat:=88
abbrev H5:Nat:=95
abbrev La:Nat:=96
abbrev Gu:Nat:=97
abbrev Bm:Nat:=98
abbrev HJ:Nat:=99
abbrev FS:Nat:=100
abbrev FT:Nat:=101
abbrev Jg:Nat:=102
abbrev Pw:Nat:=103
abbrev Jh:Nat:=104
abbrev Ji:Nat:=105
abbrev MW:Nat:=106
abbrev Lb:Nat:=107
abbrev J1:Nat:=108
abbrev K9:Nat:=109
abbrev Lc:Nat:=110
abbrev An:Nat:=111
abbrev Tf:Nat:=112
abbrev Y0:Nat:=113
abbrev N1:Nat:=116
abbrev Jj:Nat:=121
abbrev HK:Nat:=122
abbrev J3:Nat:=123
abbrev S9:Nat:=124
abbrev I4:Nat:=125
abbrev Z7:Nat:=126
abbrev H6:Nat:=127
abbrev R5:Nat:=128
abbrev DW:Nat:=129
abbrev HL:Nat:=130
abbrev O9:Nat:=131
abbrev K3:Nat:=132
abbrev O3:Nat:=133
abbrev N9:Nat:=134
abbrev Fl:Nat:=135
abbrev Kd:Nat:=140
abbrev L0:Nat:=142
abbrev FV:Nat:=143
abbrev HM:Nat:=144
abbrev Ld:Nat:=152
abbrev F3:Nat:=153
abbrev O4:Nat:=156
abbrev Q6:Nat:=157
abbrev MY:Nat:=158
abbrev MZ:Nat:=167
abbrev Na:Nat:=174
abbrev Th:Nat:=175
abbrev Fm:Nat:=185
abbrev Px:Nat:=186
abbrev N5:Nat:=187
abbrev Ti:Nat:=188
abbrev Tj:Nat:=189
abbrev Jk:Nat:=190
abbrev DE:Nat:=196
abbrev Lf:Nat:=197
abbrev EB:Nat:=198
abbrev I0:Nat:=199
abbrev HN:Nat:=200
abbrev Lg:Nat:=201
abbrev V8:Nat:=209
abbrev Jl:Nat:=210
abbrev Nb:Nat:=211
abbrev Nc:Nat:=212
abbrev Nd:Nat:=213
abbrev Jm:Nat:=214
abbrev Jn:Nat:=215
abbrev HO:Nat:=216
abbrev Gw:Nat:=217
abbrev BY:Nat:=218
abbrev AN:Nat:=219
abbrev P8:Nat:=220
abbrev Ce:Nat:=236
abbrev Dh:Nat:=237
abbrev DY:Nat:=238
abbrev Fn:Nat:=239
abbrev DH:Nat:=240
abbrev Fo:Nat:=241
abbrev Gy:Nat:=242
abbrev Aq:Nat:=243
abbrev Fp:Nat:=244
abbrev F2:Nat:=3
abbrev Xh:Nat:=4
abbrev Ni:Nat:=5
abbrev BZ:Nat:=9
abbrev DI:Nat:=23
abbrev QY:Nat:=26
abbrev Py:Nat:=37
abbrev QZ:Nat:=43
abbrev T9:Nat:=49
abbrev S1:Nat:=51
abbrev E2:Nat:=56
abbrev Q7:Nat:=68
abbrev E3:Nat:=72
abbrev EC:Nat:=87
abbrev P9:Nat:=90
abbrev V9:Nat:=97
abbrev Kf:Nat:=112
abbrev A8:Nat:=128
abbrev Ad5:Nat:=142
abbrev Vp:Nat:=242
end Go.AM
namespace Go.AM
open IntKind (wrap)
abbrev U (x:BitVec 64):Int:=(x.toNat:Int)
def Jp {n:Nat}(h:n<2 ^ 64):IntKind.u64.wrap (n:Int)=n:=by have h1:((n:Int) % (2 ^ 64:Int))=n:=Bk8 (by omega) (by omega);unfold wrap;simp only[IntKind.bits,IntKind.signed,h1,Bi8,Ba2,Ls]
def Vq (x:BitVec 64):BitVec.ofInt 64 (U x)=x:=by
 apply Bd0;rw[Bs5]
 have:=x.isLt
 show ((x.toNat:Int) % ((2 ^ 64:Nat):Int)).toNat=x.toNat;omega
def and64 (x y:BitVec 64):H0 .and .u64 (U x) (U y)=U (x &&& y):=by simp only[H0,IntKind.bits,Vq];exact Jp (x &&& y).isLt
def AY9 (x y:BitVec 64):H0 .or .u64 (U x) (U y)=U (x ||| y):=by simp only[H0,IntKind.bits,Vq];exact Jp (x ||| y).isLt
def As5 (x y:BitVec 64):H0 .andNot .u64 (U x) (U y)=U (x &&& ~~~ y):=by simp only[H0,IntKind.bits,Vq];exact Jp (x &&& ~~~ y).isLt
def shr64 (x:BitVec 64)(n:Nat):shI .shr .u64 (U x) n=U (x >>> n):=by
 simp only[shI,IntKind.bits,AZ2];have hx:=x.isLt;show Int.fdiv (x.toNat:Int) (2 ^ min n 64)=((x >>> n).toNat:Int);rw[Bj5,Bi9];have e:((2:Int) ^ (min n 64))=((2 ^ (min n 64):Nat):Int):=by norm_cast
 rw[e,Bo5 _ (Bs6 _),<- Int.natCast_ediv];congr 1;by_cases h:n<=64
 .rw[Bh4 h]
 rw[Bn2 (by omega),Bh9 hx,Bh9];exact Bc0 hx (Bj1 (by omega) (by omega))
def AV4:(1:Int)=U 1#64:=rfl
def Tn (n:Nat)(h:n<64):shI .shl .u64 1 n=U (1#64 <<< n):=by
 simp only[shI,IntKind.bits,AZ2];rw[Bh4 (by omega)];show wrap .u64 (1*2 ^ n)=((1#64 <<< n).toNat:Int);rw[Bq2,Nat.shiftLeft_eq];have h1:(2:Nat) ^ n<2 ^ 64:=Nat.pow_lt_pow_right (by omega) h;have e:((1:Int)*2 ^ n)=((2 ^ n:Nat):Int):=by norm_cast;omega
 rw[e,Jp h1]
 norm_cast
 rw[Bi5]
 .simp
 simpa using h1
def Vr {i:Nat}:(1#64).getLsbD i=decide (i=0):=by rw[Bo7];simp
def Gz {n i:Nat}(h:n<64)(a:i<64):(1#64 <<< n).getLsbD i=decide (i=n):=by rw[Bp2,Vr,Bd2];simp only[AZ9,Bc7,decide_eq_true_eq,decide_eq_false_iff_not];omega
def bit64 (x:BitVec 64)(i:Nat):(H0 .and .u64 (shI .shr .u64 (U x) (i:Int)) 1==1)=x.getLsbD i:=by
 rw[shr64,AV4,and64];have h:(x >>> i &&& 1#64)=(BitVec.ofBool (x.getLsbD i)).setWidth 64:=by
  apply Bf3;intro j b;simp only[Bb3,Bo6,Bp6,Bq8];by_cases a:j=0
  .subst a;simp
  have:(1#64).getLsbD j=false:=by rw[Vr];simp[a]
  simp[this,a]
 rw[h];cases x.getLsbD i<;>rfl
def As6 {x y:BitVec 64}(h:∀b,b<64->(x.getLsbD b=true↔y.getLsbD b=true)):x=y:=
 Bf3 fun b hb=>Bd2.2 (h b hb)
def HP (n:Nat)(R:Nat->Nat->Prop):Nat->Nat->Nat->Prop
 |0=>fun a b=>a=b
 |k+1=>fun a b=>∃c,c<=n/\HP n R k a c/\R c b
def YO (n:Nat)(Q:Nat->Nat->Nat->Prop):Nat->Nat->Nat->Prop
 |0=>fun a b=>a=b
 |i+1=>fun a b=>∃c,c<=n/\YO n Q i a c/\Q i c b
def Fwd (n:Nat)(R:Nat->Nat->Prop):Prop:=∀a b,a<=n->R a b->a<=b/\b<=n
def Jq {n:Nat}{R:Nat->Nat->Prop}(h:Fwd n R):∀k,Fwd n (HP n R k)
 |0,a,b,ha,hb=>by obtain rfl:a=b:=hb;exact⟨Ba0 _,ha⟩
 |k+1,a,b,ha,⟨c,hc,h1,h2⟩=>by have g1:=Jq h k a c ha h1;have g2:=h c b hc h2;exact⟨by omega,g2.2⟩
def Xi {n:Nat}{Q:Nat->Nat->Nat->Prop}:∀k,(∀i,i<k->Fwd n (Q i))->Fwd n (YO n Q k)
 |0,_,a,b,ha,hb=>by obtain rfl:a=b:=hb;exact⟨Ba0 _,ha⟩
 |k+1,h,a,b,ha,⟨c,hc,h1,h2⟩=>by have g1:=Xi k (fun i d=>h i (by omega)) a c ha h1;have g2:=h k (by omega) c b hc h2;exact⟨by omega,g2.2⟩
def DJ {n:Nat}{R:Nat->Nat->Prop}(h:Fwd n R)(j:Nat){a:Nat}(ha:a<=n):∀k b,HP n R (j+k) a b ↔ ∃c,c<=n/\HP n R j a c/\HP n R k c b
 |0,b=>⟨fun hp=>⟨b,(Jq h j a b ha hp).2,hp,rfl⟩,fun⟨c,_,hp,e⟩=>by obtain rfl:c=b:=e;exact hp⟩
 |k+1,b=>by
  constructor
  .rintro⟨d,f,h1,g⟩;obtain⟨c,hc,g1,g2⟩:=(DJ h j ha k d).1 h1;exact⟨c,hc,g1,d,f,g2,g⟩
  rintro⟨c,hc,g1,d,f,g2,g⟩;exact⟨d,f,(DJ h j ha k d).2 ⟨c,hc,g1,g2⟩,g⟩
def Pz {n:Nat}{R:Nat->Nat->Prop}(h:Fwd n R){a:Nat}(ha:a<=n):∀k b,HP n R (k+1) a b->HP n R k a b \/ a+(k+1)<=b
 |0,b,⟨c,hc,h1,h2⟩=>by
  obtain rfl:a=c:=h1;by_cases e:a=b
  .exact .inl e
  have:=(h a b ha h2).1;exact .inr (by omega)
 |k+1,b,⟨c,hc,h1,h2⟩=>by
  by_cases e:c=b
  .subst e;exact .inl h1
  have:=(h c b hc h2).1
  rcases Pz h ha k c h1 with g|g
  .exact .inl ⟨c,hc,g,h2⟩
  exact .inr (by omega)
def To {n:Nat}{R:Nat->Nat->Prop}(h:Fwd n R){a:Nat}(ha:a<=n){k b:Nat}(hk:n<=k)(hp:HP n R (k+1) a b):HP n R k a b:=by
 rcases Pz h ha k b hp with g|g
 .exact g
 have:=(Jq h (k+1) a b ha hp).2;omega
def Tp {n:Nat}{R:Nat->Nat->Prop}(h:Fwd n R){a:Nat}(ha:a<=n){b:Nat}:∀k,HP n R k a b->∃j,j<=n/\HP n R j a b
 |0,hp=>⟨0,Bi0 _,hp⟩
 |k+1,hp=>by
  by_cases hk:n<=k
  .exact Tp h ha k (To h ha hk hp)
  exact⟨k+1,by omega,hp⟩
def Nj {n:Nat}{R:Nat->Nat->Prop}(h:Fwd n R){a:Nat}(ha:a<=n):∀k b,HP n (fun x y=>R x y \/ x=y) k a b ↔ ∃j,j<=k/\HP n R j a b
 |0,b=>⟨fun e=>⟨0,Ba0 _,e⟩,fun⟨j,f,hp⟩=>by
  obtain rfl:j=0:=by omega
  exact hp⟩
 |k+1,b=>by
  constructor
  .rintro⟨c,hc,h1,d⟩;obtain⟨j,f,hp⟩:=(Nj h ha k c).1 h1;rcases d with d|d
   .exact⟨j+1,by omega,c,hc,hp,d⟩
   subst d;exact⟨j,by omega,hp⟩
  rintro⟨j,f,hp⟩;by_cases e:j<=k
  .have hb:=(Jq h j a b ha hp).2;exact⟨b,hb,(Nj h ha k b).2 ⟨j,e,hp⟩,.inr rfl⟩
  obtain rfl:j=k+1:=by omega
  obtain⟨c,hc,h1,d⟩:=hp;exact⟨c,hc,(Nj h ha k c).2 ⟨k,Ba0 _,h1⟩,.inl d⟩
def Vs (s c:Oh):Bool:=(H0 .and .u32 s.Plus c.Plus==c.Plus)&&(H0 .and .u32 s.Minus c.Minus==c.Minus)
def PR (w:Sl Oh):Pat->Nat->Nat->Prop
 |.nil=>fun a b=>a=b
 |.mk kind is no mn mx m g=>fun a b=>
  if kind=0 then a=b
  else if kind=1 then a<w.n/\b=a+1/\(Vs (w.g a) is != no)=true
  else if kind=2 then a=0/\b=0
  else if kind=6 then a=w.n/\b=w.n
  else if kind=3 then YO w.n (fun i=>PR w (g i)) m a b
  else if kind=4 then ∃i,i<m/\PR w (g i) a b
  else if kind=5 then ∃k:Nat,mn<=k/\(mx = -1 \/ (k:Int)<=mx)/\HP w.n (PR w (g 0)) k a b
  else False
def Tq (w:Sl Oh):∀p:Pat,Fwd w.n (PR w p)
 |.nil,a,b,ha,h=>by obtain rfl:a=b:=h;exact⟨Ba0 _,ha⟩
 |.mk kind is no mn mx m g,a,b,ha,h=>by
  simp only[PR]at h;split at h
  .subst h;exact⟨Ba0 _,ha⟩
  split at h
  .obtain⟨h1,d,_⟩:=h;omega
  split at h
  .omega
  split at h
  .omega
  split at h
  .exact Xi m (fun i _=>Tq w (g i)) a b ha h
  split at h
  .obtain⟨i,_,c⟩:=h;exact Tq w (g i) a b ha c
  split at h
  .obtain⟨k,_,_,hk⟩:=h;exact Jq (Tq w (g 0)) k a b ha hk
  exact h.elim
def TabR (n:Nat)(R:Nat->Nat->Prop)(f:Nat->Int):Prop:=∀a,a<=n->∃x:BitVec 64,f a=U x/\∀b,b<64->(x.getLsbD b=true↔b<=n/\R a b)
def TabR.congr {n:Nat}{R R' : Nat->Nat->Prop}{f:Nat->Int}(h:TabR n R f)(d:∀a b,a<=n->b<=n->(R a b↔R' a b)):TabR n R' f:=fun a ha=>by obtain⟨x,e,hx⟩:=h a ha;refine⟨x,e,fun b hb=>(hx b hb).trans ⟨fun⟨h1,c⟩=>⟨h1,(d a b ha h1).1 c⟩,fun⟨h1,c⟩=>⟨h1,(d a b ha h1).2 c⟩⟩⟩
def TabR.uniq {n:Nat}{R:Nat->Nat->Prop}{f g:Nat->Int}(h:TabR n R f)(h' : TabR n R g){a:Nat}(ha:a<=n):f a=g a:=by obtain⟨x,e,hx⟩:=h a ha;obtain⟨y,e',hy⟩:=h' a ha;rw[e,e',As6 fun b hb=>(hx b hb).trans (hy b hb).symm]
def TabR.bit {n:Nat}{R:Nat->Nat->Prop}{f:Nat->Int}(h:TabR n R f){a b:Nat}(ha:a<=n)(hb:b<64):(H0 .and .u64 (shI .shr .u64 (f a) (b:Int)) 1==1)=true↔b<=n/\R a b:=by obtain⟨x,e,hx⟩:=h a ha;rw[e,bit64];exact hx b hb
end Go.AM
namespace Go.AM
open Go.Proofs.Tryz
variable {N:Nat}
open Go.Proofs
abbrev As7:List AV:=[.reg 0 0,.reg 1 0,.reg 2 0,.reg 3 0]
abbrev Vt (c:Int)(a:Sl Law)(b:Sl Oh)(y:PV):List Obj:=[.cells [pN c],.cells [.p (vSl 18 B5 a)],.cells [.p (vSl 2 A0 b)],.cells [.p y]]
structure Nk (S:Aj):Prop where
 attR:∀{a:Sl Law}{b y:Sl Oh},FunO S I4 [.p (vSl 18 B5 a),.p (vSl 2 A0 b)] [] (.p (vSl 2 A0 y)) [] []->FunO S J3 As7 (Vt 0 a b M9) (.tup []) (Vt 0 a b (vSl 2 A0 y)) [true,true,true,true]
 attP:∀{a:Sl Law}{b:Sl Oh}{c:Int},(S.F I4 [.p (vSl 18 B5 a),.p (vSl 2 A0 b)] [] fun res o k=>res=.panic (.iface 181 (pI .i64 c))/\o=[]/\k=[])->FunO S J3 As7 (Vt 0 a b M9) (.tup []) (Vt c a b M9) [true,true,true,true]
 tz:∀x:BitVec 64,Am3 S P8 [.p (pI .u64 (U x))] (.p (pI .i64 (Lib.ctz 64 x.toNat:Nat)))
 trim:∀s c:Str,s.length<1000000000000->c.length<1000000->(∀b∈c,b.toNat<128)->Am3 S DW [.p (.str s),.p (.str c)] (.p (.str (Lib.trimS s c)))
 growS:∀(f:Nat->List PV) (n:Nat),n*8<=140737488355328->FunO S I0 [.p M9,.p (pI .i64 (n:Int))] [] (.vec 0) [.vec E3 2 0 f false] []
def G7 (N:Nat)(x:Int):Option Int:=if 0<=x/\x<18446744073709551616 then some ((Lib.ctz 64 x.toNat:Nat):Int)else none
def DZ (N:Nat)(s c:Str):Option Str:=if s.length<1000000000000/\c.length<1000000/\(c.all fun b=>decide (b.toNat<128)) then some (Lib.trimS s c)else none
def I1 (N:Nat)(n:Int):Option (Sl Oh):=if 0<=n/\n*8<=140737488355328 then some (Sl.nil:Sl Oh)else none
section
variable {S:Aj}(Z:H1 S Tryz.prog) (Y:Nk S)
include Z Y
theorem Di {x y:Int}(h:G7 N x=some y):FunO S P8 [.p (pI .u64 x)] [] (.p (pI .i64 y)) [] []:=by
 obtain⟨⟨a,h1⟩,h⟩:=H4 h;obtain rfl:=D4 h
 have:=Y.tz (BitVec.ofNat 64 x.toNat)
 have e:(BitVec.ofNat 64 x.toNat).toNat=x.toNat:=by rw[Bs9];omega
 have e2:U (BitVec.ofNat 64 x.toNat)=x:=by show ((BitVec.ofNat 64 x.toNat).toNat:Int)=x;rw[e];omega
 rw[e,e2]at this;exact this
theorem Ou {s c:Str}{y:Str}(h:DZ N s c=some y):FunO S DW [.p (.str s),.p (.str c)] [] (.p (.str y)) [] []:=by obtain⟨⟨a,h1,d⟩,h⟩:=H4 h;obtain rfl:=D4 h;exact Y.trim s c a h1 fun b hb=>by simpa using Bb4.1 d b hb
theorem AB {n:Int}{y:Sl Oh}(h:I1 N n=some y):FunO S I0 [.p M9,.p (pI .i64 n)] [] (.vec 0) [.vec E3 2 y.n (fun i=>A0 (y.g i)) false] []:=by
 obtain⟨⟨a,h1⟩,h⟩:=H4 h;obtain rfl:=D4 h
 have:=Y.growS (fun i=>A0 default) n.toNat (by omega)
 rw[show ((n.toNat:Nat):Int)=n by omega]at this;exact this
def A6 (N:Nat)(s:Sl Oh):Option (Sl Oh):=if (0+s.n)*8<=140737488355328/\0+s.n<=140737488355328 then some s else none
theorem O5 {s y:Sl Oh}(h:A6 N s=some y):FunO S H6 [.p (vSl 2 A0 s)] [] (.vec 0) [.vec E3 2 y.n (fun i=>A0 (y.g i)) true] []:=by
 unfold A6 at h;obtain⟨c1,h⟩:=H4 h;obtain rfl:=D4 h;refine A5 Z func127 ?_;refine AH4 Z Lu 3 (k:=2) (n:=s.n) (f:=fun i=>A0 (s.g i)) (fun a=>?_) ?_
 .obtain⟨n,g⟩:=s;obtain rfl:n=0:=a;exact B1 Z Lu ⟨[(2,.vec 3700)],[(3700,.vec E3 2 0 (fun i=>A0 (g i)) true)]⟩ [3700] (ids:=[]) ⟨rfl,rfl,rfl⟩
 exact B1 Z (And.intro Ob c1) ⟨[(2,.vec 8000)],[(8000,.vec E3 2 s.n (fun i=>A0 (s.g i)) true)]⟩ [8000] (ids:=[(8000,8000)]) ⟨rfl,rfl,rfl⟩
  (hle:=klR [(0,.fn (0+s.n) s.n (BA 0 (E5 [pI .u32 0,pI .u32 0] []) (fun i=>A0 (s.g i))) (fun i=>A0 (s.g i)))] (al1 ⟨Bd4 _,fun i _=>by simp[BA]⟩ al0))
def G3 (N:Nat)(s:Sl EV):Option (Sl EV):=if (0+s.n)*32<=140737488355328/\0+s.n<=140737488355328 then some s else none
theorem Aa {s y:Sl Oh}(h:A6 N s=some y):FunO S H6 [.p (vSl 2 A0 s)] [] (.p (vSl 2 A0 y)) [] []:=by
 unfold A6 at h;obtain⟨c1,h⟩:=H4 h;obtain rfl:=D4 h;refine A5 Z func127 ?_;refine AH4 Z Lu 3 (k:=2) (n:=s.n) (f:=fun i=>A0 (s.g i)) (fun a=>?_) ?_
 .obtain⟨n,g⟩:=s;obtain rfl:n=0:=a;exact B1 Z Lu ⟨[(2,.p (vSl 2 A0 ⟨0,g⟩))],[]⟩ [] (ids:=[]) ⟨rfl,rfl,rfl⟩
 exact B1 Z (And.intro Ob c1) ⟨[(2,.p (vSl 2 A0 s))],[]⟩ [] (ids:=[]) ⟨rfl,rfl,rfl⟩
  (hle:=klR [(0,.fn (0+s.n) s.n (BA 0 (E5 [pI .u32 0,pI .u32 0] []) (fun i=>A0 (s.g i))) (fun i=>A0 (s.g i)))] (al1 ⟨Bd4 _,fun i _=>by simp[BA]⟩ al0))
theorem Bd {s y:Sl EV}(h:G3 N s=some y):FunO S R5 [.p (vSl 6 U6 s)] [] (.p (vSl 6 U6 y)) [] []:=by
 unfold G3 at h;obtain⟨c1,h⟩:=H4 h;obtain rfl:=D4 h;refine A5 Z func128 ?_;refine AH4 Z Lu 3 (k:=6) (n:=s.n) (f:=fun i=>U6 (s.g i)) (fun a=>?_) ?_
 .obtain⟨n,g⟩:=s;obtain rfl:n=0:=a;exact B1 Z Lu ⟨[(2,.p (vSl 6 U6 ⟨0,g⟩))],[]⟩ [] (ids:=[]) ⟨rfl,rfl,rfl⟩
 exact B1 Z (And.intro Ob c1) ⟨[(2,.p (vSl 6 U6 s))],[]⟩ [] (ids:=[]) ⟨rfl,rfl,rfl⟩
  (hle:=klR [(0,.fn (0+s.n) s.n (BA 0 (E5 [pI .i64 0,pI .u32 0,pI .u32 0,pI .u32 0,pI .u32 0,pI .i64 0] []) (fun i=>U6 (s.g i))) (fun i=>U6 (s.g i)))] (al1 ⟨Bd4 _,fun i _=>by simp[BA]⟩ al0))
end
end Go.AM
set_option maxRecDepth 100000
namespace Go.AM
open Go.Proofs.Tryz
open Go.Proofs
def YP (v:Value)(w:World):(Instr.typeAssert (.iface 181 v) 20 181 true).run Tryz.prog w=.ok (.tuple #[v,.bool true]) w:=by kernel_rfl
def Vu (p:Value)(w:World):CallsDIn Fence.wide 0 Tryz.prog S9 #[p] .returning w fun e u' w'=>e=.returned (.tuple #[])/\u' = .returning/\w' = w:=by
 refine callsDIn_of_wpSIn func124 rfl (by simp[Fence.wide]) fun c₀ cs a=>?_;apply wpSIn_seq;apply wpSIn_region;simp[wpOpsSIn,go_sem,recoverD,a,f124,Exit.thenS];refine wpSIn_of_wpIn rfl (wpIn_block (wpIn_seq (wpIn_region ?_)));simp[wpOpsIn,Oper.wpIn,Oper.semAt,Oper.uponIn,go_sem,Exit.then];refine wpIn_cond (t:=true) (by simp[Act.eval]) ?_;simp only[Lr];refine wpIn_region ?_;simp[wpOpsIn,Oper.wpIn,Oper.semAt,Oper.uponIn,go_sem,Exit.inBlock,bodyPostS,results];cases c₀
 simp_all
def Ly (p:Value)(c:Int)(older:List PanicEntry)(w w1:World)(a:(Instr.storeAt 33 p (.int .i64 c)).run Tryz.prog w=.ok () w1)(hn:∃b,p=.pointer (some b)) :CallsDIn Fence.wide 0 Tryz.prog S9 #[p] (.panicking ({ v:=.iface 181 (.int .i64 c),recovered:=false }::older)) w fun e u' w'=>
  e=.returned (.tuple #[])/\u' = .panicking ({ v:=.iface 181 (.int .i64 c),recovered:=true }::older)/\w' = w1:=by
 obtain⟨b,rfl⟩:=hn;refine callsDIn_of_wpSIn func124 rfl (by simp[Fence.wide]) fun c₀ cs d=>?_;apply wpSIn_seq;apply wpSIn_region;simp[wpOpsSIn,go_sem,recoverD,d,f124,Exit.thenS];refine wpSIn_of_wpIn rfl (wpIn_block (wpIn_seq (wpIn_region ?_)));simp[wpOpsIn,Oper.wpIn,Oper.semAt,Oper.uponIn,go_sem,Exit.then];refine wpIn_cond (t:=false) (by simp[Act.eval]) ?_;simp only[Ba2,Ls];refine wpIn_seq (wpIn_region ?_);simp[wpOpsIn,Oper.wpIn,Oper.semAt,Oper.uponIn,go_sem,Exit.then,YP];refine wpIn_cond (t:=true) (by simp[Act.eval]) ?_;simp only[Lr];refine wpIn_seq (wpIn_region ?_);simp[wpOpsIn,Oper.wpIn,Oper.semAt,Oper.uponIn,go_sem,Exit.then];refine wpIn_region ?_;simp[wpOpsIn,Oper.wpIn,Oper.semAt,Oper.uponIn,go_sem,a,Exit.inBlock,bodyPostS,results];simp[go_sem]at a;rw[a];simp[Result.andThen]
noncomputable def AO6:Code:=match Tryz.f123.body with
 |some (.seq _ c)=>c
 |_=>.skip
def AJ2 {S:Aj}(Z:H1 S Tryz.prog){a:Sl Law}{b y:Sl Oh}(c:FunO S I4 [.p (vSl 18 B5 a),.p (vSl 2 A0 b)] [] (.p (vSl 2 A0 y)) [] []) :KG S Tryz.prog (Pr S (fun st=>J9 [0,1,2,3] st.regs [0,1,2,3]=some (Vt 0 a b (vSl 2 A0 y))) fun _ _=>False) (.code AO6 [] ⟨argEnv As7,objRegs (Vt 0 a b M9)⟩):=by refine D2 Z [] Lu c ?_;exact K_upN Z Lu ⟨[],[(3,.cells [.p (vSl 2 A0 y)]),(2,.cells [.p (vSl 2 A0 b)]),(1,.cells [.p (vSl 18 B5 a)]),(0,.cells [pN 0])]⟩ (ids:=[(0,0),(1,1),(2,2),(3,3)]) rfl
def Ad6 {S:Aj}(Z:H1 S Tryz.prog){a:Sl Law}{b:Sl Oh}{c:Int}(d:S.F I4 [.p (vSl 18 B5 a),.p (vSl 2 A0 b)] [] fun res o k=>res=.panic (.iface 181 (pI .i64 c))/\o=[]/\k=[]) :KG S Tryz.prog (Pr S (fun _=>False) fun x st=>x=.iface 181 (pI .i64 c)/\store Tryz.prog st.regs 33 (.reg 0 0) (.p (pI .i64 c))=some ([],ins 0 (.cells [pN c]) st.regs)/\J9 [0,1,2,3] (ins 0 (.cells [pN c]) st.regs) [0,1,2,3]=some (Vt c a b M9)) (.code AO6 [] ⟨argEnv As7,objRegs (Vt 0 a b M9)⟩):=by refine AI3 Z [] Lu d ?_;exact K_upP Z Lu ⟨rfl,by kernel_rfl,by kernel_rfl⟩
noncomputable def att1:Code:=match Tryz.f123.body with
 |some (.seq c _)=>c
 |_=>.skip
noncomputable def attOps:Array Oper:=match AO6 with
 |.region _ ops _=>ops
 |_=>#[]
def Xj:AO6=.region 1 attOps false:=by kernel_rfl
def AV5:attOps.toList.all (Hv 7 attOps.toList)=true:=by kernel_rfl
def As8:¬Tryz.f123.name = "runtime.NumGoroutine" := by decide +kernel
def Xk:Tryz.f123.body=some (.seq att1 AO6):=by kernel_rfl
def AJ3 {C:Ctx}{vs:Array Value}{w:World}{rho:Nat->Value}{args:List AV}{objs:List Obj}{n:Nat}(Z:Sat C ⟨argEnv args,objRegs objs⟩ ⟨vs,[]⟩ w rho)(a:vs.size=args.length) :Sat C ⟨argEnv args,objRegs objs⟩ { tmps:=vs++Array.replicate n undef,defers:=[] } w rho:=by
 refine⟨Z.toSatE,fun t=>?_,Z.pin,Z.marks⟩
 have:=Z.env t
 by_cases ht:t<vs.size
 .simpa[AZ7,Bh5,ht]using this
 show RepA w _ _ _ _ (get (argEnv args) t);rw[AX,AZ3,Be5 (by omega)];exact .top _
def Nl {R:St->Prop}{X:PV->St->Prop}{a:Sl Law}{b:Sl Oh}{objs' : List Obj}
 (a1:KG (Ht Tryz.prog) Tryz.prog (Pr (Ht Tryz.prog) R X) (.code AO6 [] ⟨argEnv As7,objRegs (Vt 0 a b M9)⟩))
 (hR:∀st,R st->J9 [0,1,2,3] st.regs [0,1,2,3]=some objs')
 (hX:∀x st,X x st->∃c regs',x=.iface 181 (pI .i64 c)/\store Tryz.prog st.regs 33 (.reg 0 0) (.p (pI .i64 c))=some ([],regs')/\J9 [0,1,2,3] regs' [0,1,2,3]=some objs') :
 FunO (Ht Tryz.prog) J3 As7 (Vt 0 a b M9) (.tup []) objs' [true,true,true,true]:=by
 intro 𝒢 C w vs rho hG Z t;obtain⟨l⟩:=vs
 match l,t with
 |[v0,v1,v2,v3],t=>?_
 refine⟨.enter J3 #[v0,v1,v2,v3],w,by simp[callFunc,func123,Xk,As8],?_⟩;refine callsIn_of_wp_marks func123 Xk Lu ?_;have a2:=AJ3 (n:=Tryz.f123.ntmps-4) Z t;have a9:Tryz.f123.ntmps-4=3:=rfl;rw[a9]at a2;have b1:((#[v0,v1,v2,v3]:Array Value)++Array.replicate 3 undef).size=7:=rfl;have hw:JK (Ht Tryz.prog) Tryz.prog attOps.toList attOps.toList (Pr (Ht Tryz.prog) R X) ⟨argEnv As7,objRegs (Vt 0 a b M9)⟩:=by
  have:=a1.out
  rw[Xj]at this;simpa only[G,awp,kp,Ba2,Ls]using this
 have a4:=Mu (𝒢:=𝒢.fix C.rho0) (n:=7) (ro:=none) (ops:=attOps) AV5 attOps.toList 0 rfl (by simp) ⟨hG,rfl⟩ a2 b1 hw;have a5:=IX [{ target:=.fn (.func S9) #[],args:=#[v0] }] _ _ _ a4;rw[Bo8]at a5;obtain⟨b0,a6,u⟩:∃b0,v0=.pointer (some ⟨b0,0,none⟩)/\rho 0=.pointer (some ⟨b0,0,none⟩):=by
  have h0:RepA w _ _ rho v0 (.reg 0 0):=Z.env 0;cases h0 with
  |reg _ _ b0 _ h=>exact⟨b0,rfl,h⟩
 have s:∀{C' : Ctx}{st' : St}{a' : Act}{w' : World}{rho' : Nat->Value},(𝒢.fix C.rho0).G C' -> Sat C' st' a' w' rho' -> J9 [0,1,2,3] st'.regs [0,1,2,3]=some objs' ->
  LeavesInM Fence.wide 0 Tryz.prog f123 a'.tmps (fun e w'=>∃C' r objs0 ks rho', 𝒢.G C' /\ (r=.ret (.tup [])/\objs0=objs' /\ ks=[true,true,true,true])/\SatE C' (objRegs objs0) w' rho' /\
   AF0 w' (Prv C'.X (A1 (objRegs objs0)) rho') (Lv (A1 (objRegs objs0))) rho' e r/\∀i:Nat,ks[i]? = some true->i<objs0.length/\rho' i=rho i) [] .returning w':=by
  intro C' st' a' w' rho' d f m;obtain⟨g1,g2,g3⟩:=Mv f (by decide) m;obtain⟨hl,hg⟩:=Z6 m;refine⟨.tuple #[],by simp[results,f123],C', .ret (.tup []),objs',_,_,d.1,⟨rfl,rfl,rfl⟩,g1,⟨_,rfl,.tup _ _ rfl fun i hi=>Lq hi (by simp)⟩,?_⟩;intro i hi;have y:i<4:=by
   have:=(Ba8.1 hi).1
   simpa using this
  refine⟨by rw[hl];exact y,?_⟩;have e1:[0,1,2,3][i]? = some i:=by
   match i,y with
   |0,_=>rfl
   |1,_=>rfl
   |2,_=>rfl
   |3,_=>rfl
  obtain⟨o,_,ho,_⟩:=hg i i e1;show rho' ([0,1,2,3].getD i 0)=rho i;rw[Cy e1,f.pin i (by omega) (by simp[Lv,ho]),d.2];refine (Z.pin i (by omega) ?_).symm;rw[Lv,D9]
  match i,y with
  |0,_=>rfl
  |1,_=>rfl
  |2,_=>rfl
  |3,_=>rfl
 generalize hQ:bodyPostM _ _ _ _ _=QQ;refine wpIn_seq ?_;simp only[att1,f123];refine wpIn_region ?_;simp[wpOpsIn,Oper.wpIn,Oper.semAt,Oper.uponIn,go_sem,Exit.then];subst hQ;rw[Xj];refine wpIn_mono (wpIn_region (F:=FW none) a5) ?_;rintro e a' w' ⟨a0,rfl,z⟩;cases e with
 |exit id=>obtain⟨_,_,_,_,_,_,h⟩:=z;exact h.elim
 |goto l=>obtain⟨_,_,_,_,_,_,h⟩:=z;exact h.elim
 |ret=>obtain⟨_,_,_,_,_,_,h⟩:=z;exact h.elim
 |outgrown=>exact z.elim
 |normal=>
  obtain⟨C',st',rho',d,f,a7,hu⟩:=z;obtain⟨st2,rho2,hR2,_,hs2⟩:=hu C' a0 w' rho' f;refine Fj (C:=C') (st:=st2) (rho:=rho2) (by simp) ?_ a0.defers a0 w' rfl rfl hs2;intro a3 w3 q ht;refine⟨by simp,.inr ⟨by simp[Fence.wide],_,_,S9,#[v0],rfl,by simp[go_sem],fun _ _=>trivial,?_⟩⟩;refine (Vu v0 w3).mono ?_;rintro e u' w4 ⟨rfl,rfl,rfl⟩
  have:=s d q (hR st2 hR2)
  rw[ht]at this;exact this
 |panic chain=>
  obtain⟨C',st',rho',v,x,rfl,d,f,a7,hv,hXx⟩:=z;obtain⟨c,regs',rfl,g,m⟩:=hX x st' hXx;obtain rfl:v=.iface 181 (.int .i64 c):=by
   cases hv with
   |iface _ _ _ h=>cases h;rfl
  refine Fj (C:=C') (st:=st') (rho:=rho') (by simp) ?_ a0.defers a0 w' rfl rfl f;intro a3 w3 q ht;have j:Lv (A1 st'.regs) 0:=by
   cases hj:A1 st'.regs 0 with
   |some o=>simp[Lv,hj]
   |none=>
    unfold store at g;split at g
    .simp[hj]at g
    cases g
  have hr0:rho' 0=.pointer (some ⟨b0,0,none⟩):=by rw[q.pin 0 (by omega) j,d.2,<- u];exact (Z.pin 0 (by omega) rfl).symm
  have hva:RS C' st' w3 rho' v0 (.reg 0 0):=by rw[a6];exact .reg 0 0 b0 j hr0
  obtain⟨w4,a8,hs4,_⟩:=Mj q (vx:=.int .i64 c) hva (.p _ _ (.v _)) g Lu;refine⟨by simp,.inr ⟨by simp[Fence.wide],_,_,S9,#[v0],rfl,by simp[go_sem],fun _ _=>trivial,?_⟩⟩;refine (Ly v0 c [] w3 w4 a8 ⟨_,a6⟩).mono ?_;rintro e u' w5 ⟨rfl,rfl,rfl⟩
  have:=s d hs4 m
  rw[ht]at this;exact this
def Vv {a:Sl Law}{b y:Sl Oh}(c:FunO (Ht Tryz.prog) I4 [.p (vSl 18 B5 a),.p (vSl 2 A0 b)] [] (.p (vSl 2 A0 y)) [] []) :FunO (Ht Tryz.prog) J3 As7 (Vt 0 a b M9) (.tup []) (Vt 0 a b (vSl 2 A0 y)) [true,true,true,true]:=
 Nl (AJ2 (good Tryz.prog) c) (fun st h=>h) (fun x st h=>h.elim)
def Ra {a:Sl Law}{b:Sl Oh}{c:Int}(d:(Ht Tryz.prog).F I4 [.p (vSl 18 B5 a),.p (vSl 2 A0 b)] [] fun res o k=>res=.panic (.iface 181 (pI .i64 c))/\o=[]/\k=[]) :FunO (Ht Tryz.prog) J3 As7 (Vt 0 a b M9) (.tup []) (Vt c a b M9) [true,true,true,true]:=
 Nl (Ad6 (good Tryz.prog) d) (fun st h=>h.elim) (fun x st h=>⟨c,_,h.1,h.2.1,h.2.2⟩)
end Go.AM
namespace Go.AM
open Go.Proofs.Tryz
variable {N:Nat}
open IntKind (wrap)
open Go.Proofs
set_option maxRecDepth 10000
set_option maxHeartbeats 2000000
variable {S:Aj}(Z:H1 S Tryz.prog) (Y:Nk S)
include Z Y
def H3 (N:Nat)(a:Oh):Option Bool:= some (((H0 .and .u32 a.Plus a.Minus)==0)&&(decide ((H0 .or .u32 a.Plus a.Minus)<=16777215)))
theorem R6 {b:Oh}{y:Bool}(h:H3 N b=some y) :FunO S Ji [.p (.agg (A0 b))] [] (pB y) ([]) []:=by unfold H3 at h;refine A5 Z func105 ?_;refine kB Z (B3 Z) Lu Lu 7 (.n (.a ((H0 .and .u32 b.Plus b.Minus)==0)) (.a (decide ((H0 .or .u32 b.Plus b.Minus)<=16777215)))) ?_;cases h;exact kR Z
def K5 (N:Nat)(b:Oh)(a:Oh):Option Bool:= (H3 N b).bind fun y1=>lt (fun (z1:Bool)=>some z1) fun k1=>if y1 then (H3 N a).bind fun y3=>if y3 then if ((H0 .andNot .u32 a.Plus b.Plus)==0) then k1 ((H0 .andNot .u32 a.Minus b.Minus)==0) else k1 false else k1 false else k1 false
theorem Kg {c:Oh}{a:Oh}{y:Bool}(h:K5 N c a=some y) :FunO S EB [.p (.agg (A0 c)),.p (.agg (A0 a))] [] (pB y) ([]) []:=by
 unfold K5 at h;refine A5 Z func198 ?_;refine kC Z h (R6 Z Y) (fun y1 h=>?_);refine NR Z Lu (B3 Z) h 0 (fun z1=>⟨[(4,pB z1)],[]⟩) (fun M1 k1 b h=>?_) (fun z1 h=>?_)
 .refine kG Z h (fun h=>?_) (fun h=>?_)
  .refine kC Z h (R6 Z Y) (fun y3 h=>?_);refine kG Z h (fun h=>?_) (fun h=>?_)
   .refine kG Z h (fun h=>?_) (fun h=>?_)
    .exact b _ [] _ ((H0 .andNot .u32 a.Minus c.Minus)==0) Lu h
    exact b _ [] _ false Lu h
   exact b _ [] _ false Lu h
  exact b _ [] _ false Lu h
 cases h;exact kR Z
def Dj (N:Nat)(a:Oh):Option Int:= some (H0 .or .u32 a.Plus a.Minus)
theorem Nm {a:Oh}{y:Int}(h:Dj N a=some y) :FunO S Nc [.p (.agg (A0 a))] [] (pU y) ([]) []:=by unfold Dj at h;refine A5 Z func212 ?_;cases h;exact kR Z
def BJ (N:Nat)(c:Oh)(b:Oh)(a:Int):Option Oh:= some (⟨H0 .or .u32 (H0 .andNot .u32 c.Plus a) (H0 .and .u32 b.Plus a),H0 .or .u32 (H0 .andNot .u32 c.Minus a) (H0 .and .u32 b.Minus a)⟩:Oh)
theorem Nn {c:Oh}{a:Oh}{b:Int}{y:Oh}(h:BJ N c a b=some y) :FunO S Nd [.p (.agg (A0 c)),.p (.agg (A0 a)),pU b] [] (.p (.agg (A0 y))) ([]) []:=by unfold BJ at h;refine A5 Z func213 ?_;cases h;exact kR Z
def P0 (N:Nat)(c:Oh)(a:Int)(b:Oh):Option (Oh×Int):= (H3 N c).bind fun y1=>lt (fun (z1:Bool)=>if z1 then some ((⟨0,0⟩:Oh),14) else lt (fun (z2:Bool)=>if z2 then some ((⟨0,0⟩:Oh),2) else (Dj N b).bind fun y6=>(BJ N c b (H0 .or .u32 a y6)).bind fun y7=>some (y7,0)) fun k2=>if (decide (16777215<a)) then k2 true else (Dj N b).bind fun y5=>k2 ((H0 .and .u32 a y5) != 0)) fun k1=>if (!y1) then k1 true else (H3 N b).bind fun y3=>k1 (!y3)
theorem Ov {c:Oh}{a:Int}{b:Oh}{y:Oh×Int}(h:P0 N c a b=some y) :FunO S HN [.p (.agg (A0 c)),pU a,.p (.agg (A0 b))] [] (.tup [.p (.agg (A0 y.1)),pN y.2]) ([]) []:=by
 unfold P0 at h;refine A5 Z func200 ?_;refine N0 Z Lu 5 4000 [pI .u32 c.Plus,pI .u32 c.Minus] ?_;refine N0 Z Lu 6 6000 [pI .u32 b.Plus,pI .u32 b.Minus] ?_;obtain⟨y1,e1,h⟩:=C4 h;refine D2 Z [] Nf (R6 Z Y e1) ?_;refine NR Z Lu (B3 Z) h 0 (fun z1=>⟨[(15,pB z1),(6,.reg 7000 0),(5,.p (.ptr [pI .u32 b.Plus,pI .u32 b.Minus])),(3,.p (.ptr [pI .u32 c.Plus,pI .u32 c.Minus])),(1,pU a)],[(7000,.cells [pU 0,pU 0])]⟩) (fun M1 k1 d h=>?_) (fun z1 h=>?_)
 .refine kG Z h (fun h=>?_) (fun h=>?_)
  .exact d _ [(7000,7000)] _ true Lu h
  obtain⟨y3,e3,h⟩:=C4 h;refine D2 Z [] Nf (R6 Z Y e3) ?_;exact d _ [(7000,7000)] _ (!y3) Lu h
 apply kI Z h<;>intro h
 .cases h;exact kR Z
 refine NR Z Lu (B3 Z) h 0 (fun z2=>⟨[(25,pB z2),(6,.reg 7000 0),(5,.p (.ptr [pI .u32 b.Plus,pI .u32 b.Minus])),(3,.p (.ptr [pI .u32 c.Plus,pI .u32 c.Minus])),(1,pU a)],[(7000,.cells [pU 0,pU 0])]⟩) (fun M2 k2 f h=>?_) (fun z2 h=>?_)
 .refine kG Z h (fun h=>?_) (fun h=>?_)
  .exact f _ [(7000,7000)] _ true Lu h
  obtain⟨y5,e5,h⟩:=C4 h;refine D2 Z [] Nf (Nm Z Y e5) ?_;exact f _ [(7000,7000)] _ ((H0 .and .u32 a y5) != 0) Lu h
 apply kI Z h<;>intro h
 .cases h;exact kR Z
 refine L7 Z Lu [0,1,3,4,6] ?_;obtain⟨y6,e6,h⟩:=C4 h;refine O0 (And.intro (And.intro Nf Nf) Nf) (Nm Z Y e6) ?_;obtain⟨y7,e7,h⟩:=C4 h;refine O0 Lu (Nn Z Y e7) ?_;refine P3 Lu ?_;cases h;exact kR Z
def T4 (N:Nat)(c:Oh)(a:Oh)(b:Int):Option (Oh×Int):= (H3 N c).bind fun y1=>lt (fun (z1:Bool)=>if z1 then some ((⟨0,0⟩:Oh),14) else if (decide (16777215<b)) then some ((⟨0,0⟩:Oh),2) else (BJ N c a b).bind fun y4=>some (y4,0)) fun k1=>if (!y1) then k1 true else (H3 N a).bind fun y3=>k1 (!y3)
theorem Tr {c:Oh}{a:Oh}{b:Int}{y:Oh×Int}(h:T4 N c a b=some y) :FunO S Lg [.p (.agg (A0 c)),.p (.agg (A0 a)),pU b] [] (.tup [.p (.agg (A0 y.1)),pN y.2]) ([]) []:=by
 unfold T4 at h;refine A5 Z func201 ?_;refine kC Z h (R6 Z Y) (fun y1 h=>?_);refine NR Z Lu (B3 Z) h 0 (fun z1=>⟨[(15,pB z1),(6,.reg 7000 0),(4,.reg 5000 0),(3,.reg 4000 0),(2,pU b)],[(7000,.cells [pU 0,pU 0]),(5000,.cells [pU a.Plus,pU a.Minus]),(4000,.cells [pU c.Plus,pU c.Minus])]⟩) (fun M1 k1 d h=>?_) (fun z1 h=>?_)
 .refine kG Z h (fun h=>?_) (fun h=>?_)
  .exact d _ [(4000,4000),(5000,5000),(7000,7000)] _ true Lu h
  refine kC Z h (R6 Z Y) (fun y3 h=>?_);exact d _ [(4000,4000),(5000,5000),(7000,7000)] _ (!y3) Lu h
 apply kI Z h<;>intro h
 .cases h;exact kR Z
 apply kI Z h<;>intro h
 .cases h;exact kR Z
 refine kC Z h (Nn Z Y) (fun y4 h=>?_);cases h;exact kR Z
def K6 (N:Nat)(a:Oh):Option Bool:= Q5 N (fun b (x1:Int)=>if (decide (x1<32)) then if ((0:Int)<=x1/\(0:Int)<=x1)then if ((((H0 .and .u32 (shI .shr .u32 a.Plus x1) 1)==1)&&((H0 .and .u32 (shI .shr .u32 a.Minus x1) 1)==1))||((((H0 .and .u32 (shI .shr .u32 a.Plus x1) 1)==1)||((H0 .and .u32 (shI .shr .u32 a.Minus x1) 1)==1))&&(decide (24<=x1)))) then some false else b (wrap .i64 (x1+1)) else none else some true) 0
def Jr (N:Nat)(a:Int):Option Bool:= some ((decide (0<=a))&&(decide (a<24)))
def Bo (N:Nat)(b:Oh)(a:Int):Option Int:= (K6 N b).bind fun y1=>lt (fun (z1:Bool)=>if z1 then some 0 else if (0:Int)<=a then if ((H0 .and .u32 (shI .shr .u32 b.Plus a) 1)==1) then some 1 else if (0:Int)<=a then if ((H0 .and .u32 (shI .shr .u32 b.Minus a) 1)==1) then some (-1) else some 0 else none else none) fun k1=>if (!y1) then k1 true else (Jr N a).bind fun y3=>k1 (!y3)
def ED (N:Nat)(b:Oh)(a:Int)(c:Int):Option Oh:= if (0:Int)<=a then if (c==1) then if (c==(-1)) then some (⟨H0 .or .u32 (H0 .andNot .u32 b.Plus (shI .shl .u32 1 a)) (shI .shl .u32 1 a),H0 .or .u32 (H0 .andNot .u32 b.Minus (shI .shl .u32 1 a)) (shI .shl .u32 1 a)⟩:Oh) else some (⟨H0 .or .u32 (H0 .andNot .u32 b.Plus (shI .shl .u32 1 a)) (shI .shl .u32 1 a),H0 .andNot .u32 b.Minus (shI .shl .u32 1 a)⟩:Oh) else if (c==(-1)) then some (⟨H0 .andNot .u32 b.Plus (shI .shl .u32 1 a),H0 .or .u32 (H0 .andNot .u32 b.Minus (shI .shl .u32 1 a)) (shI .shl .u32 1 a)⟩:Oh) else some (⟨H0 .andNot .u32 b.Plus (shI .shl .u32 1 a),H0 .andNot .u32 b.Minus (shI .shl .u32 1 a)⟩:Oh) else none
def Y2 (N:Nat)(c:Oh)(a:Oh):Option Bool:= (K6 N c).bind fun y1=>lt (fun (z1:Bool)=>if z1 then some false else Q5 N (fun b (x3:Int)=>if (decide (x3<24)) then (Bo N a x3).bind fun d=>lt (fun (z4:Bool)=>if z4 then some false else b (wrap .i64 (x3+1))) fun k4=>if (d != 0) then (Bo N c x3).bind fun f=>k4 (f != d) else k4 false else some true) 0) fun k1=>if (!y1) then k1 true else (K6 N a).bind fun y3=>k1 (!y3)
def Y3 (N:Nat)(d:Oh)(b:Int)(a:Oh):Option (Oh×Int):= (K6 N d).bind fun y1=>lt (fun (z1:Bool)=>if z1 then some ((⟨0,0⟩:Oh),14) else if ((decide (16777215<b))||((H0 .and .u32 b (H0 .or .u32 a.Plus a.Minus)) != 0)) then some ((⟨0,0⟩:Oh),2) else YA N (fun c (x2:Int) (x3:Int) (x4:Int)=>if (decide (x4<24)) then if (0:Int)<=x4 then if ((H0 .and .u32 (shI .shr .u32 b x4) 1)==1) then (ED N (⟨x2,x3⟩:Oh) x4 0).bind fun f=>(Bo N a x4).bind fun j=>if (j != 0) then (Bo N a x4).bind fun l=>(ED N f x4 l).bind fun g=>c g.Plus g.Minus (wrap .i64 (x4+1)) else c f.Plus f.Minus (wrap .i64 (x4+1)) else (Bo N a x4).bind fun m=>if (m != 0) then (Bo N a x4).bind fun n=>(ED N (⟨x2,x3⟩:Oh) x4 n).bind fun i=>c i.Plus i.Minus (wrap .i64 (x4+1)) else c x2 x3 (wrap .i64 (x4+1)) else none else some ((⟨x2,x3⟩:Oh),0)) d.Plus d.Minus 0) fun k1=>if (!y1) then k1 true else (K6 N a).bind fun y3=>k1 (!y3)
def BK (N:Nat)(d:Oh)(a:Oh)(b:Int):Option (Oh×Int):= (K6 N d).bind fun y1=>lt (fun (z1:Bool)=>if z1 then some ((⟨0,0⟩:Oh),14) else if (decide (16777215<b)) then some ((⟨0,0⟩:Oh),2) else YA N (fun c (x2:Int) (x3:Int) (x4:Int)=>if (decide (x4<24)) then if (0:Int)<=x4 then if ((H0 .and .u32 (shI .shr .u32 b x4) 1)==1) then (Bo N a x4).bind fun y8=>(ED N (⟨x2,x3⟩:Oh) x4 y8).bind fun y9=>c y9.Plus y9.Minus (wrap .i64 (x4+1)) else c x2 x3 (wrap .i64 (x4+1)) else none else some ((⟨x2,x3⟩:Oh),0)) d.Plus d.Minus 0) fun k1=>if (!y1) then k1 true else (K6 N a).bind fun y3=>k1 (!y3)
def Y4 (N:Nat)(a:Oh):Option Bool:= some ((((H0 .and .u32 a.Plus a.Minus)==0)&&(decide (a.Plus<16777216)))&&(decide (a.Minus<16777216)))
def BL (N:Nat)(a:Sl Oh):Option Int:= if (decide (32<(a.n:Int))) then some 11 else Q5 N (fun b (x1:Int)=>if (decide (x1<(a.n:Int))) then if ((0:Int)<=x1/\x1<(a.n:Int))then (Y4 N (a.g x1.toNat)).bind fun y3=>if (!y3) then some 14 else b (wrap .i64 (x1+1)) else none else some 0) 0
def Fq (N:Nat)(a:Sl Oh)(b:Sl Oh):Option Bool:= if ((a.n:Int) != (b.n:Int)) then some false else Q5 N (fun c (x1:Int)=>if (decide (x1<(a.n:Int))) then if (((0:Int)<=x1/\x1<(a.n:Int))/\((0:Int)<=x1/\x1<(b.n:Int)))then if ((((a.g x1.toNat).Plus==(b.g x1.toNat).Plus)&&((a.g x1.toNat).Minus==(b.g x1.toNat).Minus)) != true) then some false else c (wrap .i64 (x1+1)) else none else some true) 0
theorem AJ4 {a:Sl Oh}{b:Sl Oh}{y:Bool}(h:Fq N a b=some y) :FunO S MT [.p (vSl 2 A0 a),.p (vSl 2 A0 b)] [] (pB y) ([]) []:=by
 unfold Fq at h;refine A5 Z func83 ?_;apply kI Z h<;>intro h
 .cases h;exact kR Z
 refine Ak Z Lu h (fun x1=>⟨[(5,pN x1),(1,.p (vSl 2 A0 b)),(0,.p (vSl 2 A0 a))],[]⟩) (ids:=[]) (fun _ _ _ _ _ c x1 d h=>?_);apply kI Z h<;>intro h
 .refine L7 Z Lu [2,3,6,7] ?_;obtain⟨c9,h⟩:=H4 h;refine P3 (And.intro (And.intro (And.intro (And.intro c9.1 Nf) c9.2) Nf) (by decide +kernel:XW Tryz.prog E3=true)) ?_;apply kI Z h<;>intro h
  .cases h;exact kR Z
  exact d _ [] _ (wrap .i64 (x1+1)) Lu h
 cases h;exact kR Z
def Ha (N:Nat)(a:Sl Oh):Option (Sl Oh):= Q3 N (fun b (x1:Sl Oh) (x2:Int)=>if (decide (x2<(a.n:Int))) then if (((0:Int)<=x2/\x2<(a.n:Int))/\((x1.n+(Sl.of [a.g x2.toNat]:Sl Oh).n)*8<=140737488355328/\x1.n+(Sl.of [a.g x2.toNat]:Sl Oh).n<=140737488355328))then b (x1.push (a.g x2.toNat)) (wrap .i64 (x2+1)) else none else some x1) (Sl.nil:Sl Oh) 0
def AZ (N:Nat)(a:Oh):Option Bool:= some (((H0 .and .u32 a.Plus a.Minus)==0)&&((shI .shr .u32 (H0 .or .u32 a.Plus a.Minus) 24)==0))
theorem Ts {a:Oh}{y:Bool}(h:AZ N a=some y) :FunO S KY [.p (.agg (A0 a))] [] (pB y) ([]) []:=by
 unfold AZ at h;refine A5 Z func77 ?_;obtain⟨t1,c⟩:∃x:Bool,x=(((H0 .and .u32 a.Plus a.Minus)==0)&&((shI .shr .u32 (H0 .or .u32 a.Plus a.Minus) 24)==0)):=⟨_,rfl⟩;refine YD Z Lu (B3 Z) 0 ⟨[(2,pB t1)],[]⟩ (fun M1 d=>?_) ?_
 .refine Cz Z Lu (b:=(H0 .and .u32 a.Plus a.Minus)==0) (fun c2=>?_) (fun c2=>?_)
  .exact d _ [] _ (by decide:(0:Int)<=24) (hle:=klR [(0,.eq (.bb ((shI .shr .u32 (H0 .or .u32 a.Plus a.Minus) 24)==0)) (.bb t1))] (al1 (by simp only[c,c2,Leaf.ok,pm,Lr,Ls]) al0))
  exact d _ [] _ Lu (hle:=klR [(0,.eq (.bb false) (.bb t1))] (al1 (by simp only[c,c2,Leaf.ok,pm,Lr,Ls]) al0))
 subst c;cases h;exact kR Z
def J6 (N:Nat)(a:Sl Oh):Option Int:= if (decide (32<(a.n:Int))) then some 11 else Q5 N (fun b (x1:Int)=>if (decide (x1<(a.n:Int))) then if ((0:Int)<=x1/\x1<(a.n:Int))then (AZ N (a.g x1.toNat)).bind fun y3=>if (!y3) then some 14 else b (wrap .i64 (x1+1)) else none else some 0) 0
theorem Ba {a:Sl Oh}{y:Int}(h:J6 N a=some y) :FunO S KW [.p (vSl 2 A0 a)] [] (pN y) ([]) []:=by
 unfold J6 at h;refine A5 Z func47 ?_;apply kI Z h<;>intro h
 .cases h;exact kR Z
 refine Ak Z Lu h (fun x1=>⟨[(10,pN x1),(9,pN (a.n:Int)),(8,.p (vSl 2 A0 a))],[]⟩) (ids:=[]) (fun _ _ _ _ _ b x1 c h=>?_);apply kI Z h<;>intro h
 .obtain⟨c9,h⟩:=H4 h;obtain⟨y3,e3,h⟩:=C4 h;refine D2 Z [] (And.intro c9 Nf) (Ts Z Y e3) ?_;apply kI Z h<;>intro h
  .cases h;exact kR Z
  exact c _ [] _ (wrap .i64 (x1+1)) Lu h
 cases h;exact kR Z
def F5 (N:Nat)(a:Sl Oh)(b:Sl Oh):Option Bool:= if ((a.n:Int) != (b.n:Int)) then some false else Q5 N (fun c (x1:Int)=>if (decide (x1<(a.n:Int))) then if (((0:Int)<=x1/\x1<(a.n:Int))/\((0:Int)<=x1/\x1<(b.n:Int)))then if ((((a.g x1.toNat).Plus==(b.g x1.toNat).Plus)&&((a.g x1.toNat).Minus==(b.g x1.toNat).Minus)) != true) then some false else c (wrap .i64 (x1+1)) else none else some true) 0
theorem Ar {a:Sl Oh}{b:Sl Oh}{y:Bool}(h:F5 N a b=some y) :FunO S O1 [.p (vSl 2 A0 a),.p (vSl 2 A0 b)] [] (pB y) ([]) []:=by
 unfold F5 at h;refine A5 Z func74 ?_;apply kI Z h<;>intro h
 .cases h;exact kR Z
 refine Ak Z Lu h (fun x1=>⟨[(13,pN x1),(12,pN (a.n:Int)),(1,.p (vSl 2 A0 b)),(0,.p (vSl 2 A0 a))],[]⟩) (ids:=[]) (fun _ _ _ _ _ c x1 d h=>?_);apply kI Z h<;>intro h
 .refine L7 Z Lu [2,3,6,7] ?_;obtain⟨c9,h⟩:=H4 h;refine P3 (And.intro (And.intro (And.intro (And.intro c9.1 Nf) c9.2) Nf) (by decide +kernel:XW Tryz.prog E3=true)) ?_;apply kI Z h<;>intro h
  .cases h;exact kR Z
  exact d _ [] _ (wrap .i64 (x1+1)) Lu h
 cases h;exact kR Z
def P1 (N:Nat)(a:Sl Oh)(b:Sl Oh):Option Bool:= (F5 N a b).bind fun y1=>some y1
theorem DK {a:Sl Oh}{b:Sl Oh}{y:Bool}(h:P1 N a b=some y) :FunO S KV [.p (vSl 2 A0 a),.p (vSl 2 A0 b)] [] (pB y) ([]) []:=by unfold P1 at h;refine A5 Z func45 ?_;refine kC Z h (Ar Z Y) (fun y1 h=>?_);cases h;exact kR Z
def P2 (N:Nat)(a:Oh):Option Bool:= some (((H0 .and .u32 a.Plus a.Minus)==0)&&((shI .shr .u32 (H0 .or .u32 a.Plus a.Minus) 24)==0))
theorem DL {a:Oh}{y:Bool}(h:P2 N a=some y) :FunO S Ld [.p (.agg (A0 a))] [] (pB y) ([]) []:=by
 unfold P2 at h;refine A5 Z func152 ?_;obtain⟨t1,c⟩:∃x:Bool,x=(((H0 .and .u32 a.Plus a.Minus)==0)&&((shI .shr .u32 (H0 .or .u32 a.Plus a.Minus) 24)==0)):=⟨_,rfl⟩;refine YD Z Lu (B3 Z) 0 ⟨[(2,pB t1)],[]⟩ (fun M1 d=>?_) ?_
 .refine Cz Z Lu (b:=(H0 .and .u32 a.Plus a.Minus)==0) (fun c2=>?_) (fun c2=>?_)
  .exact d _ [] _ (by decide:(0:Int)<=24) (hle:=klR [(0,.eq (.bb ((shI .shr .u32 (H0 .or .u32 a.Plus a.Minus) 24)==0)) (.bb t1))] (al1 (by simp only[c,c2,Leaf.ok,pm,Lr,Ls]) al0))
  exact d _ [] _ Lu (hle:=klR [(0,.eq (.bb false) (.bb t1))] (al1 (by simp only[c,c2,Leaf.ok,pm,Lr,Ls]) al0))
 subst c;cases h;exact kR Z
def Q0 (N:Nat)(b:Int):Option (Nat->Int):= Q3 N (fun a (x1:Nat->Int) (x2:Int)=>if (decide (x2<(wrap .i64 (b+1)))) then if (((0:Int)<=x2/\((0:Int)<=x2/\x2<33))/\(0+x2.toNat*1)<33)then a (MH x1 (0+x2.toNat*1) (shI .shl .u64 1 x2)) (wrap .i64 (x2+1)) else none else some x1) (fun _=>0) 0
theorem Dk {a:Int}{y:Nat->Int}(h:Q0 N a=some y) :FunO S Gy [pN a] [] (.p (.agg (cA 33 (pI .u64) y))) ([]) []:=by
 unfold Q0 at h;refine A5 Z func242 ?_;refine R4 Z Lu h (fun x1 x2=>⟨[(7,pN x2),(6,pN (wrap .i64 (a+1))),(3,.reg 4000 0),(2,.reg 3000 0)],[(4000,.arr 33 (fun i=>pI .u64 (x1 i))),(3000,.arr 33 (fun i=>pI .u64 ((fun _=>0) i)))]⟩) (ids:=[(3000,3000),(4000,4000)]) (fun _ _ _ _ _ b x1 x2 d h=>?_) (hle:=klR [(2,.fn 33 33 (fun i=>[(fun i=>(List.replicate 33 (pI .u64 0)).getD i default) i]) (fun i=>[pI .u64 ((fun _=>0) i)])),(3,.fn 33 33 (fun i=>[(fun i=>(List.replicate 33 (pI .u64 0)).getD i default) i]) (fun i=>[pI .u64 ((fun _=>0) i)]))] (al1 ⟨rfl,BI (z:=pI .u64 0) rfl⟩ (al1 ⟨rfl,BI (z:=pI .u64 0) rfl⟩ al0)));apply kI Z h<;>intro h
 .obtain⟨c4,h⟩:=H4 h;exact d _ [(3000,3000),(4000,4000)] _ (MH x1 (0+x2.toNat*1) (shI .shl .u64 1 x2)) (wrap .i64 (x2+1)) c4 h (hle:=klR [(2,.fn 33 33 (fun i=>[(fun i=>if i=(0+x2.toNat*1)then (pI .u64 (shI .shl .u64 1 x2))else (fun i=>pI .u64 (x1 i)) i) i]) (fun i=>[pI .u64 (MH x1 (0+x2.toNat*1) (shI .shl .u64 1 x2) i)]))] (al1 ⟨rfl,AH7 (c:=pI .u64) (v:=x1) (x:=shI .shl .u64 1 x2) (fun _ _=>rfl) rfl⟩ al0))
 obtain rfl:=D4 h;exact B1 Z (And.intro rfl (G0 _ _):(0:Nat)=0/\(Cx 33 (fun i=>pI .u64 (x1 i))).length=33) ⟨[(2,.reg 3000 0)],[(3000,.arr 33 (fun i=>pI .u64 (x1 i)))]⟩ [] (ids:=[(3000,3000)]) ⟨rfl,rfl,rfl⟩ (hle:=klR [(0,.fn 33 33 (fun i=>[(fun i=>(cA 33 (pI .u64) x1).getD i default) i]) (fun i=>[pI .u64 (x1 i)]))] (al1 ⟨rfl,E9 33 (fun i=>pI .u64 (x1 i))⟩ al0))
def N6 (N:Nat)(p_x:Nat->Int)(b:Nat->Int):Option (Nat->Int):= Q3 N (fun a (x1:Nat->Int) (x2:Int)=>if (decide (x2<33)) then if (((0:Int)<=x2/\x2<33)/\(0+x2.toNat*1)<33)then if (((((0:Int)<=x2/\x2<33)/\(0+x2.toNat*1)<33)/\((0:Int)<=x2/\x2<33))/\(0+x2.toNat*1)<33)then a (MH x1 (0+x2.toNat*1) (H0 .or .u64 (x1 (0+x2.toNat*1)) (b (0+x2.toNat*1)))) (wrap .i64 (x2+1)) else none else none else some x1) p_x 0
theorem DM {p_x:Nat->Int}{a:Nat->Int}{y:Nat->Int}(h:N6 N p_x a=some y) :FunO S DH [.reg 0 0,.reg 1 0] [.arr 33 (fun i=>pI .u64 (p_x i)),.arr 33 (fun i=>pI .u64 (a i))] (.tup []) ([.arr 33 (fun i=>pI .u64 (y i)),.arr 33 (fun i=>pI .u64 (a i))]) [true,true]:=by
 unfold N6 at h;refine A5 Z func240 ?_;refine R4 Z Lu h (fun x1 x2=>⟨[(7,pN x2),(6,.reg 1 0),(0,.reg 0 0)],[(1,.arr 33 (fun i=>pI .u64 (a i))),(0,.arr 33 (fun i=>pI .u64 (x1 i)))]⟩) (ids:=[(0,0),(1,1)]) (fun _ _ _ _ _ b x1 x2 d h=>?_);apply kI Z h<;>intro h
 .refine DT Z Lu ?_;obtain⟨c8,h⟩:=H4 h;refine P3 c8 ?_;refine DT Z Lu ?_;obtain⟨c9,h⟩:=H4 h;refine P3 c9 ?_;exact d _ [(0,0),(1,1)] _ (MH x1 (0+x2.toNat*1) (H0 .or .u64 (x1 (0+x2.toNat*1)) (a (0+x2.toNat*1)))) (wrap .i64 (x2+1)) Lu h (hle:=klR [(2,.fn 33 33 (fun i=>[(fun i=>if i=(0+x2.toNat*1)then (pI .u64 (H0 .or .u64 (x1 (0+x2.toNat*1)) (a (0+x2.toNat*1))))else (fun i=>pI .u64 (x1 i)) i) i]) (fun i=>[pI .u64 (MH x1 (0+x2.toNat*1) (H0 .or .u64 (x1 (0+x2.toNat*1)) (a (0+x2.toNat*1))) i)]))] (al1 ⟨rfl,AH7 (c:=pI .u64) (v:=x1) (x:=H0 .or .u64 (x1 (0+x2.toNat*1)) (a (0+x2.toNat*1))) (fun _ _=>rfl) rfl⟩ al0))
 obtain rfl:=D4 h;exact B1 Z Lu ⟨[],[(1,.arr 33 (fun i=>pI .u64 (a i))),(0,.arr 33 (fun i=>pI .u64 (x1 i)))]⟩ [0,1] (ids:=[(0,0),(1,1)]) ⟨rfl,rfl,rfl⟩
def Ab (N:Nat)(b:Sl Oh)(a:Int):Option Int:= if ((decide (a<0))||(decide ((b.n:Int)<a))) then some 3 else some 0
theorem Js {c:Sl Oh}{b:Int}{y:Int}(h:Ab N c b=some y) :FunO S Jn [.p (vSl 2 A0 c),pN b] [] (pN y) ([]) []:=by
 unfold Ab at h;refine A5 Z func215 ?_;refine kB Z (B3 Z) Lu Lu 5 (.o (.a (decide (b<0))) (.a (decide ((c.n:Int)<b)))) ?_;apply kI Z h<;>intro h
 .cases h;exact kR Z
 cases h;exact kR Z
def AC (N:Nat)(a:Pat):Option Int:= if (if (a.Kind==0) then a.Kind==0 else (if (a.Kind==2) then a.Kind==2 else a.Kind==6)) then lt (fun (z1:Bool)=>if z1 then some 2 else (P2 N a.Is).bind fun y1=>if (!y1) then some 14 else some 0) fun k1=>if (((a.Is.Plus==0)&&(a.Is.Minus==0)) != true) then k1 true else if a.Not then k1 true else if (a.Min != 0) then k1 true else if (a.Max != 0) then k1 true else k1 (decide (0<(a.L.n:Int))) else if (a.Kind==1) then lt (fun (z2:Bool)=>if z2 then some 2 else (P2 N a.Is).bind fun y2=>if (!y2) then some 14 else some 0) fun k2=>if (((0==0)&&(0==0)) != true) then k2 true else if (a.Min != 0) then k2 true else if (a.Max != 0) then k2 true else k2 (decide (0<(a.L.n:Int))) else lt (fun (z3:Int×Int)=>if (((((((a.Is.Plus==0)&&(a.Is.Minus==0)) != true)||a.Not)||(z3.1 != 0))||(z3.2 != 0))||(decide (0<0))) then some 2 else (P2 N a.Is).bind fun y3=>if (!y3) then some 14 else some 0) fun k3=>if (if (a.Kind==3) then a.Kind==3 else a.Kind==4) then k3 (a.Min,a.Max) else if (a.Kind==5) then if (((((a.L.n:Int) != 1)||(decide (a.Min<0)))||(decide (32<a.Min)))||((a.Max != (-1))&&((decide (a.Max<a.Min))||(decide (32<a.Max))))) then some 2 else k3 (0,0) else some 2
theorem Ow {c:Pat}{y:Int}(h:AC N c=some y) :FunO S HL [.p (.agg (E8 c))] [] (pN y) ([]) []:=by
 unfold AC at h;refine A5 Z func130 ?_;obtain⟨t1,f⟩:∃x:Bool,x=(if (c.Kind==0) then c.Kind==0 else (if (c.Kind==2) then c.Kind==2 else c.Kind==6)):=⟨_,rfl⟩;refine YD Z Lu (B3 Z) 0 ⟨[(8,pB t1),(7,pN c.Kind),(3,.reg 4000 0),(1,.reg 2000 0)],[(4000,.cells [pN 0,pU c.Is.Plus,pU c.Is.Minus,pB c.Not,pN c.Min,pN c.Max,.p (.sl false 7 c.L.n (De c))]),(2000,.cells ((E8 c).map .p))]⟩ (fun M1 l=>?_) ?_
 .refine F4 Z Lu (b:=c.Kind==0) (fun c3=>?_) (fun c3=>?_)
  .exact l _ [(2000,2000),(4000,4000)] _ Lu (hle:=klR [(0,.eq (.bb (c.Kind==0)) (.bb t1))] (al1 (by simp only[f,c3,Leaf.ok,pm,Lr,Ls]) al0))
  refine F4 Z Lu (b:=c.Kind==2) (fun c4=>?_) (fun c4=>?_)
  .exact l _ [(2000,2000),(4000,4000)] _ Lu (hle:=klR [(0,.eq (.bb (c.Kind==2)) (.bb t1))] (al1 (by simp only[f,c3,c4,Leaf.ok,pm,Lr,Ls]) al0))
  exact l _ [(2000,2000),(4000,4000)] _ Lu (hle:=klR [(0,.eq (.bb (c.Kind==6)) (.bb t1))] (al1 (by simp only[f,c3,c4,Leaf.ok,pm,Lr,Ls]) al0))
 subst f;apply kI Z h<;>intro h
 .refine NR Z (by decide +kernel:XW Tryz.prog E3=true) (B3 Z) h 0 (fun z1=>⟨[(57,pB z1),(1,.reg 2000 0)],[(2000,.cells ((E8 c).map .p))]⟩) (fun M3 k1 d h=>?_) (fun z1 h=>?_)
  .refine kG Z h (fun h=>?_) (fun h=>?_)
   .exact d _ [(2000,2000)] _ true Lu h
   refine kG Z h (fun h=>?_) (fun h=>?_)
   .exact d _ [(2000,2000)] _ true Lu h
   refine kG Z h (fun h=>?_) (fun h=>?_)
   .exact d _ [(2000,2000)] _ true Lu h
   refine kG Z h (fun h=>?_) (fun h=>?_)
   .exact d _ [(2000,2000)] _ true Lu h
   refine AS Z Lu 79 ⟨[(78,.p (vSl 7 E8 c.L)),(76,.p (.v (.bool false))),(1,.reg 2000 0)],[(2000,.cells ((E8 c).map .p))]⟩ (ids:=[(2000,2000)]) ?_ (hle:=klR [(0,.fn c.L.n c.L.n (De c) (fun i=>E8 (c.L.g i)))] (al1 ⟨rfl,CK c⟩ al0));exact d _ [(2000,2000)] _ (decide (0<(c.L.n:Int))) Lu h
  apply kI Z h<;>intro h
  .cases h;exact kR Z
  refine kC Z h (DL Z Y) (fun y1 h=>?_);apply kI Z h<;>intro h
  .cases h;exact kR Z
  cases h;exact kR Z
 apply kI Z h<;>intro h
 .refine NR Z (by decide +kernel:XW Tryz.prog E3=true) (B3 Z) h 0 (fun z2=>⟨[(57,pB z2),(1,.reg 2000 0)],[(2000,.cells ((E8 c).map .p))]⟩) (fun M5 k2 j h=>?_) (fun z2 h=>?_)
  .refine kG Z h (fun h=>?_) (fun h=>?_)
   .exact j _ [(2000,2000)] _ true Lu h
   refine Cz Z Lu (b:=false) (fun c54=>?_) (fun c54=>?_)
   .exact Bool.noConfusion ((rfl:false=false).symm.trans c54)
   refine kG Z h (fun h=>?_) (fun h=>?_)
   .exact j _ [(2000,2000)] _ true Lu h
   refine kG Z h (fun h=>?_) (fun h=>?_)
   .exact j _ [(2000,2000)] _ true Lu h
   refine AS Z Lu 79 ⟨[(78,.p (vSl 7 E8 c.L)),(76,.p (.v (.bool false))),(1,.reg 2000 0)],[(2000,.cells ((E8 c).map .p))]⟩ (ids:=[(2000,2000)]) ?_ (hle:=klR [(0,.fn c.L.n c.L.n (De c) (fun i=>E8 (c.L.g i)))] (al1 ⟨rfl,CK c⟩ al0));exact j _ [(2000,2000)] _ (decide (0<(c.L.n:Int))) Lu h
  apply kI Z h<;>intro h
  .cases h;exact kR Z
  refine kC Z h (DL Z Y) (fun y2 h=>?_);apply kI Z h<;>intro h
  .cases h;exact kR Z
  cases h;exact kR Z
 obtain⟨t4,m⟩:∃x:Bool,x=(if (c.Kind==3) then c.Kind==3 else c.Kind==4):=⟨_,rfl⟩;refine YD Z Lu (B3 Z) 0 ⟨[(17,pB t4),(7,pN c.Kind),(3,.reg 4000 0),(1,.reg 2000 0)],[(4000,.cells [pN 0,pU c.Is.Plus,pU c.Is.Minus,pB c.Not,pN c.Min,pN c.Max,.p (.sl false 7 c.L.n (De c))]),(2000,.cells ((E8 c).map .p))]⟩ (fun M6 q=>?_) ?_
 .refine F4 Z Lu (b:=c.Kind==3) (fun c60=>?_) (fun c60=>?_)
  .exact q _ [(2000,2000),(4000,4000)] _ Lu (hle:=klR [(0,.eq (.bb (c.Kind==3)) (.bb t4))] (al1 (by simp only[m,c60,Leaf.ok,pm,Lr,Ls]) al0))
  exact q _ [(2000,2000),(4000,4000)] _ Lu (hle:=klR [(0,.eq (.bb (c.Kind==4)) (.bb t4))] (al1 (by simp only[m,c60,Leaf.ok,pm,Lr,Ls]) al0))
 subst m;refine NR Z Lu (B3 Z) h 0 (fun z3=>⟨[(3,.reg 4000 0),(1,.reg 2000 0)],[(4000,.cells [pN 0,pU c.Is.Plus,pU c.Is.Minus,pB c.Not,pN z3.1,pN z3.2,.p M9]),(2000,.cells ((E8 c).map .p))]⟩) (fun M7 k3 r h=>?_) (fun z3 h=>?_)
 .apply kI Z h<;>intro h
  .exact r _ [(2000,2000),(4000,4000)] _ (c.Min,c.Max) Lu h
  apply kI Z h<;>intro h
  .refine AS Z Lu 25 ⟨[(24,.p (vSl 7 E8 c.L)),(3,.reg 4000 0),(1,.reg 2000 0)],[(4000,.cells [pN 0,pU c.Is.Plus,pU c.Is.Minus,pB c.Not,pN c.Min,pN c.Max,.p (.sl false 7 c.L.n (De c))]),(2000,.cells ((E8 c).map .p))]⟩ (ids:=[(2000,2000),(4000,4000)]) ?_ (hle:=klR [(0,.fn c.L.n c.L.n (De c) (fun i=>E8 (c.L.g i)))] (al1 ⟨rfl,CK c⟩ al0));refine kB Z (B3 Z) Lu Lu 26 (.o (.o (.o (.a ((c.L.n:Int) != 1)) (.a (decide (c.Min<0)))) (.a (decide (32<c.Min)))) (.n (.a (c.Max != (-1))) (.o (.a (decide (c.Max<c.Min))) (.a (decide (32<c.Max)))))) ?_;apply kI Z h<;>intro h
   .cases h;exact kR Z
   exact r _ [(2000,2000),(4000,4000)] _ (0,0) Lu h
  cases h;exact kR Z
 refine kB Z (B3 Z) (by decide +kernel:XW Tryz.prog E3=true) Lu 19 (.o (.o (.o (.o (.a (((c.Is.Plus==0)&&(c.Is.Minus==0)) != true)) (.a c.Not)) (.a (z3.1 != 0))) (.a (z3.2 != 0))) (.a (decide (0<0)))) ?_;apply kI Z h<;>intro h
 .cases h;exact kR Z
 refine kC Z h (DL Z Y) (fun y3 h=>?_);apply kI Z h<;>intro h
 .cases h;exact kR Z
 cases h;exact kR Z
def Kh (N:Nat)(a:Pat):Option Int:= if ((decide (a.Kind<0))||(decide (6<a.Kind))) then some 2 else if ((a.Kind != 1)&&((((a.Is.Plus==0)&&(a.Is.Minus==0)) != true)||a.Not)) then some 2 else lt (fun (z1:Bool)=>if z1 then some 2 else if ((a.Kind != 5)&&((a.Min != 0)||(a.Max != 0))) then some 2 else lt (fun (z2:Bool)=>if z2 then some 2 else (Y4 N a.Is).bind fun y1=>if (!y1) then some 14 else some 0) fun k2=>if (a.Kind==5) then if ((a.L.n:Int) != 1) then k2 true else if (decide (a.Min<0)) then k2 true else if (decide (32<a.Min)) then k2 true else if (a.Max != (-1)) then if (decide (a.Max<a.Min)) then k2 true else k2 (decide (32<a.Max)) else k2 false else k2 false) fun k1=>if (a.Kind != 3) then if (a.Kind != 4) then if (a.Kind != 5) then k1 (decide (0<(a.L.n:Int))) else k1 false else k1 false else k1 false
def No (N:Nat)(b:Oh)(a:Oh):Option Bool:= some (((H0 .and .u32 b.Plus a.Plus)==a.Plus)&&((H0 .and .u32 b.Minus a.Minus)==a.Minus))
def Hb (N:Nat)(a:Int):Option (Sl Int):= if ((0:Int)<=(wrap .i64 (a+1))/\(wrap .i64 (a+1))<=(wrap .i64 (a+1))/\(wrap .i64 (a+1))*8<=140737488355328/\(wrap .i64 (a+1))<=140737488355328)then Q3 N (fun b (x1:Sl Int) (x2:Int)=>if (decide (x2<=a)) then if (((0:Int)<=x2/\((0:Int)<=x2/\x2<(x1.n:Int)))/\x2.toNat<x1.n)then b (x1.upd x2.toNat (shI .shl .u64 1 x2)) (wrap .i64 (x2+1)) else none else some x1) (Sl.rep (wrap .i64 (a+1)).toNat 0:Sl Int) 0 else none
def Cf (N:Nat)(p_x:Sl Int)(b:Sl Int):Option (Sl Int):= if ((0:Int)<=(p_x.n:Int)/\(p_x.n:Int)<=(p_x.n:Int)/\(p_x.n:Int)*8<=140737488355328/\(p_x.n:Int)<=140737488355328)then Q3 N (fun c (x3:Sl Int) (x4:Int)=>if (decide (x4<(p_x.n:Int))) then Q3 N (fun a (x7:Sl Int) (x8:Int)=>if (decide (x8<(b.n:Int))) then if (((0:Int)<=x4/\x4<(p_x.n:Int))/\(0:Int)<=x8)then if ((H0 .and .u64 (shI .shr .u64 (p_x.g x4.toNat) x8) 1)==1) then if ((((((0:Int)<=x4/\x4<(x7.n:Int))/\x4.toNat<x7.n)/\((0:Int)<=x8/\x8<(b.n:Int)))/\((0:Int)<=x4/\x4<(x7.n:Int)))/\x4.toNat<x7.n)then a (x7.upd x4.toNat (H0 .or .u64 (x7.g x4.toNat) (b.g x8.toNat))) (wrap .i64 (x8+1)) else none else a x7 (wrap .i64 (x8+1)) else none else c x7 (wrap .i64 (x4+1))) x3 0 else some x3) (Sl.rep (p_x.n:Int).toNat 0:Sl Int) 0 else none
def Hc (N:Nat)(p_x:Sl Int)(b:Sl Int):Option (Sl Int):= if ((0:Int)<=(p_x.n:Int)/\(p_x.n:Int)<=(p_x.n:Int)/\(p_x.n:Int)*8<=140737488355328/\(p_x.n:Int)<=140737488355328)then Q3 N (fun a (x1:Sl Int) (x2:Int)=>if (decide (x2<(p_x.n:Int))) then if (((((0:Int)<=x2/\x2<(p_x.n:Int))/\((0:Int)<=x2/\x2<(b.n:Int)))/\((0:Int)<=x2/\x2<(x1.n:Int)))/\x2.toNat<x1.n)then a (x1.upd x2.toNat (H0 .or .u64 (p_x.g x2.toNat) (b.g x2.toNat))) (wrap .i64 (x2+1)) else none else some x1) (Sl.rep (p_x.n:Int).toNat 0:Sl Int) 0 else none
def Ii (N:Nat)(p_x:Sl Int)(b:Sl Int):Option Bool:= Q5 N (fun a (x1:Int)=>if (decide (x1<(p_x.n:Int))) then if (((0:Int)<=x1/\x1<(p_x.n:Int))/\((0:Int)<=x1/\x1<(b.n:Int)))then if ((p_x.g x1.toNat) != (b.g x1.toNat)) then some false else a (wrap .i64 (x1+1)) else none else some true) 0
end Go.AM
namespace Go.AM
variable {N:Nat}
open IntKind (wrap)
open Go.Proofs
set_option maxRecDepth 10000
set_option maxHeartbeats 2000000
variable {S:Aj}(Z:H1 S Tryz.prog) (Y:Nk S)
include Z Y
def Bp (rec:Pat->Int->Option Int)(N:Nat)(b:Pat)(a:Int):Option Int:= Q3 N (fun c (x1:Int) (x2:Int)=>if ((decide (x2<(b.L.n:Int)))&&(decide (x1<=40))) then if ((0:Int)<=x2/\x2<(b.L.n:Int))then (rec (b.L.g x2.toNat) x1).bind fun y3=>c y3 (wrap .i64 (x2+1)) else none else some x1) (wrap .i64 (a+1)) 0
def AT:Nat->Pat->Int->Option Int
 |0=>fun _ _=>none
 |N+1=>Bp (AT N) N
theorem Tt {rec:Pat->Int->Option Int}(d:∀{b:Pat}{c:Int}{y:Int},rec b c=some y->FunO S Fk [.p (.agg (E8 b)),pN c] [] (pN y) ([]) []){b:Pat}{c:Int}{y:Int}(h:Bp rec N b c=some y) :FunO S Fk [.p (.agg (E8 b)),pN c] [] (pN y) ([]) []:=by
 unfold Bp at h;refine A5 Z Tryz.func78 ?_;refine R4 Z Lu h (fun x1 x2=>⟨[(6,pN x2),(5,pN x1),(2,.reg 3000 0)],[(3000,.cells ((E8 b).map .p))]⟩) (ids:=[(3000,3000)]) (fun _ _ _ _ _ f x1 x2 j h=>?_);refine AS Z Lu 12 ⟨[(11,.p (vSl 7 E8 b.L)),(9,pN x2),(6,pN x2),(5,pN x1),(2,.reg 3000 0)],[(3000,.cells ((E8 b).map .p))]⟩ (ids:=[(3000,3000)]) ?_ (hle:=klR [(0,.fn b.L.n b.L.n (De b) (fun i=>E8 (b.L.g i)))] (al1 ⟨rfl,CK b⟩ al0));refine kB Z (B3 Z) Lu Lu 3 (.n (.a (decide (x2<(b.L.n:Int)))) (.a (decide (x1<=40)))) ?_;apply kI Z h<;>intro h
 .refine AS Z Lu 23 ⟨[(22,pN x2),(21,.p (vSl 7 E8 b.L)),(6,pN x2),(5,pN x1),(2,.reg 3000 0)],[(3000,.cells ((E8 b).map .p))]⟩ (ids:=[(3000,3000)]) ?_ (hle:=klR [(1,.fn b.L.n b.L.n (De b) (fun i=>E8 (b.L.g i)))] (al1 ⟨rfl,CK b⟩ al0));obtain⟨c6,h⟩:=H4 h;obtain⟨y3,e3,h⟩:=C4 h;refine D2 Z [] (And.intro c6 O2) (d e3) ?_;exact j _ [(3000,3000)] _ y3 (wrap .i64 (x2+1)) Lu h
 cases h;exact kR Z
theorem Vw {b:Pat}{a:Int}{y:Int}(h:AT N b a=some y) :FunO S Fk [.p (.agg (E8 b)),pN a] [] (pN y) ([]) []:=by
 induction N generalizing b a y with
 |zero=>cases (show (none:Option Int)=some y from h)
 |succ N ih=>exact Tt Z Y (fun e=>ih e) h
def CP (N:Nat)(a:Pat):Option Int:= (AT N a 0).bind fun y1=>some y1
theorem PA {a:Pat}{y:Int}(h:CP N a=some y) :FunO S Pv [.p (.agg (E8 a))] [] (pN y) ([]) []:=by unfold CP at h;refine A5 Z Tryz.func48 ?_;refine kC Z h (Vw Z Y) (fun y1 h=>?_);cases h;exact kR Z
def Cg (rec:Pat->Int->Option (Int×Int))(N:Nat)(b:Pat)(a:Int):Option (Int×Int):= if (a==40) then some (a,12) else (Kh N b).bind fun y1=>if (y1 != 0) then some (a,y1) else Q3 N (fun c (x1:Int) (x2:Int)=>if (decide (x2<(b.L.n:Int))) then if ((0:Int)<=x2/\x2<(b.L.n:Int))then (rec (b.L.g x2.toNat) x1).bind fun y4=>if (y4.2 != 0) then some (y4.1,y4.2) else c y4.1 (wrap .i64 (x2+1)) else none else some (x1,0)) (wrap .i64 (a+1)) 0
def EE:Nat->Pat->Int->Option (Int×Int)
 |0=>fun _ _=>none
 |N+1=>Cg (EE N) N
def Dl (N:Nat)(a:Pat):Option Int:= (EE N a 0).bind fun y1=>some y1.2
def EF (N:Nat)(a:Str):Option Bool:= Q5 N (fun b (x1:Int)=>if (decide (x1<(a.length:Int))) then if ((0:Int)<=x1/\x1<(a.length:Int))then if (!(((((decide (97<=(Db a x1)))&&(decide ((Db a x1)<=122)))||((decide (65<=(Db a x1)))&&(decide ((Db a x1)<=90))))||((decide (48<=(Db a x1)))&&(decide ((Db a x1)<=57))))||((Db a x1)==45))) then some false else b (wrap .i64 (x1+1)) else none else some ((decide (1<=(a.length:Int)))&&(decide ((a.length:Int)<=24)))) 0
def Ki (N:Nat)(p_x:EV)(a:Int):Option Bool:= lt (fun (z1:Bool)=>if z1 then some false else if ((((H0 .and .u32 p_x.Clear (H0 .or .u32 p_x.Set.Plus p_x.Set.Minus)) != 0)||((H0 .and .u32 p_x.Take (H0 .or .u32 p_x.Set.Plus p_x.Set.Minus)) != 0))||((H0 .and .u32 p_x.Take p_x.Clear) != 0)) then some false else if (p_x.Take==0) then some (p_x.Of==0) else some ((decide (0<=p_x.Of))&&(decide (p_x.Of<a)))) fun k1=>if (decide (p_x.From<(-1))) then k1 true else if (decide (a<=p_x.From)) then k1 true else (K6 N p_x.Set).bind fun y2=>if (!y2) then k1 true else if ((H0 .andNot .u32 p_x.Clear 16777215) != 0) then k1 true else k1 ((H0 .andNot .u32 p_x.Take 16777215) != 0)
def BM (N:Nat)(a:Law):Option Int:= (EF N a.Name).bind fun y1=>lt (fun (z1:Bool)=>if z1 then some 17 else if (((((decide (4<(a.If.n:Int)))||(decide (6<(a.Out.n:Int))))||((wrap .i64 ((a.If.n:Int)+(a.Out.n:Int)))==0))||(decide (a.Mode<1)))||(decide (3<a.Mode))) then some 17 else Q5 N (fun b (x2:Int)=>if (decide (x2<(a.If.n:Int))) then if ((0:Int)<=x2/\x2<(a.If.n:Int))then (K6 N (a.If.g x2.toNat)).bind fun y8=>if (!y8) then some 17 else b (wrap .i64 (x2+1)) else none else Q5 N (fun c (x3:Int)=>if (decide (x3<(a.Out.n:Int))) then if ((0:Int)<=x3/\x3<(a.Out.n:Int))then (Ki N (a.Out.g x3.toNat) (a.If.n:Int)).bind fun d=>if (!d) then some 17 else c (wrap .i64 (x3+1)) else none else some 0) 0) 0) fun k1=>if (!y1) then k1 true else (Dl N a.Left).bind fun y4=>if (y4 != 0) then k1 true else (Dl N a.Right).bind fun y5=>k1 (y5 != 0)
def Fr (N:Nat)(a:Sl Law):Option Int:= if (decide (64<(a.n:Int))) then some 12 else Q5 N (fun b (x1:Int)=>if (decide (x1<(a.n:Int))) then if ((0:Int)<=x1/\x1<(a.n:Int))then (BM N (a.g x1.toNat)).bind fun y3=>if (y3 != 0) then some 17 else b (wrap .i64 (x1+1)) else none else some 0) 0
def Np (N:Nat)(a:Law)(b:Sl Oh):Option Int:= (BM N a).bind fun y1=>if (y1 != 0) then some y1 else (BL N b).bind fun y2=>some y2
def Hd (N:Nat)(a:Pat)(b:Sl Oh):Option Int:= (Dl N a).bind fun y1=>if (y1==0) then (BL N b).bind fun y2=>some y2 else some y1
def Fs (rec:Pat->(Sl Oh)->Option (Sl Int))(N:Nat)(a:Pat)(c:Sl Oh):Option (Sl Int):= if ((0:Int)<=(wrap .i64 ((c.n:Int)+1))/\(wrap .i64 ((c.n:Int)+1))<=(wrap .i64 ((c.n:Int)+1))/\(wrap .i64 ((c.n:Int)+1))*8<=140737488355328/\(wrap .i64 ((c.n:Int)+1))<=140737488355328)then Q3 N (fun b (x1:Sl Int) (x2:Int)=>if (decide (x2<=(c.n:Int))) then if (a.Kind==0) then if (((0:Int)<=x2/\((0:Int)<=x2/\x2<(x1.n:Int)))/\x2.toNat<x1.n)then b (x1.upd x2.toNat (shI .shl .u64 1 x2)) (wrap .i64 (x2+1)) else none else if (a.Kind==1) then if (decide (x2<(c.n:Int))) then if ((0:Int)<=x2/\x2<(c.n:Int))then (No N (c.g x2.toNat) a.Is).bind fun y3=>if ((y3==a.Not) != true) then if (((0:Int)<=(wrap .i64 (x2+1))/\((0:Int)<=x2/\x2<(x1.n:Int)))/\x2.toNat<x1.n)then b (x1.upd x2.toNat (shI .shl .u64 1 (wrap .i64 (x2+1)))) (wrap .i64 (x2+1)) else none else b x1 (wrap .i64 (x2+1)) else none else b x1 (wrap .i64 (x2+1)) else if (a.Kind==2) then if (x2==0) then if (((0:Int)<=x2/\x2<(x1.n:Int))/\x2.toNat<x1.n)then b (x1.upd x2.toNat 1) (wrap .i64 (x2+1)) else none else b x1 (wrap .i64 (x2+1)) else if (a.Kind==6) then if (x2==(c.n:Int)) then if (((0:Int)<=x2/\((0:Int)<=x2/\x2<(x1.n:Int)))/\x2.toNat<x1.n)then b (x1.upd x2.toNat (shI .shl .u64 1 x2)) (wrap .i64 (x2+1)) else none else b x1 (wrap .i64 (x2+1)) else b x1 (wrap .i64 (x2+1)) else if (a.Kind==3) then (Hb N (c.n:Int)).bind fun y4=>Q3 N (fun i (x3:Sl Int) (x4:Int)=>if (decide (x4<(a.L.n:Int))) then if ((0:Int)<=x4/\x4<(a.L.n:Int))then (rec (a.L.g x4.toNat) c).bind fun y9=>(Cf N x3 y9).bind fun o=>i o (wrap .i64 (x4+1)) else none else some x3) y4 0 else if (a.Kind==4) then Q3 N (fun j (x5:Sl Int) (x6:Int)=>if (decide (x6<(a.L.n:Int))) then if ((0:Int)<=x6/\x6<(a.L.n:Int))then (rec (a.L.g x6.toNat) c).bind fun q=>(Hc N x5 q).bind fun r=>j r (wrap .i64 (x6+1)) else none else some x5) x1 0 else if (a.Kind==5) then if ((0:Int)<=0/\0<(a.L.n:Int))then (rec (a.L.g 0) c).bind fun m=>(Hb N (c.n:Int)).bind fun s=>YA N (fun d (x8:Sl Int) (x9:Sl Int) (f:Int)=>if (decide (a.Min<=f)) then (Hc N x8 x9).bind fun l=>lt (fun (z3:Bool)=>if z3 then some l else (Cf N x9 m).bind fun t=>d l t (wrap .i64 (f+1))) fun k3=>if (f==a.Max) then k3 true else if (decide (a.Min<f)) then (Ii N x8 l).bind fun u=>k3 u else k3 false else (Cf N x9 m).bind fun v=>d x8 v (wrap .i64 (f+1))) x1 s 0 else none else some x1) (Sl.rep (wrap .i64 ((c.n:Int)+1)).toNat 0:Sl Int) 0 else none
def Dm:Nat->Pat->(Sl Oh)->Option (Sl Int)
 |0=>fun _ _=>none
 |N+1=>Fs (Dm N) N
def GA (N:Nat)(d:Pat)(c:Sl Oh)(a:Int):Option ((Sl Int)×Int):= (Hd N d c).bind fun y1=>if (y1 != 0) then some (Oc,y1) else if ((decide (a<0))||(decide ((c.n:Int)<a))) then some (Oc,3) else (Dm N d c).bind fun y2=>Q3 N (fun b (x1:Sl Int) (x2:Int)=>if (decide (x2<=(c.n:Int))) then if ((((0:Int)<=x2/\x2<(y2.n:Int))/\x2.toNat<y2.n)/\(0:Int)<=a)then if ((H0 .and .u64 (shI .shr .u64 (y2.g x2.toNat) a) 1)==1) then if ((x1.n+(Sl.of [x2]:Sl Int).n)*8<=140737488355328/\x1.n+(Sl.of [x2]:Sl Int).n<=140737488355328)then b (x1.push x2) (wrap .i64 (x2+1)) else none else b x1 (wrap .i64 (x2+1)) else none else some (x1,0)) Oc 0
def Kj (N:Nat)(d:Pat)(c:Sl Oh)(a:Int):Option ((Sl Int)×Int):= (Hd N d c).bind fun y1=>if (y1 != 0) then some (Oc,y1) else if ((decide (a<0))||(decide ((c.n:Int)<a))) then some (Oc,3) else (Dm N d c).bind fun y2=>Q3 N (fun b (x1:Sl Int) (x2:Int)=>if (decide (x2<=(c.n:Int))) then if ((((0:Int)<=a/\a<(y2.n:Int))/\a.toNat<y2.n)/\(0:Int)<=x2)then if ((H0 .and .u64 (shI .shr .u64 (y2.g a.toNat) x2) 1)==1) then if ((x1.n+(Sl.of [x2]:Sl Int).n)*8<=140737488355328/\x1.n+(Sl.of [x2]:Sl Int).n<=140737488355328)then b (x1.push x2) (wrap .i64 (x2+1)) else none else b x1 (wrap .i64 (x2+1)) else none else some (x1,0)) Oc 0
def Ci (N:Nat)(a:Law)(c:Sl Oh)(b:Int):Option Bool:= if ((decide (b<0))||(decide ((c.n:Int)<(wrap .i64 (b+(a.If.n:Int)))))) then some false else Q5 N (fun d (x1:Int)=>if (decide (x1<(a.If.n:Int))) then if (((0:Int)<=(wrap .i64 (b+x1))/\(wrap .i64 (b+x1))<(c.n:Int))/\((0:Int)<=x1/\x1<(a.If.n:Int)))then (Y2 N (c.g (wrap .i64 (b+x1)).toNat) (a.If.g x1.toNat)).bind fun y3=>if (!y3) then some false else d (wrap .i64 (x1+1)) else none else (GA N a.Left c b).bind fun y4=>(Kj N a.Right c (wrap .i64 (b+(a.If.n:Int)))).bind fun y5=>some ((decide (0<(y4.1.n:Int)))&&(decide (0<(y5.1.n:Int))))) 0
def Dn (N:Nat)(a:Law)(b:Sl Oh):Option (Sl Oh):= Q3 N (fun c (x1:Sl Oh) (x2:Int)=>if (decide (x2<(a.Out.n:Int))) then if ((0:Int)<=x2/\x2<(a.Out.n:Int))then if ((decide (0<=(a.Out.g x2.toNat).From))=true->((0:Int)<=(a.Out.g x2.toNat).From/\(a.Out.g x2.toNat).From<(b.n:Int)))then (Y3 N (⟨(if (decide (0<=(a.Out.g x2.toNat).From)) then (b.g (a.Out.g x2.toNat).From.toNat).Plus else 0),(if (decide (0<=(a.Out.g x2.toNat).From)) then (b.g (a.Out.g x2.toNat).From.toNat).Minus else 0)⟩:Oh) (a.Out.g x2.toNat).Clear (a.Out.g x2.toNat).Set).bind fun y5=>if ((a.Out.g x2.toNat).Take != 0) then if ((0:Int)<=(a.Out.g x2.toNat).Of/\(a.Out.g x2.toNat).Of<(b.n:Int))then (BK N y5.1 (b.g (a.Out.g x2.toNat).Of.toNat) (a.Out.g x2.toNat).Take).bind fun y6=>if ((x1.n+(Sl.of [y6.1]:Sl Oh).n)*8<=140737488355328/\x1.n+(Sl.of [y6.1]:Sl Oh).n<=140737488355328)then c (x1.push y6.1) (wrap .i64 (x2+1)) else none else none else if ((x1.n+(Sl.of [y5.1]:Sl Oh).n)*8<=140737488355328/\x1.n+(Sl.of [y5.1]:Sl Oh).n<=140737488355328)then c (x1.push y5.1) (wrap .i64 (x2+1)) else none else none else none else some x1) (Sl.nil:Sl Oh) 0
def Ac (N:Nat)(c:Law)(b:Sl Oh)(a:Int):Option (Sl Oh):= if (((0:Int)<=a/\a<=(b.n:Int))/\(((Sl.of []:Sl Oh).n+(b.take a.toNat).n)*8<=140737488355328/\(Sl.of []:Sl Oh).n+(b.take a.toNat).n<=140737488355328))then if ((0:Int)<=a/\a<=(wrap .i64 (a+(c.If.n:Int)))/\(wrap .i64 (a+(c.If.n:Int)))<=(b.n:Int))then (Dn N c (b.sub a.toNat (wrap .i64 (a+(c.If.n:Int))).toNat)).bind fun y1=>if ((((Sl.of []:Sl Oh).app (b.take a.toNat)).n+y1.n)*8<=140737488355328/\((Sl.of []:Sl Oh).app (b.take a.toNat)).n+y1.n<=140737488355328)then if (((0:Int)<=(wrap .i64 (a+(c.If.n:Int)))/\(wrap .i64 (a+(c.If.n:Int)))<=(b.n:Int))/\(((((Sl.of []:Sl Oh).app (b.take a.toNat)).app y1).n+(b.drop (wrap .i64 (a+(c.If.n:Int))).toNat).n)*8<=140737488355328/\(((Sl.of []:Sl Oh).app (b.take a.toNat)).app y1).n+(b.drop (wrap .i64 (a+(c.If.n:Int))).toNat).n<=140737488355328))then some ((((Sl.of []:Sl Oh).app (b.take a.toNat)).app y1).app (b.drop (wrap .i64 (a+(c.If.n:Int))).toNat)) else none else none else none else none
def Nq (N:Nat)(a:Law)(b:Sl Oh):Option ((Sl Int)×(Sl (Sl Oh))×Int):= WM N (fun c (x2:Sl Int) (x3:Sl (Sl Oh)) (x4:Sl Oh) (x5:Int)=>if (decide (x5<=(b.n:Int))) then (Ci N a b x5).bind fun y5=>if (!y5) then lt (fun (z3:Sl Oh)=>c x2 x3 z3 (wrap .i64 (x5+1))) fun k3=>if (decide (x5<(b.n:Int))) then if (((0:Int)<=x5/\x5<(b.n:Int))/\((x4.n+(Sl.of [b.g x5.toNat]:Sl Oh).n)*8<=140737488355328/\x4.n+(Sl.of [b.g x5.toNat]:Sl Oh).n<=140737488355328))then k3 (x4.push (b.g x5.toNat)) else none else k3 x4 else if ((0:Int)<=x5/\x5<=(wrap .i64 (x5+(a.If.n:Int)))/\(wrap .i64 (x5+(a.If.n:Int)))<=(b.n:Int))then (Dn N a (b.sub x5.toNat (wrap .i64 (x5+(a.If.n:Int))).toNat)).bind fun y6=>if ((x4.n+y6.n)*8<=140737488355328/\x4.n+y6.n<=140737488355328)then if ((x2.n+(Sl.of [x5]:Sl Int).n)*8<=140737488355328/\x2.n+(Sl.of [x5]:Sl Int).n<=140737488355328)then if (((((Sl.of []:Sl Oh).n+(x4.app y6).n)*8<=140737488355328/\(Sl.of []:Sl Oh).n+(x4.app y6).n<=140737488355328)/\((0:Int)<=(wrap .i64 (x5+(a.If.n:Int)))/\(wrap .i64 (x5+(a.If.n:Int)))<=(b.n:Int)))/\((((Sl.of []:Sl Oh).app (x4.app y6)).n+(b.drop (wrap .i64 (x5+(a.If.n:Int))).toNat).n)*8<=140737488355328/\((Sl.of []:Sl Oh).app (x4.app y6)).n+(b.drop (wrap .i64 (x5+(a.If.n:Int))).toNat).n<=140737488355328))then if (decide (32<((((Sl.of []:Sl Oh).app (x4.app y6)).app (b.drop (wrap .i64 (x5+(a.If.n:Int))).toNat)).n:Int))) then some (Oc,(Sl.nil:Sl (Sl Oh)),11) else if ((x3.n+(Sl.of [((Sl.of []:Sl Oh).app (x4.app y6)).app (b.drop (wrap .i64 (x5+(a.If.n:Int))).toNat)]:Sl (Sl Oh)).n)*24<=140737488355328/\x3.n+(Sl.of [((Sl.of []:Sl Oh).app (x4.app y6)).app (b.drop (wrap .i64 (x5+(a.If.n:Int))).toNat)]:Sl (Sl Oh)).n<=140737488355328)then if ((a.If.n:Int)==0) then if (decide ((wrap .i64 (x5+(a.If.n:Int)))<(b.n:Int))) then if (((0:Int)<=(wrap .i64 (x5+(a.If.n:Int)))/\(wrap .i64 (x5+(a.If.n:Int)))<(b.n:Int))/\(((x4.app y6).n+(Sl.of [b.g (wrap .i64 (x5+(a.If.n:Int))).toNat]:Sl Oh).n)*8<=140737488355328/\(x4.app y6).n+(Sl.of [b.g (wrap .i64 (x5+(a.If.n:Int))).toNat]:Sl Oh).n<=140737488355328))then c (x2.push x5) (x3.push (((Sl.of []:Sl Oh).app (x4.app y6)).app (b.drop (wrap .i64 (x5+(a.If.n:Int))).toNat))) ((x4.app y6).push (b.g (wrap .i64 (x5+(a.If.n:Int))).toNat)) (wrap .i64 ((wrap .i64 (x5+(a.If.n:Int)))+1)) else none else c (x2.push x5) (x3.push (((Sl.of []:Sl Oh).app (x4.app y6)).app (b.drop (wrap .i64 (x5+(a.If.n:Int))).toNat))) (x4.app y6) (wrap .i64 ((wrap .i64 (x5+(a.If.n:Int)))+1)) else c (x2.push x5) (x3.push (((Sl.of []:Sl Oh).app (x4.app y6)).app (b.drop (wrap .i64 (x5+(a.If.n:Int))).toNat))) (x4.app y6) (wrap .i64 (x5+(a.If.n:Int))) else none else none else none else none else none else some (x2,x3,0)) Oc (Sl.nil:Sl (Sl Oh)) (Sl.nil:Sl Oh) 0
def Ij (N:Nat)(b:Law)(c:Sl Oh):Option ((Sl Int)×(Sl (Sl Oh))×Int):= WM N (fun a (x1:Sl Oh) (x2:Sl Int) (x3:Sl (Sl Oh)) (x4:Int)=>if (decide ((wrap .i64 (x4+(b.If.n:Int)))<=(x1.n:Int))) then (Ci N b x1 x4).bind fun y5=>if (!y5) then a x1 x2 x3 (wrap .i64 (x4+1)) else (Ac N b x1 x4).bind fun y6=>if (decide (32<(y6.n:Int))) then some (Oc,(Sl.nil:Sl (Sl Oh)),11) else if (((x2.n+(Sl.of [x4]:Sl Int).n)*8<=140737488355328/\x2.n+(Sl.of [x4]:Sl Int).n<=140737488355328)/\((x3.n+(Sl.of [y6]:Sl (Sl Oh)).n)*24<=140737488355328/\x3.n+(Sl.of [y6]:Sl (Sl Oh)).n<=140737488355328))then if ((b.If.n:Int)==0) then a y6 (x2.push x4) (x3.push y6) (wrap .i64 ((wrap .i64 (x4+(b.Out.n:Int)))+1)) else a y6 (x2.push x4) (x3.push y6) (wrap .i64 (x4+(b.Out.n:Int))) else none else some (x2,x3,0)) c Oc (Sl.nil:Sl (Sl Oh)) 0
def He (N:Nat)(b:Law)(c:Sl Oh):Option ((Sl Int)×(Sl (Sl Oh))×Int):= WM N (fun a (x1:Sl Oh) (x2:Sl Int) (x3:Sl (Sl Oh)) (x4:Int)=>if (decide (0<=x4)) then (Ci N b x1 x4).bind fun y5=>if (!y5) then a x1 x2 x3 (wrap .i64 (x4-1)) else (Ac N b x1 x4).bind fun y6=>if (decide (32<(y6.n:Int))) then some (Oc,(Sl.nil:Sl (Sl Oh)),11) else if (((x2.n+(Sl.of [x4]:Sl Int).n)*8<=140737488355328/\x2.n+(Sl.of [x4]:Sl Int).n<=140737488355328)/\((x3.n+(Sl.of [y6]:Sl (Sl Oh)).n)*24<=140737488355328/\x3.n+(Sl.of [y6]:Sl (Sl Oh)).n<=140737488355328))then if ((b.If.n:Int)==0) then a y6 (x2.push x4) (x3.push y6) (wrap .i64 ((wrap .i64 (x4-(b.If.n:Int)))-1)) else a y6 (x2.push x4) (x3.push y6) (wrap .i64 (x4-(b.If.n:Int))) else none else some (x2,x3,0)) c Oc (Sl.nil:Sl (Sl Oh)) (wrap .i64 ((c.n:Int)-(b.If.n:Int)))
def Ik (N:Nat)(a:Law)(b:Sl Oh):Option ((Sl Int)×(Sl (Sl Oh))×Int):= (Np N a b).bind fun y1=>if (y1 != 0) then some (Oc,(Sl.nil:Sl (Sl Oh)),y1) else if (a.Mode==1) then (Nq N a b).bind fun y2=>some (y2.1,y2.2.1,y2.2.2) else if (a.Mode==2) then (Ij N a b).bind fun y3=>some (y3.1,y3.2.1,y3.2.2) else (He N a b).bind fun y4=>some (y4.1,y4.2.1,y4.2.2)
def Ft (N:Nat)(b:Law)(a:Sl Oh):Option ((Sl Oh)×Int):= (Ik N b a).bind fun y1=>if (y1.2.2 != 0) then some ((Sl.nil:Sl Oh),y1.2.2) else if ((y1.2.1.n:Int)==0) then if (((Sl.of []:Sl Oh).n+a.n)*8<=140737488355328/\(Sl.of []:Sl Oh).n+a.n<=140737488355328)then some ((Sl.of []:Sl Oh).app a,0) else none else if ((((0:Int)<=(wrap .i64 ((y1.2.1.n:Int)-1))/\(wrap .i64 ((y1.2.1.n:Int)-1))<(y1.2.1.n:Int))/\(wrap .i64 ((y1.2.1.n:Int)-1)).toNat<y1.2.1.n)/\(((Sl.of []:Sl Oh).n+(y1.2.1.g (wrap .i64 ((y1.2.1.n:Int)-1)).toNat).n)*8<=140737488355328/\(Sl.of []:Sl Oh).n+(y1.2.1.g (wrap .i64 ((y1.2.1.n:Int)-1)).toNat).n<=140737488355328))then some ((Sl.of []:Sl Oh).app (y1.2.1.g (wrap .i64 ((y1.2.1.n:Int)-1)).toNat),0) else none
def Nr (N:Nat)(a:Sl Law)(c:Sl Oh):Option ((Sl (Sl Oh))×Int):= (Fr N a).bind fun y1=>lt (fun (z1:Int)=>if (z1 != 0) then some ((Sl.nil:Sl (Sl Oh)),z1) else (Ha N c).bind fun y4=>Q3 N (fun b (x2:Sl (Sl Oh)) (x3:Int)=>if (decide (x3<(a.n:Int))) then if ((((0:Int)<=x3/\x3<(a.n:Int))/\((0:Int)<=x3/\x3<(x2.n:Int)))/\x3.toNat<x2.n)then (Ft N (a.g x3.toNat) (x2.g x3.toNat)).bind fun y7=>if (y7.2 != 0) then some ((Sl.nil:Sl (Sl Oh)),y7.2) else if ((x2.n+(Sl.of [y7.1]:Sl (Sl Oh)).n)*24<=140737488355328/\x2.n+(Sl.of [y7.1]:Sl (Sl Oh)).n<=140737488355328)then b (x2.push y7.1) (wrap .i64 (x3+1)) else none else none else some (x2,0)) (Sl.of [y4]:Sl (Sl Oh)) 0) fun k1=>if (y1==0) then (BL N c).bind fun y3=>k1 y3 else k1 y1
def DN (N:Nat)(a:Sl Law)(b:Sl Oh):Option ((Sl Oh)×Int):= (Nr N a b).bind fun y1=>if (y1.2 != 0) then some ((Sl.nil:Sl Oh),y1.2) else if (((0:Int)<=(wrap .i64 ((y1.1.n:Int)-1))/\(wrap .i64 ((y1.1.n:Int)-1))<(y1.1.n:Int))/\(wrap .i64 ((y1.1.n:Int)-1)).toNat<y1.1.n)then some (y1.1.g (wrap .i64 ((y1.1.n:Int)-1)).toNat,0) else none
end Go.AM
namespace Go.AM
open Go.Proofs.Tryz
variable {N:Nat}
open IntKind (wrap)
open Go.Proofs
set_option maxRecDepth 10000
set_option maxHeartbeats 2000000
variable {S:Aj}(Z:H1 S Tryz.prog) (Y:Nk S)
include Z Y
def Q8 (N:Nat)(q0:Int):Option (List (Int)):= Q5 N (fun a (x1:Int)=>if (x1 != 0) then (G7 N x1).bind fun y3=>if (0:Int)<=y3 then X1 y3 (a (H0 .andNot .u64 x1 (shI .shl .u64 1 y3))) else none else some []) q0
theorem CA {q0:Int}{L:List (Int)}(h:Q8 N q0=some L) :Fc S AN [] [.reg 0 0] [.cells [.p (pI .u64 q0)]] (L.map (fun (x:Int)=>[pI .i64 x])):=by
 unfold Q8 at h;refine Fh Z func219 ?_;refine Fg Z Lu h (fun x1 L1=>⟨[(1,.reg 0 0),(0,.yf 1)],[(1,.yld (L1.map (fun (x:Int)=>[pI .i64 x])) true),(0,.cells [.p (pI .u64 x1)])]⟩) (ids:=[(0,0),(1,1)]) (fun _ _ _ _ _ d x1 L1 f h=>?_);apply kI Z h<;>intro h
 .refine kC Z h (Di Z Y) (fun y3 h=>?_);refine DT Z Lu ?_;obtain⟨c10,h⟩:=H4 h;refine P3 c10 ?_;obtain⟨L4,rfl,c⟩:=MF h;replace h:=c;refine Dd Z Lu (ys:=(fun (x:Int)=>[pI .i64 x]) y3) (rest:=L4.map (fun (x:Int)=>[pI .i64 x])) ?_ ?_
  .refine F4 Z Lu (b:=false) (fun c11=>?_) (fun c11=>?_)
   .exact Bool.noConfusion ((rfl:false=false).symm.trans c11)
   exact f _ [(0,0),(1,1)] _ (H0 .andNot .u64 x1 (shI .shl .u64 1 y3)) L4 Lu h
  refine F4 Z Lu (b:=true) (fun c12=>?_) (fun c12=>?_)
  .exact B1 Z Lu (a:=.tup []) (objs:=[(.cells [.p (pI .u64 (H0 .andNot .u64 x1 (shI .shl .u64 1 y3)))]),.yld [] false]) ⟨[],[(1,.yld [] false),(0,.cells [.p (pI .u64 (H0 .andNot .u64 x1 (shI .shl .u64 1 y3)))])]⟩ [0,1] (ids:=[(0,0),(1,1)]) ⟨false,rfl,rfl,_,rfl⟩
  exact Bool.noConfusion (Ob.symm.trans c12)
 obtain rfl:=D4 h;exact B1 Z Lu (a:=.tup []) (objs:=[(.cells [.p (pI .u64 x1)]),.yld [] true]) ⟨[],[(1,.yld [] true),(0,.cells [.p (pI .u64 x1)])]⟩ [0,1] (ids:=[(0,0),(1,1)]) ⟨true,rfl,rfl,_,rfl⟩
def AD (N:Nat)(a:Int):Option (Int):= some a
theorem Ea {a:Int}{y:Int}(h:AD N a=some y) :FunO S HO [.p (pI .u64 a)] [] (.clo AN [] [.reg 0 0]) ([.cells [.p (pI .u64 y)]]) []:=by unfold AD at h;refine A5 Z func216 ?_;obtain rfl:=D4 h;exact B1 Z Lu ⟨[(2,.clo AN [] [.reg 2000 0])],[(2000,.cells [.p (pI .u64 a)])]⟩ [2000] (ids:=[(2000,2000)]) ⟨rfl,rfl,rfl⟩
def E7 (N:Nat)(p_x:Nat->Int)(c:Nat->Int):Option (Nat->Int):= Q3 N (fun a (x3:Nat->Int) (x4:Int)=>if (decide (x4<33)) then if (((0:Int)<=x4/\x4<33)/\(0+x4.toNat*1)<33)then (AD N (p_x (0+x4.toNat*1))).bind fun y3=>(Q8 N y3).bind fun L3=>N8 L3 (fun b (x7:Int) (z3:Nat->Int)=>if (((((((0:Int)<=x4/\x4<33)/\(0+x4.toNat*1)<33)/\((0:Int)<=x7/\x7<33))/\(0+x7.toNat*1)<33)/\((0:Int)<=x4/\x4<33))/\(0+x4.toNat*1)<33)then b (MH z3 (0+x4.toNat*1) (H0 .or .u64 (z3 (0+x4.toNat*1)) (c (0+x7.toNat*1)))) else none) (fun (z3:Nat->Int)=>a z3 (wrap .i64 (x4+1))) x3 else none else some x3) (fun _=>0) 0
theorem S5 {p_x:Nat->Int}{b:Nat->Int}{y:Nat->Int}(h:E7 N p_x b=some y) :FunO S Aq [.reg 0 0,.reg 1 0] [.arr 33 (fun i=>pI .u64 (p_x i)),.arr 33 (fun i=>pI .u64 (b i))] (.p (.agg (cA 33 (pI .u64) y))) ([.arr 33 (fun i=>pI .u64 (p_x i)),.arr 33 (fun i=>pI .u64 (b i))]) [true,true]:=by
 unfold E7 at h;refine A5 Z func243 ?_;refine R4 Z Lu h (fun x3 x4=>⟨[(10,pN x4),(9,.reg 0 0),(5,.reg 6000 0),(4,.reg 5000 0),(3,.reg 4000 0)],[(6000,.arr 33 (fun i=>pI .u64 (x3 i))),(5000,.arr 33 (fun i=>pI .u64 ((fun _=>0) i))),(4000,.cells [.reg 1 0]),(1,.arr 33 (fun i=>pI .u64 (b i))),(0,.arr 33 (fun i=>pI .u64 (p_x i)))]⟩) (ids:=[(0,0),(1,1),(4000,4000),(5000,5000),(6000,6000)]) (fun _ _ _ _ _ d x3 x4 f h=>?_) (hle:=klR [(1,.fn 33 33 (fun i=>[(fun i=>(List.replicate 33 (pI .u64 0)).getD i default) i]) (fun i=>[pI .u64 ((fun _=>0) i)])),(2,.fn 33 33 (fun i=>[(fun i=>(List.replicate 33 (pI .u64 0)).getD i default) i]) (fun i=>[pI .u64 ((fun _=>0) i)]))] (al1 ⟨rfl,BI (z:=pI .u64 0) rfl⟩ (al1 ⟨rfl,BI (z:=pI .u64 0) rfl⟩ al0)));apply kI Z h<;>intro h
 .refine S4 Z Lu [(2,.l [0]),(3,.l [0]),(4,.a [7000]),(5,.a [7000])] ?_;obtain⟨c12,h⟩:=H4 h;refine P3 c12 ?_;refine N0 Z Lu 16 7000 [pI .i64 x4] ?_;refine kC Z h (Ea Z Y) (fun y3 h=>?_);obtain⟨L3,e6,h⟩:=C4 h;refine DU Z Lu [18000] [10,9,6,5,4,3] 905 (fun z3=>⟨[(10,pN x4),(9,.reg 0 0),(6,.p (.ptr [pI .i64 x4])),(5,.reg 6000 0),(4,.reg 5000 0),(3,.reg 4000 0)],[(6000,.arr 33 (fun i=>pI .u64 (z3 i))),(5000,.arr 33 (fun i=>pI .u64 ((fun _=>0) i))),(4000,.cells [.reg 1 0]),(1,.arr 33 (fun i=>pI .u64 (b i))),(0,.arr 33 (fun i=>pI .u64 (p_x i)))]⟩) (idl:=[(0,0),(1,1),(4000,4000),(5000,5000),(6000,6000)]) h (CA Z Y e6) (fun _=>by kernel_rfl) (fun _=>by kernel_rfl) (fun _=>by kernel_rfl) (fun _=>by kernel_rfl) (fun x7 _ g z3 j h=>?_) (fun z3 h=>?_)
  .refine Ie Z Lu ?_;refine S4 Z Lu [(0,.n),(1,.l [6000]),(2,.l [6000]),(3,.l [4000]),(6,.l [1]),(7,.l [1]),(9,.l [6000]),(10,.a [6000])] ?_;obtain⟨c15,h⟩:=H4 h;refine P3 c15 ?_;exact j _ [(0,0),(1,1),(905,905),(4000,4000),(5000,5000),(6000,6000)] _ (MH z3 (0+x4.toNat*1) (H0 .or .u64 (z3 (0+x4.toNat*1)) (b (0+x7.toNat*1)))) Lu h (hle:=klR [(0,.fn 33 33 (fun i=>[(fun i=>if i=(0+x4.toNat*1)then (pI .u64 (H0 .or .u64 (z3 (0+x4.toNat*1)) (b (0+x7.toNat*1))))else (fun i=>pI .u64 (z3 i)) i) i]) (fun i=>[pI .u64 (MH z3 (0+x4.toNat*1) (H0 .or .u64 (z3 (0+x4.toNat*1)) (b (0+x7.toNat*1))) i)]))] (al1 ⟨rfl,AH7 (c:=pI .u64) (v:=z3) (x:=H0 .or .u64 (z3 (0+x4.toNat*1)) (b (0+x7.toNat*1))) (fun _ _=>rfl) rfl⟩ al0))
  exact f _ [(0,0),(1,1),(4000,4000),(5000,5000),(6000,6000)] _ z3 (wrap .i64 (x4+1)) Lu h
 obtain rfl:=D4 h;exact B1 Z (And.intro rfl (G0 _ _):(0:Nat)=0/\(Cx 33 (fun i=>pI .u64 (x3 i))).length=33) ⟨[(4,.reg 5000 0)],[(5000,.arr 33 (fun i=>pI .u64 (x3 i))),(1,.arr 33 (fun i=>pI .u64 (b i))),(0,.arr 33 (fun i=>pI .u64 (p_x i)))]⟩ [0,1] (ids:=[(0,0),(1,1),(5000,5000)]) ⟨rfl,rfl,rfl⟩ (hle:=klR [(0,.fn 33 33 (fun i=>[(fun i=>(cA 33 (pI .u64) x3).getD i default) i]) (fun i=>[pI .u64 (x3 i)]))] (al1 ⟨rfl,E9 33 (fun i=>pI .u64 (x3 i))⟩ al0))
def I7 (N:Nat)(p_x:Nat->Int):Option (Nat->Int):= Q3 N (fun a (x3:Nat->Int) (x4:Int)=>if (decide (x4<33)) then if (((0:Int)<=x4/\x4<33)/\(0+x4.toNat*1)<33)then (AD N (p_x (0+x4.toNat*1))).bind fun y3=>(Q8 N y3).bind fun L3=>N8 L3 (fun b (x7:Int) (z3:Nat->Int)=>if (((((((0:Int)<=x4/\x4<33)/\(0+x4.toNat*1)<33)/\((0:Int)<=x7/\x7<33))/\(0+x7.toNat*1)<33)/\((0:Int)<=x4/\x4<33))/\(0+x4.toNat*1)<33)then b (MH z3 (0+x4.toNat*1) (H0 .or .u64 (z3 (0+x4.toNat*1)) (p_x (0+x7.toNat*1)))) else none) (fun (z3:Nat->Int)=>a z3 (wrap .i64 (x4+1))) x3 else none else some x3) (fun _=>0) 0
theorem Cj {p_x:Nat->Int}{y:Nat->Int}(h:I7 N p_x=some y) :FunO S Aq [.reg 0 0,.reg 0 0] [.arr 33 (fun i=>pI .u64 (p_x i))] (.p (.agg (cA 33 (pI .u64) y))) ([.arr 33 (fun i=>pI .u64 (p_x i))]) [true]:=by
 unfold I7 at h;refine A5 Z func243 ?_;refine R4 Z Lu h (fun x3 x4=>⟨[(10,pN x4),(9,.reg 0 0),(5,.reg 6000 0),(4,.reg 5000 0),(3,.reg 4000 0)],[(6000,.arr 33 (fun i=>pI .u64 (x3 i))),(5000,.arr 33 (fun i=>pI .u64 ((fun _=>0) i))),(4000,.cells [.reg 0 0]),(0,.arr 33 (fun i=>pI .u64 (p_x i)))]⟩) (ids:=[(0,0),(4000,4000),(5000,5000),(6000,6000)]) (fun _ _ _ _ _ b x3 x4 d h=>?_) (hle:=klR [(1,.fn 33 33 (fun i=>[(fun i=>(List.replicate 33 (pI .u64 0)).getD i default) i]) (fun i=>[pI .u64 ((fun _=>0) i)])),(2,.fn 33 33 (fun i=>[(fun i=>(List.replicate 33 (pI .u64 0)).getD i default) i]) (fun i=>[pI .u64 ((fun _=>0) i)]))] (al1 ⟨rfl,BI (z:=pI .u64 0) rfl⟩ (al1 ⟨rfl,BI (z:=pI .u64 0) rfl⟩ al0)));apply kI Z h<;>intro h
 .refine S4 Z Lu [(2,.l [0]),(3,.l [0]),(4,.a [7000]),(5,.a [7000])] ?_;obtain⟨c12,h⟩:=H4 h;refine P3 c12 ?_;refine N0 Z Lu 16 7000 [pI .i64 x4] ?_;refine kC Z h (Ea Z Y) (fun y3 h=>?_);obtain⟨L3,e6,h⟩:=C4 h;refine DU Z Lu [18000] [10,9,6,5,4,3] 905 (fun z3=>⟨[(10,pN x4),(9,.reg 0 0),(6,.p (.ptr [pI .i64 x4])),(5,.reg 6000 0),(4,.reg 5000 0),(3,.reg 4000 0)],[(6000,.arr 33 (fun i=>pI .u64 (z3 i))),(5000,.arr 33 (fun i=>pI .u64 ((fun _=>0) i))),(4000,.cells [.reg 0 0]),(0,.arr 33 (fun i=>pI .u64 (p_x i)))]⟩) (idl:=[(0,0),(4000,4000),(5000,5000),(6000,6000)]) h (CA Z Y e6) (fun _=>by kernel_rfl) (fun _=>by kernel_rfl) (fun _=>by kernel_rfl) (fun _=>by kernel_rfl) (fun x7 _ f z3 g h=>?_) (fun z3 h=>?_)
  .refine Ie Z Lu ?_;refine S4 Z Lu [(0,.n),(1,.l [6000]),(2,.l [6000]),(3,.l [4000]),(6,.l [0]),(7,.l [0]),(9,.l [6000]),(10,.a [6000])] ?_;obtain⟨c15,h⟩:=H4 h;refine P3 c15 ?_;exact g _ [(0,0),(905,905),(4000,4000),(5000,5000),(6000,6000)] _ (MH z3 (0+x4.toNat*1) (H0 .or .u64 (z3 (0+x4.toNat*1)) (p_x (0+x7.toNat*1)))) Lu h (hle:=klR [(0,.fn 33 33 (fun i=>[(fun i=>if i=(0+x4.toNat*1)then (pI .u64 (H0 .or .u64 (z3 (0+x4.toNat*1)) (p_x (0+x7.toNat*1))))else (fun i=>pI .u64 (z3 i)) i) i]) (fun i=>[pI .u64 (MH z3 (0+x4.toNat*1) (H0 .or .u64 (z3 (0+x4.toNat*1)) (p_x (0+x7.toNat*1))) i)]))] (al1 ⟨rfl,AH7 (c:=pI .u64) (v:=z3) (x:=H0 .or .u64 (z3 (0+x4.toNat*1)) (p_x (0+x7.toNat*1))) (fun _ _=>rfl) rfl⟩ al0))
  exact d _ [(0,0),(4000,4000),(5000,5000),(6000,6000)] _ z3 (wrap .i64 (x4+1)) Lu h
 obtain rfl:=D4 h;exact B1 Z (And.intro rfl (G0 _ _):(0:Nat)=0/\(Cx 33 (fun i=>pI .u64 (x3 i))).length=33) ⟨[(4,.reg 5000 0)],[(5000,.arr 33 (fun i=>pI .u64 (x3 i))),(0,.arr 33 (fun i=>pI .u64 (p_x i)))]⟩ [0] (ids:=[(0,0),(5000,5000)]) ⟨rfl,rfl,rfl⟩ (hle:=klR [(0,.fn 33 33 (fun i=>[(fun i=>(cA 33 (pI .u64) x3).getD i default) i]) (fun i=>[pI .u64 (x3 i)]))] (al1 ⟨rfl,E9 33 (fun i=>pI .u64 (x3 i))⟩ al0))
def F9 (N:Nat)(p_x:Nat->Int)(b:Int)(c:Int):Option (Nat->Int):= (Q0 N c).bind fun y1=>YA N (fun a (x1:Int) (x2:Nat->Int) (x3:Nat->Int)=>if (decide (0<x1)) then if ((H0 .and .i64 x1 1)==1) then (E7 N x3 x2).bind fun y8=>(I7 N x2).bind fun y9=>a (shI .shr .i64 x1 1) y9 y8 else (I7 N x2).bind fun d=>a (shI .shr .i64 x1 1) d x3 else some x3) b p_x y1
theorem Y5 {p_x:Nat->Int}{b:Int}{c:Int}{y:Nat->Int}(h:F9 N p_x b c=some y) :FunO S Ce [.p (.agg (cA 33 (pI .u64) p_x)),pN b,pN c] [] (.p (.agg (cA 33 (pI .u64) y))) ([]) []:=by
 unfold F9 at h;refine A5 Z func236 ?_;refine kC Z h (Dk Z Y) (fun y1 h=>?_);refine Po Z (And.intro rfl (G0 _ _):(0:Nat)=0/\(Cx 33 (fun i=>pI .u64 (y1 i))).length=33) h (fun x1 x2 x3=>⟨[(7,.reg 8000 0),(6,.reg 7000 0),(3,.reg 4000 0),(1,pN x1)],[(8000,.arr 33 (fun i=>pI .u64 (x3 i))),(7000,.arr 33 (fun i=>pI .u64 ((fun _=>0) i))),(4000,.arr 33 (fun i=>pI .u64 (x2 i)))]⟩) (ids:=[(4000,4000),(7000,7000),(8000,8000)]) (fun _ _ _ _ _ f x1 x2 x3 d h=>?_) (hle:=klR [(1,.fn 33 33 (fun i=>[(fun i=>(cA 33 (pI .u64) y1).getD i default) i]) (fun i=>[pI .u64 (y1 i)])),(2,.fn 33 33 (fun i=>[(fun i=>(List.replicate 33 (pI .u64 0)).getD i default) i]) (fun i=>[pI .u64 ((fun _=>0) i)])),(3,.fn 33 33 (fun i=>[(fun i=>(cA 33 (pI .u64) p_x).getD i default) i]) (fun i=>[pI .u64 (p_x i)]))] (al1 ⟨rfl,E9 33 (fun i=>pI .u64 (y1 i))⟩ (al1 ⟨rfl,BI (z:=pI .u64 0) rfl⟩ (al1 ⟨rfl,E9 33 (fun i=>pI .u64 (p_x i))⟩ al0))));apply kI Z h<;>intro h
 .apply kI Z h<;>intro h
  .obtain⟨y8,e8,h⟩:=C4 h;refine D2 Z [8000,4000] Lu (S5 Z Y e8) ?_;obtain⟨y9,e9,h⟩:=C4 h;refine D2 Z [4000] (And.intro rfl (G0 _ _):(0:Nat)=0/\(Cx 33 (fun i=>pI .u64 (y8 i))).length=33) (Cj Z Y e9) ?_;exact d _ [(4000,4000),(7000,7000),(8000,8000)] _ (shI .shr .i64 x1 1) y9 y8 (And.intro (And.intro rfl (G0 _ _):(0:Nat)=0/\(Cx 33 (fun i=>pI .u64 (y9 i))).length=33) (by decide:(0:Int)<=1)) h (hle:=klR [(1,.fn 33 33 (fun i=>[(fun i=>(cA 33 (pI .u64) y8).getD i default) i]) (fun i=>[pI .u64 (y8 i)])),(3,.fn 33 33 (fun i=>[(fun i=>(cA 33 (pI .u64) y9).getD i default) i]) (fun i=>[pI .u64 (y9 i)]))] (al1 ⟨rfl,E9 33 (fun i=>pI .u64 (y8 i))⟩ (al1 ⟨rfl,E9 33 (fun i=>pI .u64 (y9 i))⟩ al0)))
  obtain⟨a,e10,h⟩:=C4 h;refine D2 Z [4000] Lu (Cj Z Y e10) ?_;exact d _ [(4000,4000),(7000,7000),(8000,8000)] _ (shI .shr .i64 x1 1) a x3 (And.intro (And.intro rfl (G0 _ _):(0:Nat)=0/\(Cx 33 (fun i=>pI .u64 (a i))).length=33) (by decide:(0:Int)<=1)) h (hle:=klR [(3,.fn 33 33 (fun i=>[(fun i=>(cA 33 (pI .u64) a).getD i default) i]) (fun i=>[pI .u64 (a i)]))] (al1 ⟨rfl,E9 33 (fun i=>pI .u64 (a i))⟩ al0))
 obtain rfl:=D4 h;exact B1 Z (And.intro rfl (G0 _ _):(0:Nat)=0/\(Cx 33 (fun i=>pI .u64 (x3 i))).length=33) ⟨[(6,.reg 7000 0)],[(7000,.arr 33 (fun i=>pI .u64 (x3 i)))]⟩ [] (ids:=[(7000,7000)]) ⟨rfl,rfl,rfl⟩ (hle:=klR [(0,.fn 33 33 (fun i=>[(fun i=>(cA 33 (pI .u64) x3).getD i default) i]) (fun i=>[pI .u64 (x3 i)]))] (al1 ⟨rfl,E9 33 (fun i=>pI .u64 (x3 i))⟩ al0))
end Go.AM
namespace Go.AM
open Go.Proofs.Tryz
variable {N:Nat}
open IntKind (wrap)
open Go.Proofs
set_option maxRecDepth 10000
set_option maxHeartbeats 2000000
variable {S:Aj}(Z:H1 S Tryz.prog) (Y:Nk S)
include Z Y
def Y6 (N:Nat)(p_x:Ac5)(b:Sl Oh):Option (Nat->Int):= Q3 N (fun a (x1:Nat->Int) (x2:Int)=>if (decide (x2<(b.n:Int))) then if ((0:Int)<=x2/\x2<(b.n:Int))then if ((((H0 .or .u32 (H0 .andNot .u32 p_x.is.Plus (b.g x2.toNat).Plus) (H0 .andNot .u32 p_x.is.Minus (b.g x2.toNat).Minus))==0)==p_x.not) != true) then if (((0:Int)<=(wrap .i64 (x2+1))/\((0:Int)<=x2/\x2<33))/\(0+x2.toNat*1)<33)then a (MH x1 (0+x2.toNat*1) (shI .shl .u64 1 (wrap .i64 (x2+1)))) (wrap .i64 (x2+1)) else none else a x1 (wrap .i64 (x2+1)) else none else some x1) (fun _=>0) 0
theorem Ns {p_x:Ac5}{a:Sl Oh}{y:Nat->Int}(h:Y6 N p_x a=some y) :FunO S Dh [.p (.agg (Xg p_x)),.p (vSl 2 A0 a)] [] (.p (.agg (cA 33 (pI .u64) y))) ([]) []:=by
 unfold Y6 at h;refine A5 Z func237 ?_;refine R4 Z Lu h (fun x1 x2=>⟨[(9,pN x2),(8,pN (a.n:Int)),(7,.p (vSl 2 A0 a)),(4,.reg 5000 0),(2,.reg 3000 0)],[(5000,.arr 33 (fun i=>pI .u64 (x1 i))),(3000,.cells ((Xg p_x).map .p))]⟩) (ids:=[(3000,3000),(5000,5000)]) (fun _ _ _ _ _ f x1 x2 d h=>?_) (hle:=klR [(3,.fn 33 33 (fun i=>[(fun i=>(List.replicate 33 (pI .u64 0)).getD i default) i]) (fun i=>[pI .u64 ((fun _=>0) i)]))] (al1 ⟨rfl,BI (z:=pI .u64 0) rfl⟩ al0));apply kI Z h<;>intro h
 .obtain⟨c8,h⟩:=H4 h;refine F4 Z (And.intro c8 Nf) (b:=(((H0 .or .u32 (H0 .andNot .u32 p_x.is.Plus (a.g x2.toNat).Plus) (H0 .andNot .u32 p_x.is.Minus (a.g x2.toNat).Minus))==0)==p_x.not) != true) (fun c9=>?_) (fun c9=>?_)
  .replace h:=itT c9 h;obtain⟨c10,h⟩:=H4 h;exact d _ [(3000,3000),(5000,5000)] _ (MH x1 (0+x2.toNat*1) (shI .shl .u64 1 (wrap .i64 (x2+1)))) (wrap .i64 (x2+1)) c10 h (hle:=klR [(3,.fn 33 33 (fun i=>[(fun i=>if i=(0+x2.toNat*1)then (pI .u64 (shI .shl .u64 1 (wrap .i64 (x2+1))))else (fun i=>pI .u64 (x1 i)) i) i]) (fun i=>[pI .u64 (MH x1 (0+x2.toNat*1) (shI .shl .u64 1 (wrap .i64 (x2+1))) i)]))] (al1 ⟨rfl,AH7 (c:=pI .u64) (v:=x1) (x:=shI .shl .u64 1 (wrap .i64 (x2+1))) (fun _ _=>rfl) rfl⟩ al0))
  replace h:=itF c9 h;exact d _ [(3000,3000),(5000,5000)] _ x1 (wrap .i64 (x2+1)) Lu h
 obtain rfl:=D4 h;exact B1 Z (And.intro rfl (G0 _ _):(0:Nat)=0/\(Cx 33 (fun i=>pI .u64 (x1 i))).length=33) ⟨[(4,.reg 5000 0)],[(5000,.arr 33 (fun i=>pI .u64 (x1 i)))]⟩ [] (ids:=[(5000,5000)]) ⟨rfl,rfl,rfl⟩ (hle:=klR [(0,.fn 33 33 (fun i=>[(fun i=>(cA 33 (pI .u64) x1).getD i default) i]) (fun i=>[pI .u64 (x1 i)]))] (al1 ⟨rfl,E9 33 (fun i=>pI .u64 (x1 i))⟩ al0))
def AE (N:Nat)(p_x:AI5)(a:Sl Oh):Option (Nat->Int):= if p_x.end_ then if (((0:Int)<=(a.n:Int)/\((0:Int)<=(a.n:Int)/\(a.n:Int)<33))/\(0+(a.n:Int).toNat*1)<33)then some (MH (fun _=>0) (0+(a.n:Int).toNat*1) (shI .shl .u64 1 (a.n:Int))) else none else if (((0:Int)<=0/\(0:Int)<33)/\(0+0*1)<33)then some (MH (fun _=>0) (0+0*1) (shI .shl .u64 1 0)) else none
theorem Ox {p_x:AI5}{a:Sl Oh}{y:Nat->Int}(h:AE N p_x a=some y) :FunO S DY [.p (.agg (AI6 p_x)),.p (vSl 2 A0 a)] [] (.p (.agg (cA 33 (pI .u64) y))) ([]) []:=by
 unfold AE at h;refine A5 Z func238 ?_;apply kI Z h<;>intro h
 .obtain⟨c2,h⟩:=H4 h;obtain rfl:=D4 h;exact B1 Z (And.intro (And.intro (And.intro c2.1.1 c2.1.2) c2.2) (And.intro rfl (G0 _ _):(0:Nat)=0/\(Cx 33 (fun i=>if i=(0+(a.n:Int).toNat*1)then (pI .u64 (shI .shl .u64 1 (a.n:Int)))else (fun i=>(List.replicate 33 (pI .u64 0)).getD i default) i)).length=33)) ⟨[(4,.reg 5000 0)],[(5000,.arr 33 (fun i=>pI .u64 (MH (fun _=>0) (0+(a.n:Int).toNat*1) (shI .shl .u64 1 (a.n:Int)) i)))]⟩ [] (ids:=[(5000,5000)]) ⟨rfl,rfl,rfl⟩ (hle:=klR [(0,.fn 33 33 (fun i=>[(fun i=>(Cx 33 (fun i=>if i=(0+(a.n:Int).toNat*1)then (pI .u64 (shI .shl .u64 1 (a.n:Int)))else (fun i=>(List.replicate 33 (pI .u64 0)).getD i default) i)).getD i default) i]) (fun i=>[pI .u64 (MH (fun _=>0) (0+(a.n:Int).toNat*1) (shI .shl .u64 1 (a.n:Int)) i)]))] (al1 ⟨rfl,fun i b=>(E9 33 (fun i=>if i=(0+(a.n:Int).toNat*1)then (pI .u64 (shI .shl .u64 1 (a.n:Int)))else (fun i=>(List.replicate 33 (pI .u64 0)).getD i default) i) i b).trans (AH7 (c:=pI .u64) (v:=fun _=>0) (x:=shI .shl .u64 1 (a.n:Int)) (BI (z:=pI .u64 0) rfl) rfl i b)⟩ al0))
 obtain⟨c3,h⟩:=H4 h;obtain rfl:=D4 h;exact B1 Z (And.intro (And.intro (And.intro (by decide:(0:Int)<=0) c3.1) c3.2) (And.intro rfl (G0 _ _):(0:Nat)=0/\(Cx 33 (fun i=>if i=(0+0*1)then (pI .u64 (shI .shl .u64 1 0))else (fun i=>(List.replicate 33 (pI .u64 0)).getD i default) i)).length=33)) ⟨[(4,.reg 5000 0)],[(5000,.arr 33 (fun i=>pI .u64 (MH (fun _=>0) (0+0*1) (shI .shl .u64 1 0) i)))]⟩ [] (ids:=[(5000,5000)]) ⟨rfl,rfl,rfl⟩ (hle:=klR [(0,.fn 33 33 (fun i=>[(fun i=>(Cx 33 (fun i=>if i=(0+0*1)then (pI .u64 (shI .shl .u64 1 0))else (fun i=>(List.replicate 33 (pI .u64 0)).getD i default) i)).getD i default) i]) (fun i=>[pI .u64 (MH (fun _=>0) (0+0*1) (shI .shl .u64 1 0) i)]))] (al1 ⟨rfl,fun i b=>(E9 33 (fun i=>if i=(0+0*1)then (pI .u64 (shI .shl .u64 1 0))else (fun i=>(List.replicate 33 (pI .u64 0)).getD i default) i) i b).trans (AH7 (c:=pI .u64) (v:=fun _=>0) (x:=shI .shl .u64 1 0) (BI (z:=pI .u64 0) rfl) rfl i b)⟩ al0))
def Bq (rec:Part->(Sl Oh)->Option (Nat->Int))(N:Nat)(p_x:Pseq)(b:Sl Oh):Option (Nat->Int):= (Q0 N (b.n:Int)).bind fun y1=>Q3 N (fun a (x1:Nat->Int) (x2:Int)=>if (decide (x2<(p_x.l.n:Int))) then if ((0:Int)<=x2/\x2<(p_x.l.n:Int))then (rec (p_x.l.g x2.toNat) b).bind fun y6=>(E7 N x1 y6).bind fun y7=>a y7 (wrap .i64 (x2+1)) else none else some x1) y1 0
theorem Rb {rec:Part->(Sl Oh)->Option ((Nat->Int))}(b:∀{x:Part}{b0:(Sl Oh)}{y:(Nat->Int)},rec x b0=some y->AT9 S Tryz.prog (Gp x) "ablaut/pats.in" [(.p (vSl 2 A0 b0))] (.p (.agg (cA 33 (pI .u64) y)))){p_x:Pseq}{a:(Sl Oh)}{y:(Nat->Int)}(h:Bq rec N p_x a=some y) :FunO S Fp [(.p (.agg (AV3 p_x))),(.p (vSl 2 A0 a))] [] (.p (.agg (cA 33 (pI .u64) y))) ([]) []:=by
 unfold Bq at h;refine A5 Z func244 ?_;refine kC Z h (Dk Z Y) (fun y1 h=>?_);refine R4 Z (And.intro rfl (G0 _ _):(0:Nat)=0/\(Cx 33 (fun i=>pI .u64 (y1 i))).length=33) h (fun x1 x2=>⟨[(15,(pN x2)),(14,(pN (p_x.l.n:Int))),(13,(.p (vSl 1 Ey p_x.l))),(5,(.reg 6000 0)),(4,(.reg 5000 0)),(1,(.p (vSl 2 A0 a)))],[(6000,(.arr 33 (fun i=>pI .u64 (x1 i)))),(5000,(.arr 33 (fun i=>pI .u64 ((fun _=>0) i))))]⟩) (ids:=[(5000,5000),(6000,6000)]) (fun _ _ _ _ _ c x1 x2 d h=>?_) (hle:=(klR [(4,.fn 33 33 (fun i=>[(fun i=>(cA 33 (pI .u64) y1).getD i default) i]) (fun i=>[pI .u64 (y1 i)])),(5,.fn 33 33 (fun i=>[(fun i=>(List.replicate 33 (pI .u64 0)).getD i default) i]) (fun i=>[pI .u64 ((fun _=>0) i)]))] (al1 ⟨rfl,(E9 33 (fun i=>pI .u64 (y1 i)))⟩ (al1 ⟨rfl,(BI (z:=pI .u64 0) rfl)⟩ al0))));apply kI Z h<;>intro h
 .obtain⟨c6,h⟩:=H4 h;obtain⟨y6,e6,h⟩:=C4 h;refine LP Z c6 (b e6) ?_;refine BF Z (And.intro rfl (G0 _ _):(0:Nat)=0/\(Cx 33 (fun i=>pI .u64 (y6 i))).length=33) ⟨[(15,(pN x2)),(14,(pN (p_x.l.n:Int))),(13,(.p (vSl 1 Ey p_x.l))),(8,(.reg 9000 0)),(5,(.reg 6000 0)),(4,(.reg 5000 0)),(1,(.p (vSl 2 A0 a)))],[(9000,(.arr 33 (fun i=>pI .u64 (y6 i)))),(6000,(.arr 33 (fun i=>pI .u64 (x1 i)))),(5000,(.arr 33 (fun i=>pI .u64 ((fun _=>0) i))))]⟩ (ids:=[(5000,5000),(6000,6000),(9000,9000)]) ?_ (hle:=(klR [(4,.fn 33 33 (fun i=>[(fun i=>(cA 33 (pI .u64) y6).getD i default) i]) (fun i=>[pI .u64 (y6 i)]))] (al1 ⟨rfl,(E9 33 (fun i=>pI .u64 (y6 i)))⟩ al0)));obtain⟨y7,e7,h⟩:=C4 h;refine D2 Z [6000,9000] Lu (S5 Z Y e7) ?_;exact d _ [(5000,5000),(6000,6000)] _ y7 (wrap .i64 (x2+1)) (And.intro rfl (G0 _ _):(0:Nat)=0/\(Cx 33 (fun i=>pI .u64 (y7 i))).length=33) h (hle:=klR [(4,.fn 33 33 (fun i=>[(fun i=>(cA 33 (pI .u64) y7).getD i default) i]) (fun i=>[pI .u64 (y7 i)]))] (al1 ⟨rfl,(E9 33 (fun i=>pI .u64 (y7 i)))⟩ al0))
 obtain rfl:=D4 h;exact B1 Z (And.intro rfl (G0 _ _):(0:Nat)=0/\(Cx 33 (fun i=>pI .u64 (x1 i))).length=33) ⟨[(4,(.reg 5000 0))],[(5000,(.arr 33 (fun i=>pI .u64 (x1 i))))]⟩ [] (ids:=[(5000,5000)]) ⟨rfl,rfl,rfl⟩ (hle:=(klR [(0,.fn 33 33 (fun i=>[(fun i=>(cA 33 (pI .u64) x1).getD i default) i]) (fun i=>[pI .u64 (x1 i)]))] (al1 ⟨rfl,(E9 33 (fun i=>pI .u64 (x1 i)))⟩ al0)))
def Br (rec:Part->(Sl Oh)->Option (Nat->Int))(N:Nat)(p_x:Palt)(b:Sl Oh):Option (Nat->Int):= Q3 N (fun a (x1:Nat->Int) (x2:Int)=>if (decide (x2<(p_x.l.n:Int))) then if ((0:Int)<=x2/\x2<(p_x.l.n:Int))then (rec (p_x.l.g x2.toNat) b).bind fun y5=>(N6 N x1 y5).bind fun y6=>a y6 (wrap .i64 (x2+1)) else none else some x1) (fun _=>0) 0
theorem Rc {rec:Part->(Sl Oh)->Option ((Nat->Int))}(b:∀{x:Part}{b0:(Sl Oh)}{y:(Nat->Int)},rec x b0=some y->AT9 S Tryz.prog (Gp x) "ablaut/pats.in" [(.p (vSl 2 A0 b0))] (.p (.agg (cA 33 (pI .u64) y)))){p_x:Palt}{a:(Sl Oh)}{y:(Nat->Int)}(h:Br rec N p_x a=some y) :FunO S Fn [(.p (.agg (AV0 p_x))),(.p (vSl 2 A0 a))] [] (.p (.agg (cA 33 (pI .u64) y))) ([]) []:=by
 unfold Br at h;refine A5 Z func239 ?_;refine R4 Z Lu h (fun x1 x2=>⟨[(11,(pN x2)),(10,(pN (p_x.l.n:Int))),(9,(.p (vSl 1 Ey p_x.l))),(4,(.reg 5000 0)),(1,(.p (vSl 2 A0 a)))],[(5000,(.arr 33 (fun i=>pI .u64 (x1 i))))]⟩) (ids:=[(5000,5000)]) (fun _ _ _ _ _ c x1 x2 d h=>?_) (hle:=(klR [(4,.fn 33 33 (fun i=>[(fun i=>(List.replicate 33 (pI .u64 0)).getD i default) i]) (fun i=>[pI .u64 ((fun _=>0) i)]))] (al1 ⟨rfl,(BI (z:=pI .u64 0) rfl)⟩ al0)));apply kI Z h<;>intro h
 .obtain⟨c6,h⟩:=H4 h;obtain⟨y5,e5,h⟩:=C4 h;refine LP Z c6 (b e5) ?_;refine BF Z (And.intro rfl (G0 _ _):(0:Nat)=0/\(Cx 33 (fun i=>pI .u64 (y5 i))).length=33) ⟨[(11,(pN x2)),(10,(pN (p_x.l.n:Int))),(9,(.p (vSl 1 Ey p_x.l))),(7,(.reg 8000 0)),(4,(.reg 5000 0)),(1,(.p (vSl 2 A0 a)))],[(8000,(.arr 33 (fun i=>pI .u64 (y5 i)))),(5000,(.arr 33 (fun i=>pI .u64 (x1 i))))]⟩ (ids:=[(5000,5000),(8000,8000)]) ?_ (hle:=(klR [(4,.fn 33 33 (fun i=>[(fun i=>(cA 33 (pI .u64) y5).getD i default) i]) (fun i=>[pI .u64 (y5 i)]))] (al1 ⟨rfl,(E9 33 (fun i=>pI .u64 (y5 i)))⟩ al0)));obtain⟨y6,e6,h⟩:=C4 h;refine D2 Z [5000,8000] Lu (DM Z Y e6) ?_;exact d _ [(5000,5000)] _ y6 (wrap .i64 (x2+1)) Lu h
 obtain rfl:=D4 h;exact B1 Z (And.intro rfl (G0 _ _):(0:Nat)=0/\(Cx 33 (fun i=>pI .u64 (x1 i))).length=33) ⟨[(4,(.reg 5000 0))],[(5000,(.arr 33 (fun i=>pI .u64 (x1 i))))]⟩ [] (ids:=[(5000,5000)]) ⟨rfl,rfl,rfl⟩ (hle:=(klR [(0,.fn 33 33 (fun i=>[(fun i=>(cA 33 (pI .u64) x1).getD i default) i]) (fun i=>[pI .u64 (x1 i)]))] (al1 ⟨rfl,(E9 33 (fun i=>pI .u64 (x1 i)))⟩ al0)))
def Bs (rec:Part->(Sl Oh)->Option (Nat->Int))(N:Nat)(p_x:AV1)(a:Sl Oh):Option (Nat->Int):= (rec p_x.of a).bind fun y1=>(F9 N y1 p_x.min (a.n:Int)).bind fun y2=>(Q0 N (a.n:Int)).bind fun y3=>(N6 N y1 y3).bind fun y4=>if (decide (p_x.max<0)) then (F9 N y4 (a.n:Int) (a.n:Int)).bind fun y5=>(E7 N y2 y5).bind fun y6=>some y6 else (F9 N y4 (wrap .i64 (p_x.max-p_x.min)) (a.n:Int)).bind fun y7=>(E7 N y2 y7).bind fun y8=>some y8
theorem Rd {rec:Part->(Sl Oh)->Option ((Nat->Int))}(b:∀{x:Part}{b0:(Sl Oh)}{y:(Nat->Int)},rec x b0=some y->AT9 S Tryz.prog (Gp x) "ablaut/pats.in" [(.p (vSl 2 A0 b0))] (.p (.agg (cA 33 (pI .u64) y)))){p_x:AV1}{a:(Sl Oh)}{y:(Nat->Int)}(h:Bs rec N p_x a=some y) :FunO S Fo [(.p (.agg (AV2 p_x))),(.p (vSl 2 A0 a))] [] (.p (.agg (cA 33 (pI .u64) y))) ([]) []:=by
 unfold Bs at h;refine A5 Z func241 ?_;obtain⟨y1,e1,h⟩:=C4 h;refine LP Z Lu (b e1) ?_;refine BF Z (And.intro rfl (G0 _ _):(0:Nat)=0/\(Cx 33 (fun i=>pI .u64 (y1 i))).length=33) ⟨[(18,(pN (a.n:Int))),(16,(pN p_x.min)),(14,(.p (.agg (cA 33 (pI .u64) y1)))),(5,(.reg 6000 0)),(4,(.reg 5000 0)),(2,(.reg 3000 0)),(1,(.p (vSl 2 A0 a)))],[(6000,(.arr 33 (fun i=>pI .u64 (y1 i)))),(5000,(.arr 33 (fun i=>pI .u64 ((fun _=>0) i)))),(3000,(.cells [(.p (Gp p_x.of)),(pN p_x.min),(pN p_x.max)]))]⟩ (ids:=[(3000,3000),(5000,5000),(6000,6000)]) ?_ (hle:=(klR [(2,.eq (.agg (Cx 33 (fun i=>(cA 33 (pI .u64) y1).getD i default))) (.agg (cA 33 (pI .u64) y1))),(4,.fn 33 33 (fun i=>[(fun i=>(cA 33 (pI .u64) y1).getD i default) i]) (fun i=>[pI .u64 (y1 i)])),(5,.fn 33 33 (fun i=>[(fun i=>(List.replicate 33 (pI .u64 0)).getD i default) i]) (fun i=>[pI .u64 ((fun _=>0) i)]))] (al1 (congrArg PV.agg (YF (E9 33 (fun i=>pI .u64 (y1 i))))) (al1 ⟨rfl,(E9 33 (fun i=>pI .u64 (y1 i)))⟩ (al1 ⟨rfl,(BI (z:=pI .u64 0) rfl)⟩ al0)))));refine kC Z h (Y5 Z Y) (fun y2 h=>?_);obtain⟨y3,e3,h⟩:=C4 h;refine D2 Z [] (And.intro (And.intro rfl (G0 _ _):(0:Nat)=0/\(Cx 33 (fun i=>pI .u64 (y2 i))).length=33) (And.intro rfl (G0 _ _):(0:Nat)=0/\(Cx 33 (fun i=>pI .u64 (y1 i))).length=33)) (Dk Z Y e3) ?_;refine BF Z (And.intro rfl (G0 _ _):(0:Nat)=0/\(Cx 33 (fun i=>pI .u64 (y3 i))).length=33) ⟨[(8,(.reg 9000 0)),(7,(.reg 8000 0)),(6,(.reg 7000 0)),(4,(.reg 5000 0)),(2,(.reg 3000 0)),(1,(.p (vSl 2 A0 a)))],[(9000,(.arr 33 (fun i=>pI .u64 (y3 i)))),(8000,(.arr 33 (fun i=>pI .u64 (y1 i)))),(7000,(.arr 33 (fun i=>pI .u64 (y2 i)))),(5000,(.arr 33 (fun i=>pI .u64 ((fun _=>0) i)))),(3000,(.cells [(.p (Gp p_x.of)),(pN p_x.min),(pN p_x.max)]))]⟩ (ids:=[(3000,3000),(5000,5000),(7000,7000),(8000,8000),(9000,9000)]) ?_ (hle:=(klR [(1,.fn 33 33 (fun i=>[(fun i=>(cA 33 (pI .u64) y3).getD i default) i]) (fun i=>[pI .u64 (y3 i)])),(2,.fn 33 33 (fun i=>[(fun i=>(cA 33 (pI .u64) y1).getD i default) i]) (fun i=>[pI .u64 (y1 i)])),(3,.fn 33 33 (fun i=>[(fun i=>(cA 33 (pI .u64) y2).getD i default) i]) (fun i=>[pI .u64 (y2 i)]))] (al1 ⟨rfl,(E9 33 (fun i=>pI .u64 (y3 i)))⟩ (al1 ⟨rfl,(E9 33 (fun i=>pI .u64 (y1 i)))⟩ (al1 ⟨rfl,(E9 33 (fun i=>pI .u64 (y2 i)))⟩ al0)))));obtain⟨y4,e4,h⟩:=C4 h;refine D2 Z [8000,9000] Lu (DM Z Y e4) ?_;apply kI Z h<;>intro h
 .refine kC Z h (Y5 Z Y) (fun y5 h=>?_);refine BF Z (And.intro rfl (G0 _ _):(0:Nat)=0/\(Cx 33 (fun i=>pI .u64 (y5 i))).length=33) ⟨[(7,(.reg 8000 0)),(6,(.reg 7000 0)),(4,(.reg 5000 0))],[(8000,(.arr 33 (fun i=>pI .u64 (y5 i)))),(7000,(.arr 33 (fun i=>pI .u64 (y2 i)))),(5000,(.arr 33 (fun i=>pI .u64 ((fun _=>0) i))))]⟩ (ids:=[(5000,5000),(7000,7000),(8000,8000)]) ?_ (hle:=(klR [(0,.fn 33 33 (fun i=>[(fun i=>(cA 33 (pI .u64) y5).getD i default) i]) (fun i=>[pI .u64 (y5 i)]))] (al1 ⟨rfl,(E9 33 (fun i=>pI .u64 (y5 i)))⟩ al0)));obtain⟨y6,e6,h⟩:=C4 h;refine D2 Z [7000,8000] Lu (S5 Z Y e6) ?_;obtain rfl:=D4 h;exact B1 Z (And.intro rfl (G0 _ _):(0:Nat)=0/\(Cx 33 (fun i=>pI .u64 (y6 i))).length=33) ⟨[(4,(.reg 5000 0))],[(5000,(.arr 33 (fun i=>pI .u64 (y6 i))))]⟩ [] (ids:=[(5000,5000)]) ⟨rfl,rfl,rfl⟩ (hle:=(klR [(0,.fn 33 33 (fun i=>[(fun i=>(cA 33 (pI .u64) y6).getD i default) i]) (fun i=>[pI .u64 (y6 i)]))] (al1 ⟨rfl,(E9 33 (fun i=>pI .u64 (y6 i)))⟩ al0)))
 refine kC Z h (Y5 Z Y) (fun y7 h=>?_);refine BF Z (And.intro rfl (G0 _ _):(0:Nat)=0/\(Cx 33 (fun i=>pI .u64 (y7 i))).length=33) ⟨[(7,(.reg 8000 0)),(6,(.reg 7000 0)),(4,(.reg 5000 0))],[(8000,(.arr 33 (fun i=>pI .u64 (y7 i)))),(7000,(.arr 33 (fun i=>pI .u64 (y2 i)))),(5000,(.arr 33 (fun i=>pI .u64 ((fun _=>0) i))))]⟩ (ids:=[(5000,5000),(7000,7000),(8000,8000)]) ?_ (hle:=(klR [(0,.fn 33 33 (fun i=>[(fun i=>(cA 33 (pI .u64) y7).getD i default) i]) (fun i=>[pI .u64 (y7 i)]))] (al1 ⟨rfl,(E9 33 (fun i=>pI .u64 (y7 i)))⟩ al0)));obtain⟨y8,e8,h⟩:=C4 h;refine D2 Z [7000,8000] Lu (S5 Z Y e8) ?_;obtain rfl:=D4 h;exact B1 Z (And.intro rfl (G0 _ _):(0:Nat)=0/\(Cx 33 (fun i=>pI .u64 (y8 i))).length=33) ⟨[(4,(.reg 5000 0))],[(5000,(.arr 33 (fun i=>pI .u64 (y8 i))))]⟩ [] (ids:=[(5000,5000)]) ⟨rfl,rfl,rfl⟩ (hle:=(klR [(0,.fn 33 33 (fun i=>[(fun i=>(cA 33 (pI .u64) y8).getD i default) i]) (fun i=>[pI .u64 (y8 i)]))] (al1 ⟨rfl,(E9 33 (fun i=>pI .u64 (y8 i)))⟩ al0)))
def U9 (rec:Pat->Option Part)(N:Nat)(a:Pat):Option Part:= Q3 N (fun b (x1:Sl Part) (x2:Int)=>if (decide (x2<(a.L.n:Int))) then if ((0:Int)<=x2/\x2<(a.L.n:Int))then (rec (a.L.g x2.toNat)).bind fun y3=>if ((x1.n+(Sl.of [y3]:Sl Part).n)*16<=140737488355328/\x1.n+(Sl.of [y3]:Sl Part).n<=140737488355328)then b (x1.push y3) (wrap .i64 (x2+1)) else none else none else if (a.Kind==1) then some (Part.sound a.Is a.Not) else if (a.Kind==2) then some (Part.edge false) else if (a.Kind==6) then some (Part.edge true) else if (a.Kind==4) then some (Part.alt x1.n x1.g) else if (a.Kind==5) then if (((0:Int)<=0/\0<(x1.n:Int))/\0<x1.n)then some (Part.rep (x1.g 0) a.Min a.Max) else none else some (Part.seq x1.n x1.g)) (Sl.nil:Sl Part) 0
def AF:Nat->Pat->Option Part
 |0=>fun _=>none
 |N+1=>U9 (AF N) N
theorem Nt {rec:Pat->Option Part}(b:∀{a:Pat}{y:Part},rec a=some y->FunO S BY [.p (.agg (E8 a))] [] (.p (Gp y)) ([]) []){a:Pat}{y:Part}(h:U9 rec N a=some y) :FunO S BY [.p (.agg (E8 a))] [] (.p (Gp y)) ([]) []:=by
 unfold U9 at h;refine A5 Z func218 ?_;refine N0 Z Lu 2 2000 (E8 a) ?_;refine AS Z Lu 8 ⟨[(7,.p (vSl 7 E8 a.L)),(3,.p M9),(1,.p (.ptr (E8 a)))],[]⟩ (ids:=[]) ?_ (hle:=klR [(0,.fn a.L.n a.L.n (De a) (fun i=>E8 (a.L.g i)))] (al1 ⟨rfl,CK a⟩ al0));refine R4 Z Lu h (fun x1 x2=>⟨[(9,pN x2),(8,pN (a.L.n:Int)),(7,.p (vSl 7 E8 a.L)),(3,.vec 4500),(1,.p (.ptr (E8 a)))],[(4500,.vec Vp 1 x1.n (fun i=>Ey (x1.g i)) false)]⟩) (ids:=[]) (fun _ _ _ _ _ d x1 x2 f h=>?_);apply kI Z h<;>intro h
 .obtain⟨c6,h⟩:=H4 h;refine N0 Z (And.intro c6 O2) 13 6000 (E8 (a.L.g x2.toNat)) ?_;obtain⟨y3,e3,h⟩:=C4 h;refine D2 Z [] O2 (b e3) ?_;obtain⟨c7,h⟩:=H4 h;exact f _ [(4500,18000)] _ (x1.push y3) (wrap .i64 (x2+1)) (And.intro Ob c7) h (hle:=klR [(4,.fn (x1.n+1) (x1.push y3).n (BA x1.n (fun i=>Ey (x1.g i)) (E5 [.v .nilIface] [(0,Ey y3)])) (fun i=>Ey ((x1.push y3).g i)))] (al1 ⟨rfl,Pm (c:=Ey) (v:=x1) (x:=y3) (z:=[(.v .nilIface)]) same rfl rfl⟩ al0))
 apply kI Z h<;>intro h
 .obtain rfl:=D4 h;exact Ar2 Z (by decide:(2:Nat)<=6) [] ⟨rfl,rfl,rfl⟩
 apply kI Z h<;>intro h
 .cases h;exact kR Z
 apply kI Z h<;>intro h
 .cases h;exact kR Z
 apply kI Z h<;>intro h
 .refine AS Z Lu 40 ⟨[(39,.p (vSl 1 Ey x1))],[]⟩ (ids:=[]) ?_;cases h;exact kR Z
 apply kI Z h<;>intro h
 .refine L7 Z Lu [4,6] ?_;obtain⟨c13,h⟩:=H4 h;refine P3 c13 ?_;cases h;exact kR Z
 refine AS Z Lu 54 ⟨[(53,.p (vSl 1 Ey x1))],[]⟩ (ids:=[]) ?_;cases h;exact kR Z
theorem Oy {a:Pat}{y:Part}(h:AF N a=some y) :FunO S BY [.p (.agg (E8 a))] [] (.p (Gp y)) ([]) []:=by
 induction N generalizing a y with
 |zero=>cases (show (none:Option Part)=some y from h)
 |succ N ih=>exact Nt Z Y (fun e=>ih e) h
end Go.AM
namespace Go.AM
open Go.Proofs
variable {S:Aj}(Z:H1 S Tryz.prog) (Y:Nk S)
include Z Y
def AG:Nat->Part->Sl Oh->Option (Nat->Int)
 |0=>fun _ _=>none
 |N+1=>fun p w=>match p with
  |.nil=>none
  |.sound x no=>Y6 N ⟨x,no⟩ w
  |.edge e=>AE N ⟨e⟩ w
  |.seq n g=>Bq (AG N) N ⟨⟨n,g⟩⟩ w
  |.alt n g=>Br (AG N) N ⟨⟨n,g⟩⟩ w
  |.rep o mn mx=>Bs (AG N) N ⟨o,mn,mx⟩ w
theorem Ad7 {N:Nat}{x:Part}{w:Sl Oh}{y:Nat->Int}(h:AG N x w=some y):AT9 S Tryz.prog (Gp x) "ablaut/pats.in" [(.p (vSl 2 A0 w))] (.p (.agg (cA 33 (pI .u64) y))):=by
 induction N generalizing x w y with
 |zero=>cases h
 |succ N ih=>
  cases x with
  |nil=>cases h
  |sound s no=>exact⟨_,_,Dh,rfl,by kernel_rfl,Ns Z Y (p_x:=⟨s,no⟩) h⟩
  |edge e=>exact⟨_,_,DY,rfl,by kernel_rfl,Ox Z Y (N:=N) (p_x:=⟨e⟩) h⟩
  |seq n g=>exact⟨_,_,Fp,rfl,by kernel_rfl,Rb Z Y (fun e=>ih e) (p_x:=⟨⟨n,g⟩⟩) h⟩
  |alt n g=>exact⟨_,_,Fn,rfl,by kernel_rfl,Rc Z Y (fun e=>ih e) (p_x:=⟨⟨n,g⟩⟩) h⟩
  |rep o mn mx=>exact⟨_,_,Fo,rfl,by kernel_rfl,Rd Z Y (fun e=>ih e) (p_x:=⟨o,mn,mx⟩) h⟩
end Go.AM
namespace Go.AM
open Go.Proofs.Tryz
variable {N:Nat}
open IntKind (wrap)
open Go.Proofs
set_option maxRecDepth 10000
set_option maxHeartbeats 2000000
variable {S:Aj}(Z:H1 S Tryz.prog) (Y:Nk S)
include Z Y
def T0 (N:Nat)(a:Oh):Option Bool:= (P2 N a).bind fun y1=>some (!y1)
theorem Nu {a:Oh}{y:Bool}(h:T0 N a=some y) :FunO S Gw [.p (.agg (A0 a))] [] (pB y) ([]) []:=by unfold T0 at h;refine A5 Z func217 ?_;refine kC Z h (DL Z Y) (fun y1 h=>?_);cases h;exact kR Z
def E6 (N:Nat)(a:Sl Oh)(c:Oh->Option Bool):Option Int:= Q5 N (fun b (x1:Int)=>if (decide (x1<(a.n:Int))) then if ((0:Int)<=x1/\x1<(a.n:Int))then (c (a.g x1.toNat)).bind fun y3=>if y3 then some x1 else b (wrap .i64 (x1+1)) else none else some (-1)) 0
theorem W9 {a:Sl Oh}{c:Oh->Option Bool}{kp_f:Nat}(d:∀{a0:Oh}{b:Bool},c a0=some b->FunO S kp_f [.p (.agg (A0 a0))] [] (pB b) [] []){y:Int}(h:E6 N a c=some y) :FunO S K3 [.p (vSl 2 A0 a),.clo kp_f [] []] [] (pN y) ([]) []:=by
 unfold E6 at h;refine A5 Z func132 ?_;refine Ak Z Lu h (fun x1=>⟨[(8,pN x1),(7,pN (a.n:Int)),(1,.clo kp_f [] []),(0,.p (vSl 2 A0 a))],[]⟩) (ids:=[]) (fun _ _ _ _ _ f x1 g h=>?_);apply kI Z h<;>intro h
 .obtain⟨c8,h⟩:=H4 h;obtain⟨y3,e3,h⟩:=C4 h;refine D2 Z [] (And.intro c8 Nf) (d e3) ?_;apply kI Z h<;>intro h
  .cases h;exact kR Z
  exact g _ [] _ (wrap .i64 (x1+1)) Lu h
 cases h;exact kR Z
def B4 (N:Nat)(a:Sl Oh)(b:Oh->Option Bool):Option Bool:= (E6 N a b).bind fun y1=>some (decide (0<=y1))
theorem J2 {a:Sl Oh}{c:Oh->Option Bool}{kp_f:Nat}(d:∀{a0:Oh}{b:Bool},c a0=some b->FunO S kp_f [.p (.agg (A0 a0))] [] (pB b) [] []){y:Bool}(h:B4 N a c=some y) :FunO S J1 [.p (vSl 2 A0 a),.clo kp_f [] []] [] (pB y) ([]) []:=by unfold B4 at h;refine A5 Z func108 ?_;refine kC Z h (W9 Z Y (fun e=>d e)) (fun y1 h=>?_);cases h;exact kR Z
def D3 (N:Nat)(q0:Sl Pat):Option (List (Int×Pat)):= Q5 N (fun a (x1:Int)=>if (decide (0<=x1)) then if ((0:Int)<=x1/\x1<(q0.n:Int))then X1 (x1,q0.g x1.toNat) (a (wrap .i64 (x1-1))) else none else some []) (wrap .i64 ((q0.n:Int)-1))
theorem Ad {q0:Sl Pat}{L:List (Int×Pat)}(h:D3 N q0=some L) :Fc S F3 [] [.reg 0 0] [.cells [.p (vSl 7 E8 q0)]] (L.map (fun (x:Int×Pat)=>[pI .i64 x.1,(fun x=>.agg (E8 x)) x.2])):=by
 unfold D3 at h;refine Fh Z func153 ?_;refine Fg Z Lu h (fun x1 L1=>⟨[(3,pN x1),(1,.reg 0 0),(0,.yf 1)],[(1,.yld (L1.map (fun (x:Int×Pat)=>[pI .i64 x.1,(fun x=>.agg (E8 x)) x.2])) true),(0,.cells [.p (vSl 7 E8 q0)])]⟩) (ids:=[(0,0),(1,1)]) (fun _ _ _ _ _ d x1 L1 f h=>?_);apply kI Z h<;>intro h
 .obtain⟨c10,h⟩:=H4 h;obtain⟨L4,rfl,c⟩:=MF h;replace h:=c;refine Dd Z (And.intro c10 O2) (ys:=(fun (x:Int×Pat)=>[pI .i64 x.1,(fun x=>.agg (E8 x)) x.2]) (x1,q0.g x1.toNat)) (rest:=L4.map (fun (x:Int×Pat)=>[pI .i64 x.1,(fun x=>.agg (E8 x)) x.2])) ?_ ?_
  .refine F4 Z Lu (b:=false) (fun c11=>?_) (fun c11=>?_)
   .exact Bool.noConfusion ((rfl:false=false).symm.trans c11)
   exact f _ [(0,0),(1,1)] _ (wrap .i64 (x1-1)) L4 Lu h
  refine F4 Z Lu (b:=true) (fun c12=>?_) (fun c12=>?_)
  .exact B1 Z Lu (a:=.tup []) (objs:=[(.cells [.p (vSl 7 E8 q0)]),.yld [] false]) ⟨[],[(1,.yld [] false),(0,.cells [.p (vSl 7 E8 q0)])]⟩ [0,1] (ids:=[(0,0),(1,1)]) ⟨false,rfl,rfl,_,rfl⟩
  exact Bool.noConfusion (Ob.symm.trans c12)
 obtain rfl:=D4 h;exact B1 Z Lu (a:=.tup []) (objs:=[(.cells [.p (vSl 7 E8 q0)]),.yld [] true]) ⟨[],[(1,.yld [] true),(0,.cells [.p (vSl 7 E8 q0)])]⟩ [0,1] (ids:=[(0,0),(1,1)]) ⟨true,rfl,rfl,_,rfl⟩
def I2 (N:Nat)(a:Sl Pat):Option (Sl Pat):= some a
theorem AH {a:Sl Pat}{y:Sl Pat}(h:I2 N a=some y) :FunO S O9 [.p (vSl 7 E8 a)] [] (.clo F3 [] [.reg 0 0]) ([.cells [.p (vSl 7 E8 y)]]) []:=by unfold I2 at h;refine A5 Z func131 ?_;obtain rfl:=D4 h;exact B1 Z Lu ⟨[(2,.clo F3 [] [.reg 2000 0])],[(2000,.cells [.p (vSl 7 E8 a)])]⟩ [2000] (ids:=[(2000,2000)]) ⟨rfl,rfl,rfl⟩
def Y7 (N:Nat)(c:Pat):Option Int:= Q3 N (fun a (x3:Sl Pat) (x4:Int)=>if (decide (0<(x3.n:Int))) then if (x4==40) then some 12 else if (((0:Int)<=(wrap .i64 ((x3.n:Int)-1))/\(wrap .i64 ((x3.n:Int)-1))<(x3.n:Int))/\(wrap .i64 ((x3.n:Int)-1)).toNat<x3.n)then if ((0:Int)<=(wrap .i64 ((x3.n:Int)-1))/\(wrap .i64 ((x3.n:Int)-1))<=(x3.n:Int))then (AC N (x3.g (wrap .i64 ((x3.n:Int)-1)).toNat)).bind fun y5=>if (y5 != 0) then some y5 else if ((0:Int)<=(if 41<((x3.g (wrap .i64 ((x3.n:Int)-1)).toNat).L.n:Int)then 41 else ((x3.g (wrap .i64 ((x3.n:Int)-1)).toNat).L.n:Int))/\(if 41<((x3.g (wrap .i64 ((x3.n:Int)-1)).toNat).L.n:Int)then 41 else ((x3.g (wrap .i64 ((x3.n:Int)-1)).toNat).L.n:Int))<=((x3.g (wrap .i64 ((x3.n:Int)-1)).toNat).L.n:Int))then (I2 N ((x3.g (wrap .i64 ((x3.n:Int)-1)).toNat).L.take (if 41<((x3.g (wrap .i64 ((x3.n:Int)-1)).toNat).L.n:Int)then 41 else ((x3.g (wrap .i64 ((x3.n:Int)-1)).toNat).L.n:Int)).toNat)).bind fun y6=>(D3 N y6).bind fun L3=>N8 L3 (fun b (x7:Int×Pat) (z3:Sl Pat)=>if ((((z3.n+(Sl.of [Pat.nil]:Sl Pat).n)*64<=140737488355328/\z3.n+(Sl.of [Pat.nil]:Sl Pat).n<=140737488355328)/\((0:Int)<=(z3.n:Int)/\(z3.n:Int)<((z3.push Pat.nil).n:Int)))/\(z3.n:Int).toNat<(z3.push Pat.nil).n)then b ((z3.push Pat.nil).upd (z3.n:Int).toNat x7.2) else none) (fun (z3:Sl Pat)=>a z3 (wrap .i64 (x4+1))) (x3.take (wrap .i64 ((x3.n:Int)-1)).toNat) else none else none else none else some 0) (Sl.of [c]:Sl Pat) 0
theorem GB {b:Pat}{y:Int}(h:Y7 N b=some y) :FunO S Lb [.p (.agg (E8 b))] [] (pN y) ([]) []:=by
 unfold Y7 at h;refine A5 Z func107 ?_;refine N0 Z Lu 2 2000 (E8 b) ?_;refine R4 Z (And.intro O2 Ob) h (fun x3 x4=>⟨[(4,pN x4),(3,.reg 4000 0)],[(4501,.vec EC 7 x3.n (fun i=>E8 (x3.g i)) false),(4000,.cells [.vec 4501])]⟩) (ids:=[(4000,4000),(4501,12000)]) (fun _ _ _ _ _ d x3 x4 j h=>?_) (hle:=klR [(1,.fn 1 (Sl.of [b]:Sl Pat).n (E5 [pI .i64 0,pI .u32 0,pI .u32 0,.v (.bool false),pI .i64 0,pI .i64 0,M9] [(0,E8 b)]) (fun i=>E8 ((Sl.of [b]:Sl Pat).g i)))] (al1 ⟨rfl,(fun i m=>match i,m with|0,_=>rfl|_+1,m=>Lq m (by omega))⟩ al0));apply kI Z h<;>intro h
 .apply kI Z h<;>intro h
  .cases h;exact kR Z
  obtain⟨c21,h⟩:=H4 h;refine N0 Z (And.intro (And.intro c21.1 O2) c21.2) 25 6000 (E8 (x3.g (wrap .i64 ((x3.n:Int)-1)).toNat)) ?_;obtain⟨c22,h⟩:=H4 h;refine AU0 Z c22 30 4501 (wrap .i64 ((x3.n:Int)-1)).toNat 4508 (e:=EC) (k:=7) (N:=x3.n) (f:=fun i=>E8 (x3.g i)) (by have r:=c22;omega) ?_;obtain⟨y5,e7,h⟩:=C4 h;refine D2 Z [] O2 (Ow Z Y e7) ?_;apply kI Z h<;>intro h
  .cases h;exact kR Z
  refine AS Z Lu 39 ⟨[(38,.p (vSl 7 E8 (x3.g (wrap .i64 ((x3.n:Int)-1)).toNat).L)),(36,.p (vSl 7 E8 (x3.g (wrap .i64 ((x3.n:Int)-1)).toNat).L)),(4,pN x4),(3,.reg 4000 0)],[(4508,.vec EC 7 (x3.take (wrap .i64 ((x3.n:Int)-1)).toNat).n (fun i=>E8 ((x3.take (wrap .i64 ((x3.n:Int)-1)).toNat).g i)) false),(4000,.cells [.vec 4508])]⟩ (ids:=[(4000,4000),(4508,4508)]) ?_ (hle:=klR [(0,.fn (x3.g (wrap .i64 ((x3.n:Int)-1)).toNat).L.n (x3.g (wrap .i64 ((x3.n:Int)-1)).toNat).L.n (De (x3.g (wrap .i64 ((x3.n:Int)-1)).toNat)) (fun i=>E8 ((x3.g (wrap .i64 ((x3.n:Int)-1)).toNat).L.g i))),(1,.fn (x3.g (wrap .i64 ((x3.n:Int)-1)).toNat).L.n (x3.g (wrap .i64 ((x3.n:Int)-1)).toNat).L.n (De (x3.g (wrap .i64 ((x3.n:Int)-1)).toNat)) (fun i=>E8 ((x3.g (wrap .i64 ((x3.n:Int)-1)).toNat).L.g i)))] (al1 ⟨rfl,CK (x3.g (wrap .i64 ((x3.n:Int)-1)).toNat)⟩ (al1 ⟨rfl,CK (x3.g (wrap .i64 ((x3.n:Int)-1)).toNat)⟩ al0)));obtain⟨c24,h⟩:=H4 h;obtain⟨y6,e8,h⟩:=C4 h;refine D2 Z [] c24 (AH Z Y e8) ?_;obtain⟨L3,e9,h⟩:=C4 h;refine DU Z Lu [44000] [4,3] 905 (fun z3=>⟨[(4,pN x4),(3,.reg 4000 0)],[(4500,.vec EC 7 z3.n (fun i=>E8 (z3.g i)) false),(4000,.cells [.vec 4500])]⟩) (idl:=[(4000,4000),(4500,4508)]) h (Ad Z Y e9) (fun _=>by kernel_rfl) (fun _=>by kernel_rfl) (fun _=>by kernel_rfl) (fun _=>by kernel_rfl) (fun x7 _ o z3 q h=>?_) (fun z3 h=>?_)
  .refine Ie Z Lu ?_;refine AH5 Z Lu 10000 (E8 x7.2) ?_;refine S4 Z Lu [(0,.l [4000]),(1,.n),(2,.l [4500]),(4,.a [51000,4500]),(5,.l [51000]),(6,.a [51000]),(7,.a [4000])] ?_;refine X9 O2 (x:=.sl true 7 1 (E5 [pI .i64 0,pI .u32 0,pI .u32 0,.v (.bool false),pI .i64 0,pI .i64 0,M9] [(0,[pI .i64 0,pI .u32 0,pI .u32 0,.v (.bool false),pI .i64 0,pI .i64 0,M9])])) ?_;obtain⟨c27,h⟩:=H4 h;refine P3 (And.intro (And.intro c27.1.1 c27.1.2) (And.intro (rfl:(7:Nat)=7) (And.intro c27.2 O2))) ?_;exact q _ [(905,905),(4000,4000),(4500,51000)] _ ((z3.push Pat.nil).upd (z3.n:Int).toNat x7.2) Lu h (hle:=klR [(0,.fn (z3.n+1) ((z3.push Pat.nil).upd (z3.n:Int).toNat x7.2).n (fun l=>if l=(z3.n:Int).toNat then splice (BA z3.n (fun i=>E8 (z3.g i)) (E5 [pI .i64 0,pI .u32 0,pI .u32 0,.v (.bool false),pI .i64 0,pI .i64 0,M9] [(0,[pI .i64 0,pI .u32 0,pI .u32 0,.v (.bool false),pI .i64 0,pI .i64 0,M9])]) l) 0 [pI .i64 x7.2.Kind,pI .u32 x7.2.Is.Plus,pI .u32 x7.2.Is.Minus,.bb x7.2.Not,pI .i64 x7.2.Min,pI .i64 x7.2.Max,.sl false 7 x7.2.L.n (De x7.2)]else (BA z3.n (fun i=>E8 (z3.g i)) (E5 [pI .i64 0,pI .u32 0,pI .u32 0,.v (.bool false),pI .i64 0,pI .i64 0,M9] [(0,[pI .i64 0,pI .u32 0,pI .u32 0,.v (.bool false),pI .i64 0,pI .i64 0,M9])])) l) (fun i=>E8 (((z3.push Pat.nil).upd (z3.n:Int).toNat x7.2).g i)))] (al1 ⟨rfl,setH (c:=E8) (v:=z3.push Pat.nil) (x:=x7.2) (app1H (c:=E8) (v:=z3) (z:=Pat.nil) same rfl) (fun _=>by simp[BA,E5,splice])⟩ al0))
  exact j _ [(4000,4000),(4501,4500)] _ z3 (wrap .i64 (x4+1)) Lu h
 cases h;exact kR Z
def Ae (N:Nat)(b:Pat)(a:Sl Oh):Option ((Nat->Int)×Int):= (Y7 N b).bind fun y1=>if (y1 != 0) then some (fun _=>0,y1) else if (decide (32<(a.n:Int))) then some (fun _=>0,11) else (B4 N a (fun (u1:Oh)=>T0 N u1)).bind fun y2=>if y2 then some (fun _=>0,14) else (AF N b).bind fun y3=>(AG N y3 a).bind fun y4=>some (y4,0)
theorem Jt {a:Pat}{b:Sl Oh}{y:(Nat->Int)×Int}(h:Ae N a b=some y) :FunO S Jm [.p (.agg (E8 a)),.p (vSl 2 A0 b)] [] (.tup [.p (.agg (cA 33 (pI .u64) y.1)),pN y.2]) ([]) []:=by
 unfold Ae at h;refine A5 Z func214 ?_;refine kC Z h (GB Z Y) (fun y1 h=>?_);apply kI Z h<;>intro h
 .obtain rfl:=D4 h;exact B1 Z (And.intro rfl (G0 _ _):(0:Nat)=0/\(Cx 33 (fun i=>pI .u64 ((fun _=>0) i))).length=33) ⟨[(5,pN y1),(4,.reg 5000 0)],[(5000,.arr 33 (fun i=>pI .u64 ((fun _=>0) i)))]⟩ [] (ids:=[(5000,5000)]) ⟨rfl,rfl,rfl⟩ (hle:=klR [(1,.fn 33 33 (fun i=>[(fun i=>(cA 33 (pI .u64) (fun _=>0)).getD i default) i]) (fun i=>[pI .u64 ((fun _=>0) i)]))] (al1 ⟨rfl,E9 33 (fun i=>pI .u64 ((fun _=>0) i))⟩ al0))
 apply kI Z h<;>intro h
 .obtain rfl:=D4 h;exact B1 Z (And.intro rfl (G0 _ _):(0:Nat)=0/\(Cx 33 (fun i=>pI .u64 ((fun _=>0) i))).length=33) ⟨[(5,pN 11),(4,.reg 5000 0)],[(5000,.arr 33 (fun i=>pI .u64 ((fun _=>0) i)))]⟩ [] (ids:=[(5000,5000)]) ⟨rfl,rfl,rfl⟩ (hle:=klR [(1,.fn 33 33 (fun i=>[(fun i=>(cA 33 (pI .u64) (fun _=>0)).getD i default) i]) (fun i=>[pI .u64 ((fun _=>0) i)]))] (al1 ⟨rfl,E9 33 (fun i=>pI .u64 ((fun _=>0) i))⟩ al0))
 refine kC Z h (J2 Z Y (fun e=>Nu Z Y e)) (fun y2 h=>?_);apply kI Z h<;>intro h
 .obtain rfl:=D4 h;exact B1 Z (And.intro rfl (G0 _ _):(0:Nat)=0/\(Cx 33 (fun i=>pI .u64 ((fun _=>0) i))).length=33) ⟨[(5,pN 14),(4,.reg 5000 0)],[(5000,.arr 33 (fun i=>pI .u64 ((fun _=>0) i)))]⟩ [] (ids:=[(5000,5000)]) ⟨rfl,rfl,rfl⟩ (hle:=klR [(1,.fn 33 33 (fun i=>[(fun i=>(cA 33 (pI .u64) (fun _=>0)).getD i default) i]) (fun i=>[pI .u64 ((fun _=>0) i)]))] (al1 ⟨rfl,E9 33 (fun i=>pI .u64 ((fun _=>0) i))⟩ al0))
 refine kC Z h (Oy Z Y) (fun y3 h=>?_);obtain⟨y4,e4,h⟩:=C4 h;refine LP Z Lu (Ad7 Z Y e4) ?_;obtain rfl:=D4 h;exact B1 Z (And.intro rfl (G0 _ _):(0:Nat)=0/\(Cx 33 (fun i=>pI .u64 (y4 i))).length=33) ⟨[(5,pN 0),(4,.reg 5000 0)],[(5000,.arr 33 (fun i=>pI .u64 (y4 i)))]⟩ [] (ids:=[(5000,5000)]) ⟨rfl,rfl,rfl⟩ (hle:=klR [(1,.fn 33 33 (fun i=>[(fun i=>(cA 33 (pI .u64) y4).getD i default) i]) (fun i=>[pI .u64 (y4 i)]))] (al1 ⟨rfl,E9 33 (fun i=>pI .u64 (y4 i))⟩ al0))
def Bt (N:Nat)(d:Pat)(c:Sl Oh)(a:Int):Option ((Sl Int)×Int):= (Ae N d c).bind fun y1=>lt (fun (z1:Int)=>if (z1 != 0) then some (Oc,z1) else Q3 N (fun b (x2:Sl Int) (x3:Int)=>if (decide (x3<(wrap .i64 ((c.n:Int)+1)))) then if ((((0:Int)<=x3/\x3<33)/\(0+x3.toNat*1)<33)/\(0:Int)<=a)then if ((H0 .and .u64 (shI .shr .u64 (y1.1 (0+x3.toNat*1)) a) 1)==1) then if ((x2.n+(Sl.of [x3]:Sl Int).n)*8<=140737488355328/\x2.n+(Sl.of [x3]:Sl Int).n<=140737488355328)then b (x2.push x3) (wrap .i64 (x3+1)) else none else b x2 (wrap .i64 (x3+1)) else none else some (x2,0)) Oc 0) fun k1=>if (y1.2==0) then (Ab N c a).bind fun y3=>k1 y3 else k1 y1.2
theorem Re {f:Pat}{d:Sl Oh}{a:Int}{y:(Sl Int)×Int}(h:Bt N f d a=some y) :FunO S Jl [.p (.agg (E8 f)),.p (vSl 2 A0 d),pN a] [] (.tup [.vec 0,pN y.2]) ([.vec F2 1 y.1.n (fun i=>cI .i64 (y.1.g i)) true]) []:=by
 unfold Bt at h;refine A5 Z func210 ?_;refine kC Z h (Jt Z Y) (fun y1 h=>?_);refine NR Z (And.intro rfl (G0 _ _):(0:Nat)=0/\(Cx 33 (fun i=>pI .u64 (y1.1 i))).length=33) (B3 Z) h 0 (fun z1=>⟨[(9,pN z1),(8,.reg 9000 0),(2,pN a),(1,.p (vSl 2 A0 d))],[(9000,.arr 33 (fun i=>pI .u64 (y1.1 i)))]⟩) (fun M1 k1 j h=>?_) (fun z1 h=>?_)
 .apply kI Z h<;>intro h
  .refine kC Z h (Js Z Y) (fun y3 h=>?_);exact j _ [(9000,9000)] _ y3 Lu h (hle:=klR [(3,.fn 33 33 (fun i=>[(fun i=>(cA 33 (pI .u64) y1.1).getD i default) i]) (fun i=>[pI .u64 (y1.1 i)]))] (al1 ⟨rfl,E9 33 (fun i=>pI .u64 (y1.1 i))⟩ al0))
  exact j _ [(9000,9000)] _ y1.2 Lu h (hle:=klR [(3,.fn 33 33 (fun i=>[(fun i=>(cA 33 (pI .u64) y1.1).getD i default) i]) (fun i=>[pI .u64 (y1.1 i)]))] (al1 ⟨rfl,E9 33 (fun i=>pI .u64 (y1.1 i))⟩ al0))
 apply kI Z h<;>intro h
 .obtain rfl:=D4 h;exact B1 Z Lu ⟨[(7,pN z1),(6,.vec 7700)],[(7700,.vec F2 1 Oc.n (fun i=>cI .i64 (Oc.g i)) true)]⟩ [7700] (ids:=[]) ⟨rfl,rfl,rfl⟩
 refine R4 Z Lu h (fun x2 x3=>⟨[(29,pN x3),(28,pN (wrap .i64 ((d.n:Int)+1))),(10,.vec 11500),(8,.reg 9000 0),(2,pN a)],[(11500,.vec F2 1 x2.n (fun i=>cI .i64 (x2.g i)) false),(9000,.arr 33 (fun i=>pI .u64 (y1.1 i)))]⟩) (ids:=[(9000,9000)]) (fun _ _ _ _ _ m x2 x3 l h=>?_);apply kI Z h<;>intro h
 .obtain⟨c12,h⟩:=H4 h;refine F4 Z c12 (b:=(H0 .and .u64 (shI .shr .u64 (y1.1 (0+x3.toNat*1)) a) 1)==1) (fun c13=>?_) (fun c13=>?_)
  .replace h:=itT c13 h;obtain⟨c14,h⟩:=H4 h;exact l _ [(9000,9000),(11500,43000)] _ (x2.push x3) (wrap .i64 (x3+1)) (And.intro Ob c14) h (hle:=klR [(3,.fn (x2.n+1) (x2.push x3).n (BA x2.n (fun i=>cI .i64 (x2.g i)) (E5 [pI .i64 0] [(0,cI .i64 x3)])) (fun i=>cI .i64 ((x2.push x3).g i)))] (al1 ⟨rfl,Pm (c:=cI .i64) (v:=x2) (x:=x3) (z:=[(pI .i64 0)]) same rfl rfl⟩ al0))
  replace h:=itF c13 h;exact l _ [(9000,9000),(11500,11500)] _ x2 (wrap .i64 (x3+1)) Lu h
 obtain rfl:=D4 h;exact B1 Z Lu ⟨[(7,pN 0),(6,.vec 11500)],[(11500,.vec F2 1 x2.n (fun i=>cI .i64 (x2.g i)) true)]⟩ [11500] (ids:=[(11500,11500)]) ⟨rfl,rfl,rfl⟩
def H8 (N:Nat)(a:List (Int)):Option (Sl Int):= N8 a (fun b (x1:Int) (z1:Sl Int)=>if ((z1.n+(Sl.of [x1]:Sl Int).n)*8<=140737488355328/\z1.n+(Sl.of [x1]:Sl Int).n<=140737488355328)then b (z1.push x1) else none) (fun (z1:Sl Int)=>some z1) Oc
theorem Ck {b:List (Int)}{a:Int}{kp_seq:Nat}(fp_seq:∃fn,AZ5[kp_seq]? = some fn/\fn.body.isSome=true/\(fn.name == "runtime.NumGoroutine")=false)(d:Fc S kp_seq [] [.reg 0 0] [(.cells [(.p (pI .u64 a))])] (b.map (fun (x:Int)=>[(pI .i64) x]))){y:(Sl Int)}(h:H8 N b=some y) :FunO S N9 [(.p M9),(.clo kp_seq [] [(.reg 0 0)])] [(.cells [(.p (pI .u64 a))])] (.vec 0) ([(.vec F2 1 y.n (fun i=>(cI .i64) (y.g i)) true)]) [false]:=by
 unfold H8 at h;refine A5 Z func134 ?_;refine Qz Z Lu fp_seq [0] [2] 901 (fun z1=>⟨[(2,(.reg 3000 0))],[(3500,(.vec F2 1 z1.n (fun i=>(cI .i64) (z1.g i)) false)),(3000,(.cells [(.vec 3500)]))]⟩) (idl:=[(3000,3000)]) h d (fun _=>by kernel_rfl) (fun _=>by kernel_rfl) (fun _=>by kernel_rfl) (fun _=>by kernel_rfl) (fun x1 _ f z1 j h=>?_) (fun z1 h=>?_)
 .refine Ie Z Lu ?_;obtain⟨c1,h⟩:=H4 h;exact j _ [(901,901),(3000,3000),(3500,12000)] _ (z1.push x1) (And.intro Ob c1) h (hle:=klR [(0,.fn (z1.n+1) (z1.push x1).n (BA z1.n (fun i=>(cI .i64) (z1.g i)) (E5 [(pI .i64 0)] [(0,(cI .i64) x1)])) (fun i=>(cI .i64) ((z1.push x1).g i)))] (al1 ⟨rfl,(Pm (c:=(cI .i64)) (v:=z1) (x:=x1) (z:=[(pI .i64 0)]) same rfl rfl)⟩ al0))
 obtain rfl:=D4 h;exact B1 Z Lu ⟨[(4,(.vec 3500))],[(3500,(.vec F2 1 z1.n (fun i=>(cI .i64) (z1.g i)) true))]⟩ [3500] (ids:=[(3500,3500)]) ⟨rfl,rfl,rfl⟩
def N2 (N:Nat)(a:List (Int)):Option (Sl Int):= (H8 N a).bind fun y1=>some y1
theorem GC {b:List (Int)}{a:Int}{kp_seq:Nat}(fp_seq:∃fn,AZ5[kp_seq]? = some fn/\fn.body.isSome=true/\(fn.name == "runtime.NumGoroutine")=false)(c:Fc S kp_seq [] [.reg 0 0] [(.cells [(.p (pI .u64 a))])] (b.map (fun (x:Int)=>[(pI .i64) x]))){y:(Sl Int)}(h:N2 N b=some y) :FunO S An [(.clo kp_seq [] [(.reg 0 0)])] [(.cells [(.p (pI .u64 a))])] (.vec 0) ([(.vec F2 1 y.n (fun i=>(cI .i64) (y.g i)) true)]) [false]:=by unfold N2 at h;refine A5 Z func111 ?_;obtain⟨y1,e1,h⟩:=C4 h;refine D2 Z [0] Lu (Ck Z Y fp_seq c e1) ?_;obtain rfl:=D4 h;exact B1 Z Lu ⟨[(2,(.vec 5000))],[(5000,(.vec F2 1 y1.n (fun i=>(cI .i64) (y1.g i)) true))]⟩ [5000] (ids:=[(5000,5000)]) ⟨rfl,rfl,rfl⟩
def Dp (N:Nat)(c:Pat)(b:Sl Oh)(a:Int):Option ((Sl Int)×Int):= (Ae N c b).bind fun y1=>lt (fun (z1:Int)=>if (z1 != 0) then some (Oc,z1) else if (((0:Int)<=a/\a<33)/\(0+a.toNat*1)<33)then (AD N (y1.1 (0+a.toNat*1))).bind fun y4=>(Q8 N y4).bind fun L1=>(N2 N L1).bind fun y5=>some (y5,0) else none) fun k1=>if (y1.2==0) then (Ab N b a).bind fun y3=>k1 y3 else k1 y1.2
theorem Vx {b:Pat}{c:Sl Oh}{a:Int}{y:(Sl Int)×Int}(h:Dp N b c a=some y) :FunO S Nb [.p (.agg (E8 b)),.p (vSl 2 A0 c),pN a] [] (.tup [.vec 0,pN y.2]) ([.vec F2 1 y.1.n (fun i=>cI .i64 (y.1.g i)) true]) []:=by
 unfold Dp at h;refine A5 Z func211 ?_;refine kC Z h (Jt Z Y) (fun y1 h=>?_);refine NR Z (And.intro rfl (G0 _ _):(0:Nat)=0/\(Cx 33 (fun i=>pI .u64 (y1.1 i))).length=33) (B3 Z) h 0 (fun z1=>⟨[(9,pN z1),(8,.reg 9000 0),(2,pN a)],[(9000,.arr 33 (fun i=>pI .u64 (y1.1 i)))]⟩) (fun M1 k1 d h=>?_) (fun z1 h=>?_)
 .apply kI Z h<;>intro h
  .refine kC Z h (Js Z Y) (fun y3 h=>?_);exact d _ [(9000,9000)] _ y3 Lu h (hle:=klR [(2,.fn 33 33 (fun i=>[(fun i=>(cA 33 (pI .u64) y1.1).getD i default) i]) (fun i=>[pI .u64 (y1.1 i)]))] (al1 ⟨rfl,E9 33 (fun i=>pI .u64 (y1.1 i))⟩ al0))
  exact d _ [(9000,9000)] _ y1.2 Lu h (hle:=klR [(2,.fn 33 33 (fun i=>[(fun i=>(cA 33 (pI .u64) y1.1).getD i default) i]) (fun i=>[pI .u64 (y1.1 i)]))] (al1 ⟨rfl,E9 33 (fun i=>pI .u64 (y1.1 i))⟩ al0))
 apply kI Z h<;>intro h
 .obtain rfl:=D4 h;exact B1 Z Lu ⟨[(7,pN z1),(6,.vec 7700)],[(7700,.vec F2 1 Oc.n (fun i=>cI .i64 (Oc.g i)) true)]⟩ [7700] (ids:=[]) ⟨rfl,rfl,rfl⟩
 obtain⟨c5,h⟩:=H4 h;obtain⟨y4,e4,h⟩:=C4 h;refine D2 Z [] c5 (Ea Z Y e4) ?_;obtain⟨L1,e5,h⟩:=C4 h;obtain⟨y5,e6,h⟩:=C4 h;refine D2 Z [28000] Lu (GC Z Y ⟨_,func219,by decide +kernel,by decide +kernel⟩ (CA Z Y e5) e6) ?_;obtain rfl:=D4 h;exact B1 Z Lu ⟨[(7,pN 0),(6,.vec 29000)],[(29000,.vec F2 1 y5.n (fun i=>cI .i64 (y5.g i)) true)]⟩ [29000] (ids:=[(29000,29000)]) ⟨rfl,rfl,rfl⟩
end Go.AM
