/- What a law's walk and its plain proof need, part 6: no condition of its own. -/
import Derived.Test.YtlbooedblpdmaaaGreatDoorAD
import Derived.Test.YtlbooedblpdmaaaGreatDoorAC
import Derived.RecoverIn
import Derived.Test.YtlbooedblpdmaaaGreatDoorProg
import Derived.Lib.SlTrimSet
import Derived.TacticsInMore
import Derived.Test.YtlbooedblpdmaaaGreatDoorAE
set_option linter.defProp false
set_option linter.unusedSimpArgs false
set_option linter.unusedVariables false
set_option linter.unusedSectionVars false
namespace Go.AM
noncomputable abbrev Cl1:=Go.Proofs.Tryz.prog.funcs
def Cn6:=@BitVec.getLsbD_and
def Cp6:=@Bool.eq_iff_iff
def Cs5:=@BitVec.eq_of_getLsbD_eq
def CG8:=@BitVec.getLsbD_ushiftRight
def CG9:=@BitVec.getLsbD_one
def CH8:=@BitVec.getLsbD_shiftLeft
def CI6:=@BitVec.getLsbD_setWidth
def CK7:=@BitVec.getLsbD_ofBool
def CM5:=@BitVec.toNat_ofNat
def Bq3 (D:List Deferred)(a:Act):Act:={ a with defers:=a.defers++D }
theorem IU (D:List Deferred)(a:Act)(d:Option Tmp)(v:Value):(Bq3 D a).put d v=Bq3 D (a.put d v):=by cases d<;>rfl
theorem Pz {F:Fence}{n:Nat}{P:Program}{ops:Array Oper}{Q:Exit->Act->World->Prop}(D:List Deferred):∀(l:List Nat) (a:Act) (w:World),wpOpsIn F n P ops Q l a w ->
 wpOpsIn F n P ops (fun e a' w'=>∃a0,a' = Bq3 D a0/\Q e a0 w') l (Bq3 D a) w
 |[],a,w,h=>⟨a,rfl,h⟩
 |i::l,a,w,h=>by
  have ih:=Pz (F:=F) (n:=n) (P:=P) (ops:=ops) (Q:=Q) D l;simp only[wpOpsIn]at h⊢;have e1:(Bq3 D a).eval=a.eval:=by funext x;cases x<;>rfl
  have e2:(Bq3 D a).tmps=a.tmps:=rfl;cases j:ops[i]? with
  |none=>simp only[j]at h⊢;exact ih a w h
  |some o=>
   simp only[j]at h⊢;rw[e2,e1];by_cases hw:Region.wanted o (yielded ops a.tmps)=true
   .rw[Il hw]at h⊢;refine⟨by rw[e1];exact h.1,?_⟩;have b:=h.2;rw[e1];generalize (o.semAt F.round a.eval).run P w=r at b;unfold Oper.uponIn at b⊢;split at b
    .rw[IU];exact ih _ _ b
    .rw[IU];exact ih _ _ b
    .exact ih _ _ b |> fun x=>by
      rename_i d w'
      have:({ (Bq3 D a)with defers:=d::(Bq3 D a).defers }:Act).put o.dst undef=Bq3 D (({ a with defers:=d::a.defers }:Act).put o.dst undef):=by rw[<- IU];rfl
      rw[this];exact x
    .refine⟨b.1,b.2.mono ?_⟩;intro e w' f;cases e with
     |returned v=>have:=ih _ _ f;rw[<- IU]at this;exact this
     |panicked ch=>exact⟨a,rfl,f⟩
     |outgrown=>obtain⟨a1,w1,g⟩:=f;exact⟨Bq3 D a1,w1,a1,rfl,g⟩
    .refine⟨b.1,fun c cs m=>?_⟩;obtain⟨v,w',g1,g2⟩:=b.2 c cs m;exact⟨v,w',by have:=ih _ _ g1;rw[<- IU]at this;exact this,g2⟩
    .refine⟨b.1,b.2.mono ?_⟩;intro e w' f;cases e with
     |returned v=>have:=ih _ _ f;rw[<- IU]at this;exact this
     |panicked ch=>exact⟨a,rfl,f⟩
     |outgrown=>obtain⟨a1,w1,g⟩:=f;exact⟨Bq3 D a1,w1,a1,rfl,g⟩
    .exact⟨a,rfl,b⟩
    exact b.elim
   rw[Ix hw]at h⊢;rw[IU];exact⟨h.1,ih _ _ h.2⟩
section
variable {P:Program}{C:Ctx}{st:St}{rho:Nat->Value}
theorem IV {fn:Func}{R:Ending->World->Prop}{u:FrameMode}(c:u ≠ .run){tmps:Array Value}{D:List Deferred}(b:∀a w,Sat C st a w rho->a.tmps=tmps->LeavesInM Fence.wide 0 P fn tmps R D u w) :∀(ds:List Deferred) (a:Act) (w:World),a.defers=ds->a.tmps=tmps->Sat C st a w rho->LeavesInM Fence.wide 0 P fn tmps R (ds++D) u w
 |[],a,w,hd,ht,h=>b a w h ht
 |d::ds,a,w,hd,ht,h=>by obtain⟨r,w',h1,f,g⟩:=h.unmark hd;exact⟨c,.inl ⟨r,w',h1,f,IV c b ds { a with defers:=ds } w' rfl ht g⟩⟩
end
end Go.AM
namespace Go.AM
structure J6 where
 Parent:Int
 Name:Str
 deriving Inhabited,DecidableEq
abbrev E4 (x:J6):List PV:=[(pI .i64 x.Parent),.str x.Name]
structure To where
 Plus:Int
 Minus:Int
 deriving Inhabited,DecidableEq
abbrev A0 (x:To):List PV:=[(pI .u32 x.Plus),pI .u32 x.Minus]
inductive Pat where
 |nil
 |mk (Kind:Int) (Is:To) (Not:Bool) (Min:Int) (Max:Int) (n:Nat) (g:Nat->Pat)
instance:Inhabited Pat:=⟨.nil⟩
def Pat.Kind:Pat->Int
 |.nil=>0
 |.mk x _ _ _ _ _ _=>x
def Pat.Is:Pat->To
 |.nil=>default
 |.mk _ x _ _ _ _ _=>x
def Pat.Not:Pat->Bool
 |.nil=>false
 |.mk _ _ x _ _ _ _=>x
def Pat.Min:Pat->Int
 |.nil=>0
 |.mk _ _ _ x _ _ _=>x
def Pat.Max:Pat->Int
 |.nil=>0
 |.mk _ _ _ _ x _ _=>x
def Pat.L:Pat->Sl Pat
 |.nil=>⟨0,fun _=>.nil⟩
 |.mk _ _ _ _ _ n g=>⟨n,g⟩
def T1:Pat->Nat->List PV
 |.nil=>fun _=>[]
 |.mk _ _ _ _ _ n g=>fun i=>[(pI .i64 (g i).Kind),pI .u32 (g i).Is.Plus,pI .u32 (g i).Is.Minus,.bb (g i).Not,pI .i64 (g i).Min,pI .i64 (g i).Max,.sl false 7 (g i).L.n (T1 (g i))]
abbrev C4 (x:Pat):List PV:=[(pI .i64 x.Kind),pI .u32 x.Is.Plus,pI .u32 x.Is.Minus,.bb x.Not,pI .i64 x.Min,pI .i64 x.Max,.sl false 7 x.L.n (T1 x)]
def G8 (x:Pat):∀i,i<x.L.n->T1 x i=C4 (x.L.g i):=by
 cases x with
 |nil=>intro i a;exact Kh (show i<0 from a) (by omega)
 |mk Kind Is Not Min Max n g=>exact fun _ _=>rfl
structure Hk where
 From:Int
 Clear:Int
 Set:To
 Take:Int
 Of:Int
 deriving Inhabited,DecidableEq
abbrev P1 (x:Hk):List PV:=[(pI .i64 x.From),pI .u32 x.Clear,pI .u32 x.Set.Plus,pI .u32 x.Set.Minus,pI .u32 x.Take,pI .i64 x.Of]
structure Law where
 Name:Str
 Left:Pat
 Right:Pat
 If:(Sl To)
 Out:(Sl Hk)
 Mode:Int
 deriving Inhabited
abbrev B2 (x:Law):List PV:=[(.str x.Name),pI .i64 x.Left.Kind,pI .u32 x.Left.Is.Plus,pI .u32 x.Left.Is.Minus,.bb x.Left.Not,pI .i64 x.Left.Min,pI .i64 x.Left.Max,.sl false 7 x.Left.L.n (T1 x.Left),pI .i64 x.Right.Kind,pI .u32 x.Right.Is.Plus,pI .u32 x.Right.Is.Minus,.bb x.Right.Not,pI .i64 x.Right.Min,pI .i64 x.Right.Max,.sl false 7 x.Right.L.n (T1 x.Right),vSl 2 A0 x.If,vSl 6 P1 x.Out,pI .i64 x.Mode]
structure A5 where
 Tree:(Sl J6)
 Laws:(Sl Law)
 On:(Sl (Sl Int))
 deriving Inhabited
abbrev A4 (x:A5):List PV:=[(vSl 2 E4 x.Tree),vSl 18 B2 x.Laws,vSl 1 (cL 1 (cI .i64)) x.On]
structure VK where
 N:Int
 D:Int
 deriving Inhabited,DecidableEq
abbrev BN6 (x:VK):List PV:=[(pI .i64 x.N),pI .i64 x.D]
structure E6 where
 Has:Bool
 W:(Sl To)
 deriving Inhabited
abbrev C6 (x:E6):List PV:=[(.bb x.Has),vSl 2 A0 x.W]
structure Entry where
 Gloss:Str
 Forms:(Sl E6)
 deriving Inhabited
abbrev B7 (x:Entry):List PV:=[(.str x.Gloss),vSl 2 C6 x.Forms]
structure A3 where
 Entry:Int
 Leaf:Int
 Kind:Int
 Cost:Int
 deriving Inhabited,DecidableEq
abbrev A9 (x:A3):List PV:=[(pI .i64 x.Entry),pI .i64 x.Leaf,pI .i64 x.Kind,pI .i64 x.Cost]
structure Bd where
 entry:Int
 leaf:Int
 deriving Inhabited,DecidableEq
abbrev VL (x:Bd):List PV:=[(pI .i64 x.entry),pI .i64 x.leaf]
inductive Part where
 |nil
 |sound (x:To) (no:Bool)
 |edge (e:Bool)
 |seq (n:Nat) (g:Nat->Part)
 |alt (n:Nat) (g:Nat->Part)
 |rep (o:Part) (mn mx:Int)
instance:Inhabited Part:=⟨.nil⟩
def Part.t:Part->Nat
 |.nil=>0
 |.sound _ _=>248
 |.edge _=>250
 |.seq _ _=>255
 |.alt _ _=>252
 |.rep _ _ _=>254
def Part.v:Part->PV
 |.nil=>.bb false
 |.sound x no=>.agg [pI .u32 x.Plus,pI .u32 x.Minus,.bb no]
 |.edge e=>.agg [.bb e]
 |.seq n g=>.agg [.sl false 1 n fun i=>[.iface (g i).t (g i).v]]
 |.alt n g=>.agg [.sl false 1 n fun i=>[.iface (g i).t (g i).v]]
 |.rep o mn mx=>.agg [.iface o.t o.v,pI .i64 mn,pI .i64 mx]
abbrev KE (x:Part):PV:=.iface x.t x.v
abbrev HN (x:Part):List PV:=[KE x]
structure Bq4 where
 is:To
 not:Bool
 deriving Inhabited,DecidableEq
abbrev AY2 (x:Bq4):List PV:=[(pI .u32 x.is.Plus),pI .u32 x.is.Minus,.bb x.not]
structure BV6 where
 end_:Bool
 deriving Inhabited,DecidableEq
abbrev BV7 (x:BV6):List PV:=[(.bb x.end_)]
structure Palt where
 l:(Sl Part)
 deriving Inhabited
abbrev Ch5 (x:Palt):List PV:=[(vSl 1 HN x.l)]
structure Ch6 where
 of:Part
 min:Int
 max:Int
 deriving Inhabited
abbrev Ch7 (x:Ch6):List PV:=[(KE x.of),pI .i64 x.min,pI .i64 x.max]
structure Pseq where
 l:(Sl Part)
 deriving Inhabited
abbrev Ch8 (x:Pseq):List PV:=[(vSl 1 HN x.l)]
end Go.AM
namespace Go.AM
open Go.Proofs
abbrev VM:Nat:=14
abbrev VN:Nat:=15
abbrev VO:Nat:=16
abbrev SK:Nat:=17
abbrev PA:Nat:=19
abbrev Nf:Nat:=21
abbrev Ai9:Nat:=23
abbrev Ng:Nat:=24
abbrev PB:Nat:=26
abbrev PC:Nat:=27
abbrev PD:Nat:=37
abbrev PF:Nat:=38
abbrev Aj0:Nat:=39
abbrev Bq5:Nat:=40
abbrev Bq6:Nat:=41
abbrev Bq7:Nat:=42
abbrev VP:Nat:=43
abbrev SL:Nat:=45
abbrev KF:Nat:=46
abbrev SM:Nat:=47
abbrev Aj1:Nat:=48
abbrev Jx:Nat:=49
abbrev HO:Nat:=50
abbrev Nh:Nat:=54
abbrev Jy:Nat:=55
abbrev Ni:Nat:=56
abbrev SN:Nat:=65
abbrev PG:Nat:=66
abbrev Bq8:Nat:=67
abbrev Bq9:Nat:=68
abbrev KH:Nat:=72
abbrev T2:Nat:=74
abbrev VT:Nat:=75
abbrev KI:Nat:=76
abbrev SO:Nat:=77
abbrev IW:Nat:=78
abbrev VV:Nat:=79
abbrev E5:Nat:=80
abbrev SP:Nat:=81
abbrev Ak:Nat:=82
abbrev VW:Nat:=83
abbrev O6:Nat:=86
abbrev Jz:Nat:=87
abbrev Nj:Nat:=88
abbrev SQ:Nat:=96
abbrev KJ:Nat:=97
abbrev Nk:Nat:=99
abbrev JA:Nat:=100
abbrev PI:Nat:=102
abbrev Aj2:Nat:=103
abbrev PJ:Nat:=104
abbrev PK:Nat:=105
abbrev VY:Nat:=106
abbrev SR:Nat:=107
abbrev N6:Nat:=108
abbrev Q0:Nat:=109
abbrev SS:Nat:=110
abbrev Cj:Nat:=111
abbrev AB9:Nat:=112
abbrev Bl:Nat:=113
abbrev Q6:Nat:=116
abbrev PL:Nat:=121
abbrev Nl:Nat:=122
abbrev O0:Nat:=123
abbrev Z1:Nat:=124
abbrev L7:Nat:=125
abbrev J9:Nat:=127
abbrev Hl:Nat:=129
abbrev Nm:Nat:=130
abbrev U2:Nat:=131
abbrev P2:Nat:=132
abbrev T4:Nat:=133
abbrev S5:Nat:=134
abbrev IX:Nat:=135
abbrev FE:Nat:=140
abbrev Q1:Nat:=142
abbrev JC:Nat:=143
abbrev Nn:Nat:=144
abbrev ST:Nat:=152
abbrev H3:Nat:=153
abbrev T5:Nat:=156
abbrev W4:Nat:=157
abbrev Wa:Nat:=158
abbrev Wb:Nat:=167
abbrev Wc:Nat:=174
abbrev AC1:Nat:=175
abbrev IY:Nat:=185
abbrev Aj3:Nat:=186
abbrev R9:Nat:=187
abbrev AC2:Nat:=188
abbrev AC3:Nat:=189
abbrev PM:Nat:=190
abbrev GM:Nat:=196
abbrev SU:Nat:=197
abbrev HP:Nat:=198
abbrev K7:Nat:=199
abbrev No:Nat:=200
abbrev SV:Nat:=201
abbrev AH:Nat:=209
abbrev PN:Nat:=210
abbrev Wd:Nat:=211
abbrev We:Nat:=212
abbrev Wf:Nat:=213
abbrev PO:Nat:=214
abbrev PP:Nat:=215
abbrev Np:Nat:=216
abbrev KL:Nat:=217
abbrev EA:Nat:=218
abbrev CK:Nat:=219
abbrev V4:Nat:=220
abbrev EL:Nat:=236
abbrev Ga:Nat:=237
abbrev Hm:Nat:=238
abbrev IZ:Nat:=239
abbrev GN:Nat:=240
abbrev Ja:Nat:=241
abbrev KN:Nat:=242
abbrev Cm:Nat:=243
abbrev Jb:Nat:=244
abbrev B8:Nat:=3
abbrev BN7:Nat:=4
abbrev Wj:Nat:=5
abbrev EB:Nat:=9
abbrev GO:Nat:=23
abbrev Ar3:Nat:=26
abbrev Ro:Nat:=37
abbrev PS:Nat:=43
abbrev Jc:Nat:=49
abbrev A6:Nat:=51
abbrev B5:Nat:=56
abbrev Ee:Nat:=68
abbrev B0:Nat:=72
abbrev HQ:Nat:=87
abbrev H7:Nat:=90
abbrev Rp:Nat:=112
abbrev C8:Nat:=128
abbrev Br4:Nat:=142
abbrev AO8:Nat:=242
end Go.AM
namespace Go.AM
open IntKind (wrap)
abbrev U (x:BitVec 64):Int:=(x.toNat:Int)
def PT {n:Nat}(h:n<2 ^ 64):IntKind.u64.wrap (n:Int)=n:=by have h1:((n:Int) % (2 ^ 64:Int))=n:=CD1 (by omega) (by omega);unfold wrap;simp only[IntKind.bits,IntKind.signed,h1,CB1,Cm2,Rn]
def AO9 (x:BitVec 64):BitVec.ofInt 64 (U x)=x:=by
 apply Cp4;rw[CM1]
 have:=x.isLt
 show ((x.toNat:Int) % ((2 ^ 64:Nat):Int)).toNat=x.toNat;omega
def and64 (x y:BitVec 64):E9 .and .u64 (U x) (U y)=U (x &&& y):=by simp only[E9,IntKind.bits,AO9];exact PT (x &&& y).isLt
def Ck7 (x y:BitVec 64):E9 .or .u64 (U x) (U y)=U (x ||| y):=by simp only[E9,IntKind.bits,AO9];exact PT (x ||| y).isLt
def BG2 (x y:BitVec 64):E9 .andNot .u64 (U x) (U y)=U (x &&& ~~~ y):=by simp only[E9,IntKind.bits,AO9];exact PT (x &&& ~~~ y).isLt
def shr64 (x:BitVec 64)(n:Nat):shI .shr .u64 (U x) n=U (x >>> n):=by
 simp only[shI,IntKind.bits,Cl2];have hx:=x.isLt;show Int.fdiv (x.toNat:Int) (2 ^ min n 64)=((x >>> n).toNat:Int);rw[CB7,CB2];have e:((2:Int) ^ (min n 64))=((2 ^ (min n 64):Nat):Int):=by norm_cast
 rw[e,CG7 _ (CM2 _),<- Int.natCast_ediv];congr 1;by_cases h:n<=64
 .rw[Cx5 h]
 rw[CF2 (by omega),Cy1 hx,Cy1];exact Cm6 hx (CB4 (by omega) (by omega))
def Ch9:(1:Int)=U 1#64:=rfl
def AC7 (n:Nat)(h:n<64):shI .shl .u64 1 n=U (1#64 <<< n):=by
 simp only[shI,IntKind.bits,Cl2];rw[Cx5 (by omega)];show wrap .u64 (1*2 ^ n)=((1#64 <<< n).toNat:Int);rw[CJ9,Nat.shiftLeft_eq];have h1:(2:Nat) ^ n<2 ^ 64:=Nat.pow_lt_pow_right (by omega) h;have e:((1:Int)*2 ^ n)=((2 ^ n:Nat):Int):=by norm_cast;omega
 rw[e,PT h1]
 norm_cast
 rw[Cz3]
 .simp
 simpa using h1
def AP0 {i:Nat}:(1#64).getLsbD i=decide (i=0):=by rw[CG9];simp
def KO {n i:Nat}(h:n<64)(a:i<64):(1#64 <<< n).getLsbD i=decide (i=n):=by rw[CH8,AP0,Cp6];simp only[Cl8,Co5,decide_eq_true_eq,decide_eq_false_iff_not];omega
def bit64 (x:BitVec 64)(i:Nat):(E9 .and .u64 (shI .shr .u64 (U x) (i:Int)) 1==1)=x.getLsbD i:=by
 rw[shr64,Ch9,and64];have h:(x >>> i &&& 1#64)=(BitVec.ofBool (x.getLsbD i)).setWidth 64:=by
  apply Cs5;intro j b;simp only[Cn6,CG8,CI6,CK7];by_cases a:j=0
  .subst a;simp
  have:(1#64).getLsbD j=false:=by rw[AP0];simp[a]
  simp[this,a]
 rw[h];cases x.getLsbD i<;>rfl
def BG3 {x y:BitVec 64}(h:∀b,b<64->(x.getLsbD b=true↔y.getLsbD b=true)):x=y:=
 Cs5 fun b hb=>Cp6.2 (h b hb)
def Nq (n:Nat)(R:Nat->Nat->Prop):Nat->Nat->Nat->Prop
 |0=>fun a b=>a=b
 |k+1=>fun a b=>∃c,c<=n/\Nq n R k a c/\R c b
def Bg7 (n:Nat)(Q:Nat->Nat->Nat->Prop):Nat->Nat->Nat->Prop
 |0=>fun a b=>a=b
 |i+1=>fun a b=>∃c,c<=n/\Bg7 n Q i a c/\Q i c b
def Fwd (n:Nat)(R:Nat->Nat->Prop):Prop:=∀a b,a<=n->R a b->a<=b/\b<=n
def PU {n:Nat}{R:Nat->Nat->Prop}(h:Fwd n R):∀k,Fwd n (Nq n R k)
 |0,a,b,ha,hb=>by obtain rfl:a=b:=hb;exact⟨Cl9 _,ha⟩
 |k+1,a,b,ha,⟨c,hc,h1,h2⟩=>by have g1:=PU h k a c ha h1;have g2:=h c b hc h2;exact⟨by omega,g2.2⟩
def AY3 {n:Nat}{Q:Nat->Nat->Nat->Prop}:∀k,(∀i,i<k->Fwd n (Q i))->Fwd n (Bg7 n Q k)
 |0,_,a,b,ha,hb=>by obtain rfl:a=b:=hb;exact⟨Cl9 _,ha⟩
 |k+1,h,a,b,ha,⟨c,hc,h1,h2⟩=>by have g1:=AY3 k (fun i d=>h i (by omega)) a c ha h1;have g2:=h k (by omega) c b hc h2;exact⟨by omega,g2.2⟩
def GP {n:Nat}{R:Nat->Nat->Prop}(h:Fwd n R)(j:Nat){a:Nat}(ha:a<=n):∀k b,Nq n R (j+k) a b ↔ ∃c,c<=n/\Nq n R j a c/\Nq n R k c b
 |0,b=>⟨fun hp=>⟨b,(PU h j a b ha hp).2,hp,rfl⟩,fun⟨c,_,hp,e⟩=>by obtain rfl:c=b:=e;exact hp⟩
 |k+1,b=>by
  constructor
  .rintro⟨d,f,h1,g⟩;obtain⟨c,hc,g1,g2⟩:=(GP h j ha k d).1 h1;exact⟨c,hc,g1,d,f,g2,g⟩
  rintro⟨c,hc,g1,d,f,g2,g⟩;exact⟨d,f,(GP h j ha k d).2 ⟨c,hc,g1,g2⟩,g⟩
def Aj4 {n:Nat}{R:Nat->Nat->Prop}(h:Fwd n R){a:Nat}(ha:a<=n):∀k b,Nq n R (k+1) a b->Nq n R k a b \/ a+(k+1)<=b
 |0,b,⟨c,hc,h1,h2⟩=>by
  obtain rfl:a=c:=h1;by_cases e:a=b
  .exact .inl e
  have:=(h a b ha h2).1;exact .inr (by omega)
 |k+1,b,⟨c,hc,h1,h2⟩=>by
  by_cases e:c=b
  .subst e;exact .inl h1
  have:=(h c b hc h2).1
  rcases Aj4 h ha k c h1 with g|g
  .exact .inl ⟨c,hc,g,h2⟩
  exact .inr (by omega)
def AC8 {n:Nat}{R:Nat->Nat->Prop}(h:Fwd n R){a:Nat}(ha:a<=n){k b:Nat}(hk:n<=k)(hp:Nq n R (k+1) a b):Nq n R k a b:=by
 rcases Aj4 h ha k b hp with g|g
 .exact g
 have:=(PU h (k+1) a b ha hp).2;omega
def AC9 {n:Nat}{R:Nat->Nat->Prop}(h:Fwd n R){a:Nat}(ha:a<=n){b:Nat}:∀k,Nq n R k a b->∃j,j<=n/\Nq n R j a b
 |0,hp=>⟨0,Cx3 _,hp⟩
 |k+1,hp=>by
  by_cases hk:n<=k
  .exact AC9 h ha k (AC8 h ha hk hp)
  exact⟨k+1,by omega,hp⟩
def Wk {n:Nat}{R:Nat->Nat->Prop}(h:Fwd n R){a:Nat}(ha:a<=n):∀k b,Nq n (fun x y=>R x y \/ x=y) k a b ↔ ∃j,j<=k/\Nq n R j a b
 |0,b=>⟨fun e=>⟨0,Cl9 _,e⟩,fun⟨j,f,hp⟩=>by
  obtain rfl:j=0:=by omega
  exact hp⟩
 |k+1,b=>by
  constructor
  .rintro⟨c,hc,h1,d⟩;obtain⟨j,f,hp⟩:=(Wk h ha k c).1 h1;rcases d with d|d
   .exact⟨j+1,by omega,c,hc,hp,d⟩
   subst d;exact⟨j,by omega,hp⟩
  rintro⟨j,f,hp⟩;by_cases e:j<=k
  .have hb:=(PU h j a b ha hp).2;exact⟨b,hb,(Wk h ha k b).2 ⟨j,e,hp⟩,.inr rfl⟩
  obtain rfl:j=k+1:=by omega
  obtain⟨c,hc,h1,d⟩:=hp;exact⟨c,hc,(Wk h ha k c).2 ⟨k,Cl9 _,h1⟩,.inl d⟩
def AP1 (s c:To):Bool:=(E9 .and .u32 s.Plus c.Plus==c.Plus)&&(E9 .and .u32 s.Minus c.Minus==c.Minus)
def PR (w:Sl To):Pat->Nat->Nat->Prop
 |.nil=>fun a b=>a=b
 |.mk kind is no mn mx m g=>fun a b=>
  if kind=0 then a=b
  else if kind=1 then a<w.n/\b=a+1/\(AP1 (w.g a) is != no)=true
  else if kind=2 then a=0/\b=0
  else if kind=6 then a=w.n/\b=w.n
  else if kind=3 then Bg7 w.n (fun i=>PR w (g i)) m a b
  else if kind=4 then ∃i,i<m/\PR w (g i) a b
  else if kind=5 then ∃k:Nat,mn<=k/\(mx = -1 \/ (k:Int)<=mx)/\Nq w.n (PR w (g 0)) k a b
  else False
def AD0 (w:Sl To):∀p:Pat,Fwd w.n (PR w p)
 |.nil,a,b,ha,h=>by obtain rfl:a=b:=h;exact⟨Cl9 _,ha⟩
 |.mk kind is no mn mx m g,a,b,ha,h=>by
  simp only[PR]at h;split at h
  .subst h;exact⟨Cl9 _,ha⟩
  split at h
  .obtain⟨h1,d,_⟩:=h;omega
  split at h
  .omega
  split at h
  .omega
  split at h
  .exact AY3 m (fun i _=>AD0 w (g i)) a b ha h
  split at h
  .obtain⟨i,_,c⟩:=h;exact AD0 w (g i) a b ha c
  split at h
  .obtain⟨k,_,_,hk⟩:=h;exact PU (AD0 w (g 0)) k a b ha hk
  exact h.elim
def TabR (n:Nat)(R:Nat->Nat->Prop)(f:Nat->Int):Prop:=∀a,a<=n->∃x:BitVec 64,f a=U x/\∀b,b<64->(x.getLsbD b=true↔b<=n/\R a b)
def TabR.congr {n:Nat}{R R' : Nat->Nat->Prop}{f:Nat->Int}(h:TabR n R f)(d:∀a b,a<=n->b<=n->(R a b↔R' a b)):TabR n R' f:=fun a ha=>by obtain⟨x,e,hx⟩:=h a ha;refine⟨x,e,fun b hb=>(hx b hb).trans ⟨fun⟨h1,c⟩=>⟨h1,(d a b ha h1).1 c⟩,fun⟨h1,c⟩=>⟨h1,(d a b ha h1).2 c⟩⟩⟩
def TabR.uniq {n:Nat}{R:Nat->Nat->Prop}{f g:Nat->Int}(h:TabR n R f)(h' : TabR n R g){a:Nat}(ha:a<=n):f a=g a:=by obtain⟨x,e,hx⟩:=h a ha;obtain⟨y,e',hy⟩:=h' a ha;rw[e,e',BG3 fun b hb=>(hx b hb).trans (hy b hb).symm]
def TabR.bit {n:Nat}{R:Nat->Nat->Prop}{f:Nat->Int}(h:TabR n R f){a b:Nat}(ha:a<=n)(hb:b<64):(E9 .and .u64 (shI .shr .u64 (f a) (b:Int)) 1==1)=true↔b<=n/\R a b:=by obtain⟨x,e,hx⟩:=h a ha;rw[e,bit64];exact hx b hb
end Go.AM
namespace Go.AM
variable {N:Nat}
open Go.Proofs
abbrev BG4:List AV:=[.reg 0 0,.reg 1 0,.reg 2 0,.reg 3 0]
abbrev AP2 (c:Int)(a:Sl Law)(b:Sl To)(y:PV):List Obj:=[.cells [pN c],.cells [.p (vSl 18 B2 a)],.cells [.p (vSl 2 A0 b)],.cells [.p y]]
structure GD (S:W1):Prop where
 attR:∀{a:Sl Law}{b y:Sl To},FunO S L7 [.p (vSl 18 B2 a),.p (vSl 2 A0 b)] [] (.p (vSl 2 A0 y)) [] []->FunO S O0 BG4 (AP2 0 a b G6) (.tup []) (AP2 0 a b (vSl 2 A0 y)) [true,true,true,true]
 attP:∀{a:Sl Law}{b:Sl To}{c:Int},(S.F L7 [.p (vSl 18 B2 a),.p (vSl 2 A0 b)] [] fun res o k=>res=.panic (.iface 181 (pI .i64 c))/\o=[]/\k=[])->FunO S O0 BG4 (AP2 0 a b G6) (.tup []) (AP2 c a b G6) [true,true,true,true]
 tz:∀x:BitVec 64,BA0 S V4 [.p (pI .u64 (U x))] (.p (pI .i64 (Lib.ctz 64 x.toNat:Nat)))
 trim:∀s c:Str,s.length<1000000000000->c.length<1000000->(∀b∈c,b.toNat<128)->BA0 S Hl [.p (.str s),.p (.str c)] (.p (.str (Lib.trimS s c)))
 growS:∀(f:Nat->List PV) (n:Nat),n*8<=140737488355328->FunO S K7 [.p G6,.p (pI .i64 (n:Int))] [] (.vec 0) [.vec B0 2 0 f false] []
def J2 (N:Nat)(x:Int):Option Int:=if 0<=x/\x<18446744073709551616 then some ((Lib.ctz 64 x.toNat:Nat):Int)else none
def Hn (N:Nat)(s c:Str):Option Str:=if s.length<1000000000000/\c.length<1000000/\(c.all fun b=>decide (b.toNat<128)) then some (Lib.trimS s c)else none
def K8 (N:Nat)(n:Int):Option (Sl To):=if 0<=n/\n*8<=140737488355328 then some (Sl.nil:Sl To)else none
section
variable {S:W1}(hS:H9 S Tryz.prog) (hL:GD S)
include hS hL
theorem Gb {x y:Int}(h:J2 N x=some y):FunO S V4 [.p (pI .u64 x)] [] (.p (pI .i64 y)) [] []:=by
 obtain⟨⟨a,h1⟩,h⟩:=C7 h;obtain rfl:=C0 h
 have:=hL.tz (BitVec.ofNat 64 x.toNat)
 have e:(BitVec.ofNat 64 x.toNat).toNat=x.toNat:=by rw[CM5];omega
 have e2:U (BitVec.ofNat 64 x.toNat)=x:=by show ((BitVec.ofNat 64 x.toNat).toNat:Int)=x;rw[e];omega
 rw[e,e2]at this;exact this
theorem Zt {s c:Str}{y:Str}(h:Hn N s c=some y):FunO S Hl [.p (.str s),.p (.str c)] [] (.p (.str y)) [] []:=by obtain⟨⟨a,h1,d⟩,h⟩:=C7 h;obtain rfl:=C0 h;exact hL.trim s c a h1 fun b hb=>by simpa using Cn7.1 d b hb
theorem Cy {n:Int}{y:Sl To}(h:K8 N n=some y):FunO S K7 [.p G6,.p (pI .i64 n)] [] (.vec 0) [.vec B0 2 y.n (fun i=>A0 (y.g i)) false] []:=by
 obtain⟨⟨a,h1⟩,h⟩:=C7 h;obtain rfl:=C0 h
 have:=hL.growS (fun i=>A0 default) n.toNat (by omega)
 rw[show ((n.toNat:Nat):Int)=n by omega]at this;exact this
def B9 (N:Nat)(s:Sl To):Option (Sl To):=if (0+s.n)*8<=140737488355328/\0+s.n<=140737488355328 then some s else none
theorem T6 {s y:Sl To}(h:B9 N s=some y):FunO S J9 [.p (vSl 2 A0 s)] [] (.vec 0) [.vec B0 2 y.n (fun i=>A0 (y.g i)) true] []:=by
 unfold B9 at h;obtain⟨c1,h⟩:=C7 h;obtain rfl:=C0 h;refine A1 hS Tryz.func127 ?_;refine BU5 hS T3 3 (k:=2) (n:=s.n) (f:=fun i=>A0 (s.g i)) (fun a=>?_) ?_
 .obtain⟨n,g⟩:=s;obtain rfl:n=0:=a;exact A8 hS T3 ⟨[(2,.vec 3700)],[(3700,.vec B0 2 0 (fun i=>A0 (g i)) true)]⟩ [3700] (ids:=[]) ⟨rfl,rfl,rfl⟩
 exact A8 hS (And.intro (rfl:true=true) c1) ⟨[(2,.vec 8000)],[(8000,.vec B0 2 s.n (fun i=>A0 (s.g i)) true)]⟩ [8000] (ids:=[(8000,8000)]) ⟨rfl,rfl,rfl⟩
  (hle:=klR [(0,.fn (0+s.n) s.n (I4 0 (D0 [pI .u32 0,pI .u32 0] []) (fun i=>A0 (s.g i))) (fun i=>A0 (s.g i)))] (al1 ⟨Cp5 _,fun i _=>by simp[I4]⟩ al0))
end
end Go.AM
set_option maxRecDepth 100000
namespace Go.AM
open Go.Proofs
def Bg8 (v:Value)(w:World):(Instr.typeAssert (.iface 181 v) 20 181 true).run Tryz.prog w=.ok (.tuple #[v,.bool true]) w:=by kernel_rfl
def AP3 (p:Value)(w:World):CallsDIn Fence.wide 0 Tryz.prog Z1 #[p] .returning w fun e u' w'=>e=.returned (.tuple #[])/\u' = .returning/\w' = w:=by
 refine callsDIn_of_wpSIn Tryz.func124 rfl (by simp[Fence.wide]) fun c₀ cs a=>?_;apply wpSIn_seq;apply wpSIn_region;simp[wpOpsSIn,go_sem,recoverD,a,Tryz.f124,Exit.thenS];refine wpSIn_of_wpIn rfl (wpIn_block (wpIn_seq (wpIn_region ?_)));simp[wpOpsIn,Oper.wpIn,Oper.semAt,Oper.uponIn,go_sem,Exit.then];refine wpIn_cond (t:=true) (by simp[Act.eval]) ?_;simp only[Rm];refine wpIn_region ?_;simp[wpOpsIn,Oper.wpIn,Oper.semAt,Oper.uponIn,go_sem,Exit.inBlock,bodyPostS,results];cases c₀
 simp_all
def Tt (p:Value)(c:Int)(older:List PanicEntry)(w w1:World)(a:(Instr.storeAt 33 p (.int .i64 c)).run Tryz.prog w=.ok () w1)(hn:∃b,p=.pointer (some b)) :CallsDIn Fence.wide 0 Tryz.prog Z1 #[p] (.panicking ({ v:=.iface 181 (.int .i64 c),recovered:=false }::older)) w fun e u' w'=>
  e=.returned (.tuple #[])/\u' = .panicking ({ v:=.iface 181 (.int .i64 c),recovered:=true }::older)/\w' = w1:=by
 obtain⟨b,rfl⟩:=hn;refine callsDIn_of_wpSIn Tryz.func124 rfl (by simp[Fence.wide]) fun c₀ cs d=>?_;apply wpSIn_seq;apply wpSIn_region;simp[wpOpsSIn,go_sem,recoverD,d,Tryz.f124,Exit.thenS];refine wpSIn_of_wpIn rfl (wpIn_block (wpIn_seq (wpIn_region ?_)));simp[wpOpsIn,Oper.wpIn,Oper.semAt,Oper.uponIn,go_sem,Exit.then];refine wpIn_cond (t:=false) (by simp[Act.eval]) ?_;simp only[Cm2,Rn];refine wpIn_seq (wpIn_region ?_);simp[wpOpsIn,Oper.wpIn,Oper.semAt,Oper.uponIn,go_sem,Exit.then,Bg8];refine wpIn_cond (t:=true) (by simp[Act.eval]) ?_;simp only[Rm];refine wpIn_seq (wpIn_region ?_);simp[wpOpsIn,Oper.wpIn,Oper.semAt,Oper.uponIn,go_sem,Exit.then];refine wpIn_region ?_;simp[wpOpsIn,Oper.wpIn,Oper.semAt,Oper.uponIn,go_sem,a,Exit.inBlock,bodyPostS,results];simp[go_sem]at a;rw[a];simp[Result.andThen]
noncomputable def Cb8:Code:=match Tryz.f123.body with
 |some (.seq _ c)=>c
 |_=>.skip
def BW3 {S:W1}(hS:H9 S Tryz.prog){a:Sl Law}{b y:Sl To}(c:FunO S L7 [.p (vSl 18 B2 a),.p (vSl 2 A0 b)] [] (.p (vSl 2 A0 y)) [] []) :KG S Tryz.prog (Ai6 S (fun st=>O9 [0,1,2,3] st.regs [0,1,2,3]=some (AP2 0 a b (vSl 2 A0 y))) fun _ _=>False) (.code Cb8 [] ⟨argEnv BG4,objRegs (AP2 0 a b G6)⟩):=by refine B6 hS [] T3 c ?_;exact K_upN hS T3 ⟨[],[(3,.cells [.p (vSl 2 A0 y)]),(2,.cells [.p (vSl 2 A0 b)]),(1,.cells [.p (vSl 18 B2 a)]),(0,.cells [pN 0])]⟩ (ids:=[(0,0),(1,1),(2,2),(3,3)]) rfl
def Br5 {S:W1}(hS:H9 S Tryz.prog){a:Sl Law}{b:Sl To}{c:Int}(d:S.F L7 [.p (vSl 18 B2 a),.p (vSl 2 A0 b)] [] fun res o k=>res=.panic (.iface 181 (pI .i64 c))/\o=[]/\k=[]) :KG S Tryz.prog (Ai6 S (fun _=>False) fun x st=>x=.iface 181 (pI .i64 c)/\store Tryz.prog st.regs 33 (.reg 0 0) (.p (pI .i64 c))=some ([],ins 0 (.cells [pN c]) st.regs)/\O9 [0,1,2,3] (ins 0 (.cells [pN c]) st.regs) [0,1,2,3]=some (AP2 c a b G6)) (.code Cb8 [] ⟨argEnv BG4,objRegs (AP2 0 a b G6)⟩):=by refine BV4 hS [] T3 d ?_;exact K_upP hS T3 ⟨rfl,by kernel_rfl,by kernel_rfl⟩
noncomputable def att1:Code:=match Tryz.f123.body with
 |some (.seq c _)=>c
 |_=>.skip
noncomputable def attOps:Array Oper:=match Cb8 with
 |.region _ ops _=>ops
 |_=>#[]
def AY4:Cb8=.region 1 attOps false:=by kernel_rfl
def Ci0:attOps.toList.all (MW 7 attOps.toList)=true:=by kernel_rfl
def BG5:¬Tryz.f123.name = "runtime.NumGoroutine" := by decide +kernel
def AY5:Tryz.f123.body=some (.seq att1 Cb8):=by kernel_rfl
def BW4 {C:Ctx}{vs:Array Value}{w:World}{rho:Nat->Value}{args:List AV}{objs:List Obj}{n:Nat}(hS:Sat C ⟨argEnv args,objRegs objs⟩ ⟨vs,[]⟩ w rho)(a:vs.size=args.length) :Sat C ⟨argEnv args,objRegs objs⟩ { tmps:=vs++Array.replicate n undef,defers:=[] } w rho:=by
 refine⟨hS.toSatE,fun t=>?_,hS.pin,hS.marks⟩
 have:=hS.env t
 by_cases ht:t<vs.size
 .simpa[Cl6,Cx6,ht]using this
 show RepA w _ _ _ _ (get (argEnv args) t);rw[CZ,Cl4,Cq8 (by omega)];exact .top _
def Wl {R:St->Prop}{X:PV->St->Prop}{a:Sl Law}{b:Sl To}{objs' : List Obj}
 (a1:KG (Jw Tryz.prog) Tryz.prog (Ai6 (Jw Tryz.prog) R X) (.code Cb8 [] ⟨argEnv BG4,objRegs (AP2 0 a b G6)⟩))
 (hR:∀st,R st->O9 [0,1,2,3] st.regs [0,1,2,3]=some objs')
 (hX:∀x st,X x st->∃c regs',x=.iface 181 (pI .i64 c)/\store Tryz.prog st.regs 33 (.reg 0 0) (.p (pI .i64 c))=some ([],regs')/\O9 [0,1,2,3] regs' [0,1,2,3]=some objs') :
 FunO (Jw Tryz.prog) O0 BG4 (AP2 0 a b G6) (.tup []) objs' [true,true,true,true]:=by
 intro 𝒢 C w vs rho hG hS t;obtain⟨l⟩:=vs
 match l,t with
 |[v0,v1,v2,v3],t=>?_
 refine⟨.enter O0 #[v0,v1,v2,v3],w,by simp[callFunc,Tryz.func123,AY5,BG5],?_⟩;refine callsIn_of_wp_marks Tryz.func123 AY5 T3 ?_;have a2:=BW4 (n:=Tryz.f123.ntmps-4) hS t;have a9:Tryz.f123.ntmps-4=3:=rfl;rw[a9]at a2;have b1:((#[v0,v1,v2,v3]:Array Value)++Array.replicate 3 undef).size=7:=rfl;have hw:QU (Jw Tryz.prog) Tryz.prog attOps.toList attOps.toList (Ai6 (Jw Tryz.prog) R X) ⟨argEnv BG4,objRegs (AP2 0 a b G6)⟩:=by
  have:=a1.out
  rw[AY4]at this;simpa only[G,awp,kp,Cm2,Rn]using this
 have a4:=Vr (𝒢:=𝒢.fix C.rho0) (n:=7) (ro:=none) (ops:=attOps) Ci0 attOps.toList 0 rfl (by simp) ⟨hG,rfl⟩ a2 b1 hw;have a5:=Pz [{ target:=.fn (.func Z1) #[],args:=#[v0] }] _ _ _ a4;rw[CH5]at a5;obtain⟨b0,a6,u⟩:∃b0,v0=.pointer (some ⟨b0,0,none⟩)/\rho 0=.pointer (some ⟨b0,0,none⟩):=by
  have h0:RepA w _ _ rho v0 (.reg 0 0):=hS.env 0;cases h0 with
  |reg _ _ b0 _ h=>exact⟨b0,rfl,h⟩
 have s:∀{C' : Ctx}{st' : St}{a' : Act}{w' : World}{rho' : Nat->Value},(𝒢.fix C.rho0).G C' -> Sat C' st' a' w' rho' -> O9 [0,1,2,3] st'.regs [0,1,2,3]=some objs' ->
  LeavesInM Fence.wide 0 Tryz.prog Tryz.f123 a'.tmps (fun e w'=>∃C' r objs0 ks rho', 𝒢.G C' /\ (r=.ret (.tup [])/\objs0=objs' /\ ks=[true,true,true,true])/\SatE C' (objRegs objs0) w' rho' /\
   BR8 w' (Prv C'.X (A7 (objRegs objs0)) rho') (Lv (A7 (objRegs objs0))) rho' e r/\∀i:Nat,ks[i]? = some true->i<objs0.length/\rho' i=rho i) [] .returning w':=by
  intro C' st' a' w' rho' d f m;obtain⟨g1,g2,g3⟩:=Vs f (by decide) m;obtain⟨hl,hg⟩:=BH m;refine⟨.tuple #[],by simp[results,Tryz.f123],C', .ret (.tup []),objs',_,_,d.1,⟨rfl,rfl,rfl⟩,g1,⟨_,rfl,.tup _ _ rfl fun i hi=>Kh hi (by simp)⟩,?_⟩;intro i hi;have y:i<4:=by
   have:=(Cm9.1 hi).1
   simpa using this
  refine⟨by rw[hl];exact y,?_⟩;have e1:[0,1,2,3][i]? = some i:=by
   match i,y with
   |0,_=>rfl
   |1,_=>rfl
   |2,_=>rfl
   |3,_=>rfl
  obtain⟨o,_,ho,_⟩:=hg i i e1;show rho' ([0,1,2,3].getD i 0)=rho i;rw[Fb e1,f.pin i (by omega) (by simp[Lv,ho]),d.2];refine (hS.pin i (by omega) ?_).symm;rw[Lv,G4]
  match i,y with
  |0,_=>rfl
  |1,_=>rfl
  |2,_=>rfl
  |3,_=>rfl
 generalize hQ:bodyPostM _ _ _ _ _=QQ;refine wpIn_seq ?_;simp only[att1,Tryz.f123];refine wpIn_region ?_;simp[wpOpsIn,Oper.wpIn,Oper.semAt,Oper.uponIn,go_sem,Exit.then];subst hQ;rw[AY4];refine wpIn_mono (wpIn_region (F:=FW none) a5) ?_;rintro e a' w' ⟨a0,rfl,z⟩;cases e with
 |exit id=>obtain⟨_,_,_,_,_,_,h⟩:=z;exact h.elim
 |goto l=>obtain⟨_,_,_,_,_,_,h⟩:=z;exact h.elim
 |ret=>obtain⟨_,_,_,_,_,_,h⟩:=z;exact h.elim
 |outgrown=>exact z.elim
 |normal=>
  obtain⟨C',st',rho',d,f,a7,hu⟩:=z;obtain⟨st2,rho2,hR2,_,hs2⟩:=hu C' a0 w' rho' f;refine IV (C:=C') (st:=st2) (rho:=rho2) (by simp) ?_ a0.defers a0 w' rfl rfl hs2;intro a3 w3 q ht;refine⟨by simp,.inr ⟨by simp[Fence.wide],_,_,Z1,#[v0],rfl,by simp[go_sem],fun _ _=>trivial,?_⟩⟩;refine (AP3 v0 w3).mono ?_;rintro e u' w4 ⟨rfl,rfl,rfl⟩
  have:=s d q (hR st2 hR2)
  rw[ht]at this;exact this
 |panic chain=>
  obtain⟨C',st',rho',v,x,rfl,d,f,a7,hv,hXx⟩:=z;obtain⟨c,regs',rfl,g,m⟩:=hX x st' hXx;obtain rfl:v=.iface 181 (.int .i64 c):=by
   cases hv with
   |iface _ _ _ h=>cases h;rfl
  refine IV (C:=C') (st:=st') (rho:=rho') (by simp) ?_ a0.defers a0 w' rfl rfl f;intro a3 w3 q ht;have j:Lv (A7 st'.regs) 0:=by
   cases hj:A7 st'.regs 0 with
   |some o=>simp[Lv,hj]
   |none=>
    unfold store at g;split at g
    .simp[hj]at g
    cases g
  have hr0:rho' 0=.pointer (some ⟨b0,0,none⟩):=by rw[q.pin 0 (by omega) j,d.2,<- u];exact (hS.pin 0 (by omega) rfl).symm
  have hva:RS C' st' w3 rho' v0 (.reg 0 0):=by rw[a6];exact .reg 0 0 b0 j hr0
  obtain⟨w4,a8,hs4,_⟩:=Vg q (vx:=.int .i64 c) hva (.p _ _ (.v _)) g T3;refine⟨by simp,.inr ⟨by simp[Fence.wide],_,_,Z1,#[v0],rfl,by simp[go_sem],fun _ _=>trivial,?_⟩⟩;refine (Tt v0 c [] w3 w4 a8 ⟨_,a6⟩).mono ?_;rintro e u' w5 ⟨rfl,rfl,rfl⟩
  have:=s d hs4 m
  rw[ht]at this;exact this
def AP4 {a:Sl Law}{b y:Sl To}(c:FunO (Jw Tryz.prog) L7 [.p (vSl 18 B2 a),.p (vSl 2 A0 b)] [] (.p (vSl 2 A0 y)) [] []) :FunO (Jw Tryz.prog) O0 BG4 (AP2 0 a b G6) (.tup []) (AP2 0 a b (vSl 2 A0 y)) [true,true,true,true]:=
 Wl (BW3 (BB9 Tryz.prog) c) (fun st h=>h) (fun x st h=>h.elim)
def Ar4 {a:Sl Law}{b:Sl To}{c:Int}(d:(Jw Tryz.prog).F L7 [.p (vSl 18 B2 a),.p (vSl 2 A0 b)] [] fun res o k=>res=.panic (.iface 181 (pI .i64 c))/\o=[]/\k=[]) :FunO (Jw Tryz.prog) O0 BG4 (AP2 0 a b G6) (.tup []) (AP2 c a b G6) [true,true,true,true]:=
 Wl (Br5 (BB9 Tryz.prog) d) (fun st h=>h.elim) (fun x st h=>⟨c,_,h.1,h.2.1,h.2.2⟩)
end Go.AM
namespace Go.AM
variable {N:Nat}
open IntKind (wrap)
open Go.Proofs
set_option maxRecDepth 10000
set_option maxHeartbeats 2000000
variable {S:W1}(hS:H9 S Tryz.prog) (hL:GD S)
include hS hL
def J8 (N:Nat)(a:To):Option Bool:= some (((E9 .and .u32 a.Plus a.Minus)==0)&&(decide ((E9 .or .u32 a.Plus a.Minus)<=16777215)))
theorem W9 {b:To}{y:Bool}(h:J8 N b=some y) :FunO S PK [.p (.agg (A0 b))] [] (pB y) ([]) []:=by unfold J8 at h;refine A1 hS Tryz.func105 ?_;refine kB hS (A2 hS) T3 T3 7 (.n (.a ((E9 .and .u32 b.Plus b.Minus)==0)) (.a (decide ((E9 .or .u32 b.Plus b.Minus)<=16777215)))) ?_;cases h;exact kR hS
def P4 (N:Nat)(b:To)(a:To):Option Bool:= (J8 N b).bind fun y1=>lt (fun (z1:Bool)=>some z1) fun k1=>if y1 then (J8 N a).bind fun y3=>if y3 then if ((E9 .andNot .u32 a.Plus b.Plus)==0) then k1 ((E9 .andNot .u32 a.Minus b.Minus)==0) else k1 false else k1 false else k1 false
theorem Rq {c:To}{a:To}{y:Bool}(h:P4 N c a=some y) :FunO S HP [.p (.agg (A0 c)),.p (.agg (A0 a))] [] (pB y) ([]) []:=by
 unfold P4 at h;refine A1 hS Tryz.func198 ?_;refine kC hS h (W9 hS hL) (fun y1 h=>?_);refine Ai hS T3 (A2 hS) h 0 (fun z1=>⟨[(4,pB z1)],[]⟩) (fun M1 k1 b h=>?_) (fun z1 h=>?_)
 .refine kG hS h (fun h=>?_) (fun h=>?_)
  .refine kC hS h (W9 hS hL) (fun y3 h=>?_);refine kG hS h (fun h=>?_) (fun h=>?_)
   .refine kG hS h (fun h=>?_) (fun h=>?_)
    .exact b _ [] _ ((E9 .andNot .u32 a.Minus c.Minus)==0) T3 h
    exact b _ [] _ false T3 h
   exact b _ [] _ false T3 h
  exact b _ [] _ false T3 h
 cases h;exact kR hS
def Gc (N:Nat)(a:To):Option Int:= some (E9 .or .u32 a.Plus a.Minus)
theorem Wm {a:To}{y:Int}(h:Gc N a=some y) :FunO S We [.p (.agg (A0 a))] [] (pU y) ([]) []:=by unfold Gc at h;refine A1 hS Tryz.func212 ?_;cases h;exact kR hS
def Ef (N:Nat)(c:To)(b:To)(a:Int):Option To:= some (⟨E9 .or .u32 (E9 .andNot .u32 c.Plus a) (E9 .and .u32 b.Plus a),E9 .or .u32 (E9 .andNot .u32 c.Minus a) (E9 .and .u32 b.Minus a)⟩:To)
theorem Wn {c:To}{a:To}{b:Int}{y:To}(h:Ef N c a b=some y) :FunO S Wf [.p (.agg (A0 c)),.p (.agg (A0 a)),pU b] [] (.p (.agg (A0 y))) ([]) []:=by unfold Ef at h;refine A1 hS Tryz.func213 ?_;cases h;exact kR hS
def U3 (N:Nat)(c:To)(a:Int)(b:To):Option (To×Int):= (J8 N c).bind fun y1=>lt (fun (z1:Bool)=>if z1 then some ((⟨0,0⟩:To),14) else lt (fun (z2:Bool)=>if z2 then some ((⟨0,0⟩:To),2) else (Gc N b).bind fun y6=>(Ef N c b (E9 .or .u32 a y6)).bind fun y7=>some (y7,0)) fun k2=>if (decide (16777215<a)) then k2 true else (Gc N b).bind fun y5=>k2 ((E9 .and .u32 a y5) != 0)) fun k1=>if (!y1) then k1 true else (J8 N b).bind fun y3=>k1 (!y3)
theorem Zu {c:To}{a:Int}{b:To}{y:To×Int}(h:U3 N c a b=some y) :FunO S No [.p (.agg (A0 c)),pU a,.p (.agg (A0 b))] [] (.tup [.p (.agg (A0 y.1)),pN y.2]) ([]) []:=by
 unfold U3 at h;refine A1 hS Tryz.func200 ?_;refine D8 hS T3 5 4000 [pI .u32 c.Plus,pI .u32 c.Minus] ?_;refine D8 hS T3 6 6000 [pI .u32 b.Plus,pI .u32 b.Minus] ?_;obtain⟨y1,e1,h⟩:=B1 h;refine B6 hS [] (by decide:(2:Nat)<=2) (W9 hS hL e1) ?_;refine Ai hS T3 (A2 hS) h 0 (fun z1=>⟨[(15,pB z1),(6,.reg 7000 0),(5,.p (.ptr [pI .u32 b.Plus,pI .u32 b.Minus])),(3,.p (.ptr [pI .u32 c.Plus,pI .u32 c.Minus])),(1,pU a)],[(7000,.cells [pU 0,pU 0])]⟩) (fun M1 k1 d h=>?_) (fun z1 h=>?_)
 .refine kG hS h (fun h=>?_) (fun h=>?_)
  .exact d _ [(7000,7000)] _ true T3 h
  obtain⟨y3,e3,h⟩:=B1 h;refine B6 hS [] (by decide:(2:Nat)<=2) (W9 hS hL e3) ?_;exact d _ [(7000,7000)] _ (!y3) T3 h
 apply kI hS h<;>intro h
 .cases h;exact kR hS
 refine Ai hS T3 (A2 hS) h 0 (fun z2=>⟨[(25,pB z2),(6,.reg 7000 0),(5,.p (.ptr [pI .u32 b.Plus,pI .u32 b.Minus])),(3,.p (.ptr [pI .u32 c.Plus,pI .u32 c.Minus])),(1,pU a)],[(7000,.cells [pU 0,pU 0])]⟩) (fun M2 k2 f h=>?_) (fun z2 h=>?_)
 .refine kG hS h (fun h=>?_) (fun h=>?_)
  .exact f _ [(7000,7000)] _ true T3 h
  obtain⟨y5,e5,h⟩:=B1 h;refine B6 hS [] (by decide:(2:Nat)<=2) (Wm hS hL e5) ?_;exact f _ [(7000,7000)] _ ((E9 .and .u32 a y5) != 0) T3 h
 apply kI hS h<;>intro h
 .cases h;exact kR hS
 refine C5 hS T3 [0,1,3,4,6] ?_;obtain⟨y6,e6,h⟩:=B1 h;refine F8 (And.intro (And.intro (by decide:(2:Nat)<=2) (by decide:(2:Nat)<=2)) (by decide:(2:Nat)<=2)) (Wm hS hL e6) ?_;obtain⟨y7,e7,h⟩:=B1 h;refine F8 T3 (Wn hS hL e7) ?_;refine D9 T3 ?_;cases h;exact kR hS
def Ad (N:Nat)(c:To)(a:To)(b:Int):Option (To×Int):= (J8 N c).bind fun y1=>lt (fun (z1:Bool)=>if z1 then some ((⟨0,0⟩:To),14) else if (decide (16777215<b)) then some ((⟨0,0⟩:To),2) else (Ef N c a b).bind fun y4=>some (y4,0)) fun k1=>if (!y1) then k1 true else (J8 N a).bind fun y3=>k1 (!y3)
theorem AD1 {c:To}{a:To}{b:Int}{y:To×Int}(h:Ad N c a b=some y) :FunO S SV [.p (.agg (A0 c)),.p (.agg (A0 a)),pU b] [] (.tup [.p (.agg (A0 y.1)),pN y.2]) ([]) []:=by
 unfold Ad at h;refine A1 hS Tryz.func201 ?_;refine kC hS h (W9 hS hL) (fun y1 h=>?_);refine Ai hS T3 (A2 hS) h 0 (fun z1=>⟨[(15,pB z1),(6,.reg 7000 0),(4,.reg 5000 0),(3,.reg 4000 0),(2,pU b)],[(7000,.cells [pU 0,pU 0]),(5000,.cells [pU a.Plus,pU a.Minus]),(4000,.cells [pU c.Plus,pU c.Minus])]⟩) (fun M1 k1 d h=>?_) (fun z1 h=>?_)
 .refine kG hS h (fun h=>?_) (fun h=>?_)
  .exact d _ [(4000,4000),(5000,5000),(7000,7000)] _ true T3 h
  refine kC hS h (W9 hS hL) (fun y3 h=>?_);exact d _ [(4000,4000),(5000,5000),(7000,7000)] _ (!y3) T3 h
 apply kI hS h<;>intro h
 .cases h;exact kR hS
 apply kI hS h<;>intro h
 .cases h;exact kR hS
 refine kC hS h (Wn hS hL) (fun y4 h=>?_);cases h;exact kR hS
def I3 (N:Nat)(a:To):Option Bool:= T9 N (fun b (x1:Int)=>if (decide (x1<32)) then if ((0:Int)<=x1/\(0:Int)<=x1)then if ((((E9 .and .u32 (shI .shr .u32 a.Plus x1) 1)==1)&&((E9 .and .u32 (shI .shr .u32 a.Minus x1) 1)==1))||((((E9 .and .u32 (shI .shr .u32 a.Plus x1) 1)==1)||((E9 .and .u32 (shI .shr .u32 a.Minus x1) 1)==1))&&(decide (24<=x1)))) then some false else b (wrap .i64 (x1+1)) else none else some true) 0
def X0 (N:Nat)(a:Int):Option Bool:= some ((decide (0<=a))&&(decide (a<24)))
def V5 (N:Nat)(b:To)(a:Int):Option Int:= (I3 N b).bind fun y1=>lt (fun (z1:Bool)=>if z1 then some 0 else if (0:Int)<=a then if ((E9 .and .u32 (shI .shr .u32 b.Plus a) 1)==1) then some 1 else if (0:Int)<=a then if ((E9 .and .u32 (shI .shr .u32 b.Minus a) 1)==1) then some (-1) else some 0 else none else none) fun k1=>if (!y1) then k1 true else (X0 N a).bind fun y3=>k1 (!y3)
def Az (N:Nat)(b:To)(a:Int)(c:Int):Option To:= if (0:Int)<=a then if (c==1) then if (c==(-1)) then some (⟨E9 .or .u32 (E9 .andNot .u32 b.Plus (shI .shl .u32 1 a)) (shI .shl .u32 1 a),E9 .or .u32 (E9 .andNot .u32 b.Minus (shI .shl .u32 1 a)) (shI .shl .u32 1 a)⟩:To) else some (⟨E9 .or .u32 (E9 .andNot .u32 b.Plus (shI .shl .u32 1 a)) (shI .shl .u32 1 a),E9 .andNot .u32 b.Minus (shI .shl .u32 1 a)⟩:To) else if (c==(-1)) then some (⟨E9 .andNot .u32 b.Plus (shI .shl .u32 1 a),E9 .or .u32 (E9 .andNot .u32 b.Minus (shI .shl .u32 1 a)) (shI .shl .u32 1 a)⟩:To) else some (⟨E9 .andNot .u32 b.Plus (shI .shl .u32 1 a),E9 .andNot .u32 b.Minus (shI .shl .u32 1 a)⟩:To) else none
def J3 (N:Nat)(c:To)(a:To):Option Bool:= (I3 N c).bind fun y1=>lt (fun (z1:Bool)=>if z1 then some false else T9 N (fun b (x3:Int)=>if (decide (x3<24)) then (V5 N a x3).bind fun d=>lt (fun (z4:Bool)=>if z4 then some false else b (wrap .i64 (x3+1))) fun k4=>if (d != 0) then (V5 N c x3).bind fun f=>k4 (f != d) else k4 false else some true) 0) fun k1=>if (!y1) then k1 true else (I3 N a).bind fun y3=>k1 (!y3)
def N1 (N:Nat)(d:To)(b:Int)(a:To):Option (To×Int):= (I3 N d).bind fun y1=>lt (fun (z1:Bool)=>if z1 then some ((⟨0,0⟩:To),14) else if ((decide (16777215<b))||((E9 .and .u32 b (E9 .or .u32 a.Plus a.Minus)) != 0)) then some ((⟨0,0⟩:To),2) else Zb N (fun c (x2:Int) (x3:Int) (x4:Int)=>if (decide (x4<24)) then if (0:Int)<=x4 then if ((E9 .and .u32 (shI .shr .u32 b x4) 1)==1) then (Az N (⟨x2,x3⟩:To) x4 0).bind fun f=>(V5 N a x4).bind fun j=>if (j != 0) then (V5 N a x4).bind fun l=>(Az N f x4 l).bind fun g=>c g.Plus g.Minus (wrap .i64 (x4+1)) else c f.Plus f.Minus (wrap .i64 (x4+1)) else (V5 N a x4).bind fun m=>if (m != 0) then (V5 N a x4).bind fun n=>(Az N (⟨x2,x3⟩:To) x4 n).bind fun i=>c i.Plus i.Minus (wrap .i64 (x4+1)) else c x2 x3 (wrap .i64 (x4+1)) else none else some ((⟨x2,x3⟩:To),0)) d.Plus d.Minus 0) fun k1=>if (!y1) then k1 true else (I3 N a).bind fun y3=>k1 (!y3)
def U8 (N:Nat)(d:To)(a:To)(b:Int):Option (To×Int):= (I3 N d).bind fun y1=>lt (fun (z1:Bool)=>if z1 then some ((⟨0,0⟩:To),14) else if (decide (16777215<b)) then some ((⟨0,0⟩:To),2) else Zb N (fun c (x2:Int) (x3:Int) (x4:Int)=>if (decide (x4<24)) then if (0:Int)<=x4 then if ((E9 .and .u32 (shI .shr .u32 b x4) 1)==1) then (V5 N a x4).bind fun y8=>(Az N (⟨x2,x3⟩:To) x4 y8).bind fun y9=>c y9.Plus y9.Minus (wrap .i64 (x4+1)) else c x2 x3 (wrap .i64 (x4+1)) else none else some ((⟨x2,x3⟩:To),0)) d.Plus d.Minus 0) fun k1=>if (!y1) then k1 true else (I3 N a).bind fun y3=>k1 (!y3)
def O1 (N:Nat)(a:To):Option Bool:= some ((((E9 .and .u32 a.Plus a.Minus)==0)&&(decide (a.Plus<16777216)))&&(decide (a.Minus<16777216)))
def P5 (N:Nat)(a:Sl To):Option Int:= if (decide (32<(a.n:Int))) then some 11 else T9 N (fun b (x1:Int)=>if (decide (x1<(a.n:Int))) then if ((0:Int)<=x1/\x1<(a.n:Int))then (O1 N (a.g x1.toNat)).bind fun y3=>if (!y3) then some 14 else b (wrap .i64 (x1+1)) else none else some 0) 0
def Jd (N:Nat)(a:Sl To)(b:Sl To):Option Bool:= if ((a.n:Int) != (b.n:Int)) then some false else T9 N (fun c (x1:Int)=>if (decide (x1<(a.n:Int))) then if (((0:Int)<=x1/\x1<(a.n:Int))/\((0:Int)<=x1/\x1<(b.n:Int)))then if ((((a.g x1.toNat).Plus==(b.g x1.toNat).Plus)&&((a.g x1.toNat).Minus==(b.g x1.toNat).Minus)) != true) then some false else c (wrap .i64 (x1+1)) else none else some true) 0
theorem OE {a:Sl To}{b:Sl To}{y:Bool}(h:Jd N a b=some y) :FunO S VW [.p (vSl 2 A0 a),.p (vSl 2 A0 b)] [] (pB y) ([]) []:=by
 unfold Jd at h;refine A1 hS Tryz.func83 ?_;apply kI hS h<;>intro h
 .cases h;exact kR hS
 refine E2 hS T3 h (fun x1=>⟨[(5,pN x1),(1,.p (vSl 2 A0 b)),(0,.p (vSl 2 A0 a))],[]⟩) (ids:=[]) (fun _ _ _ _ _ c x1 d h=>?_);apply kI hS h<;>intro h
 .refine C5 hS T3 [2,3,6,7] ?_;obtain⟨c9,h⟩:=C7 h;refine D9 (And.intro (And.intro (And.intro (And.intro c9.1 (by decide:(2:Nat)<=2)) c9.2) (by decide:(2:Nat)<=2)) (by decide +kernel:AJ4 Tryz.prog B0=true)) ?_;apply kI hS h<;>intro h
  .cases h;exact kR hS
  exact d _ [] _ (wrap .i64 (x1+1)) T3 h
 cases h;exact kR hS
def AI (N:Nat)(a:Sl To):Option (Sl To):= P9 N (fun b (x1:Sl To) (x2:Int)=>if (decide (x2<(a.n:Int))) then if (((0:Int)<=x2/\x2<(a.n:Int))/\((x1.n+(Sl.of [a.g x2.toNat]:Sl To).n)*8<=140737488355328/\x1.n+(Sl.of [a.g x2.toNat]:Sl To).n<=140737488355328))then b (x1.push (a.g x2.toNat)) (wrap .i64 (x2+1)) else none else some x1) (Sl.nil:Sl To) 0
def Db (N:Nat)(a:To):Option Bool:= some (((E9 .and .u32 a.Plus a.Minus)==0)&&((shI .shr .u32 (E9 .or .u32 a.Plus a.Minus) 24)==0))
theorem AD2 {a:To}{y:Bool}(h:Db N a=some y) :FunO S SO [.p (.agg (A0 a))] [] (pB y) ([]) []:=by
 unfold Db at h;refine A1 hS Tryz.func77 ?_;obtain⟨t1,c⟩:∃x:Bool,x=(((E9 .and .u32 a.Plus a.Minus)==0)&&((shI .shr .u32 (E9 .or .u32 a.Plus a.Minus) 24)==0)):=⟨_,rfl⟩;refine Tm hS T3 (A2 hS) 0 ⟨[(2,pB t1)],[]⟩ (fun M1 d=>?_) ?_
 .refine X9 hS T3 (b:=(E9 .and .u32 a.Plus a.Minus)==0) (fun c2=>?_) (fun c2=>?_)
  .exact d _ [] _ (by decide:(0:Int)<=24) (hle:=klR [(0,.eq (.bb ((shI .shr .u32 (E9 .or .u32 a.Plus a.Minus) 24)==0)) (.bb t1))] (al1 (by simp only[c,c2,Leaf.ok,pm,Rm,Rn]) al0))
  exact d _ [] _ T3 (hle:=klR [(0,.eq (.bb false) (.bb t1))] (al1 (by simp only[c,c2,Leaf.ok,pm,Rm,Rn]) al0))
 subst c;cases h;exact kR hS
def Q7 (N:Nat)(a:Sl To):Option Int:= if (decide (32<(a.n:Int))) then some 11 else T9 N (fun b (x1:Int)=>if (decide (x1<(a.n:Int))) then if ((0:Int)<=x1/\x1<(a.n:Int))then (Db N (a.g x1.toNat)).bind fun y3=>if (!y3) then some 14 else b (wrap .i64 (x1+1)) else none else some 0) 0
theorem EM {a:Sl To}{y:Int}(h:Q7 N a=some y) :FunO S SM [.p (vSl 2 A0 a)] [] (pN y) ([]) []:=by
 unfold Q7 at h;refine A1 hS Tryz.func47 ?_;apply kI hS h<;>intro h
 .cases h;exact kR hS
 refine E2 hS T3 h (fun x1=>⟨[(10,pN x1),(9,pN (a.n:Int)),(8,.p (vSl 2 A0 a))],[]⟩) (ids:=[]) (fun _ _ _ _ _ b x1 c h=>?_);apply kI hS h<;>intro h
 .obtain⟨c9,h⟩:=C7 h;obtain⟨y3,e3,h⟩:=B1 h;refine B6 hS [] (And.intro c9 (by decide:(2:Nat)<=2)) (AD2 hS hL e3) ?_;apply kI hS h<;>intro h
  .cases h;exact kR hS
  exact c _ [] _ (wrap .i64 (x1+1)) T3 h
 cases h;exact kR hS
def H4 (N:Nat)(a:Sl To)(b:Sl To):Option Bool:= if ((a.n:Int) != (b.n:Int)) then some false else T9 N (fun c (x1:Int)=>if (decide (x1<(a.n:Int))) then if (((0:Int)<=x1/\x1<(a.n:Int))/\((0:Int)<=x1/\x1<(b.n:Int)))then if ((((a.g x1.toNat).Plus==(b.g x1.toNat).Plus)&&((a.g x1.toNat).Minus==(b.g x1.toNat).Minus)) != true) then some false else c (wrap .i64 (x1+1)) else none else some true) 0
theorem Cn {a:Sl To}{b:Sl To}{y:Bool}(h:H4 N a b=some y) :FunO S T2 [.p (vSl 2 A0 a),.p (vSl 2 A0 b)] [] (pB y) ([]) []:=by
 unfold H4 at h;refine A1 hS Tryz.func74 ?_;apply kI hS h<;>intro h
 .cases h;exact kR hS
 refine E2 hS T3 h (fun x1=>⟨[(13,pN x1),(12,pN (a.n:Int)),(1,.p (vSl 2 A0 b)),(0,.p (vSl 2 A0 a))],[]⟩) (ids:=[]) (fun _ _ _ _ _ c x1 d h=>?_);apply kI hS h<;>intro h
 .refine C5 hS T3 [2,3,6,7] ?_;obtain⟨c9,h⟩:=C7 h;refine D9 (And.intro (And.intro (And.intro (And.intro c9.1 (by decide:(2:Nat)<=2)) c9.2) (by decide:(2:Nat)<=2)) (by decide +kernel:AJ4 Tryz.prog B0=true)) ?_;apply kI hS h<;>intro h
  .cases h;exact kR hS
  exact d _ [] _ (wrap .i64 (x1+1)) T3 h
 cases h;exact kR hS
def N2 (N:Nat)(a:Sl To)(b:Sl To):Option Bool:= (H4 N a b).bind fun y1=>some y1
theorem EN {a:Sl To}{b:Sl To}{y:Bool}(h:N2 N a b=some y) :FunO S SL [.p (vSl 2 A0 a),.p (vSl 2 A0 b)] [] (pB y) ([]) []:=by unfold N2 at h;refine A1 hS Tryz.func45 ?_;refine kC hS h (Cn hS hL) (fun y1 h=>?_);cases h;exact kR hS
def U4 (N:Nat)(a:To):Option Bool:= some (((E9 .and .u32 a.Plus a.Minus)==0)&&((shI .shr .u32 (E9 .or .u32 a.Plus a.Minus) 24)==0))
theorem GQ {a:To}{y:Bool}(h:U4 N a=some y) :FunO S ST [.p (.agg (A0 a))] [] (pB y) ([]) []:=by
 unfold U4 at h;refine A1 hS Tryz.func152 ?_;obtain⟨t1,c⟩:∃x:Bool,x=(((E9 .and .u32 a.Plus a.Minus)==0)&&((shI .shr .u32 (E9 .or .u32 a.Plus a.Minus) 24)==0)):=⟨_,rfl⟩;refine Tm hS T3 (A2 hS) 0 ⟨[(2,pB t1)],[]⟩ (fun M1 d=>?_) ?_
 .refine X9 hS T3 (b:=(E9 .and .u32 a.Plus a.Minus)==0) (fun c2=>?_) (fun c2=>?_)
  .exact d _ [] _ (by decide:(0:Int)<=24) (hle:=klR [(0,.eq (.bb ((shI .shr .u32 (E9 .or .u32 a.Plus a.Minus) 24)==0)) (.bb t1))] (al1 (by simp only[c,c2,Leaf.ok,pm,Rm,Rn]) al0))
  exact d _ [] _ T3 (hle:=klR [(0,.eq (.bb false) (.bb t1))] (al1 (by simp only[c,c2,Leaf.ok,pm,Rm,Rn]) al0))
 subst c;cases h;exact kR hS
def V6 (N:Nat)(b:Int):Option (Nat->Int):= P9 N (fun a (x1:Nat->Int) (x2:Int)=>if (decide (x2<(wrap .i64 (b+1)))) then if (((0:Int)<=x2/\((0:Int)<=x2/\x2<33))/\(0+x2.toNat*1)<33)then a (VF x1 (0+x2.toNat*1) (shI .shl .u64 1 x2)) (wrap .i64 (x2+1)) else none else some x1) (fun _=>0) 0
theorem Gd {a:Int}{y:Nat->Int}(h:V6 N a=some y) :FunO S KN [pN a] [] (.p (.agg (cA 33 (pI .u64) y))) ([]) []:=by
 unfold V6 at h;refine A1 hS Tryz.func242 ?_;refine D7 hS T3 h (fun x1 x2=>⟨[(7,pN x2),(6,pN (wrap .i64 (a+1))),(3,.reg 4000 0),(2,.reg 3000 0)],[(4000,.arr 33 (fun i=>pI .u64 (x1 i))),(3000,.arr 33 (fun i=>pI .u64 ((fun _=>0) i)))]⟩) (ids:=[(3000,3000),(4000,4000)]) (fun _ _ _ _ _ b x1 x2 d h=>?_) (hle:=klR [(2,.fn 33 33 (fun i=>[(fun i=>(List.replicate 33 (pI .u64 0)).getD i default) i]) (fun i=>[pI .u64 ((fun _=>0) i)])),(3,.fn 33 33 (fun i=>[(fun i=>(List.replicate 33 (pI .u64 0)).getD i default) i]) (fun i=>[pI .u64 ((fun _=>0) i)]))] (al1 ⟨rfl,Ed (z:=pI .u64 0) rfl⟩ (al1 ⟨rfl,Ed (z:=pI .u64 0) rfl⟩ al0)));apply kI hS h<;>intro h
 .obtain⟨c4,h⟩:=C7 h;exact d _ [(3000,3000),(4000,4000)] _ (VF x1 (0+x2.toNat*1) (shI .shl .u64 1 x2)) (wrap .i64 (x2+1)) c4 h (hle:=klR [(2,.fn 33 33 (fun i=>[(fun i=>if i=(0+x2.toNat*1)then (pI .u64 (shI .shl .u64 1 x2))else (fun i=>pI .u64 (x1 i)) i) i]) (fun i=>[pI .u64 (VF x1 (0+x2.toNat*1) (shI .shl .u64 1 x2) i)]))] (al1 ⟨rfl,BU7 (c:=pI .u64) (v:=x1) (x:=shI .shl .u64 1 x2) (fun _ _=>rfl) rfl⟩ al0))
 obtain rfl:=C0 h;exact A8 hS (And.intro rfl (I2 _ _):(0:Nat)=0/\(Fa 33 (fun i=>pI .u64 (x1 i))).length=33) ⟨[(2,.reg 3000 0)],[(3000,.arr 33 (fun i=>pI .u64 (x1 i)))]⟩ [] (ids:=[(3000,3000)]) ⟨rfl,rfl,rfl⟩ (hle:=klR [(0,.fn 33 33 (fun i=>[(fun i=>(cA 33 (pI .u64) x1).getD i default) i]) (fun i=>[pI .u64 (x1 i)]))] (al1 ⟨rfl,H0 33 (fun i=>pI .u64 (x1 i))⟩ al0))
def S0 (N:Nat)(p_x:Nat->Int)(b:Nat->Int):Option (Nat->Int):= P9 N (fun a (x1:Nat->Int) (x2:Int)=>if (decide (x2<33)) then if (((0:Int)<=x2/\x2<33)/\(0+x2.toNat*1)<33)then if (((((0:Int)<=x2/\x2<33)/\(0+x2.toNat*1)<33)/\((0:Int)<=x2/\x2<33))/\(0+x2.toNat*1)<33)then a (VF x1 (0+x2.toNat*1) (E9 .or .u64 (x1 (0+x2.toNat*1)) (b (0+x2.toNat*1)))) (wrap .i64 (x2+1)) else none else none else some x1) p_x 0
theorem GR {p_x:Nat->Int}{a:Nat->Int}{y:Nat->Int}(h:S0 N p_x a=some y) :FunO S GN [.reg 0 0,.reg 1 0] [.arr 33 (fun i=>pI .u64 (p_x i)),.arr 33 (fun i=>pI .u64 (a i))] (.tup []) ([.arr 33 (fun i=>pI .u64 (y i)),.arr 33 (fun i=>pI .u64 (a i))]) [true,true]:=by
 unfold S0 at h;refine A1 hS Tryz.func240 ?_;refine D7 hS T3 h (fun x1 x2=>⟨[(7,pN x2),(6,.reg 1 0),(0,.reg 0 0)],[(1,.arr 33 (fun i=>pI .u64 (a i))),(0,.arr 33 (fun i=>pI .u64 (x1 i)))]⟩) (ids:=[(0,0),(1,1)]) (fun _ _ _ _ _ b x1 x2 d h=>?_);apply kI hS h<;>intro h
 .refine Ec hS T3 ?_;obtain⟨c8,h⟩:=C7 h;refine D9 c8 ?_;refine Ec hS T3 ?_;obtain⟨c9,h⟩:=C7 h;refine D9 c9 ?_;exact d _ [(0,0),(1,1)] _ (VF x1 (0+x2.toNat*1) (E9 .or .u64 (x1 (0+x2.toNat*1)) (a (0+x2.toNat*1)))) (wrap .i64 (x2+1)) T3 h (hle:=klR [(2,.fn 33 33 (fun i=>[(fun i=>if i=(0+x2.toNat*1)then (pI .u64 (E9 .or .u64 (x1 (0+x2.toNat*1)) (a (0+x2.toNat*1))))else (fun i=>pI .u64 (x1 i)) i) i]) (fun i=>[pI .u64 (VF x1 (0+x2.toNat*1) (E9 .or .u64 (x1 (0+x2.toNat*1)) (a (0+x2.toNat*1))) i)]))] (al1 ⟨rfl,BU7 (c:=pI .u64) (v:=x1) (x:=E9 .or .u64 (x1 (0+x2.toNat*1)) (a (0+x2.toNat*1))) (fun _ _=>rfl) rfl⟩ al0))
 obtain rfl:=C0 h;exact A8 hS T3 ⟨[],[(1,.arr 33 (fun i=>pI .u64 (a i))),(0,.arr 33 (fun i=>pI .u64 (x1 i)))]⟩ [0,1] (ids:=[(0,0),(1,1)]) ⟨rfl,rfl,rfl⟩
def BL (N:Nat)(b:Sl To)(a:Int):Option Int:= if ((decide (a<0))||(decide ((b.n:Int)<a))) then some 3 else some 0
theorem PW {c:Sl To}{b:Int}{y:Int}(h:BL N c b=some y) :FunO S PP [.p (vSl 2 A0 c),pN b] [] (pN y) ([]) []:=by
 unfold BL at h;refine A1 hS Tryz.func215 ?_;refine kB hS (A2 hS) T3 T3 5 (.o (.a (decide (b<0))) (.a (decide ((c.n:Int)<b)))) ?_;apply kI hS h<;>intro h
 .cases h;exact kR hS
 cases h;exact kR hS
def Cz (N:Nat)(a:Pat):Option Int:= if (if (a.Kind==0) then a.Kind==0 else (if (a.Kind==2) then a.Kind==2 else a.Kind==6)) then lt (fun (z1:Bool)=>if z1 then some 2 else (U4 N a.Is).bind fun y1=>if (!y1) then some 14 else some 0) fun k1=>if (((a.Is.Plus==0)&&(a.Is.Minus==0)) != true) then k1 true else if a.Not then k1 true else if (a.Min != 0) then k1 true else if (a.Max != 0) then k1 true else k1 (decide (0<(a.L.n:Int))) else if (a.Kind==1) then lt (fun (z2:Bool)=>if z2 then some 2 else (U4 N a.Is).bind fun y2=>if (!y2) then some 14 else some 0) fun k2=>if (((0==0)&&(0==0)) != true) then k2 true else if (a.Min != 0) then k2 true else if (a.Max != 0) then k2 true else k2 (decide (0<(a.L.n:Int))) else lt (fun (z3:Int×Int)=>if (((((((a.Is.Plus==0)&&(a.Is.Minus==0)) != true)||a.Not)||(z3.1 != 0))||(z3.2 != 0))||(decide (0<0))) then some 2 else (U4 N a.Is).bind fun y3=>if (!y3) then some 14 else some 0) fun k3=>if (if (a.Kind==3) then a.Kind==3 else a.Kind==4) then k3 (a.Min,a.Max) else if (a.Kind==5) then if (((((a.L.n:Int) != 1)||(decide (a.Min<0)))||(decide (32<a.Min)))||((a.Max != (-1))&&((decide (a.Max<a.Min))||(decide (32<a.Max))))) then some 2 else k3 (0,0) else some 2
theorem Zv {c:Pat}{y:Int}(h:Cz N c=some y) :FunO S Nm [.p (.agg (C4 c))] [] (pN y) ([]) []:=by
 unfold Cz at h;refine A1 hS Tryz.func130 ?_;obtain⟨t1,f⟩:∃x:Bool,x=(if (c.Kind==0) then c.Kind==0 else (if (c.Kind==2) then c.Kind==2 else c.Kind==6)):=⟨_,rfl⟩;refine Tm hS T3 (A2 hS) 0 ⟨[(8,pB t1),(7,pN c.Kind),(3,.reg 4000 0),(1,.reg 2000 0)],[(4000,.cells [pN 0,pU c.Is.Plus,pU c.Is.Minus,pB c.Not,pN c.Min,pN c.Max,.p (.sl false 7 c.L.n (T1 c))]),(2000,.cells ((C4 c).map .p))]⟩ (fun M1 l=>?_) ?_
 .refine D1 hS T3 (b:=c.Kind==0) (fun c3=>?_) (fun c3=>?_)
  .exact l _ [(2000,2000),(4000,4000)] _ T3 (hle:=klR [(0,.eq (.bb (c.Kind==0)) (.bb t1))] (al1 (by simp only[f,c3,Leaf.ok,pm,Rm,Rn]) al0))
  refine D1 hS T3 (b:=c.Kind==2) (fun c4=>?_) (fun c4=>?_)
  .exact l _ [(2000,2000),(4000,4000)] _ T3 (hle:=klR [(0,.eq (.bb (c.Kind==2)) (.bb t1))] (al1 (by simp only[f,c3,c4,Leaf.ok,pm,Rm,Rn]) al0))
  exact l _ [(2000,2000),(4000,4000)] _ T3 (hle:=klR [(0,.eq (.bb (c.Kind==6)) (.bb t1))] (al1 (by simp only[f,c3,c4,Leaf.ok,pm,Rm,Rn]) al0))
 subst f;apply kI hS h<;>intro h
 .refine Ai hS (by decide +kernel:AJ4 Tryz.prog B0=true) (A2 hS) h 0 (fun z1=>⟨[(57,pB z1),(1,.reg 2000 0)],[(2000,.cells ((C4 c).map .p))]⟩) (fun M3 k1 d h=>?_) (fun z1 h=>?_)
  .refine kG hS h (fun h=>?_) (fun h=>?_)
   .exact d _ [(2000,2000)] _ true T3 h
   refine kG hS h (fun h=>?_) (fun h=>?_)
   .exact d _ [(2000,2000)] _ true T3 h
   refine kG hS h (fun h=>?_) (fun h=>?_)
   .exact d _ [(2000,2000)] _ true T3 h
   refine kG hS h (fun h=>?_) (fun h=>?_)
   .exact d _ [(2000,2000)] _ true T3 h
   refine G9 hS T3 79 ⟨[(78,.p (vSl 7 C4 c.L)),(76,.p (.v (.bool false))),(1,.reg 2000 0)],[(2000,.cells ((C4 c).map .p))]⟩ (ids:=[(2000,2000)]) ?_ (hle:=klR [(0,.fn c.L.n c.L.n (T1 c) (fun i=>C4 (c.L.g i)))] (al1 ⟨rfl,G8 c⟩ al0));exact d _ [(2000,2000)] _ (decide (0<(c.L.n:Int))) T3 h
  apply kI hS h<;>intro h
  .cases h;exact kR hS
  refine kC hS h (GQ hS hL) (fun y1 h=>?_);apply kI hS h<;>intro h
  .cases h;exact kR hS
  cases h;exact kR hS
 apply kI hS h<;>intro h
 .refine Ai hS (by decide +kernel:AJ4 Tryz.prog B0=true) (A2 hS) h 0 (fun z2=>⟨[(57,pB z2),(1,.reg 2000 0)],[(2000,.cells ((C4 c).map .p))]⟩) (fun M5 k2 j h=>?_) (fun z2 h=>?_)
  .refine kG hS h (fun h=>?_) (fun h=>?_)
   .exact j _ [(2000,2000)] _ true T3 h
   refine X9 hS T3 (b:=false) (fun c54=>?_) (fun c54=>?_)
   .exact Bool.noConfusion ((rfl:false=false).symm.trans c54)
   refine kG hS h (fun h=>?_) (fun h=>?_)
   .exact j _ [(2000,2000)] _ true T3 h
   refine kG hS h (fun h=>?_) (fun h=>?_)
   .exact j _ [(2000,2000)] _ true T3 h
   refine G9 hS T3 79 ⟨[(78,.p (vSl 7 C4 c.L)),(76,.p (.v (.bool false))),(1,.reg 2000 0)],[(2000,.cells ((C4 c).map .p))]⟩ (ids:=[(2000,2000)]) ?_ (hle:=klR [(0,.fn c.L.n c.L.n (T1 c) (fun i=>C4 (c.L.g i)))] (al1 ⟨rfl,G8 c⟩ al0));exact j _ [(2000,2000)] _ (decide (0<(c.L.n:Int))) T3 h
  apply kI hS h<;>intro h
  .cases h;exact kR hS
  refine kC hS h (GQ hS hL) (fun y2 h=>?_);apply kI hS h<;>intro h
  .cases h;exact kR hS
  cases h;exact kR hS
 obtain⟨t4,m⟩:∃x:Bool,x=(if (c.Kind==3) then c.Kind==3 else c.Kind==4):=⟨_,rfl⟩;refine Tm hS T3 (A2 hS) 0 ⟨[(17,pB t4),(7,pN c.Kind),(3,.reg 4000 0),(1,.reg 2000 0)],[(4000,.cells [pN 0,pU c.Is.Plus,pU c.Is.Minus,pB c.Not,pN c.Min,pN c.Max,.p (.sl false 7 c.L.n (T1 c))]),(2000,.cells ((C4 c).map .p))]⟩ (fun M6 q=>?_) ?_
 .refine D1 hS T3 (b:=c.Kind==3) (fun c60=>?_) (fun c60=>?_)
  .exact q _ [(2000,2000),(4000,4000)] _ T3 (hle:=klR [(0,.eq (.bb (c.Kind==3)) (.bb t4))] (al1 (by simp only[m,c60,Leaf.ok,pm,Rm,Rn]) al0))
  exact q _ [(2000,2000),(4000,4000)] _ T3 (hle:=klR [(0,.eq (.bb (c.Kind==4)) (.bb t4))] (al1 (by simp only[m,c60,Leaf.ok,pm,Rm,Rn]) al0))
 subst m;refine Ai hS T3 (A2 hS) h 0 (fun z3=>⟨[(3,.reg 4000 0),(1,.reg 2000 0)],[(4000,.cells [pN 0,pU c.Is.Plus,pU c.Is.Minus,pB c.Not,pN z3.1,pN z3.2,.p G6]),(2000,.cells ((C4 c).map .p))]⟩) (fun M7 k3 r h=>?_) (fun z3 h=>?_)
 .apply kI hS h<;>intro h
  .exact r _ [(2000,2000),(4000,4000)] _ (c.Min,c.Max) T3 h
  apply kI hS h<;>intro h
  .refine G9 hS T3 25 ⟨[(24,.p (vSl 7 C4 c.L)),(3,.reg 4000 0),(1,.reg 2000 0)],[(4000,.cells [pN 0,pU c.Is.Plus,pU c.Is.Minus,pB c.Not,pN c.Min,pN c.Max,.p (.sl false 7 c.L.n (T1 c))]),(2000,.cells ((C4 c).map .p))]⟩ (ids:=[(2000,2000),(4000,4000)]) ?_ (hle:=klR [(0,.fn c.L.n c.L.n (T1 c) (fun i=>C4 (c.L.g i)))] (al1 ⟨rfl,G8 c⟩ al0));refine kB hS (A2 hS) T3 T3 26 (.o (.o (.o (.a ((c.L.n:Int) != 1)) (.a (decide (c.Min<0)))) (.a (decide (32<c.Min)))) (.n (.a (c.Max != (-1))) (.o (.a (decide (c.Max<c.Min))) (.a (decide (32<c.Max)))))) ?_;apply kI hS h<;>intro h
   .cases h;exact kR hS
   exact r _ [(2000,2000),(4000,4000)] _ (0,0) T3 h
  cases h;exact kR hS
 refine kB hS (A2 hS) (by decide +kernel:AJ4 Tryz.prog B0=true) T3 19 (.o (.o (.o (.o (.a (((c.Is.Plus==0)&&(c.Is.Minus==0)) != true)) (.a c.Not)) (.a (z3.1 != 0))) (.a (z3.2 != 0))) (.a (decide (0<0)))) ?_;apply kI hS h<;>intro h
 .cases h;exact kR hS
 refine kC hS h (GQ hS hL) (fun y3 h=>?_);apply kI hS h<;>intro h
 .cases h;exact kR hS
 cases h;exact kR hS
def BM (N:Nat)(a:Pat):Option Int:= if ((decide (a.Kind<0))||(decide (6<a.Kind))) then some 2 else if ((a.Kind != 1)&&((((a.Is.Plus==0)&&(a.Is.Minus==0)) != true)||a.Not)) then some 2 else lt (fun (z1:Bool)=>if z1 then some 2 else if ((a.Kind != 5)&&((a.Min != 0)||(a.Max != 0))) then some 2 else lt (fun (z2:Bool)=>if z2 then some 2 else (O1 N a.Is).bind fun y1=>if (!y1) then some 14 else some 0) fun k2=>if (a.Kind==5) then if ((a.L.n:Int) != 1) then k2 true else if (decide (a.Min<0)) then k2 true else if (decide (32<a.Min)) then k2 true else if (a.Max != (-1)) then if (decide (a.Max<a.Min)) then k2 true else k2 (decide (32<a.Max)) else k2 false else k2 false) fun k1=>if (a.Kind != 3) then if (a.Kind != 4) then if (a.Kind != 5) then k1 (decide (0<(a.L.n:Int))) else k1 false else k1 false else k1 false
def V7 (N:Nat)(b:To)(a:To):Option Bool:= some (((E9 .and .u32 b.Plus a.Plus)==a.Plus)&&((E9 .and .u32 b.Minus a.Minus)==a.Minus))
def AJ (N:Nat)(a:Int):Option (Sl Int):= if ((0:Int)<=(wrap .i64 (a+1))/\(wrap .i64 (a+1))<=(wrap .i64 (a+1))/\(wrap .i64 (a+1))*8<=140737488355328/\(wrap .i64 (a+1))<=140737488355328)then P9 N (fun b (x1:Sl Int) (x2:Int)=>if (decide (x2<=a)) then if (((0:Int)<=x2/\((0:Int)<=x2/\x2<(x1.n:Int)))/\x2.toNat<x1.n)then b (x1.upd x2.toNat (shI .shl .u64 1 x2)) (wrap .i64 (x2+1)) else none else some x1) (Sl.rep (wrap .i64 (a+1)).toNat 0:Sl Int) 0 else none
def Q8 (N:Nat)(p_x:Sl Int)(b:Sl Int):Option (Sl Int):= if ((0:Int)<=(p_x.n:Int)/\(p_x.n:Int)<=(p_x.n:Int)/\(p_x.n:Int)*8<=140737488355328/\(p_x.n:Int)<=140737488355328)then P9 N (fun c (x3:Sl Int) (x4:Int)=>if (decide (x4<(p_x.n:Int))) then P9 N (fun a (x7:Sl Int) (x8:Int)=>if (decide (x8<(b.n:Int))) then if (((0:Int)<=x4/\x4<(p_x.n:Int))/\(0:Int)<=x8)then if ((E9 .and .u64 (shI .shr .u64 (p_x.g x4.toNat) x8) 1)==1) then if ((((((0:Int)<=x4/\x4<(x7.n:Int))/\x4.toNat<x7.n)/\((0:Int)<=x8/\x8<(b.n:Int)))/\((0:Int)<=x4/\x4<(x7.n:Int)))/\x4.toNat<x7.n)then a (x7.upd x4.toNat (E9 .or .u64 (x7.g x4.toNat) (b.g x8.toNat))) (wrap .i64 (x8+1)) else none else a x7 (wrap .i64 (x8+1)) else none else c x7 (wrap .i64 (x4+1))) x3 0 else some x3) (Sl.rep (p_x.n:Int).toNat 0:Sl Int) 0 else none
def AK (N:Nat)(p_x:Sl Int)(b:Sl Int):Option (Sl Int):= if ((0:Int)<=(p_x.n:Int)/\(p_x.n:Int)<=(p_x.n:Int)/\(p_x.n:Int)*8<=140737488355328/\(p_x.n:Int)<=140737488355328)then P9 N (fun a (x1:Sl Int) (x2:Int)=>if (decide (x2<(p_x.n:Int))) then if (((((0:Int)<=x2/\x2<(p_x.n:Int))/\((0:Int)<=x2/\x2<(b.n:Int)))/\((0:Int)<=x2/\x2<(x1.n:Int)))/\x2.toNat<x1.n)then a (x1.upd x2.toNat (E9 .or .u64 (p_x.g x2.toNat) (b.g x2.toNat))) (wrap .i64 (x2+1)) else none else some x1) (Sl.rep (p_x.n:Int).toNat 0:Sl Int) 0 else none
def Al (N:Nat)(p_x:Sl Int)(b:Sl Int):Option Bool:= T9 N (fun a (x1:Int)=>if (decide (x1<(p_x.n:Int))) then if (((0:Int)<=x1/\x1<(p_x.n:Int))/\((0:Int)<=x1/\x1<(b.n:Int)))then if ((p_x.g x1.toNat) != (b.g x1.toNat)) then some false else a (wrap .i64 (x1+1)) else none else some true) 0
end Go.AM
namespace Go.AM
variable {N:Nat}
open IntKind (wrap)
open Go.Proofs
set_option maxRecDepth 10000
set_option maxHeartbeats 2000000
variable {S:W1}(hS:H9 S Tryz.prog) (hL:GD S)
include hS hL
def Dt (rec:Pat->Int->Option Int)(N:Nat)(b:Pat)(a:Int):Option Int:= P9 N (fun c (x1:Int) (x2:Int)=>if ((decide (x2<(b.L.n:Int)))&&(decide (x1<=40))) then if ((0:Int)<=x2/\x2<(b.L.n:Int))then (rec (b.L.g x2.toNat) x1).bind fun y3=>c y3 (wrap .i64 (x2+1)) else none else some x1) (wrap .i64 (a+1)) 0
def CT:Nat->Pat->Int->Option Int
 |0=>fun _ _=>none
 |N+1=>Dt (CT N) N
theorem AD3 {rec:Pat->Int->Option Int}(d:∀{b:Pat}{c:Int}{y:Int},rec b c=some y->FunO S IW [.p (.agg (C4 b)),pN c] [] (pN y) ([]) []){b:Pat}{c:Int}{y:Int}(h:Dt rec N b c=some y) :FunO S IW [.p (.agg (C4 b)),pN c] [] (pN y) ([]) []:=by
 unfold Dt at h;refine A1 hS Tryz.func78 ?_;refine D7 hS T3 h (fun x1 x2=>⟨[(6,pN x2),(5,pN x1),(2,.reg 3000 0)],[(3000,.cells ((C4 b).map .p))]⟩) (ids:=[(3000,3000)]) (fun _ _ _ _ _ f x1 x2 j h=>?_);refine G9 hS T3 12 ⟨[(11,.p (vSl 7 C4 b.L)),(9,pN x2),(6,pN x2),(5,pN x1),(2,.reg 3000 0)],[(3000,.cells ((C4 b).map .p))]⟩ (ids:=[(3000,3000)]) ?_ (hle:=klR [(0,.fn b.L.n b.L.n (T1 b) (fun i=>C4 (b.L.g i)))] (al1 ⟨rfl,G8 b⟩ al0));refine kB hS (A2 hS) T3 T3 3 (.n (.a (decide (x2<(b.L.n:Int)))) (.a (decide (x1<=40)))) ?_;apply kI hS h<;>intro h
 .refine G9 hS T3 23 ⟨[(22,pN x2),(21,.p (vSl 7 C4 b.L)),(6,pN x2),(5,pN x1),(2,.reg 3000 0)],[(3000,.cells ((C4 b).map .p))]⟩ (ids:=[(3000,3000)]) ?_ (hle:=klR [(1,.fn b.L.n b.L.n (T1 b) (fun i=>C4 (b.L.g i)))] (al1 ⟨rfl,G8 b⟩ al0));obtain⟨c6,h⟩:=C7 h;obtain⟨y3,e3,h⟩:=B1 h;refine B6 hS [] (And.intro c6 (by decide:(7:Nat)<=7)) (d e3) ?_;exact j _ [(3000,3000)] _ y3 (wrap .i64 (x2+1)) T3 h
 cases h;exact kR hS
theorem AP5 {b:Pat}{a:Int}{y:Int}(h:CT N b a=some y) :FunO S IW [.p (.agg (C4 b)),pN a] [] (pN y) ([]) []:=by
 induction N generalizing b a y with
 |zero=>cases (show (none:Option Int)=some y from h)
 |succ N ih=>exact AD3 hS hL (fun e=>ih e) h
def FF (N:Nat)(a:Pat):Option Int:= (CT N a 0).bind fun y1=>some y1
theorem Aj5 {a:Pat}{y:Int}(h:FF N a=some y) :FunO S Aj1 [.p (.agg (C4 a))] [] (pN y) ([]) []:=by unfold FF at h;refine A1 hS Tryz.func48 ?_;refine kC hS h (AP5 hS hL) (fun y1 h=>?_);cases h;exact kR hS
def Q9 (rec:Pat->Int->Option (Int×Int))(N:Nat)(b:Pat)(a:Int):Option (Int×Int):= if (a==40) then some (a,12) else (BM N b).bind fun y1=>if (y1 != 0) then some (a,y1) else P9 N (fun c (x1:Int) (x2:Int)=>if (decide (x2<(b.L.n:Int))) then if ((0:Int)<=x2/\x2<(b.L.n:Int))then (rec (b.L.g x2.toNat) x1).bind fun y4=>if (y4.2 != 0) then some (y4.1,y4.2) else c y4.1 (wrap .i64 (x2+1)) else none else some (x1,0)) (wrap .i64 (a+1)) 0
def Dc:Nat->Pat->Int->Option (Int×Int)
 |0=>fun _ _=>none
 |N+1=>Q9 (Dc N) N
def V8 (N:Nat)(a:Pat):Option Int:= (Dc N a 0).bind fun y1=>some y1.2
def Z2 (N:Nat)(a:Str):Option Bool:= T9 N (fun b (x1:Int)=>if (decide (x1<(a.length:Int))) then if ((0:Int)<=x1/\x1<(a.length:Int))then if (!(((((decide (97<=(P8 a x1)))&&(decide ((P8 a x1)<=122)))||((decide (65<=(P8 a x1)))&&(decide ((P8 a x1)<=90))))||((decide (48<=(P8 a x1)))&&(decide ((P8 a x1)<=57))))||((P8 a x1)==45))) then some false else b (wrap .i64 (x1+1)) else none else some ((decide (1<=(a.length:Int)))&&(decide ((a.length:Int)<=24)))) 0
def BN (N:Nat)(p_x:Hk)(a:Int):Option Bool:= lt (fun (z1:Bool)=>if z1 then some false else if ((((E9 .and .u32 p_x.Clear (E9 .or .u32 p_x.Set.Plus p_x.Set.Minus)) != 0)||((E9 .and .u32 p_x.Take (E9 .or .u32 p_x.Set.Plus p_x.Set.Minus)) != 0))||((E9 .and .u32 p_x.Take p_x.Clear) != 0)) then some false else if (p_x.Take==0) then some (p_x.Of==0) else some ((decide (0<=p_x.Of))&&(decide (p_x.Of<a)))) fun k1=>if (decide (p_x.From<(-1))) then k1 true else if (decide (a<=p_x.From)) then k1 true else (I3 N p_x.Set).bind fun y2=>if (!y2) then k1 true else if ((E9 .andNot .u32 p_x.Clear 16777215) != 0) then k1 true else k1 ((E9 .andNot .u32 p_x.Take 16777215) != 0)
def S6 (N:Nat)(a:Law):Option Int:= (Z2 N a.Name).bind fun y1=>lt (fun (z1:Bool)=>if z1 then some 17 else if (((((decide (4<(a.If.n:Int)))||(decide (6<(a.Out.n:Int))))||((wrap .i64 ((a.If.n:Int)+(a.Out.n:Int)))==0))||(decide (a.Mode<1)))||(decide (3<a.Mode))) then some 17 else T9 N (fun b (x2:Int)=>if (decide (x2<(a.If.n:Int))) then if ((0:Int)<=x2/\x2<(a.If.n:Int))then (I3 N (a.If.g x2.toNat)).bind fun y8=>if (!y8) then some 17 else b (wrap .i64 (x2+1)) else none else T9 N (fun c (x3:Int)=>if (decide (x3<(a.Out.n:Int))) then if ((0:Int)<=x3/\x3<(a.Out.n:Int))then (BN N (a.Out.g x3.toNat) (a.If.n:Int)).bind fun d=>if (!d) then some 17 else c (wrap .i64 (x3+1)) else none else some 0) 0) 0) fun k1=>if (!y1) then k1 true else (V8 N a.Left).bind fun y4=>if (y4 != 0) then k1 true else (V8 N a.Right).bind fun y5=>k1 (y5 != 0)
def Y0 (N:Nat)(a:Sl Law):Option Int:= if (decide (64<(a.n:Int))) then some 12 else T9 N (fun b (x1:Int)=>if (decide (x1<(a.n:Int))) then if ((0:Int)<=x1/\x1<(a.n:Int))then (S6 N (a.g x1.toNat)).bind fun y3=>if (y3 != 0) then some 17 else b (wrap .i64 (x1+1)) else none else some 0) 0
def Bn (N:Nat)(a:Law)(b:Sl To):Option Int:= (S6 N a).bind fun y1=>if (y1 != 0) then some y1 else (P5 N b).bind fun y2=>some y2
def AL (N:Nat)(a:Pat)(b:Sl To):Option Int:= (V8 N a).bind fun y1=>if (y1==0) then (P5 N b).bind fun y2=>some y2 else some y1
def U0 (rec:Pat->(Sl To)->Option (Sl Int))(N:Nat)(a:Pat)(c:Sl To):Option (Sl Int):= if ((0:Int)<=(wrap .i64 ((c.n:Int)+1))/\(wrap .i64 ((c.n:Int)+1))<=(wrap .i64 ((c.n:Int)+1))/\(wrap .i64 ((c.n:Int)+1))*8<=140737488355328/\(wrap .i64 ((c.n:Int)+1))<=140737488355328)then P9 N (fun b (x1:Sl Int) (x2:Int)=>if (decide (x2<=(c.n:Int))) then if (a.Kind==0) then if (((0:Int)<=x2/\((0:Int)<=x2/\x2<(x1.n:Int)))/\x2.toNat<x1.n)then b (x1.upd x2.toNat (shI .shl .u64 1 x2)) (wrap .i64 (x2+1)) else none else if (a.Kind==1) then if (decide (x2<(c.n:Int))) then if ((0:Int)<=x2/\x2<(c.n:Int))then (V7 N (c.g x2.toNat) a.Is).bind fun y3=>if ((y3==a.Not) != true) then if (((0:Int)<=(wrap .i64 (x2+1))/\((0:Int)<=x2/\x2<(x1.n:Int)))/\x2.toNat<x1.n)then b (x1.upd x2.toNat (shI .shl .u64 1 (wrap .i64 (x2+1)))) (wrap .i64 (x2+1)) else none else b x1 (wrap .i64 (x2+1)) else none else b x1 (wrap .i64 (x2+1)) else if (a.Kind==2) then if (x2==0) then if (((0:Int)<=x2/\x2<(x1.n:Int))/\x2.toNat<x1.n)then b (x1.upd x2.toNat 1) (wrap .i64 (x2+1)) else none else b x1 (wrap .i64 (x2+1)) else if (a.Kind==6) then if (x2==(c.n:Int)) then if (((0:Int)<=x2/\((0:Int)<=x2/\x2<(x1.n:Int)))/\x2.toNat<x1.n)then b (x1.upd x2.toNat (shI .shl .u64 1 x2)) (wrap .i64 (x2+1)) else none else b x1 (wrap .i64 (x2+1)) else b x1 (wrap .i64 (x2+1)) else if (a.Kind==3) then (AJ N (c.n:Int)).bind fun y4=>P9 N (fun i (x3:Sl Int) (x4:Int)=>if (decide (x4<(a.L.n:Int))) then if ((0:Int)<=x4/\x4<(a.L.n:Int))then (rec (a.L.g x4.toNat) c).bind fun y9=>(Q8 N x3 y9).bind fun o=>i o (wrap .i64 (x4+1)) else none else some x3) y4 0 else if (a.Kind==4) then P9 N (fun j (x5:Sl Int) (x6:Int)=>if (decide (x6<(a.L.n:Int))) then if ((0:Int)<=x6/\x6<(a.L.n:Int))then (rec (a.L.g x6.toNat) c).bind fun q=>(AK N x5 q).bind fun r=>j r (wrap .i64 (x6+1)) else none else some x5) x1 0 else if (a.Kind==5) then if ((0:Int)<=0/\0<(a.L.n:Int))then (rec (a.L.g 0) c).bind fun m=>(AJ N (c.n:Int)).bind fun s=>Zb N (fun d (x8:Sl Int) (x9:Sl Int) (f:Int)=>if (decide (a.Min<=f)) then (AK N x8 x9).bind fun l=>lt (fun (z3:Bool)=>if z3 then some l else (Q8 N x9 m).bind fun t=>d l t (wrap .i64 (f+1))) fun k3=>if (f==a.Max) then k3 true else if (decide (a.Min<f)) then (Al N x8 l).bind fun u=>k3 u else k3 false else (Q8 N x9 m).bind fun v=>d x8 v (wrap .i64 (f+1))) x1 s 0 else none else some x1) (Sl.rep (wrap .i64 ((c.n:Int)+1)).toNat 0:Sl Int) 0 else none
def Bo:Nat->Pat->(Sl To)->Option (Sl Int)
 |0=>fun _ _=>none
 |N+1=>U0 (Bo N) N
def X1 (N:Nat)(d:Pat)(c:Sl To)(a:Int):Option ((Sl Int)×Int):= (AL N d c).bind fun y1=>if (y1 != 0) then some ((Sl.nil:Sl Int),y1) else if ((decide (a<0))||(decide ((c.n:Int)<a))) then some ((Sl.nil:Sl Int),3) else (Bo N d c).bind fun y2=>P9 N (fun b (x1:Sl Int) (x2:Int)=>if (decide (x2<=(c.n:Int))) then if ((((0:Int)<=x2/\x2<(y2.n:Int))/\x2.toNat<y2.n)/\(0:Int)<=a)then if ((E9 .and .u64 (shI .shr .u64 (y2.g x2.toNat) a) 1)==1) then if ((x1.n+(Sl.of [x2]:Sl Int).n)*8<=140737488355328/\x1.n+(Sl.of [x2]:Sl Int).n<=140737488355328)then b (x1.push x2) (wrap .i64 (x2+1)) else none else b x1 (wrap .i64 (x2+1)) else none else some (x1,0)) (Sl.nil:Sl Int) 0
def BO (N:Nat)(d:Pat)(c:Sl To)(a:Int):Option ((Sl Int)×Int):= (AL N d c).bind fun y1=>if (y1 != 0) then some ((Sl.nil:Sl Int),y1) else if ((decide (a<0))||(decide ((c.n:Int)<a))) then some ((Sl.nil:Sl Int),3) else (Bo N d c).bind fun y2=>P9 N (fun b (x1:Sl Int) (x2:Int)=>if (decide (x2<=(c.n:Int))) then if ((((0:Int)<=a/\a<(y2.n:Int))/\a.toNat<y2.n)/\(0:Int)<=x2)then if ((E9 .and .u64 (shI .shr .u64 (y2.g a.toNat) x2) 1)==1) then if ((x1.n+(Sl.of [x2]:Sl Int).n)*8<=140737488355328/\x1.n+(Sl.of [x2]:Sl Int).n<=140737488355328)then b (x1.push x2) (wrap .i64 (x2+1)) else none else b x1 (wrap .i64 (x2+1)) else none else some (x1,0)) (Sl.nil:Sl Int) 0
def X2 (N:Nat)(a:Law)(c:Sl To)(b:Int):Option Bool:= if ((decide (b<0))||(decide ((c.n:Int)<(wrap .i64 (b+(a.If.n:Int)))))) then some false else T9 N (fun d (x1:Int)=>if (decide (x1<(a.If.n:Int))) then if (((0:Int)<=(wrap .i64 (b+x1))/\(wrap .i64 (b+x1))<(c.n:Int))/\((0:Int)<=x1/\x1<(a.If.n:Int)))then (J3 N (c.g (wrap .i64 (b+x1)).toNat) (a.If.g x1.toNat)).bind fun y3=>if (!y3) then some false else d (wrap .i64 (x1+1)) else none else (X1 N a.Left c b).bind fun y4=>(BO N a.Right c (wrap .i64 (b+(a.If.n:Int)))).bind fun y5=>some ((decide (0<(y4.1.n:Int)))&&(decide (0<(y5.1.n:Int))))) 0
def Z3 (N:Nat)(a:Law)(b:Sl To):Option (Sl To):= P9 N (fun c (x1:Sl To) (x2:Int)=>if (decide (x2<(a.Out.n:Int))) then if ((0:Int)<=x2/\x2<(a.Out.n:Int))then if ((decide (0<=(a.Out.g x2.toNat).From))=true->((0:Int)<=(a.Out.g x2.toNat).From/\(a.Out.g x2.toNat).From<(b.n:Int)))then (N1 N (⟨(if (decide (0<=(a.Out.g x2.toNat).From)) then (b.g (a.Out.g x2.toNat).From.toNat).Plus else 0),(if (decide (0<=(a.Out.g x2.toNat).From)) then (b.g (a.Out.g x2.toNat).From.toNat).Minus else 0)⟩:To) (a.Out.g x2.toNat).Clear (a.Out.g x2.toNat).Set).bind fun y5=>if ((a.Out.g x2.toNat).Take != 0) then if ((0:Int)<=(a.Out.g x2.toNat).Of/\(a.Out.g x2.toNat).Of<(b.n:Int))then (U8 N y5.1 (b.g (a.Out.g x2.toNat).Of.toNat) (a.Out.g x2.toNat).Take).bind fun y6=>if ((x1.n+(Sl.of [y6.1]:Sl To).n)*8<=140737488355328/\x1.n+(Sl.of [y6.1]:Sl To).n<=140737488355328)then c (x1.push y6.1) (wrap .i64 (x2+1)) else none else none else if ((x1.n+(Sl.of [y5.1]:Sl To).n)*8<=140737488355328/\x1.n+(Sl.of [y5.1]:Sl To).n<=140737488355328)then c (x1.push y5.1) (wrap .i64 (x2+1)) else none else none else none else some x1) (Sl.nil:Sl To) 0
def M0 (N:Nat)(c:Law)(b:Sl To)(a:Int):Option (Sl To):= if (((0:Int)<=a/\a<=(b.n:Int))/\(((Sl.of []:Sl To).n+(b.take a.toNat).n)*8<=140737488355328/\(Sl.of []:Sl To).n+(b.take a.toNat).n<=140737488355328))then if ((0:Int)<=a/\a<=(wrap .i64 (a+(c.If.n:Int)))/\(wrap .i64 (a+(c.If.n:Int)))<=(b.n:Int))then (Z3 N c (b.sub a.toNat (wrap .i64 (a+(c.If.n:Int))).toNat)).bind fun y1=>if ((((Sl.of []:Sl To).app (b.take a.toNat)).n+y1.n)*8<=140737488355328/\((Sl.of []:Sl To).app (b.take a.toNat)).n+y1.n<=140737488355328)then if (((0:Int)<=(wrap .i64 (a+(c.If.n:Int)))/\(wrap .i64 (a+(c.If.n:Int)))<=(b.n:Int))/\(((((Sl.of []:Sl To).app (b.take a.toNat)).app y1).n+(b.drop (wrap .i64 (a+(c.If.n:Int))).toNat).n)*8<=140737488355328/\(((Sl.of []:Sl To).app (b.take a.toNat)).app y1).n+(b.drop (wrap .i64 (a+(c.If.n:Int))).toNat).n<=140737488355328))then some ((((Sl.of []:Sl To).app (b.take a.toNat)).app y1).app (b.drop (wrap .i64 (a+(c.If.n:Int))).toNat)) else none else none else none else none
def Du (N:Nat)(a:Law)(b:Sl To):Option ((Sl Int)×(Sl (Sl To))×Int):= Bf5 N (fun c (x2:Sl Int) (x3:Sl (Sl To)) (x4:Sl To) (x5:Int)=>if (decide (x5<=(b.n:Int))) then (X2 N a b x5).bind fun y5=>if (!y5) then lt (fun (z3:Sl To)=>c x2 x3 z3 (wrap .i64 (x5+1))) fun k3=>if (decide (x5<(b.n:Int))) then if (((0:Int)<=x5/\x5<(b.n:Int))/\((x4.n+(Sl.of [b.g x5.toNat]:Sl To).n)*8<=140737488355328/\x4.n+(Sl.of [b.g x5.toNat]:Sl To).n<=140737488355328))then k3 (x4.push (b.g x5.toNat)) else none else k3 x4 else if ((0:Int)<=x5/\x5<=(wrap .i64 (x5+(a.If.n:Int)))/\(wrap .i64 (x5+(a.If.n:Int)))<=(b.n:Int))then (Z3 N a (b.sub x5.toNat (wrap .i64 (x5+(a.If.n:Int))).toNat)).bind fun y6=>if ((x4.n+y6.n)*8<=140737488355328/\x4.n+y6.n<=140737488355328)then if ((x2.n+(Sl.of [x5]:Sl Int).n)*8<=140737488355328/\x2.n+(Sl.of [x5]:Sl Int).n<=140737488355328)then if (((((Sl.of []:Sl To).n+(x4.app y6).n)*8<=140737488355328/\(Sl.of []:Sl To).n+(x4.app y6).n<=140737488355328)/\((0:Int)<=(wrap .i64 (x5+(a.If.n:Int)))/\(wrap .i64 (x5+(a.If.n:Int)))<=(b.n:Int)))/\((((Sl.of []:Sl To).app (x4.app y6)).n+(b.drop (wrap .i64 (x5+(a.If.n:Int))).toNat).n)*8<=140737488355328/\((Sl.of []:Sl To).app (x4.app y6)).n+(b.drop (wrap .i64 (x5+(a.If.n:Int))).toNat).n<=140737488355328))then if (decide (32<((((Sl.of []:Sl To).app (x4.app y6)).app (b.drop (wrap .i64 (x5+(a.If.n:Int))).toNat)).n:Int))) then some ((Sl.nil:Sl Int),(Sl.nil:Sl (Sl To)),11) else if ((x3.n+(Sl.of [((Sl.of []:Sl To).app (x4.app y6)).app (b.drop (wrap .i64 (x5+(a.If.n:Int))).toNat)]:Sl (Sl To)).n)*24<=140737488355328/\x3.n+(Sl.of [((Sl.of []:Sl To).app (x4.app y6)).app (b.drop (wrap .i64 (x5+(a.If.n:Int))).toNat)]:Sl (Sl To)).n<=140737488355328)then if ((a.If.n:Int)==0) then if (decide ((wrap .i64 (x5+(a.If.n:Int)))<(b.n:Int))) then if (((0:Int)<=(wrap .i64 (x5+(a.If.n:Int)))/\(wrap .i64 (x5+(a.If.n:Int)))<(b.n:Int))/\(((x4.app y6).n+(Sl.of [b.g (wrap .i64 (x5+(a.If.n:Int))).toNat]:Sl To).n)*8<=140737488355328/\(x4.app y6).n+(Sl.of [b.g (wrap .i64 (x5+(a.If.n:Int))).toNat]:Sl To).n<=140737488355328))then c (x2.push x5) (x3.push (((Sl.of []:Sl To).app (x4.app y6)).app (b.drop (wrap .i64 (x5+(a.If.n:Int))).toNat))) ((x4.app y6).push (b.g (wrap .i64 (x5+(a.If.n:Int))).toNat)) (wrap .i64 ((wrap .i64 (x5+(a.If.n:Int)))+1)) else none else c (x2.push x5) (x3.push (((Sl.of []:Sl To).app (x4.app y6)).app (b.drop (wrap .i64 (x5+(a.If.n:Int))).toNat))) (x4.app y6) (wrap .i64 ((wrap .i64 (x5+(a.If.n:Int)))+1)) else c (x2.push x5) (x3.push (((Sl.of []:Sl To).app (x4.app y6)).app (b.drop (wrap .i64 (x5+(a.If.n:Int))).toNat))) (x4.app y6) (wrap .i64 (x5+(a.If.n:Int))) else none else none else none else none else none else some (x2,x3,0)) (Sl.nil:Sl Int) (Sl.nil:Sl (Sl To)) (Sl.nil:Sl To) 0
def Am (N:Nat)(b:Law)(c:Sl To):Option ((Sl Int)×(Sl (Sl To))×Int):= Bf5 N (fun a (x1:Sl To) (x2:Sl Int) (x3:Sl (Sl To)) (x4:Int)=>if (decide ((wrap .i64 (x4+(b.If.n:Int)))<=(x1.n:Int))) then (X2 N b x1 x4).bind fun y5=>if (!y5) then a x1 x2 x3 (wrap .i64 (x4+1)) else (M0 N b x1 x4).bind fun y6=>if (decide (32<(y6.n:Int))) then some ((Sl.nil:Sl Int),(Sl.nil:Sl (Sl To)),11) else if (((x2.n+(Sl.of [x4]:Sl Int).n)*8<=140737488355328/\x2.n+(Sl.of [x4]:Sl Int).n<=140737488355328)/\((x3.n+(Sl.of [y6]:Sl (Sl To)).n)*24<=140737488355328/\x3.n+(Sl.of [y6]:Sl (Sl To)).n<=140737488355328))then if ((b.If.n:Int)==0) then a y6 (x2.push x4) (x3.push y6) (wrap .i64 ((wrap .i64 (x4+(b.Out.n:Int)))+1)) else a y6 (x2.push x4) (x3.push y6) (wrap .i64 (x4+(b.Out.n:Int))) else none else some (x2,x3,0)) c (Sl.nil:Sl Int) (Sl.nil:Sl (Sl To)) 0
def AN (N:Nat)(b:Law)(c:Sl To):Option ((Sl Int)×(Sl (Sl To))×Int):= Bf5 N (fun a (x1:Sl To) (x2:Sl Int) (x3:Sl (Sl To)) (x4:Int)=>if (decide (0<=x4)) then (X2 N b x1 x4).bind fun y5=>if (!y5) then a x1 x2 x3 (wrap .i64 (x4-1)) else (M0 N b x1 x4).bind fun y6=>if (decide (32<(y6.n:Int))) then some ((Sl.nil:Sl Int),(Sl.nil:Sl (Sl To)),11) else if (((x2.n+(Sl.of [x4]:Sl Int).n)*8<=140737488355328/\x2.n+(Sl.of [x4]:Sl Int).n<=140737488355328)/\((x3.n+(Sl.of [y6]:Sl (Sl To)).n)*24<=140737488355328/\x3.n+(Sl.of [y6]:Sl (Sl To)).n<=140737488355328))then if ((b.If.n:Int)==0) then a y6 (x2.push x4) (x3.push y6) (wrap .i64 ((wrap .i64 (x4-(b.If.n:Int)))-1)) else a y6 (x2.push x4) (x3.push y6) (wrap .i64 (x4-(b.If.n:Int))) else none else some (x2,x3,0)) c (Sl.nil:Sl Int) (Sl.nil:Sl (Sl To)) (wrap .i64 ((c.n:Int)-(b.If.n:Int)))
def An (N:Nat)(a:Law)(b:Sl To):Option ((Sl Int)×(Sl (Sl To))×Int):= (Bn N a b).bind fun y1=>if (y1 != 0) then some ((Sl.nil:Sl Int),(Sl.nil:Sl (Sl To)),y1) else if (a.Mode==1) then (Du N a b).bind fun y2=>some (y2.1,y2.2.1,y2.2.2) else if (a.Mode==2) then (Am N a b).bind fun y3=>some (y3.1,y3.2.1,y3.2.2) else (AN N a b).bind fun y4=>some (y4.1,y4.2.1,y4.2.2)
def Y1 (N:Nat)(b:Law)(a:Sl To):Option ((Sl To)×Int):= (An N b a).bind fun y1=>if (y1.2.2 != 0) then some ((Sl.nil:Sl To),y1.2.2) else if ((y1.2.1.n:Int)==0) then if (((Sl.of []:Sl To).n+a.n)*8<=140737488355328/\(Sl.of []:Sl To).n+a.n<=140737488355328)then some ((Sl.of []:Sl To).app a,0) else none else if ((((0:Int)<=(wrap .i64 ((y1.2.1.n:Int)-1))/\(wrap .i64 ((y1.2.1.n:Int)-1))<(y1.2.1.n:Int))/\(wrap .i64 ((y1.2.1.n:Int)-1)).toNat<y1.2.1.n)/\(((Sl.of []:Sl To).n+(y1.2.1.g (wrap .i64 ((y1.2.1.n:Int)-1)).toNat).n)*8<=140737488355328/\(Sl.of []:Sl To).n+(y1.2.1.g (wrap .i64 ((y1.2.1.n:Int)-1)).toNat).n<=140737488355328))then some ((Sl.of []:Sl To).app (y1.2.1.g (wrap .i64 ((y1.2.1.n:Int)-1)).toNat),0) else none
def Bp (N:Nat)(a:Sl Law)(c:Sl To):Option ((Sl (Sl To))×Int):= (Y0 N a).bind fun y1=>lt (fun (z1:Int)=>if (z1 != 0) then some ((Sl.nil:Sl (Sl To)),z1) else (AI N c).bind fun y4=>P9 N (fun b (x2:Sl (Sl To)) (x3:Int)=>if (decide (x3<(a.n:Int))) then if ((((0:Int)<=x3/\x3<(a.n:Int))/\((0:Int)<=x3/\x3<(x2.n:Int)))/\x3.toNat<x2.n)then (Y1 N (a.g x3.toNat) (x2.g x3.toNat)).bind fun y7=>if (y7.2 != 0) then some ((Sl.nil:Sl (Sl To)),y7.2) else if ((x2.n+(Sl.of [y7.1]:Sl (Sl To)).n)*24<=140737488355328/\x2.n+(Sl.of [y7.1]:Sl (Sl To)).n<=140737488355328)then b (x2.push y7.1) (wrap .i64 (x3+1)) else none else none else some (x2,0)) (Sl.of [y4]:Sl (Sl To)) 0) fun k1=>if (y1==0) then (P5 N c).bind fun y3=>k1 y3 else k1 y1
def U5 (N:Nat)(a:Sl Law)(b:Sl To):Option ((Sl To)×Int):= (Bp N a b).bind fun y1=>if (y1.2 != 0) then some ((Sl.nil:Sl To),y1.2) else if (((0:Int)<=(wrap .i64 ((y1.1.n:Int)-1))/\(wrap .i64 ((y1.1.n:Int)-1))<(y1.1.n:Int))/\(wrap .i64 ((y1.1.n:Int)-1)).toNat<y1.1.n)then some (y1.1.g (wrap .i64 ((y1.1.n:Int)-1)).toNat,0) else none
end Go.AM
namespace Go.AM
variable {N:Nat}
open IntKind (wrap)
open Go.Proofs
set_option maxRecDepth 10000
set_option maxHeartbeats 2000000
variable {S:W1}(hS:H9 S Tryz.prog) (hL:GD S)
include hS hL
def W5 (N:Nat)(q0:Int):Option (List (Int)):= T9 N (fun a (x1:Int)=>if (x1 != 0) then (J2 N x1).bind fun y3=>if (0:Int)<=y3 then Be y3 (a (E9 .andNot .u64 x1 (shI .shl .u64 1 y3))) else none else some []) q0
theorem Fc {q0:Int}{L:List (Int)}(h:W5 N q0=some L) :IN S CK [] [.reg 0 0] [.cells [.p (pI .u64 q0)]] (L.map (fun (x:Int)=>[pI .i64 x])):=by
 unfold W5 at h;refine IT hS Tryz.func219 ?_;refine IS hS T3 h (fun x1 L1=>⟨[(1,.reg 0 0),(0,.yf 1)],[(1,.yld (L1.map (fun (x:Int)=>[pI .i64 x])) true),(0,.cells [.p (pI .u64 x1)])]⟩) (ids:=[(0,0),(1,1)]) (fun _ _ _ _ _ d x1 L1 f h=>?_);apply kI hS h<;>intro h
 .refine kC hS h (Gb hS hL) (fun y3 h=>?_);refine Ec hS T3 ?_;obtain⟨c10,h⟩:=C7 h;refine D9 c10 ?_;obtain⟨L4,rfl,c⟩:=VD h;replace h:=c;refine FX hS T3 (ys:=(fun (x:Int)=>[pI .i64 x]) y3) (rest:=L4.map (fun (x:Int)=>[pI .i64 x])) ?_ ?_
  .refine D1 hS T3 (b:=false) (fun c11=>?_) (fun c11=>?_)
   .exact Bool.noConfusion ((rfl:false=false).symm.trans c11)
   exact f _ [(0,0),(1,1)] _ (E9 .andNot .u64 x1 (shI .shl .u64 1 y3)) L4 T3 h
  refine D1 hS T3 (b:=true) (fun c12=>?_) (fun c12=>?_)
  .exact A8 hS T3 (a:=.tup []) (objs:=[(.cells [.p (pI .u64 (E9 .andNot .u64 x1 (shI .shl .u64 1 y3)))]),.yld [] false]) ⟨[],[(1,.yld [] false),(0,.cells [.p (pI .u64 (E9 .andNot .u64 x1 (shI .shl .u64 1 y3)))])]⟩ [0,1] (ids:=[(0,0),(1,1)]) ⟨false,rfl,rfl,_,rfl⟩
  exact Bool.noConfusion ((rfl:true=true).symm.trans c12)
 obtain rfl:=C0 h;exact A8 hS T3 (a:=.tup []) (objs:=[(.cells [.p (pI .u64 x1)]),.yld [] true]) ⟨[],[(1,.yld [] true),(0,.cells [.p (pI .u64 x1)])]⟩ [0,1] (ids:=[(0,0),(1,1)]) ⟨true,rfl,rfl,_,rfl⟩
def CA (N:Nat)(a:Int):Option (Int):= some a
theorem Ho {a:Int}{y:Int}(h:CA N a=some y) :FunO S Np [.p (pI .u64 a)] [] (.clo CK [] [.reg 0 0]) ([.cells [.p (pI .u64 y)]]) []:=by unfold CA at h;refine A1 hS Tryz.func216 ?_;obtain rfl:=C0 h;exact A8 hS T3 ⟨[(2,.clo CK [] [.reg 2000 0])],[(2000,.cells [.p (pI .u64 a)])]⟩ [2000] (ids:=[(2000,2000)]) ⟨rfl,rfl,rfl⟩
def G7 (N:Nat)(p_x:Nat->Int)(c:Nat->Int):Option (Nat->Int):= P9 N (fun a (x3:Nat->Int) (x4:Int)=>if (decide (x4<33)) then if (((0:Int)<=x4/\x4<33)/\(0+x4.toNat*1)<33)then (CA N (p_x (0+x4.toNat*1))).bind fun y3=>(W5 N y3).bind fun L3=>Q5 L3 (fun b (x7:Int) (z3:Nat->Int)=>if (((((((0:Int)<=x4/\x4<33)/\(0+x4.toNat*1)<33)/\((0:Int)<=x7/\x7<33))/\(0+x7.toNat*1)<33)/\((0:Int)<=x4/\x4<33))/\(0+x4.toNat*1)<33)then b (VF z3 (0+x4.toNat*1) (E9 .or .u64 (z3 (0+x4.toNat*1)) (c (0+x7.toNat*1)))) else none) (fun (z3:Nat->Int)=>a z3 (wrap .i64 (x4+1))) x3 else none else some x3) (fun _=>0) 0
theorem Y7 {p_x:Nat->Int}{b:Nat->Int}{y:Nat->Int}(h:G7 N p_x b=some y) :FunO S Cm [.reg 0 0,.reg 1 0] [.arr 33 (fun i=>pI .u64 (p_x i)),.arr 33 (fun i=>pI .u64 (b i))] (.p (.agg (cA 33 (pI .u64) y))) ([.arr 33 (fun i=>pI .u64 (p_x i)),.arr 33 (fun i=>pI .u64 (b i))]) [true,true]:=by
 unfold G7 at h;refine A1 hS Tryz.func243 ?_;refine D7 hS T3 h (fun x3 x4=>⟨[(10,pN x4),(9,.reg 0 0),(5,.reg 6000 0),(4,.reg 5000 0),(3,.reg 4000 0)],[(6000,.arr 33 (fun i=>pI .u64 (x3 i))),(5000,.arr 33 (fun i=>pI .u64 ((fun _=>0) i))),(4000,.cells [.reg 1 0]),(1,.arr 33 (fun i=>pI .u64 (b i))),(0,.arr 33 (fun i=>pI .u64 (p_x i)))]⟩) (ids:=[(0,0),(1,1),(4000,4000),(5000,5000),(6000,6000)]) (fun _ _ _ _ _ d x3 x4 f h=>?_) (hle:=klR [(1,.fn 33 33 (fun i=>[(fun i=>(List.replicate 33 (pI .u64 0)).getD i default) i]) (fun i=>[pI .u64 ((fun _=>0) i)])),(2,.fn 33 33 (fun i=>[(fun i=>(List.replicate 33 (pI .u64 0)).getD i default) i]) (fun i=>[pI .u64 ((fun _=>0) i)]))] (al1 ⟨rfl,Ed (z:=pI .u64 0) rfl⟩ (al1 ⟨rfl,Ed (z:=pI .u64 0) rfl⟩ al0)));apply kI hS h<;>intro h
 .refine Y6 hS T3 [(2,.l [0]),(3,.l [0]),(4,.a [7000]),(5,.a [7000])] ?_;obtain⟨c12,h⟩:=C7 h;refine D9 c12 ?_;refine D8 hS T3 16 7000 [pI .i64 x4] ?_;refine kC hS h (Ho hS hL) (fun y3 h=>?_);obtain⟨L3,e6,h⟩:=B1 h;refine Hj hS T3 [18000] [10,9,6,5,4,3] 905 (fun z3=>⟨[(10,pN x4),(9,.reg 0 0),(6,.p (.ptr [pI .i64 x4])),(5,.reg 6000 0),(4,.reg 5000 0),(3,.reg 4000 0)],[(6000,.arr 33 (fun i=>pI .u64 (z3 i))),(5000,.arr 33 (fun i=>pI .u64 ((fun _=>0) i))),(4000,.cells [.reg 1 0]),(1,.arr 33 (fun i=>pI .u64 (b i))),(0,.arr 33 (fun i=>pI .u64 (p_x i)))]⟩) (idl:=[(0,0),(1,1),(4000,4000),(5000,5000),(6000,6000)]) h (Fc hS hL e6) (fun _=>by kernel_rfl) (fun _=>by kernel_rfl) (fun _=>by kernel_rfl) (fun _=>by kernel_rfl) (fun x7 _ g z3 j h=>?_) (fun z3 h=>?_)
  .refine OC hS T3 ?_;refine Y6 hS T3 [(0,.n),(1,.l [6000]),(2,.l [6000]),(3,.l [4000]),(6,.l [1]),(7,.l [1]),(9,.l [6000]),(10,.a [6000])] ?_;obtain⟨c15,h⟩:=C7 h;refine D9 c15 ?_;exact j _ [(0,0),(1,1),(905,905),(4000,4000),(5000,5000),(6000,6000)] _ (VF z3 (0+x4.toNat*1) (E9 .or .u64 (z3 (0+x4.toNat*1)) (b (0+x7.toNat*1)))) T3 h (hle:=klR [(0,.fn 33 33 (fun i=>[(fun i=>if i=(0+x4.toNat*1)then (pI .u64 (E9 .or .u64 (z3 (0+x4.toNat*1)) (b (0+x7.toNat*1))))else (fun i=>pI .u64 (z3 i)) i) i]) (fun i=>[pI .u64 (VF z3 (0+x4.toNat*1) (E9 .or .u64 (z3 (0+x4.toNat*1)) (b (0+x7.toNat*1))) i)]))] (al1 ⟨rfl,BU7 (c:=pI .u64) (v:=z3) (x:=E9 .or .u64 (z3 (0+x4.toNat*1)) (b (0+x7.toNat*1))) (fun _ _=>rfl) rfl⟩ al0))
  exact f _ [(0,0),(1,1),(4000,4000),(5000,5000),(6000,6000)] _ z3 (wrap .i64 (x4+1)) T3 h
 obtain rfl:=C0 h;exact A8 hS (And.intro rfl (I2 _ _):(0:Nat)=0/\(Fa 33 (fun i=>pI .u64 (x3 i))).length=33) ⟨[(4,.reg 5000 0)],[(5000,.arr 33 (fun i=>pI .u64 (x3 i))),(1,.arr 33 (fun i=>pI .u64 (b i))),(0,.arr 33 (fun i=>pI .u64 (p_x i)))]⟩ [0,1] (ids:=[(0,0),(1,1),(5000,5000)]) ⟨rfl,rfl,rfl⟩ (hle:=klR [(0,.fn 33 33 (fun i=>[(fun i=>(cA 33 (pI .u64) x3).getD i default) i]) (fun i=>[pI .u64 (x3 i)]))] (al1 ⟨rfl,H0 33 (fun i=>pI .u64 (x3 i))⟩ al0))
def N3 (N:Nat)(p_x:Nat->Int):Option (Nat->Int):= P9 N (fun a (x3:Nat->Int) (x4:Int)=>if (decide (x4<33)) then if (((0:Int)<=x4/\x4<33)/\(0+x4.toNat*1)<33)then (CA N (p_x (0+x4.toNat*1))).bind fun y3=>(W5 N y3).bind fun L3=>Q5 L3 (fun b (x7:Int) (z3:Nat->Int)=>if (((((((0:Int)<=x4/\x4<33)/\(0+x4.toNat*1)<33)/\((0:Int)<=x7/\x7<33))/\(0+x7.toNat*1)<33)/\((0:Int)<=x4/\x4<33))/\(0+x4.toNat*1)<33)then b (VF z3 (0+x4.toNat*1) (E9 .or .u64 (z3 (0+x4.toNat*1)) (p_x (0+x7.toNat*1)))) else none) (fun (z3:Nat->Int)=>a z3 (wrap .i64 (x4+1))) x3 else none else some x3) (fun _=>0) 0
theorem EO {p_x:Nat->Int}{y:Nat->Int}(h:N3 N p_x=some y) :FunO S Cm [.reg 0 0,.reg 0 0] [.arr 33 (fun i=>pI .u64 (p_x i))] (.p (.agg (cA 33 (pI .u64) y))) ([.arr 33 (fun i=>pI .u64 (p_x i))]) [true]:=by
 unfold N3 at h;refine A1 hS Tryz.func243 ?_;refine D7 hS T3 h (fun x3 x4=>⟨[(10,pN x4),(9,.reg 0 0),(5,.reg 6000 0),(4,.reg 5000 0),(3,.reg 4000 0)],[(6000,.arr 33 (fun i=>pI .u64 (x3 i))),(5000,.arr 33 (fun i=>pI .u64 ((fun _=>0) i))),(4000,.cells [.reg 0 0]),(0,.arr 33 (fun i=>pI .u64 (p_x i)))]⟩) (ids:=[(0,0),(4000,4000),(5000,5000),(6000,6000)]) (fun _ _ _ _ _ b x3 x4 d h=>?_) (hle:=klR [(1,.fn 33 33 (fun i=>[(fun i=>(List.replicate 33 (pI .u64 0)).getD i default) i]) (fun i=>[pI .u64 ((fun _=>0) i)])),(2,.fn 33 33 (fun i=>[(fun i=>(List.replicate 33 (pI .u64 0)).getD i default) i]) (fun i=>[pI .u64 ((fun _=>0) i)]))] (al1 ⟨rfl,Ed (z:=pI .u64 0) rfl⟩ (al1 ⟨rfl,Ed (z:=pI .u64 0) rfl⟩ al0)));apply kI hS h<;>intro h
 .refine Y6 hS T3 [(2,.l [0]),(3,.l [0]),(4,.a [7000]),(5,.a [7000])] ?_;obtain⟨c12,h⟩:=C7 h;refine D9 c12 ?_;refine D8 hS T3 16 7000 [pI .i64 x4] ?_;refine kC hS h (Ho hS hL) (fun y3 h=>?_);obtain⟨L3,e6,h⟩:=B1 h;refine Hj hS T3 [18000] [10,9,6,5,4,3] 905 (fun z3=>⟨[(10,pN x4),(9,.reg 0 0),(6,.p (.ptr [pI .i64 x4])),(5,.reg 6000 0),(4,.reg 5000 0),(3,.reg 4000 0)],[(6000,.arr 33 (fun i=>pI .u64 (z3 i))),(5000,.arr 33 (fun i=>pI .u64 ((fun _=>0) i))),(4000,.cells [.reg 0 0]),(0,.arr 33 (fun i=>pI .u64 (p_x i)))]⟩) (idl:=[(0,0),(4000,4000),(5000,5000),(6000,6000)]) h (Fc hS hL e6) (fun _=>by kernel_rfl) (fun _=>by kernel_rfl) (fun _=>by kernel_rfl) (fun _=>by kernel_rfl) (fun x7 _ f z3 g h=>?_) (fun z3 h=>?_)
  .refine OC hS T3 ?_;refine Y6 hS T3 [(0,.n),(1,.l [6000]),(2,.l [6000]),(3,.l [4000]),(6,.l [0]),(7,.l [0]),(9,.l [6000]),(10,.a [6000])] ?_;obtain⟨c15,h⟩:=C7 h;refine D9 c15 ?_;exact g _ [(0,0),(905,905),(4000,4000),(5000,5000),(6000,6000)] _ (VF z3 (0+x4.toNat*1) (E9 .or .u64 (z3 (0+x4.toNat*1)) (p_x (0+x7.toNat*1)))) T3 h (hle:=klR [(0,.fn 33 33 (fun i=>[(fun i=>if i=(0+x4.toNat*1)then (pI .u64 (E9 .or .u64 (z3 (0+x4.toNat*1)) (p_x (0+x7.toNat*1))))else (fun i=>pI .u64 (z3 i)) i) i]) (fun i=>[pI .u64 (VF z3 (0+x4.toNat*1) (E9 .or .u64 (z3 (0+x4.toNat*1)) (p_x (0+x7.toNat*1))) i)]))] (al1 ⟨rfl,BU7 (c:=pI .u64) (v:=z3) (x:=E9 .or .u64 (z3 (0+x4.toNat*1)) (p_x (0+x7.toNat*1))) (fun _ _=>rfl) rfl⟩ al0))
  exact d _ [(0,0),(4000,4000),(5000,5000),(6000,6000)] _ z3 (wrap .i64 (x4+1)) T3 h
 obtain rfl:=C0 h;exact A8 hS (And.intro rfl (I2 _ _):(0:Nat)=0/\(Fa 33 (fun i=>pI .u64 (x3 i))).length=33) ⟨[(4,.reg 5000 0)],[(5000,.arr 33 (fun i=>pI .u64 (x3 i))),(0,.arr 33 (fun i=>pI .u64 (p_x i)))]⟩ [0] (ids:=[(0,0),(5000,5000)]) ⟨rfl,rfl,rfl⟩ (hle:=klR [(0,.fn 33 33 (fun i=>[(fun i=>(cA 33 (pI .u64) x3).getD i default) i]) (fun i=>[pI .u64 (x3 i)]))] (al1 ⟨rfl,H0 33 (fun i=>pI .u64 (x3 i))⟩ al0))
def I0 (N:Nat)(p_x:Nat->Int)(b:Int)(c:Int):Option (Nat->Int):= (V6 N c).bind fun y1=>Zb N (fun a (x1:Int) (x2:Nat->Int) (x3:Nat->Int)=>if (decide (0<x1)) then if ((E9 .and .i64 x1 1)==1) then (G7 N x3 x2).bind fun y8=>(N3 N x2).bind fun y9=>a (shI .shr .i64 x1 1) y9 y8 else (N3 N x2).bind fun d=>a (shI .shr .i64 x1 1) d x3 else some x3) b p_x y1
theorem Bq {p_x:Nat->Int}{b:Int}{c:Int}{y:Nat->Int}(h:I0 N p_x b c=some y) :FunO S EL [.p (.agg (cA 33 (pI .u64) p_x)),pN b,pN c] [] (.p (.agg (cA 33 (pI .u64) y))) ([]) []:=by
 unfold I0 at h;refine A1 hS Tryz.func236 ?_;refine kC hS h (Gd hS hL) (fun y1 h=>?_);refine Cv hS (And.intro rfl (I2 _ _):(0:Nat)=0/\(Fa 33 (fun i=>pI .u64 (y1 i))).length=33) h (fun x1 x2 x3=>⟨[(7,.reg 8000 0),(6,.reg 7000 0),(3,.reg 4000 0),(1,pN x1)],[(8000,.arr 33 (fun i=>pI .u64 (x3 i))),(7000,.arr 33 (fun i=>pI .u64 ((fun _=>0) i))),(4000,.arr 33 (fun i=>pI .u64 (x2 i)))]⟩) (ids:=[(4000,4000),(7000,7000),(8000,8000)]) (fun _ _ _ _ _ f x1 x2 x3 d h=>?_) (hle:=klR [(1,.fn 33 33 (fun i=>[(fun i=>(cA 33 (pI .u64) y1).getD i default) i]) (fun i=>[pI .u64 (y1 i)])),(2,.fn 33 33 (fun i=>[(fun i=>(List.replicate 33 (pI .u64 0)).getD i default) i]) (fun i=>[pI .u64 ((fun _=>0) i)])),(3,.fn 33 33 (fun i=>[(fun i=>(cA 33 (pI .u64) p_x).getD i default) i]) (fun i=>[pI .u64 (p_x i)]))] (al1 ⟨rfl,H0 33 (fun i=>pI .u64 (y1 i))⟩ (al1 ⟨rfl,Ed (z:=pI .u64 0) rfl⟩ (al1 ⟨rfl,H0 33 (fun i=>pI .u64 (p_x i))⟩ al0))));apply kI hS h<;>intro h
 .apply kI hS h<;>intro h
  .obtain⟨y8,e8,h⟩:=B1 h;refine B6 hS [8000,4000] T3 (Y7 hS hL e8) ?_;obtain⟨y9,e9,h⟩:=B1 h;refine B6 hS [4000] (And.intro rfl (I2 _ _):(0:Nat)=0/\(Fa 33 (fun i=>pI .u64 (y8 i))).length=33) (EO hS hL e9) ?_;exact d _ [(4000,4000),(7000,7000),(8000,8000)] _ (shI .shr .i64 x1 1) y9 y8 (And.intro (And.intro rfl (I2 _ _):(0:Nat)=0/\(Fa 33 (fun i=>pI .u64 (y9 i))).length=33) (by decide:(0:Int)<=1)) h (hle:=klR [(1,.fn 33 33 (fun i=>[(fun i=>(cA 33 (pI .u64) y8).getD i default) i]) (fun i=>[pI .u64 (y8 i)])),(3,.fn 33 33 (fun i=>[(fun i=>(cA 33 (pI .u64) y9).getD i default) i]) (fun i=>[pI .u64 (y9 i)]))] (al1 ⟨rfl,H0 33 (fun i=>pI .u64 (y8 i))⟩ (al1 ⟨rfl,H0 33 (fun i=>pI .u64 (y9 i))⟩ al0)))
  obtain⟨a,e10,h⟩:=B1 h;refine B6 hS [4000] T3 (EO hS hL e10) ?_;exact d _ [(4000,4000),(7000,7000),(8000,8000)] _ (shI .shr .i64 x1 1) a x3 (And.intro (And.intro rfl (I2 _ _):(0:Nat)=0/\(Fa 33 (fun i=>pI .u64 (a i))).length=33) (by decide:(0:Int)<=1)) h (hle:=klR [(3,.fn 33 33 (fun i=>[(fun i=>(cA 33 (pI .u64) a).getD i default) i]) (fun i=>[pI .u64 (a i)]))] (al1 ⟨rfl,H0 33 (fun i=>pI .u64 (a i))⟩ al0))
 obtain rfl:=C0 h;exact A8 hS (And.intro rfl (I2 _ _):(0:Nat)=0/\(Fa 33 (fun i=>pI .u64 (x3 i))).length=33) ⟨[(6,.reg 7000 0)],[(7000,.arr 33 (fun i=>pI .u64 (x3 i)))]⟩ [] (ids:=[(7000,7000)]) ⟨rfl,rfl,rfl⟩ (hle:=klR [(0,.fn 33 33 (fun i=>[(fun i=>(cA 33 (pI .u64) x3).getD i default) i]) (fun i=>[pI .u64 (x3 i)]))] (al1 ⟨rfl,H0 33 (fun i=>pI .u64 (x3 i))⟩ al0))
end Go.AM
namespace Go.AM
variable {N:Nat}
open IntKind (wrap)
open Go.Proofs
set_option maxRecDepth 10000
set_option maxHeartbeats 2000000
variable {S:W1}(hS:H9 S Tryz.prog) (hL:GD S)
include hS hL
def Br (N:Nat)(p_x:Bq4)(b:Sl To):Option (Nat->Int):= P9 N (fun a (x1:Nat->Int) (x2:Int)=>if (decide (x2<(b.n:Int))) then if ((0:Int)<=x2/\x2<(b.n:Int))then if ((((E9 .or .u32 (E9 .andNot .u32 p_x.is.Plus (b.g x2.toNat).Plus) (E9 .andNot .u32 p_x.is.Minus (b.g x2.toNat).Minus))==0)==p_x.not) != true) then if (((0:Int)<=(wrap .i64 (x2+1))/\((0:Int)<=x2/\x2<33))/\(0+x2.toNat*1)<33)then a (VF x1 (0+x2.toNat*1) (shI .shl .u64 1 (wrap .i64 (x2+1)))) (wrap .i64 (x2+1)) else none else a x1 (wrap .i64 (x2+1)) else none else some x1) (fun _=>0) 0
theorem Wo {p_x:Bq4}{a:Sl To}{y:Nat->Int}(h:Br N p_x a=some y) :FunO S Ga [.p (.agg (AY2 p_x)),.p (vSl 2 A0 a)] [] (.p (.agg (cA 33 (pI .u64) y))) ([]) []:=by
 unfold Br at h;refine A1 hS Tryz.func237 ?_;refine D7 hS T3 h (fun x1 x2=>⟨[(9,pN x2),(8,pN (a.n:Int)),(7,.p (vSl 2 A0 a)),(4,.reg 5000 0),(2,.reg 3000 0)],[(5000,.arr 33 (fun i=>pI .u64 (x1 i))),(3000,.cells ((AY2 p_x).map .p))]⟩) (ids:=[(3000,3000),(5000,5000)]) (fun _ _ _ _ _ f x1 x2 d h=>?_) (hle:=klR [(3,.fn 33 33 (fun i=>[(fun i=>(List.replicate 33 (pI .u64 0)).getD i default) i]) (fun i=>[pI .u64 ((fun _=>0) i)]))] (al1 ⟨rfl,Ed (z:=pI .u64 0) rfl⟩ al0));apply kI hS h<;>intro h
 .obtain⟨c8,h⟩:=C7 h;refine D1 hS (And.intro c8 (by decide:(2:Nat)<=2)) (b:=(((E9 .or .u32 (E9 .andNot .u32 p_x.is.Plus (a.g x2.toNat).Plus) (E9 .andNot .u32 p_x.is.Minus (a.g x2.toNat).Minus))==0)==p_x.not) != true) (fun c9=>?_) (fun c9=>?_)
  .replace h:=itT c9 h;obtain⟨c10,h⟩:=C7 h;exact d _ [(3000,3000),(5000,5000)] _ (VF x1 (0+x2.toNat*1) (shI .shl .u64 1 (wrap .i64 (x2+1)))) (wrap .i64 (x2+1)) c10 h (hle:=klR [(3,.fn 33 33 (fun i=>[(fun i=>if i=(0+x2.toNat*1)then (pI .u64 (shI .shl .u64 1 (wrap .i64 (x2+1))))else (fun i=>pI .u64 (x1 i)) i) i]) (fun i=>[pI .u64 (VF x1 (0+x2.toNat*1) (shI .shl .u64 1 (wrap .i64 (x2+1))) i)]))] (al1 ⟨rfl,BU7 (c:=pI .u64) (v:=x1) (x:=shI .shl .u64 1 (wrap .i64 (x2+1))) (fun _ _=>rfl) rfl⟩ al0))
  replace h:=itF c9 h;exact d _ [(3000,3000),(5000,5000)] _ x1 (wrap .i64 (x2+1)) T3 h
 obtain rfl:=C0 h;exact A8 hS (And.intro rfl (I2 _ _):(0:Nat)=0/\(Fa 33 (fun i=>pI .u64 (x1 i))).length=33) ⟨[(4,.reg 5000 0)],[(5000,.arr 33 (fun i=>pI .u64 (x1 i)))]⟩ [] (ids:=[(5000,5000)]) ⟨rfl,rfl,rfl⟩ (hle:=klR [(0,.fn 33 33 (fun i=>[(fun i=>(cA 33 (pI .u64) x1).getD i default) i]) (fun i=>[pI .u64 (x1 i)]))] (al1 ⟨rfl,H0 33 (fun i=>pI .u64 (x1 i))⟩ al0))
def CB (N:Nat)(p_x:BV6)(a:Sl To):Option (Nat->Int):= if p_x.end_ then if (((0:Int)<=(a.n:Int)/\((0:Int)<=(a.n:Int)/\(a.n:Int)<33))/\(0+(a.n:Int).toNat*1)<33)then some (VF (fun _=>0) (0+(a.n:Int).toNat*1) (shI .shl .u64 1 (a.n:Int))) else none else if (((0:Int)<=0/\(0:Int)<33)/\(0+0*1)<33)then some (VF (fun _=>0) (0+0*1) (shI .shl .u64 1 0)) else none
theorem Zw {p_x:BV6}{a:Sl To}{y:Nat->Int}(h:CB N p_x a=some y) :FunO S Hm [.p (.agg (BV7 p_x)),.p (vSl 2 A0 a)] [] (.p (.agg (cA 33 (pI .u64) y))) ([]) []:=by
 unfold CB at h;refine A1 hS Tryz.func238 ?_;apply kI hS h<;>intro h
 .obtain⟨c2,h⟩:=C7 h;obtain rfl:=C0 h;exact A8 hS (And.intro (And.intro (And.intro c2.1.1 c2.1.2) c2.2) (And.intro rfl (I2 _ _):(0:Nat)=0/\(Fa 33 (fun i=>if i=(0+(a.n:Int).toNat*1)then (pI .u64 (shI .shl .u64 1 (a.n:Int)))else (fun i=>(List.replicate 33 (pI .u64 0)).getD i default) i)).length=33)) ⟨[(4,.reg 5000 0)],[(5000,.arr 33 (fun i=>pI .u64 (VF (fun _=>0) (0+(a.n:Int).toNat*1) (shI .shl .u64 1 (a.n:Int)) i)))]⟩ [] (ids:=[(5000,5000)]) ⟨rfl,rfl,rfl⟩ (hle:=klR [(0,.fn 33 33 (fun i=>[(fun i=>(Fa 33 (fun i=>if i=(0+(a.n:Int).toNat*1)then (pI .u64 (shI .shl .u64 1 (a.n:Int)))else (fun i=>(List.replicate 33 (pI .u64 0)).getD i default) i)).getD i default) i]) (fun i=>[pI .u64 (VF (fun _=>0) (0+(a.n:Int).toNat*1) (shI .shl .u64 1 (a.n:Int)) i)]))] (al1 ⟨rfl,fun i b=>(H0 33 (fun i=>if i=(0+(a.n:Int).toNat*1)then (pI .u64 (shI .shl .u64 1 (a.n:Int)))else (fun i=>(List.replicate 33 (pI .u64 0)).getD i default) i) i b).trans (BU7 (c:=pI .u64) (v:=fun _=>0) (x:=shI .shl .u64 1 (a.n:Int)) (Ed (z:=pI .u64 0) rfl) rfl i b)⟩ al0))
 obtain⟨c3,h⟩:=C7 h;obtain rfl:=C0 h;exact A8 hS (And.intro (And.intro (And.intro (by decide:(0:Int)<=0) c3.1) c3.2) (And.intro rfl (I2 _ _):(0:Nat)=0/\(Fa 33 (fun i=>if i=(0+0*1)then (pI .u64 (shI .shl .u64 1 0))else (fun i=>(List.replicate 33 (pI .u64 0)).getD i default) i)).length=33)) ⟨[(4,.reg 5000 0)],[(5000,.arr 33 (fun i=>pI .u64 (VF (fun _=>0) (0+0*1) (shI .shl .u64 1 0) i)))]⟩ [] (ids:=[(5000,5000)]) ⟨rfl,rfl,rfl⟩ (hle:=klR [(0,.fn 33 33 (fun i=>[(fun i=>(Fa 33 (fun i=>if i=(0+0*1)then (pI .u64 (shI .shl .u64 1 0))else (fun i=>(List.replicate 33 (pI .u64 0)).getD i default) i)).getD i default) i]) (fun i=>[pI .u64 (VF (fun _=>0) (0+0*1) (shI .shl .u64 1 0) i)]))] (al1 ⟨rfl,fun i b=>(H0 33 (fun i=>if i=(0+0*1)then (pI .u64 (shI .shl .u64 1 0))else (fun i=>(List.replicate 33 (pI .u64 0)).getD i default) i) i b).trans (BU7 (c:=pI .u64) (v:=fun _=>0) (x:=shI .shl .u64 1 0) (Ed (z:=pI .u64 0) rfl) rfl i b)⟩ al0))
def Dv (rec:Part->(Sl To)->Option (Nat->Int))(N:Nat)(p_x:Pseq)(b:Sl To):Option (Nat->Int):= (V6 N (b.n:Int)).bind fun y1=>P9 N (fun a (x1:Nat->Int) (x2:Int)=>if (decide (x2<(p_x.l.n:Int))) then if ((0:Int)<=x2/\x2<(p_x.l.n:Int))then (rec (p_x.l.g x2.toNat) b).bind fun y6=>(G7 N x1 y6).bind fun y7=>a y7 (wrap .i64 (x2+1)) else none else some x1) y1 0
theorem Ar5 {rec:Part->(Sl To)->Option ((Nat->Int))}(b:∀{x:Part}{b0:(Sl To)}{y:(Nat->Int)},rec x b0=some y->Cg6 S Tryz.prog (KE x) "ablaut/pats.in" [(.p (vSl 2 A0 b0))] (.p (.agg (cA 33 (pI .u64) y)))){p_x:Pseq}{a:(Sl To)}{y:(Nat->Int)}(h:Dv rec N p_x a=some y) :FunO S Jb [(.p (.agg (Ch8 p_x))),(.p (vSl 2 A0 a))] [] (.p (.agg (cA 33 (pI .u64) y))) ([]) []:=by
 unfold Dv at h;refine A1 hS Tryz.func244 ?_;refine kC hS h (Gd hS hL) (fun y1 h=>?_);refine D7 hS (And.intro rfl (I2 _ _):(0:Nat)=0/\(Fa 33 (fun i=>pI .u64 (y1 i))).length=33) h (fun x1 x2=>⟨[(15,(pN x2)),(14,(pN (p_x.l.n:Int))),(13,(.p (vSl 1 HN p_x.l))),(5,(.reg 6000 0)),(4,(.reg 5000 0)),(1,(.p (vSl 2 A0 a)))],[(6000,(.arr 33 (fun i=>pI .u64 (x1 i)))),(5000,(.arr 33 (fun i=>pI .u64 ((fun _=>0) i))))]⟩) (ids:=[(5000,5000),(6000,6000)]) (fun _ _ _ _ _ c x1 x2 d h=>?_) (hle:=(klR [(4,.fn 33 33 (fun i=>[(fun i=>(cA 33 (pI .u64) y1).getD i default) i]) (fun i=>[pI .u64 (y1 i)])),(5,.fn 33 33 (fun i=>[(fun i=>(List.replicate 33 (pI .u64 0)).getD i default) i]) (fun i=>[pI .u64 ((fun _=>0) i)]))] (al1 ⟨rfl,(H0 33 (fun i=>pI .u64 (y1 i)))⟩ (al1 ⟨rfl,(Ed (z:=pI .u64 0) rfl)⟩ al0))));apply kI hS h<;>intro h
 .obtain⟨c6,h⟩:=C7 h;obtain⟨y6,e6,h⟩:=B1 h;refine UP hS c6 (b e6) ?_;refine Da hS (And.intro rfl (I2 _ _):(0:Nat)=0/\(Fa 33 (fun i=>pI .u64 (y6 i))).length=33) ⟨[(15,(pN x2)),(14,(pN (p_x.l.n:Int))),(13,(.p (vSl 1 HN p_x.l))),(8,(.reg 9000 0)),(5,(.reg 6000 0)),(4,(.reg 5000 0)),(1,(.p (vSl 2 A0 a)))],[(9000,(.arr 33 (fun i=>pI .u64 (y6 i)))),(6000,(.arr 33 (fun i=>pI .u64 (x1 i)))),(5000,(.arr 33 (fun i=>pI .u64 ((fun _=>0) i))))]⟩ (ids:=[(5000,5000),(6000,6000),(9000,9000)]) ?_ (hle:=(klR [(4,.fn 33 33 (fun i=>[(fun i=>(cA 33 (pI .u64) y6).getD i default) i]) (fun i=>[pI .u64 (y6 i)]))] (al1 ⟨rfl,(H0 33 (fun i=>pI .u64 (y6 i)))⟩ al0)));obtain⟨y7,e7,h⟩:=B1 h;refine B6 hS [6000,9000] T3 (Y7 hS hL e7) ?_;exact d _ [(5000,5000),(6000,6000)] _ y7 (wrap .i64 (x2+1)) (And.intro rfl (I2 _ _):(0:Nat)=0/\(Fa 33 (fun i=>pI .u64 (y7 i))).length=33) h (hle:=klR [(4,.fn 33 33 (fun i=>[(fun i=>(cA 33 (pI .u64) y7).getD i default) i]) (fun i=>[pI .u64 (y7 i)]))] (al1 ⟨rfl,(H0 33 (fun i=>pI .u64 (y7 i)))⟩ al0))
 obtain rfl:=C0 h;exact A8 hS (And.intro rfl (I2 _ _):(0:Nat)=0/\(Fa 33 (fun i=>pI .u64 (x1 i))).length=33) ⟨[(4,(.reg 5000 0))],[(5000,(.arr 33 (fun i=>pI .u64 (x1 i))))]⟩ [] (ids:=[(5000,5000)]) ⟨rfl,rfl,rfl⟩ (hle:=(klR [(0,.fn 33 33 (fun i=>[(fun i=>(cA 33 (pI .u64) x1).getD i default) i]) (fun i=>[pI .u64 (x1 i)]))] (al1 ⟨rfl,(H0 33 (fun i=>pI .u64 (x1 i)))⟩ al0)))
def Dw (rec:Part->(Sl To)->Option (Nat->Int))(N:Nat)(p_x:Palt)(b:Sl To):Option (Nat->Int):= P9 N (fun a (x1:Nat->Int) (x2:Int)=>if (decide (x2<(p_x.l.n:Int))) then if ((0:Int)<=x2/\x2<(p_x.l.n:Int))then (rec (p_x.l.g x2.toNat) b).bind fun y5=>(S0 N x1 y5).bind fun y6=>a y6 (wrap .i64 (x2+1)) else none else some x1) (fun _=>0) 0
theorem Ar6 {rec:Part->(Sl To)->Option ((Nat->Int))}(b:∀{x:Part}{b0:(Sl To)}{y:(Nat->Int)},rec x b0=some y->Cg6 S Tryz.prog (KE x) "ablaut/pats.in" [(.p (vSl 2 A0 b0))] (.p (.agg (cA 33 (pI .u64) y)))){p_x:Palt}{a:(Sl To)}{y:(Nat->Int)}(h:Dw rec N p_x a=some y) :FunO S IZ [(.p (.agg (Ch5 p_x))),(.p (vSl 2 A0 a))] [] (.p (.agg (cA 33 (pI .u64) y))) ([]) []:=by
 unfold Dw at h;refine A1 hS Tryz.func239 ?_;refine D7 hS T3 h (fun x1 x2=>⟨[(11,(pN x2)),(10,(pN (p_x.l.n:Int))),(9,(.p (vSl 1 HN p_x.l))),(4,(.reg 5000 0)),(1,(.p (vSl 2 A0 a)))],[(5000,(.arr 33 (fun i=>pI .u64 (x1 i))))]⟩) (ids:=[(5000,5000)]) (fun _ _ _ _ _ c x1 x2 d h=>?_) (hle:=(klR [(4,.fn 33 33 (fun i=>[(fun i=>(List.replicate 33 (pI .u64 0)).getD i default) i]) (fun i=>[pI .u64 ((fun _=>0) i)]))] (al1 ⟨rfl,(Ed (z:=pI .u64 0) rfl)⟩ al0)));apply kI hS h<;>intro h
 .obtain⟨c6,h⟩:=C7 h;obtain⟨y5,e5,h⟩:=B1 h;refine UP hS c6 (b e5) ?_;refine Da hS (And.intro rfl (I2 _ _):(0:Nat)=0/\(Fa 33 (fun i=>pI .u64 (y5 i))).length=33) ⟨[(11,(pN x2)),(10,(pN (p_x.l.n:Int))),(9,(.p (vSl 1 HN p_x.l))),(7,(.reg 8000 0)),(4,(.reg 5000 0)),(1,(.p (vSl 2 A0 a)))],[(8000,(.arr 33 (fun i=>pI .u64 (y5 i)))),(5000,(.arr 33 (fun i=>pI .u64 (x1 i))))]⟩ (ids:=[(5000,5000),(8000,8000)]) ?_ (hle:=(klR [(4,.fn 33 33 (fun i=>[(fun i=>(cA 33 (pI .u64) y5).getD i default) i]) (fun i=>[pI .u64 (y5 i)]))] (al1 ⟨rfl,(H0 33 (fun i=>pI .u64 (y5 i)))⟩ al0)));obtain⟨y6,e6,h⟩:=B1 h;refine B6 hS [5000,8000] T3 (GR hS hL e6) ?_;exact d _ [(5000,5000)] _ y6 (wrap .i64 (x2+1)) T3 h
 obtain rfl:=C0 h;exact A8 hS (And.intro rfl (I2 _ _):(0:Nat)=0/\(Fa 33 (fun i=>pI .u64 (x1 i))).length=33) ⟨[(4,(.reg 5000 0))],[(5000,(.arr 33 (fun i=>pI .u64 (x1 i))))]⟩ [] (ids:=[(5000,5000)]) ⟨rfl,rfl,rfl⟩ (hle:=(klR [(0,.fn 33 33 (fun i=>[(fun i=>(cA 33 (pI .u64) x1).getD i default) i]) (fun i=>[pI .u64 (x1 i)]))] (al1 ⟨rfl,(H0 33 (fun i=>pI .u64 (x1 i)))⟩ al0)))
def Dx (rec:Part->(Sl To)->Option (Nat->Int))(N:Nat)(p_x:Ch6)(a:Sl To):Option (Nat->Int):= (rec p_x.of a).bind fun y1=>(I0 N y1 p_x.min (a.n:Int)).bind fun y2=>(V6 N (a.n:Int)).bind fun y3=>(S0 N y1 y3).bind fun y4=>if (decide (p_x.max<0)) then (I0 N y4 (a.n:Int) (a.n:Int)).bind fun y5=>(G7 N y2 y5).bind fun y6=>some y6 else (I0 N y4 (wrap .i64 (p_x.max-p_x.min)) (a.n:Int)).bind fun y7=>(G7 N y2 y7).bind fun y8=>some y8
theorem Ar7 {rec:Part->(Sl To)->Option ((Nat->Int))}(b:∀{x:Part}{b0:(Sl To)}{y:(Nat->Int)},rec x b0=some y->Cg6 S Tryz.prog (KE x) "ablaut/pats.in" [(.p (vSl 2 A0 b0))] (.p (.agg (cA 33 (pI .u64) y)))){p_x:Ch6}{a:(Sl To)}{y:(Nat->Int)}(h:Dx rec N p_x a=some y) :FunO S Ja [(.p (.agg (Ch7 p_x))),(.p (vSl 2 A0 a))] [] (.p (.agg (cA 33 (pI .u64) y))) ([]) []:=by
 unfold Dx at h;refine A1 hS Tryz.func241 ?_;obtain⟨y1,e1,h⟩:=B1 h;refine UP hS T3 (b e1) ?_;refine Da hS (And.intro rfl (I2 _ _):(0:Nat)=0/\(Fa 33 (fun i=>pI .u64 (y1 i))).length=33) ⟨[(18,(pN (a.n:Int))),(16,(pN p_x.min)),(14,(.p (.agg (cA 33 (pI .u64) y1)))),(5,(.reg 6000 0)),(4,(.reg 5000 0)),(2,(.reg 3000 0)),(1,(.p (vSl 2 A0 a)))],[(6000,(.arr 33 (fun i=>pI .u64 (y1 i)))),(5000,(.arr 33 (fun i=>pI .u64 ((fun _=>0) i)))),(3000,(.cells [(.p (KE p_x.of)),(pN p_x.min),(pN p_x.max)]))]⟩ (ids:=[(3000,3000),(5000,5000),(6000,6000)]) ?_ (hle:=(klR [(2,.eq (.agg (Fa 33 (fun i=>(cA 33 (pI .u64) y1).getD i default))) (.agg (cA 33 (pI .u64) y1))),(4,.fn 33 33 (fun i=>[(fun i=>(cA 33 (pI .u64) y1).getD i default) i]) (fun i=>[pI .u64 (y1 i)])),(5,.fn 33 33 (fun i=>[(fun i=>(List.replicate 33 (pI .u64 0)).getD i default) i]) (fun i=>[pI .u64 ((fun _=>0) i)]))] (al1 (congrArg PV.agg (Bf9 (H0 33 (fun i=>pI .u64 (y1 i))))) (al1 ⟨rfl,(H0 33 (fun i=>pI .u64 (y1 i)))⟩ (al1 ⟨rfl,(Ed (z:=pI .u64 0) rfl)⟩ al0)))));refine kC hS h (Bq hS hL) (fun y2 h=>?_);obtain⟨y3,e3,h⟩:=B1 h;refine B6 hS [] (And.intro (And.intro rfl (I2 _ _):(0:Nat)=0/\(Fa 33 (fun i=>pI .u64 (y2 i))).length=33) (And.intro rfl (I2 _ _):(0:Nat)=0/\(Fa 33 (fun i=>pI .u64 (y1 i))).length=33)) (Gd hS hL e3) ?_;refine Da hS (And.intro rfl (I2 _ _):(0:Nat)=0/\(Fa 33 (fun i=>pI .u64 (y3 i))).length=33) ⟨[(8,(.reg 9000 0)),(7,(.reg 8000 0)),(6,(.reg 7000 0)),(4,(.reg 5000 0)),(2,(.reg 3000 0)),(1,(.p (vSl 2 A0 a)))],[(9000,(.arr 33 (fun i=>pI .u64 (y3 i)))),(8000,(.arr 33 (fun i=>pI .u64 (y1 i)))),(7000,(.arr 33 (fun i=>pI .u64 (y2 i)))),(5000,(.arr 33 (fun i=>pI .u64 ((fun _=>0) i)))),(3000,(.cells [(.p (KE p_x.of)),(pN p_x.min),(pN p_x.max)]))]⟩ (ids:=[(3000,3000),(5000,5000),(7000,7000),(8000,8000),(9000,9000)]) ?_ (hle:=(klR [(1,.fn 33 33 (fun i=>[(fun i=>(cA 33 (pI .u64) y3).getD i default) i]) (fun i=>[pI .u64 (y3 i)])),(2,.fn 33 33 (fun i=>[(fun i=>(cA 33 (pI .u64) y1).getD i default) i]) (fun i=>[pI .u64 (y1 i)])),(3,.fn 33 33 (fun i=>[(fun i=>(cA 33 (pI .u64) y2).getD i default) i]) (fun i=>[pI .u64 (y2 i)]))] (al1 ⟨rfl,(H0 33 (fun i=>pI .u64 (y3 i)))⟩ (al1 ⟨rfl,(H0 33 (fun i=>pI .u64 (y1 i)))⟩ (al1 ⟨rfl,(H0 33 (fun i=>pI .u64 (y2 i)))⟩ al0)))));obtain⟨y4,e4,h⟩:=B1 h;refine B6 hS [8000,9000] T3 (GR hS hL e4) ?_;apply kI hS h<;>intro h
 .refine kC hS h (Bq hS hL) (fun y5 h=>?_);refine Da hS (And.intro rfl (I2 _ _):(0:Nat)=0/\(Fa 33 (fun i=>pI .u64 (y5 i))).length=33) ⟨[(7,(.reg 8000 0)),(6,(.reg 7000 0)),(4,(.reg 5000 0))],[(8000,(.arr 33 (fun i=>pI .u64 (y5 i)))),(7000,(.arr 33 (fun i=>pI .u64 (y2 i)))),(5000,(.arr 33 (fun i=>pI .u64 ((fun _=>0) i))))]⟩ (ids:=[(5000,5000),(7000,7000),(8000,8000)]) ?_ (hle:=(klR [(0,.fn 33 33 (fun i=>[(fun i=>(cA 33 (pI .u64) y5).getD i default) i]) (fun i=>[pI .u64 (y5 i)]))] (al1 ⟨rfl,(H0 33 (fun i=>pI .u64 (y5 i)))⟩ al0)));obtain⟨y6,e6,h⟩:=B1 h;refine B6 hS [7000,8000] T3 (Y7 hS hL e6) ?_;obtain rfl:=C0 h;exact A8 hS (And.intro rfl (I2 _ _):(0:Nat)=0/\(Fa 33 (fun i=>pI .u64 (y6 i))).length=33) ⟨[(4,(.reg 5000 0))],[(5000,(.arr 33 (fun i=>pI .u64 (y6 i))))]⟩ [] (ids:=[(5000,5000)]) ⟨rfl,rfl,rfl⟩ (hle:=(klR [(0,.fn 33 33 (fun i=>[(fun i=>(cA 33 (pI .u64) y6).getD i default) i]) (fun i=>[pI .u64 (y6 i)]))] (al1 ⟨rfl,(H0 33 (fun i=>pI .u64 (y6 i)))⟩ al0)))
 refine kC hS h (Bq hS hL) (fun y7 h=>?_);refine Da hS (And.intro rfl (I2 _ _):(0:Nat)=0/\(Fa 33 (fun i=>pI .u64 (y7 i))).length=33) ⟨[(7,(.reg 8000 0)),(6,(.reg 7000 0)),(4,(.reg 5000 0))],[(8000,(.arr 33 (fun i=>pI .u64 (y7 i)))),(7000,(.arr 33 (fun i=>pI .u64 (y2 i)))),(5000,(.arr 33 (fun i=>pI .u64 ((fun _=>0) i))))]⟩ (ids:=[(5000,5000),(7000,7000),(8000,8000)]) ?_ (hle:=(klR [(0,.fn 33 33 (fun i=>[(fun i=>(cA 33 (pI .u64) y7).getD i default) i]) (fun i=>[pI .u64 (y7 i)]))] (al1 ⟨rfl,(H0 33 (fun i=>pI .u64 (y7 i)))⟩ al0)));obtain⟨y8,e8,h⟩:=B1 h;refine B6 hS [7000,8000] T3 (Y7 hS hL e8) ?_;obtain rfl:=C0 h;exact A8 hS (And.intro rfl (I2 _ _):(0:Nat)=0/\(Fa 33 (fun i=>pI .u64 (y8 i))).length=33) ⟨[(4,(.reg 5000 0))],[(5000,(.arr 33 (fun i=>pI .u64 (y8 i))))]⟩ [] (ids:=[(5000,5000)]) ⟨rfl,rfl,rfl⟩ (hle:=(klR [(0,.fn 33 33 (fun i=>[(fun i=>(cA 33 (pI .u64) y8).getD i default) i]) (fun i=>[pI .u64 (y8 i)]))] (al1 ⟨rfl,(H0 33 (fun i=>pI .u64 (y8 i)))⟩ al0)))
def AA (rec:Pat->Option Part)(N:Nat)(a:Pat):Option Part:= P9 N (fun b (x1:Sl Part) (x2:Int)=>if (decide (x2<(a.L.n:Int))) then if ((0:Int)<=x2/\x2<(a.L.n:Int))then (rec (a.L.g x2.toNat)).bind fun y3=>if ((x1.n+(Sl.of [y3]:Sl Part).n)*16<=140737488355328/\x1.n+(Sl.of [y3]:Sl Part).n<=140737488355328)then b (x1.push y3) (wrap .i64 (x2+1)) else none else none else if (a.Kind==1) then some (Part.sound a.Is a.Not) else if (a.Kind==2) then some (Part.edge false) else if (a.Kind==6) then some (Part.edge true) else if (a.Kind==4) then some (Part.alt x1.n x1.g) else if (a.Kind==5) then if (((0:Int)<=0/\0<(x1.n:Int))/\0<x1.n)then some (Part.rep (x1.g 0) a.Min a.Max) else none else some (Part.seq x1.n x1.g)) (Sl.nil:Sl Part) 0
def CC:Nat->Pat->Option Part
 |0=>fun _=>none
 |N+1=>AA (CC N) N
theorem Wp {rec:Pat->Option Part}(b:∀{a:Pat}{y:Part},rec a=some y->FunO S EA [.p (.agg (C4 a))] [] (.p (KE y)) ([]) []){a:Pat}{y:Part}(h:AA rec N a=some y) :FunO S EA [.p (.agg (C4 a))] [] (.p (KE y)) ([]) []:=by
 unfold AA at h;refine A1 hS Tryz.func218 ?_;refine D8 hS T3 2 2000 (C4 a) ?_;refine G9 hS T3 8 ⟨[(7,.p (vSl 7 C4 a.L)),(3,.p G6),(1,.p (.ptr (C4 a)))],[]⟩ (ids:=[]) ?_ (hle:=klR [(0,.fn a.L.n a.L.n (T1 a) (fun i=>C4 (a.L.g i)))] (al1 ⟨rfl,G8 a⟩ al0));refine D7 hS T3 h (fun x1 x2=>⟨[(9,pN x2),(8,pN (a.L.n:Int)),(7,.p (vSl 7 C4 a.L)),(3,.vec 4500),(1,.p (.ptr (C4 a)))],[(4500,.vec AO8 1 x1.n (fun i=>HN (x1.g i)) false)]⟩) (ids:=[]) (fun _ _ _ _ _ d x1 x2 f h=>?_);apply kI hS h<;>intro h
 .obtain⟨c6,h⟩:=C7 h;refine D8 hS (And.intro c6 (by decide:(7:Nat)<=7)) 13 6000 (C4 (a.L.g x2.toNat)) ?_;obtain⟨y3,e3,h⟩:=B1 h;refine B6 hS [] (by decide:(7:Nat)<=7) (b e3) ?_;obtain⟨c7,h⟩:=C7 h;exact f _ [(4500,18000)] _ (x1.push y3) (wrap .i64 (x2+1)) (And.intro (rfl:true=true) c7) h (hle:=klR [(4,.fn (x1.n+1) (x1.push y3).n (I4 x1.n (fun i=>HN (x1.g i)) (D0 [.v .nilIface] [(0,HN y3)])) (fun i=>HN ((x1.push y3).g i)))] (al1 ⟨rfl,W3 (c:=HN) (v:=x1) (x:=y3) (z:=[(.v .nilIface)]) same rfl rfl⟩ al0))
 apply kI hS h<;>intro h
 .obtain rfl:=C0 h;exact AN0 hS (by decide:(2:Nat)<=6) [] ⟨rfl,rfl,rfl⟩
 apply kI hS h<;>intro h
 .cases h;exact kR hS
 apply kI hS h<;>intro h
 .cases h;exact kR hS
 apply kI hS h<;>intro h
 .refine G9 hS T3 40 ⟨[(39,.p (vSl 1 HN x1))],[]⟩ (ids:=[]) ?_;cases h;exact kR hS
 apply kI hS h<;>intro h
 .refine C5 hS T3 [4,6] ?_;obtain⟨c13,h⟩:=C7 h;refine D9 c13 ?_;cases h;exact kR hS
 refine G9 hS T3 54 ⟨[(53,.p (vSl 1 HN x1))],[]⟩ (ids:=[]) ?_;cases h;exact kR hS
theorem Zx {a:Pat}{y:Part}(h:CC N a=some y) :FunO S EA [.p (.agg (C4 a))] [] (.p (KE y)) ([]) []:=by
 induction N generalizing a y with
 |zero=>cases (show (none:Option Part)=some y from h)
 |succ N ih=>exact Wp hS hL (fun e=>ih e) h
end Go.AM
namespace Go.AM
open Go.Proofs
variable {S:W1}(hS:H9 S Tryz.prog) (hL:GD S)
include hS hL
def CD:Nat->Part->Sl To->Option (Nat->Int)
 |0=>fun _ _=>none
 |N+1=>fun p w=>match p with
  |.nil=>none
  |.sound x no=>Br N ⟨x,no⟩ w
  |.edge e=>CB N ⟨e⟩ w
  |.seq n g=>Dv (CD N) N ⟨⟨n,g⟩⟩ w
  |.alt n g=>Dw (CD N) N ⟨⟨n,g⟩⟩ w
  |.rep o mn mx=>Dx (CD N) N ⟨o,mn,mx⟩ w
theorem Br6 {N:Nat}{x:Part}{w:Sl To}{y:Nat->Int}(h:CD N x w=some y):Cg6 S Tryz.prog (KE x) "ablaut/pats.in" [(.p (vSl 2 A0 w))] (.p (.agg (cA 33 (pI .u64) y))):=by
 induction N generalizing x w y with
 |zero=>cases h
 |succ N ih=>
  cases x with
  |nil=>cases h
  |sound s no=>exact⟨_,_,Ga,rfl,by kernel_rfl,Wo hS hL (p_x:=⟨s,no⟩) h⟩
  |edge e=>exact⟨_,_,Hm,rfl,by kernel_rfl,Zw hS hL (N:=N) (p_x:=⟨e⟩) h⟩
  |seq n g=>exact⟨_,_,Jb,rfl,by kernel_rfl,Ar5 hS hL (fun e=>ih e) (p_x:=⟨⟨n,g⟩⟩) h⟩
  |alt n g=>exact⟨_,_,IZ,rfl,by kernel_rfl,Ar6 hS hL (fun e=>ih e) (p_x:=⟨⟨n,g⟩⟩) h⟩
  |rep o mn mx=>exact⟨_,_,Ja,rfl,by kernel_rfl,Ar7 hS hL (fun e=>ih e) (p_x:=⟨o,mn,mx⟩) h⟩
end Go.AM
namespace Go.AM
variable {N:Nat}
open IntKind (wrap)
open Go.Proofs
set_option maxRecDepth 10000
set_option maxHeartbeats 2000000
variable {S:W1}(hS:H9 S Tryz.prog) (hL:GD S)
include hS hL
def Z4 (N:Nat)(a:To):Option Bool:= (U4 N a).bind fun y1=>some (!y1)
theorem Wq {a:To}{y:Bool}(h:Z4 N a=some y) :FunO S KL [.p (.agg (A0 a))] [] (pB y) ([]) []:=by unfold Z4 at h;refine A1 hS Tryz.func217 ?_;refine kC hS h (GQ hS hL) (fun y1 h=>?_);cases h;exact kR hS
def G5 (N:Nat)(a:Sl To)(c:To->Option Bool):Option Int:= T9 N (fun b (x1:Int)=>if (decide (x1<(a.n:Int))) then if ((0:Int)<=x1/\x1<(a.n:Int))then (c (a.g x1.toNat)).bind fun y3=>if y3 then some x1 else b (wrap .i64 (x1+1)) else none else some (-1)) 0
theorem Ba {a:Sl To}{c:To->Option Bool}{kp_f:Nat}(d:∀{a0:To}{b:Bool},c a0=some b->FunO S kp_f [.p (.agg (A0 a0))] [] (pB b) [] []){y:Int}(h:G5 N a c=some y) :FunO S P2 [.p (vSl 2 A0 a),.clo kp_f [] []] [] (pN y) ([]) []:=by
 unfold G5 at h;refine A1 hS Tryz.func132 ?_;refine E2 hS T3 h (fun x1=>⟨[(8,pN x1),(7,pN (a.n:Int)),(1,.clo kp_f [] []),(0,.p (vSl 2 A0 a))],[]⟩) (ids:=[]) (fun _ _ _ _ _ f x1 g h=>?_);apply kI hS h<;>intro h
 .obtain⟨c8,h⟩:=C7 h;obtain⟨y3,e3,h⟩:=B1 h;refine B6 hS [] (And.intro c8 (by decide:(2:Nat)<=2)) (d e3) ?_;apply kI hS h<;>intro h
  .cases h;exact kR hS
  exact g _ [] _ (wrap .i64 (x1+1)) T3 h
 cases h;exact kR hS
def D6 (N:Nat)(a:Sl To)(b:To->Option Bool):Option Bool:= (G5 N a b).bind fun y1=>some (decide (0<=y1))
theorem N7 {a:Sl To}{c:To->Option Bool}{kp_f:Nat}(d:∀{a0:To}{b:Bool},c a0=some b->FunO S kp_f [.p (.agg (A0 a0))] [] (pB b) [] []){y:Bool}(h:D6 N a c=some y) :FunO S N6 [.p (vSl 2 A0 a),.clo kp_f [] []] [] (pB y) ([]) []:=by unfold D6 at h;refine A1 hS Tryz.func108 ?_;refine kC hS h (Ba hS hL (fun e=>d e)) (fun y1 h=>?_);cases h;exact kR hS
def G0 (N:Nat)(q0:Sl Pat):Option (List (Int×Pat)):= T9 N (fun a (x1:Int)=>if (decide (0<=x1)) then if ((0:Int)<=x1/\x1<(q0.n:Int))then Be (x1,q0.g x1.toNat) (a (wrap .i64 (x1-1))) else none else some []) (wrap .i64 ((q0.n:Int)-1))
theorem BP {q0:Sl Pat}{L:List (Int×Pat)}(h:G0 N q0=some L) :IN S H3 [] [.reg 0 0] [.cells [.p (vSl 7 C4 q0)]] (L.map (fun (x:Int×Pat)=>[pI .i64 x.1,(fun x=>.agg (C4 x)) x.2])):=by
 unfold G0 at h;refine IT hS Tryz.func153 ?_;refine IS hS T3 h (fun x1 L1=>⟨[(3,pN x1),(1,.reg 0 0),(0,.yf 1)],[(1,.yld (L1.map (fun (x:Int×Pat)=>[pI .i64 x.1,(fun x=>.agg (C4 x)) x.2])) true),(0,.cells [.p (vSl 7 C4 q0)])]⟩) (ids:=[(0,0),(1,1)]) (fun _ _ _ _ _ d x1 L1 f h=>?_);apply kI hS h<;>intro h
 .obtain⟨c10,h⟩:=C7 h;obtain⟨L4,rfl,c⟩:=VD h;replace h:=c;refine FX hS (And.intro c10 (by decide:(7:Nat)<=7)) (ys:=(fun (x:Int×Pat)=>[pI .i64 x.1,(fun x=>.agg (C4 x)) x.2]) (x1,q0.g x1.toNat)) (rest:=L4.map (fun (x:Int×Pat)=>[pI .i64 x.1,(fun x=>.agg (C4 x)) x.2])) ?_ ?_
  .refine D1 hS T3 (b:=false) (fun c11=>?_) (fun c11=>?_)
   .exact Bool.noConfusion ((rfl:false=false).symm.trans c11)
   exact f _ [(0,0),(1,1)] _ (wrap .i64 (x1-1)) L4 T3 h
  refine D1 hS T3 (b:=true) (fun c12=>?_) (fun c12=>?_)
  .exact A8 hS T3 (a:=.tup []) (objs:=[(.cells [.p (vSl 7 C4 q0)]),.yld [] false]) ⟨[],[(1,.yld [] false),(0,.cells [.p (vSl 7 C4 q0)])]⟩ [0,1] (ids:=[(0,0),(1,1)]) ⟨false,rfl,rfl,_,rfl⟩
  exact Bool.noConfusion ((rfl:true=true).symm.trans c12)
 obtain rfl:=C0 h;exact A8 hS T3 (a:=.tup []) (objs:=[(.cells [.p (vSl 7 C4 q0)]),.yld [] true]) ⟨[],[(1,.yld [] true),(0,.cells [.p (vSl 7 C4 q0)])]⟩ [0,1] (ids:=[(0,0),(1,1)]) ⟨true,rfl,rfl,_,rfl⟩
def K9 (N:Nat)(a:Sl Pat):Option (Sl Pat):= some a
theorem CE {a:Sl Pat}{y:Sl Pat}(h:K9 N a=some y) :FunO S U2 [.p (vSl 7 C4 a)] [] (.clo H3 [] [.reg 0 0]) ([.cells [.p (vSl 7 C4 y)]]) []:=by unfold K9 at h;refine A1 hS Tryz.func131 ?_;obtain rfl:=C0 h;exact A8 hS T3 ⟨[(2,.clo H3 [] [.reg 2000 0])],[(2000,.cells [.p (vSl 7 C4 a)])]⟩ [2000] (ids:=[(2000,2000)]) ⟨rfl,rfl,rfl⟩
def Bs (N:Nat)(c:Pat):Option Int:= P9 N (fun a (x3:Sl Pat) (x4:Int)=>if (decide (0<(x3.n:Int))) then if (x4==40) then some 12 else if (((0:Int)<=(wrap .i64 ((x3.n:Int)-1))/\(wrap .i64 ((x3.n:Int)-1))<(x3.n:Int))/\(wrap .i64 ((x3.n:Int)-1)).toNat<x3.n)then if ((0:Int)<=(wrap .i64 ((x3.n:Int)-1))/\(wrap .i64 ((x3.n:Int)-1))<=(x3.n:Int))then (Cz N (x3.g (wrap .i64 ((x3.n:Int)-1)).toNat)).bind fun y5=>if (y5 != 0) then some y5 else if ((0:Int)<=(if 41<((x3.g (wrap .i64 ((x3.n:Int)-1)).toNat).L.n:Int)then 41 else ((x3.g (wrap .i64 ((x3.n:Int)-1)).toNat).L.n:Int))/\(if 41<((x3.g (wrap .i64 ((x3.n:Int)-1)).toNat).L.n:Int)then 41 else ((x3.g (wrap .i64 ((x3.n:Int)-1)).toNat).L.n:Int))<=((x3.g (wrap .i64 ((x3.n:Int)-1)).toNat).L.n:Int))then (K9 N ((x3.g (wrap .i64 ((x3.n:Int)-1)).toNat).L.take (if 41<((x3.g (wrap .i64 ((x3.n:Int)-1)).toNat).L.n:Int)then 41 else ((x3.g (wrap .i64 ((x3.n:Int)-1)).toNat).L.n:Int)).toNat)).bind fun y6=>(G0 N y6).bind fun L3=>Q5 L3 (fun b (x7:Int×Pat) (z3:Sl Pat)=>if ((((z3.n+(Sl.of [Pat.nil]:Sl Pat).n)*64<=140737488355328/\z3.n+(Sl.of [Pat.nil]:Sl Pat).n<=140737488355328)/\((0:Int)<=(z3.n:Int)/\(z3.n:Int)<((z3.push Pat.nil).n:Int)))/\(z3.n:Int).toNat<(z3.push Pat.nil).n)then b ((z3.push Pat.nil).upd (z3.n:Int).toNat x7.2) else none) (fun (z3:Sl Pat)=>a z3 (wrap .i64 (x4+1))) (x3.take (wrap .i64 ((x3.n:Int)-1)).toNat) else none else none else none else some 0) (Sl.of [c]:Sl Pat) 0
theorem KP {b:Pat}{y:Int}(h:Bs N b=some y) :FunO S SR [.p (.agg (C4 b))] [] (pN y) ([]) []:=by
 unfold Bs at h;refine A1 hS Tryz.func107 ?_;refine D8 hS T3 2 2000 (C4 b) ?_;refine D7 hS (And.intro (by decide:(7:Nat)<=7) (rfl:true=true)) h (fun x3 x4=>⟨[(4,pN x4),(3,.reg 4000 0)],[(4501,.vec HQ 7 x3.n (fun i=>C4 (x3.g i)) false),(4000,.cells [.vec 4501])]⟩) (ids:=[(4000,4000),(4501,12000)]) (fun _ _ _ _ _ d x3 x4 j h=>?_) (hle:=klR [(1,.fn 1 (Sl.of [b]:Sl Pat).n (D0 [pI .i64 0,pI .u32 0,pI .u32 0,.v (.bool false),pI .i64 0,pI .i64 0,G6] [(0,C4 b)]) (fun i=>C4 ((Sl.of [b]:Sl Pat).g i)))] (al1 ⟨rfl,(fun i m=>match i,m with|0,_=>rfl|_+1,m=>Kh m (by omega))⟩ al0));apply kI hS h<;>intro h
 .apply kI hS h<;>intro h
  .cases h;exact kR hS
  obtain⟨c21,h⟩:=C7 h;refine D8 hS (And.intro (And.intro c21.1 (by decide:(7:Nat)<=7)) c21.2) 25 6000 (C4 (x3.g (wrap .i64 ((x3.n:Int)-1)).toNat)) ?_;obtain⟨c22,h⟩:=C7 h;refine Cg7 hS c22 30 4501 (wrap .i64 ((x3.n:Int)-1)).toNat 4508 (e:=HQ) (k:=7) (N:=x3.n) (f:=fun i=>C4 (x3.g i)) (by have r:=c22;omega) ?_;obtain⟨y5,e7,h⟩:=B1 h;refine B6 hS [] (by decide:(7:Nat)<=7) (Zv hS hL e7) ?_;apply kI hS h<;>intro h
  .cases h;exact kR hS
  refine G9 hS T3 39 ⟨[(38,.p (vSl 7 C4 (x3.g (wrap .i64 ((x3.n:Int)-1)).toNat).L)),(36,.p (vSl 7 C4 (x3.g (wrap .i64 ((x3.n:Int)-1)).toNat).L)),(4,pN x4),(3,.reg 4000 0)],[(4508,.vec HQ 7 (x3.take (wrap .i64 ((x3.n:Int)-1)).toNat).n (fun i=>C4 ((x3.take (wrap .i64 ((x3.n:Int)-1)).toNat).g i)) false),(4000,.cells [.vec 4508])]⟩ (ids:=[(4000,4000),(4508,4508)]) ?_ (hle:=klR [(0,.fn (x3.g (wrap .i64 ((x3.n:Int)-1)).toNat).L.n (x3.g (wrap .i64 ((x3.n:Int)-1)).toNat).L.n (T1 (x3.g (wrap .i64 ((x3.n:Int)-1)).toNat)) (fun i=>C4 ((x3.g (wrap .i64 ((x3.n:Int)-1)).toNat).L.g i))),(1,.fn (x3.g (wrap .i64 ((x3.n:Int)-1)).toNat).L.n (x3.g (wrap .i64 ((x3.n:Int)-1)).toNat).L.n (T1 (x3.g (wrap .i64 ((x3.n:Int)-1)).toNat)) (fun i=>C4 ((x3.g (wrap .i64 ((x3.n:Int)-1)).toNat).L.g i)))] (al1 ⟨rfl,G8 (x3.g (wrap .i64 ((x3.n:Int)-1)).toNat)⟩ (al1 ⟨rfl,G8 (x3.g (wrap .i64 ((x3.n:Int)-1)).toNat)⟩ al0)));obtain⟨c24,h⟩:=C7 h;obtain⟨y6,e8,h⟩:=B1 h;refine B6 hS [] c24 (CE hS hL e8) ?_;obtain⟨L3,e9,h⟩:=B1 h;refine Hj hS T3 [44000] [4,3] 905 (fun z3=>⟨[(4,pN x4),(3,.reg 4000 0)],[(4500,.vec HQ 7 z3.n (fun i=>C4 (z3.g i)) false),(4000,.cells [.vec 4500])]⟩) (idl:=[(4000,4000),(4500,4508)]) h (BP hS hL e9) (fun _=>by kernel_rfl) (fun _=>by kernel_rfl) (fun _=>by kernel_rfl) (fun _=>by kernel_rfl) (fun x7 _ o z3 q h=>?_) (fun z3 h=>?_)
  .refine OC hS T3 ?_;refine Bq0 hS T3 10000 (C4 x7.2) ?_;refine Y6 hS T3 [(0,.l [4000]),(1,.n),(2,.l [4500]),(4,.a [51000,4500]),(5,.l [51000]),(6,.a [51000]),(7,.a [4000])] ?_;refine Aj (by decide:(7:Nat)<=7) (x:=.sl true 7 1 (D0 [pI .i64 0,pI .u32 0,pI .u32 0,.v (.bool false),pI .i64 0,pI .i64 0,G6] [(0,[pI .i64 0,pI .u32 0,pI .u32 0,.v (.bool false),pI .i64 0,pI .i64 0,G6])])) ?_;obtain⟨c27,h⟩:=C7 h;refine D9 (And.intro (And.intro c27.1.1 c27.1.2) (And.intro (rfl:(7:Nat)=7) (And.intro c27.2 (by decide:(7:Nat)<=7)))) ?_;exact q _ [(905,905),(4000,4000),(4500,51000)] _ ((z3.push Pat.nil).upd (z3.n:Int).toNat x7.2) T3 h (hle:=klR [(0,.fn (z3.n+1) ((z3.push Pat.nil).upd (z3.n:Int).toNat x7.2).n (fun l=>if l=(z3.n:Int).toNat then splice (I4 z3.n (fun i=>C4 (z3.g i)) (D0 [pI .i64 0,pI .u32 0,pI .u32 0,.v (.bool false),pI .i64 0,pI .i64 0,G6] [(0,[pI .i64 0,pI .u32 0,pI .u32 0,.v (.bool false),pI .i64 0,pI .i64 0,G6])]) l) 0 [pI .i64 x7.2.Kind,pI .u32 x7.2.Is.Plus,pI .u32 x7.2.Is.Minus,.bb x7.2.Not,pI .i64 x7.2.Min,pI .i64 x7.2.Max,.sl false 7 x7.2.L.n (T1 x7.2)]else (I4 z3.n (fun i=>C4 (z3.g i)) (D0 [pI .i64 0,pI .u32 0,pI .u32 0,.v (.bool false),pI .i64 0,pI .i64 0,G6] [(0,[pI .i64 0,pI .u32 0,pI .u32 0,.v (.bool false),pI .i64 0,pI .i64 0,G6])])) l) (fun i=>C4 (((z3.push Pat.nil).upd (z3.n:Int).toNat x7.2).g i)))] (al1 ⟨rfl,setH (c:=C4) (v:=z3.push Pat.nil) (x:=x7.2) (app1H (c:=C4) (v:=z3) (z:=Pat.nil) same rfl) (fun _=>by simp[I4,D0,splice])⟩ al0))
  exact j _ [(4000,4000),(4501,4500)] _ z3 (wrap .i64 (x4+1)) T3 h
 cases h;exact kR hS
def BQ (N:Nat)(b:Pat)(a:Sl To):Option ((Nat->Int)×Int):= (Bs N b).bind fun y1=>if (y1 != 0) then some (fun _=>0,y1) else if (decide (32<(a.n:Int))) then some (fun _=>0,11) else (D6 N a (fun (u1:To)=>Z4 N u1)).bind fun y2=>if y2 then some (fun _=>0,14) else (CC N b).bind fun y3=>(CD N y3 a).bind fun y4=>some (y4,0)
theorem PX {a:Pat}{b:Sl To}{y:(Nat->Int)×Int}(h:BQ N a b=some y) :FunO S PO [.p (.agg (C4 a)),.p (vSl 2 A0 b)] [] (.tup [.p (.agg (cA 33 (pI .u64) y.1)),pN y.2]) ([]) []:=by
 unfold BQ at h;refine A1 hS Tryz.func214 ?_;refine kC hS h (KP hS hL) (fun y1 h=>?_);apply kI hS h<;>intro h
 .obtain rfl:=C0 h;exact A8 hS (And.intro rfl (I2 _ _):(0:Nat)=0/\(Fa 33 (fun i=>pI .u64 ((fun _=>0) i))).length=33) ⟨[(5,pN y1),(4,.reg 5000 0)],[(5000,.arr 33 (fun i=>pI .u64 ((fun _=>0) i)))]⟩ [] (ids:=[(5000,5000)]) ⟨rfl,rfl,rfl⟩ (hle:=klR [(1,.fn 33 33 (fun i=>[(fun i=>(cA 33 (pI .u64) (fun _=>0)).getD i default) i]) (fun i=>[pI .u64 ((fun _=>0) i)]))] (al1 ⟨rfl,H0 33 (fun i=>pI .u64 ((fun _=>0) i))⟩ al0))
 apply kI hS h<;>intro h
 .obtain rfl:=C0 h;exact A8 hS (And.intro rfl (I2 _ _):(0:Nat)=0/\(Fa 33 (fun i=>pI .u64 ((fun _=>0) i))).length=33) ⟨[(5,pN 11),(4,.reg 5000 0)],[(5000,.arr 33 (fun i=>pI .u64 ((fun _=>0) i)))]⟩ [] (ids:=[(5000,5000)]) ⟨rfl,rfl,rfl⟩ (hle:=klR [(1,.fn 33 33 (fun i=>[(fun i=>(cA 33 (pI .u64) (fun _=>0)).getD i default) i]) (fun i=>[pI .u64 ((fun _=>0) i)]))] (al1 ⟨rfl,H0 33 (fun i=>pI .u64 ((fun _=>0) i))⟩ al0))
 refine kC hS h (N7 hS hL (fun e=>Wq hS hL e)) (fun y2 h=>?_);apply kI hS h<;>intro h
 .obtain rfl:=C0 h;exact A8 hS (And.intro rfl (I2 _ _):(0:Nat)=0/\(Fa 33 (fun i=>pI .u64 ((fun _=>0) i))).length=33) ⟨[(5,pN 14),(4,.reg 5000 0)],[(5000,.arr 33 (fun i=>pI .u64 ((fun _=>0) i)))]⟩ [] (ids:=[(5000,5000)]) ⟨rfl,rfl,rfl⟩ (hle:=klR [(1,.fn 33 33 (fun i=>[(fun i=>(cA 33 (pI .u64) (fun _=>0)).getD i default) i]) (fun i=>[pI .u64 ((fun _=>0) i)]))] (al1 ⟨rfl,H0 33 (fun i=>pI .u64 ((fun _=>0) i))⟩ al0))
 refine kC hS h (Zx hS hL) (fun y3 h=>?_);obtain⟨y4,e4,h⟩:=B1 h;refine UP hS T3 (Br6 hS hL e4) ?_;obtain rfl:=C0 h;exact A8 hS (And.intro rfl (I2 _ _):(0:Nat)=0/\(Fa 33 (fun i=>pI .u64 (y4 i))).length=33) ⟨[(5,pN 0),(4,.reg 5000 0)],[(5000,.arr 33 (fun i=>pI .u64 (y4 i)))]⟩ [] (ids:=[(5000,5000)]) ⟨rfl,rfl,rfl⟩ (hle:=klR [(1,.fn 33 33 (fun i=>[(fun i=>(cA 33 (pI .u64) y4).getD i default) i]) (fun i=>[pI .u64 (y4 i)]))] (al1 ⟨rfl,H0 33 (fun i=>pI .u64 (y4 i))⟩ al0))
def Dy (N:Nat)(d:Pat)(c:Sl To)(a:Int):Option ((Sl Int)×Int):= (BQ N d c).bind fun y1=>lt (fun (z1:Int)=>if (z1 != 0) then some ((Sl.nil:Sl Int),z1) else P9 N (fun b (x2:Sl Int) (x3:Int)=>if (decide (x3<(wrap .i64 ((c.n:Int)+1)))) then if ((((0:Int)<=x3/\x3<33)/\(0+x3.toNat*1)<33)/\(0:Int)<=a)then if ((E9 .and .u64 (shI .shr .u64 (y1.1 (0+x3.toNat*1)) a) 1)==1) then if ((x2.n+(Sl.of [x3]:Sl Int).n)*8<=140737488355328/\x2.n+(Sl.of [x3]:Sl Int).n<=140737488355328)then b (x2.push x3) (wrap .i64 (x3+1)) else none else b x2 (wrap .i64 (x3+1)) else none else some (x2,0)) (Sl.nil:Sl Int) 0) fun k1=>if (y1.2==0) then (BL N c a).bind fun y3=>k1 y3 else k1 y1.2
theorem Ar8 {f:Pat}{d:Sl To}{a:Int}{y:(Sl Int)×Int}(h:Dy N f d a=some y) :FunO S PN [.p (.agg (C4 f)),.p (vSl 2 A0 d),pN a] [] (.tup [.vec 0,pN y.2]) ([.vec B8 1 y.1.n (fun i=>cI .i64 (y.1.g i)) true]) []:=by
 unfold Dy at h;refine A1 hS Tryz.func210 ?_;refine kC hS h (PX hS hL) (fun y1 h=>?_);refine Ai hS (And.intro rfl (I2 _ _):(0:Nat)=0/\(Fa 33 (fun i=>pI .u64 (y1.1 i))).length=33) (A2 hS) h 0 (fun z1=>⟨[(9,pN z1),(8,.reg 9000 0),(2,pN a),(1,.p (vSl 2 A0 d))],[(9000,.arr 33 (fun i=>pI .u64 (y1.1 i)))]⟩) (fun M1 k1 j h=>?_) (fun z1 h=>?_)
 .apply kI hS h<;>intro h
  .refine kC hS h (PW hS hL) (fun y3 h=>?_);exact j _ [(9000,9000)] _ y3 T3 h (hle:=klR [(3,.fn 33 33 (fun i=>[(fun i=>(cA 33 (pI .u64) y1.1).getD i default) i]) (fun i=>[pI .u64 (y1.1 i)]))] (al1 ⟨rfl,H0 33 (fun i=>pI .u64 (y1.1 i))⟩ al0))
  exact j _ [(9000,9000)] _ y1.2 T3 h (hle:=klR [(3,.fn 33 33 (fun i=>[(fun i=>(cA 33 (pI .u64) y1.1).getD i default) i]) (fun i=>[pI .u64 (y1.1 i)]))] (al1 ⟨rfl,H0 33 (fun i=>pI .u64 (y1.1 i))⟩ al0))
 apply kI hS h<;>intro h
 .obtain rfl:=C0 h;exact A8 hS T3 ⟨[(7,pN z1),(6,.vec 7700)],[(7700,.vec B8 1 (Sl.nil:Sl Int).n (fun i=>cI .i64 ((Sl.nil:Sl Int).g i)) true)]⟩ [7700] (ids:=[]) ⟨rfl,rfl,rfl⟩
 refine D7 hS T3 h (fun x2 x3=>⟨[(29,pN x3),(28,pN (wrap .i64 ((d.n:Int)+1))),(10,.vec 11500),(8,.reg 9000 0),(2,pN a)],[(11500,.vec B8 1 x2.n (fun i=>cI .i64 (x2.g i)) false),(9000,.arr 33 (fun i=>pI .u64 (y1.1 i)))]⟩) (ids:=[(9000,9000)]) (fun _ _ _ _ _ m x2 x3 l h=>?_);apply kI hS h<;>intro h
 .obtain⟨c12,h⟩:=C7 h;refine D1 hS c12 (b:=(E9 .and .u64 (shI .shr .u64 (y1.1 (0+x3.toNat*1)) a) 1)==1) (fun c13=>?_) (fun c13=>?_)
  .replace h:=itT c13 h;obtain⟨c14,h⟩:=C7 h;exact l _ [(9000,9000),(11500,43000)] _ (x2.push x3) (wrap .i64 (x3+1)) (And.intro (rfl:true=true) c14) h (hle:=klR [(3,.fn (x2.n+1) (x2.push x3).n (I4 x2.n (fun i=>cI .i64 (x2.g i)) (D0 [pI .i64 0] [(0,cI .i64 x3)])) (fun i=>cI .i64 ((x2.push x3).g i)))] (al1 ⟨rfl,W3 (c:=cI .i64) (v:=x2) (x:=x3) (z:=[(pI .i64 0)]) same rfl rfl⟩ al0))
  replace h:=itF c13 h;exact l _ [(9000,9000),(11500,11500)] _ x2 (wrap .i64 (x3+1)) T3 h
 obtain rfl:=C0 h;exact A8 hS T3 ⟨[(7,pN 0),(6,.vec 11500)],[(11500,.vec B8 1 x2.n (fun i=>cI .i64 (x2.g i)) true)]⟩ [11500] (ids:=[(11500,11500)]) ⟨rfl,rfl,rfl⟩
def K4 (N:Nat)(a:List (Int)):Option (Sl Int):= Q5 a (fun b (x1:Int) (z1:Sl Int)=>if ((z1.n+(Sl.of [x1]:Sl Int).n)*8<=140737488355328/\z1.n+(Sl.of [x1]:Sl Int).n<=140737488355328)then b (z1.push x1) else none) (fun (z1:Sl Int)=>some z1) (Sl.nil:Sl Int)
theorem EP {b:List (Int)}{a:Int}{kp_seq:Nat}(fp_seq:∃fn,Cl1[kp_seq]? = some fn/\fn.body.isSome=true/\(fn.name == "runtime.NumGoroutine")=false)(d:IN S kp_seq [] [.reg 0 0] [(.cells [(.p (pI .u64 a))])] (b.map (fun (x:Int)=>[(pI .i64) x]))){y:(Sl Int)}(h:K4 N b=some y) :FunO S S5 [(.p G6),(.clo kp_seq [] [(.reg 0 0)])] [(.cells [(.p (pI .u64 a))])] (.vec 0) ([(.vec B8 1 y.n (fun i=>(cI .i64) (y.g i)) true)]) [false]:=by
 unfold K4 at h;refine A1 hS Tryz.func134 ?_;refine Ap1 hS T3 fp_seq [0] [2] 901 (fun z1=>⟨[(2,(.reg 3000 0))],[(3500,(.vec B8 1 z1.n (fun i=>(cI .i64) (z1.g i)) false)),(3000,(.cells [(.vec 3500)]))]⟩) (idl:=[(3000,3000)]) h d (fun _=>by kernel_rfl) (fun _=>by kernel_rfl) (fun _=>by kernel_rfl) (fun _=>by kernel_rfl) (fun x1 _ f z1 j h=>?_) (fun z1 h=>?_)
 .refine OC hS T3 ?_;obtain⟨c1,h⟩:=C7 h;exact j _ [(901,901),(3000,3000),(3500,12000)] _ (z1.push x1) (And.intro (rfl:true=true) c1) h (hle:=klR [(0,.fn (z1.n+1) (z1.push x1).n (I4 z1.n (fun i=>(cI .i64) (z1.g i)) (D0 [(pI .i64 0)] [(0,(cI .i64) x1)])) (fun i=>(cI .i64) ((z1.push x1).g i)))] (al1 ⟨rfl,(W3 (c:=(cI .i64)) (v:=z1) (x:=x1) (z:=[(pI .i64 0)]) same rfl rfl)⟩ al0))
 obtain rfl:=C0 h;exact A8 hS T3 ⟨[(4,(.vec 3500))],[(3500,(.vec B8 1 z1.n (fun i=>(cI .i64) (z1.g i)) true))]⟩ [3500] (ids:=[(3500,3500)]) ⟨rfl,rfl,rfl⟩
def R4 (N:Nat)(a:List (Int)):Option (Sl Int):= (K4 N a).bind fun y1=>some y1
theorem KQ {b:List (Int)}{a:Int}{kp_seq:Nat}(fp_seq:∃fn,Cl1[kp_seq]? = some fn/\fn.body.isSome=true/\(fn.name == "runtime.NumGoroutine")=false)(c:IN S kp_seq [] [.reg 0 0] [(.cells [(.p (pI .u64 a))])] (b.map (fun (x:Int)=>[(pI .i64) x]))){y:(Sl Int)}(h:R4 N b=some y) :FunO S Cj [(.clo kp_seq [] [(.reg 0 0)])] [(.cells [(.p (pI .u64 a))])] (.vec 0) ([(.vec B8 1 y.n (fun i=>(cI .i64) (y.g i)) true)]) [false]:=by unfold R4 at h;refine A1 hS Tryz.func111 ?_;obtain⟨y1,e1,h⟩:=B1 h;refine B6 hS [0] T3 (EP hS hL fp_seq c e1) ?_;obtain rfl:=C0 h;exact A8 hS T3 ⟨[(2,(.vec 5000))],[(5000,(.vec B8 1 y1.n (fun i=>(cI .i64) (y1.g i)) true))]⟩ [5000] (ids:=[(5000,5000)]) ⟨rfl,rfl,rfl⟩
def Ge (N:Nat)(c:Pat)(b:Sl To)(a:Int):Option ((Sl Int)×Int):= (BQ N c b).bind fun y1=>lt (fun (z1:Int)=>if (z1 != 0) then some ((Sl.nil:Sl Int),z1) else if (((0:Int)<=a/\a<33)/\(0+a.toNat*1)<33)then (CA N (y1.1 (0+a.toNat*1))).bind fun y4=>(W5 N y4).bind fun L1=>(R4 N L1).bind fun y5=>some (y5,0) else none) fun k1=>if (y1.2==0) then (BL N b a).bind fun y3=>k1 y3 else k1 y1.2
theorem AP6 {b:Pat}{c:Sl To}{a:Int}{y:(Sl Int)×Int}(h:Ge N b c a=some y) :FunO S Wd [.p (.agg (C4 b)),.p (vSl 2 A0 c),pN a] [] (.tup [.vec 0,pN y.2]) ([.vec B8 1 y.1.n (fun i=>cI .i64 (y.1.g i)) true]) []:=by
 unfold Ge at h;refine A1 hS Tryz.func211 ?_;refine kC hS h (PX hS hL) (fun y1 h=>?_);refine Ai hS (And.intro rfl (I2 _ _):(0:Nat)=0/\(Fa 33 (fun i=>pI .u64 (y1.1 i))).length=33) (A2 hS) h 0 (fun z1=>⟨[(9,pN z1),(8,.reg 9000 0),(2,pN a)],[(9000,.arr 33 (fun i=>pI .u64 (y1.1 i)))]⟩) (fun M1 k1 d h=>?_) (fun z1 h=>?_)
 .apply kI hS h<;>intro h
  .refine kC hS h (PW hS hL) (fun y3 h=>?_);exact d _ [(9000,9000)] _ y3 T3 h (hle:=klR [(2,.fn 33 33 (fun i=>[(fun i=>(cA 33 (pI .u64) y1.1).getD i default) i]) (fun i=>[pI .u64 (y1.1 i)]))] (al1 ⟨rfl,H0 33 (fun i=>pI .u64 (y1.1 i))⟩ al0))
  exact d _ [(9000,9000)] _ y1.2 T3 h (hle:=klR [(2,.fn 33 33 (fun i=>[(fun i=>(cA 33 (pI .u64) y1.1).getD i default) i]) (fun i=>[pI .u64 (y1.1 i)]))] (al1 ⟨rfl,H0 33 (fun i=>pI .u64 (y1.1 i))⟩ al0))
 apply kI hS h<;>intro h
 .obtain rfl:=C0 h;exact A8 hS T3 ⟨[(7,pN z1),(6,.vec 7700)],[(7700,.vec B8 1 (Sl.nil:Sl Int).n (fun i=>cI .i64 ((Sl.nil:Sl Int).g i)) true)]⟩ [7700] (ids:=[]) ⟨rfl,rfl,rfl⟩
 obtain⟨c5,h⟩:=C7 h;obtain⟨y4,e4,h⟩:=B1 h;refine B6 hS [] c5 (Ho hS hL e4) ?_;obtain⟨L1,e5,h⟩:=B1 h;obtain⟨y5,e6,h⟩:=B1 h;refine B6 hS [28000] T3 (KQ hS hL ⟨_,Tryz.func219,by decide +kernel,by decide +kernel⟩ (Fc hS hL e5) e6) ?_;obtain rfl:=C0 h;exact A8 hS T3 ⟨[(7,pN 0),(6,.vec 29000)],[(29000,.vec B8 1 y5.n (fun i=>cI .i64 (y5.g i)) true)]⟩ [29000] (ids:=[(29000,29000)]) ⟨rfl,rfl,rfl⟩
end Go.AM
