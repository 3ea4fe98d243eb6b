/- Part 5. -/
import Derived.Test.YtlbooedblpdmaaaGreatDoorED
import Derived.Test.YtlbooedblpdmaaaGreatDoorEC
import Derived.RecoverIn
import Derived.Test.YtlbooedblpdmaaaGreatDoorProg
import Derived.Lib.SlTrimSet
import Derived.TacticsInMore
set_option linter.defProp false
set_option linter.unusedSimpArgs false
set_option linter.unusedVariables false
set_option linter.unusedSectionVars false
namespace Go.AM
abbrev Sh:Sl Int:=Sl.nil
def Rp:true=true:=rfl
def Ri:(7:Nat)<=7:=by decide
def Q6:(2:Nat)<=2:=by decide
noncomputable abbrev Bm1:=Go.Proofs.Tryz.prog.funcs
def Bo2:=@BitVec.getLsbD_and
def Bq0:=@Bool.eq_iff_iff
def Bs2:=@BitVec.eq_of_getLsbD_eq
def BB9:=@BitVec.getLsbD_ushiftRight
def BC0:=@BitVec.getLsbD_one
def BC7:=@BitVec.getLsbD_shiftLeft
def BD8:=@BitVec.getLsbD_setWidth
def BE8:=@BitVec.getLsbD_ofBool
def BG8:=@BitVec.toNat_ofNat
def As7 (D:List Deferred)(a:Act):Act:={ a with defers:=a.defers++D }
theorem Fy (D:List Deferred)(a:Act)(d:Option Tmp)(v:Value):(As7 D a).put d v=As7 D (a.put d v):=by cases d<;>rfl
theorem Jy {F:Fence}{n:Nat}{P:Program}{ops:Array Oper}{Q:Exit->Act->World->Prop}(D:List Deferred):∀(l:List Nat) (a:Act) (w:World),wpOpsIn F n P ops Q l a w ->
 wpOpsIn F n P ops (fun e a' w'=>∃a0,a' = As7 D a0/\Q e a0 w') l (As7 D a) w
 |[],a,w,h=>⟨a,rfl,h⟩
 |i::l,a,w,h=>by
  have ih:=Jy (F:=F) (n:=n) (P:=P) (ops:=ops) (Q:=Q) D l;simp only[wpOpsIn]at h⊢;have e1:(As7 D a).eval=a.eval:=by funext x;cases x<;>rfl
  have e2:(As7 D a).tmps=a.tmps:=rfl;cases j:ops[i]? with
  |none=>simp only[j]at h⊢;exact ih a w h
  |some o=>
   simp only[j]at h⊢;rw[e2,e1];by_cases hw:Region.wanted o (yielded ops a.tmps)=true
   .rw[Pk hw]at h⊢;refine⟨by rw[e1];exact h.1,?_⟩;have b:=h.2;rw[e1];generalize (o.semAt F.round a.eval).run P w=r at b;unfold Oper.uponIn at b⊢;split at b
    .rw[Fy];exact ih _ _ b
    .rw[Fy];exact ih _ _ b
    .exact ih _ _ b |> fun x=>by
      rename_i d w'
      have:({ (As7 D a)with defers:=d::(As7 D a).defers }:Act).put o.dst undef=As7 D (({ a with defers:=d::a.defers }:Act).put o.dst undef):=by rw[<- Fy];rfl
      rw[this];exact x
    .refine⟨b.1,b.2.mono ?_⟩;intro e w' f;cases e with
     |returned v=>have:=ih _ _ f;rw[<- Fy]at this;exact this
     |panicked ch=>exact⟨a,rfl,f⟩
     |outgrown=>obtain⟨a1,w1,g⟩:=f;exact⟨As7 D a1,w1,a1,rfl,g⟩
    .refine⟨b.1,fun c cs m=>?_⟩;obtain⟨v,w',g1,g2⟩:=b.2 c cs m;exact⟨v,w',by have:=ih _ _ g1;rw[<- Fy]at this;exact this,g2⟩
    .refine⟨b.1,b.2.mono ?_⟩;intro e w' f;cases e with
     |returned v=>have:=ih _ _ f;rw[<- Fy]at this;exact this
     |panicked ch=>exact⟨a,rfl,f⟩
     |outgrown=>obtain⟨a1,w1,g⟩:=f;exact⟨As7 D a1,w1,a1,rfl,g⟩
    .exact⟨a,rfl,b⟩
    exact b.elim
   rw[Pl hw]at h⊢;rw[Fy];exact⟨h.1,ih _ _ h.2⟩
section
variable {P:Program}{C:Ctx}{st:St}{rho:Nat->Value}
theorem Fz {fn:Func}{R:Ending->World->Prop}{u:FrameMode}(c:u ≠ .run){tmps:Array Value}{D:List Deferred}(b:∀a w,Sat C st a w rho->a.tmps=tmps->LeavesInM Fence.wide 0 P fn tmps R D u w) :∀(ds:List Deferred) (a:Act) (w:World),a.defers=ds->a.tmps=tmps->Sat C st a w rho->LeavesInM Fence.wide 0 P fn tmps R (ds++D) u w
 |[],a,w,hd,ht,h=>b a w h ht
 |d::ds,a,w,hd,ht,h=>by obtain⟨r,w',h1,f,g⟩:=h.unmark hd;exact⟨c,.inl ⟨r,w',h1,f,Fz c b ds { a with defers:=ds } w' rfl ht g⟩⟩
end
end Go.AM
namespace Go.AM
structure J4 where
 Parent:Int
 Name:Str
 deriving Inhabited,DecidableEq
abbrev G5 (x:J4):List PV:=[(pI .i64 x.Parent),.str x.Name]
structure Sm where
 Plus:Int
 Minus:Int
 deriving Inhabited,DecidableEq
abbrev A0 (x:Sm):List PV:=[(pI .u32 x.Plus),pI .u32 x.Minus]
inductive Pat where
 |nil
 |mk (Kind:Int) (Is:Sm) (Not:Bool) (Min:Int) (Max:Int) (n:Nat) (g:Nat->Pat)
instance:Inhabited Pat:=⟨.nil⟩
def Pat.Kind:Pat->Int
 |.nil=>0
 |.mk x _ _ _ _ _ _=>x
def Pat.Is:Pat->Sm
 |.nil=>default
 |.mk _ x _ _ _ _ _=>x
def Pat.Not:Pat->Bool
 |.nil=>false
 |.mk _ _ x _ _ _ _=>x
def Pat.Min:Pat->Int
 |.nil=>0
 |.mk _ _ _ x _ _ _=>x
def Pat.Max:Pat->Int
 |.nil=>0
 |.mk _ _ _ _ x _ _=>x
def Pat.L:Pat->Sl Pat
 |.nil=>⟨0,fun _=>.nil⟩
 |.mk _ _ _ _ _ n g=>⟨n,g⟩
def Bt:Pat->Nat->List PV
 |.nil=>fun _=>[]
 |.mk _ _ _ _ _ n g=>fun i=>[(pI .i64 (g i).Kind),pI .u32 (g i).Is.Plus,pI .u32 (g i).Is.Minus,.bb (g i).Not,pI .i64 (g i).Min,pI .i64 (g i).Max,.sl false 7 (g i).L.n (Bt (g i))]
abbrev D2 (x:Pat):List PV:=[(pI .i64 x.Kind),pI .u32 x.Is.Plus,pI .u32 x.Is.Minus,.bb x.Not,pI .i64 x.Min,pI .i64 x.Max,.sl false 7 x.L.n (Bt x)]
def R6 (x:Pat):∀i,i<x.L.n->Bt x i=D2 (x.L.g i):=by
 cases x with
 |nil=>intro i a;exact Pm (show i<0 from a) (by omega)
 |mk Kind Is Not Min Max n g=>exact fun _ _=>rfl
structure FS where
 From:Int
 Clear:Int
 Set:Sm
 Take:Int
 Of:Int
 deriving Inhabited,DecidableEq
abbrev Ax (x:FS):List PV:=[(pI .i64 x.From),pI .u32 x.Clear,pI .u32 x.Set.Plus,pI .u32 x.Set.Minus,pI .u32 x.Take,pI .i64 x.Of]
structure Law where
 Name:Str
 Left:Pat
 Right:Pat
 If:(Sl Sm)
 Out:(Sl FS)
 Mode:Int
 deriving Inhabited
abbrev B5 (x:Law):List PV:=[(.str x.Name),pI .i64 x.Left.Kind,pI .u32 x.Left.Is.Plus,pI .u32 x.Left.Is.Minus,.bb x.Left.Not,pI .i64 x.Left.Min,pI .i64 x.Left.Max,.sl false 7 x.Left.L.n (Bt x.Left),pI .i64 x.Right.Kind,pI .u32 x.Right.Is.Plus,pI .u32 x.Right.Is.Minus,.bb x.Right.Not,pI .i64 x.Right.Min,pI .i64 x.Right.Max,.sl false 7 x.Right.L.n (Bt x.Right),vSl 2 A0 x.If,vSl 6 Ax x.Out,pI .i64 x.Mode]
structure A6 where
 Tree:(Sl J4)
 Laws:(Sl Law)
 On:(Sl (Sl Int))
 deriving Inhabited
abbrev A7 (x:A6):List PV:=[(vSl 2 G5 x.Tree),vSl 18 B5 x.Laws,vSl 1 (cL 1 (cI .i64)) x.On]
structure Bb5 where
 N:Int
 D:Int
 deriving Inhabited,DecidableEq
abbrev Bh7 (x:Bb5):List PV:=[(pI .i64 x.N),pI .i64 x.D]
structure F0 where
 Has:Bool
 W:(Sl Sm)
 deriving Inhabited
abbrev C0 (x:F0):List PV:=[(.bb x.Has),vSl 2 A0 x.W]
structure Entry where
 Gloss:Str
 Forms:(Sl F0)
 deriving Inhabited
abbrev B2 (x:Entry):List PV:=[(.str x.Gloss),vSl 2 C0 x.Forms]
structure A1 where
 Entry:Int
 Leaf:Int
 Kind:Int
 Cost:Int
 deriving Inhabited,DecidableEq
abbrev A4 (x:A1):List PV:=[(pI .i64 x.Entry),pI .i64 x.Leaf,pI .i64 x.Kind,pI .i64 x.Cost]
structure J5 where
 entry:Int
 leaf:Int
 deriving Inhabited,DecidableEq
abbrev AA (x:J5):List PV:=[(pI .i64 x.entry),pI .i64 x.leaf]
inductive Part where
 |nil
 |sound (x:Sm) (no:Bool)
 |edge (e:Bool)
 |seq (n:Nat) (g:Nat->Part)
 |alt (n:Nat) (g:Nat->Part)
 |rep (o:Part) (mn mx:Int)
instance:Inhabited Part:=⟨.nil⟩
def Part.t:Part->Nat
 |.nil=>0
 |.sound _ _=>248
 |.edge _=>250
 |.seq _ _=>255
 |.alt _ _=>252
 |.rep _ _ _=>254
def Part.v:Part->PV
 |.nil=>.bb false
 |.sound x no=>.agg [pI .u32 x.Plus,pI .u32 x.Minus,.bb no]
 |.edge e=>.agg [.bb e]
 |.seq n g=>.agg [.sl false 1 n fun i=>[.iface (g i).t (g i).v]]
 |.alt n g=>.agg [.sl false 1 n fun i=>[.iface (g i).t (g i).v]]
 |.rep o mn mx=>.agg [.iface o.t o.v,pI .i64 mn,pI .i64 mx]
abbrev GF (x:Part):PV:=.iface x.t x.v
abbrev EZ (x:Part):List PV:=[GF x]
structure As8 where
 is:Sm
 not:Bool
 deriving Inhabited,DecidableEq
abbrev ZB (x:As8):List PV:=[(pI .u32 x.is.Plus),pI .u32 x.is.Minus,.bb x.not]
structure AW1 where
 end_:Bool
 deriving Inhabited,DecidableEq
abbrev AW2 (x:AW1):List PV:=[(.bb x.end_)]
structure Palt where
 l:(Sl Part)
 deriving Inhabited
abbrev Bh8 (x:Palt):List PV:=[(vSl 1 EZ x.l)]
structure Bh9 where
 of:Part
 min:Int
 max:Int
 deriving Inhabited
abbrev Bi0 (x:Bh9):List PV:=[(GF x.of),pI .i64 x.min,pI .i64 x.max]
structure Pseq where
 l:(Sl Part)
 deriving Inhabited
abbrev Bi1 (x:Pseq):List PV:=[(vSl 1 EZ x.l)]
end Go.AM
namespace Go.AM
open Go.Proofs
abbrev NN:Nat:=14
abbrev NO:Nat:=15
abbrev NP:Nat:=16
abbrev Lw:Nat:=17
abbrev Jz:Nat:=19
abbrev HS:Nat:=21
abbrev QJ:Nat:=23
abbrev HT:Nat:=24
abbrev JA:Nat:=26
abbrev JB:Nat:=27
abbrev Fa:Nat:=33
abbrev JC:Nat:=35
abbrev JD:Nat:=37
abbrev JE:Nat:=38
abbrev QK:Nat:=39
abbrev As9:Nat:=40
abbrev At0:Nat:=41
abbrev At1:Nat:=42
abbrev NQ:Nat:=43
abbrev Lx:Nat:=45
abbrev GG:Nat:=46
abbrev Ly:Nat:=47
abbrev QL:Nat:=48
abbrev FY:Nat:=49
abbrev Fb:Nat:=50
abbrev HU:Nat:=54
abbrev FZ:Nat:=55
abbrev HV:Nat:=56
abbrev H4:Nat:=63
abbrev Q1:Nat:=64
abbrev Lz:Nat:=65
abbrev JF:Nat:=66
abbrev At2:Nat:=67
abbrev At3:Nat:=68
abbrev GH:Nat:=72
abbrev O4:Nat:=74
abbrev NT:Nat:=75
abbrev GI:Nat:=76
abbrev LA:Nat:=77
abbrev FA:Nat:=78
abbrev NV:Nat:=79
abbrev D1:Nat:=80
abbrev LB:Nat:=81
abbrev V2:Nat:=82
abbrev NW:Nat:=83
abbrev K4:Nat:=86
abbrev Ga:Nat:=87
abbrev HW:Nat:=88
abbrev I1:Nat:=95
abbrev LC:Nat:=96
abbrev GJ:Nat:=97
abbrev HX:Nat:=99
abbrev Gb:Nat:=100
abbrev JH:Nat:=102
abbrev QM:Nat:=103
abbrev JI:Nat:=104
abbrev JJ:Nat:=105
abbrev NY:Nat:=106
abbrev LD:Nat:=107
abbrev J7:Nat:=108
abbrev N2:Nat:=109
abbrev LF:Nat:=110
abbrev AC:Nat:=111
abbrev UY:Nat:=112
abbrev Z1:Nat:=113
abbrev N6:Nat:=116
abbrev JK:Nat:=121
abbrev HY:Nat:=122
abbrev K0:Nat:=123
abbrev U0:Nat:=124
abbrev I9:Nat:=125
abbrev O5:Nat:=127
abbrev Es:Nat:=129
abbrev HZ:Nat:=130
abbrev P2:Nat:=131
abbrev M0:Nat:=132
abbrev O6:Nat:=133
abbrev O3:Nat:=134
abbrev FB:Nat:=135
abbrev Hi:Nat:=140
abbrev N3:Nat:=142
abbrev Gd:Nat:=143
abbrev Ia:Nat:=144
abbrev LG:Nat:=152
abbrev F3:Nat:=153
abbrev O7:Nat:=156
abbrev Q8:Nat:=157
abbrev Oa:Nat:=158
abbrev Ob:Nat:=167
abbrev Oc:Nat:=174
abbrev Va:Nat:=175
abbrev FC:Nat:=185
abbrev QN:Nat:=186
abbrev O0:Nat:=187
abbrev Vb:Nat:=188
abbrev Vc:Nat:=189
abbrev JL:Nat:=190
abbrev Ea:Nat:=196
abbrev LH:Nat:=197
abbrev Fc:Nat:=198
abbrev I6:Nat:=199
abbrev Ib:Nat:=200
abbrev LI:Nat:=201
abbrev W4:Nat:=209
abbrev JM:Nat:=210
abbrev Od:Nat:=211
abbrev Oe:Nat:=212
abbrev Og:Nat:=213
abbrev JN:Nat:=214
abbrev JO:Nat:=215
abbrev Ic:Nat:=216
abbrev GL:Nat:=217
abbrev Cs:Nat:=218
abbrev Be:Nat:=219
abbrev Q2:Nat:=220
abbrev Cy:Nat:=236
abbrev DE:Nat:=237
abbrev Et:Nat:=238
abbrev FD:Nat:=239
abbrev Eb:Nat:=240
abbrev FE:Nat:=241
abbrev GN:Nat:=242
abbrev AG:Nat:=243
abbrev FF:Nat:=244
abbrev C7:Nat:=3
abbrev ZC:Nat:=4
abbrev Ok:Nat:=5
abbrev Ct:Nat:=9
abbrev Ec:Nat:=23
abbrev SB:Nat:=26
abbrev Ai5:Nat:=37
abbrev SD:Nat:=43
abbrev IF:Nat:=49
abbrev B4:Nat:=51
abbrev B1:Nat:=56
abbrev Ck:Nat:=68
abbrev B8:Nat:=72
abbrev GO:Nat:=87
abbrev K8:Nat:=90
abbrev W5:Nat:=97
abbrev KM:Nat:=112
abbrev B0:Nat:=128
abbrev At8:Nat:=142
abbrev XL:Nat:=242
end Go.AM
namespace Go.AM
open IntKind (wrap)
abbrev U (x:BitVec 64):Int:=(x.toNat:Int)
def JQ {n:Nat}(h:n<2 ^ 64):IntKind.u64.wrap (n:Int)=n:=by have h1:((n:Int) % (2 ^ 64:Int))=n:=Bx6 (by omega) (by omega);unfold wrap;simp only[IntKind.bits,IntKind.signed,h1,Bv7,Bn1,Po]
def XM (x:BitVec 64):BitVec.ofInt 64 (U x)=x:=by
 apply Bq2;rw[BG4]
 have:=x.isLt
 show ((x.toNat:Int) % ((2 ^ 64:Nat):Int)).toNat=x.toNat;omega
def and64 (x y:BitVec 64):F4 .and .u64 (U x) (U y)=U (x &&& y):=by simp only[F4,IntKind.bits,XM];exact JQ (x &&& y).isLt
def Bl8 (x y:BitVec 64):F4 .or .u64 (U x) (U y)=U (x ||| y):=by simp only[F4,IntKind.bits,XM];exact JQ (x ||| y).isLt
def AH8 (x y:BitVec 64):F4 .andNot .u64 (U x) (U y)=U (x &&& ~~~ y):=by simp only[F4,IntKind.bits,XM];exact JQ (x &&& ~~~ y).isLt
def shr64 (x:BitVec 64)(n:Nat):shI .shr .u64 (U x) n=U (x >>> n):=by
 simp only[shI,IntKind.bits,Bm2];have hx:=x.isLt;show Int.fdiv (x.toNat:Int) (2 ^ min n 64)=((x >>> n).toNat:Int);rw[Bw4,Bv8];have e:((2:Int) ^ (min n 64))=((2 ^ (min n 64):Nat):Int):=by norm_cast
 rw[e,BB8 _ (BG5 _),<- Int.natCast_ediv];congr 1;by_cases h:n<=64
 .rw[Bu1 h]
 rw[BA4 (by omega),Bu7 hx,Bu7];exact Bo7 hx (Bw0 (by omega) (by omega))
def Bi2:(1:Int)=U 1#64:=rfl
def Vg (n:Nat)(h:n<64):shI .shl .u64 1 n=U (1#64 <<< n):=by
 simp only[shI,IntKind.bits,Bm2];rw[Bu1 (by omega)];show wrap .u64 (1*2 ^ n)=((1#64 <<< n).toNat:Int);rw[BE3,Nat.shiftLeft_eq];have h1:(2:Nat) ^ n<2 ^ 64:=Nat.pow_lt_pow_right (by omega) h;have e:((1:Int)*2 ^ n)=((2 ^ n:Nat):Int):=by norm_cast;omega
 rw[e,JQ h1]
 norm_cast
 rw[Bv4]
 .simp
 simpa using h1
def XN {i:Nat}:(1#64).getLsbD i=decide (i=0):=by rw[BC0];simp
def GP {n i:Nat}(h:n<64)(a:i<64):(1#64 <<< n).getLsbD i=decide (i=n):=by rw[BC7,XN,Bq0];simp only[Bm8,Bp6,decide_eq_true_eq,decide_eq_false_iff_not];omega
def bit64 (x:BitVec 64)(i:Nat):(F4 .and .u64 (shI .shr .u64 (U x) (i:Int)) 1==1)=x.getLsbD i:=by
 rw[shr64,Bi2,and64];have h:(x >>> i &&& 1#64)=(BitVec.ofBool (x.getLsbD i)).setWidth 64:=by
  apply Bs2;intro j b;simp only[Bo2,BB9,BD8,BE8];by_cases a:j=0
  .subst a;simp
  have:(1#64).getLsbD j=false:=by rw[XN];simp[a]
  simp[this,a]
 rw[h];cases x.getLsbD i<;>rfl
def AH9 {x y:BitVec 64}(h:∀b,b<64->(x.getLsbD b=true↔y.getLsbD b=true)):x=y:=
 Bs2 fun b hb=>Bq0.2 (h b hb)
def Id (n:Nat)(R:Nat->Nat->Prop):Nat->Nat->Nat->Prop
 |0=>fun a b=>a=b
 |k+1=>fun a b=>∃c,c<=n/\Id n R k a c/\R c b
def Ai6 (n:Nat)(Q:Nat->Nat->Nat->Prop):Nat->Nat->Nat->Prop
 |0=>fun a b=>a=b
 |i+1=>fun a b=>∃c,c<=n/\Ai6 n Q i a c/\Q i c b
def Fwd (n:Nat)(R:Nat->Nat->Prop):Prop:=∀a b,a<=n->R a b->a<=b/\b<=n
def JR {n:Nat}{R:Nat->Nat->Prop}(h:Fwd n R):∀k,Fwd n (Id n R k)
 |0,a,b,ha,hb=>by obtain rfl:a=b:=hb;exact⟨Bm9 _,ha⟩
 |k+1,a,b,ha,⟨c,hc,h1,h2⟩=>by have g1:=JR h k a c ha h1;have g2:=h c b hc h2;exact⟨by omega,g2.2⟩
def ZD {n:Nat}{Q:Nat->Nat->Nat->Prop}:∀k,(∀i,i<k->Fwd n (Q i))->Fwd n (Ai6 n Q k)
 |0,_,a,b,ha,hb=>by obtain rfl:a=b:=hb;exact⟨Bm9 _,ha⟩
 |k+1,h,a,b,ha,⟨c,hc,h1,h2⟩=>by have g1:=ZD k (fun i d=>h i (by omega)) a c ha h1;have g2:=h k (by omega) c b hc h2;exact⟨by omega,g2.2⟩
def Ed {n:Nat}{R:Nat->Nat->Prop}(h:Fwd n R)(j:Nat){a:Nat}(ha:a<=n):∀k b,Id n R (j+k) a b ↔ ∃c,c<=n/\Id n R j a c/\Id n R k c b
 |0,b=>⟨fun hp=>⟨b,(JR h j a b ha hp).2,hp,rfl⟩,fun⟨c,_,hp,e⟩=>by obtain rfl:c=b:=e;exact hp⟩
 |k+1,b=>by
  constructor
  .rintro⟨d,f,h1,g⟩;obtain⟨c,hc,g1,g2⟩:=(Ed h j ha k d).1 h1;exact⟨c,hc,g1,d,f,g2,g⟩
  rintro⟨c,hc,g1,d,f,g2,g⟩;exact⟨d,f,(Ed h j ha k d).2 ⟨c,hc,g1,g2⟩,g⟩
def QO {n:Nat}{R:Nat->Nat->Prop}(h:Fwd n R){a:Nat}(ha:a<=n):∀k b,Id n R (k+1) a b->Id n R k a b \/ a+(k+1)<=b
 |0,b,⟨c,hc,h1,h2⟩=>by
  obtain rfl:a=c:=h1;by_cases e:a=b
  .exact .inl e
  have:=(h a b ha h2).1;exact .inr (by omega)
 |k+1,b,⟨c,hc,h1,h2⟩=>by
  by_cases e:c=b
  .subst e;exact .inl h1
  have:=(h c b hc h2).1
  rcases QO h ha k c h1 with g|g
  .exact .inl ⟨c,hc,g,h2⟩
  exact .inr (by omega)
def Vh {n:Nat}{R:Nat->Nat->Prop}(h:Fwd n R){a:Nat}(ha:a<=n){k b:Nat}(hk:n<=k)(hp:Id n R (k+1) a b):Id n R k a b:=by
 rcases QO h ha k b hp with g|g
 .exact g
 have:=(JR h (k+1) a b ha hp).2;omega
def Vi {n:Nat}{R:Nat->Nat->Prop}(h:Fwd n R){a:Nat}(ha:a<=n){b:Nat}:∀k,Id n R k a b->∃j,j<=n/\Id n R j a b
 |0,hp=>⟨0,Bu8 _,hp⟩
 |k+1,hp=>by
  by_cases hk:n<=k
  .exact Vi h ha k (Vh h ha hk hp)
  exact⟨k+1,by omega,hp⟩
def Ol {n:Nat}{R:Nat->Nat->Prop}(h:Fwd n R){a:Nat}(ha:a<=n):∀k b,Id n (fun x y=>R x y \/ x=y) k a b ↔ ∃j,j<=k/\Id n R j a b
 |0,b=>⟨fun e=>⟨0,Bm9 _,e⟩,fun⟨j,f,hp⟩=>by
  obtain rfl:j=0:=by omega
  exact hp⟩
 |k+1,b=>by
  constructor
  .rintro⟨c,hc,h1,d⟩;obtain⟨j,f,hp⟩:=(Ol h ha k c).1 h1;rcases d with d|d
   .exact⟨j+1,by omega,c,hc,hp,d⟩
   subst d;exact⟨j,by omega,hp⟩
  rintro⟨j,f,hp⟩;by_cases e:j<=k
  .have hb:=(JR h j a b ha hp).2;exact⟨b,hb,(Ol h ha k b).2 ⟨j,e,hp⟩,.inr rfl⟩
  obtain rfl:j=k+1:=by omega
  obtain⟨c,hc,h1,d⟩:=hp;exact⟨c,hc,(Ol h ha k c).2 ⟨k,Bm9 _,h1⟩,.inl d⟩
def XO (s c:Sm):Bool:=(F4 .and .u32 s.Plus c.Plus==c.Plus)&&(F4 .and .u32 s.Minus c.Minus==c.Minus)
def PR (w:Sl Sm):Pat->Nat->Nat->Prop
 |.nil=>fun a b=>a=b
 |.mk kind is no mn mx m g=>fun a b=>
  if kind=0 then a=b
  else if kind=1 then a<w.n/\b=a+1/\(XO (w.g a) is != no)=true
  else if kind=2 then a=0/\b=0
  else if kind=6 then a=w.n/\b=w.n
  else if kind=3 then Ai6 w.n (fun i=>PR w (g i)) m a b
  else if kind=4 then ∃i,i<m/\PR w (g i) a b
  else if kind=5 then ∃k:Nat,mn<=k/\(mx = -1 \/ (k:Int)<=mx)/\Id w.n (PR w (g 0)) k a b
  else False
def Vj (w:Sl Sm):∀p:Pat,Fwd w.n (PR w p)
 |.nil,a,b,ha,h=>by obtain rfl:a=b:=h;exact⟨Bm9 _,ha⟩
 |.mk kind is no mn mx m g,a,b,ha,h=>by
  simp only[PR]at h;split at h
  .subst h;exact⟨Bm9 _,ha⟩
  split at h
  .obtain⟨h1,d,_⟩:=h;omega
  split at h
  .omega
  split at h
  .omega
  split at h
  .exact ZD m (fun i _=>Vj w (g i)) a b ha h
  split at h
  .obtain⟨i,_,c⟩:=h;exact Vj w (g i) a b ha c
  split at h
  .obtain⟨k,_,_,hk⟩:=h;exact JR (Vj w (g 0)) k a b ha hk
  exact h.elim
def TabR (n:Nat)(R:Nat->Nat->Prop)(f:Nat->Int):Prop:=∀a,a<=n->∃x:BitVec 64,f a=U x/\∀b,b<64->(x.getLsbD b=true↔b<=n/\R a b)
def TabR.congr {n:Nat}{R R' : Nat->Nat->Prop}{f:Nat->Int}(h:TabR n R f)(d:∀a b,a<=n->b<=n->(R a b↔R' a b)):TabR n R' f:=fun a ha=>by obtain⟨x,e,hx⟩:=h a ha;refine⟨x,e,fun b hb=>(hx b hb).trans ⟨fun⟨h1,c⟩=>⟨h1,(d a b ha h1).1 c⟩,fun⟨h1,c⟩=>⟨h1,(d a b ha h1).2 c⟩⟩⟩
def TabR.uniq {n:Nat}{R:Nat->Nat->Prop}{f g:Nat->Int}(h:TabR n R f)(h' : TabR n R g){a:Nat}(ha:a<=n):f a=g a:=by obtain⟨x,e,hx⟩:=h a ha;obtain⟨y,e',hy⟩:=h' a ha;rw[e,e',AH9 fun b hb=>(hx b hb).trans (hy b hb).symm]
def TabR.bit {n:Nat}{R:Nat->Nat->Prop}{f:Nat->Int}(h:TabR n R f){a b:Nat}(ha:a<=n)(hb:b<64):(F4 .and .u64 (shI .shr .u64 (f a) (b:Int)) 1==1)=true↔b<=n/\R a b:=by obtain⟨x,e,hx⟩:=h a ha;rw[e,bit64];exact hx b hb
end Go.AM
namespace Go.AM
variable {N:Nat}
open Go.Proofs
abbrev AI0:List AV:=[.reg 0 0,.reg 1 0,.reg 2 0,.reg 3 0]
abbrev XP (c:Int)(a:Sl Law)(b:Sl Sm)(y:PV):List Obj:=[.cells [pN c],.cells [.p (vSl 18 B5 a)],.cells [.p (vSl 2 A0 b)],.cells [.p y]]
structure Ij (S:U3):Prop where
 attR:∀{a:Sl Law}{b y:Sl Sm},FunO S I9 [.p (vSl 18 B5 a),.p (vSl 2 A0 b)] [] (.p (vSl 2 A0 y)) [] []->FunO S K0 AI0 (XP 0 a b M8) (.tup []) (XP 0 a b (vSl 2 A0 y)) [true,true,true,true]
 attP:∀{a:Sl Law}{b:Sl Sm}{c:Int},(S.F I9 [.p (vSl 18 B5 a),.p (vSl 2 A0 b)] [] fun res o k=>res=.panic (.iface 181 (pI .i64 c))/\o=[]/\k=[])->FunO S K0 AI0 (XP 0 a b M8) (.tup []) (XP c a b M8) [true,true,true,true]
 tz:∀x:BitVec 64,AB7 S Q2 [.p (pI .u64 (U x))] (.p (pI .i64 (Lib.ctz 64 x.toNat:Nat)))
 trim:∀s c:Str,s.length<1000000000000->c.length<1000000->(∀b∈c,b.toNat<128)->AB7 S Es [.p (.str s),.p (.str c)] (.p (.str (Lib.trimS s c)))
 growS:∀(f:Nat->List PV) (n:Nat),n*8<=140737488355328->FunO S I6 [.p M8,.p (pI .i64 (n:Int))] [] (.vec 0) [.vec B8 2 0 f false] []
def H7 (N:Nat)(x:Int):Option Int:=if 0<=x/\x<18446744073709551616 then some ((Lib.ctz 64 x.toNat:Nat):Int)else none
def Eu (N:Nat)(s c:Str):Option Str:=if s.length<1000000000000/\c.length<1000000/\(c.all fun b=>decide (b.toNat<128)) then some (Lib.trimS s c)else none
def I7 (N:Nat)(n:Int):Option (Sl Sm):=if 0<=n/\n*8<=140737488355328 then some (Sl.nil:Sl Sm)else none
section
variable {S:U3}(Z:H2 S Tryz.prog) (Y:Ij S)
include Z Y
theorem DH {x y:Int}(h:H7 N x=some y):FunO S Q2 [.p (pI .u64 x)] [] (.p (pI .i64 y)) [] []:=by
 obtain⟨⟨a,h1⟩,h⟩:=D6 h;obtain rfl:=C4 h
 have:=Y.tz (BitVec.ofNat 64 x.toNat)
 have e:(BitVec.ofNat 64 x.toNat).toNat=x.toNat:=by rw[BG8];omega
 have e2:U (BitVec.ofNat 64 x.toNat)=x:=by show ((BitVec.ofNat 64 x.toNat).toNat:Int)=x;rw[e];omega
 rw[e,e2]at this;exact this
theorem Pt {s c:Str}{y:Str}(h:Eu N s c=some y):FunO S Es [.p (.str s),.p (.str c)] [] (.p (.str y)) [] []:=by obtain⟨⟨a,h1,d⟩,h⟩:=D6 h;obtain rfl:=C4 h;exact Y.trim s c a h1 fun b hb=>by simpa using Bo3.1 d b hb
theorem AT {n:Int}{y:Sl Sm}(h:I7 N n=some y):FunO S I6 [.p M8,.p (pI .i64 n)] [] (.vec 0) [.vec B8 2 y.n (fun i=>A0 (y.g i)) false] []:=by
 obtain⟨⟨a,h1⟩,h⟩:=D6 h;obtain rfl:=C4 h
 have:=Y.growS (fun i=>A0 default) n.toNat (by omega)
 rw[show ((n.toNat:Nat):Int)=n by omega]at this;exact this
def B7 (N:Nat)(s:Sl Sm):Option (Sl Sm):=if (0+s.n)*8<=140737488355328/\0+s.n<=140737488355328 then some s else none
theorem O8 {s y:Sl Sm}(h:B7 N s=some y):FunO S O5 [.p (vSl 2 A0 s)] [] (.vec 0) [.vec B8 2 y.n (fun i=>A0 (y.g i)) true] []:=by
 unfold B7 at h;obtain⟨c1,h⟩:=D6 h;obtain rfl:=C4 h;refine A3 Z Tryz.func127 ?_;refine K_nil Z Pq 3 (k:=2) (n:=s.n) (f:=fun i=>A0 (s.g i)) (fun a=>?_) ?_
 .obtain⟨n,g⟩:=s;obtain rfl:n=0:=a;exact A9 Z Pq ⟨[(2,.vec 3700)],[(3700,.vec B8 2 0 (fun i=>A0 (g i)) true)]⟩ [3700] (ids:=[]) ⟨rfl,rfl,rfl⟩
 exact A9 Z (And.intro Rp c1) ⟨[(2,.vec 8000)],[(8000,.vec B8 2 s.n (fun i=>A0 (s.g i)) true)]⟩ [8000] (ids:=[(8000,8000)]) ⟨rfl,rfl,rfl⟩
  (hle:=klR [(0,.fn (0+s.n) s.n (T2 0 (D3 [pI .u32 0,pI .u32 0] []) (fun i=>A0 (s.g i))) (fun i=>A0 (s.g i)))] (al1 ⟨Br1 _,fun i _=>by simp[T2]⟩ al0))
end
end Go.AM
set_option maxRecDepth 100000
namespace Go.AM
open Go.Proofs.Tryz
open Go.Proofs
def Ai7 (v:Value)(w:World):(Instr.typeAssert (.iface 181 v) 20 181 true).run Tryz.prog w=.ok (.tuple #[v,.bool true]) w:=by kernel_rfl
def XQ (p:Value)(w:World):CallsDIn Fence.wide 0 Tryz.prog U0 #[p] .returning w fun e u' w'=>e=.returned (.tuple #[])/\u' = .returning/\w' = w:=by
 refine callsDIn_of_wpSIn func124 rfl (by simp[Fence.wide]) fun c₀ cs a=>?_;apply wpSIn_seq;apply wpSIn_region;simp[wpOpsSIn,go_sem,recoverD,a,f124,Exit.thenS];refine wpSIn_of_wpIn rfl (wpIn_block (wpIn_seq (wpIn_region ?_)));simp[wpOpsIn,Oper.wpIn,Oper.semAt,Oper.uponIn,go_sem,Exit.then];refine wpIn_cond (t:=true) (by simp[Act.eval]) ?_;simp only[Pn];refine wpIn_region ?_;simp[wpOpsIn,Oper.wpIn,Oper.semAt,Oper.uponIn,go_sem,Exit.inBlock,bodyPostS,results];cases c₀
 simp_all
def LY (p:Value)(c:Int)(older:List PanicEntry)(w w1:World)(a:(Instr.storeAt 33 p (.int .i64 c)).run Tryz.prog w=.ok () w1)(hn:∃b,p=.pointer (some b)) :CallsDIn Fence.wide 0 Tryz.prog U0 #[p] (.panicking ({ v:=.iface 181 (.int .i64 c),recovered:=false }::older)) w fun e u' w'=>
  e=.returned (.tuple #[])/\u' = .panicking ({ v:=.iface 181 (.int .i64 c),recovered:=true }::older)/\w' = w1:=by
 obtain⟨b,rfl⟩:=hn;refine callsDIn_of_wpSIn func124 rfl (by simp[Fence.wide]) fun c₀ cs d=>?_;apply wpSIn_seq;apply wpSIn_region;simp[wpOpsSIn,go_sem,recoverD,d,f124,Exit.thenS];refine wpSIn_of_wpIn rfl (wpIn_block (wpIn_seq (wpIn_region ?_)));simp[wpOpsIn,Oper.wpIn,Oper.semAt,Oper.uponIn,go_sem,Exit.then];refine wpIn_cond (t:=false) (by simp[Act.eval]) ?_;simp only[Bn1,Po];refine wpIn_seq (wpIn_region ?_);simp[wpOpsIn,Oper.wpIn,Oper.semAt,Oper.uponIn,go_sem,Exit.then,Ai7];refine wpIn_cond (t:=true) (by simp[Act.eval]) ?_;simp only[Pn];refine wpIn_seq (wpIn_region ?_);simp[wpOpsIn,Oper.wpIn,Oper.semAt,Oper.uponIn,go_sem,Exit.then];refine wpIn_region ?_;simp[wpOpsIn,Oper.wpIn,Oper.semAt,Oper.uponIn,go_sem,a,Exit.inBlock,bodyPostS,results];simp[go_sem]at a;rw[a];simp[Result.andThen]
noncomputable def Bb6:Code:=match Tryz.f123.body with
 |some (.seq _ c)=>c
 |_=>.skip
def AW8 {S:U3}(Z:H2 S Tryz.prog){a:Sl Law}{b y:Sl Sm}(c:FunO S I9 [.p (vSl 18 B5 a),.p (vSl 2 A0 b)] [] (.p (vSl 2 A0 y)) [] []) :KG S Tryz.prog (QG S (fun st=>L0 [0,1,2,3] st.regs [0,1,2,3]=some (XP 0 a b (vSl 2 A0 y))) fun _ _=>False) (.code Bb6 [] ⟨argEnv AI0,objRegs (XP 0 a b M8)⟩):=by refine C6 Z [] Pq c ?_;exact K_upN Z Pq ⟨[],[(3,.cells [.p (vSl 2 A0 y)]),(2,.cells [.p (vSl 2 A0 b)]),(1,.cells [.p (vSl 18 B5 a)]),(0,.cells [pN 0])]⟩ (ids:=[(0,0),(1,1),(2,2),(3,3)]) rfl
def At9 {S:U3}(Z:H2 S Tryz.prog){a:Sl Law}{b:Sl Sm}{c:Int}(d:S.F I9 [.p (vSl 18 B5 a),.p (vSl 2 A0 b)] [] fun res o k=>res=.panic (.iface 181 (pI .i64 c))/\o=[]/\k=[]) :KG S Tryz.prog (QG S (fun _=>False) fun x st=>x=.iface 181 (pI .i64 c)/\store Tryz.prog st.regs 33 (.reg 0 0) (.p (pI .i64 c))=some ([],ins 0 (.cells [pN c]) st.regs)/\L0 [0,1,2,3] (ins 0 (.cells [pN c]) st.regs) [0,1,2,3]=some (XP c a b M8)) (.code Bb6 [] ⟨argEnv AI0,objRegs (XP 0 a b M8)⟩):=by refine AV9 Z [] Pq d ?_;exact K_upP Z Pq ⟨rfl,by kernel_rfl,by kernel_rfl⟩
noncomputable def att1:Code:=match Tryz.f123.body with
 |some (.seq c _)=>c
 |_=>.skip
noncomputable def attOps:Array Oper:=match Bb6 with
 |.region _ ops _=>ops
 |_=>#[]
def ZE:Bb6=.region 1 attOps false:=by kernel_rfl
def Bi3:attOps.toList.all (HL 7 attOps.toList)=true:=by kernel_rfl
def AI1:¬Tryz.f123.name = "runtime.NumGoroutine" := by decide +kernel
def ZF:Tryz.f123.body=some (.seq att1 Bb6):=by kernel_rfl
def AW9 {C:Ctx}{vs:Array Value}{w:World}{rho:Nat->Value}{args:List AV}{objs:List Obj}{n:Nat}(Z:Sat C ⟨argEnv args,objRegs objs⟩ ⟨vs,[]⟩ w rho)(a:vs.size=args.length) :Sat C ⟨argEnv args,objRegs objs⟩ { tmps:=vs++Array.replicate n undef,defers:=[] } w rho:=by
 refine⟨Z.toSatE,fun t=>?_,Z.pin,Z.marks⟩
 have:=Z.env t
 by_cases ht:t<vs.size
 .simpa[Bm5,Bu2,ht]using this
 show RepA w _ _ _ _ (get (argEnv args) t);rw[Bq,Bm3,Br6 (by omega)];exact .top _
def Om {R:St->Prop}{X:PV->St->Prop}{a:Sl Law}{b:Sl Sm}{objs' : List Obj}
 (a1:KG (HC Tryz.prog) Tryz.prog (QG (HC Tryz.prog) R X) (.code Bb6 [] ⟨argEnv AI0,objRegs (XP 0 a b M8)⟩))
 (hR:∀st,R st->L0 [0,1,2,3] st.regs [0,1,2,3]=some objs')
 (hX:∀x st,X x st->∃c regs',x=.iface 181 (pI .i64 c)/\store Tryz.prog st.regs 33 (.reg 0 0) (.p (pI .i64 c))=some ([],regs')/\L0 [0,1,2,3] regs' [0,1,2,3]=some objs') :
 FunO (HC Tryz.prog) K0 AI0 (XP 0 a b M8) (.tup []) objs' [true,true,true,true]:=by
 intro 𝒢 C w vs rho hG Z t;obtain⟨l⟩:=vs
 match l,t with
 |[v0,v1,v2,v3],t=>?_
 refine⟨.enter K0 #[v0,v1,v2,v3],w,by simp[callFunc,func123,ZF,AI1],?_⟩;refine callsIn_of_wp_marks func123 ZF Pq ?_;have a2:=AW9 (n:=Tryz.f123.ntmps-4) Z t;have a9:Tryz.f123.ntmps-4=3:=rfl;rw[a9]at a2;have b1:((#[v0,v1,v2,v3]:Array Value)++Array.replicate 3 undef).size=7:=rfl;have hw:Kk (HC Tryz.prog) Tryz.prog attOps.toList attOps.toList (QG (HC Tryz.prog) R X) ⟨argEnv AI0,objRegs (XP 0 a b M8)⟩:=by
  have:=a1.out
  rw[ZE]at this;simpa only[G,awp,kp,Bn1,Po]using this
 have a4:=Nx (𝒢:=𝒢.fix C.rho0) (n:=7) (ro:=none) (ops:=attOps) Bi3 attOps.toList 0 rfl (by simp) ⟨hG,rfl⟩ a2 b1 hw;have a5:=Jy [{ target:=.fn (.func U0) #[],args:=#[v0] }] _ _ _ a4;rw[BC2]at a5;obtain⟨b0,a6,u⟩:∃b0,v0=.pointer (some ⟨b0,0,none⟩)/\rho 0=.pointer (some ⟨b0,0,none⟩):=by
  have h0:RepA w _ _ rho v0 (.reg 0 0):=Z.env 0;cases h0 with
  |reg _ _ b0 _ h=>exact⟨b0,rfl,h⟩
 have s:∀{C' : Ctx}{st' : St}{a' : Act}{w' : World}{rho' : Nat->Value},(𝒢.fix C.rho0).G C' -> Sat C' st' a' w' rho' -> L0 [0,1,2,3] st'.regs [0,1,2,3]=some objs' ->
  LeavesInM Fence.wide 0 Tryz.prog f123 a'.tmps (fun e w'=>∃C' r objs0 ks rho', 𝒢.G C' /\ (r=.ret (.tup [])/\objs0=objs' /\ ks=[true,true,true,true])/\SatE C' (objRegs objs0) w' rho' /\
   AS7 w' (Prv C'.X (A2 (objRegs objs0)) rho') (Lv (A2 (objRegs objs0))) rho' e r/\∀i:Nat,ks[i]? = some true->i<objs0.length/\rho' i=rho i) [] .returning w':=by
  intro C' st' a' w' rho' d f m;obtain⟨g1,g2,g3⟩:=Ny f (by decide) m;obtain⟨hl,hg⟩:=Al m;refine⟨.tuple #[],by simp[results,f123],C', .ret (.tup []),objs',_,_,d.1,⟨rfl,rfl,rfl⟩,g1,⟨_,rfl,.tup _ _ rfl fun i hi=>Pm hi (by simp)⟩,?_⟩;intro i hi;have y:i<4:=by
   have:=(Bn6.1 hi).1
   simpa using this
  refine⟨by rw[hl];exact y,?_⟩;have e1:[0,1,2,3][i]? = some i:=by
   match i,y with
   |0,_=>rfl
   |1,_=>rfl
   |2,_=>rfl
   |3,_=>rfl
  obtain⟨o,_,ho,_⟩:=hg i i e1;show rho' ([0,1,2,3].getD i 0)=rho i;rw[CL e1,f.pin i (by omega) (by simp[Lv,ho]),d.2];refine (Z.pin i (by omega) ?_).symm;rw[Lv,E7]
  match i,y with
  |0,_=>rfl
  |1,_=>rfl
  |2,_=>rfl
  |3,_=>rfl
 generalize hQ:bodyPostM _ _ _ _ _=QQ;refine wpIn_seq ?_;simp only[att1,f123];refine wpIn_region ?_;simp[wpOpsIn,Oper.wpIn,Oper.semAt,Oper.uponIn,go_sem,Exit.then];subst hQ;rw[ZE];refine wpIn_mono (wpIn_region (F:=FW none) a5) ?_;rintro e a' w' ⟨a0,rfl,z⟩;cases e with
 |exit id=>obtain⟨_,_,_,_,_,_,h⟩:=z;exact h.elim
 |goto l=>obtain⟨_,_,_,_,_,_,h⟩:=z;exact h.elim
 |ret=>obtain⟨_,_,_,_,_,_,h⟩:=z;exact h.elim
 |outgrown=>exact z.elim
 |normal=>
  obtain⟨C',st',rho',d,f,a7,hu⟩:=z;obtain⟨st2,rho2,hR2,_,hs2⟩:=hu C' a0 w' rho' f;refine Fz (C:=C') (st:=st2) (rho:=rho2) (by simp) ?_ a0.defers a0 w' rfl rfl hs2;intro a3 w3 q ht;refine⟨by simp,.inr ⟨by simp[Fence.wide],_,_,U0,#[v0],rfl,by simp[go_sem],fun _ _=>trivial,?_⟩⟩;refine (XQ v0 w3).mono ?_;rintro e u' w4 ⟨rfl,rfl,rfl⟩
  have:=s d q (hR st2 hR2)
  rw[ht]at this;exact this
 |panic chain=>
  obtain⟨C',st',rho',v,x,rfl,d,f,a7,hv,hXx⟩:=z;obtain⟨c,regs',rfl,g,m⟩:=hX x st' hXx;obtain rfl:v=.iface 181 (.int .i64 c):=by
   cases hv with
   |iface _ _ _ h=>cases h;rfl
  refine Fz (C:=C') (st:=st') (rho:=rho') (by simp) ?_ a0.defers a0 w' rfl rfl f;intro a3 w3 q ht;have j:Lv (A2 st'.regs) 0:=by
   cases hj:A2 st'.regs 0 with
   |some o=>simp[Lv,hj]
   |none=>
    unfold store at g;split at g
    .simp[hj]at g
    cases g
  have hr0:rho' 0=.pointer (some ⟨b0,0,none⟩):=by rw[q.pin 0 (by omega) j,d.2,<- u];exact (Z.pin 0 (by omega) rfl).symm
  have hva:RS C' st' w3 rho' v0 (.reg 0 0):=by rw[a6];exact .reg 0 0 b0 j hr0
  obtain⟨w4,a8,hs4,_⟩:=Nm q (vx:=.int .i64 c) hva (.p _ _ (.v _)) g Pq;refine⟨by simp,.inr ⟨by simp[Fence.wide],_,_,U0,#[v0],rfl,by simp[go_sem],fun _ _=>trivial,?_⟩⟩;refine (LY v0 c [] w3 w4 a8 ⟨_,a6⟩).mono ?_;rintro e u' w5 ⟨rfl,rfl,rfl⟩
  have:=s d hs4 m
  rw[ht]at this;exact this
def XR {a:Sl Law}{b y:Sl Sm}(c:FunO (HC Tryz.prog) I9 [.p (vSl 18 B5 a),.p (vSl 2 A0 b)] [] (.p (vSl 2 A0 y)) [] []) :FunO (HC Tryz.prog) K0 AI0 (XP 0 a b M8) (.tup []) (XP 0 a b (vSl 2 A0 y)) [true,true,true,true]:=
 Om (AW8 (Bl0 Tryz.prog) c) (fun st h=>h) (fun x st h=>h.elim)
def SF {a:Sl Law}{b:Sl Sm}{c:Int}(d:(HC Tryz.prog).F I9 [.p (vSl 18 B5 a),.p (vSl 2 A0 b)] [] fun res o k=>res=.panic (.iface 181 (pI .i64 c))/\o=[]/\k=[]) :FunO (HC Tryz.prog) K0 AI0 (XP 0 a b M8) (.tup []) (XP c a b M8) [true,true,true,true]:=
 Om (At9 (Bl0 Tryz.prog) d) (fun st h=>h.elim) (fun x st h=>⟨c,_,h.1,h.2.1,h.2.2⟩)
end Go.AM
namespace Go.AM
open Go.Proofs.Tryz
variable {N:Nat}
open IntKind (wrap)
open Go.Proofs
set_option maxRecDepth 10000
set_option maxHeartbeats 2000000
variable {S:U3}(Z:H2 S Tryz.prog) (Y:Ij S)
include Z Y
def I0 (N:Nat)(a:Sm):Option Bool:= some (((F4 .and .u32 a.Plus a.Minus)==0)&&(decide ((F4 .or .u32 a.Plus a.Minus)<=16777215)))
theorem S1 {b:Sm}{y:Bool}(h:I0 N b=some y) :FunO S JJ [.p (.agg (A0 b))] [] (pB y) ([]) []:=by unfold I0 at h;refine A3 Z func105 ?_;refine kB Z (A5 Z) Pq Pq 7 (.n (.a ((F4 .and .u32 b.Plus b.Minus)==0)) (.a (decide ((F4 .or .u32 b.Plus b.Minus)<=16777215)))) ?_;cases h;exact kR Z
def N1 (N:Nat)(b:Sm)(a:Sm):Option Bool:= (I0 N b).bind fun y1=>lt (fun (z1:Bool)=>some z1) fun k1=>if y1 then (I0 N a).bind fun y3=>if y3 then if ((F4 .andNot .u32 a.Plus b.Plus)==0) then k1 ((F4 .andNot .u32 a.Minus b.Minus)==0) else k1 false else k1 false else k1 false
theorem KN {c:Sm}{a:Sm}{y:Bool}(h:N1 N c a=some y) :FunO S Fc [.p (.agg (A0 c)),.p (.agg (A0 a))] [] (pB y) ([]) []:=by
 unfold N1 at h;refine A3 Z func198 ?_;refine kC Z h (S1 Z Y) (fun y1 h=>?_);refine EC Z Pq (A5 Z) h 0 (fun z1=>⟨[(4,pB z1)],[]⟩) (fun M1 k1 b h=>?_) (fun z1 h=>?_)
 .refine kG Z h (fun h=>?_) (fun h=>?_)
  .refine kC Z h (S1 Z Y) (fun y3 h=>?_);refine kG Z h (fun h=>?_) (fun h=>?_)
   .refine kG Z h (fun h=>?_) (fun h=>?_)
    .exact b _ [] _ ((F4 .andNot .u32 a.Minus c.Minus)==0) Pq h
    exact b _ [] _ false Pq h
   exact b _ [] _ false Pq h
  exact b _ [] _ false Pq h
 cases h;exact kR Z
def DI (N:Nat)(a:Sm):Option Int:= some (F4 .or .u32 a.Plus a.Minus)
theorem Oo {a:Sm}{y:Int}(h:DI N a=some y) :FunO S Oe [.p (.agg (A0 a))] [] (pU y) ([]) []:=by unfold DI at h;refine A3 Z func212 ?_;cases h;exact kR Z
def Cl (N:Nat)(c:Sm)(b:Sm)(a:Int):Option Sm:= some (⟨F4 .or .u32 (F4 .andNot .u32 c.Plus a) (F4 .and .u32 b.Plus a),F4 .or .u32 (F4 .andNot .u32 c.Minus a) (F4 .and .u32 b.Minus a)⟩:Sm)
theorem Oq {c:Sm}{a:Sm}{b:Int}{y:Sm}(h:Cl N c a b=some y) :FunO S Og [.p (.agg (A0 c)),.p (.agg (A0 a)),pU b] [] (.p (.agg (A0 y))) ([]) []:=by unfold Cl at h;refine A3 Z func213 ?_;cases h;exact kR Z
def P3 (N:Nat)(c:Sm)(a:Int)(b:Sm):Option (Sm×Int):= (I0 N c).bind fun y1=>lt (fun (z1:Bool)=>if z1 then some ((⟨0,0⟩:Sm),14) else lt (fun (z2:Bool)=>if z2 then some ((⟨0,0⟩:Sm),2) else (DI N b).bind fun y6=>(Cl N c b (F4 .or .u32 a y6)).bind fun y7=>some (y7,0)) fun k2=>if (decide (16777215<a)) then k2 true else (DI N b).bind fun y5=>k2 ((F4 .and .u32 a y5) != 0)) fun k1=>if (!y1) then k1 true else (I0 N b).bind fun y3=>k1 (!y3)
theorem Pu {c:Sm}{a:Int}{b:Sm}{y:Sm×Int}(h:P3 N c a b=some y) :FunO S Ib [.p (.agg (A0 c)),pU a,.p (.agg (A0 b))] [] (.tup [.p (.agg (A0 y.1)),pN y.2]) ([]) []:=by
 unfold P3 at h;refine A3 Z func200 ?_;refine G4 Z Pq 5 4000 [pI .u32 c.Plus,pI .u32 c.Minus] ?_;refine G4 Z Pq 6 6000 [pI .u32 b.Plus,pI .u32 b.Minus] ?_;obtain⟨y1,e1,h⟩:=B9 h;refine C6 Z [] Q6 (S1 Z Y e1) ?_;refine EC Z Pq (A5 Z) h 0 (fun z1=>⟨[(15,pB z1),(6,.reg 7000 0),(5,.p (.ptr [pI .u32 b.Plus,pI .u32 b.Minus])),(3,.p (.ptr [pI .u32 c.Plus,pI .u32 c.Minus])),(1,pU a)],[(7000,.cells [pU 0,pU 0])]⟩) (fun M1 k1 d h=>?_) (fun z1 h=>?_)
 .refine kG Z h (fun h=>?_) (fun h=>?_)
  .exact d _ [(7000,7000)] _ true Pq h
  obtain⟨y3,e3,h⟩:=B9 h;refine C6 Z [] Q6 (S1 Z Y e3) ?_;exact d _ [(7000,7000)] _ (!y3) Pq h
 apply kI Z h<;>intro h
 .cases h;exact kR Z
 refine EC Z Pq (A5 Z) h 0 (fun z2=>⟨[(25,pB z2),(6,.reg 7000 0),(5,.p (.ptr [pI .u32 b.Plus,pI .u32 b.Minus])),(3,.p (.ptr [pI .u32 c.Plus,pI .u32 c.Minus])),(1,pU a)],[(7000,.cells [pU 0,pU 0])]⟩) (fun M2 k2 f h=>?_) (fun z2 h=>?_)
 .refine kG Z h (fun h=>?_) (fun h=>?_)
  .exact f _ [(7000,7000)] _ true Pq h
  obtain⟨y5,e5,h⟩:=B9 h;refine C6 Z [] Q6 (Oo Z Y e5) ?_;exact f _ [(7000,7000)] _ ((F4 .and .u32 a y5) != 0) Pq h
 apply kI Z h<;>intro h
 .cases h;exact kR Z
 refine E3 Z Pq [0,1,3,4,6] ?_;obtain⟨y6,e6,h⟩:=B9 h;refine K7 (And.intro (And.intro Q6 Q6) Q6) (Oo Z Y e6) ?_;obtain⟨y7,e7,h⟩:=B9 h;refine K7 Pq (Oq Z Y e7) ?_;refine H3 Pq ?_;cases h;exact kR Z
def U5 (N:Nat)(c:Sm)(a:Sm)(b:Int):Option (Sm×Int):= (I0 N c).bind fun y1=>lt (fun (z1:Bool)=>if z1 then some ((⟨0,0⟩:Sm),14) else if (decide (16777215<b)) then some ((⟨0,0⟩:Sm),2) else (Cl N c a b).bind fun y4=>some (y4,0)) fun k1=>if (!y1) then k1 true else (I0 N a).bind fun y3=>k1 (!y3)
theorem Vk {c:Sm}{a:Sm}{b:Int}{y:Sm×Int}(h:U5 N c a b=some y) :FunO S LI [.p (.agg (A0 c)),.p (.agg (A0 a)),pU b] [] (.tup [.p (.agg (A0 y.1)),pN y.2]) ([]) []:=by
 unfold U5 at h;refine A3 Z func201 ?_;refine kC Z h (S1 Z Y) (fun y1 h=>?_);refine EC Z Pq (A5 Z) h 0 (fun z1=>⟨[(15,pB z1),(6,.reg 7000 0),(4,.reg 5000 0),(3,.reg 4000 0),(2,pU b)],[(7000,.cells [pU 0,pU 0]),(5000,.cells [pU a.Plus,pU a.Minus]),(4000,.cells [pU c.Plus,pU c.Minus])]⟩) (fun M1 k1 d h=>?_) (fun z1 h=>?_)
 .refine kG Z h (fun h=>?_) (fun h=>?_)
  .exact d _ [(4000,4000),(5000,5000),(7000,7000)] _ true Pq h
  refine kC Z h (S1 Z Y) (fun y3 h=>?_);exact d _ [(4000,4000),(5000,5000),(7000,7000)] _ (!y3) Pq h
 apply kI Z h<;>intro h
 .cases h;exact kR Z
 apply kI Z h<;>intro h
 .cases h;exact kR Z
 refine kC Z h (Oq Z Y) (fun y4 h=>?_);cases h;exact kR Z
def J1 (N:Nat)(a:Sm):Option Bool:= Q7 N (fun b (x1:Int)=>if (decide (x1<32)) then if ((0:Int)<=x1/\(0:Int)<=x1)then if ((((F4 .and .u32 (shI .shr .u32 a.Plus x1) 1)==1)&&((F4 .and .u32 (shI .shr .u32 a.Minus x1) 1)==1))||((((F4 .and .u32 (shI .shr .u32 a.Plus x1) 1)==1)||((F4 .and .u32 (shI .shr .u32 a.Minus x1) 1)==1))&&(decide (24<=x1)))) then some false else b (wrap .i64 (x1+1)) else none else some true) 0
def CT (N:Nat)(a:Int):Option Bool:= some ((decide (0<=a))&&(decide (a<24)))
def Y0 (N:Nat)(b:Sm)(a:Int):Option Int:= (J1 N b).bind fun y1=>lt (fun (z1:Bool)=>if z1 then some 0 else if (0:Int)<=a then if ((F4 .and .u32 (shI .shr .u32 b.Plus a) 1)==1) then some 1 else if (0:Int)<=a then if ((F4 .and .u32 (shI .shr .u32 b.Minus a) 1)==1) then some (-1) else some 0 else none else none) fun k1=>if (!y1) then k1 true else (CT N a).bind fun y3=>k1 (!y3)
def Cu (N:Nat)(b:Sm)(a:Int)(c:Int):Option Sm:= if (0:Int)<=a then if (c==1) then if (c==(-1)) then some (⟨F4 .or .u32 (F4 .andNot .u32 b.Plus (shI .shl .u32 1 a)) (shI .shl .u32 1 a),F4 .or .u32 (F4 .andNot .u32 b.Minus (shI .shl .u32 1 a)) (shI .shl .u32 1 a)⟩:Sm) else some (⟨F4 .or .u32 (F4 .andNot .u32 b.Plus (shI .shl .u32 1 a)) (shI .shl .u32 1 a),F4 .andNot .u32 b.Minus (shI .shl .u32 1 a)⟩:Sm) else if (c==(-1)) then some (⟨F4 .andNot .u32 b.Plus (shI .shl .u32 1 a),F4 .or .u32 (F4 .andNot .u32 b.Minus (shI .shl .u32 1 a)) (shI .shl .u32 1 a)⟩:Sm) else some (⟨F4 .andNot .u32 b.Plus (shI .shl .u32 1 a),F4 .andNot .u32 b.Minus (shI .shl .u32 1 a)⟩:Sm) else none
def P8 (N:Nat)(c:Sm)(a:Sm):Option Bool:= (J1 N c).bind fun y1=>lt (fun (z1:Bool)=>if z1 then some false else Q7 N (fun b (x3:Int)=>if (decide (x3<24)) then (Y0 N a x3).bind fun d=>lt (fun (z4:Bool)=>if z4 then some false else b (wrap .i64 (x3+1))) fun k4=>if (d != 0) then (Y0 N c x3).bind fun f=>k4 (f != d) else k4 false else some true) 0) fun k1=>if (!y1) then k1 true else (J1 N a).bind fun y3=>k1 (!y3)
def R5 (N:Nat)(d:Sm)(b:Int)(a:Sm):Option (Sm×Int):= (J1 N d).bind fun y1=>lt (fun (z1:Bool)=>if z1 then some ((⟨0,0⟩:Sm),14) else if ((decide (16777215<b))||((F4 .and .u32 b (F4 .or .u32 a.Plus a.Minus)) != 0)) then some ((⟨0,0⟩:Sm),2) else Am8 N (fun c (x2:Int) (x3:Int) (x4:Int)=>if (decide (x4<24)) then if (0:Int)<=x4 then if ((F4 .and .u32 (shI .shr .u32 b x4) 1)==1) then (Cu N (⟨x2,x3⟩:Sm) x4 0).bind fun f=>(Y0 N a x4).bind fun j=>if (j != 0) then (Y0 N a x4).bind fun l=>(Cu N f x4 l).bind fun g=>c g.Plus g.Minus (wrap .i64 (x4+1)) else c f.Plus f.Minus (wrap .i64 (x4+1)) else (Y0 N a x4).bind fun m=>if (m != 0) then (Y0 N a x4).bind fun n=>(Cu N (⟨x2,x3⟩:Sm) x4 n).bind fun i=>c i.Plus i.Minus (wrap .i64 (x4+1)) else c x2 x3 (wrap .i64 (x4+1)) else none else some ((⟨x2,x3⟩:Sm),0)) d.Plus d.Minus 0) fun k1=>if (!y1) then k1 true else (J1 N a).bind fun y3=>k1 (!y3)
def Ad (N:Nat)(d:Sm)(a:Sm)(b:Int):Option (Sm×Int):= (J1 N d).bind fun y1=>lt (fun (z1:Bool)=>if z1 then some ((⟨0,0⟩:Sm),14) else if (decide (16777215<b)) then some ((⟨0,0⟩:Sm),2) else Am8 N (fun c (x2:Int) (x3:Int) (x4:Int)=>if (decide (x4<24)) then if (0:Int)<=x4 then if ((F4 .and .u32 (shI .shr .u32 b x4) 1)==1) then (Y0 N a x4).bind fun y8=>(Cu N (⟨x2,x3⟩:Sm) x4 y8).bind fun y9=>c y9.Plus y9.Minus (wrap .i64 (x4+1)) else c x2 x3 (wrap .i64 (x4+1)) else none else some ((⟨x2,x3⟩:Sm),0)) d.Plus d.Minus 0) fun k1=>if (!y1) then k1 true else (J1 N a).bind fun y3=>k1 (!y3)
def S7 (N:Nat)(a:Sm):Option Bool:= some ((((F4 .and .u32 a.Plus a.Minus)==0)&&(decide (a.Plus<16777216)))&&(decide (a.Minus<16777216)))
def Y1 (N:Nat)(a:Sl Sm):Option Int:= if (decide (32<(a.n:Int))) then some 11 else Q7 N (fun b (x1:Int)=>if (decide (x1<(a.n:Int))) then if ((0:Int)<=x1/\x1<(a.n:Int))then (S7 N (a.g x1.toNat)).bind fun y3=>if (!y3) then some 14 else b (wrap .i64 (x1+1)) else none else some 0) 0
def FG (N:Nat)(a:Sl Sm)(b:Sl Sm):Option Bool:= if ((a.n:Int) != (b.n:Int)) then some false else Q7 N (fun c (x1:Int)=>if (decide (x1<(a.n:Int))) then if (((0:Int)<=x1/\x1<(a.n:Int))/\((0:Int)<=x1/\x1<(b.n:Int)))then if ((((a.g x1.toNat).Plus==(b.g x1.toNat).Plus)&&((a.g x1.toNat).Minus==(b.g x1.toNat).Minus)) != true) then some false else c (wrap .i64 (x1+1)) else none else some true) 0
theorem WL {a:Sl Sm}{b:Sl Sm}{y:Bool}(h:FG N a b=some y) :FunO S NW [.p (vSl 2 A0 a),.p (vSl 2 A0 b)] [] (pB y) ([]) []:=by
 unfold FG at h;refine A3 Z func83 ?_;apply kI Z h<;>intro h
 .cases h;exact kR Z
 refine H0 Z Pq h (fun x1=>⟨[(5,pN x1),(1,.p (vSl 2 A0 b)),(0,.p (vSl 2 A0 a))],[]⟩) (ids:=[]) (fun _ _ _ _ _ c x1 d h=>?_);apply kI Z h<;>intro h
 .refine E3 Z Pq [2,3,6,7] ?_;obtain⟨c9,h⟩:=D6 h;refine H3 (And.intro (And.intro (And.intro (And.intro c9.1 Q6) c9.2) Q6) (by decide +kernel:Ad0 Tryz.prog B8=true)) ?_;apply kI Z h<;>intro h
  .cases h;exact kR Z
  exact d _ [] _ (wrap .i64 (x1+1)) Pq h
 cases h;exact kR Z
def CY (N:Nat)(a:Sl Sm):Option (Sl Sm):= S0 N (fun b (x1:Sl Sm) (x2:Int)=>if (decide (x2<(a.n:Int))) then if (((0:Int)<=x2/\x2<(a.n:Int))/\((x1.n+(Sl.of [a.g x2.toNat]:Sl Sm).n)*8<=140737488355328/\x1.n+(Sl.of [a.g x2.toNat]:Sl Sm).n<=140737488355328))then b (x1.push (a.g x2.toNat)) (wrap .i64 (x2+1)) else none else some x1) (Sl.nil:Sl Sm) 0
def Br (N:Nat)(a:Sm):Option Bool:= some (((F4 .and .u32 a.Plus a.Minus)==0)&&((shI .shr .u32 (F4 .or .u32 a.Plus a.Minus) 24)==0))
theorem Vl {a:Sm}{y:Bool}(h:Br N a=some y) :FunO S LA [.p (.agg (A0 a))] [] (pB y) ([]) []:=by
 unfold Br at h;refine A3 Z func77 ?_;obtain⟨t1,c⟩:∃x:Bool,x=(((F4 .and .u32 a.Plus a.Minus)==0)&&((shI .shr .u32 (F4 .or .u32 a.Plus a.Minus) 24)==0)):=⟨_,rfl⟩;refine Wx Z Pq (A5 Z) 0 ⟨[(2,pB t1)],[]⟩ (fun M1 d=>?_) ?_
 .refine Ek Z Pq (b:=(F4 .and .u32 a.Plus a.Minus)==0) (fun c2=>?_) (fun c2=>?_)
  .exact d _ [] _ (by decide:(0:Int)<=24) (hle:=klR [(0,.eq (.bb ((shI .shr .u32 (F4 .or .u32 a.Plus a.Minus) 24)==0)) (.bb t1))] (al1 (by simp only[c,c2,Leaf.ok,pm,Pn,Po]) al0))
  exact d _ [] _ Pq (hle:=klR [(0,.eq (.bb false) (.bb t1))] (al1 (by simp only[c,c2,Leaf.ok,pm,Pn,Po]) al0))
 subst c;cases h;exact kR Z
def P4 (N:Nat)(a:Sl Sm):Option Int:= if (decide (32<(a.n:Int))) then some 11 else Q7 N (fun b (x1:Int)=>if (decide (x1<(a.n:Int))) then if ((0:Int)<=x1/\x1<(a.n:Int))then (Br N (a.g x1.toNat)).bind fun y3=>if (!y3) then some 14 else b (wrap .i64 (x1+1)) else none else some 0) 0
theorem Ee {a:Sl Sm}{y:Int}(h:P4 N a=some y) :FunO S Ly [.p (vSl 2 A0 a)] [] (pN y) ([]) []:=by
 unfold P4 at h;refine A3 Z func47 ?_;apply kI Z h<;>intro h
 .cases h;exact kR Z
 refine H0 Z Pq h (fun x1=>⟨[(10,pN x1),(9,pN (a.n:Int)),(8,.p (vSl 2 A0 a))],[]⟩) (ids:=[]) (fun _ _ _ _ _ b x1 c h=>?_);apply kI Z h<;>intro h
 .obtain⟨c9,h⟩:=D6 h;obtain⟨y3,e3,h⟩:=B9 h;refine C6 Z [] (And.intro c9 Q6) (Vl Z Y e3) ?_;apply kI Z h<;>intro h
  .cases h;exact kR Z
  exact c _ [] _ (wrap .i64 (x1+1)) Pq h
 cases h;exact kR Z
def F6 (N:Nat)(a:Sl Sm)(b:Sl Sm):Option Bool:= if ((a.n:Int) != (b.n:Int)) then some false else Q7 N (fun c (x1:Int)=>if (decide (x1<(a.n:Int))) then if (((0:Int)<=x1/\x1<(a.n:Int))/\((0:Int)<=x1/\x1<(b.n:Int)))then if ((((a.g x1.toNat).Plus==(b.g x1.toNat).Plus)&&((a.g x1.toNat).Minus==(b.g x1.toNat).Minus)) != true) then some false else c (wrap .i64 (x1+1)) else none else some true) 0
theorem AH {a:Sl Sm}{b:Sl Sm}{y:Bool}(h:F6 N a b=some y) :FunO S O4 [.p (vSl 2 A0 a),.p (vSl 2 A0 b)] [] (pB y) ([]) []:=by
 unfold F6 at h;refine A3 Z func74 ?_;apply kI Z h<;>intro h
 .cases h;exact kR Z
 refine H0 Z Pq h (fun x1=>⟨[(13,pN x1),(12,pN (a.n:Int)),(1,.p (vSl 2 A0 b)),(0,.p (vSl 2 A0 a))],[]⟩) (ids:=[]) (fun _ _ _ _ _ c x1 d h=>?_);apply kI Z h<;>intro h
 .refine E3 Z Pq [2,3,6,7] ?_;obtain⟨c9,h⟩:=D6 h;refine H3 (And.intro (And.intro (And.intro (And.intro c9.1 Q6) c9.2) Q6) (by decide +kernel:Ad0 Tryz.prog B8=true)) ?_;apply kI Z h<;>intro h
  .cases h;exact kR Z
  exact d _ [] _ (wrap .i64 (x1+1)) Pq h
 cases h;exact kR Z
def S2 (N:Nat)(a:Sl Sm)(b:Sl Sm):Option Bool:= (F6 N a b).bind fun y1=>some y1
theorem Ef {a:Sl Sm}{b:Sl Sm}{y:Bool}(h:S2 N a b=some y) :FunO S Lx [.p (vSl 2 A0 a),.p (vSl 2 A0 b)] [] (pB y) ([]) []:=by unfold S2 at h;refine A3 Z func45 ?_;refine kC Z h (AH Z Y) (fun y1 h=>?_);cases h;exact kR Z
def P5 (N:Nat)(a:Sm):Option Bool:= some (((F4 .and .u32 a.Plus a.Minus)==0)&&((shI .shr .u32 (F4 .or .u32 a.Plus a.Minus) 24)==0))
theorem Eg {a:Sm}{y:Bool}(h:P5 N a=some y) :FunO S LG [.p (.agg (A0 a))] [] (pB y) ([]) []:=by
 unfold P5 at h;refine A3 Z func152 ?_;obtain⟨t1,c⟩:∃x:Bool,x=(((F4 .and .u32 a.Plus a.Minus)==0)&&((shI .shr .u32 (F4 .or .u32 a.Plus a.Minus) 24)==0)):=⟨_,rfl⟩;refine Wx Z Pq (A5 Z) 0 ⟨[(2,pB t1)],[]⟩ (fun M1 d=>?_) ?_
 .refine Ek Z Pq (b:=(F4 .and .u32 a.Plus a.Minus)==0) (fun c2=>?_) (fun c2=>?_)
  .exact d _ [] _ (by decide:(0:Int)<=24) (hle:=klR [(0,.eq (.bb ((shI .shr .u32 (F4 .or .u32 a.Plus a.Minus) 24)==0)) (.bb t1))] (al1 (by simp only[c,c2,Leaf.ok,pm,Pn,Po]) al0))
  exact d _ [] _ Pq (hle:=klR [(0,.eq (.bb false) (.bb t1))] (al1 (by simp only[c,c2,Leaf.ok,pm,Pn,Po]) al0))
 subst c;cases h;exact kR Z
def Q3 (N:Nat)(b:Int):Option (Nat->Int):= S0 N (fun a (x1:Nat->Int) (x2:Int)=>if (decide (x2<(wrap .i64 (b+1)))) then if (((0:Int)<=x2/\((0:Int)<=x2/\x2<33))/\(0+x2.toNat*1)<33)then a (NJ x1 (0+x2.toNat*1) (shI .shl .u64 1 x2)) (wrap .i64 (x2+1)) else none else some x1) (fun _=>0) 0
theorem DJ {a:Int}{y:Nat->Int}(h:Q3 N a=some y) :FunO S GN [pN a] [] (.p (.agg (cA 33 (pI .u64) y))) ([]) []:=by
 unfold Q3 at h;refine A3 Z func242 ?_;refine G9 Z Pq h (fun x1 x2=>⟨[(7,pN x2),(6,pN (wrap .i64 (a+1))),(3,.reg 4000 0),(2,.reg 3000 0)],[(4000,.arr 33 (fun i=>pI .u64 (x1 i))),(3000,.arr 33 (fun i=>pI .u64 ((fun _=>0) i)))]⟩) (ids:=[(3000,3000),(4000,4000)]) (fun _ _ _ _ _ b x1 x2 d h=>?_) (hle:=klR [(2,.fn 33 33 (fun i=>[(fun i=>(List.replicate 33 (pI .u64 0)).getD i default) i]) (fun i=>[pI .u64 ((fun _=>0) i)])),(3,.fn 33 33 (fun i=>[(fun i=>(List.replicate 33 (pI .u64 0)).getD i default) i]) (fun i=>[pI .u64 ((fun _=>0) i)]))] (al1 ⟨rfl,Cj (z:=pI .u64 0) rfl⟩ (al1 ⟨rfl,Cj (z:=pI .u64 0) rfl⟩ al0)));apply kI Z h<;>intro h
 .obtain⟨c4,h⟩:=D6 h;exact d _ [(3000,3000),(4000,4000)] _ (NJ x1 (0+x2.toNat*1) (shI .shl .u64 1 x2)) (wrap .i64 (x2+1)) c4 h (hle:=klR [(2,.fn 33 33 (fun i=>[(fun i=>if i=(0+x2.toNat*1)then (pI .u64 (shI .shl .u64 1 x2))else (fun i=>pI .u64 (x1 i)) i) i]) (fun i=>[pI .u64 (NJ x1 (0+x2.toNat*1) (shI .shl .u64 1 x2) i)]))] (al1 ⟨rfl,AV2 (c:=pI .u64) (v:=x1) (x:=shI .shl .u64 1 x2) (fun _ _=>rfl) rfl⟩ al0))
 obtain rfl:=C4 h;exact A9 Z (And.intro rfl (G2 _ _):(0:Nat)=0/\(CK 33 (fun i=>pI .u64 (x1 i))).length=33) ⟨[(2,.reg 3000 0)],[(3000,.arr 33 (fun i=>pI .u64 (x1 i)))]⟩ [] (ids:=[(3000,3000)]) ⟨rfl,rfl,rfl⟩ (hle:=klR [(0,.fn 33 33 (fun i=>[(fun i=>(cA 33 (pI .u64) x1).getD i default) i]) (fun i=>[pI .u64 (x1 i)]))] (al1 ⟨rfl,F2 33 (fun i=>pI .u64 (x1 i))⟩ al0))
def O1 (N:Nat)(p_x:Nat->Int)(b:Nat->Int):Option (Nat->Int):= S0 N (fun a (x1:Nat->Int) (x2:Int)=>if (decide (x2<33)) then if (((0:Int)<=x2/\x2<33)/\(0+x2.toNat*1)<33)then if (((((0:Int)<=x2/\x2<33)/\(0+x2.toNat*1)<33)/\((0:Int)<=x2/\x2<33))/\(0+x2.toNat*1)<33)then a (NJ x1 (0+x2.toNat*1) (F4 .or .u64 (x1 (0+x2.toNat*1)) (b (0+x2.toNat*1)))) (wrap .i64 (x2+1)) else none else none else some x1) p_x 0
theorem Eh {p_x:Nat->Int}{a:Nat->Int}{y:Nat->Int}(h:O1 N p_x a=some y) :FunO S Eb [.reg 0 0,.reg 1 0] [.arr 33 (fun i=>pI .u64 (p_x i)),.arr 33 (fun i=>pI .u64 (a i))] (.tup []) ([.arr 33 (fun i=>pI .u64 (y i)),.arr 33 (fun i=>pI .u64 (a i))]) [true,true]:=by
 unfold O1 at h;refine A3 Z func240 ?_;refine G9 Z Pq h (fun x1 x2=>⟨[(7,pN x2),(6,.reg 1 0),(0,.reg 0 0)],[(1,.arr 33 (fun i=>pI .u64 (a i))),(0,.arr 33 (fun i=>pI .u64 (x1 i)))]⟩) (ids:=[(0,0),(1,1)]) (fun _ _ _ _ _ b x1 x2 d h=>?_);apply kI Z h<;>intro h
 .refine Ep Z Pq ?_;obtain⟨c8,h⟩:=D6 h;refine H3 c8 ?_;refine Ep Z Pq ?_;obtain⟨c9,h⟩:=D6 h;refine H3 c9 ?_;exact d _ [(0,0),(1,1)] _ (NJ x1 (0+x2.toNat*1) (F4 .or .u64 (x1 (0+x2.toNat*1)) (a (0+x2.toNat*1)))) (wrap .i64 (x2+1)) Pq h (hle:=klR [(2,.fn 33 33 (fun i=>[(fun i=>if i=(0+x2.toNat*1)then (pI .u64 (F4 .or .u64 (x1 (0+x2.toNat*1)) (a (0+x2.toNat*1))))else (fun i=>pI .u64 (x1 i)) i) i]) (fun i=>[pI .u64 (NJ x1 (0+x2.toNat*1) (F4 .or .u64 (x1 (0+x2.toNat*1)) (a (0+x2.toNat*1))) i)]))] (al1 ⟨rfl,AV2 (c:=pI .u64) (v:=x1) (x:=F4 .or .u64 (x1 (0+x2.toNat*1)) (a (0+x2.toNat*1))) (fun _ _=>rfl) rfl⟩ al0))
 obtain rfl:=C4 h;exact A9 Z Pq ⟨[],[(1,.arr 33 (fun i=>pI .u64 (a i))),(0,.arr 33 (fun i=>pI .u64 (x1 i)))]⟩ [0,1] (ids:=[(0,0),(1,1)]) ⟨rfl,rfl,rfl⟩
def Ao (N:Nat)(b:Sl Sm)(a:Int):Option Int:= if ((decide (a<0))||(decide ((b.n:Int)<a))) then some 3 else some 0
theorem JS {c:Sl Sm}{b:Int}{y:Int}(h:Ao N c b=some y) :FunO S JO [.p (vSl 2 A0 c),pN b] [] (pN y) ([]) []:=by
 unfold Ao at h;refine A3 Z func215 ?_;refine kB Z (A5 Z) Pq Pq 5 (.o (.a (decide (b<0))) (.a (decide ((c.n:Int)<b)))) ?_;apply kI Z h<;>intro h
 .cases h;exact kR Z
 cases h;exact kR Z
def AU (N:Nat)(a:Pat):Option Int:= if (if (a.Kind==0) then a.Kind==0 else (if (a.Kind==2) then a.Kind==2 else a.Kind==6)) then lt (fun (z1:Bool)=>if z1 then some 2 else (P5 N a.Is).bind fun y1=>if (!y1) then some 14 else some 0) fun k1=>if (((a.Is.Plus==0)&&(a.Is.Minus==0)) != true) then k1 true else if a.Not then k1 true else if (a.Min != 0) then k1 true else if (a.Max != 0) then k1 true else k1 (decide (0<(a.L.n:Int))) else if (a.Kind==1) then lt (fun (z2:Bool)=>if z2 then some 2 else (P5 N a.Is).bind fun y2=>if (!y2) then some 14 else some 0) fun k2=>if (((0==0)&&(0==0)) != true) then k2 true else if (a.Min != 0) then k2 true else if (a.Max != 0) then k2 true else k2 (decide (0<(a.L.n:Int))) else lt (fun (z3:Int×Int)=>if (((((((a.Is.Plus==0)&&(a.Is.Minus==0)) != true)||a.Not)||(z3.1 != 0))||(z3.2 != 0))||(decide (0<0))) then some 2 else (P5 N a.Is).bind fun y3=>if (!y3) then some 14 else some 0) fun k3=>if (if (a.Kind==3) then a.Kind==3 else a.Kind==4) then k3 (a.Min,a.Max) else if (a.Kind==5) then if (((((a.L.n:Int) != 1)||(decide (a.Min<0)))||(decide (32<a.Min)))||((a.Max != (-1))&&((decide (a.Max<a.Min))||(decide (32<a.Max))))) then some 2 else k3 (0,0) else some 2
theorem Pv {c:Pat}{y:Int}(h:AU N c=some y) :FunO S HZ [.p (.agg (D2 c))] [] (pN y) ([]) []:=by
 unfold AU at h;refine A3 Z func130 ?_;obtain⟨t1,f⟩:∃x:Bool,x=(if (c.Kind==0) then c.Kind==0 else (if (c.Kind==2) then c.Kind==2 else c.Kind==6)):=⟨_,rfl⟩;refine Wx Z Pq (A5 Z) 0 ⟨[(8,pB t1),(7,pN c.Kind),(3,.reg 4000 0),(1,.reg 2000 0)],[(4000,.cells [pN 0,pU c.Is.Plus,pU c.Is.Minus,pB c.Not,pN c.Min,pN c.Max,.p (.sl false 7 c.L.n (Bt c))]),(2000,.cells ((D2 c).map .p))]⟩ (fun M1 l=>?_) ?_
 .refine D4 Z Pq (b:=c.Kind==0) (fun c3=>?_) (fun c3=>?_)
  .exact l _ [(2000,2000),(4000,4000)] _ Pq (hle:=klR [(0,.eq (.bb (c.Kind==0)) (.bb t1))] (al1 (by simp only[f,c3,Leaf.ok,pm,Pn,Po]) al0))
  refine D4 Z Pq (b:=c.Kind==2) (fun c4=>?_) (fun c4=>?_)
  .exact l _ [(2000,2000),(4000,4000)] _ Pq (hle:=klR [(0,.eq (.bb (c.Kind==2)) (.bb t1))] (al1 (by simp only[f,c3,c4,Leaf.ok,pm,Pn,Po]) al0))
  exact l _ [(2000,2000),(4000,4000)] _ Pq (hle:=klR [(0,.eq (.bb (c.Kind==6)) (.bb t1))] (al1 (by simp only[f,c3,c4,Leaf.ok,pm,Pn,Po]) al0))
 subst f;apply kI Z h<;>intro h
 .refine EC Z (by decide +kernel:Ad0 Tryz.prog B8=true) (A5 Z) h 0 (fun z1=>⟨[(57,pB z1),(1,.reg 2000 0)],[(2000,.cells ((D2 c).map .p))]⟩) (fun M3 k1 d h=>?_) (fun z1 h=>?_)
  .refine kG Z h (fun h=>?_) (fun h=>?_)
   .exact d _ [(2000,2000)] _ true Pq h
   refine kG Z h (fun h=>?_) (fun h=>?_)
   .exact d _ [(2000,2000)] _ true Pq h
   refine kG Z h (fun h=>?_) (fun h=>?_)
   .exact d _ [(2000,2000)] _ true Pq h
   refine kG Z h (fun h=>?_) (fun h=>?_)
   .exact d _ [(2000,2000)] _ true Pq h
   refine P0 Z Pq 79 ⟨[(78,.p (vSl 7 D2 c.L)),(76,.p (.v (.bool false))),(1,.reg 2000 0)],[(2000,.cells ((D2 c).map .p))]⟩ (ids:=[(2000,2000)]) ?_ (hle:=klR [(0,.fn c.L.n c.L.n (Bt c) (fun i=>D2 (c.L.g i)))] (al1 ⟨rfl,R6 c⟩ al0));exact d _ [(2000,2000)] _ (decide (0<(c.L.n:Int))) Pq h
  apply kI Z h<;>intro h
  .cases h;exact kR Z
  refine kC Z h (Eg Z Y) (fun y1 h=>?_);apply kI Z h<;>intro h
  .cases h;exact kR Z
  cases h;exact kR Z
 apply kI Z h<;>intro h
 .refine EC Z (by decide +kernel:Ad0 Tryz.prog B8=true) (A5 Z) h 0 (fun z2=>⟨[(57,pB z2),(1,.reg 2000 0)],[(2000,.cells ((D2 c).map .p))]⟩) (fun M5 k2 j h=>?_) (fun z2 h=>?_)
  .refine kG Z h (fun h=>?_) (fun h=>?_)
   .exact j _ [(2000,2000)] _ true Pq h
   refine Ek Z Pq (b:=false) (fun c54=>?_) (fun c54=>?_)
   .exact Bool.noConfusion ((rfl:false=false).symm.trans c54)
   refine kG Z h (fun h=>?_) (fun h=>?_)
   .exact j _ [(2000,2000)] _ true Pq h
   refine kG Z h (fun h=>?_) (fun h=>?_)
   .exact j _ [(2000,2000)] _ true Pq h
   refine P0 Z Pq 79 ⟨[(78,.p (vSl 7 D2 c.L)),(76,.p (.v (.bool false))),(1,.reg 2000 0)],[(2000,.cells ((D2 c).map .p))]⟩ (ids:=[(2000,2000)]) ?_ (hle:=klR [(0,.fn c.L.n c.L.n (Bt c) (fun i=>D2 (c.L.g i)))] (al1 ⟨rfl,R6 c⟩ al0));exact j _ [(2000,2000)] _ (decide (0<(c.L.n:Int))) Pq h
  apply kI Z h<;>intro h
  .cases h;exact kR Z
  refine kC Z h (Eg Z Y) (fun y2 h=>?_);apply kI Z h<;>intro h
  .cases h;exact kR Z
  cases h;exact kR Z
 obtain⟨t4,m⟩:∃x:Bool,x=(if (c.Kind==3) then c.Kind==3 else c.Kind==4):=⟨_,rfl⟩;refine Wx Z Pq (A5 Z) 0 ⟨[(17,pB t4),(7,pN c.Kind),(3,.reg 4000 0),(1,.reg 2000 0)],[(4000,.cells [pN 0,pU c.Is.Plus,pU c.Is.Minus,pB c.Not,pN c.Min,pN c.Max,.p (.sl false 7 c.L.n (Bt c))]),(2000,.cells ((D2 c).map .p))]⟩ (fun M6 q=>?_) ?_
 .refine D4 Z Pq (b:=c.Kind==3) (fun c60=>?_) (fun c60=>?_)
  .exact q _ [(2000,2000),(4000,4000)] _ Pq (hle:=klR [(0,.eq (.bb (c.Kind==3)) (.bb t4))] (al1 (by simp only[m,c60,Leaf.ok,pm,Pn,Po]) al0))
  exact q _ [(2000,2000),(4000,4000)] _ Pq (hle:=klR [(0,.eq (.bb (c.Kind==4)) (.bb t4))] (al1 (by simp only[m,c60,Leaf.ok,pm,Pn,Po]) al0))
 subst m;refine EC Z Pq (A5 Z) h 0 (fun z3=>⟨[(3,.reg 4000 0),(1,.reg 2000 0)],[(4000,.cells [pN 0,pU c.Is.Plus,pU c.Is.Minus,pB c.Not,pN z3.1,pN z3.2,.p M8]),(2000,.cells ((D2 c).map .p))]⟩) (fun M7 k3 r h=>?_) (fun z3 h=>?_)
 .apply kI Z h<;>intro h
  .exact r _ [(2000,2000),(4000,4000)] _ (c.Min,c.Max) Pq h
  apply kI Z h<;>intro h
  .refine P0 Z Pq 25 ⟨[(24,.p (vSl 7 D2 c.L)),(3,.reg 4000 0),(1,.reg 2000 0)],[(4000,.cells [pN 0,pU c.Is.Plus,pU c.Is.Minus,pB c.Not,pN c.Min,pN c.Max,.p (.sl false 7 c.L.n (Bt c))]),(2000,.cells ((D2 c).map .p))]⟩ (ids:=[(2000,2000),(4000,4000)]) ?_ (hle:=klR [(0,.fn c.L.n c.L.n (Bt c) (fun i=>D2 (c.L.g i)))] (al1 ⟨rfl,R6 c⟩ al0));refine kB Z (A5 Z) Pq Pq 26 (.o (.o (.o (.a ((c.L.n:Int) != 1)) (.a (decide (c.Min<0)))) (.a (decide (32<c.Min)))) (.n (.a (c.Max != (-1))) (.o (.a (decide (c.Max<c.Min))) (.a (decide (32<c.Max)))))) ?_;apply kI Z h<;>intro h
   .cases h;exact kR Z
   exact r _ [(2000,2000),(4000,4000)] _ (0,0) Pq h
  cases h;exact kR Z
 refine kB Z (A5 Z) (by decide +kernel:Ad0 Tryz.prog B8=true) Pq 19 (.o (.o (.o (.o (.a (((c.Is.Plus==0)&&(c.Is.Minus==0)) != true)) (.a c.Not)) (.a (z3.1 != 0))) (.a (z3.2 != 0))) (.a (decide (0<0)))) ?_;apply kI Z h<;>intro h
 .cases h;exact kR Z
 refine kC Z h (Eg Z Y) (fun y3 h=>?_);apply kI Z h<;>intro h
 .cases h;exact kR Z
 cases h;exact kR Z
def ED (N:Nat)(a:Pat):Option Int:= if ((decide (a.Kind<0))||(decide (6<a.Kind))) then some 2 else if ((a.Kind != 1)&&((((a.Is.Plus==0)&&(a.Is.Minus==0)) != true)||a.Not)) then some 2 else lt (fun (z1:Bool)=>if z1 then some 2 else if ((a.Kind != 5)&&((a.Min != 0)||(a.Max != 0))) then some 2 else lt (fun (z2:Bool)=>if z2 then some 2 else (S7 N a.Is).bind fun y1=>if (!y1) then some 14 else some 0) fun k2=>if (a.Kind==5) then if ((a.L.n:Int) != 1) then k2 true else if (decide (a.Min<0)) then k2 true else if (decide (32<a.Min)) then k2 true else if (a.Max != (-1)) then if (decide (a.Max<a.Min)) then k2 true else k2 (decide (32<a.Max)) else k2 false else k2 false) fun k1=>if (a.Kind != 3) then if (a.Kind != 4) then if (a.Kind != 5) then k1 (decide (0<(a.L.n:Int))) else k1 false else k1 false else k1 false
def Dj (N:Nat)(b:Sm)(a:Sm):Option Bool:= some (((F4 .and .u32 b.Plus a.Plus)==a.Plus)&&((F4 .and .u32 b.Minus a.Minus)==a.Minus))
def CZ (N:Nat)(a:Int):Option (Sl Int):= if ((0:Int)<=(wrap .i64 (a+1))/\(wrap .i64 (a+1))<=(wrap .i64 (a+1))/\(wrap .i64 (a+1))*8<=140737488355328/\(wrap .i64 (a+1))<=140737488355328)then S0 N (fun b (x1:Sl Int) (x2:Int)=>if (decide (x2<=a)) then if (((0:Int)<=x2/\((0:Int)<=x2/\x2<(x1.n:Int)))/\x2.toNat<x1.n)then b (x1.upd x2.toNat (shI .shl .u64 1 x2)) (wrap .i64 (x2+1)) else none else some x1) (Sl.rep (wrap .i64 (a+1)).toNat 0:Sl Int) 0 else none
def Y2 (N:Nat)(p_x:Sl Int)(b:Sl Int):Option (Sl Int):= if ((0:Int)<=(p_x.n:Int)/\(p_x.n:Int)<=(p_x.n:Int)/\(p_x.n:Int)*8<=140737488355328/\(p_x.n:Int)<=140737488355328)then S0 N (fun c (x3:Sl Int) (x4:Int)=>if (decide (x4<(p_x.n:Int))) then S0 N (fun a (x7:Sl Int) (x8:Int)=>if (decide (x8<(b.n:Int))) then if (((0:Int)<=x4/\x4<(p_x.n:Int))/\(0:Int)<=x8)then if ((F4 .and .u64 (shI .shr .u64 (p_x.g x4.toNat) x8) 1)==1) then if ((((((0:Int)<=x4/\x4<(x7.n:Int))/\x4.toNat<x7.n)/\((0:Int)<=x8/\x8<(b.n:Int)))/\((0:Int)<=x4/\x4<(x7.n:Int)))/\x4.toNat<x7.n)then a (x7.upd x4.toNat (F4 .or .u64 (x7.g x4.toNat) (b.g x8.toNat))) (wrap .i64 (x8+1)) else none else a x7 (wrap .i64 (x8+1)) else none else c x7 (wrap .i64 (x4+1))) x3 0 else some x3) (Sl.rep (p_x.n:Int).toNat 0:Sl Int) 0 else none
def Da (N:Nat)(p_x:Sl Int)(b:Sl Int):Option (Sl Int):= if ((0:Int)<=(p_x.n:Int)/\(p_x.n:Int)<=(p_x.n:Int)/\(p_x.n:Int)*8<=140737488355328/\(p_x.n:Int)<=140737488355328)then S0 N (fun a (x1:Sl Int) (x2:Int)=>if (decide (x2<(p_x.n:Int))) then if (((((0:Int)<=x2/\x2<(p_x.n:Int))/\((0:Int)<=x2/\x2<(b.n:Int)))/\((0:Int)<=x2/\x2<(x1.n:Int)))/\x2.toNat<x1.n)then a (x1.upd x2.toNat (F4 .or .u64 (p_x.g x2.toNat) (b.g x2.toNat))) (wrap .i64 (x2+1)) else none else some x1) (Sl.rep (p_x.n:Int).toNat 0:Sl Int) 0 else none
def Dk (N:Nat)(p_x:Sl Int)(b:Sl Int):Option Bool:= Q7 N (fun a (x1:Int)=>if (decide (x1<(p_x.n:Int))) then if (((0:Int)<=x1/\x1<(p_x.n:Int))/\((0:Int)<=x1/\x1<(b.n:Int)))then if ((p_x.g x1.toNat) != (b.g x1.toNat)) then some false else a (wrap .i64 (x1+1)) else none else some true) 0
end Go.AM
namespace Go.AM
variable {N:Nat}
open IntKind (wrap)
open Go.Proofs
set_option maxRecDepth 10000
set_option maxHeartbeats 2000000
variable {S:U3}(Z:H2 S Tryz.prog) (Y:Ij S)
include Z Y
def BJ (rec:Pat->Int->Option Int)(N:Nat)(b:Pat)(a:Int):Option Int:= S0 N (fun c (x1:Int) (x2:Int)=>if ((decide (x2<(b.L.n:Int)))&&(decide (x1<=40))) then if ((0:Int)<=x2/\x2<(b.L.n:Int))then (rec (b.L.g x2.toNat) x1).bind fun y3=>c y3 (wrap .i64 (x2+1)) else none else some x1) (wrap .i64 (a+1)) 0
def Bk:Nat->Pat->Int->Option Int
 |0=>fun _ _=>none
 |N+1=>BJ (Bk N) N
theorem Vm {rec:Pat->Int->Option Int}(d:∀{b:Pat}{c:Int}{y:Int},rec b c=some y->FunO S FA [.p (.agg (D2 b)),pN c] [] (pN y) ([]) []){b:Pat}{c:Int}{y:Int}(h:BJ rec N b c=some y) :FunO S FA [.p (.agg (D2 b)),pN c] [] (pN y) ([]) []:=by
 unfold BJ at h;refine A3 Z Tryz.func78 ?_;refine G9 Z Pq h (fun x1 x2=>⟨[(6,pN x2),(5,pN x1),(2,.reg 3000 0)],[(3000,.cells ((D2 b).map .p))]⟩) (ids:=[(3000,3000)]) (fun _ _ _ _ _ f x1 x2 j h=>?_);refine P0 Z Pq 12 ⟨[(11,.p (vSl 7 D2 b.L)),(9,pN x2),(6,pN x2),(5,pN x1),(2,.reg 3000 0)],[(3000,.cells ((D2 b).map .p))]⟩ (ids:=[(3000,3000)]) ?_ (hle:=klR [(0,.fn b.L.n b.L.n (Bt b) (fun i=>D2 (b.L.g i)))] (al1 ⟨rfl,R6 b⟩ al0));refine kB Z (A5 Z) Pq Pq 3 (.n (.a (decide (x2<(b.L.n:Int)))) (.a (decide (x1<=40)))) ?_;apply kI Z h<;>intro h
 .refine P0 Z Pq 23 ⟨[(22,pN x2),(21,.p (vSl 7 D2 b.L)),(6,pN x2),(5,pN x1),(2,.reg 3000 0)],[(3000,.cells ((D2 b).map .p))]⟩ (ids:=[(3000,3000)]) ?_ (hle:=klR [(1,.fn b.L.n b.L.n (Bt b) (fun i=>D2 (b.L.g i)))] (al1 ⟨rfl,R6 b⟩ al0));obtain⟨c6,h⟩:=D6 h;obtain⟨y3,e3,h⟩:=B9 h;refine C6 Z [] (And.intro c6 Ri) (d e3) ?_;exact j _ [(3000,3000)] _ y3 (wrap .i64 (x2+1)) Pq h
 cases h;exact kR Z
theorem XS {b:Pat}{a:Int}{y:Int}(h:Bk N b a=some y) :FunO S FA [.p (.agg (D2 b)),pN a] [] (pN y) ([]) []:=by
 induction N generalizing b a y with
 |zero=>cases (show (none:Option Int)=some y from h)
 |succ N ih=>exact Vm Z Y (fun e=>ih e) h
def Dg (N:Nat)(a:Pat):Option Int:= (Bk N a 0).bind fun y1=>some y1
theorem QP {a:Pat}{y:Int}(h:Dg N a=some y) :FunO S QL [.p (.agg (D2 a))] [] (pN y) ([]) []:=by unfold Dg at h;refine A3 Z Tryz.func48 ?_;refine kC Z h (XS Z Y) (fun y1 h=>?_);cases h;exact kR Z
def Y3 (rec:Pat->Int->Option (Int×Int))(N:Nat)(b:Pat)(a:Int):Option (Int×Int):= if (a==40) then some (a,12) else (ED N b).bind fun y1=>if (y1 != 0) then some (a,y1) else S0 N (fun c (x1:Int) (x2:Int)=>if (decide (x2<(b.L.n:Int))) then if ((0:Int)<=x2/\x2<(b.L.n:Int))then (rec (b.L.g x2.toNat) x1).bind fun y4=>if (y4.2 != 0) then some (y4.1,y4.2) else c y4.1 (wrap .i64 (x2+1)) else none else some (x1,0)) (wrap .i64 (a+1)) 0
def Db:Nat->Pat->Int->Option (Int×Int)
 |0=>fun _ _=>none
 |N+1=>Y3 (Db N) N
def Bh (N:Nat)(a:Pat):Option Int:= (Db N a 0).bind fun y1=>some y1.2
def BW (N:Nat)(a:Str):Option Bool:= Q7 N (fun b (x1:Int)=>if (decide (x1<(a.length:Int))) then if ((0:Int)<=x1/\x1<(a.length:Int))then if (!(((((decide (97<=(Aw a x1)))&&(decide ((Aw a x1)<=122)))||((decide (65<=(Aw a x1)))&&(decide ((Aw a x1)<=90))))||((decide (48<=(Aw a x1)))&&(decide ((Aw a x1)<=57))))||((Aw a x1)==45))) then some false else b (wrap .i64 (x1+1)) else none else some ((decide (1<=(a.length:Int)))&&(decide ((a.length:Int)<=24)))) 0
def EE (N:Nat)(p_x:FS)(a:Int):Option Bool:= lt (fun (z1:Bool)=>if z1 then some false else if ((((F4 .and .u32 p_x.Clear (F4 .or .u32 p_x.Set.Plus p_x.Set.Minus)) != 0)||((F4 .and .u32 p_x.Take (F4 .or .u32 p_x.Set.Plus p_x.Set.Minus)) != 0))||((F4 .and .u32 p_x.Take p_x.Clear) != 0)) then some false else if (p_x.Take==0) then some (p_x.Of==0) else some ((decide (0<=p_x.Of))&&(decide (p_x.Of<a)))) fun k1=>if (decide (p_x.From<(-1))) then k1 true else if (decide (a<=p_x.From)) then k1 true else (J1 N p_x.Set).bind fun y2=>if (!y2) then k1 true else if ((F4 .andNot .u32 p_x.Clear 16777215) != 0) then k1 true else k1 ((F4 .andNot .u32 p_x.Take 16777215) != 0)
def Y4 (N:Nat)(a:Law):Option Int:= (BW N a.Name).bind fun y1=>lt (fun (z1:Bool)=>if z1 then some 17 else if (((((decide (4<(a.If.n:Int)))||(decide (6<(a.Out.n:Int))))||((wrap .i64 ((a.If.n:Int)+(a.Out.n:Int)))==0))||(decide (a.Mode<1)))||(decide (3<a.Mode))) then some 17 else Q7 N (fun b (x2:Int)=>if (decide (x2<(a.If.n:Int))) then if ((0:Int)<=x2/\x2<(a.If.n:Int))then (J1 N (a.If.g x2.toNat)).bind fun y8=>if (!y8) then some 17 else b (wrap .i64 (x2+1)) else none else Q7 N (fun c (x3:Int)=>if (decide (x3<(a.Out.n:Int))) then if ((0:Int)<=x3/\x3<(a.Out.n:Int))then (EE N (a.Out.g x3.toNat) (a.If.n:Int)).bind fun d=>if (!d) then some 17 else c (wrap .i64 (x3+1)) else none else some 0) 0) 0) fun k1=>if (!y1) then k1 true else (Bh N a.Left).bind fun y4=>if (y4 != 0) then k1 true else (Bh N a.Right).bind fun y5=>k1 (y5 != 0)
def BX (N:Nat)(a:Sl Law):Option Int:= if (decide (64<(a.n:Int))) then some 12 else Q7 N (fun b (x1:Int)=>if (decide (x1<(a.n:Int))) then if ((0:Int)<=x1/\x1<(a.n:Int))then (Y4 N (a.g x1.toNat)).bind fun y3=>if (y3 != 0) then some 17 else b (wrap .i64 (x1+1)) else none else some 0) 0
def Fl (N:Nat)(a:Law)(b:Sl Sm):Option Int:= (Y4 N a).bind fun y1=>if (y1 != 0) then some y1 else (Y1 N b).bind fun y2=>some y2
def Dc (N:Nat)(a:Pat)(b:Sl Sm):Option Int:= (Bh N a).bind fun y1=>if (y1==0) then (Y1 N b).bind fun y2=>some y2 else some y1
def Bu (rec:Pat->(Sl Sm)->Option (Sl Int))(N:Nat)(a:Pat)(c:Sl Sm):Option (Sl Int):= if ((0:Int)<=(wrap .i64 ((c.n:Int)+1))/\(wrap .i64 ((c.n:Int)+1))<=(wrap .i64 ((c.n:Int)+1))/\(wrap .i64 ((c.n:Int)+1))*8<=140737488355328/\(wrap .i64 ((c.n:Int)+1))<=140737488355328)then S0 N (fun b (x1:Sl Int) (x2:Int)=>if (decide (x2<=(c.n:Int))) then if (a.Kind==0) then if (((0:Int)<=x2/\((0:Int)<=x2/\x2<(x1.n:Int)))/\x2.toNat<x1.n)then b (x1.upd x2.toNat (shI .shl .u64 1 x2)) (wrap .i64 (x2+1)) else none else if (a.Kind==1) then if (decide (x2<(c.n:Int))) then if ((0:Int)<=x2/\x2<(c.n:Int))then (Dj N (c.g x2.toNat) a.Is).bind fun y3=>if ((y3==a.Not) != true) then if (((0:Int)<=(wrap .i64 (x2+1))/\((0:Int)<=x2/\x2<(x1.n:Int)))/\x2.toNat<x1.n)then b (x1.upd x2.toNat (shI .shl .u64 1 (wrap .i64 (x2+1)))) (wrap .i64 (x2+1)) else none else b x1 (wrap .i64 (x2+1)) else none else b x1 (wrap .i64 (x2+1)) else if (a.Kind==2) then if (x2==0) then if (((0:Int)<=x2/\x2<(x1.n:Int))/\x2.toNat<x1.n)then b (x1.upd x2.toNat 1) (wrap .i64 (x2+1)) else none else b x1 (wrap .i64 (x2+1)) else if (a.Kind==6) then if (x2==(c.n:Int)) then if (((0:Int)<=x2/\((0:Int)<=x2/\x2<(x1.n:Int)))/\x2.toNat<x1.n)then b (x1.upd x2.toNat (shI .shl .u64 1 x2)) (wrap .i64 (x2+1)) else none else b x1 (wrap .i64 (x2+1)) else b x1 (wrap .i64 (x2+1)) else if (a.Kind==3) then (CZ N (c.n:Int)).bind fun y4=>S0 N (fun i (x3:Sl Int) (x4:Int)=>if (decide (x4<(a.L.n:Int))) then if ((0:Int)<=x4/\x4<(a.L.n:Int))then (rec (a.L.g x4.toNat) c).bind fun y9=>(Y2 N x3 y9).bind fun o=>i o (wrap .i64 (x4+1)) else none else some x3) y4 0 else if (a.Kind==4) then S0 N (fun j (x5:Sl Int) (x6:Int)=>if (decide (x6<(a.L.n:Int))) then if ((0:Int)<=x6/\x6<(a.L.n:Int))then (rec (a.L.g x6.toNat) c).bind fun q=>(Da N x5 q).bind fun r=>j r (wrap .i64 (x6+1)) else none else some x5) x1 0 else if (a.Kind==5) then if ((0:Int)<=0/\0<(a.L.n:Int))then (rec (a.L.g 0) c).bind fun m=>(CZ N (c.n:Int)).bind fun s=>Am8 N (fun d (x8:Sl Int) (x9:Sl Int) (f:Int)=>if (decide (a.Min<=f)) then (Da N x8 x9).bind fun l=>lt (fun (z3:Bool)=>if z3 then some l else (Y2 N x9 m).bind fun t=>d l t (wrap .i64 (f+1))) fun k3=>if (f==a.Max) then k3 true else if (decide (a.Min<f)) then (Dk N x8 l).bind fun u=>k3 u else k3 false else (Y2 N x9 m).bind fun v=>d x8 v (wrap .i64 (f+1))) x1 s 0 else none else some x1) (Sl.rep (wrap .i64 ((c.n:Int)+1)).toNat 0:Sl Int) 0 else none
def BY:Nat->Pat->(Sl Sm)->Option (Sl Int)
 |0=>fun _ _=>none
 |N+1=>Bu (BY N) N
def Cv (N:Nat)(d:Pat)(c:Sl Sm)(a:Int):Option ((Sl Int)×Int):= (Dc N d c).bind fun y1=>if (y1 != 0) then some (Sh,y1) else if ((decide (a<0))||(decide ((c.n:Int)<a))) then some (Sh,3) else (BY N d c).bind fun y2=>S0 N (fun b (x1:Sl Int) (x2:Int)=>if (decide (x2<=(c.n:Int))) then if ((((0:Int)<=x2/\x2<(y2.n:Int))/\x2.toNat<y2.n)/\(0:Int)<=a)then if ((F4 .and .u64 (shI .shr .u64 (y2.g x2.toNat) a) 1)==1) then if ((x1.n+(Sl.of [x2]:Sl Int).n)*8<=140737488355328/\x1.n+(Sl.of [x2]:Sl Int).n<=140737488355328)then b (x1.push x2) (wrap .i64 (x2+1)) else none else b x1 (wrap .i64 (x2+1)) else none else some (x1,0)) Sh 0
def EF (N:Nat)(d:Pat)(c:Sl Sm)(a:Int):Option ((Sl Int)×Int):= (Dc N d c).bind fun y1=>if (y1 != 0) then some (Sh,y1) else if ((decide (a<0))||(decide ((c.n:Int)<a))) then some (Sh,3) else (BY N d c).bind fun y2=>S0 N (fun b (x1:Sl Int) (x2:Int)=>if (decide (x2<=(c.n:Int))) then if ((((0:Int)<=a/\a<(y2.n:Int))/\a.toNat<y2.n)/\(0:Int)<=x2)then if ((F4 .and .u64 (shI .shr .u64 (y2.g a.toNat) x2) 1)==1) then if ((x1.n+(Sl.of [x2]:Sl Int).n)*8<=140737488355328/\x1.n+(Sl.of [x2]:Sl Int).n<=140737488355328)then b (x1.push x2) (wrap .i64 (x2+1)) else none else b x1 (wrap .i64 (x2+1)) else none else some (x1,0)) Sh 0
def AK (N:Nat)(a:Law)(c:Sl Sm)(b:Int):Option Bool:= if ((decide (b<0))||(decide ((c.n:Int)<(wrap .i64 (b+(a.If.n:Int)))))) then some false else Q7 N (fun d (x1:Int)=>if (decide (x1<(a.If.n:Int))) then if (((0:Int)<=(wrap .i64 (b+x1))/\(wrap .i64 (b+x1))<(c.n:Int))/\((0:Int)<=x1/\x1<(a.If.n:Int)))then (P8 N (c.g (wrap .i64 (b+x1)).toNat) (a.If.g x1.toNat)).bind fun y3=>if (!y3) then some false else d (wrap .i64 (x1+1)) else none else (Cv N a.Left c b).bind fun y4=>(EF N a.Right c (wrap .i64 (b+(a.If.n:Int)))).bind fun y5=>some ((decide (0<(y4.1.n:Int)))&&(decide (0<(y5.1.n:Int))))) 0
def Bv (N:Nat)(a:Law)(b:Sl Sm):Option (Sl Sm):= S0 N (fun c (x1:Sl Sm) (x2:Int)=>if (decide (x2<(a.Out.n:Int))) then if ((0:Int)<=x2/\x2<(a.Out.n:Int))then if ((decide (0<=(a.Out.g x2.toNat).From))=true->((0:Int)<=(a.Out.g x2.toNat).From/\(a.Out.g x2.toNat).From<(b.n:Int)))then (R5 N (⟨(if (decide (0<=(a.Out.g x2.toNat).From)) then (b.g (a.Out.g x2.toNat).From.toNat).Plus else 0),(if (decide (0<=(a.Out.g x2.toNat).From)) then (b.g (a.Out.g x2.toNat).From.toNat).Minus else 0)⟩:Sm) (a.Out.g x2.toNat).Clear (a.Out.g x2.toNat).Set).bind fun y5=>if ((a.Out.g x2.toNat).Take != 0) then if ((0:Int)<=(a.Out.g x2.toNat).Of/\(a.Out.g x2.toNat).Of<(b.n:Int))then (Ad N y5.1 (b.g (a.Out.g x2.toNat).Of.toNat) (a.Out.g x2.toNat).Take).bind fun y6=>if ((x1.n+(Sl.of [y6.1]:Sl Sm).n)*8<=140737488355328/\x1.n+(Sl.of [y6.1]:Sl Sm).n<=140737488355328)then c (x1.push y6.1) (wrap .i64 (x2+1)) else none else none else if ((x1.n+(Sl.of [y5.1]:Sl Sm).n)*8<=140737488355328/\x1.n+(Sl.of [y5.1]:Sl Sm).n<=140737488355328)then c (x1.push y5.1) (wrap .i64 (x2+1)) else none else none else none else some x1) (Sl.nil:Sl Sm) 0
def R7 (N:Nat)(c:Law)(b:Sl Sm)(a:Int):Option (Sl Sm):= if (((0:Int)<=a/\a<=(b.n:Int))/\(((Sl.of []:Sl Sm).n+(b.take a.toNat).n)*8<=140737488355328/\(Sl.of []:Sl Sm).n+(b.take a.toNat).n<=140737488355328))then if ((0:Int)<=a/\a<=(wrap .i64 (a+(c.If.n:Int)))/\(wrap .i64 (a+(c.If.n:Int)))<=(b.n:Int))then (Bv N c (b.sub a.toNat (wrap .i64 (a+(c.If.n:Int))).toNat)).bind fun y1=>if ((((Sl.of []:Sl Sm).app (b.take a.toNat)).n+y1.n)*8<=140737488355328/\((Sl.of []:Sl Sm).app (b.take a.toNat)).n+y1.n<=140737488355328)then if (((0:Int)<=(wrap .i64 (a+(c.If.n:Int)))/\(wrap .i64 (a+(c.If.n:Int)))<=(b.n:Int))/\(((((Sl.of []:Sl Sm).app (b.take a.toNat)).app y1).n+(b.drop (wrap .i64 (a+(c.If.n:Int))).toNat).n)*8<=140737488355328/\(((Sl.of []:Sl Sm).app (b.take a.toNat)).app y1).n+(b.drop (wrap .i64 (a+(c.If.n:Int))).toNat).n<=140737488355328))then some ((((Sl.of []:Sl Sm).app (b.take a.toNat)).app y1).app (b.drop (wrap .i64 (a+(c.If.n:Int))).toNat)) else none else none else none else none
def Gr (N:Nat)(a:Law)(b:Sl Sm):Option ((Sl Int)×(Sl (Sl Sm))×Int):= Ar8 N (fun c (x2:Sl Int) (x3:Sl (Sl Sm)) (x4:Sl Sm) (x5:Int)=>if (decide (x5<=(b.n:Int))) then (AK N a b x5).bind fun y5=>if (!y5) then lt (fun (z3:Sl Sm)=>c x2 x3 z3 (wrap .i64 (x5+1))) fun k3=>if (decide (x5<(b.n:Int))) then if (((0:Int)<=x5/\x5<(b.n:Int))/\((x4.n+(Sl.of [b.g x5.toNat]:Sl Sm).n)*8<=140737488355328/\x4.n+(Sl.of [b.g x5.toNat]:Sl Sm).n<=140737488355328))then k3 (x4.push (b.g x5.toNat)) else none else k3 x4 else if ((0:Int)<=x5/\x5<=(wrap .i64 (x5+(a.If.n:Int)))/\(wrap .i64 (x5+(a.If.n:Int)))<=(b.n:Int))then (Bv N a (b.sub x5.toNat (wrap .i64 (x5+(a.If.n:Int))).toNat)).bind fun y6=>if ((x4.n+y6.n)*8<=140737488355328/\x4.n+y6.n<=140737488355328)then if ((x2.n+(Sl.of [x5]:Sl Int).n)*8<=140737488355328/\x2.n+(Sl.of [x5]:Sl Int).n<=140737488355328)then if (((((Sl.of []:Sl Sm).n+(x4.app y6).n)*8<=140737488355328/\(Sl.of []:Sl Sm).n+(x4.app y6).n<=140737488355328)/\((0:Int)<=(wrap .i64 (x5+(a.If.n:Int)))/\(wrap .i64 (x5+(a.If.n:Int)))<=(b.n:Int)))/\((((Sl.of []:Sl Sm).app (x4.app y6)).n+(b.drop (wrap .i64 (x5+(a.If.n:Int))).toNat).n)*8<=140737488355328/\((Sl.of []:Sl Sm).app (x4.app y6)).n+(b.drop (wrap .i64 (x5+(a.If.n:Int))).toNat).n<=140737488355328))then if (decide (32<((((Sl.of []:Sl Sm).app (x4.app y6)).app (b.drop (wrap .i64 (x5+(a.If.n:Int))).toNat)).n:Int))) then some (Sh,(Sl.nil:Sl (Sl Sm)),11) else if ((x3.n+(Sl.of [((Sl.of []:Sl Sm).app (x4.app y6)).app (b.drop (wrap .i64 (x5+(a.If.n:Int))).toNat)]:Sl (Sl Sm)).n)*24<=140737488355328/\x3.n+(Sl.of [((Sl.of []:Sl Sm).app (x4.app y6)).app (b.drop (wrap .i64 (x5+(a.If.n:Int))).toNat)]:Sl (Sl Sm)).n<=140737488355328)then if ((a.If.n:Int)==0) then if (decide ((wrap .i64 (x5+(a.If.n:Int)))<(b.n:Int))) then if (((0:Int)<=(wrap .i64 (x5+(a.If.n:Int)))/\(wrap .i64 (x5+(a.If.n:Int)))<(b.n:Int))/\(((x4.app y6).n+(Sl.of [b.g (wrap .i64 (x5+(a.If.n:Int))).toNat]:Sl Sm).n)*8<=140737488355328/\(x4.app y6).n+(Sl.of [b.g (wrap .i64 (x5+(a.If.n:Int))).toNat]:Sl Sm).n<=140737488355328))then c (x2.push x5) (x3.push (((Sl.of []:Sl Sm).app (x4.app y6)).app (b.drop (wrap .i64 (x5+(a.If.n:Int))).toNat))) ((x4.app y6).push (b.g (wrap .i64 (x5+(a.If.n:Int))).toNat)) (wrap .i64 ((wrap .i64 (x5+(a.If.n:Int)))+1)) else none else c (x2.push x5) (x3.push (((Sl.of []:Sl Sm).app (x4.app y6)).app (b.drop (wrap .i64 (x5+(a.If.n:Int))).toNat))) (x4.app y6) (wrap .i64 ((wrap .i64 (x5+(a.If.n:Int)))+1)) else c (x2.push x5) (x3.push (((Sl.of []:Sl Sm).app (x4.app y6)).app (b.drop (wrap .i64 (x5+(a.If.n:Int))).toNat))) (x4.app y6) (wrap .i64 (x5+(a.If.n:Int))) else none else none else none else none else none else some (x2,x3,0)) Sh (Sl.nil:Sl (Sl Sm)) (Sl.nil:Sl Sm) 0
def Dl (N:Nat)(b:Law)(c:Sl Sm):Option ((Sl Int)×(Sl (Sl Sm))×Int):= Ar8 N (fun a (x1:Sl Sm) (x2:Sl Int) (x3:Sl (Sl Sm)) (x4:Int)=>if (decide ((wrap .i64 (x4+(b.If.n:Int)))<=(x1.n:Int))) then (AK N b x1 x4).bind fun y5=>if (!y5) then a x1 x2 x3 (wrap .i64 (x4+1)) else (R7 N b x1 x4).bind fun y6=>if (decide (32<(y6.n:Int))) then some (Sh,(Sl.nil:Sl (Sl Sm)),11) else if (((x2.n+(Sl.of [x4]:Sl Int).n)*8<=140737488355328/\x2.n+(Sl.of [x4]:Sl Int).n<=140737488355328)/\((x3.n+(Sl.of [y6]:Sl (Sl Sm)).n)*24<=140737488355328/\x3.n+(Sl.of [y6]:Sl (Sl Sm)).n<=140737488355328))then if ((b.If.n:Int)==0) then a y6 (x2.push x4) (x3.push y6) (wrap .i64 ((wrap .i64 (x4+(b.Out.n:Int)))+1)) else a y6 (x2.push x4) (x3.push y6) (wrap .i64 (x4+(b.Out.n:Int))) else none else some (x2,x3,0)) c Sh (Sl.nil:Sl (Sl Sm)) 0
def Dd (N:Nat)(b:Law)(c:Sl Sm):Option ((Sl Int)×(Sl (Sl Sm))×Int):= Ar8 N (fun a (x1:Sl Sm) (x2:Sl Int) (x3:Sl (Sl Sm)) (x4:Int)=>if (decide (0<=x4)) then (AK N b x1 x4).bind fun y5=>if (!y5) then a x1 x2 x3 (wrap .i64 (x4-1)) else (R7 N b x1 x4).bind fun y6=>if (decide (32<(y6.n:Int))) then some (Sh,(Sl.nil:Sl (Sl Sm)),11) else if (((x2.n+(Sl.of [x4]:Sl Int).n)*8<=140737488355328/\x2.n+(Sl.of [x4]:Sl Int).n<=140737488355328)/\((x3.n+(Sl.of [y6]:Sl (Sl Sm)).n)*24<=140737488355328/\x3.n+(Sl.of [y6]:Sl (Sl Sm)).n<=140737488355328))then if ((b.If.n:Int)==0) then a y6 (x2.push x4) (x3.push y6) (wrap .i64 ((wrap .i64 (x4-(b.If.n:Int)))-1)) else a y6 (x2.push x4) (x3.push y6) (wrap .i64 (x4-(b.If.n:Int))) else none else some (x2,x3,0)) c Sh (Sl.nil:Sl (Sl Sm)) (wrap .i64 ((c.n:Int)-(b.If.n:Int)))
def Dm (N:Nat)(a:Law)(b:Sl Sm):Option ((Sl Int)×(Sl (Sl Sm))×Int):= (Fl N a b).bind fun y1=>if (y1 != 0) then some (Sh,(Sl.nil:Sl (Sl Sm)),y1) else if (a.Mode==1) then (Gr N a b).bind fun y2=>some (y2.1,y2.2.1,y2.2.2) else if (a.Mode==2) then (Dl N a b).bind fun y3=>some (y3.1,y3.2.1,y3.2.2) else (Dd N a b).bind fun y4=>some (y4.1,y4.2.1,y4.2.2)
def BZ (N:Nat)(b:Law)(a:Sl Sm):Option ((Sl Sm)×Int):= (Dm N b a).bind fun y1=>if (y1.2.2 != 0) then some ((Sl.nil:Sl Sm),y1.2.2) else if ((y1.2.1.n:Int)==0) then if (((Sl.of []:Sl Sm).n+a.n)*8<=140737488355328/\(Sl.of []:Sl Sm).n+a.n<=140737488355328)then some ((Sl.of []:Sl Sm).app a,0) else none else if ((((0:Int)<=(wrap .i64 ((y1.2.1.n:Int)-1))/\(wrap .i64 ((y1.2.1.n:Int)-1))<(y1.2.1.n:Int))/\(wrap .i64 ((y1.2.1.n:Int)-1)).toNat<y1.2.1.n)/\(((Sl.of []:Sl Sm).n+(y1.2.1.g (wrap .i64 ((y1.2.1.n:Int)-1)).toNat).n)*8<=140737488355328/\(Sl.of []:Sl Sm).n+(y1.2.1.g (wrap .i64 ((y1.2.1.n:Int)-1)).toNat).n<=140737488355328))then some ((Sl.of []:Sl Sm).app (y1.2.1.g (wrap .i64 ((y1.2.1.n:Int)-1)).toNat),0) else none
def Fm (N:Nat)(a:Sl Law)(c:Sl Sm):Option ((Sl (Sl Sm))×Int):= (BX N a).bind fun y1=>lt (fun (z1:Int)=>if (z1 != 0) then some ((Sl.nil:Sl (Sl Sm)),z1) else (CY N c).bind fun y4=>S0 N (fun b (x2:Sl (Sl Sm)) (x3:Int)=>if (decide (x3<(a.n:Int))) then if ((((0:Int)<=x3/\x3<(a.n:Int))/\((0:Int)<=x3/\x3<(x2.n:Int)))/\x3.toNat<x2.n)then (BZ N (a.g x3.toNat) (x2.g x3.toNat)).bind fun y7=>if (y7.2 != 0) then some ((Sl.nil:Sl (Sl Sm)),y7.2) else if ((x2.n+(Sl.of [y7.1]:Sl (Sl Sm)).n)*24<=140737488355328/\x2.n+(Sl.of [y7.1]:Sl (Sl Sm)).n<=140737488355328)then b (x2.push y7.1) (wrap .i64 (x3+1)) else none else none else some (x2,0)) (Sl.of [y4]:Sl (Sl Sm)) 0) fun k1=>if (y1==0) then (Y1 N c).bind fun y3=>k1 y3 else k1 y1
def Bl (N:Nat)(a:Sl Law)(b:Sl Sm):Option ((Sl Sm)×Int):= (Fm N a b).bind fun y1=>if (y1.2 != 0) then some ((Sl.nil:Sl Sm),y1.2) else if (((0:Int)<=(wrap .i64 ((y1.1.n:Int)-1))/\(wrap .i64 ((y1.1.n:Int)-1))<(y1.1.n:Int))/\(wrap .i64 ((y1.1.n:Int)-1)).toNat<y1.1.n)then some (y1.1.g (wrap .i64 ((y1.1.n:Int)-1)).toNat,0) else none
end Go.AM
namespace Go.AM
open Go.Proofs.Tryz
variable {N:Nat}
open IntKind (wrap)
open Go.Proofs
set_option maxRecDepth 10000
set_option maxHeartbeats 2000000
variable {S:U3}(Z:H2 S Tryz.prog) (Y:Ij S)
include Z Y
def Q9 (N:Nat)(q0:Int):Option (List (Int)):= Q7 N (fun a (x1:Int)=>if (x1 != 0) then (H7 N x1).bind fun y3=>if (0:Int)<=y3 then Az y3 (a (F4 .andNot .u64 x1 (shI .shl .u64 1 y3))) else none else some []) q0
theorem CM {q0:Int}{L:List (Int)}(h:Q9 N q0=some L) :Gk S Be [] [.reg 0 0] [.cells [.p (pI .u64 q0)]] (L.map (fun (x:Int)=>[pI .i64 x])):=by
 unfold Q9 at h;refine Hs Z func219 ?_;refine GD Z Pq h (fun x1 L1=>⟨[(1,.reg 0 0),(0,.yf 1)],[(1,.yld (L1.map (fun (x:Int)=>[pI .i64 x])) true),(0,.cells [.p (pI .u64 x1)])]⟩) (ids:=[(0,0),(1,1)]) (fun _ _ _ _ _ d x1 L1 f h=>?_);apply kI Z h<;>intro h
 .refine kC Z h (DH Z Y) (fun y3 h=>?_);refine Ep Z Pq ?_;obtain⟨c10,h⟩:=D6 h;refine H3 c10 ?_;obtain⟨L4,rfl,c⟩:=Pc h;replace h:=c;refine Er Z Pq (ys:=(fun (x:Int)=>[pI .i64 x]) y3) (rest:=L4.map (fun (x:Int)=>[pI .i64 x])) ?_ ?_
  .refine D4 Z Pq (b:=false) (fun c11=>?_) (fun c11=>?_)
   .exact Bool.noConfusion ((rfl:false=false).symm.trans c11)
   exact f _ [(0,0),(1,1)] _ (F4 .andNot .u64 x1 (shI .shl .u64 1 y3)) L4 Pq h
  refine D4 Z Pq (b:=true) (fun c12=>?_) (fun c12=>?_)
  .exact A9 Z Pq (a:=.tup []) (objs:=[(.cells [.p (pI .u64 (F4 .andNot .u64 x1 (shI .shl .u64 1 y3)))]),.yld [] false]) ⟨[],[(1,.yld [] false),(0,.cells [.p (pI .u64 (F4 .andNot .u64 x1 (shI .shl .u64 1 y3)))])]⟩ [0,1] (ids:=[(0,0),(1,1)]) ⟨false,rfl,rfl,_,rfl⟩
  exact Bool.noConfusion (Rp.symm.trans c12)
 obtain rfl:=C4 h;exact A9 Z Pq (a:=.tup []) (objs:=[(.cells [.p (pI .u64 x1)]),.yld [] true]) ⟨[],[(1,.yld [] true),(0,.cells [.p (pI .u64 x1)])]⟩ [0,1] (ids:=[(0,0),(1,1)]) ⟨true,rfl,rfl,_,rfl⟩
def AW (N:Nat)(a:Int):Option (Int):= some a
theorem Ev {a:Int}{y:Int}(h:AW N a=some y) :FunO S Ic [.p (pI .u64 a)] [] (.clo Be [] [.reg 0 0]) ([.cells [.p (pI .u64 y)]]) []:=by unfold AW at h;refine A3 Z func216 ?_;obtain rfl:=C4 h;exact A9 Z Pq ⟨[(2,.clo Be [] [.reg 2000 0])],[(2000,.cells [.p (pI .u64 a)])]⟩ [2000] (ids:=[(2000,2000)]) ⟨rfl,rfl,rfl⟩
def E9 (N:Nat)(p_x:Nat->Int)(c:Nat->Int):Option (Nat->Int):= S0 N (fun a (x3:Nat->Int) (x4:Int)=>if (decide (x4<33)) then if (((0:Int)<=x4/\x4<33)/\(0+x4.toNat*1)<33)then (AW N (p_x (0+x4.toNat*1))).bind fun y3=>(Q9 N y3).bind fun L3=>Q5 L3 (fun b (x7:Int) (z3:Nat->Int)=>if (((((((0:Int)<=x4/\x4<33)/\(0+x4.toNat*1)<33)/\((0:Int)<=x7/\x7<33))/\(0+x7.toNat*1)<33)/\((0:Int)<=x4/\x4<33))/\(0+x4.toNat*1)<33)then b (NJ z3 (0+x4.toNat*1) (F4 .or .u64 (z3 (0+x4.toNat*1)) (c (0+x7.toNat*1)))) else none) (fun (z3:Nat->Int)=>a z3 (wrap .i64 (x4+1))) x3 else none else some x3) (fun _=>0) 0
theorem T5 {p_x:Nat->Int}{b:Nat->Int}{y:Nat->Int}(h:E9 N p_x b=some y) :FunO S AG [.reg 0 0,.reg 1 0] [.arr 33 (fun i=>pI .u64 (p_x i)),.arr 33 (fun i=>pI .u64 (b i))] (.p (.agg (cA 33 (pI .u64) y))) ([.arr 33 (fun i=>pI .u64 (p_x i)),.arr 33 (fun i=>pI .u64 (b i))]) [true,true]:=by
 unfold E9 at h;refine A3 Z func243 ?_;refine G9 Z Pq h (fun x3 x4=>⟨[(10,pN x4),(9,.reg 0 0),(5,.reg 6000 0),(4,.reg 5000 0),(3,.reg 4000 0)],[(6000,.arr 33 (fun i=>pI .u64 (x3 i))),(5000,.arr 33 (fun i=>pI .u64 ((fun _=>0) i))),(4000,.cells [.reg 1 0]),(1,.arr 33 (fun i=>pI .u64 (b i))),(0,.arr 33 (fun i=>pI .u64 (p_x i)))]⟩) (ids:=[(0,0),(1,1),(4000,4000),(5000,5000),(6000,6000)]) (fun _ _ _ _ _ d x3 x4 f h=>?_) (hle:=klR [(1,.fn 33 33 (fun i=>[(fun i=>(List.replicate 33 (pI .u64 0)).getD i default) i]) (fun i=>[pI .u64 ((fun _=>0) i)])),(2,.fn 33 33 (fun i=>[(fun i=>(List.replicate 33 (pI .u64 0)).getD i default) i]) (fun i=>[pI .u64 ((fun _=>0) i)]))] (al1 ⟨rfl,Cj (z:=pI .u64 0) rfl⟩ (al1 ⟨rfl,Cj (z:=pI .u64 0) rfl⟩ al0)));apply kI Z h<;>intro h
 .refine T4 Z Pq [(2,.l [0]),(3,.l [0]),(4,.a [7000]),(5,.a [7000])] ?_;obtain⟨c12,h⟩:=D6 h;refine H3 c12 ?_;refine G4 Z Pq 16 7000 [pI .i64 x4] ?_;refine kC Z h (Ev Z Y) (fun y3 h=>?_);obtain⟨L3,e6,h⟩:=B9 h;refine Fx Z Pq [18000] [10,9,6,5,4,3] 905 (fun z3=>⟨[(10,pN x4),(9,.reg 0 0),(6,.p (.ptr [pI .i64 x4])),(5,.reg 6000 0),(4,.reg 5000 0),(3,.reg 4000 0)],[(6000,.arr 33 (fun i=>pI .u64 (z3 i))),(5000,.arr 33 (fun i=>pI .u64 ((fun _=>0) i))),(4000,.cells [.reg 1 0]),(1,.arr 33 (fun i=>pI .u64 (b i))),(0,.arr 33 (fun i=>pI .u64 (p_x i)))]⟩) (idl:=[(0,0),(1,1),(4000,4000),(5000,5000),(6000,6000)]) h (CM Z Y e6) (fun _=>by kernel_rfl) (fun _=>by kernel_rfl) (fun _=>by kernel_rfl) (fun _=>by kernel_rfl) (fun x7 _ g z3 j h=>?_) (fun z3 h=>?_)
  .refine Jx Z Pq ?_;refine T4 Z Pq [(0,.n),(1,.l [6000]),(2,.l [6000]),(3,.l [4000]),(6,.l [1]),(7,.l [1]),(9,.l [6000]),(10,.a [6000])] ?_;obtain⟨c15,h⟩:=D6 h;refine H3 c15 ?_;exact j _ [(0,0),(1,1),(905,905),(4000,4000),(5000,5000),(6000,6000)] _ (NJ z3 (0+x4.toNat*1) (F4 .or .u64 (z3 (0+x4.toNat*1)) (b (0+x7.toNat*1)))) Pq h (hle:=klR [(0,.fn 33 33 (fun i=>[(fun i=>if i=(0+x4.toNat*1)then (pI .u64 (F4 .or .u64 (z3 (0+x4.toNat*1)) (b (0+x7.toNat*1))))else (fun i=>pI .u64 (z3 i)) i) i]) (fun i=>[pI .u64 (NJ z3 (0+x4.toNat*1) (F4 .or .u64 (z3 (0+x4.toNat*1)) (b (0+x7.toNat*1))) i)]))] (al1 ⟨rfl,AV2 (c:=pI .u64) (v:=z3) (x:=F4 .or .u64 (z3 (0+x4.toNat*1)) (b (0+x7.toNat*1))) (fun _ _=>rfl) rfl⟩ al0))
  exact f _ [(0,0),(1,1),(4000,4000),(5000,5000),(6000,6000)] _ z3 (wrap .i64 (x4+1)) Pq h
 obtain rfl:=C4 h;exact A9 Z (And.intro rfl (G2 _ _):(0:Nat)=0/\(CK 33 (fun i=>pI .u64 (x3 i))).length=33) ⟨[(4,.reg 5000 0)],[(5000,.arr 33 (fun i=>pI .u64 (x3 i))),(1,.arr 33 (fun i=>pI .u64 (b i))),(0,.arr 33 (fun i=>pI .u64 (p_x i)))]⟩ [0,1] (ids:=[(0,0),(1,1),(5000,5000)]) ⟨rfl,rfl,rfl⟩ (hle:=klR [(0,.fn 33 33 (fun i=>[(fun i=>(cA 33 (pI .u64) x3).getD i default) i]) (fun i=>[pI .u64 (x3 i)]))] (al1 ⟨rfl,F2 33 (fun i=>pI .u64 (x3 i))⟩ al0))
def J3 (N:Nat)(p_x:Nat->Int):Option (Nat->Int):= S0 N (fun a (x3:Nat->Int) (x4:Int)=>if (decide (x4<33)) then if (((0:Int)<=x4/\x4<33)/\(0+x4.toNat*1)<33)then (AW N (p_x (0+x4.toNat*1))).bind fun y3=>(Q9 N y3).bind fun L3=>Q5 L3 (fun b (x7:Int) (z3:Nat->Int)=>if (((((((0:Int)<=x4/\x4<33)/\(0+x4.toNat*1)<33)/\((0:Int)<=x7/\x7<33))/\(0+x7.toNat*1)<33)/\((0:Int)<=x4/\x4<33))/\(0+x4.toNat*1)<33)then b (NJ z3 (0+x4.toNat*1) (F4 .or .u64 (z3 (0+x4.toNat*1)) (p_x (0+x7.toNat*1)))) else none) (fun (z3:Nat->Int)=>a z3 (wrap .i64 (x4+1))) x3 else none else some x3) (fun _=>0) 0
theorem Cz {p_x:Nat->Int}{y:Nat->Int}(h:J3 N p_x=some y) :FunO S AG [.reg 0 0,.reg 0 0] [.arr 33 (fun i=>pI .u64 (p_x i))] (.p (.agg (cA 33 (pI .u64) y))) ([.arr 33 (fun i=>pI .u64 (p_x i))]) [true]:=by
 unfold J3 at h;refine A3 Z func243 ?_;refine G9 Z Pq h (fun x3 x4=>⟨[(10,pN x4),(9,.reg 0 0),(5,.reg 6000 0),(4,.reg 5000 0),(3,.reg 4000 0)],[(6000,.arr 33 (fun i=>pI .u64 (x3 i))),(5000,.arr 33 (fun i=>pI .u64 ((fun _=>0) i))),(4000,.cells [.reg 0 0]),(0,.arr 33 (fun i=>pI .u64 (p_x i)))]⟩) (ids:=[(0,0),(4000,4000),(5000,5000),(6000,6000)]) (fun _ _ _ _ _ b x3 x4 d h=>?_) (hle:=klR [(1,.fn 33 33 (fun i=>[(fun i=>(List.replicate 33 (pI .u64 0)).getD i default) i]) (fun i=>[pI .u64 ((fun _=>0) i)])),(2,.fn 33 33 (fun i=>[(fun i=>(List.replicate 33 (pI .u64 0)).getD i default) i]) (fun i=>[pI .u64 ((fun _=>0) i)]))] (al1 ⟨rfl,Cj (z:=pI .u64 0) rfl⟩ (al1 ⟨rfl,Cj (z:=pI .u64 0) rfl⟩ al0)));apply kI Z h<;>intro h
 .refine T4 Z Pq [(2,.l [0]),(3,.l [0]),(4,.a [7000]),(5,.a [7000])] ?_;obtain⟨c12,h⟩:=D6 h;refine H3 c12 ?_;refine G4 Z Pq 16 7000 [pI .i64 x4] ?_;refine kC Z h (Ev Z Y) (fun y3 h=>?_);obtain⟨L3,e6,h⟩:=B9 h;refine Fx Z Pq [18000] [10,9,6,5,4,3] 905 (fun z3=>⟨[(10,pN x4),(9,.reg 0 0),(6,.p (.ptr [pI .i64 x4])),(5,.reg 6000 0),(4,.reg 5000 0),(3,.reg 4000 0)],[(6000,.arr 33 (fun i=>pI .u64 (z3 i))),(5000,.arr 33 (fun i=>pI .u64 ((fun _=>0) i))),(4000,.cells [.reg 0 0]),(0,.arr 33 (fun i=>pI .u64 (p_x i)))]⟩) (idl:=[(0,0),(4000,4000),(5000,5000),(6000,6000)]) h (CM Z Y e6) (fun _=>by kernel_rfl) (fun _=>by kernel_rfl) (fun _=>by kernel_rfl) (fun _=>by kernel_rfl) (fun x7 _ f z3 g h=>?_) (fun z3 h=>?_)
  .refine Jx Z Pq ?_;refine T4 Z Pq [(0,.n),(1,.l [6000]),(2,.l [6000]),(3,.l [4000]),(6,.l [0]),(7,.l [0]),(9,.l [6000]),(10,.a [6000])] ?_;obtain⟨c15,h⟩:=D6 h;refine H3 c15 ?_;exact g _ [(0,0),(905,905),(4000,4000),(5000,5000),(6000,6000)] _ (NJ z3 (0+x4.toNat*1) (F4 .or .u64 (z3 (0+x4.toNat*1)) (p_x (0+x7.toNat*1)))) Pq h (hle:=klR [(0,.fn 33 33 (fun i=>[(fun i=>if i=(0+x4.toNat*1)then (pI .u64 (F4 .or .u64 (z3 (0+x4.toNat*1)) (p_x (0+x7.toNat*1))))else (fun i=>pI .u64 (z3 i)) i) i]) (fun i=>[pI .u64 (NJ z3 (0+x4.toNat*1) (F4 .or .u64 (z3 (0+x4.toNat*1)) (p_x (0+x7.toNat*1))) i)]))] (al1 ⟨rfl,AV2 (c:=pI .u64) (v:=z3) (x:=F4 .or .u64 (z3 (0+x4.toNat*1)) (p_x (0+x7.toNat*1))) (fun _ _=>rfl) rfl⟩ al0))
  exact d _ [(0,0),(4000,4000),(5000,5000),(6000,6000)] _ z3 (wrap .i64 (x4+1)) Pq h
 obtain rfl:=C4 h;exact A9 Z (And.intro rfl (G2 _ _):(0:Nat)=0/\(CK 33 (fun i=>pI .u64 (x3 i))).length=33) ⟨[(4,.reg 5000 0)],[(5000,.arr 33 (fun i=>pI .u64 (x3 i))),(0,.arr 33 (fun i=>pI .u64 (p_x i)))]⟩ [0] (ids:=[(0,0),(5000,5000)]) ⟨rfl,rfl,rfl⟩ (hle:=klR [(0,.fn 33 33 (fun i=>[(fun i=>(cA 33 (pI .u64) x3).getD i default) i]) (fun i=>[pI .u64 (x3 i)]))] (al1 ⟨rfl,F2 33 (fun i=>pI .u64 (x3 i))⟩ al0))
def G1 (N:Nat)(p_x:Nat->Int)(b:Int)(c:Int):Option (Nat->Int):= (Q3 N c).bind fun y1=>Am8 N (fun a (x1:Int) (x2:Nat->Int) (x3:Nat->Int)=>if (decide (0<x1)) then if ((F4 .and .i64 x1 1)==1) then (E9 N x3 x2).bind fun y8=>(J3 N x2).bind fun y9=>a (shI .shr .i64 x1 1) y9 y8 else (J3 N x2).bind fun d=>a (shI .shr .i64 x1 1) d x3 else some x3) b p_x y1
theorem Z3 {p_x:Nat->Int}{b:Int}{c:Int}{y:Nat->Int}(h:G1 N p_x b c=some y) :FunO S Cy [.p (.agg (cA 33 (pI .u64) p_x)),pN b,pN c] [] (.p (.agg (cA 33 (pI .u64) y))) ([]) []:=by
 unfold G1 at h;refine A3 Z func236 ?_;refine kC Z h (DJ Z Y) (fun y1 h=>?_);refine IU Z (And.intro rfl (G2 _ _):(0:Nat)=0/\(CK 33 (fun i=>pI .u64 (y1 i))).length=33) h (fun x1 x2 x3=>⟨[(7,.reg 8000 0),(6,.reg 7000 0),(3,.reg 4000 0),(1,pN x1)],[(8000,.arr 33 (fun i=>pI .u64 (x3 i))),(7000,.arr 33 (fun i=>pI .u64 ((fun _=>0) i))),(4000,.arr 33 (fun i=>pI .u64 (x2 i)))]⟩) (ids:=[(4000,4000),(7000,7000),(8000,8000)]) (fun _ _ _ _ _ f x1 x2 x3 d h=>?_) (hle:=klR [(1,.fn 33 33 (fun i=>[(fun i=>(cA 33 (pI .u64) y1).getD i default) i]) (fun i=>[pI .u64 (y1 i)])),(2,.fn 33 33 (fun i=>[(fun i=>(List.replicate 33 (pI .u64 0)).getD i default) i]) (fun i=>[pI .u64 ((fun _=>0) i)])),(3,.fn 33 33 (fun i=>[(fun i=>(cA 33 (pI .u64) p_x).getD i default) i]) (fun i=>[pI .u64 (p_x i)]))] (al1 ⟨rfl,F2 33 (fun i=>pI .u64 (y1 i))⟩ (al1 ⟨rfl,Cj (z:=pI .u64 0) rfl⟩ (al1 ⟨rfl,F2 33 (fun i=>pI .u64 (p_x i))⟩ al0))));apply kI Z h<;>intro h
 .apply kI Z h<;>intro h
  .obtain⟨y8,e8,h⟩:=B9 h;refine C6 Z [8000,4000] Pq (T5 Z Y e8) ?_;obtain⟨y9,e9,h⟩:=B9 h;refine C6 Z [4000] (And.intro rfl (G2 _ _):(0:Nat)=0/\(CK 33 (fun i=>pI .u64 (y8 i))).length=33) (Cz Z Y e9) ?_;exact d _ [(4000,4000),(7000,7000),(8000,8000)] _ (shI .shr .i64 x1 1) y9 y8 (And.intro (And.intro rfl (G2 _ _):(0:Nat)=0/\(CK 33 (fun i=>pI .u64 (y9 i))).length=33) (by decide:(0:Int)<=1)) h (hle:=klR [(1,.fn 33 33 (fun i=>[(fun i=>(cA 33 (pI .u64) y8).getD i default) i]) (fun i=>[pI .u64 (y8 i)])),(3,.fn 33 33 (fun i=>[(fun i=>(cA 33 (pI .u64) y9).getD i default) i]) (fun i=>[pI .u64 (y9 i)]))] (al1 ⟨rfl,F2 33 (fun i=>pI .u64 (y8 i))⟩ (al1 ⟨rfl,F2 33 (fun i=>pI .u64 (y9 i))⟩ al0)))
  obtain⟨a,e10,h⟩:=B9 h;refine C6 Z [4000] Pq (Cz Z Y e10) ?_;exact d _ [(4000,4000),(7000,7000),(8000,8000)] _ (shI .shr .i64 x1 1) a x3 (And.intro (And.intro rfl (G2 _ _):(0:Nat)=0/\(CK 33 (fun i=>pI .u64 (a i))).length=33) (by decide:(0:Int)<=1)) h (hle:=klR [(3,.fn 33 33 (fun i=>[(fun i=>(cA 33 (pI .u64) a).getD i default) i]) (fun i=>[pI .u64 (a i)]))] (al1 ⟨rfl,F2 33 (fun i=>pI .u64 (a i))⟩ al0))
 obtain rfl:=C4 h;exact A9 Z (And.intro rfl (G2 _ _):(0:Nat)=0/\(CK 33 (fun i=>pI .u64 (x3 i))).length=33) ⟨[(6,.reg 7000 0)],[(7000,.arr 33 (fun i=>pI .u64 (x3 i)))]⟩ [] (ids:=[(7000,7000)]) ⟨rfl,rfl,rfl⟩ (hle:=klR [(0,.fn 33 33 (fun i=>[(fun i=>(cA 33 (pI .u64) x3).getD i default) i]) (fun i=>[pI .u64 (x3 i)]))] (al1 ⟨rfl,F2 33 (fun i=>pI .u64 (x3 i))⟩ al0))
end Go.AM
namespace Go.AM
open Go.Proofs.Tryz
variable {N:Nat}
open IntKind (wrap)
open Go.Proofs
set_option maxRecDepth 10000
set_option maxHeartbeats 2000000
variable {S:U3}(Z:H2 S Tryz.prog) (Y:Ij S)
include Z Y
def Z4 (N:Nat)(p_x:As8)(b:Sl Sm):Option (Nat->Int):= S0 N (fun a (x1:Nat->Int) (x2:Int)=>if (decide (x2<(b.n:Int))) then if ((0:Int)<=x2/\x2<(b.n:Int))then if ((((F4 .or .u32 (F4 .andNot .u32 p_x.is.Plus (b.g x2.toNat).Plus) (F4 .andNot .u32 p_x.is.Minus (b.g x2.toNat).Minus))==0)==p_x.not) != true) then if (((0:Int)<=(wrap .i64 (x2+1))/\((0:Int)<=x2/\x2<33))/\(0+x2.toNat*1)<33)then a (NJ x1 (0+x2.toNat*1) (shI .shl .u64 1 (wrap .i64 (x2+1)))) (wrap .i64 (x2+1)) else none else a x1 (wrap .i64 (x2+1)) else none else some x1) (fun _=>0) 0
theorem Or {p_x:As8}{a:Sl Sm}{y:Nat->Int}(h:Z4 N p_x a=some y) :FunO S DE [.p (.agg (ZB p_x)),.p (vSl 2 A0 a)] [] (.p (.agg (cA 33 (pI .u64) y))) ([]) []:=by
 unfold Z4 at h;refine A3 Z func237 ?_;refine G9 Z Pq h (fun x1 x2=>⟨[(9,pN x2),(8,pN (a.n:Int)),(7,.p (vSl 2 A0 a)),(4,.reg 5000 0),(2,.reg 3000 0)],[(5000,.arr 33 (fun i=>pI .u64 (x1 i))),(3000,.cells ((ZB p_x).map .p))]⟩) (ids:=[(3000,3000),(5000,5000)]) (fun _ _ _ _ _ f x1 x2 d h=>?_) (hle:=klR [(3,.fn 33 33 (fun i=>[(fun i=>(List.replicate 33 (pI .u64 0)).getD i default) i]) (fun i=>[pI .u64 ((fun _=>0) i)]))] (al1 ⟨rfl,Cj (z:=pI .u64 0) rfl⟩ al0));apply kI Z h<;>intro h
 .obtain⟨c8,h⟩:=D6 h;refine D4 Z (And.intro c8 Q6) (b:=(((F4 .or .u32 (F4 .andNot .u32 p_x.is.Plus (a.g x2.toNat).Plus) (F4 .andNot .u32 p_x.is.Minus (a.g x2.toNat).Minus))==0)==p_x.not) != true) (fun c9=>?_) (fun c9=>?_)
  .replace h:=itT c9 h;obtain⟨c10,h⟩:=D6 h;exact d _ [(3000,3000),(5000,5000)] _ (NJ x1 (0+x2.toNat*1) (shI .shl .u64 1 (wrap .i64 (x2+1)))) (wrap .i64 (x2+1)) c10 h (hle:=klR [(3,.fn 33 33 (fun i=>[(fun i=>if i=(0+x2.toNat*1)then (pI .u64 (shI .shl .u64 1 (wrap .i64 (x2+1))))else (fun i=>pI .u64 (x1 i)) i) i]) (fun i=>[pI .u64 (NJ x1 (0+x2.toNat*1) (shI .shl .u64 1 (wrap .i64 (x2+1))) i)]))] (al1 ⟨rfl,AV2 (c:=pI .u64) (v:=x1) (x:=shI .shl .u64 1 (wrap .i64 (x2+1))) (fun _ _=>rfl) rfl⟩ al0))
  replace h:=itF c9 h;exact d _ [(3000,3000),(5000,5000)] _ x1 (wrap .i64 (x2+1)) Pq h
 obtain rfl:=C4 h;exact A9 Z (And.intro rfl (G2 _ _):(0:Nat)=0/\(CK 33 (fun i=>pI .u64 (x1 i))).length=33) ⟨[(4,.reg 5000 0)],[(5000,.arr 33 (fun i=>pI .u64 (x1 i)))]⟩ [] (ids:=[(5000,5000)]) ⟨rfl,rfl,rfl⟩ (hle:=klR [(0,.fn 33 33 (fun i=>[(fun i=>(cA 33 (pI .u64) x1).getD i default) i]) (fun i=>[pI .u64 (x1 i)]))] (al1 ⟨rfl,F2 33 (fun i=>pI .u64 (x1 i))⟩ al0))
def AX (N:Nat)(p_x:AW1)(a:Sl Sm):Option (Nat->Int):= if p_x.end_ then if (((0:Int)<=(a.n:Int)/\((0:Int)<=(a.n:Int)/\(a.n:Int)<33))/\(0+(a.n:Int).toNat*1)<33)then some (NJ (fun _=>0) (0+(a.n:Int).toNat*1) (shI .shl .u64 1 (a.n:Int))) else none else if (((0:Int)<=0/\(0:Int)<33)/\(0+0*1)<33)then some (NJ (fun _=>0) (0+0*1) (shI .shl .u64 1 0)) else none
theorem Pw {p_x:AW1}{a:Sl Sm}{y:Nat->Int}(h:AX N p_x a=some y) :FunO S Et [.p (.agg (AW2 p_x)),.p (vSl 2 A0 a)] [] (.p (.agg (cA 33 (pI .u64) y))) ([]) []:=by
 unfold AX at h;refine A3 Z func238 ?_;apply kI Z h<;>intro h
 .obtain⟨c2,h⟩:=D6 h;obtain rfl:=C4 h;exact A9 Z (And.intro (And.intro (And.intro c2.1.1 c2.1.2) c2.2) (And.intro rfl (G2 _ _):(0:Nat)=0/\(CK 33 (fun i=>if i=(0+(a.n:Int).toNat*1)then (pI .u64 (shI .shl .u64 1 (a.n:Int)))else (fun i=>(List.replicate 33 (pI .u64 0)).getD i default) i)).length=33)) ⟨[(4,.reg 5000 0)],[(5000,.arr 33 (fun i=>pI .u64 (NJ (fun _=>0) (0+(a.n:Int).toNat*1) (shI .shl .u64 1 (a.n:Int)) i)))]⟩ [] (ids:=[(5000,5000)]) ⟨rfl,rfl,rfl⟩ (hle:=klR [(0,.fn 33 33 (fun i=>[(fun i=>(CK 33 (fun i=>if i=(0+(a.n:Int).toNat*1)then (pI .u64 (shI .shl .u64 1 (a.n:Int)))else (fun i=>(List.replicate 33 (pI .u64 0)).getD i default) i)).getD i default) i]) (fun i=>[pI .u64 (NJ (fun _=>0) (0+(a.n:Int).toNat*1) (shI .shl .u64 1 (a.n:Int)) i)]))] (al1 ⟨rfl,fun i b=>(F2 33 (fun i=>if i=(0+(a.n:Int).toNat*1)then (pI .u64 (shI .shl .u64 1 (a.n:Int)))else (fun i=>(List.replicate 33 (pI .u64 0)).getD i default) i) i b).trans (AV2 (c:=pI .u64) (v:=fun _=>0) (x:=shI .shl .u64 1 (a.n:Int)) (Cj (z:=pI .u64 0) rfl) rfl i b)⟩ al0))
 obtain⟨c3,h⟩:=D6 h;obtain rfl:=C4 h;exact A9 Z (And.intro (And.intro (And.intro (by decide:(0:Int)<=0) c3.1) c3.2) (And.intro rfl (G2 _ _):(0:Nat)=0/\(CK 33 (fun i=>if i=(0+0*1)then (pI .u64 (shI .shl .u64 1 0))else (fun i=>(List.replicate 33 (pI .u64 0)).getD i default) i)).length=33)) ⟨[(4,.reg 5000 0)],[(5000,.arr 33 (fun i=>pI .u64 (NJ (fun _=>0) (0+0*1) (shI .shl .u64 1 0) i)))]⟩ [] (ids:=[(5000,5000)]) ⟨rfl,rfl,rfl⟩ (hle:=klR [(0,.fn 33 33 (fun i=>[(fun i=>(CK 33 (fun i=>if i=(0+0*1)then (pI .u64 (shI .shl .u64 1 0))else (fun i=>(List.replicate 33 (pI .u64 0)).getD i default) i)).getD i default) i]) (fun i=>[pI .u64 (NJ (fun _=>0) (0+0*1) (shI .shl .u64 1 0) i)]))] (al1 ⟨rfl,fun i b=>(F2 33 (fun i=>if i=(0+0*1)then (pI .u64 (shI .shl .u64 1 0))else (fun i=>(List.replicate 33 (pI .u64 0)).getD i default) i) i b).trans (AV2 (c:=pI .u64) (v:=fun _=>0) (x:=shI .shl .u64 1 0) (Cj (z:=pI .u64 0) rfl) rfl i b)⟩ al0))
def BK (rec:Part->(Sl Sm)->Option (Nat->Int))(N:Nat)(p_x:Pseq)(b:Sl Sm):Option (Nat->Int):= (Q3 N (b.n:Int)).bind fun y1=>S0 N (fun a (x1:Nat->Int) (x2:Int)=>if (decide (x2<(p_x.l.n:Int))) then if ((0:Int)<=x2/\x2<(p_x.l.n:Int))then (rec (p_x.l.g x2.toNat) b).bind fun y6=>(E9 N x1 y6).bind fun y7=>a y7 (wrap .i64 (x2+1)) else none else some x1) y1 0
theorem SH {rec:Part->(Sl Sm)->Option ((Nat->Int))}(b:∀{x:Part}{b0:(Sl Sm)}{y:(Nat->Int)},rec x b0=some y->Bg8 S Tryz.prog (GF x) "ablaut/pats.in" [(.p (vSl 2 A0 b0))] (.p (.agg (cA 33 (pI .u64) y)))){p_x:Pseq}{a:(Sl Sm)}{y:(Nat->Int)}(h:BK rec N p_x a=some y) :FunO S FF [(.p (.agg (Bi1 p_x))),(.p (vSl 2 A0 a))] [] (.p (.agg (cA 33 (pI .u64) y))) ([]) []:=by
 unfold BK at h;refine A3 Z func244 ?_;refine kC Z h (DJ Z Y) (fun y1 h=>?_);refine G9 Z (And.intro rfl (G2 _ _):(0:Nat)=0/\(CK 33 (fun i=>pI .u64 (y1 i))).length=33) h (fun x1 x2=>⟨[(15,(pN x2)),(14,(pN (p_x.l.n:Int))),(13,(.p (vSl 1 EZ p_x.l))),(5,(.reg 6000 0)),(4,(.reg 5000 0)),(1,(.p (vSl 2 A0 a)))],[(6000,(.arr 33 (fun i=>pI .u64 (x1 i)))),(5000,(.arr 33 (fun i=>pI .u64 ((fun _=>0) i))))]⟩) (ids:=[(5000,5000),(6000,6000)]) (fun _ _ _ _ _ c x1 x2 d h=>?_) (hle:=(klR [(4,.fn 33 33 (fun i=>[(fun i=>(cA 33 (pI .u64) y1).getD i default) i]) (fun i=>[pI .u64 (y1 i)])),(5,.fn 33 33 (fun i=>[(fun i=>(List.replicate 33 (pI .u64 0)).getD i default) i]) (fun i=>[pI .u64 ((fun _=>0) i)]))] (al1 ⟨rfl,(F2 33 (fun i=>pI .u64 (y1 i)))⟩ (al1 ⟨rfl,(Cj (z:=pI .u64 0) rfl)⟩ al0))));apply kI Z h<;>intro h
 .obtain⟨c6,h⟩:=D6 h;obtain⟨y6,e6,h⟩:=B9 h;refine Mm Z c6 (b e6) ?_;refine Bz Z (And.intro rfl (G2 _ _):(0:Nat)=0/\(CK 33 (fun i=>pI .u64 (y6 i))).length=33) ⟨[(15,(pN x2)),(14,(pN (p_x.l.n:Int))),(13,(.p (vSl 1 EZ p_x.l))),(8,(.reg 9000 0)),(5,(.reg 6000 0)),(4,(.reg 5000 0)),(1,(.p (vSl 2 A0 a)))],[(9000,(.arr 33 (fun i=>pI .u64 (y6 i)))),(6000,(.arr 33 (fun i=>pI .u64 (x1 i)))),(5000,(.arr 33 (fun i=>pI .u64 ((fun _=>0) i))))]⟩ (ids:=[(5000,5000),(6000,6000),(9000,9000)]) ?_ (hle:=(klR [(4,.fn 33 33 (fun i=>[(fun i=>(cA 33 (pI .u64) y6).getD i default) i]) (fun i=>[pI .u64 (y6 i)]))] (al1 ⟨rfl,(F2 33 (fun i=>pI .u64 (y6 i)))⟩ al0)));obtain⟨y7,e7,h⟩:=B9 h;refine C6 Z [6000,9000] Pq (T5 Z Y e7) ?_;exact d _ [(5000,5000),(6000,6000)] _ y7 (wrap .i64 (x2+1)) (And.intro rfl (G2 _ _):(0:Nat)=0/\(CK 33 (fun i=>pI .u64 (y7 i))).length=33) h (hle:=klR [(4,.fn 33 33 (fun i=>[(fun i=>(cA 33 (pI .u64) y7).getD i default) i]) (fun i=>[pI .u64 (y7 i)]))] (al1 ⟨rfl,(F2 33 (fun i=>pI .u64 (y7 i)))⟩ al0))
 obtain rfl:=C4 h;exact A9 Z (And.intro rfl (G2 _ _):(0:Nat)=0/\(CK 33 (fun i=>pI .u64 (x1 i))).length=33) ⟨[(4,(.reg 5000 0))],[(5000,(.arr 33 (fun i=>pI .u64 (x1 i))))]⟩ [] (ids:=[(5000,5000)]) ⟨rfl,rfl,rfl⟩ (hle:=(klR [(0,.fn 33 33 (fun i=>[(fun i=>(cA 33 (pI .u64) x1).getD i default) i]) (fun i=>[pI .u64 (x1 i)]))] (al1 ⟨rfl,(F2 33 (fun i=>pI .u64 (x1 i)))⟩ al0)))
def BL (rec:Part->(Sl Sm)->Option (Nat->Int))(N:Nat)(p_x:Palt)(b:Sl Sm):Option (Nat->Int):= S0 N (fun a (x1:Nat->Int) (x2:Int)=>if (decide (x2<(p_x.l.n:Int))) then if ((0:Int)<=x2/\x2<(p_x.l.n:Int))then (rec (p_x.l.g x2.toNat) b).bind fun y5=>(O1 N x1 y5).bind fun y6=>a y6 (wrap .i64 (x2+1)) else none else some x1) (fun _=>0) 0
theorem SI {rec:Part->(Sl Sm)->Option ((Nat->Int))}(b:∀{x:Part}{b0:(Sl Sm)}{y:(Nat->Int)},rec x b0=some y->Bg8 S Tryz.prog (GF x) "ablaut/pats.in" [(.p (vSl 2 A0 b0))] (.p (.agg (cA 33 (pI .u64) y)))){p_x:Palt}{a:(Sl Sm)}{y:(Nat->Int)}(h:BL rec N p_x a=some y) :FunO S FD [(.p (.agg (Bh8 p_x))),(.p (vSl 2 A0 a))] [] (.p (.agg (cA 33 (pI .u64) y))) ([]) []:=by
 unfold BL at h;refine A3 Z func239 ?_;refine G9 Z Pq h (fun x1 x2=>⟨[(11,(pN x2)),(10,(pN (p_x.l.n:Int))),(9,(.p (vSl 1 EZ p_x.l))),(4,(.reg 5000 0)),(1,(.p (vSl 2 A0 a)))],[(5000,(.arr 33 (fun i=>pI .u64 (x1 i))))]⟩) (ids:=[(5000,5000)]) (fun _ _ _ _ _ c x1 x2 d h=>?_) (hle:=(klR [(4,.fn 33 33 (fun i=>[(fun i=>(List.replicate 33 (pI .u64 0)).getD i default) i]) (fun i=>[pI .u64 ((fun _=>0) i)]))] (al1 ⟨rfl,(Cj (z:=pI .u64 0) rfl)⟩ al0)));apply kI Z h<;>intro h
 .obtain⟨c6,h⟩:=D6 h;obtain⟨y5,e5,h⟩:=B9 h;refine Mm Z c6 (b e5) ?_;refine Bz Z (And.intro rfl (G2 _ _):(0:Nat)=0/\(CK 33 (fun i=>pI .u64 (y5 i))).length=33) ⟨[(11,(pN x2)),(10,(pN (p_x.l.n:Int))),(9,(.p (vSl 1 EZ p_x.l))),(7,(.reg 8000 0)),(4,(.reg 5000 0)),(1,(.p (vSl 2 A0 a)))],[(8000,(.arr 33 (fun i=>pI .u64 (y5 i)))),(5000,(.arr 33 (fun i=>pI .u64 (x1 i))))]⟩ (ids:=[(5000,5000),(8000,8000)]) ?_ (hle:=(klR [(4,.fn 33 33 (fun i=>[(fun i=>(cA 33 (pI .u64) y5).getD i default) i]) (fun i=>[pI .u64 (y5 i)]))] (al1 ⟨rfl,(F2 33 (fun i=>pI .u64 (y5 i)))⟩ al0)));obtain⟨y6,e6,h⟩:=B9 h;refine C6 Z [5000,8000] Pq (Eh Z Y e6) ?_;exact d _ [(5000,5000)] _ y6 (wrap .i64 (x2+1)) Pq h
 obtain rfl:=C4 h;exact A9 Z (And.intro rfl (G2 _ _):(0:Nat)=0/\(CK 33 (fun i=>pI .u64 (x1 i))).length=33) ⟨[(4,(.reg 5000 0))],[(5000,(.arr 33 (fun i=>pI .u64 (x1 i))))]⟩ [] (ids:=[(5000,5000)]) ⟨rfl,rfl,rfl⟩ (hle:=(klR [(0,.fn 33 33 (fun i=>[(fun i=>(cA 33 (pI .u64) x1).getD i default) i]) (fun i=>[pI .u64 (x1 i)]))] (al1 ⟨rfl,(F2 33 (fun i=>pI .u64 (x1 i)))⟩ al0)))
def BM (rec:Part->(Sl Sm)->Option (Nat->Int))(N:Nat)(p_x:Bh9)(a:Sl Sm):Option (Nat->Int):= (rec p_x.of a).bind fun y1=>(G1 N y1 p_x.min (a.n:Int)).bind fun y2=>(Q3 N (a.n:Int)).bind fun y3=>(O1 N y1 y3).bind fun y4=>if (decide (p_x.max<0)) then (G1 N y4 (a.n:Int) (a.n:Int)).bind fun y5=>(E9 N y2 y5).bind fun y6=>some y6 else (G1 N y4 (wrap .i64 (p_x.max-p_x.min)) (a.n:Int)).bind fun y7=>(E9 N y2 y7).bind fun y8=>some y8
theorem SJ {rec:Part->(Sl Sm)->Option ((Nat->Int))}(b:∀{x:Part}{b0:(Sl Sm)}{y:(Nat->Int)},rec x b0=some y->Bg8 S Tryz.prog (GF x) "ablaut/pats.in" [(.p (vSl 2 A0 b0))] (.p (.agg (cA 33 (pI .u64) y)))){p_x:Bh9}{a:(Sl Sm)}{y:(Nat->Int)}(h:BM rec N p_x a=some y) :FunO S FE [(.p (.agg (Bi0 p_x))),(.p (vSl 2 A0 a))] [] (.p (.agg (cA 33 (pI .u64) y))) ([]) []:=by
 unfold BM at h;refine A3 Z func241 ?_;obtain⟨y1,e1,h⟩:=B9 h;refine Mm Z Pq (b e1) ?_;refine Bz Z (And.intro rfl (G2 _ _):(0:Nat)=0/\(CK 33 (fun i=>pI .u64 (y1 i))).length=33) ⟨[(18,(pN (a.n:Int))),(16,(pN p_x.min)),(14,(.p (.agg (cA 33 (pI .u64) y1)))),(5,(.reg 6000 0)),(4,(.reg 5000 0)),(2,(.reg 3000 0)),(1,(.p (vSl 2 A0 a)))],[(6000,(.arr 33 (fun i=>pI .u64 (y1 i)))),(5000,(.arr 33 (fun i=>pI .u64 ((fun _=>0) i)))),(3000,(.cells [(.p (GF p_x.of)),(pN p_x.min),(pN p_x.max)]))]⟩ (ids:=[(3000,3000),(5000,5000),(6000,6000)]) ?_ (hle:=(klR [(2,.eq (.agg (CK 33 (fun i=>(cA 33 (pI .u64) y1).getD i default))) (.agg (cA 33 (pI .u64) y1))),(4,.fn 33 33 (fun i=>[(fun i=>(cA 33 (pI .u64) y1).getD i default) i]) (fun i=>[pI .u64 (y1 i)])),(5,.fn 33 33 (fun i=>[(fun i=>(List.replicate 33 (pI .u64 0)).getD i default) i]) (fun i=>[pI .u64 ((fun _=>0) i)]))] (al1 (congrArg PV.agg (Ah7 (F2 33 (fun i=>pI .u64 (y1 i))))) (al1 ⟨rfl,(F2 33 (fun i=>pI .u64 (y1 i)))⟩ (al1 ⟨rfl,(Cj (z:=pI .u64 0) rfl)⟩ al0)))));refine kC Z h (Z3 Z Y) (fun y2 h=>?_);obtain⟨y3,e3,h⟩:=B9 h;refine C6 Z [] (And.intro (And.intro rfl (G2 _ _):(0:Nat)=0/\(CK 33 (fun i=>pI .u64 (y2 i))).length=33) (And.intro rfl (G2 _ _):(0:Nat)=0/\(CK 33 (fun i=>pI .u64 (y1 i))).length=33)) (DJ Z Y e3) ?_;refine Bz Z (And.intro rfl (G2 _ _):(0:Nat)=0/\(CK 33 (fun i=>pI .u64 (y3 i))).length=33) ⟨[(8,(.reg 9000 0)),(7,(.reg 8000 0)),(6,(.reg 7000 0)),(4,(.reg 5000 0)),(2,(.reg 3000 0)),(1,(.p (vSl 2 A0 a)))],[(9000,(.arr 33 (fun i=>pI .u64 (y3 i)))),(8000,(.arr 33 (fun i=>pI .u64 (y1 i)))),(7000,(.arr 33 (fun i=>pI .u64 (y2 i)))),(5000,(.arr 33 (fun i=>pI .u64 ((fun _=>0) i)))),(3000,(.cells [(.p (GF p_x.of)),(pN p_x.min),(pN p_x.max)]))]⟩ (ids:=[(3000,3000),(5000,5000),(7000,7000),(8000,8000),(9000,9000)]) ?_ (hle:=(klR [(1,.fn 33 33 (fun i=>[(fun i=>(cA 33 (pI .u64) y3).getD i default) i]) (fun i=>[pI .u64 (y3 i)])),(2,.fn 33 33 (fun i=>[(fun i=>(cA 33 (pI .u64) y1).getD i default) i]) (fun i=>[pI .u64 (y1 i)])),(3,.fn 33 33 (fun i=>[(fun i=>(cA 33 (pI .u64) y2).getD i default) i]) (fun i=>[pI .u64 (y2 i)]))] (al1 ⟨rfl,(F2 33 (fun i=>pI .u64 (y3 i)))⟩ (al1 ⟨rfl,(F2 33 (fun i=>pI .u64 (y1 i)))⟩ (al1 ⟨rfl,(F2 33 (fun i=>pI .u64 (y2 i)))⟩ al0)))));obtain⟨y4,e4,h⟩:=B9 h;refine C6 Z [8000,9000] Pq (Eh Z Y e4) ?_;apply kI Z h<;>intro h
 .refine kC Z h (Z3 Z Y) (fun y5 h=>?_);refine Bz Z (And.intro rfl (G2 _ _):(0:Nat)=0/\(CK 33 (fun i=>pI .u64 (y5 i))).length=33) ⟨[(7,(.reg 8000 0)),(6,(.reg 7000 0)),(4,(.reg 5000 0))],[(8000,(.arr 33 (fun i=>pI .u64 (y5 i)))),(7000,(.arr 33 (fun i=>pI .u64 (y2 i)))),(5000,(.arr 33 (fun i=>pI .u64 ((fun _=>0) i))))]⟩ (ids:=[(5000,5000),(7000,7000),(8000,8000)]) ?_ (hle:=(klR [(0,.fn 33 33 (fun i=>[(fun i=>(cA 33 (pI .u64) y5).getD i default) i]) (fun i=>[pI .u64 (y5 i)]))] (al1 ⟨rfl,(F2 33 (fun i=>pI .u64 (y5 i)))⟩ al0)));obtain⟨y6,e6,h⟩:=B9 h;refine C6 Z [7000,8000] Pq (T5 Z Y e6) ?_;obtain rfl:=C4 h;exact A9 Z (And.intro rfl (G2 _ _):(0:Nat)=0/\(CK 33 (fun i=>pI .u64 (y6 i))).length=33) ⟨[(4,(.reg 5000 0))],[(5000,(.arr 33 (fun i=>pI .u64 (y6 i))))]⟩ [] (ids:=[(5000,5000)]) ⟨rfl,rfl,rfl⟩ (hle:=(klR [(0,.fn 33 33 (fun i=>[(fun i=>(cA 33 (pI .u64) y6).getD i default) i]) (fun i=>[pI .u64 (y6 i)]))] (al1 ⟨rfl,(F2 33 (fun i=>pI .u64 (y6 i)))⟩ al0)))
 refine kC Z h (Z3 Z Y) (fun y7 h=>?_);refine Bz Z (And.intro rfl (G2 _ _):(0:Nat)=0/\(CK 33 (fun i=>pI .u64 (y7 i))).length=33) ⟨[(7,(.reg 8000 0)),(6,(.reg 7000 0)),(4,(.reg 5000 0))],[(8000,(.arr 33 (fun i=>pI .u64 (y7 i)))),(7000,(.arr 33 (fun i=>pI .u64 (y2 i)))),(5000,(.arr 33 (fun i=>pI .u64 ((fun _=>0) i))))]⟩ (ids:=[(5000,5000),(7000,7000),(8000,8000)]) ?_ (hle:=(klR [(0,.fn 33 33 (fun i=>[(fun i=>(cA 33 (pI .u64) y7).getD i default) i]) (fun i=>[pI .u64 (y7 i)]))] (al1 ⟨rfl,(F2 33 (fun i=>pI .u64 (y7 i)))⟩ al0)));obtain⟨y8,e8,h⟩:=B9 h;refine C6 Z [7000,8000] Pq (T5 Z Y e8) ?_;obtain rfl:=C4 h;exact A9 Z (And.intro rfl (G2 _ _):(0:Nat)=0/\(CK 33 (fun i=>pI .u64 (y8 i))).length=33) ⟨[(4,(.reg 5000 0))],[(5000,(.arr 33 (fun i=>pI .u64 (y8 i))))]⟩ [] (ids:=[(5000,5000)]) ⟨rfl,rfl,rfl⟩ (hle:=(klR [(0,.fn 33 33 (fun i=>[(fun i=>(cA 33 (pI .u64) y8).getD i default) i]) (fun i=>[pI .u64 (y8 i)]))] (al1 ⟨rfl,(F2 33 (fun i=>pI .u64 (y8 i)))⟩ al0)))
def V9 (rec:Pat->Option Part)(N:Nat)(a:Pat):Option Part:= S0 N (fun b (x1:Sl Part) (x2:Int)=>if (decide (x2<(a.L.n:Int))) then if ((0:Int)<=x2/\x2<(a.L.n:Int))then (rec (a.L.g x2.toNat)).bind fun y3=>if ((x1.n+(Sl.of [y3]:Sl Part).n)*16<=140737488355328/\x1.n+(Sl.of [y3]:Sl Part).n<=140737488355328)then b (x1.push y3) (wrap .i64 (x2+1)) else none else none else if (a.Kind==1) then some (Part.sound a.Is a.Not) else if (a.Kind==2) then some (Part.edge false) else if (a.Kind==6) then some (Part.edge true) else if (a.Kind==4) then some (Part.alt x1.n x1.g) else if (a.Kind==5) then if (((0:Int)<=0/\0<(x1.n:Int))/\0<x1.n)then some (Part.rep (x1.g 0) a.Min a.Max) else none else some (Part.seq x1.n x1.g)) (Sl.nil:Sl Part) 0
def AY:Nat->Pat->Option Part
 |0=>fun _=>none
 |N+1=>V9 (AY N) N
theorem Ot {rec:Pat->Option Part}(b:∀{a:Pat}{y:Part},rec a=some y->FunO S Cs [.p (.agg (D2 a))] [] (.p (GF y)) ([]) []){a:Pat}{y:Part}(h:V9 rec N a=some y) :FunO S Cs [.p (.agg (D2 a))] [] (.p (GF y)) ([]) []:=by
 unfold V9 at h;refine A3 Z func218 ?_;refine G4 Z Pq 2 2000 (D2 a) ?_;refine P0 Z Pq 8 ⟨[(7,.p (vSl 7 D2 a.L)),(3,.p M8),(1,.p (.ptr (D2 a)))],[]⟩ (ids:=[]) ?_ (hle:=klR [(0,.fn a.L.n a.L.n (Bt a) (fun i=>D2 (a.L.g i)))] (al1 ⟨rfl,R6 a⟩ al0));refine G9 Z Pq h (fun x1 x2=>⟨[(9,pN x2),(8,pN (a.L.n:Int)),(7,.p (vSl 7 D2 a.L)),(3,.vec 4500),(1,.p (.ptr (D2 a)))],[(4500,.vec XL 1 x1.n (fun i=>EZ (x1.g i)) false)]⟩) (ids:=[]) (fun _ _ _ _ _ d x1 x2 f h=>?_);apply kI Z h<;>intro h
 .obtain⟨c6,h⟩:=D6 h;refine G4 Z (And.intro c6 Ri) 13 6000 (D2 (a.L.g x2.toNat)) ?_;obtain⟨y3,e3,h⟩:=B9 h;refine C6 Z [] Ri (b e3) ?_;obtain⟨c7,h⟩:=D6 h;exact f _ [(4500,18000)] _ (x1.push y3) (wrap .i64 (x2+1)) (And.intro Rp c7) h (hle:=klR [(4,.fn (x1.n+1) (x1.push y3).n (T2 x1.n (fun i=>EZ (x1.g i)) (D3 [.v .nilIface] [(0,EZ y3)])) (fun i=>EZ ((x1.push y3).g i)))] (al1 ⟨rfl,EA (c:=EZ) (v:=x1) (x:=y3) (z:=[(.v .nilIface)]) same rfl rfl⟩ al0))
 apply kI Z h<;>intro h
 .obtain rfl:=C4 h;exact Am4 Z (by decide:(2:Nat)<=6) [] ⟨rfl,rfl,rfl⟩
 apply kI Z h<;>intro h
 .cases h;exact kR Z
 apply kI Z h<;>intro h
 .cases h;exact kR Z
 apply kI Z h<;>intro h
 .refine P0 Z Pq 40 ⟨[(39,.p (vSl 1 EZ x1))],[]⟩ (ids:=[]) ?_;cases h;exact kR Z
 apply kI Z h<;>intro h
 .refine E3 Z Pq [4,6] ?_;obtain⟨c13,h⟩:=D6 h;refine H3 c13 ?_;cases h;exact kR Z
 refine P0 Z Pq 54 ⟨[(53,.p (vSl 1 EZ x1))],[]⟩ (ids:=[]) ?_;cases h;exact kR Z
theorem Px {a:Pat}{y:Part}(h:AY N a=some y) :FunO S Cs [.p (.agg (D2 a))] [] (.p (GF y)) ([]) []:=by
 induction N generalizing a y with
 |zero=>cases (show (none:Option Part)=some y from h)
 |succ N ih=>exact Ot Z Y (fun e=>ih e) h
end Go.AM
namespace Go.AM
open Go.Proofs
variable {S:U3}(Z:H2 S Tryz.prog) (Y:Ij S)
include Z Y
def AZ:Nat->Part->Sl Sm->Option (Nat->Int)
 |0=>fun _ _=>none
 |N+1=>fun p w=>match p with
  |.nil=>none
  |.sound x no=>Z4 N ⟨x,no⟩ w
  |.edge e=>AX N ⟨e⟩ w
  |.seq n g=>BK (AZ N) N ⟨⟨n,g⟩⟩ w
  |.alt n g=>BL (AZ N) N ⟨⟨n,g⟩⟩ w
  |.rep o mn mx=>BM (AZ N) N ⟨o,mn,mx⟩ w
theorem Au0 {N:Nat}{x:Part}{w:Sl Sm}{y:Nat->Int}(h:AZ N x w=some y):Bg8 S Tryz.prog (GF x) "ablaut/pats.in" [(.p (vSl 2 A0 w))] (.p (.agg (cA 33 (pI .u64) y))):=by
 induction N generalizing x w y with
 |zero=>cases h
 |succ N ih=>
  cases x with
  |nil=>cases h
  |sound s no=>exact⟨_,_,DE,rfl,by kernel_rfl,Or Z Y (p_x:=⟨s,no⟩) h⟩
  |edge e=>exact⟨_,_,Et,rfl,by kernel_rfl,Pw Z Y (N:=N) (p_x:=⟨e⟩) h⟩
  |seq n g=>exact⟨_,_,FF,rfl,by kernel_rfl,SH Z Y (fun e=>ih e) (p_x:=⟨⟨n,g⟩⟩) h⟩
  |alt n g=>exact⟨_,_,FD,rfl,by kernel_rfl,SI Z Y (fun e=>ih e) (p_x:=⟨⟨n,g⟩⟩) h⟩
  |rep o mn mx=>exact⟨_,_,FE,rfl,by kernel_rfl,SJ Z Y (fun e=>ih e) (p_x:=⟨o,mn,mx⟩) h⟩
end Go.AM
namespace Go.AM
open Go.Proofs.Tryz
variable {N:Nat}
open IntKind (wrap)
open Go.Proofs
set_option maxRecDepth 10000
set_option maxHeartbeats 2000000
variable {S:U3}(Z:H2 S Tryz.prog) (Y:Ij S)
include Z Y
def U1 (N:Nat)(a:Sm):Option Bool:= (P5 N a).bind fun y1=>some (!y1)
theorem Ou {a:Sm}{y:Bool}(h:U1 N a=some y) :FunO S GL [.p (.agg (A0 a))] [] (pB y) ([]) []:=by unfold U1 at h;refine A3 Z func217 ?_;refine kC Z h (Eg Z Y) (fun y1 h=>?_);cases h;exact kR Z
def E8 (N:Nat)(a:Sl Sm)(c:Sm->Option Bool):Option Int:= Q7 N (fun b (x1:Int)=>if (decide (x1<(a.n:Int))) then if ((0:Int)<=x1/\x1<(a.n:Int))then (c (a.g x1.toNat)).bind fun y3=>if y3 then some x1 else b (wrap .i64 (x1+1)) else none else some (-1)) 0
theorem X3 {a:Sl Sm}{c:Sm->Option Bool}{kp_f:Nat}(d:∀{a0:Sm}{b:Bool},c a0=some b->FunO S kp_f [.p (.agg (A0 a0))] [] (pB b) [] []){y:Int}(h:E8 N a c=some y) :FunO S M0 [.p (vSl 2 A0 a),.clo kp_f [] []] [] (pN y) ([]) []:=by
 unfold E8 at h;refine A3 Z func132 ?_;refine H0 Z Pq h (fun x1=>⟨[(8,pN x1),(7,pN (a.n:Int)),(1,.clo kp_f [] []),(0,.p (vSl 2 A0 a))],[]⟩) (ids:=[]) (fun _ _ _ _ _ f x1 g h=>?_);apply kI Z h<;>intro h
 .obtain⟨c8,h⟩:=D6 h;obtain⟨y3,e3,h⟩:=B9 h;refine C6 Z [] (And.intro c8 Q6) (d e3) ?_;apply kI Z h<;>intro h
  .cases h;exact kR Z
  exact g _ [] _ (wrap .i64 (x1+1)) Pq h
 cases h;exact kR Z
def C8 (N:Nat)(a:Sl Sm)(b:Sm->Option Bool):Option Bool:= (E8 N a b).bind fun y1=>some (decide (0<=y1))
theorem J8 {a:Sl Sm}{c:Sm->Option Bool}{kp_f:Nat}(d:∀{a0:Sm}{b:Bool},c a0=some b->FunO S kp_f [.p (.agg (A0 a0))] [] (pB b) [] []){y:Bool}(h:C8 N a c=some y) :FunO S J7 [.p (vSl 2 A0 a),.clo kp_f [] []] [] (pB y) ([]) []:=by unfold C8 at h;refine A3 Z func108 ?_;refine kC Z h (X3 Z Y (fun e=>d e)) (fun y1 h=>?_);cases h;exact kR Z
def E4 (N:Nat)(q0:Sl Pat):Option (List (Int×Pat)):= Q7 N (fun a (x1:Int)=>if (decide (0<=x1)) then if ((0:Int)<=x1/\x1<(q0.n:Int))then Az (x1,q0.g x1.toNat) (a (wrap .i64 (x1-1))) else none else some []) (wrap .i64 ((q0.n:Int)-1))
theorem Ap {q0:Sl Pat}{L:List (Int×Pat)}(h:E4 N q0=some L) :Gk S F3 [] [.reg 0 0] [.cells [.p (vSl 7 D2 q0)]] (L.map (fun (x:Int×Pat)=>[pI .i64 x.1,(fun x=>.agg (D2 x)) x.2])):=by
 unfold E4 at h;refine Hs Z func153 ?_;refine GD Z Pq h (fun x1 L1=>⟨[(3,pN x1),(1,.reg 0 0),(0,.yf 1)],[(1,.yld (L1.map (fun (x:Int×Pat)=>[pI .i64 x.1,(fun x=>.agg (D2 x)) x.2])) true),(0,.cells [.p (vSl 7 D2 q0)])]⟩) (ids:=[(0,0),(1,1)]) (fun _ _ _ _ _ d x1 L1 f h=>?_);apply kI Z h<;>intro h
 .obtain⟨c10,h⟩:=D6 h;obtain⟨L4,rfl,c⟩:=Pc h;replace h:=c;refine Er Z (And.intro c10 Ri) (ys:=(fun (x:Int×Pat)=>[pI .i64 x.1,(fun x=>.agg (D2 x)) x.2]) (x1,q0.g x1.toNat)) (rest:=L4.map (fun (x:Int×Pat)=>[pI .i64 x.1,(fun x=>.agg (D2 x)) x.2])) ?_ ?_
  .refine D4 Z Pq (b:=false) (fun c11=>?_) (fun c11=>?_)
   .exact Bool.noConfusion ((rfl:false=false).symm.trans c11)
   exact f _ [(0,0),(1,1)] _ (wrap .i64 (x1-1)) L4 Pq h
  refine D4 Z Pq (b:=true) (fun c12=>?_) (fun c12=>?_)
  .exact A9 Z Pq (a:=.tup []) (objs:=[(.cells [.p (vSl 7 D2 q0)]),.yld [] false]) ⟨[],[(1,.yld [] false),(0,.cells [.p (vSl 7 D2 q0)])]⟩ [0,1] (ids:=[(0,0),(1,1)]) ⟨false,rfl,rfl,_,rfl⟩
  exact Bool.noConfusion (Rp.symm.trans c12)
 obtain rfl:=C4 h;exact A9 Z Pq (a:=.tup []) (objs:=[(.cells [.p (vSl 7 D2 q0)]),.yld [] true]) ⟨[],[(1,.yld [] true),(0,.cells [.p (vSl 7 D2 q0)])]⟩ [0,1] (ids:=[(0,0),(1,1)]) ⟨true,rfl,rfl,_,rfl⟩
def I8 (N:Nat)(a:Sl Pat):Option (Sl Pat):= some a
theorem Ba {a:Sl Pat}{y:Sl Pat}(h:I8 N a=some y) :FunO S P2 [.p (vSl 7 D2 a)] [] (.clo F3 [] [.reg 0 0]) ([.cells [.p (vSl 7 D2 y)]]) []:=by unfold I8 at h;refine A3 Z func131 ?_;obtain rfl:=C4 h;exact A9 Z Pq ⟨[(2,.clo F3 [] [.reg 2000 0])],[(2000,.cells [.p (vSl 7 D2 a)])]⟩ [2000] (ids:=[(2000,2000)]) ⟨rfl,rfl,rfl⟩
def Z5 (N:Nat)(c:Pat):Option Int:= S0 N (fun a (x3:Sl Pat) (x4:Int)=>if (decide (0<(x3.n:Int))) then if (x4==40) then some 12 else if (((0:Int)<=(wrap .i64 ((x3.n:Int)-1))/\(wrap .i64 ((x3.n:Int)-1))<(x3.n:Int))/\(wrap .i64 ((x3.n:Int)-1)).toNat<x3.n)then if ((0:Int)<=(wrap .i64 ((x3.n:Int)-1))/\(wrap .i64 ((x3.n:Int)-1))<=(x3.n:Int))then (AU N (x3.g (wrap .i64 ((x3.n:Int)-1)).toNat)).bind fun y5=>if (y5 != 0) then some y5 else if ((0:Int)<=(if 41<((x3.g (wrap .i64 ((x3.n:Int)-1)).toNat).L.n:Int)then 41 else ((x3.g (wrap .i64 ((x3.n:Int)-1)).toNat).L.n:Int))/\(if 41<((x3.g (wrap .i64 ((x3.n:Int)-1)).toNat).L.n:Int)then 41 else ((x3.g (wrap .i64 ((x3.n:Int)-1)).toNat).L.n:Int))<=((x3.g (wrap .i64 ((x3.n:Int)-1)).toNat).L.n:Int))then (I8 N ((x3.g (wrap .i64 ((x3.n:Int)-1)).toNat).L.take (if 41<((x3.g (wrap .i64 ((x3.n:Int)-1)).toNat).L.n:Int)then 41 else ((x3.g (wrap .i64 ((x3.n:Int)-1)).toNat).L.n:Int)).toNat)).bind fun y6=>(E4 N y6).bind fun L3=>Q5 L3 (fun b (x7:Int×Pat) (z3:Sl Pat)=>if ((((z3.n+(Sl.of [Pat.nil]:Sl Pat).n)*64<=140737488355328/\z3.n+(Sl.of [Pat.nil]:Sl Pat).n<=140737488355328)/\((0:Int)<=(z3.n:Int)/\(z3.n:Int)<((z3.push Pat.nil).n:Int)))/\(z3.n:Int).toNat<(z3.push Pat.nil).n)then b ((z3.push Pat.nil).upd (z3.n:Int).toNat x7.2) else none) (fun (z3:Sl Pat)=>a z3 (wrap .i64 (x4+1))) (x3.take (wrap .i64 ((x3.n:Int)-1)).toNat) else none else none else none else some 0) (Sl.of [c]:Sl Pat) 0
theorem GQ {b:Pat}{y:Int}(h:Z5 N b=some y) :FunO S LD [.p (.agg (D2 b))] [] (pN y) ([]) []:=by
 unfold Z5 at h;refine A3 Z func107 ?_;refine G4 Z Pq 2 2000 (D2 b) ?_;refine G9 Z (And.intro Ri Rp) h (fun x3 x4=>⟨[(4,pN x4),(3,.reg 4000 0)],[(4501,.vec GO 7 x3.n (fun i=>D2 (x3.g i)) false),(4000,.cells [.vec 4501])]⟩) (ids:=[(4000,4000),(4501,12000)]) (fun _ _ _ _ _ d x3 x4 j h=>?_) (hle:=klR [(1,.fn 1 (Sl.of [b]:Sl Pat).n (D3 [pI .i64 0,pI .u32 0,pI .u32 0,.v (.bool false),pI .i64 0,pI .i64 0,M8] [(0,D2 b)]) (fun i=>D2 ((Sl.of [b]:Sl Pat).g i)))] (al1 ⟨rfl,(fun i m=>match i,m with|0,_=>rfl|_+1,m=>Pm m (by omega))⟩ al0));apply kI Z h<;>intro h
 .apply kI Z h<;>intro h
  .cases h;exact kR Z
  obtain⟨c21,h⟩:=D6 h;refine G4 Z (And.intro (And.intro c21.1 Ri) c21.2) 25 6000 (D2 (x3.g (wrap .i64 ((x3.n:Int)-1)).toNat)) ?_;obtain⟨c22,h⟩:=D6 h;refine Bg9 Z c22 30 4501 (wrap .i64 ((x3.n:Int)-1)).toNat 4508 (e:=GO) (k:=7) (N:=x3.n) (f:=fun i=>D2 (x3.g i)) (by have r:=c22;omega) ?_;obtain⟨y5,e7,h⟩:=B9 h;refine C6 Z [] Ri (Pv Z Y e7) ?_;apply kI Z h<;>intro h
  .cases h;exact kR Z
  refine P0 Z Pq 39 ⟨[(38,.p (vSl 7 D2 (x3.g (wrap .i64 ((x3.n:Int)-1)).toNat).L)),(36,.p (vSl 7 D2 (x3.g (wrap .i64 ((x3.n:Int)-1)).toNat).L)),(4,pN x4),(3,.reg 4000 0)],[(4508,.vec GO 7 (x3.take (wrap .i64 ((x3.n:Int)-1)).toNat).n (fun i=>D2 ((x3.take (wrap .i64 ((x3.n:Int)-1)).toNat).g i)) false),(4000,.cells [.vec 4508])]⟩ (ids:=[(4000,4000),(4508,4508)]) ?_ (hle:=klR [(0,.fn (x3.g (wrap .i64 ((x3.n:Int)-1)).toNat).L.n (x3.g (wrap .i64 ((x3.n:Int)-1)).toNat).L.n (Bt (x3.g (wrap .i64 ((x3.n:Int)-1)).toNat)) (fun i=>D2 ((x3.g (wrap .i64 ((x3.n:Int)-1)).toNat).L.g i))),(1,.fn (x3.g (wrap .i64 ((x3.n:Int)-1)).toNat).L.n (x3.g (wrap .i64 ((x3.n:Int)-1)).toNat).L.n (Bt (x3.g (wrap .i64 ((x3.n:Int)-1)).toNat)) (fun i=>D2 ((x3.g (wrap .i64 ((x3.n:Int)-1)).toNat).L.g i)))] (al1 ⟨rfl,R6 (x3.g (wrap .i64 ((x3.n:Int)-1)).toNat)⟩ (al1 ⟨rfl,R6 (x3.g (wrap .i64 ((x3.n:Int)-1)).toNat)⟩ al0)));obtain⟨c24,h⟩:=D6 h;obtain⟨y6,e8,h⟩:=B9 h;refine C6 Z [] c24 (Ba Z Y e8) ?_;obtain⟨L3,e9,h⟩:=B9 h;refine Fx Z Pq [44000] [4,3] 905 (fun z3=>⟨[(4,pN x4),(3,.reg 4000 0)],[(4500,.vec GO 7 z3.n (fun i=>D2 (z3.g i)) false),(4000,.cells [.vec 4500])]⟩) (idl:=[(4000,4000),(4500,4508)]) h (Ap Z Y e9) (fun _=>by kernel_rfl) (fun _=>by kernel_rfl) (fun _=>by kernel_rfl) (fun _=>by kernel_rfl) (fun x7 _ o z3 q h=>?_) (fun z3 h=>?_)
  .refine Jx Z Pq ?_;refine AB0 Z Pq 10000 (D2 x7.2) ?_;refine T4 Z Pq [(0,.l [4000]),(1,.n),(2,.l [4500]),(4,.a [51000,4500]),(5,.l [51000]),(6,.a [51000]),(7,.a [4000])] ?_;refine Y8 Ri (x:=.sl true 7 1 (D3 [pI .i64 0,pI .u32 0,pI .u32 0,.v (.bool false),pI .i64 0,pI .i64 0,M8] [(0,[pI .i64 0,pI .u32 0,pI .u32 0,.v (.bool false),pI .i64 0,pI .i64 0,M8])])) ?_;obtain⟨c27,h⟩:=D6 h;refine H3 (And.intro (And.intro c27.1.1 c27.1.2) (And.intro (rfl:(7:Nat)=7) (And.intro c27.2 Ri))) ?_;exact q _ [(905,905),(4000,4000),(4500,51000)] _ ((z3.push Pat.nil).upd (z3.n:Int).toNat x7.2) Pq h (hle:=klR [(0,.fn (z3.n+1) ((z3.push Pat.nil).upd (z3.n:Int).toNat x7.2).n (fun l=>if l=(z3.n:Int).toNat then splice (T2 z3.n (fun i=>D2 (z3.g i)) (D3 [pI .i64 0,pI .u32 0,pI .u32 0,.v (.bool false),pI .i64 0,pI .i64 0,M8] [(0,[pI .i64 0,pI .u32 0,pI .u32 0,.v (.bool false),pI .i64 0,pI .i64 0,M8])]) l) 0 [pI .i64 x7.2.Kind,pI .u32 x7.2.Is.Plus,pI .u32 x7.2.Is.Minus,.bb x7.2.Not,pI .i64 x7.2.Min,pI .i64 x7.2.Max,.sl false 7 x7.2.L.n (Bt x7.2)]else (T2 z3.n (fun i=>D2 (z3.g i)) (D3 [pI .i64 0,pI .u32 0,pI .u32 0,.v (.bool false),pI .i64 0,pI .i64 0,M8] [(0,[pI .i64 0,pI .u32 0,pI .u32 0,.v (.bool false),pI .i64 0,pI .i64 0,M8])])) l) (fun i=>D2 (((z3.push Pat.nil).upd (z3.n:Int).toNat x7.2).g i)))] (al1 ⟨rfl,setH (c:=D2) (v:=z3.push Pat.nil) (x:=x7.2) (app1H (c:=D2) (v:=z3) (z:=Pat.nil) same rfl) (fun _=>by simp[T2,D3,splice])⟩ al0))
  exact j _ [(4000,4000),(4501,4500)] _ z3 (wrap .i64 (x4+1)) Pq h
 cases h;exact kR Z
def Aq (N:Nat)(b:Pat)(a:Sl Sm):Option ((Nat->Int)×Int):= (Z5 N b).bind fun y1=>if (y1 != 0) then some (fun _=>0,y1) else if (decide (32<(a.n:Int))) then some (fun _=>0,11) else (C8 N a (fun (u1:Sm)=>U1 N u1)).bind fun y2=>if y2 then some (fun _=>0,14) else (AY N b).bind fun y3=>(AZ N y3 a).bind fun y4=>some (y4,0)
theorem JT {a:Pat}{b:Sl Sm}{y:(Nat->Int)×Int}(h:Aq N a b=some y) :FunO S JN [.p (.agg (D2 a)),.p (vSl 2 A0 b)] [] (.tup [.p (.agg (cA 33 (pI .u64) y.1)),pN y.2]) ([]) []:=by
 unfold Aq at h;refine A3 Z func214 ?_;refine kC Z h (GQ Z Y) (fun y1 h=>?_);apply kI Z h<;>intro h
 .obtain rfl:=C4 h;exact A9 Z (And.intro rfl (G2 _ _):(0:Nat)=0/\(CK 33 (fun i=>pI .u64 ((fun _=>0) i))).length=33) ⟨[(5,pN y1),(4,.reg 5000 0)],[(5000,.arr 33 (fun i=>pI .u64 ((fun _=>0) i)))]⟩ [] (ids:=[(5000,5000)]) ⟨rfl,rfl,rfl⟩ (hle:=klR [(1,.fn 33 33 (fun i=>[(fun i=>(cA 33 (pI .u64) (fun _=>0)).getD i default) i]) (fun i=>[pI .u64 ((fun _=>0) i)]))] (al1 ⟨rfl,F2 33 (fun i=>pI .u64 ((fun _=>0) i))⟩ al0))
 apply kI Z h<;>intro h
 .obtain rfl:=C4 h;exact A9 Z (And.intro rfl (G2 _ _):(0:Nat)=0/\(CK 33 (fun i=>pI .u64 ((fun _=>0) i))).length=33) ⟨[(5,pN 11),(4,.reg 5000 0)],[(5000,.arr 33 (fun i=>pI .u64 ((fun _=>0) i)))]⟩ [] (ids:=[(5000,5000)]) ⟨rfl,rfl,rfl⟩ (hle:=klR [(1,.fn 33 33 (fun i=>[(fun i=>(cA 33 (pI .u64) (fun _=>0)).getD i default) i]) (fun i=>[pI .u64 ((fun _=>0) i)]))] (al1 ⟨rfl,F2 33 (fun i=>pI .u64 ((fun _=>0) i))⟩ al0))
 refine kC Z h (J8 Z Y (fun e=>Ou Z Y e)) (fun y2 h=>?_);apply kI Z h<;>intro h
 .obtain rfl:=C4 h;exact A9 Z (And.intro rfl (G2 _ _):(0:Nat)=0/\(CK 33 (fun i=>pI .u64 ((fun _=>0) i))).length=33) ⟨[(5,pN 14),(4,.reg 5000 0)],[(5000,.arr 33 (fun i=>pI .u64 ((fun _=>0) i)))]⟩ [] (ids:=[(5000,5000)]) ⟨rfl,rfl,rfl⟩ (hle:=klR [(1,.fn 33 33 (fun i=>[(fun i=>(cA 33 (pI .u64) (fun _=>0)).getD i default) i]) (fun i=>[pI .u64 ((fun _=>0) i)]))] (al1 ⟨rfl,F2 33 (fun i=>pI .u64 ((fun _=>0) i))⟩ al0))
 refine kC Z h (Px Z Y) (fun y3 h=>?_);obtain⟨y4,e4,h⟩:=B9 h;refine Mm Z Pq (Au0 Z Y e4) ?_;obtain rfl:=C4 h;exact A9 Z (And.intro rfl (G2 _ _):(0:Nat)=0/\(CK 33 (fun i=>pI .u64 (y4 i))).length=33) ⟨[(5,pN 0),(4,.reg 5000 0)],[(5000,.arr 33 (fun i=>pI .u64 (y4 i)))]⟩ [] (ids:=[(5000,5000)]) ⟨rfl,rfl,rfl⟩ (hle:=klR [(1,.fn 33 33 (fun i=>[(fun i=>(cA 33 (pI .u64) y4).getD i default) i]) (fun i=>[pI .u64 (y4 i)]))] (al1 ⟨rfl,F2 33 (fun i=>pI .u64 (y4 i))⟩ al0))
def BN (N:Nat)(d:Pat)(c:Sl Sm)(a:Int):Option ((Sl Int)×Int):= (Aq N d c).bind fun y1=>lt (fun (z1:Int)=>if (z1 != 0) then some (Sh,z1) else S0 N (fun b (x2:Sl Int) (x3:Int)=>if (decide (x3<(wrap .i64 ((c.n:Int)+1)))) then if ((((0:Int)<=x3/\x3<33)/\(0+x3.toNat*1)<33)/\(0:Int)<=a)then if ((F4 .and .u64 (shI .shr .u64 (y1.1 (0+x3.toNat*1)) a) 1)==1) then if ((x2.n+(Sl.of [x3]:Sl Int).n)*8<=140737488355328/\x2.n+(Sl.of [x3]:Sl Int).n<=140737488355328)then b (x2.push x3) (wrap .i64 (x3+1)) else none else b x2 (wrap .i64 (x3+1)) else none else some (x2,0)) Sh 0) fun k1=>if (y1.2==0) then (Ao N c a).bind fun y3=>k1 y3 else k1 y1.2
theorem SK {f:Pat}{d:Sl Sm}{a:Int}{y:(Sl Int)×Int}(h:BN N f d a=some y) :FunO S JM [.p (.agg (D2 f)),.p (vSl 2 A0 d),pN a] [] (.tup [.vec 0,pN y.2]) ([.vec C7 1 y.1.n (fun i=>cI .i64 (y.1.g i)) true]) []:=by
 unfold BN at h;refine A3 Z func210 ?_;refine kC Z h (JT Z Y) (fun y1 h=>?_);refine EC Z (And.intro rfl (G2 _ _):(0:Nat)=0/\(CK 33 (fun i=>pI .u64 (y1.1 i))).length=33) (A5 Z) h 0 (fun z1=>⟨[(9,pN z1),(8,.reg 9000 0),(2,pN a),(1,.p (vSl 2 A0 d))],[(9000,.arr 33 (fun i=>pI .u64 (y1.1 i)))]⟩) (fun M1 k1 j h=>?_) (fun z1 h=>?_)
 .apply kI Z h<;>intro h
  .refine kC Z h (JS Z Y) (fun y3 h=>?_);exact j _ [(9000,9000)] _ y3 Pq h (hle:=klR [(3,.fn 33 33 (fun i=>[(fun i=>(cA 33 (pI .u64) y1.1).getD i default) i]) (fun i=>[pI .u64 (y1.1 i)]))] (al1 ⟨rfl,F2 33 (fun i=>pI .u64 (y1.1 i))⟩ al0))
  exact j _ [(9000,9000)] _ y1.2 Pq h (hle:=klR [(3,.fn 33 33 (fun i=>[(fun i=>(cA 33 (pI .u64) y1.1).getD i default) i]) (fun i=>[pI .u64 (y1.1 i)]))] (al1 ⟨rfl,F2 33 (fun i=>pI .u64 (y1.1 i))⟩ al0))
 apply kI Z h<;>intro h
 .obtain rfl:=C4 h;exact A9 Z Pq ⟨[(7,pN z1),(6,.vec 7700)],[(7700,.vec C7 1 Sh.n (fun i=>cI .i64 (Sh.g i)) true)]⟩ [7700] (ids:=[]) ⟨rfl,rfl,rfl⟩
 refine G9 Z Pq h (fun x2 x3=>⟨[(29,pN x3),(28,pN (wrap .i64 ((d.n:Int)+1))),(10,.vec 11500),(8,.reg 9000 0),(2,pN a)],[(11500,.vec C7 1 x2.n (fun i=>cI .i64 (x2.g i)) false),(9000,.arr 33 (fun i=>pI .u64 (y1.1 i)))]⟩) (ids:=[(9000,9000)]) (fun _ _ _ _ _ m x2 x3 l h=>?_);apply kI Z h<;>intro h
 .obtain⟨c12,h⟩:=D6 h;refine D4 Z c12 (b:=(F4 .and .u64 (shI .shr .u64 (y1.1 (0+x3.toNat*1)) a) 1)==1) (fun c13=>?_) (fun c13=>?_)
  .replace h:=itT c13 h;obtain⟨c14,h⟩:=D6 h;exact l _ [(9000,9000),(11500,43000)] _ (x2.push x3) (wrap .i64 (x3+1)) (And.intro Rp c14) h (hle:=klR [(3,.fn (x2.n+1) (x2.push x3).n (T2 x2.n (fun i=>cI .i64 (x2.g i)) (D3 [pI .i64 0] [(0,cI .i64 x3)])) (fun i=>cI .i64 ((x2.push x3).g i)))] (al1 ⟨rfl,EA (c:=cI .i64) (v:=x2) (x:=x3) (z:=[(pI .i64 0)]) same rfl rfl⟩ al0))
  replace h:=itF c13 h;exact l _ [(9000,9000),(11500,11500)] _ x2 (wrap .i64 (x3+1)) Pq h
 obtain rfl:=C4 h;exact A9 Z Pq ⟨[(7,pN 0),(6,.vec 11500)],[(11500,.vec C7 1 x2.n (fun i=>cI .i64 (x2.g i)) true)]⟩ [11500] (ids:=[(11500,11500)]) ⟨rfl,rfl,rfl⟩
def I4 (N:Nat)(a:List (Int)):Option (Sl Int):= Q5 a (fun b (x1:Int) (z1:Sl Int)=>if ((z1.n+(Sl.of [x1]:Sl Int).n)*8<=140737488355328/\z1.n+(Sl.of [x1]:Sl Int).n<=140737488355328)then b (z1.push x1) else none) (fun (z1:Sl Int)=>some z1) Sh
theorem CA {b:List (Int)}{a:Int}{kp_seq:Nat}(fp_seq:∃fn,Bm1[kp_seq]? = some fn/\fn.body.isSome=true/\(fn.name == "runtime.NumGoroutine")=false)(d:Gk S kp_seq [] [.reg 0 0] [(.cells [(.p (pI .u64 a))])] (b.map (fun (x:Int)=>[(pI .i64) x]))){y:(Sl Int)}(h:I4 N b=some y) :FunO S O3 [(.p M8),(.clo kp_seq [] [(.reg 0 0)])] [(.cells [(.p (pI .u64 a))])] (.vec 0) ([(.vec C7 1 y.n (fun i=>(cI .i64) (y.g i)) true)]) [false]:=by
 unfold I4 at h;refine A3 Z func134 ?_;refine Sb Z Pq fp_seq [0] [2] 901 (fun z1=>⟨[(2,(.reg 3000 0))],[(3500,(.vec C7 1 z1.n (fun i=>(cI .i64) (z1.g i)) false)),(3000,(.cells [(.vec 3500)]))]⟩) (idl:=[(3000,3000)]) h d (fun _=>by kernel_rfl) (fun _=>by kernel_rfl) (fun _=>by kernel_rfl) (fun _=>by kernel_rfl) (fun x1 _ f z1 j h=>?_) (fun z1 h=>?_)
 .refine Jx Z Pq ?_;obtain⟨c1,h⟩:=D6 h;exact j _ [(901,901),(3000,3000),(3500,12000)] _ (z1.push x1) (And.intro Rp c1) h (hle:=klR [(0,.fn (z1.n+1) (z1.push x1).n (T2 z1.n (fun i=>(cI .i64) (z1.g i)) (D3 [(pI .i64 0)] [(0,(cI .i64) x1)])) (fun i=>(cI .i64) ((z1.push x1).g i)))] (al1 ⟨rfl,(EA (c:=(cI .i64)) (v:=z1) (x:=x1) (z:=[(pI .i64 0)]) same rfl rfl)⟩ al0))
 obtain rfl:=C4 h;exact A9 Z Pq ⟨[(4,(.vec 3500))],[(3500,(.vec C7 1 z1.n (fun i=>(cI .i64) (z1.g i)) true))]⟩ [3500] (ids:=[(3500,3500)]) ⟨rfl,rfl,rfl⟩
def N7 (N:Nat)(a:List (Int)):Option (Sl Int):= (I4 N a).bind fun y1=>some y1
theorem GR {b:List (Int)}{a:Int}{kp_seq:Nat}(fp_seq:∃fn,Bm1[kp_seq]? = some fn/\fn.body.isSome=true/\(fn.name == "runtime.NumGoroutine")=false)(c:Gk S kp_seq [] [.reg 0 0] [(.cells [(.p (pI .u64 a))])] (b.map (fun (x:Int)=>[(pI .i64) x]))){y:(Sl Int)}(h:N7 N b=some y) :FunO S AC [(.clo kp_seq [] [(.reg 0 0)])] [(.cells [(.p (pI .u64 a))])] (.vec 0) ([(.vec C7 1 y.n (fun i=>(cI .i64) (y.g i)) true)]) [false]:=by unfold N7 at h;refine A3 Z func111 ?_;obtain⟨y1,e1,h⟩:=B9 h;refine C6 Z [0] Pq (CA Z Y fp_seq c e1) ?_;obtain rfl:=C4 h;exact A9 Z Pq ⟨[(2,(.vec 5000))],[(5000,(.vec C7 1 y1.n (fun i=>(cI .i64) (y1.g i)) true))]⟩ [5000] (ids:=[(5000,5000)]) ⟨rfl,rfl,rfl⟩
def DK (N:Nat)(c:Pat)(b:Sl Sm)(a:Int):Option ((Sl Int)×Int):= (Aq N c b).bind fun y1=>lt (fun (z1:Int)=>if (z1 != 0) then some (Sh,z1) else if (((0:Int)<=a/\a<33)/\(0+a.toNat*1)<33)then (AW N (y1.1 (0+a.toNat*1))).bind fun y4=>(Q9 N y4).bind fun L1=>(N7 N L1).bind fun y5=>some (y5,0) else none) fun k1=>if (y1.2==0) then (Ao N b a).bind fun y3=>k1 y3 else k1 y1.2
theorem XT {b:Pat}{c:Sl Sm}{a:Int}{y:(Sl Int)×Int}(h:DK N b c a=some y) :FunO S Od [.p (.agg (D2 b)),.p (vSl 2 A0 c),pN a] [] (.tup [.vec 0,pN y.2]) ([.vec C7 1 y.1.n (fun i=>cI .i64 (y.1.g i)) true]) []:=by
 unfold DK at h;refine A3 Z func211 ?_;refine kC Z h (JT Z Y) (fun y1 h=>?_);refine EC Z (And.intro rfl (G2 _ _):(0:Nat)=0/\(CK 33 (fun i=>pI .u64 (y1.1 i))).length=33) (A5 Z) h 0 (fun z1=>⟨[(9,pN z1),(8,.reg 9000 0),(2,pN a)],[(9000,.arr 33 (fun i=>pI .u64 (y1.1 i)))]⟩) (fun M1 k1 d h=>?_) (fun z1 h=>?_)
 .apply kI Z h<;>intro h
  .refine kC Z h (JS Z Y) (fun y3 h=>?_);exact d _ [(9000,9000)] _ y3 Pq h (hle:=klR [(2,.fn 33 33 (fun i=>[(fun i=>(cA 33 (pI .u64) y1.1).getD i default) i]) (fun i=>[pI .u64 (y1.1 i)]))] (al1 ⟨rfl,F2 33 (fun i=>pI .u64 (y1.1 i))⟩ al0))
  exact d _ [(9000,9000)] _ y1.2 Pq h (hle:=klR [(2,.fn 33 33 (fun i=>[(fun i=>(cA 33 (pI .u64) y1.1).getD i default) i]) (fun i=>[pI .u64 (y1.1 i)]))] (al1 ⟨rfl,F2 33 (fun i=>pI .u64 (y1.1 i))⟩ al0))
 apply kI Z h<;>intro h
 .obtain rfl:=C4 h;exact A9 Z Pq ⟨[(7,pN z1),(6,.vec 7700)],[(7700,.vec C7 1 Sh.n (fun i=>cI .i64 (Sh.g i)) true)]⟩ [7700] (ids:=[]) ⟨rfl,rfl,rfl⟩
 obtain⟨c5,h⟩:=D6 h;obtain⟨y4,e4,h⟩:=B9 h;refine C6 Z [] c5 (Ev Z Y e4) ?_;obtain⟨L1,e5,h⟩:=B9 h;obtain⟨y5,e6,h⟩:=B9 h;refine C6 Z [28000] Pq (GR Z Y ⟨_,func219,by decide +kernel,by decide +kernel⟩ (CM Z Y e5) e6) ?_;obtain rfl:=C4 h;exact A9 Z Pq ⟨[(7,pN 0),(6,.vec 29000)],[(29000,.vec C7 1 y5.n (fun i=>cI .i64 (y5.g i)) true)]⟩ [29000] (ids:=[(29000,29000)]) ⟨rfl,rfl,rfl⟩
end Go.AM
