/- What a law's walk and its plain proof need, part 5: no condition of its own. -/
import Derived.Test.YtodhnkfgkgkngaaGreatDoorOD
import Derived.Test.YtodhnkfgkgkngaaGreatDoorOC
import Derived.RecoverIn
import Derived.Test.YtodhnkfgkgkngaaGreatDoorProg
import Derived.Lib.SlTrimSet
import Derived.TacticsInMore
set_option linter.defProp false
set_option linter.unusedSimpArgs false
set_option linter.unusedVariables false
set_option linter.unusedSectionVars false
namespace Go.AM
noncomputable abbrev Ay1:=Go.Proofs.Tryz.prog.funcs
def Az5:=@BitVec.getLsbD_and
def AA9:=@Bool.eq_iff_iff
def AD2:=@BitVec.eq_of_getLsbD_eq
def AL6:=@BitVec.getLsbD_ushiftRight
def AL7:=@BitVec.getLsbD_one
def AM5:=@BitVec.getLsbD_shiftLeft
def AM8:=@BitVec.getLsbD_setWidth
def AO3:=@BitVec.getLsbD_ofBool
def AP9:=@BitVec.toNat_ofNat
def WM (D:List Deferred)(a:Act):Act:={ a with defers:=a.defers++D }
theorem DK (D:List Deferred)(a:Act)(d:Option Tmp)(v:Value):(WM D a).put d v=WM D (a.put d v):=by cases d<;>rfl
theorem GV {F:Fence}{n:Nat}{P:Program}{ops:Array Oper}{Q:Exit->Act->World->Prop}(D:List Deferred):∀(l:List Nat) (a:Act) (w:World),wpOpsIn F n P ops Q l a w ->
 wpOpsIn F n P ops (fun e a' w'=>∃a0,a' = WM D a0/\Q e a0 w') l (WM D a) w
 |[],a,w,h=>⟨a,rfl,h⟩
 |i::l,a,w,h=>by
  have ih:=GV (F:=F) (n:=n) (P:=P) (ops:=ops) (Q:=Q) D l;simp only[wpOpsIn]at h⊢;have e1:(WM D a).eval=a.eval:=by funext x;cases x<;>rfl
  have e2:(WM D a).tmps=a.tmps:=rfl;cases j:ops[i]? with
  |none=>simp only[j]at h⊢;exact ih a w h
  |some o=>
   simp only[j]at h⊢;rw[e2,e1];by_cases hw:Region.wanted o (yielded ops a.tmps)=true
   ·rw[if_pos hw]at h⊢;refine⟨by rw[e1];exact h.1,?_⟩;have b:=h.2;rw[e1];generalize (o.semAt F.round a.eval).run P w=r at b;unfold Oper.uponIn at b⊢;split at b
    ·rw[DK];exact ih _ _ b
    ·rw[DK];exact ih _ _ b
    ·exact ih _ _ b |> fun x=>by
      rename_i d w'
      have:({ (WM D a)with defers:=d::(WM D a).defers }:Act).put o.dst undef=WM D (({ a with defers:=d::a.defers }:Act).put o.dst undef):=by rw[<- DK];rfl
      rw[this];exact x
    ·refine⟨b.1,b.2.mono ?_⟩;intro e w' f;cases e with
     |returned v=>have:=ih _ _ f;rw[<- DK]at this;exact this
     |panicked ch=>exact⟨a,rfl,f⟩
     |outgrown=>obtain⟨a1,w1,g⟩:=f;exact⟨WM D a1,w1,a1,rfl,g⟩
    ·refine⟨b.1,fun c cs m=>?_⟩;obtain⟨v,w',g1,g2⟩:=b.2 c cs m;exact⟨v,w',by have:=ih _ _ g1;rw[<- DK]at this;exact this,g2⟩
    ·refine⟨b.1,b.2.mono ?_⟩;intro e w' f;cases e with
     |returned v=>have:=ih _ _ f;rw[<- DK]at this;exact this
     |panicked ch=>exact⟨a,rfl,f⟩
     |outgrown=>obtain⟨a1,w1,g⟩:=f;exact⟨WM D a1,w1,a1,rfl,g⟩
    ·exact⟨a,rfl,b⟩
    ·exact b.elim
   ·rw[if_neg hw]at h⊢;rw[DK];exact⟨h.1,ih _ _ h.2⟩
section
variable {P:Program}{C:Ctx}{st:St}{rho:Nat->Value}
theorem DL {fn:Func}{R:Ending->World->Prop}{u:FrameMode}(c:u ≠ .run){tmps:Array Value}{D:List Deferred}(b:∀a w,Sat C st a w rho->a.tmps=tmps->LeavesInM Fence.wide 0 P fn tmps R D u w) :∀(ds:List Deferred) (a:Act) (w:World),a.defers=ds->a.tmps=tmps->Sat C st a w rho->LeavesInM Fence.wide 0 P fn tmps R (ds++D) u w
 |[],a,w,hd,ht,h=>b a w h ht
 |d::ds,a,w,hd,ht,h=>by obtain⟨r,w',h1,f,g⟩:=h.unmark hd;exact⟨c,.inl ⟨r,w',h1,f,DL c b ds { a with defers:=ds } w' rfl ht g⟩⟩
end
end Go.AM
namespace Go.AM
structure F0 where
 Parent:Int
 Name:Str
 deriving Inhabited,DecidableEq
abbrev B7 (x:F0):List PV:=[(pI .i64 x.Parent),.str x.Name]
structure Sound where
 Plus:Int
 Minus:Int
 deriving Inhabited,DecidableEq
abbrev A0 (x:Sound):List PV:=[(pI .u32 x.Plus),pI .u32 x.Minus]
inductive Pat where
 |nil
 |mk (Kind:Int) (Is:Sound) (Not:Bool) (Min:Int) (Max:Int) (n:Nat) (g:Nat->Pat)
instance:Inhabited Pat:=⟨.nil⟩
def Pat.Kind:Pat->Int
 |.nil=>0
 |.mk x _ _ _ _ _ _=>x
def Pat.Is:Pat->Sound
 |.nil=>default
 |.mk _ x _ _ _ _ _=>x
def Pat.Not:Pat->Bool
 |.nil=>false
 |.mk _ _ x _ _ _ _=>x
def Pat.Min:Pat->Int
 |.nil=>0
 |.mk _ _ _ x _ _ _=>x
def Pat.Max:Pat->Int
 |.nil=>0
 |.mk _ _ _ _ x _ _=>x
def Pat.L:Pat->Sl Pat
 |.nil=>⟨0,fun _=>.nil⟩
 |.mk _ _ _ _ _ n g=>⟨n,g⟩
def BS:Pat->Nat->List PV
 |.nil=>fun _=>[]
 |.mk _ _ _ _ _ n g=>fun i=>[(pI .i64 (g i).Kind),pI .u32 (g i).Is.Plus,pI .u32 (g i).Is.Minus,.bb (g i).Not,pI .i64 (g i).Min,pI .i64 (g i).Max,.sl false 7 (g i).L.n (BS (g i))]
abbrev B4 (x:Pat):List PV:=[(pI .i64 x.Kind),pI .u32 x.Is.Plus,pI .u32 x.Is.Minus,.bb x.Not,pI .i64 x.Min,pI .i64 x.Max,.sl false 7 x.L.n (BS x)]
theorem Am (x:Pat):∀i,i<x.L.n->BS x i=B4 (x.L.g i):=by
 cases x with
 |nil=>intro i a;exact absurd (show i<0 from a) (by omega)
 |mk Kind Is Not Min Max n g=>exact fun _ _=>rfl
structure AE where
 From:Int
 Clear:Int
 Set:Sound
 Take:Int
 Of:Int
 deriving Inhabited,DecidableEq
abbrev P9 (x:AE):List PV:=[(pI .i64 x.From),pI .u32 x.Clear,pI .u32 x.Set.Plus,pI .u32 x.Set.Minus,pI .u32 x.Take,pI .i64 x.Of]
structure Law where
 Name:Str
 Left:Pat
 Right:Pat
 If:(Sl Sound)
 Out:(Sl AE)
 Mode:Int
 deriving Inhabited
abbrev A9 (x:Law):List PV:=[(.str x.Name),pI .i64 x.Left.Kind,pI .u32 x.Left.Is.Plus,pI .u32 x.Left.Is.Minus,.bb x.Left.Not,pI .i64 x.Left.Min,pI .i64 x.Left.Max,.sl false 7 x.Left.L.n (BS x.Left),pI .i64 x.Right.Kind,pI .u32 x.Right.Is.Plus,pI .u32 x.Right.Is.Minus,.bb x.Right.Not,pI .i64 x.Right.Min,pI .i64 x.Right.Max,.sl false 7 x.Right.L.n (BS x.Right),vSl 2 A0 x.If,vSl 6 P9 x.Out,pI .i64 x.Mode]
structure A6 where
 Tree:(Sl F0)
 Laws:(Sl Law)
 On:(Sl (Sl Int))
 deriving Inhabited
abbrev A3 (x:A6):List PV:=[(vSl 2 B7 x.Tree),vSl 18 A9 x.Laws,vSl 1 (cL 1 (cI .i64)) x.On]
structure Ez where
 Parents:(Sl Int)
 Laws:(Sl Law)
 On:(Sl Int)
 deriving Inhabited
abbrev W8 (x:Ez):List PV:=[(vSl 1 (cI .u8) x.Parents),vSl 18 A9 x.Laws,vSl 1 (cI .u16) x.On]
structure Q0 where
 w:(Sl Sound)
 e:Int
 deriving Inhabited
abbrev I1 (x:Q0):List PV:=[(vSl 2 A0 x.w),pI .i64 x.e]
inductive Part where
 |nil
 |sound (x:Sound) (no:Bool)
 |edge (e:Bool)
 |seq (n:Nat) (g:Nat->Part)
 |alt (n:Nat) (g:Nat->Part)
 |rep (o:Part) (mn mx:Int)
instance:Inhabited Part:=⟨.nil⟩
def Part.t:Part->Nat
 |.nil=>0
 |.sound _ _=>221
 |.edge _=>223
 |.seq _ _=>228
 |.alt _ _=>225
 |.rep _ _ _=>227
def Part.v:Part->PV
 |.nil=>.bb false
 |.sound x no=>.agg [pI .u32 x.Plus,pI .u32 x.Minus,.bb no]
 |.edge e=>.agg [.bb e]
 |.seq n g=>.agg [.sl false 1 n fun i=>[.iface (g i).t (g i).v]]
 |.alt n g=>.agg [.sl false 1 n fun i=>[.iface (g i).t (g i).v]]
 |.rep o mn mx=>.agg [.iface o.t o.v,pI .i64 mn,pI .i64 mx]
abbrev EK (x:Part):PV:=.iface x.t x.v
abbrev Dq (x:Part):List PV:=[EK x]
structure WN where
 is:Sound
 not:Bool
 deriving Inhabited,DecidableEq
abbrev TJ (x:WN):List PV:=[(pI .u32 x.is.Plus),pI .u32 x.is.Minus,.bb x.not]
structure Ak0 where
 end_:Bool
 deriving Inhabited,DecidableEq
abbrev Ak1 (x:Ak0):List PV:=[(.bb x.end_)]
structure Palt where
 l:(Sl Part)
 deriving Inhabited
abbrev Au5 (x:Palt):List PV:=[(vSl 1 Dq x.l)]
structure Au6 where
 of:Part
 min:Int
 max:Int
 deriving Inhabited
abbrev Au7 (x:Au6):List PV:=[(EK x.of),pI .i64 x.min,pI .i64 x.max]
structure Pseq where
 l:(Sl Part)
 deriving Inhabited
abbrev Au8 (x:Pseq):List PV:=[(vSl 1 Dq x.l)]
end Go.AM
namespace Go.AM
open Go.Proofs
abbrev T3:Nat:=8
abbrev Kc:Nat:=12
abbrev Kd:Nat:=13
abbrev IB:Nat:=14
abbrev EL:Nat:=16
abbrev El:Nat:=18
abbrev Kf:Nat:=20
abbrev Kg:Nat:=21
abbrev FK:Nat:=23
abbrev FL:Nat:=27
abbrev Em:Nat:=29
abbrev EM:Nat:=30
abbrev GW:Nat:=31
abbrev EN:Nat:=32
abbrev FM:Nat:=33
abbrev Kj:Nat:=34
abbrev WO:Nat:=35
abbrev WQ:Nat:=36
abbrev GX:Nat:=47
abbrev EO:Nat:=48
abbrev WR:Nat:=49
abbrev MH:Nat:=56
abbrev MI:Nat:=57
abbrev EP:Nat:=58
abbrev FN:Nat:=59
abbrev GY:Nat:=60
abbrev FO:Nat:=61
abbrev GZ:Nat:=65
abbrev G1:Nat:=66
abbrev IC:Nat:=69
abbrev ID:Nat:=70
abbrev N2:Nat:=72
abbrev En:Nat:=73
abbrev Y0:Nat:=74
abbrev Km:Nat:=75
abbrev Kn:Nat:=76
abbrev IE:Nat:=77
abbrev IF:Nat:=78
abbrev EQ:Nat:=79
abbrev Ha:Nat:=80
abbrev FP:Nat:=81
abbrev Eo:Nat:=82
abbrev S6:Nat:=83
abbrev By:Nat:=88
abbrev DM:Nat:=89
abbrev An:Nat:=90
abbrev IG:Nat:=93
abbrev K3:Nat:=94
abbrev V6:Nat:=96
abbrev O6:Nat:=97
abbrev Hb:Nat:=98
abbrev MJ:Nat:=99
abbrev Hc:Nat:=100
abbrev Hd:Nat:=101
abbrev Kr:Nat:=102
abbrev IH:Nat:=103
abbrev H4:Nat:=104
abbrev I6:Nat:=105
abbrev II:Nat:=106
abbrev ER:Nat:=107
abbrev FQ:Nat:=108
abbrev H7:Nat:=109
abbrev Q1:Nat:=110
abbrev G9:Nat:=111
abbrev Y1:Nat:=112
abbrev CN:Nat:=120
abbrev FR:Nat:=121
abbrev L0:Nat:=122
abbrev I2:Nat:=123
abbrev K4:Nat:=124
abbrev He:Nat:=125
abbrev I7:Nat:=126
abbrev Er:Nat:=127
abbrev FS:Nat:=128
abbrev IJ:Nat:=141
abbrev D8:Nat:=142
abbrev K5:Nat:=143
abbrev N9:Nat:=144
abbrev Kt:Nat:=145
abbrev Ku:Nat:=152
abbrev Kv:Nat:=160
abbrev PZ:Nat:=161
abbrev DN:Nat:=169
abbrev MK:Nat:=170
abbrev J6:Nat:=171
abbrev Qa:Nat:=172
abbrev Qb:Nat:=173
abbrev Hf:Nat:=174
abbrev Cy:Nat:=181
abbrev IK:Nat:=182
abbrev Dr:Nat:=183
abbrev G6:Nat:=184
abbrev FT:Nat:=185
abbrev IL:Nat:=186
abbrev R7:Nat:=192
abbrev Hg:Nat:=193
abbrev Kw:Nat:=194
abbrev Kx:Nat:=195
abbrev Ky:Nat:=196
abbrev Hh:Nat:=203
abbrev Hi:Nat:=204
abbrev Bs:Nat:=205
abbrev FU:Nat:=206
abbrev ET:Nat:=207
abbrev AQ:Nat:=208
abbrev R5:Nat:=209
abbrev Z3:Nat:=210
abbrev N3:Nat:=211
abbrev AZ:Nat:=227
abbrev BV:Nat:=228
abbrev CO:Nat:=229
abbrev DO:Nat:=230
abbrev Cz:Nat:=231
abbrev DP:Nat:=232
abbrev EV:Nat:=233
abbrev X2:Nat:=234
abbrev DQ:Nat:=235
abbrev D5:Nat:=3
abbrev Ac9:Nat:=4
abbrev DR:Nat:=9
abbrev B3:Nat:=27
abbrev H8:Nat:=48
abbrev B5:Nat:=51
abbrev Ds:Nat:=54
abbrev N4:Nat:=57
abbrev AR:Nat:=58
abbrev Sb:Nat:=63
abbrev F1:Nat:=96
abbrev WV:Nat:=114
abbrev Sc:Nat:=214
end Go.AM
namespace Go.AM
open IntKind (wrap)
abbrev U (x:BitVec 64):Int:=(x.toNat:Int)
theorem Hk {n:Nat}(h:n<2 ^ 64):IntKind.u64.wrap (n:Int)=n:=by have h1:((n:Int) % (2 ^ 64:Int))=n:=AH0 (by omega) (by omega);unfold wrap;simp only[IntKind.bits,IntKind.signed,h1,AG6,Ay7,if_false]
theorem Sd (x:BitVec 64):BitVec.ofInt 64 (U x)=x:=by
 apply AB8;rw[AP6]
 have:=x.isLt
 show ((x.toNat:Int) % ((2 ^ 64:Nat):Int)).toNat=x.toNat;omega
theorem and64 (x y:BitVec 64):F5 .and .u64 (U x) (U y)=U (x &&& y):=by simp only[F5,IntKind.bits,Sd];exact Hk (x &&& y).isLt
theorem Ax5 (x y:BitVec 64):F5 .or .u64 (U x) (U y)=U (x ||| y):=by simp only[F5,IntKind.bits,Sd];exact Hk (x ||| y).isLt
theorem Zp (x y:BitVec 64):F5 .andNot .u64 (U x) (U y)=U (x &&& ~~~ y):=by simp only[F5,IntKind.bits,Sd];exact Hk (x &&& ~~~ y).isLt
theorem shr64 (x:BitVec 64)(n:Nat):shI .shr .u64 (U x) n=U (x >>> n):=by
 simp only[shI,IntKind.bits,Ay0];have hx:=x.isLt;show Int.fdiv (x.toNat:Int) (2 ^ min n 64)=((x >>> n).toNat:Int);rw[AJ0,AI7];have e:((2:Int) ^ (min n 64))=((2 ^ (min n 64):Nat):Int):=by norm_cast
 rw[e,AL5 _ (AP7 _),<- Int.natCast_ediv];congr 1;by_cases h:n<=64
 ·rw[AF0 h]
 ·rw[AK4 (by omega),AF6 hx,AF6];exact AA1 hx (AG8 (by omega) (by omega))
theorem Au9:(1:Int)=U 1#64:=rfl
theorem Qf (n:Nat)(h:n<64):shI .shl .u64 1 n=U (1#64 <<< n):=by
 simp only[shI,IntKind.bits,Ay0];rw[AF0 (by omega)];show wrap .u64 (1*2 ^ n)=((1#64 <<< n).toNat:Int);rw[AN7,Nat.shiftLeft_eq];have h1:(2:Nat) ^ n<2 ^ 64:=Nat.pow_lt_pow_right (by omega) h;have e:((1:Int)*2 ^ n)=((2 ^ n:Nat):Int):=by norm_cast;omega
 rw[e,Hk h1]
 norm_cast
 rw[AG1]
 ·simp
 ·simpa using h1
theorem Se {i:Nat}:(1#64).getLsbD i=decide (i=0):=by rw[AL7];simp
theorem EW {n i:Nat}(h:n<64)(a:i<64):(1#64 <<< n).getLsbD i=decide (i=n):=by rw[AM5,Se,AA9];simp only[Ay3,AA3,decide_eq_true_eq,decide_eq_false_iff_not];omega
theorem bit64 (x:BitVec 64)(i:Nat):(F5 .and .u64 (shI .shr .u64 (U x) (i:Int)) 1==1)=x.getLsbD i:=by
 rw[shr64,Au9,and64];have h:(x >>> i &&& 1#64)=(BitVec.ofBool (x.getLsbD i)).setWidth 64:=by
  apply AD2;intro j b;simp only[Az5,AL6,AM8,AO3];by_cases a:j=0
  ·subst a;simp
  ·have:(1#64).getLsbD j=false:=by rw[Se];simp[a]
   simp[this,a]
 rw[h];cases x.getLsbD i<;>rfl
theorem Zq {x y:BitVec 64}(h:∀b,b<64->(x.getLsbD b=true↔y.getLsbD b=true)):x=y:=
 AD2 fun b hb=>AA9.2 (h b hb)
def FV (n:Nat)(R:Nat->Nat->Prop):Nat->Nat->Nat->Prop
 |0=>fun a b=>a=b
 |k+1=>fun a b=>∃c,c<=n/\FV n R k a c/\R c b
def Vd (n:Nat)(Q:Nat->Nat->Nat->Prop):Nat->Nat->Nat->Prop
 |0=>fun a b=>a=b
 |i+1=>fun a b=>∃c,c<=n/\Vd n Q i a c/\Q i c b
def Fwd (n:Nat)(R:Nat->Nat->Prop):Prop:=∀a b,a<=n->R a b->a<=b/\b<=n
theorem Hl {n:Nat}{R:Nat->Nat->Prop}(h:Fwd n R):∀k,Fwd n (FV n R k)
 |0,a,b,ha,hb=>by obtain rfl:a=b:=hb;exact⟨Ay6 _,ha⟩
 |k+1,a,b,ha,⟨c,hc,h1,h2⟩=>by have g1:=Hl h k a c ha h1;have g2:=h c b hc h2;exact⟨by omega,g2.2⟩
theorem TL {n:Nat}{Q:Nat->Nat->Nat->Prop}:∀k,(∀i,i<k->Fwd n (Q i))->Fwd n (Vd n Q k)
 |0,_,a,b,ha,hb=>by obtain rfl:a=b:=hb;exact⟨Ay6 _,ha⟩
 |k+1,h,a,b,ha,⟨c,hc,h1,h2⟩=>by have g1:=TL k (fun i d=>h i (by omega)) a c ha h1;have g2:=h k (by omega) c b hc h2;exact⟨by omega,g2.2⟩
theorem CA {n:Nat}{R:Nat->Nat->Prop}(h:Fwd n R)(j:Nat){a:Nat}(ha:a<=n):∀k b,FV n R (j+k) a b ↔ ∃c,c<=n/\FV n R j a c/\FV n R k c b
 |0,b=>⟨fun hp=>⟨b,(Hl h j a b ha hp).2,hp,rfl⟩,fun⟨c,_,hp,e⟩=>by obtain rfl:c=b:=e;exact hp⟩
 |k+1,b=>by
  constructor
  ·rintro⟨d,f,h1,g⟩;obtain⟨c,hc,g1,g2⟩:=(CA h j ha k d).1 h1;exact⟨c,hc,g1,d,f,g2,g⟩
  ·rintro⟨c,hc,g1,d,f,g2,g⟩;exact⟨d,f,(CA h j ha k d).2 ⟨c,hc,g1,g2⟩,g⟩
theorem ML {n:Nat}{R:Nat->Nat->Prop}(h:Fwd n R){a:Nat}(ha:a<=n):∀k b,FV n R (k+1) a b->FV n R k a b \/ a+(k+1)<=b
 |0,b,⟨c,hc,h1,h2⟩=>by
  obtain rfl:a=c:=h1;by_cases e:a=b
  ·exact .inl e
  ·have:=(h a b ha h2).1;exact .inr (by omega)
 |k+1,b,⟨c,hc,h1,h2⟩=>by
  by_cases e:c=b
  ·subst e;exact .inl h1
  ·have:=(h c b hc h2).1
   rcases ML h ha k c h1 with g|g
   ·exact .inl ⟨c,hc,g,h2⟩
   ·exact .inr (by omega)
theorem Qg {n:Nat}{R:Nat->Nat->Prop}(h:Fwd n R){a:Nat}(ha:a<=n){k b:Nat}(hk:n<=k)(hp:FV n R (k+1) a b):FV n R k a b:=by
 rcases ML h ha k b hp with g|g
 ·exact g
 ·have:=(Hl h (k+1) a b ha hp).2;omega
theorem Qh {n:Nat}{R:Nat->Nat->Prop}(h:Fwd n R){a:Nat}(ha:a<=n){b:Nat}:∀k,FV n R k a b->∃j,j<=n/\FV n R j a b
 |0,hp=>⟨0,AH2 _,hp⟩
 |k+1,hp=>by
  by_cases hk:n<=k
  ·exact Qh h ha k (Qg h ha hk hp)
  ·exact⟨k+1,by omega,hp⟩
theorem KC {n:Nat}{R:Nat->Nat->Prop}(h:Fwd n R){a:Nat}(ha:a<=n):∀k b,FV n (fun x y=>R x y \/ x=y) k a b ↔ ∃j,j<=k/\FV n R j a b
 |0,b=>⟨fun e=>⟨0,Ay6 _,e⟩,fun⟨j,f,hp⟩=>by
  obtain rfl:j=0:=by omega
  exact hp⟩
 |k+1,b=>by
  constructor
  ·rintro⟨c,hc,h1,d⟩;obtain⟨j,f,hp⟩:=(KC h ha k c).1 h1;rcases d with d|d
   ·exact⟨j+1,by omega,c,hc,hp,d⟩
   ·subst d;exact⟨j,by omega,hp⟩
  ·rintro⟨j,f,hp⟩;by_cases e:j<=k
   ·have hb:=(Hl h j a b ha hp).2;exact⟨b,hb,(KC h ha k b).2 ⟨j,e,hp⟩,.inr rfl⟩
   ·obtain rfl:j=k+1:=by omega
    obtain⟨c,hc,h1,d⟩:=hp;exact⟨c,hc,(KC h ha k c).2 ⟨k,Ay6 _,h1⟩,.inl d⟩
def Sf (s c:Sound):Bool:=(F5 .and .u32 s.Plus c.Plus==c.Plus)&&(F5 .and .u32 s.Minus c.Minus==c.Minus)
def PR (w:Sl Sound):Pat->Nat->Nat->Prop
 |.nil=>fun a b=>a=b
 |.mk kind is no mn mx m g=>fun a b=>
  if kind=0 then a=b
  else if kind=1 then a<w.n/\b=a+1/\(Sf (w.g a) is != no)=true
  else if kind=2 then a=0/\b=0
  else if kind=6 then a=w.n/\b=w.n
  else if kind=3 then Vd w.n (fun i=>PR w (g i)) m a b
  else if kind=4 then ∃i,i<m/\PR w (g i) a b
  else if kind=5 then ∃k:Nat,mn<=k/\(mx = -1 \/ (k:Int)<=mx)/\FV w.n (PR w (g 0)) k a b
  else False
theorem Qi (w:Sl Sound):∀p:Pat,Fwd w.n (PR w p)
 |.nil,a,b,ha,h=>by obtain rfl:a=b:=h;exact⟨Ay6 _,ha⟩
 |.mk kind is no mn mx m g,a,b,ha,h=>by
  simp only[PR]at h;split at h
  ·subst h;exact⟨Ay6 _,ha⟩
  split at h
  ·obtain⟨h1,d,_⟩:=h;omega
  split at h
  ·omega
  split at h
  ·omega
  split at h
  ·exact TL m (fun i _=>Qi w (g i)) a b ha h
  split at h
  ·obtain⟨i,_,c⟩:=h;exact Qi w (g i) a b ha c
  split at h
  ·obtain⟨k,_,_,hk⟩:=h;exact Hl (Qi w (g 0)) k a b ha hk
  ·exact h.elim
def TabR (n:Nat)(R:Nat->Nat->Prop)(f:Nat->Int):Prop:=∀a,a<=n->∃x:BitVec 64,f a=U x/\∀b,b<64->(x.getLsbD b=true↔b<=n/\R a b)
theorem TabR.congr {n:Nat}{R R' : Nat->Nat->Prop}{f:Nat->Int}(h:TabR n R f)(d:∀a b,a<=n->b<=n->(R a b↔R' a b)):TabR n R' f:=fun a ha=>by obtain⟨x,e,hx⟩:=h a ha;refine⟨x,e,fun b hb=>(hx b hb).trans ⟨fun⟨h1,c⟩=>⟨h1,(d a b ha h1).1 c⟩,fun⟨h1,c⟩=>⟨h1,(d a b ha h1).2 c⟩⟩⟩
theorem TabR.uniq {n:Nat}{R:Nat->Nat->Prop}{f g:Nat->Int}(h:TabR n R f)(h' : TabR n R g){a:Nat}(ha:a<=n):f a=g a:=by obtain⟨x,e,hx⟩:=h a ha;obtain⟨y,e',hy⟩:=h' a ha;rw[e,e',Zq fun b hb=>(hx b hb).trans (hy b hb).symm]
theorem TabR.bit {n:Nat}{R:Nat->Nat->Prop}{f:Nat->Int}(h:TabR n R f){a b:Nat}(ha:a<=n)(hb:b<64):(F5 .and .u64 (shI .shr .u64 (f a) (b:Int)) 1==1)=true↔b<=n/\R a b:=by obtain⟨x,e,hx⟩:=h a ha;rw[e,bit64];exact hx b hb
end Go.AM
namespace Go.AM
open Go.Proofs
abbrev Zr:List AV:=[.reg 0 0,.reg 1 0,.reg 2 0,.reg 3 0]
abbrev Sg (c:Int)(a:Sl Law)(b:Sl Sound)(y:PV):List Obj:=[.cells [pN c],.cells [.p (vSl 18 A9 a)],.cells [.p (vSl 2 A0 b)],.cells [.p y]]
structure LL (S:X6):Prop where
 attR:∀{a:Sl Law}{b y:Sl Sound},FunO S G9 [.p (vSl 18 A9 a),.p (vSl 2 A0 b)] [] (.p (vSl 2 A0 y)) [] []->FunO S H7 Zr (Sg 0 a b E5) (.tup []) (Sg 0 a b (vSl 2 A0 y)) [true,true,true,true]
 attP:∀{a:Sl Law}{b:Sl Sound}{c:Int},(S.F G9 [.p (vSl 18 A9 a),.p (vSl 2 A0 b)] [] fun res o k=>res=.panic (.iface 149 (pI .i64 c))/\o=[]/\k=[])->FunO S H7 Zr (Sg 0 a b E5) (.tup []) (Sg c a b E5) [true,true,true,true]
 tz:∀x:BitVec 64,Yi S N3 [.p (pI .u64 (U x))] (.p (pI .i64 (Lib.ctz 64 x.toNat:Nat)))
 trim:∀s c:Str,s.length<1000000000000->c.length<1000000->(∀b∈c,b.toNat<128)->Yi S CN [.p (.str s),.p (.str c)] (.p (.str (Lib.trimS s c)))
 growS:∀(f:Nat->List PV) (n:Nat),n*8<=140737488355328->FunO S G6 [.p E5,.p (pI .i64 (n:Int))] [] (.vec 0) [.vec B5 2 0 f false] []
def F4 (N:Nat)(x:Int):Option Int:=if 0<=x/\x<18446744073709551616 then some ((Lib.ctz 64 x.toNat:Nat):Int)else none
def CP (N:Nat)(s c:Str):Option Str:=if s.length<1000000000000/\c.length<1000000/\(c.all fun b=>decide (b.toNat<128)) then some (Lib.trimS s c)else none
def G7 (N:Nat)(n:Int):Option (Sl Sound):=if 0<=n/\n*8<=140737488355328 then some (Sl.nil:Sl Sound)else none
section
variable {S:X6}(hS:G5 S Tryz.prog) (hL:LL S)
include hS hL
theorem BW {N:Nat}{x y:Int}(h:F4 N x=some y):FunO S N3 [.p (pI .u64 x)] [] (.p (pI .i64 y)) [] []:=by
 obtain⟨⟨a,h1⟩,h⟩:=H0 h;obtain rfl:=C9 h
 have:=hL.tz (BitVec.ofNat 64 x.toNat)
 have e:(BitVec.ofNat 64 x.toNat).toNat=x.toNat:=by rw[AP9];omega
 have e2:U (BitVec.ofNat 64 x.toNat)=x:=by show ((BitVec.ofNat 64 x.toNat).toNat:Int)=x;rw[e];omega
 rw[e,e2]at this;exact this
theorem LM {N:Nat}{s c:Str}{y:Str}(h:CP N s c=some y):FunO S CN [.p (.str s),.p (.str c)] [] (.p (.str y)) [] []:=by obtain⟨⟨a,h1,d⟩,h⟩:=H0 h;obtain rfl:=C9 h;exact hL.trim s c a h1 fun b hb=>by simpa using Az6.1 d b hb
theorem Y4 {N:Nat}{n:Int}{y:Sl Sound}(h:G7 N n=some y):FunO S G6 [.p E5,.p (pI .i64 n)] [] (.vec 0) [.vec B5 2 y.n (fun i=>A0 (y.g i)) false] []:=by
 obtain⟨⟨a,h1⟩,h⟩:=H0 h;obtain rfl:=C9 h
 have:=hL.growS (fun i=>A0 default) n.toNat (by omega)
 rw[show ((n.toNat:Nat):Int)=n by omega]at this;exact this
def A4 (N:Nat)(s:Sl Sound):Option (Sl Sound):=if (0+s.n)*8<=140737488355328/\0+s.n<=140737488355328 then some s else none
theorem G2 {N:Nat}{s y:Sl Sound}(h:A4 N s=some y):FunO S G1 [.p (vSl 2 A0 s)] [] (.vec 0) [.vec B5 2 y.n (fun i=>A0 (y.g i)) true] []:=by
 unfold A4 at h;obtain⟨c1,h⟩:=H0 h;obtain rfl:=C9 h;refine A5 hS Tryz.func66 ?_;refine WH hS trivial 3 (k:=2) (n:=s.n) (f:=fun i=>A0 (s.g i)) (fun a=>?_) ?_
 ·obtain⟨n,g⟩:=s;obtain rfl:n=0:=a;exact B0 hS trivial ⟨[(2,.vec 3700)],[(3700,.vec B5 2 0 (fun i=>A0 (g i)) true)]⟩ [3700] (ids:=[]) ⟨rfl,rfl,rfl⟩
 ·exact B0 hS (And.intro (rfl:true=true) c1) ⟨[(2,.vec 8000)],[(8000,.vec B5 2 s.n (fun i=>A0 (s.g i)) true)]⟩ [8000] (ids:=[(8000,8000)]) ⟨rfl,rfl,rfl⟩
   (hle:=klR [(0,.fn (0+s.n) s.n (Ab 0 (E6 [pI .u32 0,pI .u32 0] []) (fun i=>A0 (s.g i))) (fun i=>A0 (s.g i)))] (al1 ⟨AB0 _,fun i _=>by simp[Ab]⟩ al0))
def F2 (N:Nat)(s:Sl AE):Option (Sl AE):=if (0+s.n)*32<=140737488355328/\0+s.n<=140737488355328 then some s else none
theorem V9 {N:Nat}{s y:Sl Sound}(h:A4 N s=some y):FunO S G1 [.p (vSl 2 A0 s)] [] (.p (vSl 2 A0 y)) [] []:=by
 unfold A4 at h;obtain⟨c1,h⟩:=H0 h;obtain rfl:=C9 h;refine A5 hS Tryz.func66 ?_;refine WH hS trivial 3 (k:=2) (n:=s.n) (f:=fun i=>A0 (s.g i)) (fun a=>?_) ?_
 ·obtain⟨n,g⟩:=s;obtain rfl:n=0:=a;exact B0 hS trivial ⟨[(2,.p (vSl 2 A0 ⟨0,g⟩))],[]⟩ [] (ids:=[]) ⟨rfl,rfl,rfl⟩
 ·exact B0 hS (And.intro (rfl:true=true) c1) ⟨[(2,.p (vSl 2 A0 s))],[]⟩ [] (ids:=[]) ⟨rfl,rfl,rfl⟩
   (hle:=klR [(0,.fn (0+s.n) s.n (Ab 0 (E6 [pI .u32 0,pI .u32 0] []) (fun i=>A0 (s.g i))) (fun i=>A0 (s.g i)))] (al1 ⟨AB0 _,fun i _=>by simp[Ab]⟩ al0))
theorem Af {N:Nat}{s y:Sl AE}(h:F2 N s=some y):FunO S O6 [.p (vSl 6 P9 s)] [] (.p (vSl 6 P9 y)) [] []:=by
 unfold F2 at h;obtain⟨c1,h⟩:=H0 h;obtain rfl:=C9 h;refine A5 hS Tryz.func97 ?_;refine WH hS trivial 3 (k:=6) (n:=s.n) (f:=fun i=>P9 (s.g i)) (fun a=>?_) ?_
 ·obtain⟨n,g⟩:=s;obtain rfl:n=0:=a;exact B0 hS trivial ⟨[(2,.p (vSl 6 P9 ⟨0,g⟩))],[]⟩ [] (ids:=[]) ⟨rfl,rfl,rfl⟩
 ·exact B0 hS (And.intro (rfl:true=true) c1) ⟨[(2,.p (vSl 6 P9 s))],[]⟩ [] (ids:=[]) ⟨rfl,rfl,rfl⟩
   (hle:=klR [(0,.fn (0+s.n) s.n (Ab 0 (E6 [pI .i64 0,pI .u32 0,pI .u32 0,pI .u32 0,pI .u32 0,pI .i64 0] []) (fun i=>P9 (s.g i))) (fun i=>P9 (s.g i)))] (al1 ⟨AB0 _,fun i _=>by simp[Ab]⟩ al0))
end
end Go.AM
set_option maxRecDepth 100000
namespace Go.AM
open Go.Proofs
theorem Ve (v:Value)(w:World):(Instr.typeAssert (.iface 149 v) 20 149 true).run Tryz.prog w=.ok (.tuple #[v,.bool true]) w:=by kernel_rfl
theorem Sh (p:Value)(w:World):CallsDIn Fence.wide 0 Tryz.prog Q1 #[p] .returning w fun e u' w'=>e=.returned (.tuple #[])/\u' = .returning/\w' = w:=by
 refine callsDIn_of_wpSIn Tryz.func110 rfl (by simp[Fence.wide]) fun c₀ cs a=>?_;apply wpSIn_seq;apply wpSIn_region;simp[wpOpsSIn,go_sem,recoverD,a,Tryz.f110,Exit.thenS];refine wpSIn_of_wpIn rfl (wpIn_block (wpIn_seq (wpIn_region ?_)));simp[wpOpsIn,Oper.wpIn,Oper.semAt,Oper.uponIn,go_sem,Exit.then];refine wpIn_cond (t:=true) (by simp[Act.eval]) ?_;simp only[if_true];refine wpIn_region ?_;simp[wpOpsIn,Oper.wpIn,Oper.semAt,Oper.uponIn,go_sem,Exit.inBlock,bodyPostS,results];cases c₀
 simp_all
theorem Jb (p:Value)(c:Int)(older:List PanicEntry)(w w1:World)(a:(Instr.storeAt 30 p (.int .i64 c)).run Tryz.prog w=.ok () w1)(hn:∃b,p=.pointer (some b)) :CallsDIn Fence.wide 0 Tryz.prog Q1 #[p] (.panicking ({ v:=.iface 149 (.int .i64 c),recovered:=false }::older)) w fun e u' w'=>
  e=.returned (.tuple #[])/\u' = .panicking ({ v:=.iface 149 (.int .i64 c),recovered:=true }::older)/\w' = w1:=by
 obtain⟨b,rfl⟩:=hn;refine callsDIn_of_wpSIn Tryz.func110 rfl (by simp[Fence.wide]) fun c₀ cs d=>?_;apply wpSIn_seq;apply wpSIn_region;simp[wpOpsSIn,go_sem,recoverD,d,Tryz.f110,Exit.thenS];refine wpSIn_of_wpIn rfl (wpIn_block (wpIn_seq (wpIn_region ?_)));simp[wpOpsIn,Oper.wpIn,Oper.semAt,Oper.uponIn,go_sem,Exit.then];refine wpIn_cond (t:=false) (by simp[Act.eval]) ?_;simp only[Ay7,if_false];refine wpIn_seq (wpIn_region ?_);simp[wpOpsIn,Oper.wpIn,Oper.semAt,Oper.uponIn,go_sem,Exit.then,Ve];refine wpIn_cond (t:=true) (by simp[Act.eval]) ?_;simp only[if_true];refine wpIn_seq (wpIn_region ?_);simp[wpOpsIn,Oper.wpIn,Oper.semAt,Oper.uponIn,go_sem,Exit.then];refine wpIn_region ?_;simp[wpOpsIn,Oper.wpIn,Oper.semAt,Oper.uponIn,go_sem,a,Exit.inBlock,bodyPostS,results];simp[go_sem]at a;rw[a];simp[Result.andThen]
noncomputable def Ao8:Code:=match Tryz.f109.body with
 |some (.seq _ c)=>c
 |_=>.skip
theorem Ak5 {S:X6}(hS:G5 S Tryz.prog){a:Sl Law}{b y:Sl Sound}(c:FunO S G9 [.p (vSl 18 A9 a),.p (vSl 2 A0 b)] [] (.p (vSl 2 A0 y)) [] []) :KG S Tryz.prog (MF S (fun st=>I8 [0,1,2,3] st.regs [0,1,2,3]=some (Sg 0 a b (vSl 2 A0 y))) fun _ _=>False) (.code Ao8 [] ⟨argEnv Zr,objRegs (Sg 0 a b E5)⟩):=by refine C7 hS [] trivial c ?_;exact K_upN hS trivial ⟨[],[(3,.cells [.p (vSl 2 A0 y)]),(2,.cells [.p (vSl 2 A0 b)]),(1,.cells [.p (vSl 18 A9 a)]),(0,.cells [pN 0])]⟩ (ids:=[(0,0),(1,1),(2,2),(3,3)]) rfl
theorem WW {S:X6}(hS:G5 S Tryz.prog){a:Sl Law}{b:Sl Sound}{c:Int}(d:S.F G9 [.p (vSl 18 A9 a),.p (vSl 2 A0 b)] [] fun res o k=>res=.panic (.iface 149 (pI .i64 c))/\o=[]/\k=[]) :KG S Tryz.prog (MF S (fun _=>False) fun x st=>x=.iface 149 (pI .i64 c)/\store Tryz.prog st.regs 30 (.reg 0 0) (.p (pI .i64 c))=some ([],ins 0 (.cells [pN c]) st.regs)/\I8 [0,1,2,3] (ins 0 (.cells [pN c]) st.regs) [0,1,2,3]=some (Sg c a b E5)) (.code Ao8 [] ⟨argEnv Zr,objRegs (Sg 0 a b E5)⟩):=by refine Aj8 hS [] trivial d ?_;exact K_upP hS trivial ⟨rfl,by kernel_rfl,by kernel_rfl⟩
noncomputable def att1:Code:=match Tryz.f109.body with
 |some (.seq c _)=>c
 |_=>.skip
noncomputable def attOps:Array Oper:=match Ao8 with
 |.region _ ops _=>ops
 |_=>#[]
theorem TM:Ao8=.region 1 attOps false:=by kernel_rfl
theorem Av0:attOps.toList.all (FF 7 attOps.toList)=true:=by kernel_rfl
theorem Zs:¬Tryz.f109.name = "runtime.NumGoroutine" := by decide +kernel
theorem TN:Tryz.f109.body=some (.seq att1 Ao8):=by kernel_rfl
theorem Ak6 {C:Ctx}{vs:Array Value}{w:World}{rho:Nat->Value}{args:List AV}{objs:List Obj}{n:Nat}(hS:Sat C ⟨argEnv args,objRegs objs⟩ ⟨vs,[]⟩ w rho)(a:vs.size=args.length) :Sat C ⟨argEnv args,objRegs objs⟩ { tmps:=vs++Array.replicate n undef,defers:=[] } w rho:=by
 refine⟨hS.toSatE,fun t=>?_,hS.pin,hS.marks⟩
 have:=hS.env t
 by_cases ht:t<vs.size
 ·simpa[Ax9,AF2,ht]using this
 ·show RepA w _ _ _ _ (get (argEnv args) t);rw[Ad,Ax7,AC6 (by omega)];exact .top _
theorem KD {R:St->Prop}{X:PV->St->Prop}{a:Sl Law}{b:Sl Sound}{objs' : List Obj}
 (a1:KG (FE Tryz.prog) Tryz.prog (MF (FE Tryz.prog) R X) (.code Ao8 [] ⟨argEnv Zr,objRegs (Sg 0 a b E5)⟩))
 (hR:∀st,R st->I8 [0,1,2,3] st.regs [0,1,2,3]=some objs')
 (hX:∀x st,X x st->∃c regs',x=.iface 149 (pI .i64 c)/\store Tryz.prog st.regs 30 (.reg 0 0) (.p (pI .i64 c))=some ([],regs')/\I8 [0,1,2,3] regs' [0,1,2,3]=some objs') :
 FunO (FE Tryz.prog) H7 Zr (Sg 0 a b E5) (.tup []) objs' [true,true,true,true]:=by
 intro 𝒢 C w vs rho hG hS t;obtain⟨l⟩:=vs
 match l,t with
 |[v0,v1,v2,v3],t=>?_
 refine⟨.enter H7 #[v0,v1,v2,v3],w,by simp[callFunc,Tryz.func109,TN,Zs],?_⟩;refine callsIn_of_wp_marks Tryz.func109 TN trivial ?_;have a2:=Ak6 (n:=Tryz.f109.ntmps-4) hS t;have a9:Tryz.f109.ntmps-4=3:=rfl;rw[a9]at a2;have b1:((#[v0,v1,v2,v3]:Array Value)++Array.replicate 3 undef).size=7:=rfl;have hw:HD (FE Tryz.prog) Tryz.prog attOps.toList attOps.toList (MF (FE Tryz.prog) R X) ⟨argEnv Zr,objRegs (Sg 0 a b E5)⟩:=by
  have:=a1.out
  rw[TM]at this;simpa only[G,awp,kp,Ay7,if_false]using this
 have a4:=JO (𝒢:=𝒢.fix C.rho0) (n:=7) (ro:=none) (ops:=attOps) Av0 attOps.toList 0 rfl (by simp) ⟨hG,rfl⟩ a2 b1 hw;have a5:=GV [{ target:=.fn (.func Q1) #[],args:=#[v0] }] _ _ _ a4;rw[AL9]at a5;obtain⟨b0,a6,u⟩:∃b0,v0=.pointer (some ⟨b0,0,none⟩)/\rho 0=.pointer (some ⟨b0,0,none⟩):=by
  have h0:RepA w _ _ rho v0 (.reg 0 0):=hS.env 0;cases h0 with
  |reg _ _ b0 _ h=>exact⟨b0,rfl,h⟩
 have s:∀{C' : Ctx}{st' : St}{a' : Act}{w' : World}{rho' : Nat->Value},(𝒢.fix C.rho0).G C' -> Sat C' st' a' w' rho' -> I8 [0,1,2,3] st'.regs [0,1,2,3]=some objs' ->
  LeavesInM Fence.wide 0 Tryz.prog Tryz.f109 a'.tmps (fun e w'=>∃C' r objs0 ks rho', 𝒢.G C' /\ (r=.ret (.tup [])/\objs0=objs' /\ ks=[true,true,true,true])/\SatE C' (objRegs objs0) w' rho' /\
   Ag7 w' (Prv C'.X (A1 (objRegs objs0)) rho') (Lv (A1 (objRegs objs0))) rho' e r/\∀i:Nat,ks[i]? = some true->i<objs0.length/\rho' i=rho i) [] .returning w':=by
  intro C' st' a' w' rho' d f m;obtain⟨g1,g2,g3⟩:=JP f (by decide) m;obtain⟨hl,hg⟩:=V5 m;refine⟨.tuple #[],by simp[results,Tryz.f109],C', .ret (.tup []),objs',_,_,d.1,⟨rfl,rfl,rfl⟩,g1,⟨_,rfl,.tup _ _ rfl fun i hi=>absurd hi (by simp)⟩,?_⟩;intro i hi;have y:i<4:=by
   have:=(Az1.1 hi).1
   simpa using this
  refine⟨by rw[hl];exact y,?_⟩;have e1:[0,1,2,3][i]? = some i:=by
   match i,y with
   |0,_=>rfl
   |1,_=>rfl
   |2,_=>rfl
   |3,_=>rfl
  obtain⟨o,_,ho,_⟩:=hg i i e1;show rho' ([0,1,2,3].getD i 0)=rho i;rw[Bl e1,f.pin i (by omega) (by simp[Lv,ho]),d.2];refine (hS.pin i (by omega) ?_).symm;rw[Lv,C8]
  match i,y with
  |0,_=>rfl
  |1,_=>rfl
  |2,_=>rfl
  |3,_=>rfl
 generalize hQ:bodyPostM _ _ _ _ _=QQ;refine wpIn_seq ?_;simp only[att1,Tryz.f109];refine wpIn_region ?_;simp[wpOpsIn,Oper.wpIn,Oper.semAt,Oper.uponIn,go_sem,Exit.then];subst hQ;rw[TM];refine wpIn_mono (wpIn_region (F:=FW none) a5) ?_;rintro e a' w' ⟨a0,rfl,z⟩;cases e with
 |exit id=>obtain⟨_,_,_,_,_,_,h⟩:=z;exact h.elim
 |goto l=>obtain⟨_,_,_,_,_,_,h⟩:=z;exact h.elim
 |ret=>obtain⟨_,_,_,_,_,_,h⟩:=z;exact h.elim
 |outgrown=>exact z.elim
 |normal=>
  obtain⟨C',st',rho',d,f,a7,hu⟩:=z;obtain⟨st2,rho2,hR2,_,hs2⟩:=hu C' a0 w' rho' f;refine DL (C:=C') (st:=st2) (rho:=rho2) (by simp) ?_ a0.defers a0 w' rfl rfl hs2;intro a3 w3 q ht;refine⟨by simp,.inr ⟨by simp[Fence.wide],_,_,Q1,#[v0],rfl,by simp[go_sem],fun _ _=>trivial,?_⟩⟩;refine (Sh v0 w3).mono ?_;rintro e u' w4 ⟨rfl,rfl,rfl⟩
  have:=s d q (hR st2 hR2)
  rw[ht]at this;exact this
 |panic chain=>
  obtain⟨C',st',rho',v,x,rfl,d,f,a7,hv,hXx⟩:=z;obtain⟨c,regs',rfl,g,m⟩:=hX x st' hXx;obtain rfl:v=.iface 149 (.int .i64 c):=by
   cases hv with
   |iface _ _ _ h=>cases h;rfl
  refine DL (C:=C') (st:=st') (rho:=rho') (by simp) ?_ a0.defers a0 w' rfl rfl f;intro a3 w3 q ht;have j:Lv (A1 st'.regs) 0:=by
   cases hj:A1 st'.regs 0 with
   |some o=>simp[Lv,hj]
   |none=>
    unfold store at g;split at g
    ·simp[hj]at g
    ·cases g
  have hr0:rho' 0=.pointer (some ⟨b0,0,none⟩):=by rw[q.pin 0 (by omega) j,d.2,<- u];exact (hS.pin 0 (by omega) rfl).symm
  have hva:RS C' st' w3 rho' v0 (.reg 0 0):=by rw[a6];exact .reg 0 0 b0 j hr0
  obtain⟨w4,a8,hs4,_⟩:=JD q (vx:=.int .i64 c) hva (.p _ _ (.v _)) g trivial;refine⟨by simp,.inr ⟨by simp[Fence.wide],_,_,Q1,#[v0],rfl,by simp[go_sem],fun _ _=>trivial,?_⟩⟩;refine (Jb v0 c [] w3 w4 a8 ⟨_,a6⟩).mono ?_;rintro e u' w5 ⟨rfl,rfl,rfl⟩
  have:=s d hs4 m
  rw[ht]at this;exact this
theorem Si {a:Sl Law}{b y:Sl Sound}(c:FunO (FE Tryz.prog) G9 [.p (vSl 18 A9 a),.p (vSl 2 A0 b)] [] (.p (vSl 2 A0 y)) [] []) :FunO (FE Tryz.prog) H7 Zr (Sg 0 a b E5) (.tup []) (Sg 0 a b (vSl 2 A0 y)) [true,true,true,true]:=
 KD (Ak5 (good Tryz.prog) c) (fun st h=>h) (fun x st h=>h.elim)
theorem Oh {a:Sl Law}{b:Sl Sound}{c:Int}(d:(FE Tryz.prog).F G9 [.p (vSl 18 A9 a),.p (vSl 2 A0 b)] [] fun res o k=>res=.panic (.iface 149 (pI .i64 c))/\o=[]/\k=[]) :FunO (FE Tryz.prog) H7 Zr (Sg 0 a b E5) (.tup []) (Sg c a b E5) [true,true,true,true]:=
 KD (WW (good Tryz.prog) d) (fun st h=>h.elim) (fun x st h=>⟨c,_,h.1,h.2.1,h.2.2⟩)
end Go.AM
namespace Go.AM
open IntKind (wrap)
open Go.Proofs
set_option maxRecDepth 10000
set_option maxHeartbeats 2000000
variable {S:X6}(hS:G5 S Tryz.prog) (hL:LL S)
include hS hL
def F7 (N:Nat)(a:Sound):Option Bool:=
 some (((F5 .and .u32 a.Plus a.Minus)==0)&&(decide ((F5 .or .u32 a.Plus a.Minus)<=16777215)))
theorem O7 {N:Nat}{b:Sound}{y:Bool}(h:F7 N b=some y) :FunO S Hd [.p (.agg (A0 b))] [] (pB y) ([]) []:=by unfold F7 at h;refine A5 hS Tryz.func101 ?_;refine kB hS (A8 hS) trivial trivial 7 (.n (.a ((F5 .and .u32 b.Plus b.Minus)==0)) (.a (decide ((F5 .or .u32 b.Plus b.Minus)<=16777215)))) ?_;cases h;exact kR hS
def I4 (N:Nat)(b:Sound)(a:Sound):Option Bool:=
 (F7 N b).bind fun y1=>
 lt (fun (z1:Bool)=>
  some z1
  ) fun k1=>
  if y1 then
   (F7 N a).bind fun y3=>
   if y3 then
    if ((F5 .andNot .u32 a.Plus b.Plus)==0) then
     k1 ((F5 .andNot .u32 a.Minus b.Minus)==0)
    else
     k1 false
   else
    k1 false
  else
   k1 false
theorem HV {N:Nat}{c:Sound}{a:Sound}{y:Bool}(h:I4 N c a=some y) :FunO S Dr [.p (.agg (A0 c)),.p (.agg (A0 a))] [] (pB y) ([]) []:=by
 unfold I4 at h;refine A5 hS Tryz.func183 ?_;refine kC hS h (O7 hS hL) (fun y1 h=>?_);refine Ls hS trivial (A8 hS) h 0 (fun z1=>⟨[(4,pB z1)],[]⟩) (fun M1 k1 b h=>?_) (fun z1 h=>?_)
 ·refine kG hS h (fun h=>?_) (fun h=>?_)
  ·refine kC hS h (O7 hS hL) (fun y3 h=>?_);refine kG hS h (fun h=>?_) (fun h=>?_)
   ·refine kG hS h (fun h=>?_) (fun h=>?_)
    ·exact b _ [] _ ((F5 .andNot .u32 a.Minus c.Minus)==0) trivial h
    ·exact b _ [] _ false trivial h
   ·exact b _ [] _ false trivial h
  ·exact b _ [] _ false trivial h
 ·cases h;exact kR hS
def BX (N:Nat)(a:Sound):Option Int:=
 some (F5 .or .u32 a.Plus a.Minus)
theorem KE {N:Nat}{a:Sound}{y:Int}(h:BX N a=some y) :FunO S Kx [.p (.agg (A0 a))] [] (pU y) ([]) []:=by unfold BX at h;refine A5 hS Tryz.func195 ?_;cases h;exact kR hS
def AF (N:Nat)(c:Sound)(b:Sound)(a:Int):Option Sound:=
 some (⟨F5 .or .u32 (F5 .andNot .u32 c.Plus a) (F5 .and .u32 b.Plus a),F5 .or .u32 (F5 .andNot .u32 c.Minus a) (F5 .and .u32 b.Minus a)⟩:Sound)
theorem KF {N:Nat}{c:Sound}{a:Sound}{b:Int}{y:Sound}(h:AF N c a b=some y) :FunO S Ky [.p (.agg (A0 c)),.p (.agg (A0 a)),pU b] [] (.p (.agg (A0 y))) ([]) []:=by unfold AF at h;refine A5 hS Tryz.func196 ?_;cases h;exact kR hS
def L7 (N:Nat)(c:Sound)(a:Int)(b:Sound):Option (Sound×Int):=
 (F7 N c).bind fun y1=>
 lt (fun (z1:Bool)=>
  if z1 then
   some ((⟨0,0⟩:Sound),14)
  else
   lt (fun (z2:Bool)=>
    if z2 then
     some ((⟨0,0⟩:Sound),2)
    else
     (BX N b).bind fun y6=>
     (AF N c b (F5 .or .u32 a y6)).bind fun y7=>
     some (y7,0)
    ) fun k2=>
    if (decide (16777215<a)) then
     k2 true
    else
     (BX N b).bind fun y5=>
     k2 ((F5 .and .u32 a y5) != 0)
  ) fun k1=>
  if (!y1) then
   k1 true
  else
   (F7 N b).bind fun y3=>
   k1 (!y3)
theorem LN {N:Nat}{c:Sound}{a:Int}{b:Sound}{y:Sound×Int}(h:L7 N c a b=some y) :FunO S FT [.p (.agg (A0 c)),pU a,.p (.agg (A0 b))] [] (.tup [.p (.agg (A0 y.1)),pN y.2]) ([]) []:=by
 unfold L7 at h;refine A5 hS Tryz.func185 ?_;refine K9 hS trivial 5 4000 [pI .u32 c.Plus,pI .u32 c.Minus] ?_;refine K9 hS trivial 6 6000 [pI .u32 b.Plus,pI .u32 b.Minus] ?_;obtain⟨y1,e1,h⟩:=C6 h;refine C7 hS [] (by decide:(2:Nat)<=2) (O7 hS hL e1) ?_;refine Ls hS trivial (A8 hS) h 0 (fun z1=>⟨[(15,pB z1),(6,.reg 7000 0),(5,.p (.ptr [pI .u32 b.Plus,pI .u32 b.Minus])),(3,.p (.ptr [pI .u32 c.Plus,pI .u32 c.Minus])),(1,pU a)],[(7000,.cells [pU 0,pU 0])]⟩) (fun M1 k1 d h=>?_) (fun z1 h=>?_)
 ·refine kG hS h (fun h=>?_) (fun h=>?_)
  ·exact d _ [(7000,7000)] _ true trivial h
  ·obtain⟨y3,e3,h⟩:=C6 h;refine C7 hS [] (by decide:(2:Nat)<=2) (O7 hS hL e3) ?_;exact d _ [(7000,7000)] _ (!y3) trivial h
 ·refine kI hS h ?_ ?_<;>intro h
  ·cases h;exact kR hS
  ·refine Ls hS trivial (A8 hS) h 0 (fun z2=>⟨[(25,pB z2),(6,.reg 7000 0),(5,.p (.ptr [pI .u32 b.Plus,pI .u32 b.Minus])),(3,.p (.ptr [pI .u32 c.Plus,pI .u32 c.Minus])),(1,pU a)],[(7000,.cells [pU 0,pU 0])]⟩) (fun M2 k2 f h=>?_) (fun z2 h=>?_)
   ·refine kG hS h (fun h=>?_) (fun h=>?_)
    ·exact f _ [(7000,7000)] _ true trivial h
    ·obtain⟨y5,e5,h⟩:=C6 h;refine C7 hS [] (by decide:(2:Nat)<=2) (KE hS hL e5) ?_;exact f _ [(7000,7000)] _ ((F5 .and .u32 a y5) != 0) trivial h
   ·refine kI hS h ?_ ?_<;>intro h
    ·cases h;exact kR hS
    ·refine J5 hS trivial [0,1,3,4,6] ?_;obtain⟨y6,e6,h⟩:=C6 h;refine AX (And.intro (And.intro (by decide:(2:Nat)<=2) (by decide:(2:Nat)<=2)) (by decide:(2:Nat)<=2)) (KE hS hL e6) ?_;obtain⟨y7,e7,h⟩:=C6 h;refine AX trivial (KF hS hL e7) ?_;refine P8 trivial ?_;cases h;exact kR hS
def Q6 (N:Nat)(c:Sound)(a:Sound)(b:Int):Option (Sound×Int):=
 (F7 N c).bind fun y1=>
 lt (fun (z1:Bool)=>
  if z1 then
   some ((⟨0,0⟩:Sound),14)
  else
   if (decide (16777215<b)) then
    some ((⟨0,0⟩:Sound),2)
   else
    (AF N c a b).bind fun y4=>
    some (y4,0)
  ) fun k1=>
  if (!y1) then
   k1 true
  else
   (F7 N a).bind fun y3=>
   k1 (!y3)
theorem Qj {N:Nat}{c:Sound}{a:Sound}{b:Int}{y:Sound×Int}(h:Q6 N c a b=some y) :FunO S IL [.p (.agg (A0 c)),.p (.agg (A0 a)),pU b] [] (.tup [.p (.agg (A0 y.1)),pN y.2]) ([]) []:=by
 unfold Q6 at h;refine A5 hS Tryz.func186 ?_;refine kC hS h (O7 hS hL) (fun y1 h=>?_);refine Ls hS trivial (A8 hS) h 0 (fun z1=>⟨[(15,pB z1),(6,.reg 7000 0),(4,.reg 5000 0),(3,.reg 4000 0),(2,pU b)],[(7000,.cells [pU 0,pU 0]),(5000,.cells [pU a.Plus,pU a.Minus]),(4000,.cells [pU c.Plus,pU c.Minus])]⟩) (fun M1 k1 d h=>?_) (fun z1 h=>?_)
 ·refine kG hS h (fun h=>?_) (fun h=>?_)
  ·exact d _ [(4000,4000),(5000,5000),(7000,7000)] _ true trivial h
  ·refine kC hS h (O7 hS hL) (fun y3 h=>?_);exact d _ [(4000,4000),(5000,5000),(7000,7000)] _ (!y3) trivial h
 ·refine kI hS h ?_ ?_<;>intro h
  ·cases h;exact kR hS
  ·refine kI hS h ?_ ?_<;>intro h
   ·cases h;exact kR hS
   ·refine kC hS h (KF hS hL) (fun y4 h=>?_);cases h;exact kR hS
def I5 (N:Nat)(a:Sound):Option Bool:=
 S8 N (fun b (x1:Int)=>
  if (decide (x1<32)) then
   if ((0:Int)<=x1/\(0:Int)<=x1)then
    if ((((F5 .and .u32 (shI .shr .u32 a.Plus x1) 1)==1)&&((F5 .and .u32 (shI .shr .u32 a.Minus x1) 1)==1))||((((F5 .and .u32 (shI .shr .u32 a.Plus x1) 1)==1)||((F5 .and .u32 (shI .shr .u32 a.Minus x1) 1)==1))&&(decide (24<=x1)))) then
     some false
    else
     b (wrap .i64 (x1+1))
   else none
  else
   some true
  ) 0
def Hm (N:Nat)(a:Int):Option Bool:=
 some ((decide (0<=a))&&(decide (a<24)))
def Ap (N:Nat)(b:Sound)(a:Int):Option Int:=
 (I5 N b).bind fun y1=>
 lt (fun (z1:Bool)=>
  if z1 then
   some 0
  else
   if (0:Int)<=a then
    if ((F5 .and .u32 (shI .shr .u32 b.Plus a) 1)==1) then
     some 1
    else
     if (0:Int)<=a then
      if ((F5 .and .u32 (shI .shr .u32 b.Minus a) 1)==1) then
       some (-1)
      else
       some 0
     else none
   else none
  ) fun k1=>
  if (!y1) then
   k1 true
  else
   (Hm N a).bind fun y3=>
   k1 (!y3)
def Dt (N:Nat)(b:Sound)(a:Int)(c:Int):Option Sound:=
 if (0:Int)<=a then
  if (c==1) then
   if (c==(-1)) then
    some (⟨F5 .or .u32 (F5 .andNot .u32 b.Plus (shI .shl .u32 1 a)) (shI .shl .u32 1 a),F5 .or .u32 (F5 .andNot .u32 b.Minus (shI .shl .u32 1 a)) (shI .shl .u32 1 a)⟩:Sound)
   else
    some (⟨F5 .or .u32 (F5 .andNot .u32 b.Plus (shI .shl .u32 1 a)) (shI .shl .u32 1 a),F5 .andNot .u32 b.Minus (shI .shl .u32 1 a)⟩:Sound)
  else
   if (c==(-1)) then
    some (⟨F5 .andNot .u32 b.Plus (shI .shl .u32 1 a),F5 .or .u32 (F5 .andNot .u32 b.Minus (shI .shl .u32 1 a)) (shI .shl .u32 1 a)⟩:Sound)
   else
    some (⟨F5 .andNot .u32 b.Plus (shI .shl .u32 1 a),F5 .andNot .u32 b.Minus (shI .shl .u32 1 a)⟩:Sound)
 else none
def T7 (N:Nat)(c:Sound)(a:Sound):Option Bool:=
 (I5 N c).bind fun y1=>
 lt (fun (z1:Bool)=>
  if z1 then
   some false
  else
   S8 N (fun b (x3:Int)=>
    if (decide (x3<24)) then
     (Ap N a x3).bind fun d=>
     lt (fun (z4:Bool)=>
      if z4 then
       some false
      else
       b (wrap .i64 (x3+1))
      ) fun k4=>
      if (d != 0) then
       (Ap N c x3).bind fun f=>
       k4 (f != d)
      else
       k4 false
    else
     some true
    ) 0
  ) fun k1=>
  if (!y1) then
   k1 true
  else
   (I5 N a).bind fun y3=>
   k1 (!y3)
def T8 (N:Nat)(d:Sound)(b:Int)(a:Sound):Option (Sound×Int):=
 (I5 N d).bind fun y1=>
 lt (fun (z1:Bool)=>
  if z1 then
   some ((⟨0,0⟩:Sound),14)
  else
   if ((decide (16777215<b))||((F5 .and .u32 b (F5 .or .u32 a.Plus a.Minus)) != 0)) then
    some ((⟨0,0⟩:Sound),2)
   else
    Ah8 N (fun c (x2:Int) (x3:Int) (x4:Int)=>
     if (decide (x4<24)) then
      if (0:Int)<=x4 then
       if ((F5 .and .u32 (shI .shr .u32 b x4) 1)==1) then
        (Dt N (⟨x2,x3⟩:Sound) x4 0).bind fun f=>
        (Ap N a x4).bind fun j=>
        if (j != 0) then
         (Ap N a x4).bind fun l=>
         (Dt N f x4 l).bind fun g=>
         c g.Plus g.Minus (wrap .i64 (x4+1))
        else
         c f.Plus f.Minus (wrap .i64 (x4+1))
       else
        (Ap N a x4).bind fun m=>
        if (m != 0) then
         (Ap N a x4).bind fun n=>
         (Dt N (⟨x2,x3⟩:Sound) x4 n).bind fun i=>
         c i.Plus i.Minus (wrap .i64 (x4+1))
        else
         c x2 x3 (wrap .i64 (x4+1))
      else none
     else
      some ((⟨x2,x3⟩:Sound),0)
     ) d.Plus d.Minus 0
  ) fun k1=>
  if (!y1) then
   k1 true
  else
   (I5 N a).bind fun y3=>
   k1 (!y3)
def AG (N:Nat)(d:Sound)(a:Sound)(b:Int):Option (Sound×Int):=
 (I5 N d).bind fun y1=>
 lt (fun (z1:Bool)=>
  if z1 then
   some ((⟨0,0⟩:Sound),14)
  else
   if (decide (16777215<b)) then
    some ((⟨0,0⟩:Sound),2)
   else
    Ah8 N (fun c (x2:Int) (x3:Int) (x4:Int)=>
     if (decide (x4<24)) then
      if (0:Int)<=x4 then
       if ((F5 .and .u32 (shI .shr .u32 b x4) 1)==1) then
        (Ap N a x4).bind fun y8=>
        (Dt N (⟨x2,x3⟩:Sound) x4 y8).bind fun y9=>
        c y9.Plus y9.Minus (wrap .i64 (x4+1))
       else
        c x2 x3 (wrap .i64 (x4+1))
      else none
     else
      some ((⟨x2,x3⟩:Sound),0)
     ) d.Plus d.Minus 0
  ) fun k1=>
  if (!y1) then
   k1 true
  else
   (I5 N a).bind fun y3=>
   k1 (!y3)
def T9 (N:Nat)(a:Sound):Option Bool:=
 some ((((F5 .and .u32 a.Plus a.Minus)==0)&&(decide (a.Plus<16777216)))&&(decide (a.Minus<16777216)))
def Gn (N:Nat)(a:Sl Sound):Option Int:=
 if (decide (32<(a.n:Int))) then
  some 11
 else
  S8 N (fun b (x1:Int)=>
   if (decide (x1<(a.n:Int))) then
    if ((0:Int)<=x1/\x1<(a.n:Int))then
     (T9 N (a.g x1.toNat)).bind fun y3=>
     if (!y3) then
      some 14
     else
      b (wrap .i64 (x1+1))
    else none
   else
    some 0
   ) 0
def BY (N:Nat)(a:Sl Sound)(b:Sl Sound):Option Bool:=
 if ((a.n:Int) != (b.n:Int)) then
  some false
 else
  S8 N (fun c (x1:Int)=>
   if (decide (x1<(a.n:Int))) then
    if (((0:Int)<=x1/\x1<(a.n:Int))/\((0:Int)<=x1/\x1<(b.n:Int)))then
     if ((((a.g x1.toNat).Plus==(b.g x1.toNat).Plus)&&((a.g x1.toNat).Minus==(b.g x1.toNat).Minus)) != true) then
      some false
     else
      c (wrap .i64 (x1+1))
    else none
   else
    some true
   ) 0
theorem Gp {N:Nat}{a:Sl Sound}{b:Sl Sound}{y:Bool}(h:BY N a b=some y) :FunO S Kf [.p (vSl 2 A0 a),.p (vSl 2 A0 b)] [] (pB y) ([]) []:=by
 unfold BY at h;refine A5 hS Tryz.func20 ?_;refine kI hS h ?_ ?_<;>intro h
 ·cases h;exact kR hS
 ·refine Al hS trivial h (fun x1=>⟨[(5,pN x1),(1,.p (vSl 2 A0 b)),(0,.p (vSl 2 A0 a))],[]⟩) (ids:=[]) (fun _ _ _ _ _ c x1 d h=>?_);refine kI hS h ?_ ?_<;>intro h
  ·refine J5 hS trivial [2,3,6,7] ?_;obtain⟨c9,h⟩:=H0 h;refine P8 (And.intro (And.intro (And.intro (And.intro c9.1 (by decide:(2:Nat)<=2)) c9.2) (by decide:(2:Nat)<=2)) (by decide +kernel:Ae7 Tryz.prog B5=true)) ?_;refine kI hS h ?_ ?_<;>intro h
   ·cases h;exact kR hS
   ·exact d _ [] _ (wrap .i64 (x1+1)) trivial h
  ·cases h;exact kR hS
def Ae (N:Nat)(a:Sound):Option Bool:=
 some (((F5 .and .u32 a.Plus a.Minus)==0)&&((shI .shr .u32 (F5 .or .u32 a.Plus a.Minus) 24)==0))
theorem Qk {N:Nat}{a:Sound}{y:Bool}(h:Ae N a=some y) :FunO S IG [.p (.agg (A0 a))] [] (pB y) ([]) []:=by
 unfold Ae at h;refine A5 hS Tryz.func93 ?_;obtain⟨t1,c⟩:∃x:Bool,x=(((F5 .and .u32 a.Plus a.Minus)==0)&&((shI .shr .u32 (F5 .or .u32 a.Plus a.Minus) 24)==0)):=⟨_,rfl⟩;refine RE hS trivial (A8 hS) 0 ⟨[(2,pB t1)],[]⟩ (fun M1 d=>?_) ?_
 ·refine NH hS trivial (b:=(F5 .and .u32 a.Plus a.Minus)==0) (fun c2=>?_) (fun c2=>?_)
  ·exact d _ [] _ (by decide:(0:Int)<=24) (hle:=klR [(0,.eq (.bb ((shI .shr .u32 (F5 .or .u32 a.Plus a.Minus) 24)==0)) (.bb t1))] (al1 (by simp only[c,c2,Leaf.ok,pm,if_true,if_false]) al0))
  ·exact d _ [] _ trivial (hle:=klR [(0,.eq (.bb false) (.bb t1))] (al1 (by simp only[c,c2,Leaf.ok,pm,if_true,if_false]) al0))
 ·subst c;cases h;exact kR hS
def J0 (N:Nat)(a:Sl Sound):Option Int:=
 if (decide (32<(a.n:Int))) then
  some 11
 else
  S8 N (fun b (x1:Int)=>
   if (decide (x1<(a.n:Int))) then
    if ((0:Int)<=x1/\x1<(a.n:Int))then
     (Ae N (a.g x1.toNat)).bind fun y3=>
     if (!y3) then
      some 14
     else
      b (wrap .i64 (x1+1))
    else none
   else
    some 0
   ) 0
theorem CB {N:Nat}{a:Sl Sound}{y:Int}(h:J0 N a=some y) :FunO S IC [.p (vSl 2 A0 a)] [] (pN y) ([]) []:=by
 unfold J0 at h;refine A5 hS Tryz.func69 ?_;refine kI hS h ?_ ?_<;>intro h
 ·cases h;exact kR hS
 ·refine Al hS trivial h (fun x1=>⟨[(10,pN x1),(9,pN (a.n:Int)),(8,.p (vSl 2 A0 a))],[]⟩) (ids:=[]) (fun _ _ _ _ _ b x1 c h=>?_);refine kI hS h ?_ ?_<;>intro h
  ·obtain⟨c9,h⟩:=H0 h;obtain⟨y3,e3,h⟩:=C6 h;refine C7 hS [] (And.intro c9 (by decide:(2:Nat)<=2)) (Qk hS hL e3) ?_;refine kI hS h ?_ ?_<;>intro h
   ·cases h;exact kR hS
   ·exact c _ [] _ (wrap .i64 (x1+1)) trivial h
  ·cases h;exact kR hS
def D9 (N:Nat)(a:Sl Sound)(b:Sl Sound):Option Bool:=
 if ((a.n:Int) != (b.n:Int)) then
  some false
 else
  S8 N (fun c (x1:Int)=>
   if (decide (x1<(a.n:Int))) then
    if (((0:Int)<=x1/\x1<(a.n:Int))/\((0:Int)<=x1/\x1<(b.n:Int)))then
     if ((((a.g x1.toNat).Plus==(b.g x1.toNat).Plus)&&((a.g x1.toNat).Minus==(b.g x1.toNat).Minus)) != true) then
      some false
     else
      c (wrap .i64 (x1+1))
    else none
   else
    some true
   ) 0
theorem X3 {N:Nat}{a:Sl Sound}{b:Sl Sound}{y:Bool}(h:D9 N a b=some y) :FunO S K3 [.p (vSl 2 A0 a),.p (vSl 2 A0 b)] [] (pB y) ([]) []:=by
 unfold D9 at h;refine A5 hS Tryz.func94 ?_;refine kI hS h ?_ ?_<;>intro h
 ·cases h;exact kR hS
 ·refine Al hS trivial h (fun x1=>⟨[(13,pN x1),(12,pN (a.n:Int)),(1,.p (vSl 2 A0 b)),(0,.p (vSl 2 A0 a))],[]⟩) (ids:=[]) (fun _ _ _ _ _ c x1 d h=>?_);refine kI hS h ?_ ?_<;>intro h
  ·refine J5 hS trivial [2,3,6,7] ?_;obtain⟨c9,h⟩:=H0 h;refine P8 (And.intro (And.intro (And.intro (And.intro c9.1 (by decide:(2:Nat)<=2)) c9.2) (by decide:(2:Nat)<=2)) (by decide +kernel:Ae7 Tryz.prog B5=true)) ?_;refine kI hS h ?_ ?_<;>intro h
   ·cases h;exact kR hS
   ·exact d _ [] _ (wrap .i64 (x1+1)) trivial h
  ·cases h;exact kR hS
def M0 (N:Nat)(a:Sl Sound)(b:Sl Sound):Option Bool:=
 (D9 N a b).bind fun y1=>
 some y1
theorem Ql {N:Nat}{a:Sl Sound}{b:Sl Sound}{y:Bool}(h:M0 N a b=some y) :FunO S ID [.p (vSl 2 A0 a),.p (vSl 2 A0 b)] [] (pB y) ([]) []:=by unfold M0 at h;refine A5 hS Tryz.func70 ?_;refine kC hS h (X3 hS hL) (fun y1 h=>?_);cases h;exact kR hS
def M8 (N:Nat)(a:Sound):Option Bool:=
 some (((F5 .and .u32 a.Plus a.Minus)==0)&&((shI .shr .u32 (F5 .or .u32 a.Plus a.Minus) 24)==0))
theorem CC {N:Nat}{a:Sound}{y:Bool}(h:M8 N a=some y) :FunO S IJ [.p (.agg (A0 a))] [] (pB y) ([]) []:=by
 unfold M8 at h;refine A5 hS Tryz.func141 ?_;obtain⟨t1,c⟩:∃x:Bool,x=(((F5 .and .u32 a.Plus a.Minus)==0)&&((shI .shr .u32 (F5 .or .u32 a.Plus a.Minus) 24)==0)):=⟨_,rfl⟩;refine RE hS trivial (A8 hS) 0 ⟨[(2,pB t1)],[]⟩ (fun M1 d=>?_) ?_
 ·refine NH hS trivial (b:=(F5 .and .u32 a.Plus a.Minus)==0) (fun c2=>?_) (fun c2=>?_)
  ·exact d _ [] _ (by decide:(0:Int)<=24) (hle:=klR [(0,.eq (.bb ((shI .shr .u32 (F5 .or .u32 a.Plus a.Minus) 24)==0)) (.bb t1))] (al1 (by simp only[c,c2,Leaf.ok,pm,if_true,if_false]) al0))
  ·exact d _ [] _ trivial (hle:=klR [(0,.eq (.bb false) (.bb t1))] (al1 (by simp only[c,c2,Leaf.ok,pm,if_true,if_false]) al0))
 ·subst c;cases h;exact kR hS
def N5 (N:Nat)(b:Int):Option (Nat->Int):=
 S5 N (fun a (x1:Nat->Int) (x2:Int)=>
  if (decide (x2<(wrap .i64 (b+1)))) then
   if (((0:Int)<=x2/\((0:Int)<=x2/\x2<33))/\(0+x2.toNat*1)<33)then
    a (Ka x1 (0+x2.toNat*1) (shI .shl .u64 1 x2)) (wrap .i64 (x2+1))
   else none
  else
   some x1
  ) (fun _=>0) 0
theorem BZ {N:Nat}{a:Int}{y:Nat->Int}(h:N5 N a=some y) :FunO S EV [pN a] [] (.p (.agg (cA 33 (pI .u64) y))) ([]) []:=by
 unfold N5 at h;refine A5 hS Tryz.func233 ?_;refine H9 hS trivial h (fun x1 x2=>⟨[(7,pN x2),(6,pN (wrap .i64 (a+1))),(3,.reg 4000 0),(2,.reg 3000 0)],[(4000,.arr 33 (fun i=>pI .u64 (x1 i))),(3000,.arr 33 (fun i=>pI .u64 ((fun _=>0) i)))]⟩) (ids:=[(3000,3000),(4000,4000)]) (fun _ _ _ _ _ b x1 x2 d h=>?_) (hle:=klR [(2,.fn 33 33 (fun i=>[(fun i=>(List.replicate 33 (pI .u64 0)).getD i default) i]) (fun i=>[pI .u64 ((fun _=>0) i)])),(3,.fn 33 33 (fun i=>[(fun i=>(List.replicate 33 (pI .u64 0)).getD i default) i]) (fun i=>[pI .u64 ((fun _=>0) i)]))] (al1 ⟨rfl,AD (z:=pI .u64 0) rfl⟩ (al1 ⟨rfl,AD (z:=pI .u64 0) rfl⟩ al0)));refine kI hS h ?_ ?_<;>intro h
 ·obtain⟨c4,h⟩:=H0 h;exact d _ [(3000,3000),(4000,4000)] _ (Ka x1 (0+x2.toNat*1) (shI .shl .u64 1 x2)) (wrap .i64 (x2+1)) c4 h (hle:=klR [(2,.fn 33 33 (fun i=>[(fun i=>if i=(0+x2.toNat*1)then (pI .u64 (shI .shl .u64 1 x2))else (fun i=>pI .u64 (x1 i)) i) i]) (fun i=>[pI .u64 (Ka x1 (0+x2.toNat*1) (shI .shl .u64 1 x2) i)]))] (al1 ⟨rfl,Aj2 (c:=pI .u64) (v:=x1) (x:=shI .shl .u64 1 x2) (fun _ _=>rfl) rfl⟩ al0))
 ·obtain rfl:=C9 h;exact B0 hS (And.intro rfl (E9 _ _):(0:Nat)=0/\(Bj 33 (fun i=>pI .u64 (x1 i))).length=33) ⟨[(2,.reg 3000 0)],[(3000,.arr 33 (fun i=>pI .u64 (x1 i)))]⟩ [] (ids:=[(3000,3000)]) ⟨rfl,rfl,rfl⟩ (hle:=klR [(0,.fn 33 33 (fun i=>[(fun i=>(cA 33 (pI .u64) x1).getD i default) i]) (fun i=>[pI .u64 (x1 i)]))] (al1 ⟨rfl,D6 33 (fun i=>pI .u64 (x1 i))⟩ al0))
def J7 (N:Nat)(p_x:Nat->Int)(b:Nat->Int):Option (Nat->Int):=
 S5 N (fun a (x1:Nat->Int) (x2:Int)=>
  if (decide (x2<33)) then
   if (((0:Int)<=x2/\x2<33)/\(0+x2.toNat*1)<33)then
    if (((((0:Int)<=x2/\x2<33)/\(0+x2.toNat*1)<33)/\((0:Int)<=x2/\x2<33))/\(0+x2.toNat*1)<33)then
     a (Ka x1 (0+x2.toNat*1) (F5 .or .u64 (x1 (0+x2.toNat*1)) (b (0+x2.toNat*1)))) (wrap .i64 (x2+1))
    else none
   else none
  else
   some x1
  ) p_x 0
theorem CD {N:Nat}{p_x:Nat->Int}{a:Nat->Int}{y:Nat->Int}(h:J7 N p_x a=some y) :FunO S Cz [.reg 0 0,.reg 1 0] [.arr 33 (fun i=>pI .u64 (p_x i)),.arr 33 (fun i=>pI .u64 (a i))] (.tup []) ([.arr 33 (fun i=>pI .u64 (y i)),.arr 33 (fun i=>pI .u64 (a i))]) [true,true]:=by
 unfold J7 at h;refine A5 hS Tryz.func231 ?_;refine H9 hS trivial h (fun x1 x2=>⟨[(7,pN x2),(6,.reg 1 0),(0,.reg 0 0)],[(1,.arr 33 (fun i=>pI .u64 (a i))),(0,.arr 33 (fun i=>pI .u64 (x1 i)))]⟩) (ids:=[(0,0),(1,1)]) (fun _ _ _ _ _ b x1 x2 d h=>?_);refine kI hS h ?_ ?_<;>intro h
 ·refine NJ hS trivial ?_;obtain⟨c8,h⟩:=H0 h;refine P8 c8 ?_;refine NJ hS trivial ?_;obtain⟨c9,h⟩:=H0 h;refine P8 c9 ?_;exact d _ [(0,0),(1,1)] _ (Ka x1 (0+x2.toNat*1) (F5 .or .u64 (x1 (0+x2.toNat*1)) (a (0+x2.toNat*1)))) (wrap .i64 (x2+1)) trivial h (hle:=klR [(2,.fn 33 33 (fun i=>[(fun i=>if i=(0+x2.toNat*1)then (pI .u64 (F5 .or .u64 (x1 (0+x2.toNat*1)) (a (0+x2.toNat*1))))else (fun i=>pI .u64 (x1 i)) i) i]) (fun i=>[pI .u64 (Ka x1 (0+x2.toNat*1) (F5 .or .u64 (x1 (0+x2.toNat*1)) (a (0+x2.toNat*1))) i)]))] (al1 ⟨rfl,Aj2 (c:=pI .u64) (v:=x1) (x:=F5 .or .u64 (x1 (0+x2.toNat*1)) (a (0+x2.toNat*1))) (fun _ _=>rfl) rfl⟩ al0))
 ·obtain rfl:=C9 h;exact B0 hS trivial ⟨[],[(1,.arr 33 (fun i=>pI .u64 (a i))),(0,.arr 33 (fun i=>pI .u64 (x1 i)))]⟩ [0,1] (ids:=[(0,0),(1,1)]) ⟨rfl,rfl,rfl⟩
def W0 (N:Nat)(b:Sl Sound)(a:Int):Option Int:=
 if ((decide (a<0))||(decide ((b.n:Int)<a))) then
  some 3
 else
  some 0
theorem Hn {N:Nat}{c:Sl Sound}{b:Int}{y:Int}(h:W0 N c b=some y) :FunO S Hi [.p (vSl 2 A0 c),pN b] [] (pN y) ([]) []:=by
 unfold W0 at h;refine A5 hS Tryz.func204 ?_;refine kB hS (A8 hS) trivial trivial 5 (.o (.a (decide (b<0))) (.a (decide ((c.n:Int)<b)))) ?_;refine kI hS h ?_ ?_<;>intro h
 ·cases h;exact kR hS
 ·cases h;exact kR hS
def Y5 (N:Nat)(a:Pat):Option Int:=
 if (if (a.Kind==0) then a.Kind==0 else (if (a.Kind==2) then a.Kind==2 else a.Kind==6)) then
  lt (fun (z1:Bool)=>
   if z1 then
    some 2
   else
    (M8 N a.Is).bind fun y1=>
    if (!y1) then
     some 14
    else
     some 0
   ) fun k1=>
   if (((a.Is.Plus==0)&&(a.Is.Minus==0)) != true) then
    k1 true
   else
    if a.Not then
     k1 true
    else
     if (a.Min != 0) then
      k1 true
     else
      if (a.Max != 0) then
       k1 true
      else
       k1 (decide (0<(a.L.n:Int)))
 else
  if (a.Kind==1) then
   lt (fun (z2:Bool)=>
    if z2 then
     some 2
    else
     (M8 N a.Is).bind fun y2=>
     if (!y2) then
      some 14
     else
      some 0
    ) fun k2=>
    if (((0==0)&&(0==0)) != true) then
     k2 true
    else
     if (a.Min != 0) then
      k2 true
     else
      if (a.Max != 0) then
       k2 true
      else
       k2 (decide (0<(a.L.n:Int)))
  else
   lt (fun (z3:Int×Int)=>
    if (((((((a.Is.Plus==0)&&(a.Is.Minus==0)) != true)||a.Not)||(z3.1 != 0))||(z3.2 != 0))||(decide (0<0))) then
     some 2
    else
     (M8 N a.Is).bind fun y3=>
     if (!y3) then
      some 14
     else
      some 0
    ) fun k3=>
    if (if (a.Kind==3) then a.Kind==3 else a.Kind==4) then
     k3 (a.Min,a.Max)
    else
     if (a.Kind==5) then
      if (((((a.L.n:Int) != 1)||(decide (a.Min<0)))||(decide (32<a.Min)))||((a.Max != (-1))&&((decide (a.Max<a.Min))||(decide (32<a.Max))))) then
       some 2
      else
       k3 (0,0)
     else
      some 2
theorem LO {N:Nat}{c:Pat}{y:Int}(h:Y5 N c=some y) :FunO S FR [.p (.agg (B4 c))] [] (pN y) ([]) []:=by
 unfold Y5 at h;refine A5 hS Tryz.func121 ?_;obtain⟨t1,f⟩:∃x:Bool,x=(if (c.Kind==0) then c.Kind==0 else (if (c.Kind==2) then c.Kind==2 else c.Kind==6)):=⟨_,rfl⟩;refine RE hS trivial (A8 hS) 0 ⟨[(8,pB t1),(7,pN c.Kind),(3,.reg 4000 0),(1,.reg 2000 0)],[(4000,.cells [pN 0,pU c.Is.Plus,pU c.Is.Minus,pB c.Not,pN c.Min,pN c.Max,.p (.sl false 7 c.L.n (BS c))]),(2000,.cells ((B4 c).map .p))]⟩ (fun M1 l=>?_) ?_
 ·refine E7 hS trivial (b:=c.Kind==0) (fun c3=>?_) (fun c3=>?_)
  ·exact l _ [(2000,2000),(4000,4000)] _ trivial (hle:=klR [(0,.eq (.bb (c.Kind==0)) (.bb t1))] (al1 (by simp only[f,c3,Leaf.ok,pm,if_true,if_false]) al0))
  ·refine E7 hS trivial (b:=c.Kind==2) (fun c4=>?_) (fun c4=>?_)
   ·exact l _ [(2000,2000),(4000,4000)] _ trivial (hle:=klR [(0,.eq (.bb (c.Kind==2)) (.bb t1))] (al1 (by simp only[f,c3,c4,Leaf.ok,pm,if_true,if_false]) al0))
   ·exact l _ [(2000,2000),(4000,4000)] _ trivial (hle:=klR [(0,.eq (.bb (c.Kind==6)) (.bb t1))] (al1 (by simp only[f,c3,c4,Leaf.ok,pm,if_true,if_false]) al0))
 ·subst f;refine kI hS h ?_ ?_<;>intro h
  ·refine Ls hS (by decide +kernel:Ae7 Tryz.prog B5=true) (A8 hS) h 0 (fun z1=>⟨[(57,pB z1),(1,.reg 2000 0)],[(2000,.cells ((B4 c).map .p))]⟩) (fun M3 k1 d h=>?_) (fun z1 h=>?_)
   ·refine kG hS h (fun h=>?_) (fun h=>?_)
    ·exact d _ [(2000,2000)] _ true trivial h
    ·refine kG hS h (fun h=>?_) (fun h=>?_)
     ·exact d _ [(2000,2000)] _ true trivial h
     ·refine kG hS h (fun h=>?_) (fun h=>?_)
      ·exact d _ [(2000,2000)] _ true trivial h
      ·refine kG hS h (fun h=>?_) (fun h=>?_)
       ·exact d _ [(2000,2000)] _ true trivial h
       ·refine N1 hS trivial 79 ⟨[(78,.p (vSl 7 B4 c.L)),(76,.p (.v (.bool false))),(1,.reg 2000 0)],[(2000,.cells ((B4 c).map .p))]⟩ (ids:=[(2000,2000)]) ?_ (hle:=klR [(0,.fn c.L.n c.L.n (BS c) (fun i=>B4 (c.L.g i)))] (al1 ⟨rfl,Am c⟩ al0));exact d _ [(2000,2000)] _ (decide (0<(c.L.n:Int))) trivial h
   ·refine kI hS h ?_ ?_<;>intro h
    ·cases h;exact kR hS
    ·refine kC hS h (CC hS hL) (fun y1 h=>?_);refine kI hS h ?_ ?_<;>intro h
     ·cases h;exact kR hS
     ·cases h;exact kR hS
  ·refine kI hS h ?_ ?_<;>intro h
   ·refine Ls hS (by decide +kernel:Ae7 Tryz.prog B5=true) (A8 hS) h 0 (fun z2=>⟨[(57,pB z2),(1,.reg 2000 0)],[(2000,.cells ((B4 c).map .p))]⟩) (fun M5 k2 j h=>?_) (fun z2 h=>?_)
    ·refine kG hS h (fun h=>?_) (fun h=>?_)
     ·exact j _ [(2000,2000)] _ true trivial h
     ·refine NH hS trivial (b:=false) (fun c54=>?_) (fun c54=>?_)
      ·exact Bool.noConfusion ((rfl:false=false).symm.trans c54)
      ·refine kG hS h (fun h=>?_) (fun h=>?_)
       ·exact j _ [(2000,2000)] _ true trivial h
       ·refine kG hS h (fun h=>?_) (fun h=>?_)
        ·exact j _ [(2000,2000)] _ true trivial h
        ·refine N1 hS trivial 79 ⟨[(78,.p (vSl 7 B4 c.L)),(76,.p (.v (.bool false))),(1,.reg 2000 0)],[(2000,.cells ((B4 c).map .p))]⟩ (ids:=[(2000,2000)]) ?_ (hle:=klR [(0,.fn c.L.n c.L.n (BS c) (fun i=>B4 (c.L.g i)))] (al1 ⟨rfl,Am c⟩ al0));exact j _ [(2000,2000)] _ (decide (0<(c.L.n:Int))) trivial h
    ·refine kI hS h ?_ ?_<;>intro h
     ·cases h;exact kR hS
     ·refine kC hS h (CC hS hL) (fun y2 h=>?_);refine kI hS h ?_ ?_<;>intro h
      ·cases h;exact kR hS
      ·cases h;exact kR hS
   ·obtain⟨t4,m⟩:∃x:Bool,x=(if (c.Kind==3) then c.Kind==3 else c.Kind==4):=⟨_,rfl⟩;refine RE hS trivial (A8 hS) 0 ⟨[(17,pB t4),(7,pN c.Kind),(3,.reg 4000 0),(1,.reg 2000 0)],[(4000,.cells [pN 0,pU c.Is.Plus,pU c.Is.Minus,pB c.Not,pN c.Min,pN c.Max,.p (.sl false 7 c.L.n (BS c))]),(2000,.cells ((B4 c).map .p))]⟩ (fun M6 q=>?_) ?_
    ·refine E7 hS trivial (b:=c.Kind==3) (fun c60=>?_) (fun c60=>?_)
     ·exact q _ [(2000,2000),(4000,4000)] _ trivial (hle:=klR [(0,.eq (.bb (c.Kind==3)) (.bb t4))] (al1 (by simp only[m,c60,Leaf.ok,pm,if_true,if_false]) al0))
     ·exact q _ [(2000,2000),(4000,4000)] _ trivial (hle:=klR [(0,.eq (.bb (c.Kind==4)) (.bb t4))] (al1 (by simp only[m,c60,Leaf.ok,pm,if_true,if_false]) al0))
    ·subst m;refine Ls hS trivial (A8 hS) h 0 (fun z3=>⟨[(3,.reg 4000 0),(1,.reg 2000 0)],[(4000,.cells [pN 0,pU c.Is.Plus,pU c.Is.Minus,pB c.Not,pN z3.1,pN z3.2,.p E5]),(2000,.cells ((B4 c).map .p))]⟩) (fun M7 k3 r h=>?_) (fun z3 h=>?_)
     ·refine kI hS h ?_ ?_<;>intro h
      ·exact r _ [(2000,2000),(4000,4000)] _ (c.Min,c.Max) trivial h
      ·refine kI hS h ?_ ?_<;>intro h
       ·refine N1 hS trivial 25 ⟨[(24,.p (vSl 7 B4 c.L)),(3,.reg 4000 0),(1,.reg 2000 0)],[(4000,.cells [pN 0,pU c.Is.Plus,pU c.Is.Minus,pB c.Not,pN c.Min,pN c.Max,.p (.sl false 7 c.L.n (BS c))]),(2000,.cells ((B4 c).map .p))]⟩ (ids:=[(2000,2000),(4000,4000)]) ?_ (hle:=klR [(0,.fn c.L.n c.L.n (BS c) (fun i=>B4 (c.L.g i)))] (al1 ⟨rfl,Am c⟩ al0));refine kB hS (A8 hS) trivial trivial 26 (.o (.o (.o (.a ((c.L.n:Int) != 1)) (.a (decide (c.Min<0)))) (.a (decide (32<c.Min)))) (.n (.a (c.Max != (-1))) (.o (.a (decide (c.Max<c.Min))) (.a (decide (32<c.Max)))))) ?_;refine kI hS h ?_ ?_<;>intro h
        ·cases h;exact kR hS
        ·exact r _ [(2000,2000),(4000,4000)] _ (0,0) trivial h
       ·cases h;exact kR hS
     ·refine kB hS (A8 hS) (by decide +kernel:Ae7 Tryz.prog B5=true) trivial 19 (.o (.o (.o (.o (.a (((c.Is.Plus==0)&&(c.Is.Minus==0)) != true)) (.a c.Not)) (.a (z3.1 != 0))) (.a (z3.2 != 0))) (.a (decide (0<0)))) ?_;refine kI hS h ?_ ?_<;>intro h
      ·cases h;exact kR hS
      ·refine kC hS h (CC hS hL) (fun y3 h=>?_);refine kI hS h ?_ ?_<;>intro h
       ·cases h;exact kR hS
       ·cases h;exact kR hS
def HW (N:Nat)(a:Pat):Option Int:=
 if ((decide (a.Kind<0))||(decide (6<a.Kind))) then
  some 2
 else
  if ((a.Kind != 1)&&((((a.Is.Plus==0)&&(a.Is.Minus==0)) != true)||a.Not)) then
   some 2
  else
   lt (fun (z1:Bool)=>
    if z1 then
     some 2
    else
     if ((a.Kind != 5)&&((a.Min != 0)||(a.Max != 0))) then
      some 2
     else
      lt (fun (z2:Bool)=>
       if z2 then
        some 2
       else
        (T9 N a.Is).bind fun y1=>
        if (!y1) then
         some 14
        else
         some 0
       ) fun k2=>
       if (a.Kind==5) then
        if ((a.L.n:Int) != 1) then
         k2 true
        else
         if (decide (a.Min<0)) then
          k2 true
         else
          if (decide (32<a.Min)) then
           k2 true
          else
           if (a.Max != (-1)) then
            if (decide (a.Max<a.Min)) then
             k2 true
            else
             k2 (decide (32<a.Max))
           else
            k2 false
       else
        k2 false
    ) fun k1=>
    if (a.Kind != 3) then
     if (a.Kind != 4) then
      if (a.Kind != 5) then
       k1 (decide (0<(a.L.n:Int)))
      else
       k1 false
     else
      k1 false
    else
     k1 false
def KH (N:Nat)(b:Sound)(a:Sound):Option Bool:=
 some (((F5 .and .u32 b.Plus a.Plus)==a.Plus)&&((F5 .and .u32 b.Minus a.Minus)==a.Minus))
def Fr (N:Nat)(a:Int):Option (Sl Int):=
 if ((0:Int)<=(wrap .i64 (a+1))/\(wrap .i64 (a+1))<=(wrap .i64 (a+1))/\(wrap .i64 (a+1))*8<=140737488355328/\(wrap .i64 (a+1))<=140737488355328)then
  S5 N (fun b (x1:Sl Int) (x2:Int)=>
   if (decide (x2<=a)) then
    if (((0:Int)<=x2/\((0:Int)<=x2/\x2<(x1.n:Int)))/\x2.toNat<x1.n)then
     b (x1.upd x2.toNat (shI .shl .u64 1 x2)) (wrap .i64 (x2+1))
    else none
   else
    some x1
   ) (Sl.rep (wrap .i64 (a+1)).toNat 0:Sl Int) 0
 else none
def Ba (N:Nat)(p_x:Sl Int)(b:Sl Int):Option (Sl Int):=
 if ((0:Int)<=(p_x.n:Int)/\(p_x.n:Int)<=(p_x.n:Int)/\(p_x.n:Int)*8<=140737488355328/\(p_x.n:Int)<=140737488355328)then
  S5 N (fun c (x3:Sl Int) (x4:Int)=>
   if (decide (x4<(p_x.n:Int))) then
    S5 N (fun a (x7:Sl Int) (x8:Int)=>
     if (decide (x8<(b.n:Int))) then
      if (((0:Int)<=x4/\x4<(p_x.n:Int))/\(0:Int)<=x8)then
       if ((F5 .and .u64 (shI .shr .u64 (p_x.g x4.toNat) x8) 1)==1) then
        if ((((((0:Int)<=x4/\x4<(x7.n:Int))/\x4.toNat<x7.n)/\((0:Int)<=x8/\x8<(b.n:Int)))/\((0:Int)<=x4/\x4<(x7.n:Int)))/\x4.toNat<x7.n)then
         a (x7.upd x4.toNat (F5 .or .u64 (x7.g x4.toNat) (b.g x8.toNat))) (wrap .i64 (x8+1))
        else none
       else
        a x7 (wrap .i64 (x8+1))
      else none
     else
      c x7 (wrap .i64 (x4+1))
     ) x3 0
   else
    some x3
   ) (Sl.rep (p_x.n:Int).toNat 0:Sl Int) 0
 else none
def Fs (N:Nat)(p_x:Sl Int)(b:Sl Int):Option (Sl Int):=
 if ((0:Int)<=(p_x.n:Int)/\(p_x.n:Int)<=(p_x.n:Int)/\(p_x.n:Int)*8<=140737488355328/\(p_x.n:Int)<=140737488355328)then
  S5 N (fun a (x1:Sl Int) (x2:Int)=>
   if (decide (x2<(p_x.n:Int))) then
    if (((((0:Int)<=x2/\x2<(p_x.n:Int))/\((0:Int)<=x2/\x2<(b.n:Int)))/\((0:Int)<=x2/\x2<(x1.n:Int)))/\x2.toNat<x1.n)then
     a (x1.upd x2.toNat (F5 .or .u64 (p_x.g x2.toNat) (b.g x2.toNat))) (wrap .i64 (x2+1))
    else none
   else
    some x1
   ) (Sl.rep (p_x.n:Int).toNat 0:Sl Int) 0
 else none
def Gq (N:Nat)(p_x:Sl Int)(b:Sl Int):Option Bool:=
 S8 N (fun a (x1:Int)=>
  if (decide (x1<(p_x.n:Int))) then
   if (((0:Int)<=x1/\x1<(p_x.n:Int))/\((0:Int)<=x1/\x1<(b.n:Int)))then
    if ((p_x.g x1.toNat) != (b.g x1.toNat)) then
     some false
    else
     a (wrap .i64 (x1+1))
   else none
  else
   some true
  ) 0
end Go.AM
namespace Go.AM
open IntKind (wrap)
open Go.Proofs
set_option maxRecDepth 10000
set_option maxHeartbeats 2000000
variable {S:X6}(hS:G5 S Tryz.prog) (hL:LL S)
include hS hL
def Aq (rec:Pat->Int->Option Int)(N:Nat)(b:Pat)(a:Int):Option Int:=
 S5 N (fun c (x1:Int) (x2:Int)=>
  if ((decide (x2<(b.L.n:Int)))&&(decide (x1<=40))) then
   if ((0:Int)<=x2/\x2<(b.L.n:Int))then
    (rec (b.L.g x2.toNat) x1).bind fun y3=>
    c y3 (wrap .i64 (x2+1))
   else none
  else
   some x1
  ) (wrap .i64 (a+1)) 0
def Z8:Nat->Pat->Int->Option Int
 |0=>fun _ _=>none
 |N+1=>Aq (Z8 N) N
theorem Qm {N:Nat}{rec:Pat->Int->Option Int}(d:∀{b:Pat}{c:Int}{y:Int},rec b c=some y->FunO S DM [.p (.agg (B4 b)),pN c] [] (pN y) ([]) []){b:Pat}{c:Int}{y:Int}(h:Aq rec N b c=some y) :FunO S DM [.p (.agg (B4 b)),pN c] [] (pN y) ([]) []:=by
 unfold Aq at h;refine A5 hS Tryz.func89 ?_;refine H9 hS trivial h (fun x1 x2=>⟨[(6,pN x2),(5,pN x1),(2,.reg 3000 0)],[(3000,.cells ((B4 b).map .p))]⟩) (ids:=[(3000,3000)]) (fun _ _ _ _ _ f x1 x2 j h=>?_);refine N1 hS trivial 12 ⟨[(11,.p (vSl 7 B4 b.L)),(9,pN x2),(6,pN x2),(5,pN x1),(2,.reg 3000 0)],[(3000,.cells ((B4 b).map .p))]⟩ (ids:=[(3000,3000)]) ?_ (hle:=klR [(0,.fn b.L.n b.L.n (BS b) (fun i=>B4 (b.L.g i)))] (al1 ⟨rfl,Am b⟩ al0));refine kB hS (A8 hS) trivial trivial 3 (.n (.a (decide (x2<(b.L.n:Int)))) (.a (decide (x1<=40)))) ?_;refine kI hS h ?_ ?_<;>intro h
 ·refine N1 hS trivial 23 ⟨[(22,pN x2),(21,.p (vSl 7 B4 b.L)),(6,pN x2),(5,pN x1),(2,.reg 3000 0)],[(3000,.cells ((B4 b).map .p))]⟩ (ids:=[(3000,3000)]) ?_ (hle:=klR [(1,.fn b.L.n b.L.n (BS b) (fun i=>B4 (b.L.g i)))] (al1 ⟨rfl,Am b⟩ al0));obtain⟨c6,h⟩:=H0 h;obtain⟨y3,e3,h⟩:=C6 h;refine C7 hS [] (And.intro c6 (by decide:(7:Nat)<=7)) (d e3) ?_;exact j _ [(3000,3000)] _ y3 (wrap .i64 (x2+1)) trivial h
 ·cases h;exact kR hS
theorem Sj {N:Nat}{b:Pat}{a:Int}{y:Int}(h:Z8 N b a=some y) :FunO S DM [.p (.agg (B4 b)),pN a] [] (pN y) ([]) []:=by
 induction N generalizing b a y with
 |zero=>cases (show (none:Option Int)=some y from h)
 |succ N ih=>exact Qm hS hL (fun e=>ih e) h
def AH (N:Nat)(a:Pat):Option Int:=
 (Z8 N a 0).bind fun y1=>
 some y1
theorem HX {N:Nat}{a:Pat}{y:Int}(h:AH N a=some y) :FunO S MI [.p (.agg (B4 a))] [] (pN y) ([]) []:=by unfold AH at h;refine A5 hS Tryz.func57 ?_;refine kC hS h (Sj hS hL) (fun y1 h=>?_);cases h;exact kR hS
def U0 (rec:Pat->Option Int)(N:Nat)(a:Pat):Option Int:=
 S5 N (fun b (x1:Int) (x2:Int)=>
  if (decide (x2<(a.L.n:Int))) then
   if ((0:Int)<=x2/\x2<(a.L.n:Int))then
    (rec (a.L.g x2.toNat)).bind fun y3=>
    b (wrap .i64 (x1+y3)) (wrap .i64 (x2+1))
   else none
  else
   some x1
  ) (if (a.Kind==5) then 1 else 0) 0
def W1:Nat->Pat->Option Int
 |0=>fun _=>none
 |N+1=>U0 (W1 N) N
theorem LP {N:Nat}{rec:Pat->Option Int}(d:∀{a:Pat}{y:Int},rec a=some y->FunO S By [.p (.agg (B4 a))] [] (pN y) ([]) []){a:Pat}{y:Int}(h:U0 rec N a=some y) :FunO S By [.p (.agg (B4 a))] [] (pN y) ([]) []:=by
 unfold U0 at h;refine A5 hS Tryz.func88 ?_;obtain⟨t1,c⟩:∃x:Int,x=(if (a.Kind==5) then 1 else 0):=⟨_,rfl⟩;refine RE hS trivial (A8 hS) 0 ⟨[(3,pN t1),(1,.reg 2000 0)],[(2000,.cells ((B4 a).map .p))]⟩ (fun M1 f=>?_) ?_
 ·refine E7 hS trivial (b:=a.Kind==5) (fun c2=>?_) (fun c2=>?_)
  ·exact f _ [(2000,2000)] _ trivial (hle:=klR [(0,.eq (pI .i64 1) (pI .i64 t1))] (al1 (by simp only[c,c2,Leaf.ok,pm,if_true,if_false]) al0))
  ·exact f _ [(2000,2000)] _ trivial (hle:=klR [(0,.eq (pI .i64 0) (pI .i64 t1))] (al1 (by simp only[c,c2,Leaf.ok,pm,if_true,if_false]) al0))
 ·subst c;refine H9 hS trivial h (fun x1 x2=>⟨[(4,pN x2),(3,pN x1),(1,.reg 2000 0)],[(2000,.cells ((B4 a).map .p))]⟩) (ids:=[(2000,2000)]) (fun _ _ _ _ _ j x1 x2 l h=>?_);refine N1 hS trivial 11 ⟨[(10,.p (vSl 7 B4 a.L)),(8,pN x2),(4,pN x2),(3,pN x1),(1,.reg 2000 0)],[(2000,.cells ((B4 a).map .p))]⟩ (ids:=[(2000,2000)]) ?_ (hle:=klR [(0,.fn a.L.n a.L.n (BS a) (fun i=>B4 (a.L.g i)))] (al1 ⟨rfl,Am a⟩ al0));refine kI hS h ?_ ?_<;>intro h
  ·refine N1 hS trivial 19 ⟨[(18,pN x2),(17,.p (vSl 7 B4 a.L)),(15,pN x1),(4,pN x2),(1,.reg 2000 0)],[(2000,.cells ((B4 a).map .p))]⟩ (ids:=[(2000,2000)]) ?_ (hle:=klR [(1,.fn a.L.n a.L.n (BS a) (fun i=>B4 (a.L.g i)))] (al1 ⟨rfl,Am a⟩ al0));obtain⟨c8,h⟩:=H0 h;obtain⟨y3,e3,h⟩:=C6 h;refine C7 hS [] (And.intro c8 (by decide:(7:Nat)<=7)) (d e3) ?_;exact l _ [(2000,2000)] _ (wrap .i64 (x1+y3)) (wrap .i64 (x2+1)) trivial h
  ·cases h;exact kR hS
theorem Oi {N:Nat}{a:Pat}{y:Int}(h:W1 N a=some y) :FunO S By [.p (.agg (B4 a))] [] (pN y) ([]) []:=by
 induction N generalizing a y with
 |zero=>cases (show (none:Option Int)=some y from h)
 |succ N ih=>exact LP hS hL (fun e=>ih e) h
def BF (N:Nat)(a:Sl Law):Option Int:=
 S5 N (fun c (x3:Int) (x4:Int)=>
  if ((decide (x4<(a.n:Int)))&&(decide (x4<=300))) then
   if (((0:Int)<=x4/\x4<(a.n:Int))/\((0:Int)<=x4/\x4<(a.n:Int)))then
    S5 N (fun b (x7:Int) (x8:Int)=>
     if (decide (x8<((Sl.of [(a.g x4.toNat).Left,(a.g x4.toNat).Right]:Sl Pat).n:Int))) then
      if ((0:Int)<=x8/\x8<((Sl.of [(a.g x4.toNat).Left,(a.g x4.toNat).Right]:Sl Pat).n:Int))then
       (AH N ((Sl.of [(a.g x4.toNat).Left,(a.g x4.toNat).Right]:Sl Pat).g x8.toNat)).bind fun d=>
       if (decide (d<=40)) then
        (W1 N ((Sl.of [(a.g x4.toNat).Left,(a.g x4.toNat).Right]:Sl Pat).g x8.toNat)).bind fun f=>
        b (wrap .i64 (x7+f)) (wrap .i64 (x8+1))
       else
        b x7 (wrap .i64 (x8+1))
      else none
     else
      c (if x3<x7 then x7 else x3) (wrap .i64 (x4+1))
     ) 0 0
   else none
  else
   some x3
  ) 0 0
theorem Vf {N:Nat}{b:Sl Law}{y:Int}(h:BF N b=some y) :FunO S MH [.p (vSl 18 A9 b)] [] (pN y) ([]) []:=by
 unfold BF at h;refine A5 hS Tryz.func56 ?_;refine H9 hS trivial h (fun x3 x4=>⟨[(4,pN x4),(3,pN x3),(0,.p (vSl 18 A9 b))],[]⟩) (ids:=[]) (fun _ _ _ _ _ d x3 x4 f h=>?_);refine kB hS (A8 hS) trivial trivial 3 (.n (.a (decide (x4<(b.n:Int)))) (.a (decide (x4<=300)))) ?_;refine kI hS h ?_ ?_<;>intro h
 ·refine J5 hS trivial [2,4,7,9] ?_;obtain⟨c24,h⟩:=H0 h;refine BR (And.intro (And.intro (And.intro c24.1 (by decide:(7:Nat)<=17)) c24.2) (by decide:(7:Nat)<=10)) (x:=.sl true 7 2 (E6 [pI .i64 0,pI .u32 0,pI .u32 0,.v (.bool false),pI .i64 0,pI .i64 0,E5] [(0,B4 (b.g x4.toNat).Left),(1,B4 (b.g x4.toNat).Right)])) ?_;refine P8 trivial ?_;refine H9 hS trivial h (fun x7 x8=>⟨[(30,pN x8),(29,pN ((Sl.of [(b.g x4.toNat).Left,(b.g x4.toNat).Right]:Sl Pat).n:Int)),(28,.p (vSl 7 B4 (Sl.of [(b.g x4.toNat).Left,(b.g x4.toNat).Right]:Sl Pat))),(5,pN x7),(4,pN x4),(3,pN x3),(0,.p (vSl 18 A9 b))],[]⟩) (ids:=[]) (fun _ _ _ _ _ j x7 x8 c h=>?_) (hle:=klR [(2,.fn 2 (Sl.of [(b.g x4.toNat).Left,(b.g x4.toNat).Right]:Sl Pat).n (E6 [pI .i64 0,pI .u32 0,pI .u32 0,.v (.bool false),pI .i64 0,pI .i64 0,E5] [(0,B4 (b.g x4.toNat).Left),(1,B4 (b.g x4.toNat).Right)]) (fun i=>B4 ((Sl.of [(b.g x4.toNat).Left,(b.g x4.toNat).Right]:Sl Pat).g i)))] (al1 ⟨rfl,(fun i l=>match i,l with|0,_=>rfl|1,_=>rfl|_+2,l=>absurd l (by omega))⟩ al0));refine kI hS h ?_ ?_<;>intro h
  ·obtain⟨c32,h⟩:=H0 h;refine K9 hS (And.intro c32 (by decide:(7:Nat)<=7)) 34 8000 (B4 ((Sl.of [(b.g x4.toNat).Left,(b.g x4.toNat).Right]:Sl Pat).g x8.toNat)) ?_;obtain⟨o,e17,h⟩:=C6 h;refine C7 hS [] (by decide:(7:Nat)<=7) (HX hS hL e17) ?_;refine kI hS h ?_ ?_<;>intro h
   ·obtain⟨m,e18,h⟩:=C6 h;refine C7 hS [] (by decide:(7:Nat)<=7) (Oi hS hL e18) ?_;exact c _ [] _ (wrap .i64 (x7+m)) (wrap .i64 (x8+1)) trivial h
   ·exact c _ [] _ x7 (wrap .i64 (x8+1)) trivial h
  ·exact f _ [] _ (if x3<x7 then x7 else x3) (wrap .i64 (x4+1)) trivial h
 ·cases h;exact kR hS
def Bb (rec:Pat->Int->Option (Int×Int))(N:Nat)(b:Pat)(a:Int):Option (Int×Int):=
 if (a==40) then
  some (a,12)
 else
  (HW N b).bind fun y1=>
  if (y1 != 0) then
   some (a,y1)
  else
   S5 N (fun c (x1:Int) (x2:Int)=>
    if (decide (x2<(b.L.n:Int))) then
     if ((0:Int)<=x2/\x2<(b.L.n:Int))then
      (rec (b.L.g x2.toNat) x1).bind fun y4=>
      if (y4.2 != 0) then
       some (y4.1,y4.2)
      else
       c y4.1 (wrap .i64 (x2+1))
     else none
    else
     some (x1,0)
    ) (wrap .i64 (a+1)) 0
def Du:Nat->Pat->Int->Option (Int×Int)
 |0=>fun _ _=>none
 |N+1=>Bb (Du N) N
def Ca (N:Nat)(a:Pat):Option Int:=
 (Du N a 0).bind fun y1=>
 some y1.2
def Dv (N:Nat)(a:Str):Option Bool:=
 S8 N (fun b (x1:Int)=>
  if (decide (x1<(a.length:Int))) then
   if ((0:Int)<=x1/\x1<(a.length:Int))then
    if (!(((((decide (97<=(BO a x1)))&&(decide ((BO a x1)<=122)))||((decide (65<=(BO a x1)))&&(decide ((BO a x1)<=90))))||((decide (48<=(BO a x1)))&&(decide ((BO a x1)<=57))))||((BO a x1)==45))) then
     some false
    else
     b (wrap .i64 (x1+1))
   else none
  else
   some ((decide (1<=(a.length:Int)))&&(decide ((a.length:Int)<=24)))
  ) 0
def HY (N:Nat)(p_x:AE)(a:Int):Option Bool:=
 lt (fun (z1:Bool)=>
  if z1 then
   some false
  else
   if ((((F5 .and .u32 p_x.Clear (F5 .or .u32 p_x.Set.Plus p_x.Set.Minus)) != 0)||((F5 .and .u32 p_x.Take (F5 .or .u32 p_x.Set.Plus p_x.Set.Minus)) != 0))||((F5 .and .u32 p_x.Take p_x.Clear) != 0)) then
    some false
   else
    if (p_x.Take==0) then
     some (p_x.Of==0)
    else
     some ((decide (0<=p_x.Of))&&(decide (p_x.Of<a)))
  ) fun k1=>
  if (decide (p_x.From<(-1))) then
   k1 true
  else
   if (decide (a<=p_x.From)) then
    k1 true
   else
    (I5 N p_x.Set).bind fun y2=>
    if (!y2) then
     k1 true
    else
     if ((F5 .andNot .u32 p_x.Clear 16777215) != 0) then
      k1 true
     else
      k1 ((F5 .andNot .u32 p_x.Take 16777215) != 0)
def Cb (N:Nat)(a:Law):Option Int:=
 (Dv N a.Name).bind fun y1=>
 lt (fun (z1:Bool)=>
  if z1 then
   some 17
  else
   if (((((decide (4<(a.If.n:Int)))||(decide (6<(a.Out.n:Int))))||((wrap .i64 ((a.If.n:Int)+(a.Out.n:Int)))==0))||(decide (a.Mode<1)))||(decide (3<a.Mode))) then
    some 17
   else
    S8 N (fun b (x2:Int)=>
     if (decide (x2<(a.If.n:Int))) then
      if ((0:Int)<=x2/\x2<(a.If.n:Int))then
       (I5 N (a.If.g x2.toNat)).bind fun y8=>
       if (!y8) then
        some 17
       else
        b (wrap .i64 (x2+1))
      else none
     else
      S8 N (fun c (x3:Int)=>
       if (decide (x3<(a.Out.n:Int))) then
        if ((0:Int)<=x3/\x3<(a.Out.n:Int))then
         (HY N (a.Out.g x3.toNat) (a.If.n:Int)).bind fun d=>
         if (!d) then
          some 17
         else
          c (wrap .i64 (x3+1))
        else none
       else
        some 0
       ) 0
     ) 0
  ) fun k1=>
  if (!y1) then
   k1 true
  else
   (Ca N a.Left).bind fun y4=>
   if (y4 != 0) then
    k1 true
   else
    (Ca N a.Right).bind fun y5=>
    k1 (y5 != 0)
def Gr (N:Nat)(a:Sl Law):Option Int:=
 if (decide (64<(a.n:Int))) then
  some 12
 else
  S8 N (fun b (x1:Int)=>
   if (decide (x1<(a.n:Int))) then
    if ((0:Int)<=x1/\x1<(a.n:Int))then
     (Cb N (a.g x1.toNat)).bind fun y3=>
     if (y3 != 0) then
      some 17
     else
      b (wrap .i64 (x1+1))
    else none
   else
    some 0
   ) 0
def KI (N:Nat)(a:Law)(b:Sl Sound):Option Int:=
 (Cb N a).bind fun y1=>
 if (y1 != 0) then
  some y1
 else
  (Gn N b).bind fun y2=>
  some y2
def Ft (N:Nat)(a:Pat)(b:Sl Sound):Option Int:=
 (Ca N a).bind fun y1=>
 if (y1==0) then
  (Gn N b).bind fun y2=>
  some y2
 else
  some y1
def DS (rec:Pat->(Sl Sound)->Option (Sl Int))(N:Nat)(a:Pat)(c:Sl Sound):Option (Sl Int):=
 if ((0:Int)<=(wrap .i64 ((c.n:Int)+1))/\(wrap .i64 ((c.n:Int)+1))<=(wrap .i64 ((c.n:Int)+1))/\(wrap .i64 ((c.n:Int)+1))*8<=140737488355328/\(wrap .i64 ((c.n:Int)+1))<=140737488355328)then
  S5 N (fun b (x1:Sl Int) (x2:Int)=>
   if (decide (x2<=(c.n:Int))) then
    if (a.Kind==0) then
     if (((0:Int)<=x2/\((0:Int)<=x2/\x2<(x1.n:Int)))/\x2.toNat<x1.n)then
      b (x1.upd x2.toNat (shI .shl .u64 1 x2)) (wrap .i64 (x2+1))
     else none
    else
     if (a.Kind==1) then
      if (decide (x2<(c.n:Int))) then
       if ((0:Int)<=x2/\x2<(c.n:Int))then
        (KH N (c.g x2.toNat) a.Is).bind fun y3=>
        if ((y3==a.Not) != true) then
         if (((0:Int)<=(wrap .i64 (x2+1))/\((0:Int)<=x2/\x2<(x1.n:Int)))/\x2.toNat<x1.n)then
          b (x1.upd x2.toNat (shI .shl .u64 1 (wrap .i64 (x2+1)))) (wrap .i64 (x2+1))
         else none
        else
         b x1 (wrap .i64 (x2+1))
       else none
      else
       b x1 (wrap .i64 (x2+1))
     else
      if (a.Kind==2) then
       if (x2==0) then
        if (((0:Int)<=x2/\x2<(x1.n:Int))/\x2.toNat<x1.n)then
         b (x1.upd x2.toNat 1) (wrap .i64 (x2+1))
        else none
       else
        b x1 (wrap .i64 (x2+1))
      else
       if (a.Kind==6) then
        if (x2==(c.n:Int)) then
         if (((0:Int)<=x2/\((0:Int)<=x2/\x2<(x1.n:Int)))/\x2.toNat<x1.n)then
          b (x1.upd x2.toNat (shI .shl .u64 1 x2)) (wrap .i64 (x2+1))
         else none
        else
         b x1 (wrap .i64 (x2+1))
       else
        b x1 (wrap .i64 (x2+1))
   else
    if (a.Kind==3) then
     (Fr N (c.n:Int)).bind fun y4=>
     S5 N (fun i (x3:Sl Int) (x4:Int)=>
      if (decide (x4<(a.L.n:Int))) then
       if ((0:Int)<=x4/\x4<(a.L.n:Int))then
        (rec (a.L.g x4.toNat) c).bind fun y9=>
        (Ba N x3 y9).bind fun o=>
        i o (wrap .i64 (x4+1))
       else none
      else
       some x3
      ) y4 0
    else
     if (a.Kind==4) then
      S5 N (fun j (x5:Sl Int) (x6:Int)=>
       if (decide (x6<(a.L.n:Int))) then
        if ((0:Int)<=x6/\x6<(a.L.n:Int))then
         (rec (a.L.g x6.toNat) c).bind fun q=>
         (Fs N x5 q).bind fun r=>
         j r (wrap .i64 (x6+1))
        else none
       else
        some x5
       ) x1 0
     else
      if (a.Kind==5) then
       if ((0:Int)<=0/\0<(a.L.n:Int))then
        (rec (a.L.g 0) c).bind fun m=>
        (Fr N (c.n:Int)).bind fun s=>
        Ah8 N (fun d (x8:Sl Int) (x9:Sl Int) (f:Int)=>
         if (decide (a.Min<=f)) then
          (Fs N x8 x9).bind fun l=>
          lt (fun (z3:Bool)=>
           if z3 then
            some l
           else
            (Ba N x9 m).bind fun t=>
            d l t (wrap .i64 (f+1))
           ) fun k3=>
           if (f==a.Max) then
            k3 true
           else
            if (decide (a.Min<f)) then
             (Gq N x8 l).bind fun u=>
             k3 u
            else
             k3 false
         else
          (Ba N x9 m).bind fun v=>
          d x8 v (wrap .i64 (f+1))
         ) x1 s 0
       else none
      else
       some x1
   ) (Sl.rep (wrap .i64 ((c.n:Int)+1)).toNat 0:Sl Int) 0
 else none
def Cc:Nat->Pat->(Sl Sound)->Option (Sl Int)
 |0=>fun _ _=>none
 |N+1=>DS (Cc N) N
def EX (N:Nat)(d:Pat)(c:Sl Sound)(a:Int):Option ((Sl Int)×Int):=
 (Ft N d c).bind fun y1=>
 if (y1 != 0) then
  some ((Sl.nil:Sl Int),y1)
 else
  if ((decide (a<0))||(decide ((c.n:Int)<a))) then
   some ((Sl.nil:Sl Int),3)
  else
   (Cc N d c).bind fun y2=>
   S5 N (fun b (x1:Sl Int) (x2:Int)=>
    if (decide (x2<=(c.n:Int))) then
     if ((((0:Int)<=x2/\x2<(y2.n:Int))/\x2.toNat<y2.n)/\(0:Int)<=a)then
      if ((F5 .and .u64 (shI .shr .u64 (y2.g x2.toNat) a) 1)==1) then
       if ((x1.n+(Sl.of [x2]:Sl Int).n)*8<=140737488355328/\x1.n+(Sl.of [x2]:Sl Int).n<=140737488355328)then
        b (x1.push x2) (wrap .i64 (x2+1))
       else none
      else
       b x1 (wrap .i64 (x2+1))
     else none
    else
     some (x1,0)
    ) (Sl.nil:Sl Int) 0
def HZ (N:Nat)(d:Pat)(c:Sl Sound)(a:Int):Option ((Sl Int)×Int):=
 (Ft N d c).bind fun y1=>
 if (y1 != 0) then
  some ((Sl.nil:Sl Int),y1)
 else
  if ((decide (a<0))||(decide ((c.n:Int)<a))) then
   some ((Sl.nil:Sl Int),3)
  else
   (Cc N d c).bind fun y2=>
   S5 N (fun b (x1:Sl Int) (x2:Int)=>
    if (decide (x2<=(c.n:Int))) then
     if ((((0:Int)<=a/\a<(y2.n:Int))/\a.toNat<y2.n)/\(0:Int)<=x2)then
      if ((F5 .and .u64 (shI .shr .u64 (y2.g a.toNat) x2) 1)==1) then
       if ((x1.n+(Sl.of [x2]:Sl Int).n)*8<=140737488355328/\x1.n+(Sl.of [x2]:Sl Int).n<=140737488355328)then
        b (x1.push x2) (wrap .i64 (x2+1))
       else none
      else
       b x1 (wrap .i64 (x2+1))
     else none
    else
     some (x1,0)
    ) (Sl.nil:Sl Int) 0
def Bc (N:Nat)(a:Law)(c:Sl Sound)(b:Int):Option Bool:=
 if ((decide (b<0))||(decide ((c.n:Int)<(wrap .i64 (b+(a.If.n:Int)))))) then
  some false
 else
  S8 N (fun d (x1:Int)=>
   if (decide (x1<(a.If.n:Int))) then
    if (((0:Int)<=(wrap .i64 (b+x1))/\(wrap .i64 (b+x1))<(c.n:Int))/\((0:Int)<=x1/\x1<(a.If.n:Int)))then
     (T7 N (c.g (wrap .i64 (b+x1)).toNat) (a.If.g x1.toNat)).bind fun y3=>
     if (!y3) then
      some false
     else
      d (wrap .i64 (x1+1))
    else none
   else
    (EX N a.Left c b).bind fun y4=>
    (HZ N a.Right c (wrap .i64 (b+(a.If.n:Int)))).bind fun y5=>
    some ((decide (0<(y4.1.n:Int)))&&(decide (0<(y5.1.n:Int))))
   ) 0
def Cd (N:Nat)(a:Law)(b:Sl Sound):Option (Sl Sound):=
 S5 N (fun c (x1:Sl Sound) (x2:Int)=>
  if (decide (x2<(a.Out.n:Int))) then
   if ((0:Int)<=x2/\x2<(a.Out.n:Int))then
    if ((decide (0<=(a.Out.g x2.toNat).From))=true->((0:Int)<=(a.Out.g x2.toNat).From/\(a.Out.g x2.toNat).From<(b.n:Int)))then
     (T8 N (⟨(if (decide (0<=(a.Out.g x2.toNat).From)) then (b.g (a.Out.g x2.toNat).From.toNat).Plus else 0),(if (decide (0<=(a.Out.g x2.toNat).From)) then (b.g (a.Out.g x2.toNat).From.toNat).Minus else 0)⟩:Sound) (a.Out.g x2.toNat).Clear (a.Out.g x2.toNat).Set).bind fun y5=>
     if ((a.Out.g x2.toNat).Take != 0) then
      if ((0:Int)<=(a.Out.g x2.toNat).Of/\(a.Out.g x2.toNat).Of<(b.n:Int))then
       (AG N y5.1 (b.g (a.Out.g x2.toNat).Of.toNat) (a.Out.g x2.toNat).Take).bind fun y6=>
       if ((x1.n+(Sl.of [y6.1]:Sl Sound).n)*8<=140737488355328/\x1.n+(Sl.of [y6.1]:Sl Sound).n<=140737488355328)then
        c (x1.push y6.1) (wrap .i64 (x2+1))
       else none
      else none
     else
      if ((x1.n+(Sl.of [y5.1]:Sl Sound).n)*8<=140737488355328/\x1.n+(Sl.of [y5.1]:Sl Sound).n<=140737488355328)then
       c (x1.push y5.1) (wrap .i64 (x2+1))
      else none
    else none
   else none
  else
   some x1
  ) (Sl.nil:Sl Sound) 0
def W2 (N:Nat)(c:Law)(b:Sl Sound)(a:Int):Option (Sl Sound):=
 if (((0:Int)<=a/\a<=(b.n:Int))/\(((Sl.of []:Sl Sound).n+(b.take a.toNat).n)*8<=140737488355328/\(Sl.of []:Sl Sound).n+(b.take a.toNat).n<=140737488355328))then
  if ((0:Int)<=a/\a<=(wrap .i64 (a+(c.If.n:Int)))/\(wrap .i64 (a+(c.If.n:Int)))<=(b.n:Int))then
   (Cd N c (b.sub a.toNat (wrap .i64 (a+(c.If.n:Int))).toNat)).bind fun y1=>
   if ((((Sl.of []:Sl Sound).app (b.take a.toNat)).n+y1.n)*8<=140737488355328/\((Sl.of []:Sl Sound).app (b.take a.toNat)).n+y1.n<=140737488355328)then
    if (((0:Int)<=(wrap .i64 (a+(c.If.n:Int)))/\(wrap .i64 (a+(c.If.n:Int)))<=(b.n:Int))/\(((((Sl.of []:Sl Sound).app (b.take a.toNat)).app y1).n+(b.drop (wrap .i64 (a+(c.If.n:Int))).toNat).n)*8<=140737488355328/\(((Sl.of []:Sl Sound).app (b.take a.toNat)).app y1).n+(b.drop (wrap .i64 (a+(c.If.n:Int))).toNat).n<=140737488355328))then
     some ((((Sl.of []:Sl Sound).app (b.take a.toNat)).app y1).app (b.drop (wrap .i64 (a+(c.If.n:Int))).toNat))
    else none
   else none
  else none
 else none
def KJ (N:Nat)(a:Law)(b:Sl Sound):Option ((Sl Int)×(Sl (Sl Sound))×Int):=
 YT N (fun c (x2:Sl Int) (x3:Sl (Sl Sound)) (x4:Sl Sound) (x5:Int)=>
  if (decide (x5<=(b.n:Int))) then
   (Bc N a b x5).bind fun y5=>
   if (!y5) then
    lt (fun (z3:Sl Sound)=>
     c x2 x3 z3 (wrap .i64 (x5+1))
     ) fun k3=>
     if (decide (x5<(b.n:Int))) then
      if (((0:Int)<=x5/\x5<(b.n:Int))/\((x4.n+(Sl.of [b.g x5.toNat]:Sl Sound).n)*8<=140737488355328/\x4.n+(Sl.of [b.g x5.toNat]:Sl Sound).n<=140737488355328))then
       k3 (x4.push (b.g x5.toNat))
      else none
     else
      k3 x4
   else
    if ((0:Int)<=x5/\x5<=(wrap .i64 (x5+(a.If.n:Int)))/\(wrap .i64 (x5+(a.If.n:Int)))<=(b.n:Int))then
     (Cd N a (b.sub x5.toNat (wrap .i64 (x5+(a.If.n:Int))).toNat)).bind fun y6=>
     if ((x4.n+y6.n)*8<=140737488355328/\x4.n+y6.n<=140737488355328)then
      if ((x2.n+(Sl.of [x5]:Sl Int).n)*8<=140737488355328/\x2.n+(Sl.of [x5]:Sl Int).n<=140737488355328)then
       if (((((Sl.of []:Sl Sound).n+(x4.app y6).n)*8<=140737488355328/\(Sl.of []:Sl Sound).n+(x4.app y6).n<=140737488355328)/\((0:Int)<=(wrap .i64 (x5+(a.If.n:Int)))/\(wrap .i64 (x5+(a.If.n:Int)))<=(b.n:Int)))/\((((Sl.of []:Sl Sound).app (x4.app y6)).n+(b.drop (wrap .i64 (x5+(a.If.n:Int))).toNat).n)*8<=140737488355328/\((Sl.of []:Sl Sound).app (x4.app y6)).n+(b.drop (wrap .i64 (x5+(a.If.n:Int))).toNat).n<=140737488355328))then
        if (decide (32<((((Sl.of []:Sl Sound).app (x4.app y6)).app (b.drop (wrap .i64 (x5+(a.If.n:Int))).toNat)).n:Int))) then
         some ((Sl.nil:Sl Int),(Sl.nil:Sl (Sl Sound)),11)
        else
         if ((x3.n+(Sl.of [((Sl.of []:Sl Sound).app (x4.app y6)).app (b.drop (wrap .i64 (x5+(a.If.n:Int))).toNat)]:Sl (Sl Sound)).n)*24<=140737488355328/\x3.n+(Sl.of [((Sl.of []:Sl Sound).app (x4.app y6)).app (b.drop (wrap .i64 (x5+(a.If.n:Int))).toNat)]:Sl (Sl Sound)).n<=140737488355328)then
          if ((a.If.n:Int)==0) then
           if (decide ((wrap .i64 (x5+(a.If.n:Int)))<(b.n:Int))) then
            if (((0:Int)<=(wrap .i64 (x5+(a.If.n:Int)))/\(wrap .i64 (x5+(a.If.n:Int)))<(b.n:Int))/\(((x4.app y6).n+(Sl.of [b.g (wrap .i64 (x5+(a.If.n:Int))).toNat]:Sl Sound).n)*8<=140737488355328/\(x4.app y6).n+(Sl.of [b.g (wrap .i64 (x5+(a.If.n:Int))).toNat]:Sl Sound).n<=140737488355328))then
             c (x2.push x5) (x3.push (((Sl.of []:Sl Sound).app (x4.app y6)).app (b.drop (wrap .i64 (x5+(a.If.n:Int))).toNat))) ((x4.app y6).push (b.g (wrap .i64 (x5+(a.If.n:Int))).toNat)) (wrap .i64 ((wrap .i64 (x5+(a.If.n:Int)))+1))
            else none
           else
            c (x2.push x5) (x3.push (((Sl.of []:Sl Sound).app (x4.app y6)).app (b.drop (wrap .i64 (x5+(a.If.n:Int))).toNat))) (x4.app y6) (wrap .i64 ((wrap .i64 (x5+(a.If.n:Int)))+1))
          else
           c (x2.push x5) (x3.push (((Sl.of []:Sl Sound).app (x4.app y6)).app (b.drop (wrap .i64 (x5+(a.If.n:Int))).toNat))) (x4.app y6) (wrap .i64 (x5+(a.If.n:Int)))
         else none
       else none
      else none
     else none
    else none
  else
   some (x2,x3,0)
  ) (Sl.nil:Sl Int) (Sl.nil:Sl (Sl Sound)) (Sl.nil:Sl Sound) 0
def Gs (N:Nat)(b:Law)(c:Sl Sound):Option ((Sl Int)×(Sl (Sl Sound))×Int):=
 YT N (fun a (x1:Sl Sound) (x2:Sl Int) (x3:Sl (Sl Sound)) (x4:Int)=>
  if (decide ((wrap .i64 (x4+(b.If.n:Int)))<=(x1.n:Int))) then
   (Bc N b x1 x4).bind fun y5=>
   if (!y5) then
    a x1 x2 x3 (wrap .i64 (x4+1))
   else
    (W2 N b x1 x4).bind fun y6=>
    if (decide (32<(y6.n:Int))) then
     some ((Sl.nil:Sl Int),(Sl.nil:Sl (Sl Sound)),11)
    else
     if (((x2.n+(Sl.of [x4]:Sl Int).n)*8<=140737488355328/\x2.n+(Sl.of [x4]:Sl Int).n<=140737488355328)/\((x3.n+(Sl.of [y6]:Sl (Sl Sound)).n)*24<=140737488355328/\x3.n+(Sl.of [y6]:Sl (Sl Sound)).n<=140737488355328))then
      if ((b.If.n:Int)==0) then
       a y6 (x2.push x4) (x3.push y6) (wrap .i64 ((wrap .i64 (x4+(b.Out.n:Int)))+1))
      else
       a y6 (x2.push x4) (x3.push y6) (wrap .i64 (x4+(b.Out.n:Int)))
     else none
  else
   some (x2,x3,0)
  ) c (Sl.nil:Sl Int) (Sl.nil:Sl (Sl Sound)) 0
def Fu (N:Nat)(b:Law)(c:Sl Sound):Option ((Sl Int)×(Sl (Sl Sound))×Int):=
 YT N (fun a (x1:Sl Sound) (x2:Sl Int) (x3:Sl (Sl Sound)) (x4:Int)=>
  if (decide (0<=x4)) then
   (Bc N b x1 x4).bind fun y5=>
   if (!y5) then
    a x1 x2 x3 (wrap .i64 (x4-1))
   else
    (W2 N b x1 x4).bind fun y6=>
    if (decide (32<(y6.n:Int))) then
     some ((Sl.nil:Sl Int),(Sl.nil:Sl (Sl Sound)),11)
    else
     if (((x2.n+(Sl.of [x4]:Sl Int).n)*8<=140737488355328/\x2.n+(Sl.of [x4]:Sl Int).n<=140737488355328)/\((x3.n+(Sl.of [y6]:Sl (Sl Sound)).n)*24<=140737488355328/\x3.n+(Sl.of [y6]:Sl (Sl Sound)).n<=140737488355328))then
      if ((b.If.n:Int)==0) then
       a y6 (x2.push x4) (x3.push y6) (wrap .i64 ((wrap .i64 (x4-(b.If.n:Int)))-1))
      else
       a y6 (x2.push x4) (x3.push y6) (wrap .i64 (x4-(b.If.n:Int)))
     else none
  else
   some (x2,x3,0)
  ) c (Sl.nil:Sl Int) (Sl.nil:Sl (Sl Sound)) (wrap .i64 ((c.n:Int)-(b.If.n:Int)))
def Gt (N:Nat)(a:Law)(b:Sl Sound):Option ((Sl Int)×(Sl (Sl Sound))×Int):=
 (KI N a b).bind fun y1=>
 if (y1 != 0) then
  some ((Sl.nil:Sl Int),(Sl.nil:Sl (Sl Sound)),y1)
 else
  if (a.Mode==1) then
   (KJ N a b).bind fun y2=>
   some (y2.1,y2.2.1,y2.2.2)
  else
   if (a.Mode==2) then
    (Gs N a b).bind fun y3=>
    some (y3.1,y3.2.1,y3.2.2)
   else
    (Fu N a b).bind fun y4=>
    some (y4.1,y4.2.1,y4.2.2)
def KK (N:Nat)(b:Law)(a:Sl Sound):Option ((Sl Sound)×Int):=
 (Gt N b a).bind fun y1=>
 if (y1.2.2 != 0) then
  some ((Sl.nil:Sl Sound),y1.2.2)
 else
  if ((y1.2.1.n:Int)==0) then
   if (((Sl.of []:Sl Sound).n+a.n)*8<=140737488355328/\(Sl.of []:Sl Sound).n+a.n<=140737488355328)then
    some ((Sl.of []:Sl Sound).app a,0)
   else none
  else
   if ((((0:Int)<=(wrap .i64 ((y1.2.1.n:Int)-1))/\(wrap .i64 ((y1.2.1.n:Int)-1))<(y1.2.1.n:Int))/\(wrap .i64 ((y1.2.1.n:Int)-1)).toNat<y1.2.1.n)/\(((Sl.of []:Sl Sound).n+(y1.2.1.g (wrap .i64 ((y1.2.1.n:Int)-1)).toNat).n)*8<=140737488355328/\(Sl.of []:Sl Sound).n+(y1.2.1.g (wrap .i64 ((y1.2.1.n:Int)-1)).toNat).n<=140737488355328))then
    some ((Sl.of []:Sl Sound).app (y1.2.1.g (wrap .i64 ((y1.2.1.n:Int)-1)).toNat),0)
   else none
end Go.AM
namespace Go.AM
open IntKind (wrap)
open Go.Proofs
set_option maxRecDepth 10000
set_option maxHeartbeats 2000000
variable {S:X6}(hS:G5 S Tryz.prog) (hL:LL S)
include hS hL
def O0 (N:Nat)(q0:Int):Option (List (Int)):=
 S8 N (fun a (x1:Int)=>
  if (x1 != 0) then
   (F4 N x1).bind fun y3=>
   if (0:Int)<=y3 then
    Bm y3 (
     a (F5 .andNot .u64 x1 (shI .shl .u64 1 y3))
     )
   else none
  else
   some []
  ) q0
theorem Bo {N:Nat}{q0:Int}{L:List (Int)}(h:O0 N q0=some L) :Gh S Z3 [] [.reg 0 0] [.cells [.p (pI .u64 q0)]] (L.map (fun (x:Int)=>[pI .i64 x])):=by
 unfold O0 at h;refine GT hS Tryz.func210 ?_;refine HS hS trivial h (fun x1 L1=>⟨[(1,.reg 0 0),(0,.yf 1)],[(1,.yld (L1.map (fun (x:Int)=>[pI .i64 x])) true),(0,.cells [.p (pI .u64 x1)])]⟩) (ids:=[(0,0),(1,1)]) (fun _ _ _ _ _ d x1 L1 f h=>?_);refine kI hS h ?_ ?_<;>intro h
 ·refine kC hS h (BW hS hL) (fun y3 h=>?_);refine NJ hS trivial ?_;obtain⟨c10,h⟩:=H0 h;refine P8 c10 ?_;obtain⟨L4,rfl,c⟩:=NK h;replace h:=c;refine DJ hS trivial (ys:=(fun (x:Int)=>[pI .i64 x]) y3) (rest:=L4.map (fun (x:Int)=>[pI .i64 x])) ?_ ?_
  ·refine E7 hS trivial (b:=false) (fun c11=>?_) (fun c11=>?_)
   ·exact Bool.noConfusion ((rfl:false=false).symm.trans c11)
   ·exact f _ [(0,0),(1,1)] _ (F5 .andNot .u64 x1 (shI .shl .u64 1 y3)) L4 trivial h
  ·refine E7 hS trivial (b:=true) (fun c12=>?_) (fun c12=>?_)
   ·exact B0 hS trivial (a:=.tup []) (objs:=[(.cells [.p (pI .u64 (F5 .andNot .u64 x1 (shI .shl .u64 1 y3)))]),.yld [] false]) ⟨[],[(1,.yld [] false),(0,.cells [.p (pI .u64 (F5 .andNot .u64 x1 (shI .shl .u64 1 y3)))])]⟩ [0,1] (ids:=[(0,0),(1,1)]) ⟨false,rfl,rfl,_,rfl⟩
   ·exact Bool.noConfusion ((rfl:true=true).symm.trans c12)
 ·obtain rfl:=C9 h;exact B0 hS trivial (a:=.tup []) (objs:=[(.cells [.p (pI .u64 x1)]),.yld [] true]) ⟨[],[(1,.yld [] true),(0,.cells [.p (pI .u64 x1)])]⟩ [0,1] (ids:=[(0,0),(1,1)]) ⟨true,rfl,rfl,_,rfl⟩
def Y6 (N:Nat)(a:Int):Option (Int):=
 some a
theorem CQ {N:Nat}{a:Int}{y:Int}(h:Y6 N a=some y) :FunO S FU [.p (pI .u64 a)] [] (.clo Z3 [] [.reg 0 0]) ([.cells [.p (pI .u64 y)]]) []:=by unfold Y6 at h;refine A5 hS Tryz.func206 ?_;obtain rfl:=C9 h;exact B0 hS trivial ⟨[(2,.clo Z3 [] [.reg 2000 0])],[(2000,.cells [.p (pI .u64 a)])]⟩ [2000] (ids:=[(2000,2000)]) ⟨rfl,rfl,rfl⟩
def D2 (N:Nat)(p_x:Nat->Int)(c:Nat->Int):Option (Nat->Int):=
 S5 N (fun a (x3:Nat->Int) (x4:Int)=>
  if (decide (x4<33)) then
   if (((0:Int)<=x4/\x4<33)/\(0+x4.toNat*1)<33)then
    (Y6 N (p_x (0+x4.toNat*1))).bind fun y3=>
    (O0 N y3).bind fun L3=>
    Q4 L3 (fun b (x7:Int) (z3:Nat->Int)=>
     if (((((((0:Int)<=x4/\x4<33)/\(0+x4.toNat*1)<33)/\((0:Int)<=x7/\x7<33))/\(0+x7.toNat*1)<33)/\((0:Int)<=x4/\x4<33))/\(0+x4.toNat*1)<33)then
      b (Ka z3 (0+x4.toNat*1) (F5 .or .u64 (z3 (0+x4.toNat*1)) (c (0+x7.toNat*1))))
     else none
     ) (fun (z3:Nat->Int)=>
      a z3 (wrap .i64 (x4+1))
     ) x3
   else none
  else
   some x3
  ) (fun _=>0) 0
theorem P5 {N:Nat}{p_x:Nat->Int}{b:Nat->Int}{y:Nat->Int}(h:D2 N p_x b=some y) :FunO S X2 [.reg 0 0,.reg 1 0] [.arr 33 (fun i=>pI .u64 (p_x i)),.arr 33 (fun i=>pI .u64 (b i))] (.p (.agg (cA 33 (pI .u64) y))) ([.arr 33 (fun i=>pI .u64 (p_x i)),.arr 33 (fun i=>pI .u64 (b i))]) [true,true]:=by
 unfold D2 at h;refine A5 hS Tryz.func234 ?_;refine H9 hS trivial h (fun x3 x4=>⟨[(10,pN x4),(9,.reg 0 0),(5,.reg 6000 0),(4,.reg 5000 0),(3,.reg 4000 0)],[(6000,.arr 33 (fun i=>pI .u64 (x3 i))),(5000,.arr 33 (fun i=>pI .u64 ((fun _=>0) i))),(4000,.cells [.reg 1 0]),(1,.arr 33 (fun i=>pI .u64 (b i))),(0,.arr 33 (fun i=>pI .u64 (p_x i)))]⟩) (ids:=[(0,0),(1,1),(4000,4000),(5000,5000),(6000,6000)]) (fun _ _ _ _ _ d x3 x4 f h=>?_) (hle:=klR [(1,.fn 33 33 (fun i=>[(fun i=>(List.replicate 33 (pI .u64 0)).getD i default) i]) (fun i=>[pI .u64 ((fun _=>0) i)])),(2,.fn 33 33 (fun i=>[(fun i=>(List.replicate 33 (pI .u64 0)).getD i default) i]) (fun i=>[pI .u64 ((fun _=>0) i)]))] (al1 ⟨rfl,AD (z:=pI .u64 0) rfl⟩ (al1 ⟨rfl,AD (z:=pI .u64 0) rfl⟩ al0)));refine kI hS h ?_ ?_<;>intro h
 ·refine O5 hS trivial [(2,.l [0]),(3,.l [0]),(4,.a [7000]),(5,.a [7000])] ?_;obtain⟨c12,h⟩:=H0 h;refine P8 c12 ?_;refine K9 hS trivial 16 7000 [pI .i64 x4] ?_;refine kC hS h (CQ hS hL) (fun y3 h=>?_);obtain⟨L3,e6,h⟩:=C6 h;refine Gm hS trivial [18000] [10,9,6,5,4,3] 905 (fun z3=>⟨[(10,pN x4),(9,.reg 0 0),(6,.p (.ptr [pI .i64 x4])),(5,.reg 6000 0),(4,.reg 5000 0),(3,.reg 4000 0)],[(6000,.arr 33 (fun i=>pI .u64 (z3 i))),(5000,.arr 33 (fun i=>pI .u64 ((fun _=>0) i))),(4000,.cells [.reg 1 0]),(1,.arr 33 (fun i=>pI .u64 (b i))),(0,.arr 33 (fun i=>pI .u64 (p_x i)))]⟩) (idl:=[(0,0),(1,1),(4000,4000),(5000,5000),(6000,6000)]) h (Bo hS hL e6) (fun _=>by kernel_rfl) (fun _=>by kernel_rfl) (fun _=>by kernel_rfl) (fun _=>by kernel_rfl) (fun x7 _ g z3 j h=>?_) (fun z3 h=>?_)
  ·refine JZ hS trivial ?_;refine O5 hS trivial [(0,.n),(1,.l [6000]),(2,.l [6000]),(3,.l [4000]),(6,.l [1]),(7,.l [1]),(9,.l [6000]),(10,.a [6000])] ?_;obtain⟨c15,h⟩:=H0 h;refine P8 c15 ?_;exact j _ [(0,0),(1,1),(905,905),(4000,4000),(5000,5000),(6000,6000)] _ (Ka z3 (0+x4.toNat*1) (F5 .or .u64 (z3 (0+x4.toNat*1)) (b (0+x7.toNat*1)))) trivial h (hle:=klR [(0,.fn 33 33 (fun i=>[(fun i=>if i=(0+x4.toNat*1)then (pI .u64 (F5 .or .u64 (z3 (0+x4.toNat*1)) (b (0+x7.toNat*1))))else (fun i=>pI .u64 (z3 i)) i) i]) (fun i=>[pI .u64 (Ka z3 (0+x4.toNat*1) (F5 .or .u64 (z3 (0+x4.toNat*1)) (b (0+x7.toNat*1))) i)]))] (al1 ⟨rfl,Aj2 (c:=pI .u64) (v:=z3) (x:=F5 .or .u64 (z3 (0+x4.toNat*1)) (b (0+x7.toNat*1))) (fun _ _=>rfl) rfl⟩ al0))
  ·exact f _ [(0,0),(1,1),(4000,4000),(5000,5000),(6000,6000)] _ z3 (wrap .i64 (x4+1)) trivial h
 ·obtain rfl:=C9 h;exact B0 hS (And.intro rfl (E9 _ _):(0:Nat)=0/\(Bj 33 (fun i=>pI .u64 (x3 i))).length=33) ⟨[(4,.reg 5000 0)],[(5000,.arr 33 (fun i=>pI .u64 (x3 i))),(1,.arr 33 (fun i=>pI .u64 (b i))),(0,.arr 33 (fun i=>pI .u64 (p_x i)))]⟩ [0,1] (ids:=[(0,0),(1,1),(5000,5000)]) ⟨rfl,rfl,rfl⟩ (hle:=klR [(0,.fn 33 33 (fun i=>[(fun i=>(cA 33 (pI .u64) x3).getD i default) i]) (fun i=>[pI .u64 (x3 i)]))] (al1 ⟨rfl,D6 33 (fun i=>pI .u64 (x3 i))⟩ al0))
def H2 (N:Nat)(p_x:Nat->Int):Option (Nat->Int):=
 S5 N (fun a (x3:Nat->Int) (x4:Int)=>
  if (decide (x4<33)) then
   if (((0:Int)<=x4/\x4<33)/\(0+x4.toNat*1)<33)then
    (Y6 N (p_x (0+x4.toNat*1))).bind fun y3=>
    (O0 N y3).bind fun L3=>
    Q4 L3 (fun b (x7:Int) (z3:Nat->Int)=>
     if (((((((0:Int)<=x4/\x4<33)/\(0+x4.toNat*1)<33)/\((0:Int)<=x7/\x7<33))/\(0+x7.toNat*1)<33)/\((0:Int)<=x4/\x4<33))/\(0+x4.toNat*1)<33)then
      b (Ka z3 (0+x4.toNat*1) (F5 .or .u64 (z3 (0+x4.toNat*1)) (p_x (0+x7.toNat*1))))
     else none
     ) (fun (z3:Nat->Int)=>
      a z3 (wrap .i64 (x4+1))
     ) x3
   else none
  else
   some x3
  ) (fun _=>0) 0
theorem Bd {N:Nat}{p_x:Nat->Int}{y:Nat->Int}(h:H2 N p_x=some y) :FunO S X2 [.reg 0 0,.reg 0 0] [.arr 33 (fun i=>pI .u64 (p_x i))] (.p (.agg (cA 33 (pI .u64) y))) ([.arr 33 (fun i=>pI .u64 (p_x i))]) [true]:=by
 unfold H2 at h;refine A5 hS Tryz.func234 ?_;refine H9 hS trivial h (fun x3 x4=>⟨[(10,pN x4),(9,.reg 0 0),(5,.reg 6000 0),(4,.reg 5000 0),(3,.reg 4000 0)],[(6000,.arr 33 (fun i=>pI .u64 (x3 i))),(5000,.arr 33 (fun i=>pI .u64 ((fun _=>0) i))),(4000,.cells [.reg 0 0]),(0,.arr 33 (fun i=>pI .u64 (p_x i)))]⟩) (ids:=[(0,0),(4000,4000),(5000,5000),(6000,6000)]) (fun _ _ _ _ _ b x3 x4 d h=>?_) (hle:=klR [(1,.fn 33 33 (fun i=>[(fun i=>(List.replicate 33 (pI .u64 0)).getD i default) i]) (fun i=>[pI .u64 ((fun _=>0) i)])),(2,.fn 33 33 (fun i=>[(fun i=>(List.replicate 33 (pI .u64 0)).getD i default) i]) (fun i=>[pI .u64 ((fun _=>0) i)]))] (al1 ⟨rfl,AD (z:=pI .u64 0) rfl⟩ (al1 ⟨rfl,AD (z:=pI .u64 0) rfl⟩ al0)));refine kI hS h ?_ ?_<;>intro h
 ·refine O5 hS trivial [(2,.l [0]),(3,.l [0]),(4,.a [7000]),(5,.a [7000])] ?_;obtain⟨c12,h⟩:=H0 h;refine P8 c12 ?_;refine K9 hS trivial 16 7000 [pI .i64 x4] ?_;refine kC hS h (CQ hS hL) (fun y3 h=>?_);obtain⟨L3,e6,h⟩:=C6 h;refine Gm hS trivial [18000] [10,9,6,5,4,3] 905 (fun z3=>⟨[(10,pN x4),(9,.reg 0 0),(6,.p (.ptr [pI .i64 x4])),(5,.reg 6000 0),(4,.reg 5000 0),(3,.reg 4000 0)],[(6000,.arr 33 (fun i=>pI .u64 (z3 i))),(5000,.arr 33 (fun i=>pI .u64 ((fun _=>0) i))),(4000,.cells [.reg 0 0]),(0,.arr 33 (fun i=>pI .u64 (p_x i)))]⟩) (idl:=[(0,0),(4000,4000),(5000,5000),(6000,6000)]) h (Bo hS hL e6) (fun _=>by kernel_rfl) (fun _=>by kernel_rfl) (fun _=>by kernel_rfl) (fun _=>by kernel_rfl) (fun x7 _ f z3 g h=>?_) (fun z3 h=>?_)
  ·refine JZ hS trivial ?_;refine O5 hS trivial [(0,.n),(1,.l [6000]),(2,.l [6000]),(3,.l [4000]),(6,.l [0]),(7,.l [0]),(9,.l [6000]),(10,.a [6000])] ?_;obtain⟨c15,h⟩:=H0 h;refine P8 c15 ?_;exact g _ [(0,0),(905,905),(4000,4000),(5000,5000),(6000,6000)] _ (Ka z3 (0+x4.toNat*1) (F5 .or .u64 (z3 (0+x4.toNat*1)) (p_x (0+x7.toNat*1)))) trivial h (hle:=klR [(0,.fn 33 33 (fun i=>[(fun i=>if i=(0+x4.toNat*1)then (pI .u64 (F5 .or .u64 (z3 (0+x4.toNat*1)) (p_x (0+x7.toNat*1))))else (fun i=>pI .u64 (z3 i)) i) i]) (fun i=>[pI .u64 (Ka z3 (0+x4.toNat*1) (F5 .or .u64 (z3 (0+x4.toNat*1)) (p_x (0+x7.toNat*1))) i)]))] (al1 ⟨rfl,Aj2 (c:=pI .u64) (v:=z3) (x:=F5 .or .u64 (z3 (0+x4.toNat*1)) (p_x (0+x7.toNat*1))) (fun _ _=>rfl) rfl⟩ al0))
  ·exact d _ [(0,0),(4000,4000),(5000,5000),(6000,6000)] _ z3 (wrap .i64 (x4+1)) trivial h
 ·obtain rfl:=C9 h;exact B0 hS (And.intro rfl (E9 _ _):(0:Nat)=0/\(Bj 33 (fun i=>pI .u64 (x3 i))).length=33) ⟨[(4,.reg 5000 0)],[(5000,.arr 33 (fun i=>pI .u64 (x3 i))),(0,.arr 33 (fun i=>pI .u64 (p_x i)))]⟩ [0] (ids:=[(0,0),(5000,5000)]) ⟨rfl,rfl,rfl⟩ (hle:=klR [(0,.fn 33 33 (fun i=>[(fun i=>(cA 33 (pI .u64) x3).getD i default) i]) (fun i=>[pI .u64 (x3 i)]))] (al1 ⟨rfl,D6 33 (fun i=>pI .u64 (x3 i))⟩ al0))
def E8 (N:Nat)(p_x:Nat->Int)(b:Int)(c:Int):Option (Nat->Int):=
 (N5 N c).bind fun y1=>
 Ah8 N (fun a (x1:Int) (x2:Nat->Int) (x3:Nat->Int)=>
  if (decide (0<x1)) then
   if ((F5 .and .i64 x1 1)==1) then
    (D2 N x3 x2).bind fun y8=>
    (H2 N x2).bind fun y9=>
    a (shI .shr .i64 x1 1) y9 y8
   else
    (H2 N x2).bind fun d=>
    a (shI .shr .i64 x1 1) d x3
  else
   some x3
  ) b p_x y1
theorem U1 {N:Nat}{p_x:Nat->Int}{b:Int}{c:Int}{y:Nat->Int}(h:E8 N p_x b c=some y) :FunO S AZ [.p (.agg (cA 33 (pI .u64) p_x)),pN b,pN c] [] (.p (.agg (cA 33 (pI .u64) y))) ([]) []:=by
 unfold E8 at h;refine A5 hS Tryz.func227 ?_;refine kC hS h (BZ hS hL) (fun y1 h=>?_);refine Ac5 hS (And.intro rfl (E9 _ _):(0:Nat)=0/\(Bj 33 (fun i=>pI .u64 (y1 i))).length=33) h (fun x1 x2 x3=>⟨[(7,.reg 8000 0),(6,.reg 7000 0),(3,.reg 4000 0),(1,pN x1)],[(8000,.arr 33 (fun i=>pI .u64 (x3 i))),(7000,.arr 33 (fun i=>pI .u64 ((fun _=>0) i))),(4000,.arr 33 (fun i=>pI .u64 (x2 i)))]⟩) (ids:=[(4000,4000),(7000,7000),(8000,8000)]) (fun _ _ _ _ _ f x1 x2 x3 d h=>?_) (hle:=klR [(1,.fn 33 33 (fun i=>[(fun i=>(cA 33 (pI .u64) y1).getD i default) i]) (fun i=>[pI .u64 (y1 i)])),(2,.fn 33 33 (fun i=>[(fun i=>(List.replicate 33 (pI .u64 0)).getD i default) i]) (fun i=>[pI .u64 ((fun _=>0) i)])),(3,.fn 33 33 (fun i=>[(fun i=>(cA 33 (pI .u64) p_x).getD i default) i]) (fun i=>[pI .u64 (p_x i)]))] (al1 ⟨rfl,D6 33 (fun i=>pI .u64 (y1 i))⟩ (al1 ⟨rfl,AD (z:=pI .u64 0) rfl⟩ (al1 ⟨rfl,D6 33 (fun i=>pI .u64 (p_x i))⟩ al0))));refine kI hS h ?_ ?_<;>intro h
 ·refine kI hS h ?_ ?_<;>intro h
  ·obtain⟨y8,e8,h⟩:=C6 h;refine C7 hS [8000,4000] trivial (P5 hS hL e8) ?_;obtain⟨y9,e9,h⟩:=C6 h;refine C7 hS [4000] (And.intro rfl (E9 _ _):(0:Nat)=0/\(Bj 33 (fun i=>pI .u64 (y8 i))).length=33) (Bd hS hL e9) ?_;exact d _ [(4000,4000),(7000,7000),(8000,8000)] _ (shI .shr .i64 x1 1) y9 y8 (And.intro (And.intro rfl (E9 _ _):(0:Nat)=0/\(Bj 33 (fun i=>pI .u64 (y9 i))).length=33) (by decide:(0:Int)<=1)) h (hle:=klR [(1,.fn 33 33 (fun i=>[(fun i=>(cA 33 (pI .u64) y8).getD i default) i]) (fun i=>[pI .u64 (y8 i)])),(3,.fn 33 33 (fun i=>[(fun i=>(cA 33 (pI .u64) y9).getD i default) i]) (fun i=>[pI .u64 (y9 i)]))] (al1 ⟨rfl,D6 33 (fun i=>pI .u64 (y8 i))⟩ (al1 ⟨rfl,D6 33 (fun i=>pI .u64 (y9 i))⟩ al0)))
  ·obtain⟨a,e10,h⟩:=C6 h;refine C7 hS [4000] trivial (Bd hS hL e10) ?_;exact d _ [(4000,4000),(7000,7000),(8000,8000)] _ (shI .shr .i64 x1 1) a x3 (And.intro (And.intro rfl (E9 _ _):(0:Nat)=0/\(Bj 33 (fun i=>pI .u64 (a i))).length=33) (by decide:(0:Int)<=1)) h (hle:=klR [(3,.fn 33 33 (fun i=>[(fun i=>(cA 33 (pI .u64) a).getD i default) i]) (fun i=>[pI .u64 (a i)]))] (al1 ⟨rfl,D6 33 (fun i=>pI .u64 (a i))⟩ al0))
 ·obtain rfl:=C9 h;exact B0 hS (And.intro rfl (E9 _ _):(0:Nat)=0/\(Bj 33 (fun i=>pI .u64 (x3 i))).length=33) ⟨[(6,.reg 7000 0)],[(7000,.arr 33 (fun i=>pI .u64 (x3 i)))]⟩ [] (ids:=[(7000,7000)]) ⟨rfl,rfl,rfl⟩ (hle:=klR [(0,.fn 33 33 (fun i=>[(fun i=>(cA 33 (pI .u64) x3).getD i default) i]) (fun i=>[pI .u64 (x3 i)]))] (al1 ⟨rfl,D6 33 (fun i=>pI .u64 (x3 i))⟩ al0))
end Go.AM
namespace Go.AM
open IntKind (wrap)
open Go.Proofs
set_option maxRecDepth 10000
set_option maxHeartbeats 2000000
variable {S:X6}(hS:G5 S Tryz.prog) (hL:LL S)
include hS hL
def U2 (N:Nat)(p_x:WN)(b:Sl Sound):Option (Nat->Int):=
 S5 N (fun a (x1:Nat->Int) (x2:Int)=>
  if (decide (x2<(b.n:Int))) then
   if ((0:Int)<=x2/\x2<(b.n:Int))then
    if ((((F5 .or .u32 (F5 .andNot .u32 p_x.is.Plus (b.g x2.toNat).Plus) (F5 .andNot .u32 p_x.is.Minus (b.g x2.toNat).Minus))==0)==p_x.not) != true) then
     if (((0:Int)<=(wrap .i64 (x2+1))/\((0:Int)<=x2/\x2<33))/\(0+x2.toNat*1)<33)then
      a (Ka x1 (0+x2.toNat*1) (shI .shl .u64 1 (wrap .i64 (x2+1)))) (wrap .i64 (x2+1))
     else none
    else
     a x1 (wrap .i64 (x2+1))
   else none
  else
   some x1
  ) (fun _=>0) 0
theorem KL {N:Nat}{p_x:WN}{a:Sl Sound}{y:Nat->Int}(h:U2 N p_x a=some y) :FunO S BV [.p (.agg (TJ p_x)),.p (vSl 2 A0 a)] [] (.p (.agg (cA 33 (pI .u64) y))) ([]) []:=by
 unfold U2 at h;refine A5 hS Tryz.func228 ?_;refine H9 hS trivial h (fun x1 x2=>⟨[(9,pN x2),(8,pN (a.n:Int)),(7,.p (vSl 2 A0 a)),(4,.reg 5000 0),(2,.reg 3000 0)],[(5000,.arr 33 (fun i=>pI .u64 (x1 i))),(3000,.cells ((TJ p_x).map .p))]⟩) (ids:=[(3000,3000),(5000,5000)]) (fun _ _ _ _ _ f x1 x2 d h=>?_) (hle:=klR [(3,.fn 33 33 (fun i=>[(fun i=>(List.replicate 33 (pI .u64 0)).getD i default) i]) (fun i=>[pI .u64 ((fun _=>0) i)]))] (al1 ⟨rfl,AD (z:=pI .u64 0) rfl⟩ al0));refine kI hS h ?_ ?_<;>intro h
 ·obtain⟨c8,h⟩:=H0 h;refine E7 hS (And.intro c8 (by decide:(2:Nat)<=2)) (b:=(((F5 .or .u32 (F5 .andNot .u32 p_x.is.Plus (a.g x2.toNat).Plus) (F5 .andNot .u32 p_x.is.Minus (a.g x2.toNat).Minus))==0)==p_x.not) != true) (fun c9=>?_) (fun c9=>?_)
  ·replace h:=itT c9 h;obtain⟨c10,h⟩:=H0 h;exact d _ [(3000,3000),(5000,5000)] _ (Ka x1 (0+x2.toNat*1) (shI .shl .u64 1 (wrap .i64 (x2+1)))) (wrap .i64 (x2+1)) c10 h (hle:=klR [(3,.fn 33 33 (fun i=>[(fun i=>if i=(0+x2.toNat*1)then (pI .u64 (shI .shl .u64 1 (wrap .i64 (x2+1))))else (fun i=>pI .u64 (x1 i)) i) i]) (fun i=>[pI .u64 (Ka x1 (0+x2.toNat*1) (shI .shl .u64 1 (wrap .i64 (x2+1))) i)]))] (al1 ⟨rfl,Aj2 (c:=pI .u64) (v:=x1) (x:=shI .shl .u64 1 (wrap .i64 (x2+1))) (fun _ _=>rfl) rfl⟩ al0))
  ·replace h:=itF c9 h;exact d _ [(3000,3000),(5000,5000)] _ x1 (wrap .i64 (x2+1)) trivial h
 ·obtain rfl:=C9 h;exact B0 hS (And.intro rfl (E9 _ _):(0:Nat)=0/\(Bj 33 (fun i=>pI .u64 (x1 i))).length=33) ⟨[(4,.reg 5000 0)],[(5000,.arr 33 (fun i=>pI .u64 (x1 i)))]⟩ [] (ids:=[(5000,5000)]) ⟨rfl,rfl,rfl⟩ (hle:=klR [(0,.fn 33 33 (fun i=>[(fun i=>(cA 33 (pI .u64) x1).getD i default) i]) (fun i=>[pI .u64 (x1 i)]))] (al1 ⟨rfl,D6 33 (fun i=>pI .u64 (x1 i))⟩ al0))
def Y7 (N:Nat)(p_x:Ak0)(a:Sl Sound):Option (Nat->Int):=
 if p_x.end_ then
  if (((0:Int)<=(a.n:Int)/\((0:Int)<=(a.n:Int)/\(a.n:Int)<33))/\(0+(a.n:Int).toNat*1)<33)then
   some (Ka (fun _=>0) (0+(a.n:Int).toNat*1) (shI .shl .u64 1 (a.n:Int)))
  else none
 else
  if (((0:Int)<=0/\(0:Int)<33)/\(0+0*1)<33)then
   some (Ka (fun _=>0) (0+0*1) (shI .shl .u64 1 0))
  else none
theorem LQ {N:Nat}{p_x:Ak0}{a:Sl Sound}{y:Nat->Int}(h:Y7 N p_x a=some y) :FunO S CO [.p (.agg (Ak1 p_x)),.p (vSl 2 A0 a)] [] (.p (.agg (cA 33 (pI .u64) y))) ([]) []:=by
 unfold Y7 at h;refine A5 hS Tryz.func229 ?_;refine kI hS h ?_ ?_<;>intro h
 ·obtain⟨c2,h⟩:=H0 h;obtain rfl:=C9 h;exact B0 hS (And.intro (And.intro (And.intro c2.1.1 c2.1.2) c2.2) (And.intro rfl (E9 _ _):(0:Nat)=0/\(Bj 33 (fun i=>if i=(0+(a.n:Int).toNat*1)then (pI .u64 (shI .shl .u64 1 (a.n:Int)))else (fun i=>(List.replicate 33 (pI .u64 0)).getD i default) i)).length=33)) ⟨[(4,.reg 5000 0)],[(5000,.arr 33 (fun i=>pI .u64 (Ka (fun _=>0) (0+(a.n:Int).toNat*1) (shI .shl .u64 1 (a.n:Int)) i)))]⟩ [] (ids:=[(5000,5000)]) ⟨rfl,rfl,rfl⟩ (hle:=klR [(0,.fn 33 33 (fun i=>[(fun i=>(Bj 33 (fun i=>if i=(0+(a.n:Int).toNat*1)then (pI .u64 (shI .shl .u64 1 (a.n:Int)))else (fun i=>(List.replicate 33 (pI .u64 0)).getD i default) i)).getD i default) i]) (fun i=>[pI .u64 (Ka (fun _=>0) (0+(a.n:Int).toNat*1) (shI .shl .u64 1 (a.n:Int)) i)]))] (al1 ⟨rfl,fun i b=>(D6 33 (fun i=>if i=(0+(a.n:Int).toNat*1)then (pI .u64 (shI .shl .u64 1 (a.n:Int)))else (fun i=>(List.replicate 33 (pI .u64 0)).getD i default) i) i b).trans (Aj2 (c:=pI .u64) (v:=fun _=>0) (x:=shI .shl .u64 1 (a.n:Int)) (AD (z:=pI .u64 0) rfl) rfl i b)⟩ al0))
 ·obtain⟨c3,h⟩:=H0 h;obtain rfl:=C9 h;exact B0 hS (And.intro (And.intro (And.intro (by decide:(0:Int)<=0) c3.1) c3.2) (And.intro rfl (E9 _ _):(0:Nat)=0/\(Bj 33 (fun i=>if i=(0+0*1)then (pI .u64 (shI .shl .u64 1 0))else (fun i=>(List.replicate 33 (pI .u64 0)).getD i default) i)).length=33)) ⟨[(4,.reg 5000 0)],[(5000,.arr 33 (fun i=>pI .u64 (Ka (fun _=>0) (0+0*1) (shI .shl .u64 1 0) i)))]⟩ [] (ids:=[(5000,5000)]) ⟨rfl,rfl,rfl⟩ (hle:=klR [(0,.fn 33 33 (fun i=>[(fun i=>(Bj 33 (fun i=>if i=(0+0*1)then (pI .u64 (shI .shl .u64 1 0))else (fun i=>(List.replicate 33 (pI .u64 0)).getD i default) i)).getD i default) i]) (fun i=>[pI .u64 (Ka (fun _=>0) (0+0*1) (shI .shl .u64 1 0) i)]))] (al1 ⟨rfl,fun i b=>(D6 33 (fun i=>if i=(0+0*1)then (pI .u64 (shI .shl .u64 1 0))else (fun i=>(List.replicate 33 (pI .u64 0)).getD i default) i) i b).trans (Aj2 (c:=pI .u64) (v:=fun _=>0) (x:=shI .shl .u64 1 0) (AD (z:=pI .u64 0) rfl) rfl i b)⟩ al0))
def Ar (rec:Part->(Sl Sound)->Option (Nat->Int))(N:Nat)(p_x:Pseq)(b:Sl Sound):Option (Nat->Int):=
 (N5 N (b.n:Int)).bind fun y1=>
 S5 N (fun a (x1:Nat->Int) (x2:Int)=>
  if (decide (x2<(p_x.l.n:Int))) then
   if ((0:Int)<=x2/\x2<(p_x.l.n:Int))then
    (rec (p_x.l.g x2.toNat) b).bind fun y6=>
    (D2 N x1 y6).bind fun y7=>
    a y7 (wrap .i64 (x2+1))
   else none
  else
   some x1
  ) y1 0
theorem Oj {N:Nat}{rec:Part->(Sl Sound)->Option ((Nat->Int))}(b:∀{x:Part}{b0:(Sl Sound)}{y:(Nat->Int)},rec x b0=some y->At8 S Tryz.prog (EK x) "ablaut/pats.in" [(.p (vSl 2 A0 b0))] (.p (.agg (cA 33 (pI .u64) y)))){p_x:Pseq}{a:(Sl Sound)}{y:(Nat->Int)}(h:Ar rec N p_x a=some y) :FunO S DQ [(.p (.agg (Au8 p_x))),(.p (vSl 2 A0 a))] [] (.p (.agg (cA 33 (pI .u64) y))) ([]) []:=by
 unfold Ar at h;refine A5 hS Tryz.func235 ?_;refine kC hS h (BZ hS hL) (fun y1 h=>?_);refine H9 hS (And.intro rfl (E9 _ _):(0:Nat)=0/\(Bj 33 (fun i=>pI .u64 (y1 i))).length=33) h (fun x1 x2=>⟨[(15,(pN x2)),(14,(pN (p_x.l.n:Int))),(13,(.p (vSl 1 Dq p_x.l))),(5,(.reg 6000 0)),(4,(.reg 5000 0)),(1,(.p (vSl 2 A0 a)))],[(6000,(.arr 33 (fun i=>pI .u64 (x1 i)))),(5000,(.arr 33 (fun i=>pI .u64 ((fun _=>0) i))))]⟩) (ids:=[(5000,5000),(6000,6000)]) (fun _ _ _ _ _ c x1 x2 d h=>?_) (hle:=(klR [(4,.fn 33 33 (fun i=>[(fun i=>(cA 33 (pI .u64) y1).getD i default) i]) (fun i=>[pI .u64 (y1 i)])),(5,.fn 33 33 (fun i=>[(fun i=>(List.replicate 33 (pI .u64 0)).getD i default) i]) (fun i=>[pI .u64 ((fun _=>0) i)]))] (al1 ⟨rfl,(D6 33 (fun i=>pI .u64 (y1 i)))⟩ (al1 ⟨rfl,(AD (z:=pI .u64 0) rfl)⟩ al0))));refine kI hS h ?_ ?_<;>intro h
 ·obtain⟨c6,h⟩:=H0 h;obtain⟨y6,e6,h⟩:=C6 h;refine Jo hS c6 (b e6) ?_;refine Cw hS (And.intro rfl (E9 _ _):(0:Nat)=0/\(Bj 33 (fun i=>pI .u64 (y6 i))).length=33) ⟨[(15,(pN x2)),(14,(pN (p_x.l.n:Int))),(13,(.p (vSl 1 Dq p_x.l))),(8,(.reg 9000 0)),(5,(.reg 6000 0)),(4,(.reg 5000 0)),(1,(.p (vSl 2 A0 a)))],[(9000,(.arr 33 (fun i=>pI .u64 (y6 i)))),(6000,(.arr 33 (fun i=>pI .u64 (x1 i)))),(5000,(.arr 33 (fun i=>pI .u64 ((fun _=>0) i))))]⟩ (ids:=[(5000,5000),(6000,6000),(9000,9000)]) ?_ (hle:=(klR [(4,.fn 33 33 (fun i=>[(fun i=>(cA 33 (pI .u64) y6).getD i default) i]) (fun i=>[pI .u64 (y6 i)]))] (al1 ⟨rfl,(D6 33 (fun i=>pI .u64 (y6 i)))⟩ al0)));obtain⟨y7,e7,h⟩:=C6 h;refine C7 hS [6000,9000] trivial (P5 hS hL e7) ?_;exact d _ [(5000,5000),(6000,6000)] _ y7 (wrap .i64 (x2+1)) (And.intro rfl (E9 _ _):(0:Nat)=0/\(Bj 33 (fun i=>pI .u64 (y7 i))).length=33) h (hle:=klR [(4,.fn 33 33 (fun i=>[(fun i=>(cA 33 (pI .u64) y7).getD i default) i]) (fun i=>[pI .u64 (y7 i)]))] (al1 ⟨rfl,(D6 33 (fun i=>pI .u64 (y7 i)))⟩ al0))
 ·obtain rfl:=C9 h;exact B0 hS (And.intro rfl (E9 _ _):(0:Nat)=0/\(Bj 33 (fun i=>pI .u64 (x1 i))).length=33) ⟨[(4,(.reg 5000 0))],[(5000,(.arr 33 (fun i=>pI .u64 (x1 i))))]⟩ [] (ids:=[(5000,5000)]) ⟨rfl,rfl,rfl⟩ (hle:=(klR [(0,.fn 33 33 (fun i=>[(fun i=>(cA 33 (pI .u64) x1).getD i default) i]) (fun i=>[pI .u64 (x1 i)]))] (al1 ⟨rfl,(D6 33 (fun i=>pI .u64 (x1 i)))⟩ al0)))
def At (rec:Part->(Sl Sound)->Option (Nat->Int))(N:Nat)(p_x:Palt)(b:Sl Sound):Option (Nat->Int):=
 S5 N (fun a (x1:Nat->Int) (x2:Int)=>
  if (decide (x2<(p_x.l.n:Int))) then
   if ((0:Int)<=x2/\x2<(p_x.l.n:Int))then
    (rec (p_x.l.g x2.toNat) b).bind fun y5=>
    (J7 N x1 y5).bind fun y6=>
    a y6 (wrap .i64 (x2+1))
   else none
  else
   some x1
  ) (fun _=>0) 0
theorem Ok {N:Nat}{rec:Part->(Sl Sound)->Option ((Nat->Int))}(b:∀{x:Part}{b0:(Sl Sound)}{y:(Nat->Int)},rec x b0=some y->At8 S Tryz.prog (EK x) "ablaut/pats.in" [(.p (vSl 2 A0 b0))] (.p (.agg (cA 33 (pI .u64) y)))){p_x:Palt}{a:(Sl Sound)}{y:(Nat->Int)}(h:At rec N p_x a=some y) :FunO S DO [(.p (.agg (Au5 p_x))),(.p (vSl 2 A0 a))] [] (.p (.agg (cA 33 (pI .u64) y))) ([]) []:=by
 unfold At at h;refine A5 hS Tryz.func230 ?_;refine H9 hS trivial h (fun x1 x2=>⟨[(11,(pN x2)),(10,(pN (p_x.l.n:Int))),(9,(.p (vSl 1 Dq p_x.l))),(4,(.reg 5000 0)),(1,(.p (vSl 2 A0 a)))],[(5000,(.arr 33 (fun i=>pI .u64 (x1 i))))]⟩) (ids:=[(5000,5000)]) (fun _ _ _ _ _ c x1 x2 d h=>?_) (hle:=(klR [(4,.fn 33 33 (fun i=>[(fun i=>(List.replicate 33 (pI .u64 0)).getD i default) i]) (fun i=>[pI .u64 ((fun _=>0) i)]))] (al1 ⟨rfl,(AD (z:=pI .u64 0) rfl)⟩ al0)));refine kI hS h ?_ ?_<;>intro h
 ·obtain⟨c6,h⟩:=H0 h;obtain⟨y5,e5,h⟩:=C6 h;refine Jo hS c6 (b e5) ?_;refine Cw hS (And.intro rfl (E9 _ _):(0:Nat)=0/\(Bj 33 (fun i=>pI .u64 (y5 i))).length=33) ⟨[(11,(pN x2)),(10,(pN (p_x.l.n:Int))),(9,(.p (vSl 1 Dq p_x.l))),(7,(.reg 8000 0)),(4,(.reg 5000 0)),(1,(.p (vSl 2 A0 a)))],[(8000,(.arr 33 (fun i=>pI .u64 (y5 i)))),(5000,(.arr 33 (fun i=>pI .u64 (x1 i))))]⟩ (ids:=[(5000,5000),(8000,8000)]) ?_ (hle:=(klR [(4,.fn 33 33 (fun i=>[(fun i=>(cA 33 (pI .u64) y5).getD i default) i]) (fun i=>[pI .u64 (y5 i)]))] (al1 ⟨rfl,(D6 33 (fun i=>pI .u64 (y5 i)))⟩ al0)));obtain⟨y6,e6,h⟩:=C6 h;refine C7 hS [5000,8000] trivial (CD hS hL e6) ?_;exact d _ [(5000,5000)] _ y6 (wrap .i64 (x2+1)) trivial h
 ·obtain rfl:=C9 h;exact B0 hS (And.intro rfl (E9 _ _):(0:Nat)=0/\(Bj 33 (fun i=>pI .u64 (x1 i))).length=33) ⟨[(4,(.reg 5000 0))],[(5000,(.arr 33 (fun i=>pI .u64 (x1 i))))]⟩ [] (ids:=[(5000,5000)]) ⟨rfl,rfl,rfl⟩ (hle:=(klR [(0,.fn 33 33 (fun i=>[(fun i=>(cA 33 (pI .u64) x1).getD i default) i]) (fun i=>[pI .u64 (x1 i)]))] (al1 ⟨rfl,(D6 33 (fun i=>pI .u64 (x1 i)))⟩ al0)))
def Au (rec:Part->(Sl Sound)->Option (Nat->Int))(N:Nat)(p_x:Au6)(a:Sl Sound):Option (Nat->Int):=
 (rec p_x.of a).bind fun y1=>
 (E8 N y1 p_x.min (a.n:Int)).bind fun y2=>
 (N5 N (a.n:Int)).bind fun y3=>
 (J7 N y1 y3).bind fun y4=>
 if (decide (p_x.max<0)) then
  (E8 N y4 (a.n:Int) (a.n:Int)).bind fun y5=>
  (D2 N y2 y5).bind fun y6=>
  some y6
 else
  (E8 N y4 (wrap .i64 (p_x.max-p_x.min)) (a.n:Int)).bind fun y7=>
  (D2 N y2 y7).bind fun y8=>
  some y8
theorem Ol {N:Nat}{rec:Part->(Sl Sound)->Option ((Nat->Int))}(b:∀{x:Part}{b0:(Sl Sound)}{y:(Nat->Int)},rec x b0=some y->At8 S Tryz.prog (EK x) "ablaut/pats.in" [(.p (vSl 2 A0 b0))] (.p (.agg (cA 33 (pI .u64) y)))){p_x:Au6}{a:(Sl Sound)}{y:(Nat->Int)}(h:Au rec N p_x a=some y) :FunO S DP [(.p (.agg (Au7 p_x))),(.p (vSl 2 A0 a))] [] (.p (.agg (cA 33 (pI .u64) y))) ([]) []:=by
 unfold Au at h;refine A5 hS Tryz.func232 ?_;obtain⟨y1,e1,h⟩:=C6 h;refine Jo hS trivial (b e1) ?_;refine Cw hS (And.intro rfl (E9 _ _):(0:Nat)=0/\(Bj 33 (fun i=>pI .u64 (y1 i))).length=33) ⟨[(18,(pN (a.n:Int))),(16,(pN p_x.min)),(14,(.p (.agg (cA 33 (pI .u64) y1)))),(5,(.reg 6000 0)),(4,(.reg 5000 0)),(2,(.reg 3000 0)),(1,(.p (vSl 2 A0 a)))],[(6000,(.arr 33 (fun i=>pI .u64 (y1 i)))),(5000,(.arr 33 (fun i=>pI .u64 ((fun _=>0) i)))),(3000,(.cells [(.p (EK p_x.of)),(pN p_x.min),(pN p_x.max)]))]⟩ (ids:=[(3000,3000),(5000,5000),(6000,6000)]) ?_ (hle:=(klR [(2,.eq (.agg (Bj 33 (fun i=>(cA 33 (pI .u64) y1).getD i default))) (.agg (cA 33 (pI .u64) y1))),(4,.fn 33 33 (fun i=>[(fun i=>(cA 33 (pI .u64) y1).getD i default) i]) (fun i=>[pI .u64 (y1 i)])),(5,.fn 33 33 (fun i=>[(fun i=>(List.replicate 33 (pI .u64 0)).getD i default) i]) (fun i=>[pI .u64 ((fun _=>0) i)]))] (al1 (congrArg PV.agg (UW (D6 33 (fun i=>pI .u64 (y1 i))))) (al1 ⟨rfl,(D6 33 (fun i=>pI .u64 (y1 i)))⟩ (al1 ⟨rfl,(AD (z:=pI .u64 0) rfl)⟩ al0)))));refine kC hS h (U1 hS hL) (fun y2 h=>?_);obtain⟨y3,e3,h⟩:=C6 h;refine C7 hS [] (And.intro (And.intro rfl (E9 _ _):(0:Nat)=0/\(Bj 33 (fun i=>pI .u64 (y2 i))).length=33) (And.intro rfl (E9 _ _):(0:Nat)=0/\(Bj 33 (fun i=>pI .u64 (y1 i))).length=33)) (BZ hS hL e3) ?_;refine Cw hS (And.intro rfl (E9 _ _):(0:Nat)=0/\(Bj 33 (fun i=>pI .u64 (y3 i))).length=33) ⟨[(8,(.reg 9000 0)),(7,(.reg 8000 0)),(6,(.reg 7000 0)),(4,(.reg 5000 0)),(2,(.reg 3000 0)),(1,(.p (vSl 2 A0 a)))],[(9000,(.arr 33 (fun i=>pI .u64 (y3 i)))),(8000,(.arr 33 (fun i=>pI .u64 (y1 i)))),(7000,(.arr 33 (fun i=>pI .u64 (y2 i)))),(5000,(.arr 33 (fun i=>pI .u64 ((fun _=>0) i)))),(3000,(.cells [(.p (EK p_x.of)),(pN p_x.min),(pN p_x.max)]))]⟩ (ids:=[(3000,3000),(5000,5000),(7000,7000),(8000,8000),(9000,9000)]) ?_ (hle:=(klR [(1,.fn 33 33 (fun i=>[(fun i=>(cA 33 (pI .u64) y3).getD i default) i]) (fun i=>[pI .u64 (y3 i)])),(2,.fn 33 33 (fun i=>[(fun i=>(cA 33 (pI .u64) y1).getD i default) i]) (fun i=>[pI .u64 (y1 i)])),(3,.fn 33 33 (fun i=>[(fun i=>(cA 33 (pI .u64) y2).getD i default) i]) (fun i=>[pI .u64 (y2 i)]))] (al1 ⟨rfl,(D6 33 (fun i=>pI .u64 (y3 i)))⟩ (al1 ⟨rfl,(D6 33 (fun i=>pI .u64 (y1 i)))⟩ (al1 ⟨rfl,(D6 33 (fun i=>pI .u64 (y2 i)))⟩ al0)))));obtain⟨y4,e4,h⟩:=C6 h;refine C7 hS [8000,9000] trivial (CD hS hL e4) ?_;refine kI hS h ?_ ?_<;>intro h
 ·refine kC hS h (U1 hS hL) (fun y5 h=>?_);refine Cw hS (And.intro rfl (E9 _ _):(0:Nat)=0/\(Bj 33 (fun i=>pI .u64 (y5 i))).length=33) ⟨[(7,(.reg 8000 0)),(6,(.reg 7000 0)),(4,(.reg 5000 0))],[(8000,(.arr 33 (fun i=>pI .u64 (y5 i)))),(7000,(.arr 33 (fun i=>pI .u64 (y2 i)))),(5000,(.arr 33 (fun i=>pI .u64 ((fun _=>0) i))))]⟩ (ids:=[(5000,5000),(7000,7000),(8000,8000)]) ?_ (hle:=(klR [(0,.fn 33 33 (fun i=>[(fun i=>(cA 33 (pI .u64) y5).getD i default) i]) (fun i=>[pI .u64 (y5 i)]))] (al1 ⟨rfl,(D6 33 (fun i=>pI .u64 (y5 i)))⟩ al0)));obtain⟨y6,e6,h⟩:=C6 h;refine C7 hS [7000,8000] trivial (P5 hS hL e6) ?_;obtain rfl:=C9 h;exact B0 hS (And.intro rfl (E9 _ _):(0:Nat)=0/\(Bj 33 (fun i=>pI .u64 (y6 i))).length=33) ⟨[(4,(.reg 5000 0))],[(5000,(.arr 33 (fun i=>pI .u64 (y6 i))))]⟩ [] (ids:=[(5000,5000)]) ⟨rfl,rfl,rfl⟩ (hle:=(klR [(0,.fn 33 33 (fun i=>[(fun i=>(cA 33 (pI .u64) y6).getD i default) i]) (fun i=>[pI .u64 (y6 i)]))] (al1 ⟨rfl,(D6 33 (fun i=>pI .u64 (y6 i)))⟩ al0)))
 ·refine kC hS h (U1 hS hL) (fun y7 h=>?_);refine Cw hS (And.intro rfl (E9 _ _):(0:Nat)=0/\(Bj 33 (fun i=>pI .u64 (y7 i))).length=33) ⟨[(7,(.reg 8000 0)),(6,(.reg 7000 0)),(4,(.reg 5000 0))],[(8000,(.arr 33 (fun i=>pI .u64 (y7 i)))),(7000,(.arr 33 (fun i=>pI .u64 (y2 i)))),(5000,(.arr 33 (fun i=>pI .u64 ((fun _=>0) i))))]⟩ (ids:=[(5000,5000),(7000,7000),(8000,8000)]) ?_ (hle:=(klR [(0,.fn 33 33 (fun i=>[(fun i=>(cA 33 (pI .u64) y7).getD i default) i]) (fun i=>[pI .u64 (y7 i)]))] (al1 ⟨rfl,(D6 33 (fun i=>pI .u64 (y7 i)))⟩ al0)));obtain⟨y8,e8,h⟩:=C6 h;refine C7 hS [7000,8000] trivial (P5 hS hL e8) ?_;obtain rfl:=C9 h;exact B0 hS (And.intro rfl (E9 _ _):(0:Nat)=0/\(Bj 33 (fun i=>pI .u64 (y8 i))).length=33) ⟨[(4,(.reg 5000 0))],[(5000,(.arr 33 (fun i=>pI .u64 (y8 i))))]⟩ [] (ids:=[(5000,5000)]) ⟨rfl,rfl,rfl⟩ (hle:=(klR [(0,.fn 33 33 (fun i=>[(fun i=>(cA 33 (pI .u64) y8).getD i default) i]) (fun i=>[pI .u64 (y8 i)]))] (al1 ⟨rfl,(D6 33 (fun i=>pI .u64 (y8 i)))⟩ al0)))
def R6 (rec:Pat->Option Part)(N:Nat)(a:Pat):Option Part:=
 S5 N (fun b (x1:Sl Part) (x2:Int)=>
  if (decide (x2<(a.L.n:Int))) then
   if ((0:Int)<=x2/\x2<(a.L.n:Int))then
    (rec (a.L.g x2.toNat)).bind fun y3=>
    if ((x1.n+(Sl.of [y3]:Sl Part).n)*16<=140737488355328/\x1.n+(Sl.of [y3]:Sl Part).n<=140737488355328)then
     b (x1.push y3) (wrap .i64 (x2+1))
    else none
   else none
  else
   if (a.Kind==1) then
    some (Part.sound a.Is a.Not)
   else
    if (a.Kind==2) then
     some (Part.edge false)
    else
     if (a.Kind==6) then
      some (Part.edge true)
     else
      if (a.Kind==4) then
       some (Part.alt x1.n x1.g)
      else
       if (a.Kind==5) then
        if (((0:Int)<=0/\0<(x1.n:Int))/\0<x1.n)then
         some (Part.rep (x1.g 0) a.Min a.Max)
        else none
       else
        some (Part.seq x1.n x1.g)
  ) (Sl.nil:Sl Part) 0
def Y8:Nat->Pat->Option Part
 |0=>fun _=>none
 |N+1=>R6 (Y8 N) N
theorem KM {N:Nat}{rec:Pat->Option Part}(b:∀{a:Pat}{y:Part},rec a=some y->FunO S AQ [.p (.agg (B4 a))] [] (.p (EK y)) ([]) []){a:Pat}{y:Part}(h:R6 rec N a=some y) :FunO S AQ [.p (.agg (B4 a))] [] (.p (EK y)) ([]) []:=by
 unfold R6 at h;refine A5 hS Tryz.func208 ?_;refine K9 hS trivial 2 2000 (B4 a) ?_;refine N1 hS trivial 8 ⟨[(7,.p (vSl 7 B4 a.L)),(3,.p E5),(1,.p (.ptr (B4 a)))],[]⟩ (ids:=[]) ?_ (hle:=klR [(0,.fn a.L.n a.L.n (BS a) (fun i=>B4 (a.L.g i)))] (al1 ⟨rfl,Am a⟩ al0));refine H9 hS trivial h (fun x1 x2=>⟨[(9,pN x2),(8,pN (a.L.n:Int)),(7,.p (vSl 7 B4 a.L)),(3,.vec 4500),(1,.p (.ptr (B4 a)))],[(4500,.vec Sc 1 x1.n (fun i=>Dq (x1.g i)) false)]⟩) (ids:=[]) (fun _ _ _ _ _ d x1 x2 f h=>?_);refine kI hS h ?_ ?_<;>intro h
 ·obtain⟨c6,h⟩:=H0 h;refine K9 hS (And.intro c6 (by decide:(7:Nat)<=7)) 13 6000 (B4 (a.L.g x2.toNat)) ?_;obtain⟨y3,e3,h⟩:=C6 h;refine C7 hS [] (by decide:(7:Nat)<=7) (b e3) ?_;obtain⟨c7,h⟩:=H0 h;exact f _ [(4500,18000)] _ (x1.push y3) (wrap .i64 (x2+1)) (And.intro (rfl:true=true) c7) h (hle:=klR [(4,.fn (x1.n+1) (x1.push y3).n (Ab x1.n (fun i=>Dq (x1.g i)) (E6 [.v .nilIface] [(0,Dq y3)])) (fun i=>Dq ((x1.push y3).g i)))] (al1 ⟨rfl,JV (c:=Dq) (v:=x1) (x:=y3) (z:=[(.v .nilIface)]) same rfl rfl⟩ al0))
 ·refine kI hS h ?_ ?_<;>intro h
  ·obtain rfl:=C9 h;exact Zd hS (by decide:(2:Nat)<=6) [] ⟨rfl,rfl,rfl⟩
  ·refine kI hS h ?_ ?_<;>intro h
   ·cases h;exact kR hS
   ·refine kI hS h ?_ ?_<;>intro h
    ·cases h;exact kR hS
    ·refine kI hS h ?_ ?_<;>intro h
     ·refine N1 hS trivial 40 ⟨[(39,.p (vSl 1 Dq x1))],[]⟩ (ids:=[]) ?_;cases h;exact kR hS
     ·refine kI hS h ?_ ?_<;>intro h
      ·refine J5 hS trivial [4,6] ?_;obtain⟨c13,h⟩:=H0 h;refine P8 c13 ?_;cases h;exact kR hS
      ·refine N1 hS trivial 54 ⟨[(53,.p (vSl 1 Dq x1))],[]⟩ (ids:=[]) ?_;cases h;exact kR hS
theorem LR {N:Nat}{a:Pat}{y:Part}(h:Y8 N a=some y) :FunO S AQ [.p (.agg (B4 a))] [] (.p (EK y)) ([]) []:=by
 induction N generalizing a y with
 |zero=>cases (show (none:Option Part)=some y from h)
 |succ N ih=>exact KM hS hL (fun e=>ih e) h
end Go.AM
namespace Go.AM
open Go.Proofs
variable {S:X6}(hS:G5 S Tryz.prog) (hL:LL S)
include hS hL
def Y9:Nat->Part->Sl Sound->Option (Nat->Int)
 |0=>fun _ _=>none
 |N+1=>fun p w=>match p with
  |.nil=>none
  |.sound x no=>U2 N ⟨x,no⟩ w
  |.edge e=>Y7 N ⟨e⟩ w
  |.seq n g=>Ar (Y9 N) N ⟨⟨n,g⟩⟩ w
  |.alt n g=>At (Y9 N) N ⟨⟨n,g⟩⟩ w
  |.rep o mn mx=>Au (Y9 N) N ⟨o,mn,mx⟩ w
theorem WX {N:Nat}{x:Part}{w:Sl Sound}{y:Nat->Int}(h:Y9 N x w=some y):At8 S Tryz.prog (EK x) "ablaut/pats.in" [(.p (vSl 2 A0 w))] (.p (.agg (cA 33 (pI .u64) y))):=by
 induction N generalizing x w y with
 |zero=>cases h
 |succ N ih=>
  cases x with
  |nil=>cases h
  |sound s no=>exact⟨_,_,BV,rfl,by kernel_rfl,KL hS hL (p_x:=⟨s,no⟩) h⟩
  |edge e=>exact⟨_,_,CO,rfl,by kernel_rfl,LQ hS hL (N:=N) (p_x:=⟨e⟩) h⟩
  |seq n g=>exact⟨_,_,DQ,rfl,by kernel_rfl,Oj hS hL (fun e=>ih e) (p_x:=⟨⟨n,g⟩⟩) h⟩
  |alt n g=>exact⟨_,_,DO,rfl,by kernel_rfl,Ok hS hL (fun e=>ih e) (p_x:=⟨⟨n,g⟩⟩) h⟩
  |rep o mn mx=>exact⟨_,_,DP,rfl,by kernel_rfl,Ol hS hL (fun e=>ih e) (p_x:=⟨o,mn,mx⟩) h⟩
end Go.AM
namespace Go.AM
open IntKind (wrap)
open Go.Proofs
set_option maxRecDepth 10000
set_option maxHeartbeats 2000000
variable {S:X6}(hS:G5 S Tryz.prog) (hL:LL S)
include hS hL
def Q2 (N:Nat)(a:Sound):Option Bool:=
 (M8 N a).bind fun y1=>
 some (!y1)
theorem KN {N:Nat}{a:Sound}{y:Bool}(h:Q2 N a=some y) :FunO S ET [.p (.agg (A0 a))] [] (pB y) ([]) []:=by unfold Q2 at h;refine A5 hS Tryz.func207 ?_;refine kC hS h (CC hS hL) (fun y1 h=>?_);cases h;exact kR hS
def D0 (N:Nat)(a:Sl Sound)(c:Sound->Option Bool):Option Int:=
 S8 N (fun b (x1:Int)=>
  if (decide (x1<(a.n:Int))) then
   if ((0:Int)<=x1/\x1<(a.n:Int))then
    (c (a.g x1.toNat)).bind fun y3=>
    if y3 then
     some x1
    else
     b (wrap .i64 (x1+1))
   else none
  else
   some (-1)
  ) 0
theorem S4 {N:Nat}{a:Sl Sound}{c:Sound->Option Bool}{kp_f:Nat}(d:∀{a0:Sound}{b:Bool},c a0=some b->FunO S kp_f [.p (.agg (A0 a0))] [] (pB b) [] []){y:Int}(h:D0 N a c=some y) :FunO S I2 [.p (vSl 2 A0 a),.clo kp_f [] []] [] (pN y) ([]) []:=by
 unfold D0 at h;refine A5 hS Tryz.func123 ?_;refine Al hS trivial h (fun x1=>⟨[(8,pN x1),(7,pN (a.n:Int)),(1,.clo kp_f [] []),(0,.p (vSl 2 A0 a))],[]⟩) (ids:=[]) (fun _ _ _ _ _ f x1 g h=>?_);refine kI hS h ?_ ?_<;>intro h
 ·obtain⟨c8,h⟩:=H0 h;obtain⟨y3,e3,h⟩:=C6 h;refine C7 hS [] (And.intro c8 (by decide:(2:Nat)<=2)) (d e3) ?_;refine kI hS h ?_ ?_<;>intro h
  ·cases h;exact kR hS
  ·exact g _ [] _ (wrap .i64 (x1+1)) trivial h
 ·cases h;exact kR hS
def B2 (N:Nat)(a:Sl Sound)(b:Sound->Option Bool):Option Bool:=
 (D0 N a b).bind fun y1=>
 some (decide (0<=y1))
theorem H5 {N:Nat}{a:Sl Sound}{c:Sound->Option Bool}{kp_f:Nat}(d:∀{a0:Sound}{b:Bool},c a0=some b->FunO S kp_f [.p (.agg (A0 a0))] [] (pB b) [] []){y:Bool}(h:B2 N a c=some y) :FunO S H4 [.p (vSl 2 A0 a),.clo kp_f [] []] [] (pB y) ([]) []:=by unfold B2 at h;refine A5 hS Tryz.func104 ?_;refine kC hS h (S4 hS hL (fun e=>d e)) (fun y1 h=>?_);cases h;exact kR hS
def C5 (N:Nat)(q0:Sl Pat):Option (List (Int×Pat)):=
 S8 N (fun a (x1:Int)=>
  if (decide (0<=x1)) then
   if ((0:Int)<=x1/\x1<(q0.n:Int))then
    Bm (x1,q0.g x1.toNat) (
     a (wrap .i64 (x1-1))
     )
   else none
  else
   some []
  ) (wrap .i64 ((q0.n:Int)-1))
theorem W3 {N:Nat}{q0:Sl Pat}{L:List (Int×Pat)}(h:C5 N q0=some L) :Gh S D8 [] [.reg 0 0] [.cells [.p (vSl 7 B4 q0)]] (L.map (fun (x:Int×Pat)=>[pI .i64 x.1,(fun x=>.agg (B4 x)) x.2])):=by
 unfold C5 at h;refine GT hS Tryz.func142 ?_;refine HS hS trivial h (fun x1 L1=>⟨[(3,pN x1),(1,.reg 0 0),(0,.yf 1)],[(1,.yld (L1.map (fun (x:Int×Pat)=>[pI .i64 x.1,(fun x=>.agg (B4 x)) x.2])) true),(0,.cells [.p (vSl 7 B4 q0)])]⟩) (ids:=[(0,0),(1,1)]) (fun _ _ _ _ _ d x1 L1 f h=>?_);refine kI hS h ?_ ?_<;>intro h
 ·obtain⟨c10,h⟩:=H0 h;obtain⟨L4,rfl,c⟩:=NK h;replace h:=c;refine DJ hS (And.intro c10 (by decide:(7:Nat)<=7)) (ys:=(fun (x:Int×Pat)=>[pI .i64 x.1,(fun x=>.agg (B4 x)) x.2]) (x1,q0.g x1.toNat)) (rest:=L4.map (fun (x:Int×Pat)=>[pI .i64 x.1,(fun x=>.agg (B4 x)) x.2])) ?_ ?_
  ·refine E7 hS trivial (b:=false) (fun c11=>?_) (fun c11=>?_)
   ·exact Bool.noConfusion ((rfl:false=false).symm.trans c11)
   ·exact f _ [(0,0),(1,1)] _ (wrap .i64 (x1-1)) L4 trivial h
  ·refine E7 hS trivial (b:=true) (fun c12=>?_) (fun c12=>?_)
   ·exact B0 hS trivial (a:=.tup []) (objs:=[(.cells [.p (vSl 7 B4 q0)]),.yld [] false]) ⟨[],[(1,.yld [] false),(0,.cells [.p (vSl 7 B4 q0)])]⟩ [0,1] (ids:=[(0,0),(1,1)]) ⟨false,rfl,rfl,_,rfl⟩
   ·exact Bool.noConfusion ((rfl:true=true).symm.trans c12)
 ·obtain rfl:=C9 h;exact B0 hS trivial (a:=.tup []) (objs:=[(.cells [.p (vSl 7 B4 q0)]),.yld [] true]) ⟨[],[(1,.yld [] true),(0,.cells [.p (vSl 7 B4 q0)])]⟩ [0,1] (ids:=[(0,0),(1,1)]) ⟨true,rfl,rfl,_,rfl⟩
def G8 (N:Nat)(a:Sl Pat):Option (Sl Pat):=
 some a
theorem Z0 {N:Nat}{a:Sl Pat}{y:Sl Pat}(h:G8 N a=some y) :FunO S L0 [.p (vSl 7 B4 a)] [] (.clo D8 [] [.reg 0 0]) ([.cells [.p (vSl 7 B4 y)]]) []:=by unfold G8 at h;refine A5 hS Tryz.func122 ?_;obtain rfl:=C9 h;exact B0 hS trivial ⟨[(2,.clo D8 [] [.reg 2000 0])],[(2000,.cells [.p (vSl 7 B4 a)])]⟩ [2000] (ids:=[(2000,2000)]) ⟨rfl,rfl,rfl⟩
def U3 (N:Nat)(c:Pat):Option Int:=
 S5 N (fun a (x3:Sl Pat) (x4:Int)=>
  if (decide (0<(x3.n:Int))) then
   if (x4==40) then
    some 12
   else
    if (((0:Int)<=(wrap .i64 ((x3.n:Int)-1))/\(wrap .i64 ((x3.n:Int)-1))<(x3.n:Int))/\(wrap .i64 ((x3.n:Int)-1)).toNat<x3.n)then
     if ((0:Int)<=(wrap .i64 ((x3.n:Int)-1))/\(wrap .i64 ((x3.n:Int)-1))<=(x3.n:Int))then
      (Y5 N (x3.g (wrap .i64 ((x3.n:Int)-1)).toNat)).bind fun y5=>
      if (y5 != 0) then
       some y5
      else
       if ((0:Int)<=(if 41<((x3.g (wrap .i64 ((x3.n:Int)-1)).toNat).L.n:Int)then 41 else ((x3.g (wrap .i64 ((x3.n:Int)-1)).toNat).L.n:Int))/\(if 41<((x3.g (wrap .i64 ((x3.n:Int)-1)).toNat).L.n:Int)then 41 else ((x3.g (wrap .i64 ((x3.n:Int)-1)).toNat).L.n:Int))<=((x3.g (wrap .i64 ((x3.n:Int)-1)).toNat).L.n:Int))then
        (G8 N ((x3.g (wrap .i64 ((x3.n:Int)-1)).toNat).L.take (if 41<((x3.g (wrap .i64 ((x3.n:Int)-1)).toNat).L.n:Int)then 41 else ((x3.g (wrap .i64 ((x3.n:Int)-1)).toNat).L.n:Int)).toNat)).bind fun y6=>
        (C5 N y6).bind fun L3=>
        Q4 L3 (fun b (x7:Int×Pat) (z3:Sl Pat)=>
         if ((((z3.n+(Sl.of [Pat.nil]:Sl Pat).n)*64<=140737488355328/\z3.n+(Sl.of [Pat.nil]:Sl Pat).n<=140737488355328)/\((0:Int)<=(z3.n:Int)/\(z3.n:Int)<((z3.push Pat.nil).n:Int)))/\(z3.n:Int).toNat<(z3.push Pat.nil).n)then
          b ((z3.push Pat.nil).upd (z3.n:Int).toNat x7.2)
         else none
         ) (fun (z3:Sl Pat)=>
          a z3 (wrap .i64 (x4+1))
         ) (x3.take (wrap .i64 ((x3.n:Int)-1)).toNat)
       else none
     else none
    else none
  else
   some 0
  ) (Sl.of [c]:Sl Pat) 0
theorem EY {N:Nat}{b:Pat}{y:Int}(h:U3 N b=some y) :FunO S IH [.p (.agg (B4 b))] [] (pN y) ([]) []:=by
 unfold U3 at h;refine A5 hS Tryz.func103 ?_;refine K9 hS trivial 2 2000 (B4 b) ?_;refine H9 hS (And.intro (by decide:(7:Nat)<=7) (rfl:true=true)) h (fun x3 x4=>⟨[(4,pN x4),(3,.reg 4000 0)],[(4501,.vec Ds 7 x3.n (fun i=>B4 (x3.g i)) false),(4000,.cells [.vec 4501])]⟩) (ids:=[(4000,4000),(4501,12000)]) (fun _ _ _ _ _ d x3 x4 j h=>?_) (hle:=klR [(1,.fn 1 (Sl.of [b]:Sl Pat).n (E6 [pI .i64 0,pI .u32 0,pI .u32 0,.v (.bool false),pI .i64 0,pI .i64 0,E5] [(0,B4 b)]) (fun i=>B4 ((Sl.of [b]:Sl Pat).g i)))] (al1 ⟨rfl,(fun i m=>match i,m with|0,_=>rfl|_+1,m=>absurd m (by omega))⟩ al0));refine kI hS h ?_ ?_<;>intro h
 ·refine kI hS h ?_ ?_<;>intro h
  ·cases h;exact kR hS
  ·obtain⟨c21,h⟩:=H0 h;refine K9 hS (And.intro (And.intro c21.1 (by decide:(7:Nat)<=7)) c21.2) 25 6000 (B4 (x3.g (wrap .i64 ((x3.n:Int)-1)).toNat)) ?_;obtain⟨c22,h⟩:=H0 h;refine At9 hS c22 30 4501 (wrap .i64 ((x3.n:Int)-1)).toNat 4508 (e:=Ds) (k:=7) (N:=x3.n) (f:=fun i=>B4 (x3.g i)) (by have r:=c22;omega) ?_;obtain⟨y5,e7,h⟩:=C6 h;refine C7 hS [] (by decide:(7:Nat)<=7) (LO hS hL e7) ?_;refine kI hS h ?_ ?_<;>intro h
   ·cases h;exact kR hS
   ·refine N1 hS trivial 39 ⟨[(38,.p (vSl 7 B4 (x3.g (wrap .i64 ((x3.n:Int)-1)).toNat).L)),(36,.p (vSl 7 B4 (x3.g (wrap .i64 ((x3.n:Int)-1)).toNat).L)),(4,pN x4),(3,.reg 4000 0)],[(4508,.vec Ds 7 (x3.take (wrap .i64 ((x3.n:Int)-1)).toNat).n (fun i=>B4 ((x3.take (wrap .i64 ((x3.n:Int)-1)).toNat).g i)) false),(4000,.cells [.vec 4508])]⟩ (ids:=[(4000,4000),(4508,4508)]) ?_ (hle:=klR [(0,.fn (x3.g (wrap .i64 ((x3.n:Int)-1)).toNat).L.n (x3.g (wrap .i64 ((x3.n:Int)-1)).toNat).L.n (BS (x3.g (wrap .i64 ((x3.n:Int)-1)).toNat)) (fun i=>B4 ((x3.g (wrap .i64 ((x3.n:Int)-1)).toNat).L.g i))),(1,.fn (x3.g (wrap .i64 ((x3.n:Int)-1)).toNat).L.n (x3.g (wrap .i64 ((x3.n:Int)-1)).toNat).L.n (BS (x3.g (wrap .i64 ((x3.n:Int)-1)).toNat)) (fun i=>B4 ((x3.g (wrap .i64 ((x3.n:Int)-1)).toNat).L.g i)))] (al1 ⟨rfl,Am (x3.g (wrap .i64 ((x3.n:Int)-1)).toNat)⟩ (al1 ⟨rfl,Am (x3.g (wrap .i64 ((x3.n:Int)-1)).toNat)⟩ al0)));obtain⟨c24,h⟩:=H0 h;obtain⟨y6,e8,h⟩:=C6 h;refine C7 hS [] c24 (Z0 hS hL e8) ?_;obtain⟨L3,e9,h⟩:=C6 h;refine Gm hS trivial [44000] [4,3] 905 (fun z3=>⟨[(4,pN x4),(3,.reg 4000 0)],[(4500,.vec Ds 7 z3.n (fun i=>B4 (z3.g i)) false),(4000,.cells [.vec 4500])]⟩) (idl:=[(4000,4000),(4500,4508)]) h (W3 hS hL e9) (fun _=>by kernel_rfl) (fun _=>by kernel_rfl) (fun _=>by kernel_rfl) (fun _=>by kernel_rfl) (fun x7 _ o z3 q h=>?_) (fun z3 h=>?_)
    ·refine JZ hS trivial ?_;refine Aj1 hS trivial 10000 (B4 x7.2) ?_;refine O5 hS trivial [(0,.l [4000]),(1,.n),(2,.l [4500]),(4,.a [51000,4500]),(5,.l [51000]),(6,.a [51000]),(7,.a [4000])] ?_;refine BR (by decide:(7:Nat)<=7) (x:=.sl true 7 1 (E6 [pI .i64 0,pI .u32 0,pI .u32 0,.v (.bool false),pI .i64 0,pI .i64 0,E5] [(0,[pI .i64 0,pI .u32 0,pI .u32 0,.v (.bool false),pI .i64 0,pI .i64 0,E5])])) ?_;obtain⟨c27,h⟩:=H0 h;refine P8 (And.intro (And.intro c27.1.1 c27.1.2) (And.intro (rfl:(7:Nat)=7) (And.intro c27.2 (by decide:(7:Nat)<=7)))) ?_;exact q _ [(905,905),(4000,4000),(4500,51000)] _ ((z3.push Pat.nil).upd (z3.n:Int).toNat x7.2) trivial h (hle:=klR [(0,.fn (z3.n+1) ((z3.push Pat.nil).upd (z3.n:Int).toNat x7.2).n (fun l=>if l=(z3.n:Int).toNat then splice (Ab z3.n (fun i=>B4 (z3.g i)) (E6 [pI .i64 0,pI .u32 0,pI .u32 0,.v (.bool false),pI .i64 0,pI .i64 0,E5] [(0,[pI .i64 0,pI .u32 0,pI .u32 0,.v (.bool false),pI .i64 0,pI .i64 0,E5])]) l) 0 [pI .i64 x7.2.Kind,pI .u32 x7.2.Is.Plus,pI .u32 x7.2.Is.Minus,.bb x7.2.Not,pI .i64 x7.2.Min,pI .i64 x7.2.Max,.sl false 7 x7.2.L.n (BS x7.2)]else (Ab z3.n (fun i=>B4 (z3.g i)) (E6 [pI .i64 0,pI .u32 0,pI .u32 0,.v (.bool false),pI .i64 0,pI .i64 0,E5] [(0,[pI .i64 0,pI .u32 0,pI .u32 0,.v (.bool false),pI .i64 0,pI .i64 0,E5])])) l) (fun i=>B4 (((z3.push Pat.nil).upd (z3.n:Int).toNat x7.2).g i)))] (al1 ⟨rfl,setH (c:=B4) (v:=z3.push Pat.nil) (x:=x7.2) (app1H (c:=B4) (v:=z3) (z:=Pat.nil) same rfl) (fun _=>by simp[Ab,E6,splice])⟩ al0))
    ·exact j _ [(4000,4000),(4501,4500)] _ z3 (wrap .i64 (x4+1)) trivial h
 ·cases h;exact kR hS
def W4 (N:Nat)(b:Pat)(a:Sl Sound):Option ((Nat->Int)×Int):=
 (U3 N b).bind fun y1=>
 if (y1 != 0) then
  some (fun _=>0,y1)
 else
  if (decide (32<(a.n:Int))) then
   some (fun _=>0,11)
  else
   (B2 N a (fun (u1:Sound)=>Q2 N u1)).bind fun y2=>
   if y2 then
    some (fun _=>0,14)
   else
    (Y8 N b).bind fun y3=>
    (Y9 N y3 a).bind fun y4=>
    some (y4,0)
theorem Ho {N:Nat}{a:Pat}{b:Sl Sound}{y:(Nat->Int)×Int}(h:W4 N a b=some y) :FunO S Hh [.p (.agg (B4 a)),.p (vSl 2 A0 b)] [] (.tup [.p (.agg (cA 33 (pI .u64) y.1)),pN y.2]) ([]) []:=by
 unfold W4 at h;refine A5 hS Tryz.func203 ?_;refine kC hS h (EY hS hL) (fun y1 h=>?_);refine kI hS h ?_ ?_<;>intro h
 ·obtain rfl:=C9 h;exact B0 hS (And.intro rfl (E9 _ _):(0:Nat)=0/\(Bj 33 (fun i=>pI .u64 ((fun _=>0) i))).length=33) ⟨[(5,pN y1),(4,.reg 5000 0)],[(5000,.arr 33 (fun i=>pI .u64 ((fun _=>0) i)))]⟩ [] (ids:=[(5000,5000)]) ⟨rfl,rfl,rfl⟩ (hle:=klR [(1,.fn 33 33 (fun i=>[(fun i=>(cA 33 (pI .u64) (fun _=>0)).getD i default) i]) (fun i=>[pI .u64 ((fun _=>0) i)]))] (al1 ⟨rfl,D6 33 (fun i=>pI .u64 ((fun _=>0) i))⟩ al0))
 ·refine kI hS h ?_ ?_<;>intro h
  ·obtain rfl:=C9 h;exact B0 hS (And.intro rfl (E9 _ _):(0:Nat)=0/\(Bj 33 (fun i=>pI .u64 ((fun _=>0) i))).length=33) ⟨[(5,pN 11),(4,.reg 5000 0)],[(5000,.arr 33 (fun i=>pI .u64 ((fun _=>0) i)))]⟩ [] (ids:=[(5000,5000)]) ⟨rfl,rfl,rfl⟩ (hle:=klR [(1,.fn 33 33 (fun i=>[(fun i=>(cA 33 (pI .u64) (fun _=>0)).getD i default) i]) (fun i=>[pI .u64 ((fun _=>0) i)]))] (al1 ⟨rfl,D6 33 (fun i=>pI .u64 ((fun _=>0) i))⟩ al0))
  ·refine kC hS h (H5 hS hL (fun e=>KN hS hL e)) (fun y2 h=>?_);refine kI hS h ?_ ?_<;>intro h
   ·obtain rfl:=C9 h;exact B0 hS (And.intro rfl (E9 _ _):(0:Nat)=0/\(Bj 33 (fun i=>pI .u64 ((fun _=>0) i))).length=33) ⟨[(5,pN 14),(4,.reg 5000 0)],[(5000,.arr 33 (fun i=>pI .u64 ((fun _=>0) i)))]⟩ [] (ids:=[(5000,5000)]) ⟨rfl,rfl,rfl⟩ (hle:=klR [(1,.fn 33 33 (fun i=>[(fun i=>(cA 33 (pI .u64) (fun _=>0)).getD i default) i]) (fun i=>[pI .u64 ((fun _=>0) i)]))] (al1 ⟨rfl,D6 33 (fun i=>pI .u64 ((fun _=>0) i))⟩ al0))
   ·refine kC hS h (LR hS hL) (fun y3 h=>?_);obtain⟨y4,e4,h⟩:=C6 h;refine Jo hS trivial (WX hS hL e4) ?_;obtain rfl:=C9 h;exact B0 hS (And.intro rfl (E9 _ _):(0:Nat)=0/\(Bj 33 (fun i=>pI .u64 (y4 i))).length=33) ⟨[(5,pN 0),(4,.reg 5000 0)],[(5000,.arr 33 (fun i=>pI .u64 (y4 i)))]⟩ [] (ids:=[(5000,5000)]) ⟨rfl,rfl,rfl⟩ (hle:=klR [(1,.fn 33 33 (fun i=>[(fun i=>(cA 33 (pI .u64) y4).getD i default) i]) (fun i=>[pI .u64 (y4 i)]))] (al1 ⟨rfl,D6 33 (fun i=>pI .u64 (y4 i))⟩ al0))
def Av (N:Nat)(d:Pat)(c:Sl Sound)(a:Int):Option ((Sl Int)×Int):=
 (W4 N d c).bind fun y1=>
 lt (fun (z1:Int)=>
  if (z1 != 0) then
   some ((Sl.nil:Sl Int),z1)
  else
   S5 N (fun b (x2:Sl Int) (x3:Int)=>
    if (decide (x3<(wrap .i64 ((c.n:Int)+1)))) then
     if ((((0:Int)<=x3/\x3<33)/\(0+x3.toNat*1)<33)/\(0:Int)<=a)then
      if ((F5 .and .u64 (shI .shr .u64 (y1.1 (0+x3.toNat*1)) a) 1)==1) then
       if ((x2.n+(Sl.of [x3]:Sl Int).n)*8<=140737488355328/\x2.n+(Sl.of [x3]:Sl Int).n<=140737488355328)then
        b (x2.push x3) (wrap .i64 (x3+1))
       else none
      else
       b x2 (wrap .i64 (x3+1))
     else none
    else
     some (x2,0)
    ) (Sl.nil:Sl Int) 0
  ) fun k1=>
  if (y1.2==0) then
   (W0 N c a).bind fun y3=>
   k1 y3
  else
   k1 y1.2
theorem Om {N:Nat}{f:Pat}{d:Sl Sound}{a:Int}{y:(Sl Int)×Int}(h:Av N f d a=some y) :FunO S Hg [.p (.agg (B4 f)),.p (vSl 2 A0 d),pN a] [] (.tup [.vec 0,pN y.2]) ([.vec D5 1 y.1.n (fun i=>cI .i64 (y.1.g i)) true]) []:=by
 unfold Av at h;refine A5 hS Tryz.func193 ?_;refine kC hS h (Ho hS hL) (fun y1 h=>?_);refine Ls hS (And.intro rfl (E9 _ _):(0:Nat)=0/\(Bj 33 (fun i=>pI .u64 (y1.1 i))).length=33) (A8 hS) h 0 (fun z1=>⟨[(9,pN z1),(8,.reg 9000 0),(2,pN a),(1,.p (vSl 2 A0 d))],[(9000,.arr 33 (fun i=>pI .u64 (y1.1 i)))]⟩) (fun M1 k1 j h=>?_) (fun z1 h=>?_)
 ·refine kI hS h ?_ ?_<;>intro h
  ·refine kC hS h (Hn hS hL) (fun y3 h=>?_);exact j _ [(9000,9000)] _ y3 trivial h (hle:=klR [(3,.fn 33 33 (fun i=>[(fun i=>(cA 33 (pI .u64) y1.1).getD i default) i]) (fun i=>[pI .u64 (y1.1 i)]))] (al1 ⟨rfl,D6 33 (fun i=>pI .u64 (y1.1 i))⟩ al0))
  ·exact j _ [(9000,9000)] _ y1.2 trivial h (hle:=klR [(3,.fn 33 33 (fun i=>[(fun i=>(cA 33 (pI .u64) y1.1).getD i default) i]) (fun i=>[pI .u64 (y1.1 i)]))] (al1 ⟨rfl,D6 33 (fun i=>pI .u64 (y1.1 i))⟩ al0))
 ·refine kI hS h ?_ ?_<;>intro h
  ·obtain rfl:=C9 h;exact B0 hS trivial ⟨[(7,pN z1),(6,.vec 7700)],[(7700,.vec D5 1 (Sl.nil:Sl Int).n (fun i=>cI .i64 ((Sl.nil:Sl Int).g i)) true)]⟩ [7700] (ids:=[]) ⟨rfl,rfl,rfl⟩
  ·refine H9 hS trivial h (fun x2 x3=>⟨[(29,pN x3),(28,pN (wrap .i64 ((d.n:Int)+1))),(10,.vec 11500),(8,.reg 9000 0),(2,pN a)],[(11500,.vec D5 1 x2.n (fun i=>cI .i64 (x2.g i)) false),(9000,.arr 33 (fun i=>pI .u64 (y1.1 i)))]⟩) (ids:=[(9000,9000)]) (fun _ _ _ _ _ m x2 x3 l h=>?_);refine kI hS h ?_ ?_<;>intro h
   ·obtain⟨c12,h⟩:=H0 h;refine E7 hS c12 (b:=(F5 .and .u64 (shI .shr .u64 (y1.1 (0+x3.toNat*1)) a) 1)==1) (fun c13=>?_) (fun c13=>?_)
    ·replace h:=itT c13 h;obtain⟨c14,h⟩:=H0 h;exact l _ [(9000,9000),(11500,43000)] _ (x2.push x3) (wrap .i64 (x3+1)) (And.intro (rfl:true=true) c14) h (hle:=klR [(3,.fn (x2.n+1) (x2.push x3).n (Ab x2.n (fun i=>cI .i64 (x2.g i)) (E6 [pI .i64 0] [(0,cI .i64 x3)])) (fun i=>cI .i64 ((x2.push x3).g i)))] (al1 ⟨rfl,JV (c:=cI .i64) (v:=x2) (x:=x3) (z:=[(pI .i64 0)]) same rfl rfl⟩ al0))
    ·replace h:=itF c13 h;exact l _ [(9000,9000),(11500,11500)] _ x2 (wrap .i64 (x3+1)) trivial h
   ·obtain rfl:=C9 h;exact B0 hS trivial ⟨[(7,pN 0),(6,.vec 11500)],[(11500,.vec D5 1 x2.n (fun i=>cI .i64 (x2.g i)) true)]⟩ [11500] (ids:=[(11500,11500)]) ⟨rfl,rfl,rfl⟩
def G4 (N:Nat)(a:List (Int)):Option (Sl Int):=
 Q4 a (fun b (x1:Int) (z1:Sl Int)=>
  if ((z1.n+(Sl.of [x1]:Sl Int).n)*8<=140737488355328/\z1.n+(Sl.of [x1]:Sl Int).n<=140737488355328)then
   b (z1.push x1)
  else none
  ) (fun (z1:Sl Int)=>
   some z1
  ) (Sl.nil:Sl Int)
theorem Be {N:Nat}{b:List (Int)}{a:Int}{kp_seq:Nat}(fp_seq:∃fn,Ay1[kp_seq]? = some fn/\fn.body.isSome=true/\(fn.name == "runtime.NumGoroutine")=false)(d:Gh S kp_seq [] [.reg 0 0] [(.cells [(.p (pI .u64 a))])] (b.map (fun (x:Int)=>[(pI .i64) x]))){y:(Sl Int)}(h:G4 N b=some y) :FunO S R5 [(.p E5),(.clo kp_seq [] [(.reg 0 0)])] [(.cells [(.p (pI .u64 a))])] (.vec 0) ([(.vec D5 1 y.n (fun i=>(cI .i64) (y.g i)) true)]) [false]:=by
 unfold G4 at h;refine A5 hS Tryz.func209 ?_;refine TD hS trivial fp_seq [0] [2] 901 (fun z1=>⟨[(2,(.reg 3000 0))],[(3500,(.vec D5 1 z1.n (fun i=>(cI .i64) (z1.g i)) false)),(3000,(.cells [(.vec 3500)]))]⟩) (idl:=[(3000,3000)]) h d (fun _=>by kernel_rfl) (fun _=>by kernel_rfl) (fun _=>by kernel_rfl) (fun _=>by kernel_rfl) (fun x1 _ f z1 j h=>?_) (fun z1 h=>?_)
 ·refine JZ hS trivial ?_;obtain⟨c1,h⟩:=H0 h;exact j _ [(901,901),(3000,3000),(3500,12000)] _ (z1.push x1) (And.intro (rfl:true=true) c1) h (hle:=klR [(0,.fn (z1.n+1) (z1.push x1).n (Ab z1.n (fun i=>(cI .i64) (z1.g i)) (E6 [(pI .i64 0)] [(0,(cI .i64) x1)])) (fun i=>(cI .i64) ((z1.push x1).g i)))] (al1 ⟨rfl,(JV (c:=(cI .i64)) (v:=z1) (x:=x1) (z:=[(pI .i64 0)]) same rfl rfl)⟩ al0))
 ·obtain rfl:=C9 h;exact B0 hS trivial ⟨[(4,(.vec 3500))],[(3500,(.vec D5 1 z1.n (fun i=>(cI .i64) (z1.g i)) true))]⟩ [3500] (ids:=[(3500,3500)]) ⟨rfl,rfl,rfl⟩
def J1 (N:Nat)(a:List (Int)):Option (Sl Int):=
 (G4 N a).bind fun y1=>
 some y1
theorem EZ {N:Nat}{b:List (Int)}{a:Int}{kp_seq:Nat}(fp_seq:∃fn,Ay1[kp_seq]? = some fn/\fn.body.isSome=true/\(fn.name == "runtime.NumGoroutine")=false)(c:Gh S kp_seq [] [.reg 0 0] [(.cells [(.p (pI .u64 a))])] (b.map (fun (x:Int)=>[(pI .i64) x]))){y:(Sl Int)}(h:J1 N b=some y) :FunO S Bs [(.clo kp_seq [] [(.reg 0 0)])] [(.cells [(.p (pI .u64 a))])] (.vec 0) ([(.vec D5 1 y.n (fun i=>(cI .i64) (y.g i)) true)]) [false]:=by unfold J1 at h;refine A5 hS Tryz.func205 ?_;obtain⟨y1,e1,h⟩:=C6 h;refine C7 hS [0] trivial (Be hS hL fp_seq c e1) ?_;obtain rfl:=C9 h;exact B0 hS trivial ⟨[(2,(.vec 5000))],[(5000,(.vec D5 1 y1.n (fun i=>(cI .i64) (y1.g i)) true))]⟩ [5000] (ids:=[(5000,5000)]) ⟨rfl,rfl,rfl⟩
def Ce (N:Nat)(c:Pat)(b:Sl Sound)(a:Int):Option ((Sl Int)×Int):=
 (W4 N c b).bind fun y1=>
 lt (fun (z1:Int)=>
  if (z1 != 0) then
   some ((Sl.nil:Sl Int),z1)
  else
   if (((0:Int)<=a/\a<33)/\(0+a.toNat*1)<33)then
    (Y6 N (y1.1 (0+a.toNat*1))).bind fun y4=>
    (O0 N y4).bind fun L1=>
    (J1 N L1).bind fun y5=>
    some (y5,0)
   else none
  ) fun k1=>
  if (y1.2==0) then
   (W0 N b a).bind fun y3=>
   k1 y3
  else
   k1 y1.2
theorem Sk {N:Nat}{b:Pat}{c:Sl Sound}{a:Int}{y:(Sl Int)×Int}(h:Ce N b c a=some y) :FunO S Kw [.p (.agg (B4 b)),.p (vSl 2 A0 c),pN a] [] (.tup [.vec 0,pN y.2]) ([.vec D5 1 y.1.n (fun i=>cI .i64 (y.1.g i)) true]) []:=by
 unfold Ce at h;refine A5 hS Tryz.func194 ?_;refine kC hS h (Ho hS hL) (fun y1 h=>?_);refine Ls hS (And.intro rfl (E9 _ _):(0:Nat)=0/\(Bj 33 (fun i=>pI .u64 (y1.1 i))).length=33) (A8 hS) h 0 (fun z1=>⟨[(9,pN z1),(8,.reg 9000 0),(2,pN a)],[(9000,.arr 33 (fun i=>pI .u64 (y1.1 i)))]⟩) (fun M1 k1 d h=>?_) (fun z1 h=>?_)
 ·refine kI hS h ?_ ?_<;>intro h
  ·refine kC hS h (Hn hS hL) (fun y3 h=>?_);exact d _ [(9000,9000)] _ y3 trivial h (hle:=klR [(2,.fn 33 33 (fun i=>[(fun i=>(cA 33 (pI .u64) y1.1).getD i default) i]) (fun i=>[pI .u64 (y1.1 i)]))] (al1 ⟨rfl,D6 33 (fun i=>pI .u64 (y1.1 i))⟩ al0))
  ·exact d _ [(9000,9000)] _ y1.2 trivial h (hle:=klR [(2,.fn 33 33 (fun i=>[(fun i=>(cA 33 (pI .u64) y1.1).getD i default) i]) (fun i=>[pI .u64 (y1.1 i)]))] (al1 ⟨rfl,D6 33 (fun i=>pI .u64 (y1.1 i))⟩ al0))
 ·refine kI hS h ?_ ?_<;>intro h
  ·obtain rfl:=C9 h;exact B0 hS trivial ⟨[(7,pN z1),(6,.vec 7700)],[(7700,.vec D5 1 (Sl.nil:Sl Int).n (fun i=>cI .i64 ((Sl.nil:Sl Int).g i)) true)]⟩ [7700] (ids:=[]) ⟨rfl,rfl,rfl⟩
  ·obtain⟨c5,h⟩:=H0 h;obtain⟨y4,e4,h⟩:=C6 h;refine C7 hS [] c5 (CQ hS hL e4) ?_;obtain⟨L1,e5,h⟩:=C6 h;obtain⟨y5,e6,h⟩:=C6 h;refine C7 hS [28000] trivial (EZ hS hL ⟨_,Tryz.func210,by decide +kernel,by decide +kernel⟩ (Bo hS hL e5) e6) ?_;obtain rfl:=C9 h;exact B0 hS trivial ⟨[(7,pN 0),(6,.vec 29000)],[(29000,.vec D5 1 y5.n (fun i=>cI .i64 (y5.g i)) true)]⟩ [29000] (ids:=[(29000,29000)]) ⟨rfl,rfl,rfl⟩
end Go.AM
