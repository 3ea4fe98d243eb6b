/- What a law's walk and its plain proof need, part 5: no condition of its own. -/
import Derived.Test.YtfcfdofmgkpmbaaGreatDoorMD
import Derived.Test.YtfcfdofmgkpmbaaGreatDoorMC
import Derived.RecoverIn
import Derived.Test.YtfcfdofmgkpmbaaGreatDoorProg
import Derived.Lib.SlTrimSet
import Derived.TacticsInMore
set_option linter.defProp false
set_option linter.unusedSimpArgs false
set_option linter.unusedVariables false
set_option linter.unusedSectionVars false
namespace Go.AM
noncomputable abbrev AY9:=Go.Proofs.Tryz.prog.funcs
def Ba4:=@BitVec.getLsbD_and
def Bc4:=@Bool.eq_iff_iff
def Be5:=@BitVec.eq_of_getLsbD_eq
def Bn2:=@BitVec.getLsbD_ushiftRight
def Bn3:=@BitVec.getLsbD_one
def Bn4:=@BitVec.toNat_ofNat
def Bo0:=@BitVec.getLsbD_shiftLeft
def Bo3:=@BitVec.getLsbD_setWidth
def Bp6:=@BitVec.getLsbD_ofBool
def Aj8 (D:List Deferred)(a:Act):Act:={ a with defers:=a.defers++D }
theorem Fw (D:List Deferred)(a:Act)(d:Option Tmp)(v:Value):(Aj8 D a).put d v=Aj8 D (a.put d v):=by cases d<;>rfl
theorem IW {F:Fence}{n:Nat}{P:Program}{ops:Array Oper}{Q:Exit->Act->World->Prop}(D:List Deferred):∀(l:List Nat) (a:Act) (w:World),wpOpsIn F n P ops Q l a w ->
 wpOpsIn F n P ops (fun e a' w'=>∃a0,a' = Aj8 D a0/\Q e a0 w') l (Aj8 D a) w
 |[],a,w,h=>⟨a,rfl,h⟩
 |i::l,a,w,h=>by
  have ih:=IW (F:=F) (n:=n) (P:=P) (ops:=ops) (Q:=Q) D l;simp only[wpOpsIn]at h⊢;have e1:(Aj8 D a).eval=a.eval:=by funext x;cases x<;>rfl
  have e2:(Aj8 D a).tmps=a.tmps:=rfl;cases j:ops[i]? with
  |none=>simp only[j]at h⊢;exact ih a w h
  |some o=>
   simp only[j]at h⊢;rw[e2,e1];by_cases hw:Region.wanted o (yielded ops a.tmps)=true
   ·rw[if_pos hw]at h⊢;refine⟨by rw[e1];exact h.1,?_⟩;have b:=h.2;rw[e1];generalize (o.semAt F.round a.eval).run P w=r at b;unfold Oper.uponIn at b⊢;split at b
    ·rw[Fw];exact ih _ _ b
    ·rw[Fw];exact ih _ _ b
    ·exact ih _ _ b |> fun x=>by
      rename_i d w'
      have:({ (Aj8 D a)with defers:=d::(Aj8 D a).defers }:Act).put o.dst undef=Aj8 D (({ a with defers:=d::a.defers }:Act).put o.dst undef):=by rw[<- Fw];rfl
      rw[this];exact x
    ·refine⟨b.1,b.2.mono ?_⟩;intro e w' f;cases e with
     |returned v=>have:=ih _ _ f;rw[<- Fw]at this;exact this
     |panicked ch=>exact⟨a,rfl,f⟩
     |outgrown=>obtain⟨a1,w1,g⟩:=f;exact⟨Aj8 D a1,w1,a1,rfl,g⟩
    ·refine⟨b.1,fun c cs m=>?_⟩;obtain⟨v,w',g1,g2⟩:=b.2 c cs m;exact⟨v,w',by have:=ih _ _ g1;rw[<- Fw]at this;exact this,g2⟩
    ·refine⟨b.1,b.2.mono ?_⟩;intro e w' f;cases e with
     |returned v=>have:=ih _ _ f;rw[<- Fw]at this;exact this
     |panicked ch=>exact⟨a,rfl,f⟩
     |outgrown=>obtain⟨a1,w1,g⟩:=f;exact⟨Aj8 D a1,w1,a1,rfl,g⟩
    ·exact⟨a,rfl,b⟩
    ·exact b.elim
   ·rw[if_neg hw]at h⊢;rw[Fw];exact⟨h.1,ih _ _ h.2⟩
section
variable {P:Program}{C:Ctx}{st:St}{rho:Nat->Value}
theorem Fx {fn:Func}{R:Ending->World->Prop}{u:FrameMode}(c:u ≠ .run){tmps:Array Value}{D:List Deferred}(b:∀a w,Sat C st a w rho->a.tmps=tmps->LeavesInM Fence.wide 0 P fn tmps R D u w) :∀(ds:List Deferred) (a:Act) (w:World),a.defers=ds->a.tmps=tmps->Sat C st a w rho->LeavesInM Fence.wide 0 P fn tmps R (ds++D) u w
 |[],a,w,hd,ht,h=>b a w h ht
 |d::ds,a,w,hd,ht,h=>by obtain⟨r,w',h1,f,g⟩:=h.unmark hd;exact⟨c,.inl ⟨r,w',h1,f,Fx c b ds { a with defers:=ds } w' rfl ht g⟩⟩
end
end Go.AM
namespace Go.AM
structure A3 where
 Langs:Int
 Has:(Sl Int)
 deriving Inhabited
abbrev E2 (x:A3):List PV:=[(pI .i64 x.Langs),vSl 1 (cI .u64) x.Has]
structure N4 where
 Langs:Int
 Has:(Sl Int)
 deriving Inhabited
abbrev Mt (x:N4):List PV:=[(pI .i64 x.Langs),vSl 1 (cI .u64) x.Has]
structure K7 where
 a0:Int
 a1:Int
 deriving Inhabited,DecidableEq
abbrev Q3 (x:K7):List PV:=[(pI .i64 x.a0),pI .i64 x.a1]
structure M9 where
 Parent:Int
 Name:Str
 deriving Inhabited,DecidableEq
abbrev J1 (x:M9):List PV:=[(pI .i64 x.Parent),.str x.Name]
structure Sound where
 Plus:Int
 Minus:Int
 deriving Inhabited,DecidableEq
abbrev A0 (x:Sound):List PV:=[(pI .u32 x.Plus),pI .u32 x.Minus]
inductive Pat where
 |nil
 |mk (Kind:Int) (Is:Sound) (Not:Bool) (Min:Int) (Max:Int) (n:Nat) (g:Nat->Pat)
instance:Inhabited Pat:=⟨.nil⟩
def Pat.Kind:Pat->Int
 |.nil=>0
 |.mk x _ _ _ _ _ _=>x
def Pat.Is:Pat->Sound
 |.nil=>default
 |.mk _ x _ _ _ _ _=>x
def Pat.Not:Pat->Bool
 |.nil=>false
 |.mk _ _ x _ _ _ _=>x
def Pat.Min:Pat->Int
 |.nil=>0
 |.mk _ _ _ x _ _ _=>x
def Pat.Max:Pat->Int
 |.nil=>0
 |.mk _ _ _ _ x _ _=>x
def Pat.L:Pat->Sl Pat
 |.nil=>⟨0,fun _=>.nil⟩
 |.mk _ _ _ _ _ n g=>⟨n,g⟩
def Bs:Pat->Nat->List PV
 |.nil=>fun _=>[]
 |.mk _ _ _ _ _ n g=>fun i=>[(pI .i64 (g i).Kind),pI .u32 (g i).Is.Plus,pI .u32 (g i).Is.Minus,.bb (g i).Not,pI .i64 (g i).Min,pI .i64 (g i).Max,.sl false 7 (g i).L.n (Bs (g i))]
abbrev B3 (x:Pat):List PV:=[(pI .i64 x.Kind),pI .u32 x.Is.Plus,pI .u32 x.Is.Minus,.bb x.Not,pI .i64 x.Min,pI .i64 x.Max,.sl false 7 x.L.n (Bs x)]
theorem K8 (x:Pat):∀i,i<x.L.n->Bs x i=B3 (x.L.g i):=by
 cases x with
 |nil=>intro i a;exact absurd (show i<0 from a) (by omega)
 |mk Kind Is Not Min Max n g=>exact fun _ _=>rfl
structure Bt where
 From:Int
 Clear:Int
 Set:Sound
 Take:Int
 Of:Int
 deriving Inhabited,DecidableEq
abbrev P8 (x:Bt):List PV:=[(pI .i64 x.From),pI .u32 x.Clear,pI .u32 x.Set.Plus,pI .u32 x.Set.Minus,pI .u32 x.Take,pI .i64 x.Of]
structure Law where
 Name:Str
 Left:Pat
 Right:Pat
 If:(Sl Sound)
 Out:(Sl Bt)
 Mode:Int
 deriving Inhabited
abbrev B4 (x:Law):List PV:=[(.str x.Name),pI .i64 x.Left.Kind,pI .u32 x.Left.Is.Plus,pI .u32 x.Left.Is.Minus,.bb x.Left.Not,pI .i64 x.Left.Min,pI .i64 x.Left.Max,.sl false 7 x.Left.L.n (Bs x.Left),pI .i64 x.Right.Kind,pI .u32 x.Right.Is.Plus,pI .u32 x.Right.Is.Minus,.bb x.Right.Not,pI .i64 x.Right.Min,pI .i64 x.Right.Max,.sl false 7 x.Right.L.n (Bs x.Right),vSl 2 A0 x.If,vSl 6 P8 x.Out,pI .i64 x.Mode]
structure B0 where
 Tree:(Sl M9)
 Laws:(Sl Law)
 On:(Sl (Sl Int))
 deriving Inhabited
abbrev A8 (x:B0):List PV:=[(vSl 2 J1 x.Tree),vSl 18 B4 x.Laws,vSl 1 (cL 1 (cI .i64)) x.On]
inductive Part where
 |nil
 |sound (x:Sound) (no:Bool)
 |edge (e:Bool)
 |seq (n:Nat) (g:Nat->Part)
 |alt (n:Nat) (g:Nat->Part)
 |rep (o:Part) (mn mx:Int)
instance:Inhabited Part:=⟨.nil⟩
def Part.t:Part->Nat
 |.nil=>0
 |.sound _ _=>276
 |.edge _=>278
 |.seq _ _=>283
 |.alt _ _=>280
 |.rep _ _ _=>282
def Part.v:Part->PV
 |.nil=>.bb false
 |.sound x no=>.agg [pI .u32 x.Plus,pI .u32 x.Minus,.bb no]
 |.edge e=>.agg [.bb e]
 |.seq n g=>.agg [.sl false 1 n fun i=>[.iface (g i).t (g i).v]]
 |.alt n g=>.agg [.sl false 1 n fun i=>[.iface (g i).t (g i).v]]
 |.rep o mn mx=>.agg [.iface o.t o.v,pI .i64 mn,pI .i64 mx]
abbrev Gz (x:Part):PV:=.iface x.t x.v
abbrev EO (x:Part):List PV:=[Gz x]
structure Aj9 where
 is:Sound
 not:Bool
 deriving Inhabited,DecidableEq
abbrev XY (x:Aj9):List PV:=[(pI .u32 x.is.Plus),pI .u32 x.is.Minus,.bb x.not]
structure AL7 where
 end_:Bool
 deriving Inhabited,DecidableEq
abbrev AL8 (x:AL7):List PV:=[(.bb x.end_)]
structure Palt where
 l:(Sl Part)
 deriving Inhabited
abbrev AW2 (x:Palt):List PV:=[(vSl 1 EO x.l)]
structure AW3 where
 of:Part
 min:Int
 max:Int
 deriving Inhabited
abbrev AW4 (x:AW3):List PV:=[(Gz x.of),pI .i64 x.min,pI .i64 x.max]
structure Pseq where
 l:(Sl Part)
 deriving Inhabited
abbrev AW5 (x:Pseq):List PV:=[(vSl 1 EO x.l)]
end Go.AM
namespace Go.AM
open Go.Proofs
abbrev CJ:Nat:=6
abbrev Mu:Nat:=15
abbrev HG:Nat:=17
abbrev EP:Nat:=19
abbrev IX:Nat:=21
abbrev AD:Nat:=23
abbrev U3:Nat:=24
abbrev PG:Nat:=25
abbrev KI:Nat:=26
abbrev Mv:Nat:=28
abbrev KJ:Nat:=29
abbrev IY:Nat:=31
abbrev Mw:Nat:=32
abbrev HH:Nat:=33
abbrev Mx:Nat:=35
abbrev IZ:Nat:=40
abbrev O9:Nat:=42
abbrev S7:Nat:=45
abbrev Ja:Nat:=49
abbrev My:Nat:=54
abbrev Aq:Nat:=56
abbrev Bb:Nat:=57
abbrev FU:Nat:=58
abbrev EQ:Nat:=59
abbrev DC:Nat:=61
abbrev Mz:Nat:=62
abbrev K9:Nat:=64
abbrev GA:Nat:=65
abbrev MB:Nat:=67
abbrev MC:Nat:=68
abbrev PH:Nat:=69
abbrev GB:Nat:=70
abbrev HI:Nat:=71
abbrev HJ:Nat:=72
abbrev KK:Nat:=73
abbrev PI:Nat:=74
abbrev KL:Nat:=75
abbrev HK:Nat:=76
abbrev GC:Nat:=77
abbrev GD:Nat:=78
abbrev MF:Nat:=79
abbrev HL:Nat:=80
abbrev MG:Nat:=81
abbrev Bc:Nat:=82
abbrev CM:Nat:=83
abbrev Fy:Nat:=85
abbrev MH:Nat:=87
abbrev KM:Nat:=89
abbrev Jb:Nat:=90
abbrev HM:Nat:=92
abbrev Jc:Nat:=93
abbrev HN:Nat:=94
abbrev N0:Nat:=97
abbrev G1:Nat:=98
abbrev P0:Nat:=99
abbrev PJ:Nat:=100
abbrev MI:Nat:=101
abbrev MJ:Nat:=102
abbrev Hl:Nat:=103
abbrev Fz:Nat:=104
abbrev GE:Nat:=105
abbrev HO:Nat:=106
abbrev PK:Nat:=107
abbrev KN:Nat:=108
abbrev HP:Nat:=111
abbrev FV:Nat:=112
abbrev ML:Nat:=113
abbrev XZ:Nat:=114
abbrev S0:Nat:=115
abbrev Cw:Nat:=116
abbrev Jd:Nat:=117
abbrev PL:Nat:=118
abbrev Je:Nat:=119
abbrev Jf:Nat:=120
abbrev MM:Nat:=121
abbrev KO:Nat:=122
abbrev I6:Nat:=123
abbrev J5:Nat:=124
abbrev KP:Nat:=125
abbrev GG:Nat:=126
abbrev BD:Nat:=127
abbrev FX:Nat:=128
abbrev CZ:Nat:=132
abbrev PM:Nat:=133
abbrev PN:Nat:=134
abbrev MP:Nat:=135
abbrev MQ:Nat:=136
abbrev PO:Nat:=137
abbrev HQ:Nat:=139
abbrev I8:Nat:=140
abbrev S8:Nat:=141
abbrev I0:Nat:=142
abbrev MR:Nat:=143
abbrev PP:Nat:=144
abbrev Ya:Nat:=145
abbrev U5:Nat:=146
abbrev Et:Nat:=147
abbrev HR:Nat:=148
abbrev O1:Nat:=149
abbrev J2:Nat:=150
abbrev N5:Nat:=151
abbrev Jg:Nat:=152
abbrev Z9:Nat:=153
abbrev H2:Nat:=154
abbrev Q4:Nat:=155
abbrev KQ:Nat:=156
abbrev Hm:Nat:=157
abbrev J6:Nat:=159
abbrev FZ:Nat:=160
abbrev HS:Nat:=161
abbrev PQ:Nat:=162
abbrev KR:Nat:=163
abbrev KS:Nat:=171
abbrev E8:Nat:=172
abbrev PS:Nat:=173
abbrev N7:Nat:=174
abbrev Q0:Nat:=175
abbrev MS:Nat:=176
abbrev MT:Nat:=177
abbrev MU:Nat:=182
abbrev MV:Nat:=183
abbrev PT:Nat:=184
abbrev MW:Nat:=185
abbrev MX:Nat:=189
abbrev TD:Nat:=190
abbrev MY:Nat:=191
abbrev FA:Nat:=196
abbrev PU:Nat:=197
abbrev L0:Nat:=198
abbrev TE:Nat:=199
abbrev TF:Nat:=200
abbrev Jh:Nat:=201
abbrev MZ:Nat:=202
abbrev TG:Nat:=203
abbrev Na:Nat:=204
abbrev PW:Nat:=205
abbrev Eg:Nat:=207
abbrev KT:Nat:=208
abbrev ER:Nat:=209
abbrev H6:Nat:=210
abbrev HT:Nat:=211
abbrev KU:Nat:=212
abbrev TL:Nat:=213
abbrev TM:Nat:=214
abbrev Ji:Nat:=215
abbrev V4:Nat:=217
abbrev Jj:Nat:=218
abbrev Nb:Nat:=219
abbrev Nc:Nat:=220
abbrev Nd:Nat:=221
abbrev GI:Nat:=222
abbrev KV:Nat:=223
abbrev PX:Nat:=224
abbrev KW:Nat:=225
abbrev PY:Nat:=226
abbrev Jk:Nat:=227
abbrev Jl:Nat:=228
abbrev HU:Nat:=229
abbrev TP:Nat:=230
abbrev PZ:Nat:=231
abbrev FB:Nat:=232
abbrev TQ:Nat:=233
abbrev GJ:Nat:=234
abbrev Cs:Nat:=235
abbrev AW:Nat:=236
abbrev Jm:Nat:=237
abbrev GK:Nat:=238
abbrev Qa:Nat:=239
abbrev KX:Nat:=240
abbrev Qb:Nat:=241
abbrev Ni:Nat:=242
abbrev Cx:Nat:=259
abbrev DE:Nat:=260
abbrev Eu:Nat:=261
abbrev FC:Nat:=262
abbrev Eh:Nat:=263
abbrev FD:Nat:=264
abbrev GM:Nat:=265
abbrev Au:Nat:=266
abbrev FE:Nat:=267
abbrev C6:Nat:=3
abbrev AE5:Nat:=4
abbrev Ct:Nat:=9
abbrev RA:Nat:=29
abbrev DF:Nat:=30
abbrev RB:Nat:=42
abbrev C5:Nat:=44
abbrev Ei:Nat:=51
abbrev RC:Nat:=54
abbrev A9:Nat:=76
abbrev B5:Nat:=87
abbrev Kf:Nat:=95
abbrev ES:Nat:=121
abbrev ET:Nat:=124
abbrev Ak8:Nat:=155
abbrev Wi:Nat:=269
end Go.AM
namespace Go.AM
open IntKind (wrap)
abbrev U (x:BitVec 64):Int:=(x.toNat:Int)
theorem Jo {n:Nat}(h:n<2 ^ 64):IntKind.u64.wrap (n:Int)=n:=by have h1:((n:Int) % (2 ^ 64:Int))=n:=Bj7 (by omega) (by omega);unfold wrap;simp only[IntKind.bits,IntKind.signed,h1,Bj1,AZ9,if_false]
theorem Wj (x:BitVec 64):BitVec.ofInt 64 (U x)=x:=by
 apply Bb9;rw[Br1]
 have:=x.isLt
 show ((x.toNat:Int) % ((2 ^ 64:Nat):Int)).toNat=x.toNat;omega
theorem and64 (x y:BitVec 64):D2 .and .u64 (U x) (U y)=U (x &&& y):=by simp only[D2,IntKind.bits,Wj];exact Jo (x &&& y).isLt
theorem AL9 (x y:BitVec 64):D2 .or .u64 (U x) (U y)=U (x ||| y):=by simp only[D2,IntKind.bits,Wj];exact Jo (x ||| y).isLt
theorem Ax3 (x y:BitVec 64):D2 .andNot .u64 (U x) (U y)=U (x &&& ~~~ y):=by simp only[D2,IntKind.bits,Wj];exact Jo (x &&& ~~~ y).isLt
theorem shr64 (x:BitVec 64)(n:Nat):shI .shr .u64 (U x) n=U (x >>> n):=by
 simp only[shI,IntKind.bits,AZ1];have hx:=x.isLt;show Int.fdiv (x.toNat:Int) (2 ^ min n 64)=((x >>> n).toNat:Int);rw[Bk5,Bk2];have e:((2:Int) ^ (min n 64))=((2 ^ (min n 64):Nat):Int):=by norm_cast
 rw[e,Bn1 _ (Br2 _),<- Int.natCast_ediv];congr 1;by_cases h:n<=64
 ·rw[Bg4 h]
 ·rw[Bm0 (by omega),Bh0 hx,Bh0];exact Bb2 hx (Bi3 (by omega) (by omega))
theorem AW6:(1:Int)=U 1#64:=rfl
theorem Nl (n:Nat)(h:n<64):shI .shl .u64 1 n=U (1#64 <<< n):=by
 simp only[shI,IntKind.bits,AZ1];rw[Bg4 (by omega)];show wrap .u64 (1*2 ^ n)=((1#64 <<< n).toNat:Int);rw[Bo9,Nat.shiftLeft_eq];have h1:(2:Nat) ^ n<2 ^ 64:=Nat.pow_lt_pow_right (by omega) h;have e:((1:Int)*2 ^ n)=((2 ^ n:Nat):Int):=by norm_cast;omega
 rw[e,Jo h1]
 norm_cast
 rw[Bh7]
 ·simp
 ·simpa using h1
theorem Wk {i:Nat}:(1#64).getLsbD i=decide (i=0):=by rw[Bn3];simp
theorem GN {n i:Nat}(h:n<64)(a:i<64):(1#64 <<< n).getLsbD i=decide (i=n):=by rw[Bo0,Wk,Bc4];simp only[AZ6,Bb8,decide_eq_true_eq,decide_eq_false_iff_not];omega
theorem bit64 (x:BitVec 64)(i:Nat):(D2 .and .u64 (shI .shr .u64 (U x) (i:Int)) 1==1)=x.getLsbD i:=by
 rw[shr64,AW6,and64];have h:(x >>> i &&& 1#64)=(BitVec.ofBool (x.getLsbD i)).setWidth 64:=by
  apply Be5;intro j b;simp only[Ba4,Bn2,Bo3,Bp6];by_cases a:j=0
  ·subst a;simp
  ·have:(1#64).getLsbD j=false:=by rw[Wk];simp[a]
   simp[this,a]
 rw[h];cases x.getLsbD i<;>rfl
theorem Ax4 {x y:BitVec 64}(h:∀b,b<64->(x.getLsbD b=true↔y.getLsbD b=true)):x=y:=
 Be5 fun b hb=>Bc4.2 (h b hb)
def HV (n:Nat)(R:Nat->Nat->Prop):Nat->Nat->Nat->Prop
 |0=>fun a b=>a=b
 |k+1=>fun a b=>∃c,c<=n/\HV n R k a c/\R c b
def ZN (n:Nat)(Q:Nat->Nat->Nat->Prop):Nat->Nat->Nat->Prop
 |0=>fun a b=>a=b
 |i+1=>fun a b=>∃c,c<=n/\ZN n Q i a c/\Q i c b
def Fwd (n:Nat)(R:Nat->Nat->Prop):Prop:=∀a b,a<=n->R a b->a<=b/\b<=n
theorem Jp {n:Nat}{R:Nat->Nat->Prop}(h:Fwd n R):∀k,Fwd n (HV n R k)
 |0,a,b,ha,hb=>by obtain rfl:a=b:=hb;exact⟨AZ7 _,ha⟩
 |k+1,a,b,ha,⟨c,hc,h1,h2⟩=>by have g1:=Jp h k a c ha h1;have g2:=h c b hc h2;exact⟨by omega,g2.2⟩
theorem Yb {n:Nat}{Q:Nat->Nat->Nat->Prop}:∀k,(∀i,i<k->Fwd n (Q i))->Fwd n (ZN n Q k)
 |0,_,a,b,ha,hb=>by obtain rfl:a=b:=hb;exact⟨AZ7 _,ha⟩
 |k+1,h,a,b,ha,⟨c,hc,h1,h2⟩=>by have g1:=Yb k (fun i d=>h i (by omega)) a c ha h1;have g2:=h k (by omega) c b hc h2;exact⟨by omega,g2.2⟩
theorem Ej {n:Nat}{R:Nat->Nat->Prop}(h:Fwd n R)(j:Nat){a:Nat}(ha:a<=n):∀k b,HV n R (j+k) a b ↔ ∃c,c<=n/\HV n R j a c/\HV n R k c b
 |0,b=>⟨fun hp=>⟨b,(Jp h j a b ha hp).2,hp,rfl⟩,fun⟨c,_,hp,e⟩=>by obtain rfl:c=b:=e;exact hp⟩
 |k+1,b=>by
  constructor
  ·rintro⟨d,f,h1,g⟩;obtain⟨c,hc,g1,g2⟩:=(Ej h j ha k d).1 h1;exact⟨c,hc,g1,d,f,g2,g⟩
  ·rintro⟨c,hc,g1,d,f,g2,g⟩;exact⟨d,f,(Ej h j ha k d).2 ⟨c,hc,g1,g2⟩,g⟩
theorem Qc {n:Nat}{R:Nat->Nat->Prop}(h:Fwd n R){a:Nat}(ha:a<=n):∀k b,HV n R (k+1) a b->HV n R k a b \/ a+(k+1)<=b
 |0,b,⟨c,hc,h1,h2⟩=>by
  obtain rfl:a=c:=h1;by_cases e:a=b
  ·exact .inl e
  ·have:=(h a b ha h2).1;exact .inr (by omega)
 |k+1,b,⟨c,hc,h1,h2⟩=>by
  by_cases e:c=b
  ·subst e;exact .inl h1
  ·have:=(h c b hc h2).1
   rcases Qc h ha k c h1 with g|g
   ·exact .inl ⟨c,hc,g,h2⟩
   ·exact .inr (by omega)
theorem TT {n:Nat}{R:Nat->Nat->Prop}(h:Fwd n R){a:Nat}(ha:a<=n){k b:Nat}(hk:n<=k)(hp:HV n R (k+1) a b):HV n R k a b:=by
 rcases Qc h ha k b hp with g|g
 ·exact g
 ·have:=(Jp h (k+1) a b ha hp).2;omega
theorem TU {n:Nat}{R:Nat->Nat->Prop}(h:Fwd n R){a:Nat}(ha:a<=n){b:Nat}:∀k,HV n R k a b->∃j,j<=n/\HV n R j a b
 |0,hp=>⟨0,Bh1 _,hp⟩
 |k+1,hp=>by
  by_cases hk:n<=k
  ·exact TU h ha k (TT h ha hk hp)
  ·exact⟨k+1,by omega,hp⟩
theorem Nm {n:Nat}{R:Nat->Nat->Prop}(h:Fwd n R){a:Nat}(ha:a<=n):∀k b,HV n (fun x y=>R x y \/ x=y) k a b ↔ ∃j,j<=k/\HV n R j a b
 |0,b=>⟨fun e=>⟨0,AZ7 _,e⟩,fun⟨j,f,hp⟩=>by
  obtain rfl:j=0:=by omega
  exact hp⟩
 |k+1,b=>by
  constructor
  ·rintro⟨c,hc,h1,d⟩;obtain⟨j,f,hp⟩:=(Nm h ha k c).1 h1;rcases d with d|d
   ·exact⟨j+1,by omega,c,hc,hp,d⟩
   ·subst d;exact⟨j,by omega,hp⟩
  ·rintro⟨j,f,hp⟩;by_cases e:j<=k
   ·have hb:=(Jp h j a b ha hp).2;exact⟨b,hb,(Nm h ha k b).2 ⟨j,e,hp⟩,.inr rfl⟩
   ·obtain rfl:j=k+1:=by omega
    obtain⟨c,hc,h1,d⟩:=hp;exact⟨c,hc,(Nm h ha k c).2 ⟨k,AZ7 _,h1⟩,.inl d⟩
def Wl (s c:Sound):Bool:=(D2 .and .u32 s.Plus c.Plus==c.Plus)&&(D2 .and .u32 s.Minus c.Minus==c.Minus)
def PR (w:Sl Sound):Pat->Nat->Nat->Prop
 |.nil=>fun a b=>a=b
 |.mk kind is no mn mx m g=>fun a b=>
  if kind=0 then a=b
  else if kind=1 then a<w.n/\b=a+1/\(Wl (w.g a) is != no)=true
  else if kind=2 then a=0/\b=0
  else if kind=6 then a=w.n/\b=w.n
  else if kind=3 then ZN w.n (fun i=>PR w (g i)) m a b
  else if kind=4 then ∃i,i<m/\PR w (g i) a b
  else if kind=5 then ∃k:Nat,mn<=k/\(mx = -1 \/ (k:Int)<=mx)/\HV w.n (PR w (g 0)) k a b
  else False
theorem TV (w:Sl Sound):∀p:Pat,Fwd w.n (PR w p)
 |.nil,a,b,ha,h=>by obtain rfl:a=b:=h;exact⟨AZ7 _,ha⟩
 |.mk kind is no mn mx m g,a,b,ha,h=>by
  simp only[PR]at h;split at h
  ·subst h;exact⟨AZ7 _,ha⟩
  split at h
  ·obtain⟨h1,d,_⟩:=h;omega
  split at h
  ·omega
  split at h
  ·omega
  split at h
  ·exact Yb m (fun i _=>TV w (g i)) a b ha h
  split at h
  ·obtain⟨i,_,c⟩:=h;exact TV w (g i) a b ha c
  split at h
  ·obtain⟨k,_,_,hk⟩:=h;exact Jp (TV w (g 0)) k a b ha hk
  ·exact h.elim
def TabR (n:Nat)(R:Nat->Nat->Prop)(f:Nat->Int):Prop:=∀a,a<=n->∃x:BitVec 64,f a=U x/\∀b,b<64->(x.getLsbD b=true↔b<=n/\R a b)
theorem TabR.congr {n:Nat}{R R' : Nat->Nat->Prop}{f:Nat->Int}(h:TabR n R f)(d:∀a b,a<=n->b<=n->(R a b↔R' a b)):TabR n R' f:=fun a ha=>by obtain⟨x,e,hx⟩:=h a ha;refine⟨x,e,fun b hb=>(hx b hb).trans ⟨fun⟨h1,c⟩=>⟨h1,(d a b ha h1).1 c⟩,fun⟨h1,c⟩=>⟨h1,(d a b ha h1).2 c⟩⟩⟩
theorem TabR.uniq {n:Nat}{R:Nat->Nat->Prop}{f g:Nat->Int}(h:TabR n R f)(h' : TabR n R g){a:Nat}(ha:a<=n):f a=g a:=by obtain⟨x,e,hx⟩:=h a ha;obtain⟨y,e',hy⟩:=h' a ha;rw[e,e',Ax4 fun b hb=>(hx b hb).trans (hy b hb).symm]
theorem TabR.bit {n:Nat}{R:Nat->Nat->Prop}{f:Nat->Int}(h:TabR n R f){a b:Nat}(ha:a<=n)(hb:b<64):(D2 .and .u64 (shI .shr .u64 (f a) (b:Int)) 1==1)=true↔b<=n/\R a b:=by obtain⟨x,e,hx⟩:=h a ha;rw[e,bit64];exact hx b hb
end Go.AM
namespace Go.AM
open Go.Proofs
abbrev Ax5:List AV:=[.reg 0 0,.reg 1 0,.reg 2 0,.reg 3 0]
abbrev Wm (c:Int)(a:Sl Law)(b:Sl Sound)(y:PV):List Obj:=[.cells [pN c],.cells [.p (vSl 18 B4 a)],.cells [.p (vSl 2 A0 b)],.cells [.p y]]
def byB (x:Int)(i:Nat):UInt8:=UInt8.ofNat (x / 2 ^ (8*i) % 256).toNat
def TW (s:Int×Int)(q:Nat):List UInt8:=(List.range q).flatMap fun i=>[byB s.1 i,byB s.2 i]
def Oa (g:Nat->Int×Int)(n:Nat):List UInt8:=(List.range n).flatMap fun i=>TW (g i) 4
def Jq (w:Sl Sound):Str:=Oa (fun i=>((w.g i).Plus,(w.g i).Minus)) w.n
structure Qd (S:Az):Prop where
 attR:∀{a:Sl Law}{b y:Sl Sound},FunO S I0 [.p (vSl 18 B4 a),.p (vSl 2 A0 b)] [] (.p (vSl 2 A0 y)) [] []->FunO S I8 Ax5 (Wm 0 a b G6) (.tup []) (Wm 0 a b (vSl 2 A0 y)) [true,true,true,true]
 attP:∀{a:Sl Law}{b:Sl Sound}{c:Int},(S.F I0 [.p (vSl 18 B4 a),.p (vSl 2 A0 b)] [] fun res o k=>res=.panic (.iface 210 (pI .i64 c))/\o=[]/\k=[])->FunO S I8 Ax5 (Wm 0 a b G6) (.tup []) (Wm c a b G6) [true,true,true,true]
 tz:∀x:BitVec 64,Af3 S O9 [.p (pI .u64 (U x))] (.p (pI .i64 (Lib.ctz 64 x.toNat:Nat)))
 trim:∀s c:Str,s.length<1000000000000->c.length<1000000->(∀b∈c,b.toNat<128)->Af3 S Et [.p (.str s),.p (.str c)] (.p (.str (Lib.trimS s c)))
 growS:∀(f:Nat->List PV) (n:Nat),n*8<=140737488355328->FunO S H6 [.p G6,.p (pI .i64 (n:Int))] [] (.vec 0) [.vec B5 2 0 f false] []
 text:∀(w:Sl Sound) (e:Int),w.n*8<=140737488355328->Af3 S GC [.p (vSl 2 A0 w),.p (pI .i64 e)] (.p (.str (if e=0 then Jq w else [45])))
def F1 (N:Nat)(x:Int):Option Int:=if 0<=x/\x<18446744073709551616 then some ((Lib.ctz 64 x.toNat:Nat):Int)else none
def Ev (N:Nat)(s c:Str):Option Str:=if s.length<1000000000000/\c.length<1000000/\(c.all fun b=>decide (b.toNat<128)) then some (Lib.trimS s c)else none
def H7 (N:Nat)(n:Int):Option (Sl Sound):=if 0<=n/\n*8<=140737488355328 then some (Sl.nil:Sl Sound)else none
section
variable {S:Az}(hS:H5 S Tryz.prog) (hL:Qd S)
include hS hL
theorem X5 {N:Nat}{x y:Int}(h:F1 N x=some y):FunO S O9 [.p (pI .u64 x)] [] (.p (pI .i64 y)) [] []:=by
 obtain⟨⟨a,h1⟩,h⟩:=D5 h;obtain rfl:=B6 h
 have:=hL.tz (BitVec.ofNat 64 x.toNat)
 have e:(BitVec.ofNat 64 x.toNat).toNat=x.toNat:=by rw[Bn4];omega
 have e2:U (BitVec.ofNat 64 x.toNat)=x:=by show ((BitVec.ofNat 64 x.toNat).toNat:Int)=x;rw[e];omega
 rw[e,e2]at this;exact this
theorem OH {N:Nat}{s c:Str}{y:Str}(h:Ev N s c=some y):FunO S Et [.p (.str s),.p (.str c)] [] (.p (.str y)) [] []:=by obtain⟨⟨a,h1,d⟩,h⟩:=D5 h;obtain rfl:=B6 h;exact hL.trim s c a h1 fun b hb=>by simpa using Ba9.1 d b hb
theorem AG {N:Nat}{n:Int}{y:Sl Sound}(h:H7 N n=some y):FunO S H6 [.p G6,.p (pI .i64 n)] [] (.vec 0) [.vec B5 2 y.n (fun i=>A0 (y.g i)) false] []:=by
 obtain⟨⟨a,h1⟩,h⟩:=D5 h;obtain rfl:=B6 h
 have:=hL.growS (fun i=>A0 default) n.toNat (by omega)
 rw[show ((n.toNat:Nat):Int)=n by omega]at this;exact this
def A6 (N:Nat)(s:Sl Sound):Option (Sl Sound):=if (0+s.n)*8<=140737488355328/\0+s.n<=140737488355328 then some s else none
theorem N8 {N:Nat}{s y:Sl Sound}(h:A6 N s=some y):FunO S H2 [.p (vSl 2 A0 s)] [] (.vec 0) [.vec B5 2 y.n (fun i=>A0 (y.g i)) true] []:=by
 unfold A6 at h;obtain⟨c1,h⟩:=D5 h;obtain rfl:=B6 h;refine A1 hS Tryz.func154 ?_;refine AK8 hS trivial 3 (k:=2) (n:=s.n) (f:=fun i=>A0 (s.g i)) (fun a=>?_) ?_
 ·obtain⟨n,g⟩:=s;obtain rfl:n=0:=a;exact A5 hS trivial ⟨[(2,.vec 3700)],[(3700,.vec B5 2 0 (fun i=>A0 (g i)) true)]⟩ [3700] (ids:=[]) ⟨rfl,rfl,rfl⟩
 ·exact A5 hS (And.intro (rfl:true=true) c1) ⟨[(2,.vec 8000)],[(8000,.vec B5 2 s.n (fun i=>A0 (s.g i)) true)]⟩ [8000] (ids:=[(8000,8000)]) ⟨rfl,rfl,rfl⟩
   (hle:=klR [(0,.fn (0+s.n) s.n (R9 0 (D7 [pI .u32 0,pI .u32 0] []) (fun i=>A0 (s.g i))) (fun i=>A0 (s.g i)))] (al1 ⟨Bc7 _,fun i _=>by simp[R9]⟩ al0))
def F8 (N:Nat)(s:Sl Bt):Option (Sl Bt):=if (0+s.n)*32<=140737488355328/\0+s.n<=140737488355328 then some s else none
theorem Ac {N:Nat}{s y:Sl Sound}(h:A6 N s=some y):FunO S H2 [.p (vSl 2 A0 s)] [] (.p (vSl 2 A0 y)) [] []:=by
 unfold A6 at h;obtain⟨c1,h⟩:=D5 h;obtain rfl:=B6 h;refine A1 hS Tryz.func154 ?_;refine AK8 hS trivial 3 (k:=2) (n:=s.n) (f:=fun i=>A0 (s.g i)) (fun a=>?_) ?_
 ·obtain⟨n,g⟩:=s;obtain rfl:n=0:=a;exact A5 hS trivial ⟨[(2,.p (vSl 2 A0 ⟨0,g⟩))],[]⟩ [] (ids:=[]) ⟨rfl,rfl,rfl⟩
 ·exact A5 hS (And.intro (rfl:true=true) c1) ⟨[(2,.p (vSl 2 A0 s))],[]⟩ [] (ids:=[]) ⟨rfl,rfl,rfl⟩
   (hle:=klR [(0,.fn (0+s.n) s.n (R9 0 (D7 [pI .u32 0,pI .u32 0] []) (fun i=>A0 (s.g i))) (fun i=>A0 (s.g i)))] (al1 ⟨Bc7 _,fun i _=>by simp[R9]⟩ al0))
theorem Bu {N:Nat}{s y:Sl Bt}(h:F8 N s=some y):FunO S Q4 [.p (vSl 6 P8 s)] [] (.p (vSl 6 P8 y)) [] []:=by
 unfold F8 at h;obtain⟨c1,h⟩:=D5 h;obtain rfl:=B6 h;refine A1 hS Tryz.func155 ?_;refine AK8 hS trivial 3 (k:=6) (n:=s.n) (f:=fun i=>P8 (s.g i)) (fun a=>?_) ?_
 ·obtain⟨n,g⟩:=s;obtain rfl:n=0:=a;exact A5 hS trivial ⟨[(2,.p (vSl 6 P8 ⟨0,g⟩))],[]⟩ [] (ids:=[]) ⟨rfl,rfl,rfl⟩
 ·exact A5 hS (And.intro (rfl:true=true) c1) ⟨[(2,.p (vSl 6 P8 s))],[]⟩ [] (ids:=[]) ⟨rfl,rfl,rfl⟩
   (hle:=klR [(0,.fn (0+s.n) s.n (R9 0 (D7 [pI .i64 0,pI .u32 0,pI .u32 0,pI .u32 0,pI .u32 0,pI .i64 0] []) (fun i=>P8 (s.g i))) (fun i=>P8 (s.g i)))] (al1 ⟨Bc7 _,fun i _=>by simp[R9]⟩ al0))
def Cy (N:Nat)(w:Sl Sound)(e:Int):Option Str:=if w.n*8<=140737488355328 then some (if e=0 then Jq w else [45])else none
theorem TX {N:Nat}{w:Sl Sound}{e:Int}{y:Str}(h:Cy N w e=some y):FunO S GC [.p (vSl 2 A0 w),.p (pI .i64 e)] [] (.p (.str y)) [] []:=by unfold Cy at h;obtain⟨c1,h⟩:=D5 h;obtain rfl:=B6 h;exact hL.text w e c1
end
end Go.AM
set_option maxRecDepth 100000
namespace Go.AM
open Go.Proofs
theorem ZO (v:Value)(w:World):(Instr.typeAssert (.iface 210 v) 20 210 true).run Tryz.prog w=.ok (.tuple #[v,.bool true]) w:=by kernel_rfl
theorem Wn (p:Value)(w:World):CallsDIn Fence.wide 0 Tryz.prog S8 #[p] .returning w fun e u' w'=>e=.returned (.tuple #[])/\u' = .returning/\w' = w:=by
 refine callsDIn_of_wpSIn Tryz.func141 rfl (by simp[Fence.wide]) fun c₀ cs a=>?_;apply wpSIn_seq;apply wpSIn_region;simp[wpOpsSIn,go_sem,recoverD,a,Tryz.f141,Exit.thenS];refine wpSIn_of_wpIn rfl (wpIn_block (wpIn_seq (wpIn_region ?_)));simp[wpOpsIn,Oper.wpIn,Oper.semAt,Oper.uponIn,go_sem,Exit.then];refine wpIn_cond (t:=true) (by simp[Act.eval]) ?_;simp only[if_true];refine wpIn_region ?_;simp[wpOpsIn,Oper.wpIn,Oper.semAt,Oper.uponIn,go_sem,Exit.inBlock,bodyPostS,results];cases c₀
 simp_all
theorem Lp (p:Value)(c:Int)(older:List PanicEntry)(w w1:World)(a:(Instr.storeAt 30 p (.int .i64 c)).run Tryz.prog w=.ok () w1)(hn:∃b,p=.pointer (some b)) :CallsDIn Fence.wide 0 Tryz.prog S8 #[p] (.panicking ({ v:=.iface 210 (.int .i64 c),recovered:=false }::older)) w fun e u' w'=>
  e=.returned (.tuple #[])/\u' = .panicking ({ v:=.iface 210 (.int .i64 c),recovered:=true }::older)/\w' = w1:=by
 obtain⟨b,rfl⟩:=hn;refine callsDIn_of_wpSIn Tryz.func141 rfl (by simp[Fence.wide]) fun c₀ cs d=>?_;apply wpSIn_seq;apply wpSIn_region;simp[wpOpsSIn,go_sem,recoverD,d,Tryz.f141,Exit.thenS];refine wpSIn_of_wpIn rfl (wpIn_block (wpIn_seq (wpIn_region ?_)));simp[wpOpsIn,Oper.wpIn,Oper.semAt,Oper.uponIn,go_sem,Exit.then];refine wpIn_cond (t:=false) (by simp[Act.eval]) ?_;simp only[AZ9,if_false];refine wpIn_seq (wpIn_region ?_);simp[wpOpsIn,Oper.wpIn,Oper.semAt,Oper.uponIn,go_sem,Exit.then,ZO];refine wpIn_cond (t:=true) (by simp[Act.eval]) ?_;simp only[if_true];refine wpIn_seq (wpIn_region ?_);simp[wpOpsIn,Oper.wpIn,Oper.semAt,Oper.uponIn,go_sem,Exit.then];refine wpIn_region ?_;simp[wpOpsIn,Oper.wpIn,Oper.semAt,Oper.uponIn,go_sem,a,Exit.inBlock,bodyPostS,results];simp[go_sem]at a;rw[a];simp[Result.andThen]
noncomputable def AQ1:Code:=match Tryz.f140.body with
 |some (.seq _ c)=>c
 |_=>.skip
theorem AM0 {S:Az}(hS:H5 S Tryz.prog){a:Sl Law}{b y:Sl Sound}(c:FunO S I0 [.p (vSl 18 B4 a),.p (vSl 2 A0 b)] [] (.p (vSl 2 A0 y)) [] []) :KG S Tryz.prog (PD S (fun st=>J9 [0,1,2,3] st.regs [0,1,2,3]=some (Wm 0 a b (vSl 2 A0 y))) fun _ _=>False) (.code AQ1 [] ⟨argEnv Ax5,objRegs (Wm 0 a b G6)⟩):=by refine B9 hS [] trivial c ?_;exact K_upN hS trivial ⟨[],[(3,.cells [.p (vSl 2 A0 y)]),(2,.cells [.p (vSl 2 A0 b)]),(1,.cells [.p (vSl 18 B4 a)]),(0,.cells [pN 0])]⟩ (ids:=[(0,0),(1,1),(2,2),(3,3)]) rfl
theorem Ak9 {S:Az}(hS:H5 S Tryz.prog){a:Sl Law}{b:Sl Sound}{c:Int}(d:S.F I0 [.p (vSl 18 B4 a),.p (vSl 2 A0 b)] [] fun res o k=>res=.panic (.iface 210 (pI .i64 c))/\o=[]/\k=[]) :KG S Tryz.prog (PD S (fun _=>False) fun x st=>x=.iface 210 (pI .i64 c)/\store Tryz.prog st.regs 30 (.reg 0 0) (.p (pI .i64 c))=some ([],ins 0 (.cells [pN c]) st.regs)/\J9 [0,1,2,3] (ins 0 (.cells [pN c]) st.regs) [0,1,2,3]=some (Wm c a b G6)) (.code AQ1 [] ⟨argEnv Ax5,objRegs (Wm 0 a b G6)⟩):=by refine AL5 hS [] trivial d ?_;exact K_upP hS trivial ⟨rfl,by kernel_rfl,by kernel_rfl⟩
noncomputable def att1:Code:=match Tryz.f140.body with
 |some (.seq c _)=>c
 |_=>.skip
noncomputable def attOps:Array Oper:=match AQ1 with
 |.region _ ops _=>ops
 |_=>#[]
theorem Yc:AQ1=.region 1 attOps false:=by kernel_rfl
theorem AW7:attOps.toList.all (HA 7 attOps.toList)=true:=by kernel_rfl
theorem Ax6:¬Tryz.f140.name = "runtime.NumGoroutine" := by decide +kernel
theorem Yd:Tryz.f140.body=some (.seq att1 AQ1):=by kernel_rfl
theorem AM1 {C:Ctx}{vs:Array Value}{w:World}{rho:Nat->Value}{args:List AV}{objs:List Obj}{n:Nat}(hS:Sat C ⟨argEnv args,objRegs objs⟩ ⟨vs,[]⟩ w rho)(a:vs.size=args.length) :Sat C ⟨argEnv args,objRegs objs⟩ { tmps:=vs++Array.replicate n undef,defers:=[] } w rho:=by
 refine⟨hS.toSatE,fun t=>?_,hS.pin,hS.marks⟩
 have:=hS.env t
 by_cases ht:t<vs.size
 ·simpa[AZ2,Bg6,ht]using this
 ·show RepA w _ _ _ _ (get (argEnv args) t);rw[Bn,AZ0,Bd6 (by omega)];exact .top _
theorem Nn {R:St->Prop}{X:PV->St->Prop}{a:Sl Law}{b:Sl Sound}{objs' : List Obj}
 (a1:KG (Hs Tryz.prog) Tryz.prog (PD (Hs Tryz.prog) R X) (.code AQ1 [] ⟨argEnv Ax5,objRegs (Wm 0 a b G6)⟩))
 (hR:∀st,R st->J9 [0,1,2,3] st.regs [0,1,2,3]=some objs')
 (hX:∀x st,X x st->∃c regs',x=.iface 210 (pI .i64 c)/\store Tryz.prog st.regs 30 (.reg 0 0) (.p (pI .i64 c))=some ([],regs')/\J9 [0,1,2,3] regs' [0,1,2,3]=some objs') :
 FunO (Hs Tryz.prog) I8 Ax5 (Wm 0 a b G6) (.tup []) objs' [true,true,true,true]:=by
 intro 𝒢 C w vs rho hG hS t;obtain⟨l⟩:=vs
 match l,t with
 |[v0,v1,v2,v3],t=>?_
 refine⟨.enter I8 #[v0,v1,v2,v3],w,by simp[callFunc,Tryz.func140,Yd,Ax6],?_⟩;refine callsIn_of_wp_marks Tryz.func140 Yd trivial ?_;have a2:=AM1 (n:=Tryz.f140.ntmps-4) hS t;have a9:Tryz.f140.ntmps-4=3:=rfl;rw[a9]at a2;have b1:((#[v0,v1,v2,v3]:Array Value)++Array.replicate 3 undef).size=7:=rfl;have hw:JN (Hs Tryz.prog) Tryz.prog attOps.toList attOps.toList (PD (Hs Tryz.prog) R X) ⟨argEnv Ax5,objRegs (Wm 0 a b G6)⟩:=by
  have:=a1.out
  rw[Yc]at this;simpa only[G,awp,kp,AZ9,if_false]using this
 have a4:=Md (𝒢:=𝒢.fix C.rho0) (n:=7) (ro:=none) (ops:=attOps) AW7 attOps.toList 0 rfl (by simp) ⟨hG,rfl⟩ a2 b1 hw;have a5:=IW [{ target:=.fn (.func S8) #[],args:=#[v0] }] _ _ _ a4;rw[Bn7]at a5;obtain⟨b0,a6,u⟩:∃b0,v0=.pointer (some ⟨b0,0,none⟩)/\rho 0=.pointer (some ⟨b0,0,none⟩):=by
  have h0:RepA w _ _ rho v0 (.reg 0 0):=hS.env 0;cases h0 with
  |reg _ _ b0 _ h=>exact⟨b0,rfl,h⟩
 have s:∀{C' : Ctx}{st' : St}{a' : Act}{w' : World}{rho' : Nat->Value},(𝒢.fix C.rho0).G C' -> Sat C' st' a' w' rho' -> J9 [0,1,2,3] st'.regs [0,1,2,3]=some objs' ->
  LeavesInM Fence.wide 0 Tryz.prog Tryz.f140 a'.tmps (fun e w'=>∃C' r objs0 ks rho', 𝒢.G C' /\ (r=.ret (.tup [])/\objs0=objs' /\ ks=[true,true,true,true])/\SatE C' (objRegs objs0) w' rho' /\
   AI4 w' (Prv C'.X (A2 (objRegs objs0)) rho') (Lv (A2 (objRegs objs0))) rho' e r/\∀i:Nat,ks[i]? = some true->i<objs0.length/\rho' i=rho i) [] .returning w':=by
  intro C' st' a' w' rho' d f m;obtain⟨g1,g2,g3⟩:=Me f (by decide) m;obtain⟨hl,hg⟩:=Z6 m;refine⟨.tuple #[],by simp[results,Tryz.f140],C', .ret (.tup []),objs',_,_,d.1,⟨rfl,rfl,rfl⟩,g1,⟨_,rfl,.tup _ _ rfl fun i hi=>absurd hi (by simp)⟩,?_⟩;intro i hi;have y:i<4:=by
   have:=(Ba3.1 hi).1
   simpa using this
  refine⟨by rw[hl];exact y,?_⟩;have e1:[0,1,2,3][i]? = some i:=by
   match i,y with
   |0,_=>rfl
   |1,_=>rfl
   |2,_=>rfl
   |3,_=>rfl
  obtain⟨o,_,ho,_⟩:=hg i i e1;show rho' ([0,1,2,3].getD i 0)=rho i;rw[CK e1,f.pin i (by omega) (by simp[Lv,ho]),d.2];refine (hS.pin i (by omega) ?_).symm;rw[Lv,E1]
  match i,y with
  |0,_=>rfl
  |1,_=>rfl
  |2,_=>rfl
  |3,_=>rfl
 generalize hQ:bodyPostM _ _ _ _ _=QQ;refine wpIn_seq ?_;simp only[att1,Tryz.f140];refine wpIn_region ?_;simp[wpOpsIn,Oper.wpIn,Oper.semAt,Oper.uponIn,go_sem,Exit.then];subst hQ;rw[Yc];refine wpIn_mono (wpIn_region (F:=FW none) a5) ?_;rintro e a' w' ⟨a0,rfl,z⟩;cases e with
 |exit id=>obtain⟨_,_,_,_,_,_,h⟩:=z;exact h.elim
 |goto l=>obtain⟨_,_,_,_,_,_,h⟩:=z;exact h.elim
 |ret=>obtain⟨_,_,_,_,_,_,h⟩:=z;exact h.elim
 |outgrown=>exact z.elim
 |normal=>
  obtain⟨C',st',rho',d,f,a7,hu⟩:=z;obtain⟨st2,rho2,hR2,_,hs2⟩:=hu C' a0 w' rho' f;refine Fx (C:=C') (st:=st2) (rho:=rho2) (by simp) ?_ a0.defers a0 w' rfl rfl hs2;intro a3 w3 q ht;refine⟨by simp,.inr ⟨by simp[Fence.wide],_,_,S8,#[v0],rfl,by simp[go_sem],fun _ _=>trivial,?_⟩⟩;refine (Wn v0 w3).mono ?_;rintro e u' w4 ⟨rfl,rfl,rfl⟩
  have:=s d q (hR st2 hR2)
  rw[ht]at this;exact this
 |panic chain=>
  obtain⟨C',st',rho',v,x,rfl,d,f,a7,hv,hXx⟩:=z;obtain⟨c,regs',rfl,g,m⟩:=hX x st' hXx;obtain rfl:v=.iface 210 (.int .i64 c):=by
   cases hv with
   |iface _ _ _ h=>cases h;rfl
  refine Fx (C:=C') (st:=st') (rho:=rho') (by simp) ?_ a0.defers a0 w' rfl rfl f;intro a3 w3 q ht;have j:Lv (A2 st'.regs) 0:=by
   cases hj:A2 st'.regs 0 with
   |some o=>simp[Lv,hj]
   |none=>
    unfold store at g;split at g
    ·simp[hj]at g
    ·cases g
  have hr0:rho' 0=.pointer (some ⟨b0,0,none⟩):=by rw[q.pin 0 (by omega) j,d.2,<- u];exact (hS.pin 0 (by omega) rfl).symm
  have hva:RS C' st' w3 rho' v0 (.reg 0 0):=by rw[a6];exact .reg 0 0 b0 j hr0
  obtain⟨w4,a8,hs4,_⟩:=LR q (vx:=.int .i64 c) hva (.p _ _ (.v _)) g trivial;refine⟨by simp,.inr ⟨by simp[Fence.wide],_,_,S8,#[v0],rfl,by simp[go_sem],fun _ _=>trivial,?_⟩⟩;refine (Lp v0 c [] w3 w4 a8 ⟨_,a6⟩).mono ?_;rintro e u' w5 ⟨rfl,rfl,rfl⟩
  have:=s d hs4 m
  rw[ht]at this;exact this
theorem Wo {a:Sl Law}{b y:Sl Sound}(c:FunO (Hs Tryz.prog) I0 [.p (vSl 18 B4 a),.p (vSl 2 A0 b)] [] (.p (vSl 2 A0 y)) [] []) :FunO (Hs Tryz.prog) I8 Ax5 (Wm 0 a b G6) (.tup []) (Wm 0 a b (vSl 2 A0 y)) [true,true,true,true]:=
 Nn (AM0 (AP6 Tryz.prog) c) (fun st h=>h) (fun x st h=>h.elim)
theorem RD {a:Sl Law}{b:Sl Sound}{c:Int}(d:(Hs Tryz.prog).F I0 [.p (vSl 18 B4 a),.p (vSl 2 A0 b)] [] fun res o k=>res=.panic (.iface 210 (pI .i64 c))/\o=[]/\k=[]) :FunO (Hs Tryz.prog) I8 Ax5 (Wm 0 a b G6) (.tup []) (Wm c a b G6) [true,true,true,true]:=
 Nn (Ak9 (AP6 Tryz.prog) d) (fun st h=>h.elim) (fun x st h=>⟨c,_,h.1,h.2.1,h.2.2⟩)
end Go.AM
namespace Go.AM
open IntKind (wrap)
open Go.Proofs
set_option maxRecDepth 10000
set_option maxHeartbeats 2000000
variable {S:Az}(hS:H5 S Tryz.prog) (hL:Qd S)
include hS hL
def G7 (N:Nat)(a:Sound):Option Bool:=
 some (((D2 .and .u32 a.Plus a.Minus)==0)&&(decide ((D2 .or .u32 a.Plus a.Minus)<=16777215)))
theorem Q5 {N:Nat}{b:Sound}{y:Bool}(h:G7 N b=some y) :FunO S Jf [.p (.agg (A0 b))] [] (pB y) ([]) []:=by unfold G7 at h;refine A1 hS Tryz.func120 ?_;refine kB hS (A4 hS) trivial trivial 7 (.n (.a ((D2 .and .u32 b.Plus b.Minus)==0)) (.a (decide ((D2 .or .u32 b.Plus b.Minus)<=16777215)))) ?_;cases h;exact kR hS
def J4 (N:Nat)(b:Sound)(a:Sound):Option Bool:=
 (G7 N b).bind fun y1=>
 lt (fun (z1:Bool)=>
  some z1
  ) fun k1=>
  if y1 then
   (G7 N a).bind fun y3=>
   if y3 then
    if ((D2 .andNot .u32 a.Plus b.Plus)==0) then
     k1 ((D2 .andNot .u32 a.Minus b.Minus)==0)
    else
     k1 false
   else
    k1 false
  else
   k1 false
theorem Kg {N:Nat}{c:Sound}{a:Sound}{y:Bool}(h:J4 N c a=some y) :FunO S ER [.p (.agg (A0 c)),.p (.agg (A0 a))] [] (pB y) ([]) []:=by
 unfold J4 at h;refine A1 hS Tryz.func209 ?_;refine kC hS h (Q5 hS hL) (fun y1 h=>?_);refine Hu hS trivial (A4 hS) h 0 (fun z1=>⟨[(4,pB z1)],[]⟩) (fun M1 k1 b h=>?_) (fun z1 h=>?_)
 ·refine kG hS h (fun h=>?_) (fun h=>?_)
  ·refine kC hS h (Q5 hS hL) (fun y3 h=>?_);refine kG hS h (fun h=>?_) (fun h=>?_)
   ·refine kG hS h (fun h=>?_) (fun h=>?_)
    ·exact b _ [] _ ((D2 .andNot .u32 a.Minus c.Minus)==0) trivial h
    ·exact b _ [] _ false trivial h
   ·exact b _ [] _ false trivial h
  ·exact b _ [] _ false trivial h
 ·cases h;exact kR hS
def DH (N:Nat)(a:Sound):Option Int:=
 some (D2 .or .u32 a.Plus a.Minus)
theorem No {N:Nat}{a:Sound}{y:Int}(h:DH N a=some y) :FunO S Nc [.p (.agg (A0 a))] [] (pU y) ([]) []:=by unfold DH at h;refine A1 hS Tryz.func220 ?_;cases h;exact kR hS
def Cb (N:Nat)(c:Sound)(b:Sound)(a:Int):Option Sound:=
 some (⟨D2 .or .u32 (D2 .andNot .u32 c.Plus a) (D2 .and .u32 b.Plus a),D2 .or .u32 (D2 .andNot .u32 c.Minus a) (D2 .and .u32 b.Minus a)⟩:Sound)
theorem Np {N:Nat}{c:Sound}{a:Sound}{b:Int}{y:Sound}(h:Cb N c a b=some y) :FunO S Nd [.p (.agg (A0 c)),.p (.agg (A0 a)),pU b] [] (.p (.agg (A0 y))) ([]) []:=by unfold Cb at h;refine A1 hS Tryz.func221 ?_;cases h;exact kR hS
def O2 (N:Nat)(c:Sound)(a:Int)(b:Sound):Option (Sound×Int):=
 (G7 N c).bind fun y1=>
 lt (fun (z1:Bool)=>
  if z1 then
   some ((⟨0,0⟩:Sound),14)
  else
   lt (fun (z2:Bool)=>
    if z2 then
     some ((⟨0,0⟩:Sound),2)
    else
     (DH N b).bind fun y6=>
     (Cb N c b (D2 .or .u32 a y6)).bind fun y7=>
     some (y7,0)
    ) fun k2=>
    if (decide (16777215<a)) then
     k2 true
    else
     (DH N b).bind fun y5=>
     k2 ((D2 .and .u32 a y5) != 0)
  ) fun k1=>
  if (!y1) then
   k1 true
  else
   (G7 N b).bind fun y3=>
   k1 (!y3)
theorem OI {N:Nat}{c:Sound}{a:Int}{b:Sound}{y:Sound×Int}(h:O2 N c a b=some y) :FunO S HT [.p (.agg (A0 c)),pU a,.p (.agg (A0 b))] [] (.tup [.p (.agg (A0 y.1)),pN y.2]) ([]) []:=by
 unfold O2 at h;refine A1 hS Tryz.func211 ?_;refine G0 hS trivial 5 4000 [pI .u32 c.Plus,pI .u32 c.Minus] ?_;refine G0 hS trivial 6 6000 [pI .u32 b.Plus,pI .u32 b.Minus] ?_;obtain⟨y1,e1,h⟩:=B8 h;refine B9 hS [] (by decide:(2:Nat)<=2) (Q5 hS hL e1) ?_;refine Hu hS trivial (A4 hS) h 0 (fun z1=>⟨[(15,pB z1),(6,.reg 7000 0),(5,.p (.ptr [pI .u32 b.Plus,pI .u32 b.Minus])),(3,.p (.ptr [pI .u32 c.Plus,pI .u32 c.Minus])),(1,pU a)],[(7000,.cells [pU 0,pU 0])]⟩) (fun M1 k1 d h=>?_) (fun z1 h=>?_)
 ·refine kG hS h (fun h=>?_) (fun h=>?_)
  ·exact d _ [(7000,7000)] _ true trivial h
  ·obtain⟨y3,e3,h⟩:=B8 h;refine B9 hS [] (by decide:(2:Nat)<=2) (Q5 hS hL e3) ?_;exact d _ [(7000,7000)] _ (!y3) trivial h
 ·refine kI hS h ?_ ?_<;>intro h
  ·cases h;exact kR hS
  ·refine Hu hS trivial (A4 hS) h 0 (fun z2=>⟨[(25,pB z2),(6,.reg 7000 0),(5,.p (.ptr [pI .u32 b.Plus,pI .u32 b.Minus])),(3,.p (.ptr [pI .u32 c.Plus,pI .u32 c.Minus])),(1,pU a)],[(7000,.cells [pU 0,pU 0])]⟩) (fun M2 k2 f h=>?_) (fun z2 h=>?_)
   ·refine kG hS h (fun h=>?_) (fun h=>?_)
    ·exact f _ [(7000,7000)] _ true trivial h
    ·obtain⟨y5,e5,h⟩:=B8 h;refine B9 hS [] (by decide:(2:Nat)<=2) (No hS hL e5) ?_;exact f _ [(7000,7000)] _ ((D2 .and .u32 a y5) != 0) trivial h
   ·refine kI hS h ?_ ?_<;>intro h
    ·cases h;exact kR hS
    ·refine D9 hS trivial [0,1,3,4,6] ?_;obtain⟨y6,e6,h⟩:=B8 h;refine S6 (And.intro (And.intro (by decide:(2:Nat)<=2) (by decide:(2:Nat)<=2)) (by decide:(2:Nat)<=2)) (No hS hL e6) ?_;obtain⟨y7,e7,h⟩:=B8 h;refine S6 trivial (Np hS hL e7) ?_;refine I4 trivial ?_;cases h;exact kR hS
def T3 (N:Nat)(c:Sound)(a:Sound)(b:Int):Option (Sound×Int):=
 (G7 N c).bind fun y1=>
 lt (fun (z1:Bool)=>
  if z1 then
   some ((⟨0,0⟩:Sound),14)
  else
   if (decide (16777215<b)) then
    some ((⟨0,0⟩:Sound),2)
   else
    (Cb N c a b).bind fun y4=>
    some (y4,0)
  ) fun k1=>
  if (!y1) then
   k1 true
  else
   (G7 N a).bind fun y3=>
   k1 (!y3)
theorem TY {N:Nat}{c:Sound}{a:Sound}{b:Int}{y:Sound×Int}(h:T3 N c a b=some y) :FunO S KU [.p (.agg (A0 c)),.p (.agg (A0 a)),pU b] [] (.tup [.p (.agg (A0 y.1)),pN y.2]) ([]) []:=by
 unfold T3 at h;refine A1 hS Tryz.func212 ?_;refine kC hS h (Q5 hS hL) (fun y1 h=>?_);refine Hu hS trivial (A4 hS) h 0 (fun z1=>⟨[(15,pB z1),(6,.reg 7000 0),(4,.reg 5000 0),(3,.reg 4000 0),(2,pU b)],[(7000,.cells [pU 0,pU 0]),(5000,.cells [pU a.Plus,pU a.Minus]),(4000,.cells [pU c.Plus,pU c.Minus])]⟩) (fun M1 k1 d h=>?_) (fun z1 h=>?_)
 ·refine kG hS h (fun h=>?_) (fun h=>?_)
  ·exact d _ [(4000,4000),(5000,5000),(7000,7000)] _ true trivial h
  ·refine kC hS h (Q5 hS hL) (fun y3 h=>?_);exact d _ [(4000,4000),(5000,5000),(7000,7000)] _ (!y3) trivial h
 ·refine kI hS h ?_ ?_<;>intro h
  ·cases h;exact kR hS
  ·refine kI hS h ?_ ?_<;>intro h
   ·cases h;exact kR hS
   ·refine kC hS h (Np hS hL) (fun y4 h=>?_);cases h;exact kR hS
def I1 (N:Nat)(a:Sound):Option Bool:=
 W6 N (fun b (x1:Int)=>
  if (decide (x1<32)) then
   if ((0:Int)<=x1/\(0:Int)<=x1)then
    if ((((D2 .and .u32 (shI .shr .u32 a.Plus x1) 1)==1)&&((D2 .and .u32 (shI .shr .u32 a.Minus x1) 1)==1))||((((D2 .and .u32 (shI .shr .u32 a.Plus x1) 1)==1)||((D2 .and .u32 (shI .shr .u32 a.Minus x1) 1)==1))&&(decide (24<=x1)))) then
     some false
    else
     b (wrap .i64 (x1+1))
   else none
  else
   some true
  ) 0
theorem T7 {N:Nat}{b:Sound}{y:Bool}(h:I1 N b=some y) :FunO S MQ [.p (.agg (A0 b))] [] (pB y) ([]) []:=by
 unfold I1 at h;refine A1 hS Tryz.func136 ?_;refine J0 hS trivial h (fun x1=>⟨[(3,pN x1),(1,.reg 2000 0)],[(2000,.cells [pU b.Plus,pU b.Minus])]⟩) (ids:=[(2000,2000)]) (fun _ _ _ _ _ c x1 d h=>?_);refine kI hS h ?_ ?_<;>intro h
 ·obtain⟨c7,h⟩:=D5 h;refine kB hS (A4 hS) c7 trivial 12 (.o (.n (.a ((D2 .and .u32 (shI .shr .u32 b.Plus x1) 1)==1)) (.a ((D2 .and .u32 (shI .shr .u32 b.Minus x1) 1)==1))) (.n (.o (.a ((D2 .and .u32 (shI .shr .u32 b.Plus x1) 1)==1)) (.a ((D2 .and .u32 (shI .shr .u32 b.Minus x1) 1)==1))) (.a (decide (24<=x1))))) ?_;refine kI hS h ?_ ?_<;>intro h
  ·cases h;exact kR hS
  ·exact d _ [(2000,2000)] _ (wrap .i64 (x1+1)) trivial h
 ·cases h;exact kR hS
def Da (N:Nat)(a:Int):Option Bool:=
 some ((decide (0<=a))&&(decide (a<24)))
theorem RE {N:Nat}{b:Int}{y:Bool}(h:Da N b=some y) :FunO S Jm [pN b] [] (pB y) ([]) []:=by unfold Da at h;refine A1 hS Tryz.func237 ?_;refine kB hS (A4 hS) trivial trivial 3 (.n (.a (decide (0<=b))) (.a (decide (b<24)))) ?_;cases h;exact kR hS
def X6 (N:Nat)(b:Sound)(a:Int):Option Int:=
 (I1 N b).bind fun y1=>
 lt (fun (z1:Bool)=>
  if z1 then
   some 0
  else
   if (0:Int)<=a then
    if ((D2 .and .u32 (shI .shr .u32 b.Plus a) 1)==1) then
     some 1
    else
     if (0:Int)<=a then
      if ((D2 .and .u32 (shI .shr .u32 b.Minus a) 1)==1) then
       some (-1)
      else
       some 0
     else none
   else none
  ) fun k1=>
  if (!y1) then
   k1 true
  else
   (Da N a).bind fun y3=>
   k1 (!y3)
theorem DI {N:Nat}{a:Sound}{c:Int}{y:Int}(h:X6 N a c=some y) :FunO S TP [.p (.agg (A0 a)),pN c] [] (pN y) ([]) []:=by
 unfold X6 at h;refine A1 hS Tryz.func230 ?_;refine kC hS h (T7 hS hL) (fun y1 h=>?_);refine Hu hS trivial (A4 hS) h 0 (fun z1=>⟨[(12,pB z1),(2,.reg 3000 0),(1,pN c)],[(3000,.cells [pU a.Plus,pU a.Minus])]⟩) (fun M1 k1 d h=>?_) (fun z1 h=>?_)
 ·refine kG hS h (fun h=>?_) (fun h=>?_)
  ·exact d _ [(3000,3000)] _ true trivial h
  ·refine kC hS h (RE hS hL) (fun y3 h=>?_);exact d _ [(3000,3000)] _ (!y3) trivial h
 ·refine kI hS h ?_ ?_<;>intro h
  ·cases h;exact kR hS
  ·obtain⟨c5,h⟩:=D5 h;refine D3 hS c5 (b:=(D2 .and .u32 (shI .shr .u32 a.Plus c) 1)==1) (fun c6=>?_) (fun c6=>?_)
   ·replace h:=itT c6 h;cases h;exact kR hS
   ·replace h:=itF c6 h;obtain⟨c7,h⟩:=D5 h;refine D3 hS c7 (b:=(D2 .and .u32 (shI .shr .u32 a.Minus c) 1)==1) (fun c8=>?_) (fun c8=>?_)
    ·replace h:=itT c8 h;cases h;exact kR hS
    ·replace h:=itF c8 h;cases h;exact kR hS
def Cz (N:Nat)(b:Sound)(a:Int)(c:Int):Option Sound:=
 if (0:Int)<=a then
  if (c==1) then
   if (c==(-1)) then
    some (⟨D2 .or .u32 (D2 .andNot .u32 b.Plus (shI .shl .u32 1 a)) (shI .shl .u32 1 a),D2 .or .u32 (D2 .andNot .u32 b.Minus (shI .shl .u32 1 a)) (shI .shl .u32 1 a)⟩:Sound)
   else
    some (⟨D2 .or .u32 (D2 .andNot .u32 b.Plus (shI .shl .u32 1 a)) (shI .shl .u32 1 a),D2 .andNot .u32 b.Minus (shI .shl .u32 1 a)⟩:Sound)
  else
   if (c==(-1)) then
    some (⟨D2 .andNot .u32 b.Plus (shI .shl .u32 1 a),D2 .or .u32 (D2 .andNot .u32 b.Minus (shI .shl .u32 1 a)) (shI .shl .u32 1 a)⟩:Sound)
   else
    some (⟨D2 .andNot .u32 b.Plus (shI .shl .u32 1 a),D2 .andNot .u32 b.Minus (shI .shl .u32 1 a)⟩:Sound)
 else none
theorem Jr {N:Nat}{c:Sound}{d:Int}{a:Int}{y:Sound}(h:Cz N c d a=some y) :FunO S TQ [.p (.agg (A0 c)),pN d,pN a] [] (.p (.agg (A0 y))) ([]) []:=by
 unfold Cz at h;refine A1 hS Tryz.func233 ?_;obtain⟨c1,h⟩:=D5 h;refine D3 hS c1 (b:=a==1) (fun c2=>?_) (fun c2=>?_)
 ·replace h:=itT c2 h;refine kI hS h ?_ ?_<;>intro h
  ·cases h;exact kR hS
  ·cases h;exact kR hS
 ·replace h:=itF c2 h;refine kI hS h ?_ ?_<;>intro h
  ·cases h;exact kR hS
  ·cases h;exact kR hS
def P1 (N:Nat)(c:Sound)(a:Sound):Option Bool:=
 (I1 N c).bind fun y1=>
 lt (fun (z1:Bool)=>
  if z1 then
   some false
  else
   W6 N (fun b (x3:Int)=>
    if (decide (x3<24)) then
     (X6 N a x3).bind fun d=>
     lt (fun (z4:Bool)=>
      if z4 then
       some false
      else
       b (wrap .i64 (x3+1))
      ) fun k4=>
      if (d != 0) then
       (X6 N c x3).bind fun f=>
       k4 (f != d)
      else
       k4 false
    else
     some true
    ) 0
  ) fun k1=>
  if (!y1) then
   k1 true
  else
   (I1 N a).bind fun y3=>
   k1 (!y3)
theorem Nq {N:Nat}{b:Sound}{a:Sound}{y:Bool}(h:P1 N b a=some y) :FunO S GI [.p (.agg (A0 b)),.p (.agg (A0 a))] [] (pB y) ([]) []:=by
 unfold P1 at h;refine A1 hS Tryz.func222 ?_;refine kC hS h (T7 hS hL) (fun y1 h=>?_);refine Hu hS trivial (A4 hS) h 0 (fun z1=>⟨[(14,pB z1),(3,.reg 4000 0),(2,.reg 3000 0)],[(4000,.cells [pU a.Plus,pU a.Minus]),(3000,.cells [pU b.Plus,pU b.Minus])]⟩) (fun M1 k1 c h=>?_) (fun z1 h=>?_)
 ·refine kG hS h (fun h=>?_) (fun h=>?_)
  ·exact c _ [(3000,3000),(4000,4000)] _ true trivial h
  ·refine kC hS h (T7 hS hL) (fun y3 h=>?_);exact c _ [(3000,3000),(4000,4000)] _ (!y3) trivial h
 ·refine kI hS h ?_ ?_<;>intro h
  ·cases h;exact kR hS
  ·refine J0 hS trivial h (fun x3=>⟨[(5,pN x3),(3,.reg 4000 0),(2,.reg 3000 0)],[(4000,.cells [pU a.Plus,pU a.Minus]),(3000,.cells [pU b.Plus,pU b.Minus])]⟩) (ids:=[(3000,3000),(4000,4000)]) (fun _ _ _ _ _ f x3 g h=>?_);refine kI hS h ?_ ?_<;>intro h
   ·refine kC hS h (DI hS hL) (fun i h=>?_);refine Hu hS trivial (A4 hS) h 0 (fun z4=>⟨[(30,pB z4),(5,pN x3),(3,.reg 4000 0),(2,.reg 3000 0)],[(4000,.cells [pU a.Plus,pU a.Minus]),(3000,.cells [pU b.Plus,pU b.Minus])]⟩) (fun M4 k4 d h=>?_) (fun z4 h=>?_)
    ·refine kG hS h (fun h=>?_) (fun h=>?_)
     ·refine kC hS h (DI hS hL) (fun j h=>?_);exact d _ [(3000,3000),(4000,4000)] _ (j != i) trivial h
     ·exact d _ [(3000,3000),(4000,4000)] _ false trivial h
    ·refine kI hS h ?_ ?_<;>intro h
     ·cases h;exact kR hS
     ·exact g _ [(3000,3000),(4000,4000)] _ (wrap .i64 (x3+1)) trivial h
   ·cases h;exact kR hS
def Q6 (N:Nat)(d:Sound)(b:Int)(a:Sound):Option (Sound×Int):=
 (I1 N d).bind fun y1=>
 lt (fun (z1:Bool)=>
  if z1 then
   some ((⟨0,0⟩:Sound),14)
  else
   if ((decide (16777215<b))||((D2 .and .u32 b (D2 .or .u32 a.Plus a.Minus)) != 0)) then
    some ((⟨0,0⟩:Sound),2)
   else
    Ai6 N (fun c (x2:Int) (x3:Int) (x4:Int)=>
     if (decide (x4<24)) then
      if (0:Int)<=x4 then
       if ((D2 .and .u32 (shI .shr .u32 b x4) 1)==1) then
        (Cz N (⟨x2,x3⟩:Sound) x4 0).bind fun f=>
        (X6 N a x4).bind fun j=>
        if (j != 0) then
         (X6 N a x4).bind fun l=>
         (Cz N f x4 l).bind fun g=>
         c g.Plus g.Minus (wrap .i64 (x4+1))
        else
         c f.Plus f.Minus (wrap .i64 (x4+1))
       else
        (X6 N a x4).bind fun m=>
        if (m != 0) then
         (X6 N a x4).bind fun n=>
         (Cz N (⟨x2,x3⟩:Sound) x4 n).bind fun i=>
         c i.Plus i.Minus (wrap .i64 (x4+1))
        else
         c x2 x3 (wrap .i64 (x4+1))
      else none
     else
      some ((⟨x2,x3⟩:Sound),0)
     ) d.Plus d.Minus 0
  ) fun k1=>
  if (!y1) then
   k1 true
  else
   (I1 N a).bind fun y3=>
   k1 (!y3)
theorem TZ {N:Nat}{f:Sound}{c:Int}{d:Sound}{y:Sound×Int}(h:Q6 N f c d=some y) :FunO S KW [.p (.agg (A0 f)),pU c,.p (.agg (A0 d))] [] (.tup [.p (.agg (A0 y.1)),pN y.2]) ([]) []:=by
 unfold Q6 at h;refine A1 hS Tryz.func225 ?_;refine G0 hS trivial 5 4000 [pI .u32 f.Plus,pI .u32 f.Minus] ?_;refine G0 hS trivial 6 6000 [pI .u32 d.Plus,pI .u32 d.Minus] ?_;obtain⟨y1,e1,h⟩:=B8 h;refine B9 hS [] (by decide:(2:Nat)<=2) (T7 hS hL e1) ?_;refine Hu hS trivial (A4 hS) h 0 (fun z1=>⟨[(17,pB z1),(6,.reg 7000 0),(5,.p (.ptr [pI .u32 d.Plus,pI .u32 d.Minus])),(3,.p (.ptr [pI .u32 f.Plus,pI .u32 f.Minus])),(1,pU c)],[(7000,.cells [pU 0,pU 0])]⟩) (fun M1 k1 i h=>?_) (fun z1 h=>?_)
 ·refine kG hS h (fun h=>?_) (fun h=>?_)
  ·exact i _ [(7000,7000)] _ true trivial h
  ·obtain⟨y3,e3,h⟩:=B8 h;refine B9 hS [] (by decide:(2:Nat)<=2) (T7 hS hL e3) ?_;exact i _ [(7000,7000)] _ (!y3) trivial h
 ·refine kI hS h ?_ ?_<;>intro h
  ·cases h;exact kR hS
  ·refine kB hS (A4 hS) trivial trivial 9 (.o (.a (decide (16777215<c))) (.a ((D2 .and .u32 c (D2 .or .u32 d.Plus d.Minus)) != 0))) ?_;refine kI hS h ?_ ?_<;>intro h
   ·cases h;exact kR hS
   ·refine IU hS (by decide:(2:Nat)<=2) h (fun x2 x3 x4=>⟨[(9,pN x4),(8,.reg 9000 0),(6,.reg 7000 0),(5,.p (.ptr [pI .u32 d.Plus,pI .u32 d.Minus])),(1,pU c)],[(9000,.cells [pU x2,pU x3]),(7000,.cells [pU 0,pU 0])]⟩) (ids:=[(7000,7000),(9000,9000)]) (fun _ _ _ _ _ n x2 x3 x4 g h=>?_);refine kI hS h ?_ ?_<;>intro h
    ·obtain⟨c16,h⟩:=D5 h;refine D3 hS c16 (b:=(D2 .and .u32 (shI .shr .u32 c x4) 1)==1) (fun c17=>?_) (fun c17=>?_)
     ·replace h:=itT c17 h;refine kC hS h (Jr hS hL) (fun j h=>?_);obtain⟨q,e19,h⟩:=B8 h;refine B9 hS [] (by decide:(2:Nat)<=2) (DI hS hL e19) ?_;refine kI hS h ?_ ?_<;>intro h
      ·refine D9 hS trivial [2,4,5] ?_;obtain⟨r,e20,h⟩:=B8 h;refine S6 (by decide:(2:Nat)<=2) (DI hS hL e20) ?_;obtain⟨l,e21,h⟩:=B8 h;refine S6 trivial (Jr hS hL e21) ?_;refine I4 trivial ?_;exact g _ [(7000,7000),(9000,9000)] _ l.Plus l.Minus (wrap .i64 (x4+1)) trivial h
      ·exact g _ [(7000,7000),(9000,9000)] _ j.Plus j.Minus (wrap .i64 (x4+1)) trivial h
     ·replace h:=itF c17 h;obtain⟨s,e22,h⟩:=B8 h;refine B9 hS [] (by decide:(2:Nat)<=2) (DI hS hL e22) ?_;refine kI hS h ?_ ?_<;>intro h
      ·refine D9 hS trivial [2,4,5] ?_;obtain⟨t,e23,h⟩:=B8 h;refine S6 (by decide:(2:Nat)<=2) (DI hS hL e23) ?_;obtain⟨m,e24,h⟩:=B8 h;refine S6 trivial (Jr hS hL e24) ?_;refine I4 trivial ?_;exact g _ [(7000,7000),(9000,9000)] _ m.Plus m.Minus (wrap .i64 (x4+1)) trivial h
      ·exact g _ [(7000,7000),(9000,9000)] _ x2 x3 (wrap .i64 (x4+1)) trivial h
    ·cases h;exact kR hS
def Ad (N:Nat)(d:Sound)(a:Sound)(b:Int):Option (Sound×Int):=
 (I1 N d).bind fun y1=>
 lt (fun (z1:Bool)=>
  if z1 then
   some ((⟨0,0⟩:Sound),14)
  else
   if (decide (16777215<b)) then
    some ((⟨0,0⟩:Sound),2)
   else
    Ai6 N (fun c (x2:Int) (x3:Int) (x4:Int)=>
     if (decide (x4<24)) then
      if (0:Int)<=x4 then
       if ((D2 .and .u32 (shI .shr .u32 b x4) 1)==1) then
        (X6 N a x4).bind fun y8=>
        (Cz N (⟨x2,x3⟩:Sound) x4 y8).bind fun y9=>
        c y9.Plus y9.Minus (wrap .i64 (x4+1))
       else
        c x2 x3 (wrap .i64 (x4+1))
      else none
     else
      some ((⟨x2,x3⟩:Sound),0)
     ) d.Plus d.Minus 0
  ) fun k1=>
  if (!y1) then
   k1 true
  else
   (I1 N a).bind fun y3=>
   k1 (!y3)
theorem ZP {N:Nat}{d:Sound}{a:Sound}{c:Int}{y:Sound×Int}(h:Ad N d a c=some y) :FunO S PY [.p (.agg (A0 d)),.p (.agg (A0 a)),pU c] [] (.tup [.p (.agg (A0 y.1)),pN y.2]) ([]) []:=by
 unfold Ad at h;refine A1 hS Tryz.func226 ?_;refine G0 hS trivial 4 4000 [pI .u32 d.Plus,pI .u32 d.Minus] ?_;refine G0 hS trivial 6 5000 [pI .u32 a.Plus,pI .u32 a.Minus] ?_;obtain⟨y1,e1,h⟩:=B8 h;refine B9 hS [] (by decide:(2:Nat)<=2) (T7 hS hL e1) ?_;refine Hu hS trivial (A4 hS) h 0 (fun z1=>⟨[(17,pB z1),(6,.reg 7000 0),(4,.p (.ptr [pI .u32 a.Plus,pI .u32 a.Minus])),(3,.p (.ptr [pI .u32 d.Plus,pI .u32 d.Minus])),(2,pU c)],[(7000,.cells [pU 0,pU 0])]⟩) (fun M1 k1 f h=>?_) (fun z1 h=>?_)
 ·refine kG hS h (fun h=>?_) (fun h=>?_)
  ·exact f _ [(7000,7000)] _ true trivial h
  ·obtain⟨y3,e3,h⟩:=B8 h;refine B9 hS [] (by decide:(2:Nat)<=2) (T7 hS hL e3) ?_;exact f _ [(7000,7000)] _ (!y3) trivial h
 ·refine kI hS h ?_ ?_<;>intro h
  ·cases h;exact kR hS
  ·refine kI hS h ?_ ?_<;>intro h
   ·cases h;exact kR hS
   ·refine IU hS (by decide:(2:Nat)<=2) h (fun x2 x3 x4=>⟨[(9,pN x4),(8,.reg 9000 0),(6,.reg 7000 0),(4,.p (.ptr [pI .u32 a.Plus,pI .u32 a.Minus])),(2,pU c)],[(9000,.cells [pU x2,pU x3]),(7000,.cells [pU 0,pU 0])]⟩) (ids:=[(7000,7000),(9000,9000)]) (fun _ _ _ _ _ i x2 x3 x4 g h=>?_);refine kI hS h ?_ ?_<;>intro h
    ·obtain⟨c12,h⟩:=D5 h;refine D3 hS c12 (b:=(D2 .and .u32 (shI .shr .u32 c x4) 1)==1) (fun c13=>?_) (fun c13=>?_)
     ·replace h:=itT c13 h;refine D9 hS trivial [2,4,5] ?_;obtain⟨y8,e8,h⟩:=B8 h;refine S6 (by decide:(2:Nat)<=2) (DI hS hL e8) ?_;obtain⟨y9,e9,h⟩:=B8 h;refine S6 trivial (Jr hS hL e9) ?_;refine I4 trivial ?_;exact g _ [(7000,7000),(9000,9000)] _ y9.Plus y9.Minus (wrap .i64 (x4+1)) trivial h
     ·replace h:=itF c13 h;exact g _ [(7000,7000),(9000,9000)] _ x2 x3 (wrap .i64 (x4+1)) trivial h
    ·cases h;exact kR hS
def R4 (N:Nat)(a:Sound):Option Bool:=
 some ((((D2 .and .u32 a.Plus a.Minus)==0)&&(decide (a.Plus<16777216)))&&(decide (a.Minus<16777216)))
theorem Nr {N:Nat}{b:Sound}{y:Bool}(h:R4 N b=some y) :FunO S MR [.p (.agg (A0 b))] [] (pB y) ([]) []:=by unfold R4 at h;refine A1 hS Tryz.func143 ?_;refine kB hS (A4 hS) trivial trivial 9 (.n (.n (.a ((D2 .and .u32 b.Plus b.Minus)==0)) (.a (decide (b.Plus<16777216)))) (.a (decide (b.Minus<16777216)))) ?_;cases h;exact kR hS
def X7 (N:Nat)(a:Sl Sound):Option Int:=
 if (decide (32<(a.n:Int))) then
  some 11
 else
  W6 N (fun b (x1:Int)=>
   if (decide (x1<(a.n:Int))) then
    if ((0:Int)<=x1/\x1<(a.n:Int))then
     (R4 N (a.g x1.toNat)).bind fun y3=>
     if (!y3) then
      some 14
     else
      b (wrap .i64 (x1+1))
    else none
   else
    some 0
   ) 0
theorem DJ {N:Nat}{a:Sl Sound}{y:Int}(h:X7 N a=some y) :FunO S ML [.p (vSl 2 A0 a)] [] (pN y) ([]) []:=by
 unfold X7 at h;refine A1 hS Tryz.func113 ?_;refine kI hS h ?_ ?_<;>intro h
 ·cases h;exact kR hS
 ·refine J0 hS trivial h (fun x1=>⟨[(3,pN x1),(0,.p (vSl 2 A0 a))],[]⟩) (ids:=[]) (fun _ _ _ _ _ b x1 c h=>?_);refine kI hS h ?_ ?_<;>intro h
  ·obtain⟨c9,h⟩:=D5 h;obtain⟨y3,e3,h⟩:=B8 h;refine B9 hS [] (And.intro c9 (by decide:(2:Nat)<=2)) (Nr hS hL e3) ?_;refine kI hS h ?_ ?_<;>intro h
   ·cases h;exact kR hS
   ·exact c _ [] _ (wrap .i64 (x1+1)) trivial h
  ·cases h;exact kR hS
def FF (N:Nat)(a:Sl Sound)(b:Sl Sound):Option Bool:=
 if ((a.n:Int) != (b.n:Int)) then
  some false
 else
  W6 N (fun c (x1:Int)=>
   if (decide (x1<(a.n:Int))) then
    if (((0:Int)<=x1/\x1<(a.n:Int))/\((0:Int)<=x1/\x1<(b.n:Int)))then
     if ((((a.g x1.toNat).Plus==(b.g x1.toNat).Plus)&&((a.g x1.toNat).Minus==(b.g x1.toNat).Minus)) != true) then
      some false
     else
      c (wrap .i64 (x1+1))
    else none
   else
    some true
   ) 0
theorem Wp {N:Nat}{a:Sl Sound}{b:Sl Sound}{y:Bool}(h:FF N a b=some y) :FunO S MG [.p (vSl 2 A0 a),.p (vSl 2 A0 b)] [] (pB y) ([]) []:=by
 unfold FF at h;refine A1 hS Tryz.func81 ?_;refine kI hS h ?_ ?_<;>intro h
 ·cases h;exact kR hS
 ·refine J0 hS trivial h (fun x1=>⟨[(5,pN x1),(1,.p (vSl 2 A0 b)),(0,.p (vSl 2 A0 a))],[]⟩) (ids:=[]) (fun _ _ _ _ _ c x1 d h=>?_);refine kI hS h ?_ ?_<;>intro h
  ·refine D9 hS trivial [2,3,6,7] ?_;obtain⟨c9,h⟩:=D5 h;refine I4 (And.intro (And.intro (And.intro (And.intro c9.1 (by decide:(2:Nat)<=2)) c9.2) (by decide:(2:Nat)<=2)) (by decide +kernel:AG4 Tryz.prog B5=true)) ?_;refine kI hS h ?_ ?_<;>intro h
   ·cases h;exact kR hS
   ·exact d _ [] _ (wrap .i64 (x1+1)) trivial h
  ·cases h;exact kR hS
def Df (N:Nat)(a:Sl Sound):Option (Sl Sound):=
 P6 N (fun b (x1:Sl Sound) (x2:Int)=>
  if (decide (x2<(a.n:Int))) then
   if (((0:Int)<=x2/\x2<(a.n:Int))/\((x1.n+(Sl.of [a.g x2.toNat]:Sl Sound).n)*8<=140737488355328/\x1.n+(Sl.of [a.g x2.toNat]:Sl Sound).n<=140737488355328))then
    b (x1.push (a.g x2.toNat)) (wrap .i64 (x2+1))
   else none
  else
   some x1
  ) (Sl.nil:Sl Sound) 0
theorem ZQ {N:Nat}{a:Sl Sound}{y:Sl Sound}(h:Df N a=some y) :FunO S PT [.p (vSl 2 A0 a)] [] (.vec 0) ([.vec B5 2 y.n (fun i=>A0 (y.g i)) true]) []:=by
 unfold Df at h;refine A1 hS Tryz.func184 ?_;refine F5 hS trivial h (fun x1 x2=>⟨[(4,pN x2),(3,.vec 4500),(0,.p (vSl 2 A0 a))],[(4500,.vec B5 2 x1.n (fun i=>A0 (x1.g i)) false)]⟩) (ids:=[]) (fun _ _ _ _ _ b x1 x2 d h=>?_);refine kI hS h ?_ ?_<;>intro h
 ·obtain⟨c4,h⟩:=D5 h;exact d _ [(4500,18000)] _ (x1.push (a.g x2.toNat)) (wrap .i64 (x2+1)) (And.intro (And.intro (And.intro c4.1 (by decide:(2:Nat)<=2)) (rfl:true=true)) c4.2) h (hle:=klR [(2,.fn (x1.n+1) (x1.push (a.g x2.toNat)).n (R9 x1.n (fun i=>A0 (x1.g i)) (D7 [pI .u32 0,pI .u32 0] [(0,A0 (a.g x2.toNat))])) (fun i=>A0 ((x1.push (a.g x2.toNat)).g i)))] (al1 ⟨rfl,Er (c:=A0) (v:=x1) (x:=a.g x2.toNat) (z:=[(pI .u32 0),pI .u32 0]) same rfl rfl⟩ al0))
 ·obtain rfl:=B6 h;exact A5 hS trivial ⟨[(2,.vec 4500)],[(4500,.vec B5 2 x1.n (fun i=>A0 (x1.g i)) true)]⟩ [4500] (ids:=[(4500,4500)]) ⟨rfl,rfl,rfl⟩
def Bp (N:Nat)(a:Sound):Option Bool:=
 some (((D2 .and .u32 a.Plus a.Minus)==0)&&((shI .shr .u32 (D2 .or .u32 a.Plus a.Minus) 24)==0))
theorem Ua {N:Nat}{a:Sound}{y:Bool}(h:Bp N a=some y) :FunO S KN [.p (.agg (A0 a))] [] (pB y) ([]) []:=by
 unfold Bp at h;refine A1 hS Tryz.func108 ?_;obtain⟨t1,c⟩:∃x:Bool,x=(((D2 .and .u32 a.Plus a.Minus)==0)&&((shI .shr .u32 (D2 .or .u32 a.Plus a.Minus) 24)==0)):=⟨_,rfl⟩;refine Ti hS trivial (A4 hS) 0 ⟨[(2,pB t1)],[]⟩ (fun M1 d=>?_) ?_
 ·refine Gw hS trivial (b:=(D2 .and .u32 a.Plus a.Minus)==0) (fun c2=>?_) (fun c2=>?_)
  ·exact d _ [] _ (by decide:(0:Int)<=24) (hle:=klR [(0,.eq (.bb ((shI .shr .u32 (D2 .or .u32 a.Plus a.Minus) 24)==0)) (.bb t1))] (al1 (by simp only[c,c2,Leaf.ok,pm,if_true,if_false]) al0))
  ·exact d _ [] _ trivial (hle:=klR [(0,.eq (.bb false) (.bb t1))] (al1 (by simp only[c,c2,Leaf.ok,pm,if_true,if_false]) al0))
 ·subst c;cases h;exact kR hS
def X8 (N:Nat)(a:Sl Sound):Option Int:=
 if (decide (32<(a.n:Int))) then
  some 11
 else
  W6 N (fun b (x1:Int)=>
   if (decide (x1<(a.n:Int))) then
    if ((0:Int)<=x1/\x1<(a.n:Int))then
     (Bp N (a.g x1.toNat)).bind fun y3=>
     if (!y3) then
      some 14
     else
      b (wrap .i64 (x1+1))
    else none
   else
    some 0
   ) 0
theorem GO {N:Nat}{a:Sl Sound}{y:Int}(h:X8 N a=some y) :FunO S KL [.p (vSl 2 A0 a)] [] (pN y) ([]) []:=by
 unfold X8 at h;refine A1 hS Tryz.func75 ?_;refine kI hS h ?_ ?_<;>intro h
 ·cases h;exact kR hS
 ·refine J0 hS trivial h (fun x1=>⟨[(10,pN x1),(9,pN (a.n:Int)),(8,.p (vSl 2 A0 a))],[]⟩) (ids:=[]) (fun _ _ _ _ _ b x1 c h=>?_);refine kI hS h ?_ ?_<;>intro h
  ·obtain⟨c9,h⟩:=D5 h;obtain⟨y3,e3,h⟩:=B8 h;refine B9 hS [] (And.intro c9 (by decide:(2:Nat)<=2)) (Ua hS hL e3) ?_;refine kI hS h ?_ ?_<;>intro h
   ·cases h;exact kR hS
   ·exact c _ [] _ (wrap .i64 (x1+1)) trivial h
  ·cases h;exact kR hS
def O3 (N:Nat)(a:Sound):Option Bool:=
 some (((D2 .and .u32 a.Plus a.Minus)==0)&&((shI .shr .u32 (D2 .or .u32 a.Plus a.Minus) 24)==0))
theorem Ek {N:Nat}{a:Sound}{y:Bool}(h:O3 N a=some y) :FunO S KS [.p (.agg (A0 a))] [] (pB y) ([]) []:=by
 unfold O3 at h;refine A1 hS Tryz.func171 ?_;obtain⟨t1,c⟩:∃x:Bool,x=(((D2 .and .u32 a.Plus a.Minus)==0)&&((shI .shr .u32 (D2 .or .u32 a.Plus a.Minus) 24)==0)):=⟨_,rfl⟩;refine Ti hS trivial (A4 hS) 0 ⟨[(2,pB t1)],[]⟩ (fun M1 d=>?_) ?_
 ·refine Gw hS trivial (b:=(D2 .and .u32 a.Plus a.Minus)==0) (fun c2=>?_) (fun c2=>?_)
  ·exact d _ [] _ (by decide:(0:Int)<=24) (hle:=klR [(0,.eq (.bb ((shI .shr .u32 (D2 .or .u32 a.Plus a.Minus) 24)==0)) (.bb t1))] (al1 (by simp only[c,c2,Leaf.ok,pm,if_true,if_false]) al0))
  ·exact d _ [] _ trivial (hle:=klR [(0,.eq (.bb false) (.bb t1))] (al1 (by simp only[c,c2,Leaf.ok,pm,if_true,if_false]) al0))
 ·subst c;cases h;exact kR hS
def P2 (N:Nat)(b:Int):Option (Nat->Int):=
 P6 N (fun a (x1:Nat->Int) (x2:Int)=>
  if (decide (x2<(wrap .i64 (b+1)))) then
   if (((0:Int)<=x2/\((0:Int)<=x2/\x2<33))/\(0+x2.toNat*1)<33)then
    a (KH x1 (0+x2.toNat*1) (shI .shl .u64 1 x2)) (wrap .i64 (x2+1))
   else none
  else
   some x1
  ) (fun _=>0) 0
theorem DK {N:Nat}{a:Int}{y:Nat->Int}(h:P2 N a=some y) :FunO S GM [pN a] [] (.p (.agg (cA 33 (pI .u64) y))) ([]) []:=by
 unfold P2 at h;refine A1 hS Tryz.func265 ?_;refine F5 hS trivial h (fun x1 x2=>⟨[(7,pN x2),(6,pN (wrap .i64 (a+1))),(3,.reg 4000 0),(2,.reg 3000 0)],[(4000,.arr 33 (fun i=>pI .u64 (x1 i))),(3000,.arr 33 (fun i=>pI .u64 ((fun _=>0) i)))]⟩) (ids:=[(3000,3000),(4000,4000)]) (fun _ _ _ _ _ b x1 x2 d h=>?_) (hle:=klR [(2,.fn 33 33 (fun i=>[(fun i=>(List.replicate 33 (pI .u64 0)).getD i default) i]) (fun i=>[pI .u64 ((fun _=>0) i)])),(3,.fn 33 33 (fun i=>[(fun i=>(List.replicate 33 (pI .u64 0)).getD i default) i]) (fun i=>[pI .u64 ((fun _=>0) i)]))] (al1 ⟨rfl,BC (z:=pI .u64 0) rfl⟩ (al1 ⟨rfl,BC (z:=pI .u64 0) rfl⟩ al0)));refine kI hS h ?_ ?_<;>intro h
 ·obtain⟨c4,h⟩:=D5 h;exact d _ [(3000,3000),(4000,4000)] _ (KH x1 (0+x2.toNat*1) (shI .shl .u64 1 x2)) (wrap .i64 (x2+1)) c4 h (hle:=klR [(2,.fn 33 33 (fun i=>[(fun i=>if i=(0+x2.toNat*1)then (pI .u64 (shI .shl .u64 1 x2))else (fun i=>pI .u64 (x1 i)) i) i]) (fun i=>[pI .u64 (KH x1 (0+x2.toNat*1) (shI .shl .u64 1 x2) i)]))] (al1 ⟨rfl,AE2 (c:=pI .u64) (v:=x1) (x:=shI .shl .u64 1 x2) (fun _ _=>rfl) rfl⟩ al0))
 ·obtain rfl:=B6 h;exact A5 hS (And.intro rfl (F4 _ _):(0:Nat)=0/\(Bv 33 (fun i=>pI .u64 (x1 i))).length=33) ⟨[(2,.reg 3000 0)],[(3000,.arr 33 (fun i=>pI .u64 (x1 i)))]⟩ [] (ids:=[(3000,3000)]) ⟨rfl,rfl,rfl⟩ (hle:=klR [(0,.fn 33 33 (fun i=>[(fun i=>(cA 33 (pI .u64) x1).getD i default) i]) (fun i=>[pI .u64 (x1 i)]))] (al1 ⟨rfl,E6 33 (fun i=>pI .u64 (x1 i))⟩ al0))
def M0 (N:Nat)(p_x:Nat->Int)(b:Nat->Int):Option (Nat->Int):=
 P6 N (fun a (x1:Nat->Int) (x2:Int)=>
  if (decide (x2<33)) then
   if (((0:Int)<=x2/\x2<33)/\(0+x2.toNat*1)<33)then
    if (((((0:Int)<=x2/\x2<33)/\(0+x2.toNat*1)<33)/\((0:Int)<=x2/\x2<33))/\(0+x2.toNat*1)<33)then
     a (KH x1 (0+x2.toNat*1) (D2 .or .u64 (x1 (0+x2.toNat*1)) (b (0+x2.toNat*1)))) (wrap .i64 (x2+1))
    else none
   else none
  else
   some x1
  ) p_x 0
theorem El {N:Nat}{p_x:Nat->Int}{a:Nat->Int}{y:Nat->Int}(h:M0 N p_x a=some y) :FunO S Eh [.reg 0 0,.reg 1 0] [.arr 33 (fun i=>pI .u64 (p_x i)),.arr 33 (fun i=>pI .u64 (a i))] (.tup []) ([.arr 33 (fun i=>pI .u64 (y i)),.arr 33 (fun i=>pI .u64 (a i))]) [true,true]:=by
 unfold M0 at h;refine A1 hS Tryz.func263 ?_;refine F5 hS trivial h (fun x1 x2=>⟨[(7,pN x2),(6,.reg 1 0),(0,.reg 0 0)],[(1,.arr 33 (fun i=>pI .u64 (a i))),(0,.arr 33 (fun i=>pI .u64 (x1 i)))]⟩) (ids:=[(0,0),(1,1)]) (fun _ _ _ _ _ b x1 x2 d h=>?_);refine kI hS h ?_ ?_<;>intro h
 ·refine Il hS trivial ?_;obtain⟨c8,h⟩:=D5 h;refine I4 c8 ?_;refine Il hS trivial ?_;obtain⟨c9,h⟩:=D5 h;refine I4 c9 ?_;exact d _ [(0,0),(1,1)] _ (KH x1 (0+x2.toNat*1) (D2 .or .u64 (x1 (0+x2.toNat*1)) (a (0+x2.toNat*1)))) (wrap .i64 (x2+1)) trivial h (hle:=klR [(2,.fn 33 33 (fun i=>[(fun i=>if i=(0+x2.toNat*1)then (pI .u64 (D2 .or .u64 (x1 (0+x2.toNat*1)) (a (0+x2.toNat*1))))else (fun i=>pI .u64 (x1 i)) i) i]) (fun i=>[pI .u64 (KH x1 (0+x2.toNat*1) (D2 .or .u64 (x1 (0+x2.toNat*1)) (a (0+x2.toNat*1))) i)]))] (al1 ⟨rfl,AE2 (c:=pI .u64) (v:=x1) (x:=D2 .or .u64 (x1 (0+x2.toNat*1)) (a (0+x2.toNat*1))) (fun _ _=>rfl) rfl⟩ al0))
 ·obtain rfl:=B6 h;exact A5 hS trivial ⟨[],[(1,.arr 33 (fun i=>pI .u64 (a i))),(0,.arr 33 (fun i=>pI .u64 (x1 i)))]⟩ [0,1] (ids:=[(0,0),(1,1)]) ⟨rfl,rfl,rfl⟩
def Ae (N:Nat)(b:Sl Sound)(a:Int):Option Int:=
 if ((decide (a<0))||(decide ((b.n:Int)<a))) then
  some 3
 else
  some 0
theorem Js {N:Nat}{c:Sl Sound}{b:Int}{y:Int}(h:Ae N c b=some y) :FunO S Jl [.p (vSl 2 A0 c),pN b] [] (pN y) ([]) []:=by
 unfold Ae at h;refine A1 hS Tryz.func228 ?_;refine kB hS (A4 hS) trivial trivial 5 (.o (.a (decide (b<0))) (.a (decide ((c.n:Int)<b)))) ?_;refine kI hS h ?_ ?_<;>intro h
 ·cases h;exact kR hS
 ·cases h;exact kR hS
def AH (N:Nat)(a:Pat):Option Int:=
 if (if (a.Kind==0) then a.Kind==0 else (if (a.Kind==2) then a.Kind==2 else a.Kind==6)) then
  lt (fun (z1:Bool)=>
   if z1 then
    some 2
   else
    (O3 N a.Is).bind fun y1=>
    if (!y1) then
     some 14
    else
     some 0
   ) fun k1=>
   if (((a.Is.Plus==0)&&(a.Is.Minus==0)) != true) then
    k1 true
   else
    if a.Not then
     k1 true
    else
     if (a.Min != 0) then
      k1 true
     else
      if (a.Max != 0) then
       k1 true
      else
       k1 (decide (0<(a.L.n:Int)))
 else
  if (a.Kind==1) then
   lt (fun (z2:Bool)=>
    if z2 then
     some 2
    else
     (O3 N a.Is).bind fun y2=>
     if (!y2) then
      some 14
     else
      some 0
    ) fun k2=>
    if (((0==0)&&(0==0)) != true) then
     k2 true
    else
     if (a.Min != 0) then
      k2 true
     else
      if (a.Max != 0) then
       k2 true
      else
       k2 (decide (0<(a.L.n:Int)))
  else
   lt (fun (z3:Int×Int)=>
    if (((((((a.Is.Plus==0)&&(a.Is.Minus==0)) != true)||a.Not)||(z3.1 != 0))||(z3.2 != 0))||(decide (0<0))) then
     some 2
    else
     (O3 N a.Is).bind fun y3=>
     if (!y3) then
      some 14
     else
      some 0
    ) fun k3=>
    if (if (a.Kind==3) then a.Kind==3 else a.Kind==4) then
     k3 (a.Min,a.Max)
    else
     if (a.Kind==5) then
      if (((((a.L.n:Int) != 1)||(decide (a.Min<0)))||(decide (32<a.Min)))||((a.Max != (-1))&&((decide (a.Max<a.Min))||(decide (32<a.Max))))) then
       some 2
      else
       k3 (0,0)
     else
      some 2
theorem OJ {N:Nat}{c:Pat}{y:Int}(h:AH N c=some y) :FunO S HR [.p (.agg (B3 c))] [] (pN y) ([]) []:=by
 unfold AH at h;refine A1 hS Tryz.func148 ?_;obtain⟨t1,f⟩:∃x:Bool,x=(if (c.Kind==0) then c.Kind==0 else (if (c.Kind==2) then c.Kind==2 else c.Kind==6)):=⟨_,rfl⟩;refine Ti hS trivial (A4 hS) 0 ⟨[(8,pB t1),(7,pN c.Kind),(3,.reg 4000 0),(1,.reg 2000 0)],[(4000,.cells [pN 0,pU c.Is.Plus,pU c.Is.Minus,pB c.Not,pN c.Min,pN c.Max,.p (.sl false 7 c.L.n (Bs c))]),(2000,.cells ((B3 c).map .p))]⟩ (fun M1 l=>?_) ?_
 ·refine D3 hS trivial (b:=c.Kind==0) (fun c3=>?_) (fun c3=>?_)
  ·exact l _ [(2000,2000),(4000,4000)] _ trivial (hle:=klR [(0,.eq (.bb (c.Kind==0)) (.bb t1))] (al1 (by simp only[f,c3,Leaf.ok,pm,if_true,if_false]) al0))
  ·refine D3 hS trivial (b:=c.Kind==2) (fun c4=>?_) (fun c4=>?_)
   ·exact l _ [(2000,2000),(4000,4000)] _ trivial (hle:=klR [(0,.eq (.bb (c.Kind==2)) (.bb t1))] (al1 (by simp only[f,c3,c4,Leaf.ok,pm,if_true,if_false]) al0))
   ·exact l _ [(2000,2000),(4000,4000)] _ trivial (hle:=klR [(0,.eq (.bb (c.Kind==6)) (.bb t1))] (al1 (by simp only[f,c3,c4,Leaf.ok,pm,if_true,if_false]) al0))
 ·subst f;refine kI hS h ?_ ?_<;>intro h
  ·refine Hu hS (by decide +kernel:AG4 Tryz.prog B5=true) (A4 hS) h 0 (fun z1=>⟨[(57,pB z1),(1,.reg 2000 0)],[(2000,.cells ((B3 c).map .p))]⟩) (fun M3 k1 d h=>?_) (fun z1 h=>?_)
   ·refine kG hS h (fun h=>?_) (fun h=>?_)
    ·exact d _ [(2000,2000)] _ true trivial h
    ·refine kG hS h (fun h=>?_) (fun h=>?_)
     ·exact d _ [(2000,2000)] _ true trivial h
     ·refine kG hS h (fun h=>?_) (fun h=>?_)
      ·exact d _ [(2000,2000)] _ true trivial h
      ·refine kG hS h (fun h=>?_) (fun h=>?_)
       ·exact d _ [(2000,2000)] _ true trivial h
       ·refine I5 hS trivial 79 ⟨[(78,.p (vSl 7 B3 c.L)),(76,.p (.v (.bool false))),(1,.reg 2000 0)],[(2000,.cells ((B3 c).map .p))]⟩ (ids:=[(2000,2000)]) ?_ (hle:=klR [(0,.fn c.L.n c.L.n (Bs c) (fun i=>B3 (c.L.g i)))] (al1 ⟨rfl,K8 c⟩ al0));exact d _ [(2000,2000)] _ (decide (0<(c.L.n:Int))) trivial h
   ·refine kI hS h ?_ ?_<;>intro h
    ·cases h;exact kR hS
    ·refine kC hS h (Ek hS hL) (fun y1 h=>?_);refine kI hS h ?_ ?_<;>intro h
     ·cases h;exact kR hS
     ·cases h;exact kR hS
  ·refine kI hS h ?_ ?_<;>intro h
   ·refine Hu hS (by decide +kernel:AG4 Tryz.prog B5=true) (A4 hS) h 0 (fun z2=>⟨[(57,pB z2),(1,.reg 2000 0)],[(2000,.cells ((B3 c).map .p))]⟩) (fun M5 k2 j h=>?_) (fun z2 h=>?_)
    ·refine kG hS h (fun h=>?_) (fun h=>?_)
     ·exact j _ [(2000,2000)] _ true trivial h
     ·refine Gw hS trivial (b:=false) (fun c54=>?_) (fun c54=>?_)
      ·exact Bool.noConfusion ((rfl:false=false).symm.trans c54)
      ·refine kG hS h (fun h=>?_) (fun h=>?_)
       ·exact j _ [(2000,2000)] _ true trivial h
       ·refine kG hS h (fun h=>?_) (fun h=>?_)
        ·exact j _ [(2000,2000)] _ true trivial h
        ·refine I5 hS trivial 79 ⟨[(78,.p (vSl 7 B3 c.L)),(76,.p (.v (.bool false))),(1,.reg 2000 0)],[(2000,.cells ((B3 c).map .p))]⟩ (ids:=[(2000,2000)]) ?_ (hle:=klR [(0,.fn c.L.n c.L.n (Bs c) (fun i=>B3 (c.L.g i)))] (al1 ⟨rfl,K8 c⟩ al0));exact j _ [(2000,2000)] _ (decide (0<(c.L.n:Int))) trivial h
    ·refine kI hS h ?_ ?_<;>intro h
     ·cases h;exact kR hS
     ·refine kC hS h (Ek hS hL) (fun y2 h=>?_);refine kI hS h ?_ ?_<;>intro h
      ·cases h;exact kR hS
      ·cases h;exact kR hS
   ·obtain⟨t4,m⟩:∃x:Bool,x=(if (c.Kind==3) then c.Kind==3 else c.Kind==4):=⟨_,rfl⟩;refine Ti hS trivial (A4 hS) 0 ⟨[(17,pB t4),(7,pN c.Kind),(3,.reg 4000 0),(1,.reg 2000 0)],[(4000,.cells [pN 0,pU c.Is.Plus,pU c.Is.Minus,pB c.Not,pN c.Min,pN c.Max,.p (.sl false 7 c.L.n (Bs c))]),(2000,.cells ((B3 c).map .p))]⟩ (fun M6 q=>?_) ?_
    ·refine D3 hS trivial (b:=c.Kind==3) (fun c60=>?_) (fun c60=>?_)
     ·exact q _ [(2000,2000),(4000,4000)] _ trivial (hle:=klR [(0,.eq (.bb (c.Kind==3)) (.bb t4))] (al1 (by simp only[m,c60,Leaf.ok,pm,if_true,if_false]) al0))
     ·exact q _ [(2000,2000),(4000,4000)] _ trivial (hle:=klR [(0,.eq (.bb (c.Kind==4)) (.bb t4))] (al1 (by simp only[m,c60,Leaf.ok,pm,if_true,if_false]) al0))
    ·subst m;refine Hu hS trivial (A4 hS) h 0 (fun z3=>⟨[(3,.reg 4000 0),(1,.reg 2000 0)],[(4000,.cells [pN 0,pU c.Is.Plus,pU c.Is.Minus,pB c.Not,pN z3.1,pN z3.2,.p G6]),(2000,.cells ((B3 c).map .p))]⟩) (fun M7 k3 r h=>?_) (fun z3 h=>?_)
     ·refine kI hS h ?_ ?_<;>intro h
      ·exact r _ [(2000,2000),(4000,4000)] _ (c.Min,c.Max) trivial h
      ·refine kI hS h ?_ ?_<;>intro h
       ·refine I5 hS trivial 25 ⟨[(24,.p (vSl 7 B3 c.L)),(3,.reg 4000 0),(1,.reg 2000 0)],[(4000,.cells [pN 0,pU c.Is.Plus,pU c.Is.Minus,pB c.Not,pN c.Min,pN c.Max,.p (.sl false 7 c.L.n (Bs c))]),(2000,.cells ((B3 c).map .p))]⟩ (ids:=[(2000,2000),(4000,4000)]) ?_ (hle:=klR [(0,.fn c.L.n c.L.n (Bs c) (fun i=>B3 (c.L.g i)))] (al1 ⟨rfl,K8 c⟩ al0));refine kB hS (A4 hS) trivial trivial 26 (.o (.o (.o (.a ((c.L.n:Int) != 1)) (.a (decide (c.Min<0)))) (.a (decide (32<c.Min)))) (.n (.a (c.Max != (-1))) (.o (.a (decide (c.Max<c.Min))) (.a (decide (32<c.Max)))))) ?_;refine kI hS h ?_ ?_<;>intro h
        ·cases h;exact kR hS
        ·exact r _ [(2000,2000),(4000,4000)] _ (0,0) trivial h
       ·cases h;exact kR hS
     ·refine kB hS (A4 hS) (by decide +kernel:AG4 Tryz.prog B5=true) trivial 19 (.o (.o (.o (.o (.a (((c.Is.Plus==0)&&(c.Is.Minus==0)) != true)) (.a c.Not)) (.a (z3.1 != 0))) (.a (z3.2 != 0))) (.a (decide (0<0)))) ?_;refine kI hS h ?_ ?_<;>intro h
      ·cases h;exact kR hS
      ·refine kC hS h (Ek hS hL) (fun y3 h=>?_);refine kI hS h ?_ ?_<;>intro h
       ·cases h;exact kR hS
       ·cases h;exact kR hS
def EU (N:Nat)(a:Pat):Option Int:=
 if ((decide (a.Kind<0))||(decide (6<a.Kind))) then
  some 2
 else
  if ((a.Kind != 1)&&((((a.Is.Plus==0)&&(a.Is.Minus==0)) != true)||a.Not)) then
   some 2
  else
   lt (fun (z1:Bool)=>
    if z1 then
     some 2
    else
     if ((a.Kind != 5)&&((a.Min != 0)||(a.Max != 0))) then
      some 2
     else
      lt (fun (z2:Bool)=>
       if z2 then
        some 2
       else
        (R4 N a.Is).bind fun y1=>
        if (!y1) then
         some 14
        else
         some 0
       ) fun k2=>
       if (a.Kind==5) then
        if ((a.L.n:Int) != 1) then
         k2 true
        else
         if (decide (a.Min<0)) then
          k2 true
         else
          if (decide (32<a.Min)) then
           k2 true
          else
           if (a.Max != (-1)) then
            if (decide (a.Max<a.Min)) then
             k2 true
            else
             k2 (decide (32<a.Max))
           else
            k2 false
       else
        k2 false
    ) fun k1=>
    if (a.Kind != 3) then
     if (a.Kind != 4) then
      if (a.Kind != 5) then
       k1 (decide (0<(a.L.n:Int)))
      else
       k1 false
     else
      k1 false
    else
     k1 false
theorem ZR {N:Nat}{c:Pat}{y:Int}(h:EU N c=some y) :FunO S PS [.p (.agg (B3 c))] [] (pN y) ([]) []:=by
 unfold EU at h;refine A1 hS Tryz.func173 ?_;refine kB hS (A4 hS) trivial trivial 4 (.o (.a (decide (c.Kind<0))) (.a (decide (6<c.Kind)))) ?_;refine kI hS h ?_ ?_<;>intro h
 ·cases h;exact kR hS
 ·obtain⟨t1,f⟩:∃x:Bool,x=((c.Kind != 1)&&((((c.Is.Plus==0)&&(c.Is.Minus==0)) != true)||c.Not)):=⟨_,rfl⟩;refine Ti hS trivial (A4 hS) 0 ⟨[(23,pB t1),(1,.reg 2000 0)],[(2000,.cells ((B3 c).map .p))]⟩ (fun M1 l=>?_) ?_
  ·refine Gw hS trivial (b:=c.Kind != 1) (fun c4=>?_) (fun c4=>?_)
   ·refine Gw hS (by decide +kernel:AG4 Tryz.prog B5=true) (b:=((c.Is.Plus==0)&&(c.Is.Minus==0)) != true) (fun c5=>?_) (fun c5=>?_)
    ·exact l _ [(2000,2000)] _ trivial (hle:=klR [(0,.eq (.bb true) (.bb t1))] (al1 (by simp only[f,c4,c5,Leaf.ok,pm,if_true,if_false]) al0))
    ·exact l _ [(2000,2000)] _ trivial (hle:=klR [(0,.eq (.bb c.Not) (.bb t1))] (al1 (by simp only[f,c4,c5,Leaf.ok,pm,if_true,if_false]) al0))
   ·exact l _ [(2000,2000)] _ trivial (hle:=klR [(0,.eq (.bb false) (.bb t1))] (al1 (by simp only[f,c4,Leaf.ok,pm,if_true,if_false]) al0))
  ·subst f;refine kI hS h ?_ ?_<;>intro h
   ·cases h;exact kR hS
   ·refine Hu hS trivial (A4 hS) h 0 (fun z1=>⟨[(42,pB z1),(1,.reg 2000 0)],[(2000,.cells ((B3 c).map .p))]⟩) (fun M2 k1 j h=>?_) (fun z1 h=>?_)
    ·refine kG hS h (fun h=>?_) (fun h=>?_)
     ·refine kG hS h (fun h=>?_) (fun h=>?_)
      ·refine kG hS h (fun h=>?_) (fun h=>?_)
       ·refine I5 hS trivial 40 ⟨[(39,.p (vSl 7 B3 c.L)),(37,.p (.v (.bool true))),(1,.reg 2000 0)],[(2000,.cells ((B3 c).map .p))]⟩ (ids:=[(2000,2000)]) ?_ (hle:=klR [(0,.fn c.L.n c.L.n (Bs c) (fun i=>B3 (c.L.g i)))] (al1 ⟨rfl,K8 c⟩ al0));exact j _ [(2000,2000)] _ (decide (0<(c.L.n:Int))) trivial h
       ·exact j _ [(2000,2000)] _ false trivial h
      ·exact j _ [(2000,2000)] _ false trivial h
     ·exact j _ [(2000,2000)] _ false trivial h
    ·refine kI hS h ?_ ?_<;>intro h
     ·cases h;exact kR hS
     ·refine kB hS (A4 hS) trivial trivial 9 (.n (.a (c.Kind != 5)) (.o (.a (c.Min != 0)) (.a (c.Max != 0)))) ?_;refine kI hS h ?_ ?_<;>intro h
      ·cases h;exact kR hS
      ·refine Hu hS trivial (A4 hS) h 0 (fun z2=>⟨[(91,pB z2),(1,.reg 2000 0)],[(2000,.cells ((B3 c).map .p))]⟩) (fun M3 k2 d h=>?_) (fun z2 h=>?_)
       ·refine kG hS h (fun h=>?_) (fun h=>?_)
        ·refine I5 hS trivial 62 ⟨[(61,.p (vSl 7 B3 c.L)),(59,.p (.v (.bool true))),(1,.reg 2000 0)],[(2000,.cells ((B3 c).map .p))]⟩ (ids:=[(2000,2000)]) ?_ (hle:=klR [(0,.fn c.L.n c.L.n (Bs c) (fun i=>B3 (c.L.g i)))] (al1 ⟨rfl,K8 c⟩ al0));refine kG hS h (fun h=>?_) (fun h=>?_)
         ·exact d _ [(2000,2000)] _ true trivial h
         ·refine kG hS h (fun h=>?_) (fun h=>?_)
          ·exact d _ [(2000,2000)] _ true trivial h
          ·refine kG hS h (fun h=>?_) (fun h=>?_)
           ·exact d _ [(2000,2000)] _ true trivial h
           ·refine kG hS h (fun h=>?_) (fun h=>?_)
            ·refine kG hS h (fun h=>?_) (fun h=>?_)
             ·exact d _ [(2000,2000)] _ true trivial h
             ·exact d _ [(2000,2000)] _ (decide (32<c.Max)) trivial h
            ·exact d _ [(2000,2000)] _ false trivial h
        ·exact d _ [(2000,2000)] _ false trivial h
       ·refine kI hS h ?_ ?_<;>intro h
        ·cases h;exact kR hS
        ·refine kC hS h (Nr hS hL) (fun y1 h=>?_);refine kI hS h ?_ ?_<;>intro h
         ·cases h;exact kR hS
         ·cases h;exact kR hS
def DL (N:Nat)(b:Sound)(a:Sound):Option Bool:=
 some (((D2 .and .u32 b.Plus a.Plus)==a.Plus)&&((D2 .and .u32 b.Minus a.Minus)==a.Minus))
theorem Ns {N:Nat}{c:Sound}{b:Sound}{y:Bool}(h:DL N c b=some y) :FunO S GK [.p (.agg (A0 c)),.p (.agg (A0 b))] [] (pB y) ([]) []:=by unfold DL at h;refine A1 hS Tryz.func238 ?_;refine kB hS (A4 hS) trivial trivial 9 (.n (.a ((D2 .and .u32 c.Plus b.Plus)==b.Plus)) (.a ((D2 .and .u32 c.Minus b.Minus)==b.Minus))) ?_;cases h;exact kR hS
def Dg (N:Nat)(a:Int):Option (Sl Int):=
 if ((0:Int)<=(wrap .i64 (a+1))/\(wrap .i64 (a+1))<=(wrap .i64 (a+1))/\(wrap .i64 (a+1))*8<=140737488355328/\(wrap .i64 (a+1))<=140737488355328)then
  P6 N (fun b (x1:Sl Int) (x2:Int)=>
   if (decide (x2<=a)) then
    if (((0:Int)<=x2/\((0:Int)<=x2/\x2<(x1.n:Int)))/\x2.toNat<x1.n)then
     b (x1.upd x2.toNat (shI .shl .u64 1 x2)) (wrap .i64 (x2+1))
    else none
   else
    some x1
   ) (Sl.rep (wrap .i64 (a+1)).toNat 0:Sl Int) 0
 else none
theorem Qe {N:Nat}{a:Int}{y:Sl Int}(h:Dg N a=some y) :FunO S Qa [pN a] [] (.vec 0) ([.vec C5 1 y.n (fun i=>cI .u64 (y.g i)) true]) []:=by
 unfold Dg at h;refine A1 hS Tryz.func239 ?_;obtain⟨c1,h⟩:=D5 h;refine F5 hS c1 h (fun x1 x2=>⟨[(4,pN x2),(3,.vec 8000),(0,pN a)],[(8000,.vec C5 1 x1.n (fun i=>cI .u64 (x1.g i)) false)]⟩) (ids:=[(8000,8000)]) (fun _ _ _ _ _ b x1 x2 d h=>?_);refine kI hS h ?_ ?_<;>intro h
 ·obtain⟨c5,h⟩:=D5 h;exact d _ [(8000,8000)] _ (x1.upd x2.toNat (shI .shl .u64 1 x2)) (wrap .i64 (x2+1)) (And.intro (And.intro c5.1.1 c5.1.2) (And.intro (rfl:(1:Nat)=1) (And.intro c5.2 (by decide:(1:Nat)<=1)))) h (hle:=klR [(2,.fn x1.n (x1.upd x2.toNat (shI .shl .u64 1 x2)).n (fun l=>if l=x2.toNat then splice ((fun i=>cI .u64 (x1.g i)) l) 0 [pI .u64 (shI .shl .u64 1 x2)]else (fun i=>cI .u64 (x1.g i)) l) (fun i=>cI .u64 ((x1.upd x2.toNat (shI .shl .u64 1 x2)).g i)))] (al1 ⟨rfl,Ad4 (c:=cI .u64) (v:=x1) (x:=shI .shl .u64 1 x2) same (fun _=>by first|rfl|(dsimp only;split<;>rfl))⟩ al0))
 ·obtain rfl:=B6 h;exact A5 hS trivial ⟨[(2,.vec 8000)],[(8000,.vec C5 1 x1.n (fun i=>cI .u64 (x1.g i)) true)]⟩ [8000] (ids:=[(8000,8000)]) ⟨rfl,rfl,rfl⟩
def X9 (N:Nat)(p_x:Sl Int)(b:Sl Int):Option (Sl Int):=
 if ((0:Int)<=(p_x.n:Int)/\(p_x.n:Int)<=(p_x.n:Int)/\(p_x.n:Int)*8<=140737488355328/\(p_x.n:Int)<=140737488355328)then
  P6 N (fun c (x3:Sl Int) (x4:Int)=>
   if (decide (x4<(p_x.n:Int))) then
    P6 N (fun a (x7:Sl Int) (x8:Int)=>
     if (decide (x8<(b.n:Int))) then
      if (((0:Int)<=x4/\x4<(p_x.n:Int))/\(0:Int)<=x8)then
       if ((D2 .and .u64 (shI .shr .u64 (p_x.g x4.toNat) x8) 1)==1) then
        if ((((((0:Int)<=x4/\x4<(x7.n:Int))/\x4.toNat<x7.n)/\((0:Int)<=x8/\x8<(b.n:Int)))/\((0:Int)<=x4/\x4<(x7.n:Int)))/\x4.toNat<x7.n)then
         a (x7.upd x4.toNat (D2 .or .u64 (x7.g x4.toNat) (b.g x8.toNat))) (wrap .i64 (x8+1))
        else none
       else
        a x7 (wrap .i64 (x8+1))
      else none
     else
      c x7 (wrap .i64 (x4+1))
     ) x3 0
   else
    some x3
   ) (Sl.rep (p_x.n:Int).toNat 0:Sl Int) 0
 else none
theorem GP {N:Nat}{p_x:Sl Int}{a:Sl Int}{y:Sl Int}(h:X9 N p_x a=some y) :FunO S KX [.p (vSl 1 (cI .u64) p_x),.p (vSl 1 (cI .u64) a)] [] (.vec 0) ([.vec C5 1 y.n (fun i=>cI .u64 (y.g i)) true]) []:=by
 unfold X9 at h;refine A1 hS Tryz.func240 ?_;obtain⟨c1,h⟩:=D5 h;refine F5 hS c1 h (fun x3 x4=>⟨[(6,pN x4),(5,.vec 11000),(1,.p (vSl 1 (cI .u64) a)),(0,.p (vSl 1 (cI .u64) p_x))],[(11000,.vec C5 1 x3.n (fun i=>cI .u64 (x3.g i)) false)]⟩) (ids:=[(11000,11000)]) (fun _ _ _ _ _ f x3 x4 j h=>?_);refine kI hS h ?_ ?_<;>intro h
 ·refine F5 hS trivial h (fun x7 x8=>⟨[(7,pN x8),(6,pN x4),(5,.vec 11000),(1,.p (vSl 1 (cI .u64) a)),(0,.p (vSl 1 (cI .u64) p_x))],[(11000,.vec C5 1 x7.n (fun i=>cI .u64 (x7.g i)) false)]⟩) (ids:=[(11000,11000)]) (fun _ _ _ _ _ m x7 x8 d h=>?_);refine kI hS h ?_ ?_<;>intro h
  ·obtain⟨c38,h⟩:=D5 h;refine D3 hS c38 (b:=(D2 .and .u64 (shI .shr .u64 (p_x.g x4.toNat) x8) 1)==1) (fun c39=>?_) (fun c39=>?_)
   ·replace h:=itT c39 h;refine D9 hS trivial [8,9] ?_;obtain⟨c40,h⟩:=D5 h;refine I4 (And.intro (And.intro (And.intro (And.intro c40.1.1.1.1 c40.1.1.1.2) c40.1.1.2) c40.1.2) (And.intro (rfl:(1:Nat)=1) (And.intro c40.2 (by decide:(1:Nat)<=1)))) ?_;exact d _ [(11000,11000)] _ (x7.upd x4.toNat (D2 .or .u64 (x7.g x4.toNat) (a.g x8.toNat))) (wrap .i64 (x8+1)) trivial h (hle:=klR [(4,.fn x7.n (x7.upd x4.toNat (D2 .or .u64 (x7.g x4.toNat) (a.g x8.toNat))).n (fun l=>if l=x4.toNat then splice ((fun i=>cI .u64 (x7.g i)) l) 0 [pI .u64 (D2 .or .u64 (x7.g x4.toNat) (a.g x8.toNat))]else (fun i=>cI .u64 (x7.g i)) l) (fun i=>cI .u64 ((x7.upd x4.toNat (D2 .or .u64 (x7.g x4.toNat) (a.g x8.toNat))).g i)))] (al1 ⟨rfl,Ad4 (c:=cI .u64) (v:=x7) (x:=D2 .or .u64 (x7.g x4.toNat) (a.g x8.toNat)) same (fun _=>by first|rfl|(dsimp only;split<;>rfl))⟩ al0))
   ·replace h:=itF c39 h;exact d _ [(11000,11000)] _ x7 (wrap .i64 (x8+1)) trivial h
  ·exact j _ [(11000,11000)] _ x7 (wrap .i64 (x4+1)) trivial h
 ·obtain rfl:=B6 h;exact A5 hS trivial ⟨[(4,.vec 11000)],[(11000,.vec C5 1 x3.n (fun i=>cI .u64 (x3.g i)) true)]⟩ [11000] (ids:=[(11000,11000)]) ⟨rfl,rfl,rfl⟩
def Dh (N:Nat)(p_x:Sl Int)(b:Sl Int):Option (Sl Int):=
 if ((0:Int)<=(p_x.n:Int)/\(p_x.n:Int)<=(p_x.n:Int)/\(p_x.n:Int)*8<=140737488355328/\(p_x.n:Int)<=140737488355328)then
  P6 N (fun a (x1:Sl Int) (x2:Int)=>
   if (decide (x2<(p_x.n:Int))) then
    if (((((0:Int)<=x2/\x2<(p_x.n:Int))/\((0:Int)<=x2/\x2<(b.n:Int)))/\((0:Int)<=x2/\x2<(x1.n:Int)))/\x2.toNat<x1.n)then
     a (x1.upd x2.toNat (D2 .or .u64 (p_x.g x2.toNat) (b.g x2.toNat))) (wrap .i64 (x2+1))
    else none
   else
    some x1
   ) (Sl.rep (p_x.n:Int).toNat 0:Sl Int) 0
 else none
theorem Qf {N:Nat}{p_x:Sl Int}{a:Sl Int}{y:Sl Int}(h:Dh N p_x a=some y) :FunO S Qb [.p (vSl 1 (cI .u64) p_x),.p (vSl 1 (cI .u64) a)] [] (.vec 0) ([.vec C5 1 y.n (fun i=>cI .u64 (y.g i)) true]) []:=by
 unfold Dh at h;refine A1 hS Tryz.func241 ?_;obtain⟨c1,h⟩:=D5 h;refine F5 hS c1 h (fun x1 x2=>⟨[(6,pN x2),(5,.vec 10000),(1,.p (vSl 1 (cI .u64) a)),(0,.p (vSl 1 (cI .u64) p_x))],[(10000,.vec C5 1 x1.n (fun i=>cI .u64 (x1.g i)) false)]⟩) (ids:=[(10000,10000)]) (fun _ _ _ _ _ b x1 x2 d h=>?_);refine kI hS h ?_ ?_<;>intro h
 ·refine D9 hS trivial [4,5,8,9] ?_;obtain⟨c7,h⟩:=D5 h;refine I4 (And.intro (And.intro (And.intro c7.1.1.1 c7.1.1.2) c7.1.2) (And.intro (rfl:(1:Nat)=1) (And.intro c7.2 (by decide:(1:Nat)<=1)))) ?_;exact d _ [(10000,10000)] _ (x1.upd x2.toNat (D2 .or .u64 (p_x.g x2.toNat) (a.g x2.toNat))) (wrap .i64 (x2+1)) trivial h (hle:=klR [(3,.fn x1.n (x1.upd x2.toNat (D2 .or .u64 (p_x.g x2.toNat) (a.g x2.toNat))).n (fun l=>if l=x2.toNat then splice ((fun i=>cI .u64 (x1.g i)) l) 0 [pI .u64 (D2 .or .u64 (p_x.g x2.toNat) (a.g x2.toNat))]else (fun i=>cI .u64 (x1.g i)) l) (fun i=>cI .u64 ((x1.upd x2.toNat (D2 .or .u64 (p_x.g x2.toNat) (a.g x2.toNat))).g i)))] (al1 ⟨rfl,Ad4 (c:=cI .u64) (v:=x1) (x:=D2 .or .u64 (p_x.g x2.toNat) (a.g x2.toNat)) same (fun _=>by first|rfl|(dsimp only;split<;>rfl))⟩ al0))
 ·obtain rfl:=B6 h;exact A5 hS trivial ⟨[(4,.vec 10000)],[(10000,.vec C5 1 x1.n (fun i=>cI .u64 (x1.g i)) true)]⟩ [10000] (ids:=[(10000,10000)]) ⟨rfl,rfl,rfl⟩
def DM (N:Nat)(p_x:Sl Int)(b:Sl Int):Option Bool:=
 W6 N (fun a (x1:Int)=>
  if (decide (x1<(p_x.n:Int))) then
   if (((0:Int)<=x1/\x1<(p_x.n:Int))/\((0:Int)<=x1/\x1<(b.n:Int)))then
    if ((p_x.g x1.toNat) != (b.g x1.toNat)) then
     some false
    else
     a (wrap .i64 (x1+1))
   else none
  else
   some true
  ) 0
theorem Wq {N:Nat}{p_x:Sl Int}{a:Sl Int}{y:Bool}(h:DM N p_x a=some y) :FunO S Ni [.p (vSl 1 (cI .u64) p_x),.p (vSl 1 (cI .u64) a)] [] (pB y) ([]) []:=by
 unfold DM at h;refine A1 hS Tryz.func242 ?_;refine J0 hS trivial h (fun x1=>⟨[(5,pN x1),(1,.p (vSl 1 (cI .u64) a)),(0,.p (vSl 1 (cI .u64) p_x))],[]⟩) (ids:=[]) (fun _ _ _ _ _ b x1 c h=>?_);refine kI hS h ?_ ?_<;>intro h
 ·refine D9 hS trivial [2,3,6,7] ?_;obtain⟨c8,h⟩:=D5 h;refine I4 c8 ?_;refine kI hS h ?_ ?_<;>intro h
  ·cases h;exact kR hS
  ·exact c _ [] _ (wrap .i64 (x1+1)) trivial h
 ·cases h;exact kR hS
end Go.AM
namespace Go.AM
open IntKind (wrap)
open Go.Proofs
set_option maxRecDepth 10000
set_option maxHeartbeats 2000000
variable {S:Az}(hS:H5 S Tryz.prog) (hL:Qd S)
include hS hL
def BG (rec:Pat->Int->Option Int)(N:Nat)(b:Pat)(a:Int):Option Int:=
 P6 N (fun c (x1:Int) (x2:Int)=>
  if ((decide (x2<(b.L.n:Int)))&&(decide (x1<=40))) then
   if ((0:Int)<=x2/\x2<(b.L.n:Int))then
    (rec (b.L.g x2.toNat) x1).bind fun y3=>
    c y3 (wrap .i64 (x2+1))
   else none
  else
   some x1
  ) (wrap .i64 (a+1)) 0
def Be:Nat->Pat->Int->Option Int
 |0=>fun _ _=>none
 |N+1=>BG (Be N) N
theorem Ub {N:Nat}{rec:Pat->Int->Option Int}(d:∀{b:Pat}{c:Int}{y:Int},rec b c=some y->FunO S Fz [.p (.agg (B3 b)),pN c] [] (pN y) ([]) []){b:Pat}{c:Int}{y:Int}(h:BG rec N b c=some y) :FunO S Fz [.p (.agg (B3 b)),pN c] [] (pN y) ([]) []:=by
 unfold BG at h;refine A1 hS Tryz.func104 ?_;refine F5 hS trivial h (fun x1 x2=>⟨[(6,pN x2),(5,pN x1),(2,.reg 3000 0)],[(3000,.cells ((B3 b).map .p))]⟩) (ids:=[(3000,3000)]) (fun _ _ _ _ _ f x1 x2 j h=>?_);refine I5 hS trivial 12 ⟨[(11,.p (vSl 7 B3 b.L)),(9,pN x2),(6,pN x2),(5,pN x1),(2,.reg 3000 0)],[(3000,.cells ((B3 b).map .p))]⟩ (ids:=[(3000,3000)]) ?_ (hle:=klR [(0,.fn b.L.n b.L.n (Bs b) (fun i=>B3 (b.L.g i)))] (al1 ⟨rfl,K8 b⟩ al0));refine kB hS (A4 hS) trivial trivial 3 (.n (.a (decide (x2<(b.L.n:Int)))) (.a (decide (x1<=40)))) ?_;refine kI hS h ?_ ?_<;>intro h
 ·refine I5 hS trivial 23 ⟨[(22,pN x2),(21,.p (vSl 7 B3 b.L)),(6,pN x2),(5,pN x1),(2,.reg 3000 0)],[(3000,.cells ((B3 b).map .p))]⟩ (ids:=[(3000,3000)]) ?_ (hle:=klR [(1,.fn b.L.n b.L.n (Bs b) (fun i=>B3 (b.L.g i)))] (al1 ⟨rfl,K8 b⟩ al0));obtain⟨c6,h⟩:=D5 h;obtain⟨y3,e3,h⟩:=B8 h;refine B9 hS [] (And.intro c6 (by decide:(7:Nat)<=7)) (d e3) ?_;exact j _ [(3000,3000)] _ y3 (wrap .i64 (x2+1)) trivial h
 ·cases h;exact kR hS
theorem Wr {N:Nat}{b:Pat}{a:Int}{y:Int}(h:Be N b a=some y) :FunO S Fz [.p (.agg (B3 b)),pN a] [] (pN y) ([]) []:=by
 induction N generalizing b a y with
 |zero=>cases (show (none:Option Int)=some y from h)
 |succ N ih=>exact Ub hS hL (fun e=>ih e) h
def Af (N:Nat)(a:Pat):Option Int:=
 (Be N a 0).bind fun y1=>
 some y1
theorem EV {N:Nat}{a:Pat}{y:Int}(h:Af N a=some y) :FunO S PH [.p (.agg (B3 a))] [] (pN y) ([]) []:=by unfold Af at h;refine A1 hS Tryz.func69 ?_;refine kC hS h (Wr hS hL) (fun y1 h=>?_);cases h;exact kR hS
def Y0 (rec:Pat->Option Int)(N:Nat)(a:Pat):Option Int:=
 P6 N (fun b (x1:Int) (x2:Int)=>
  if (decide (x2<(a.L.n:Int))) then
   if ((0:Int)<=x2/\x2<(a.L.n:Int))then
    (rec (a.L.g x2.toNat)).bind fun y3=>
    b (wrap .i64 (x1+y3)) (wrap .i64 (x2+1))
   else none
  else
   some x1
  ) (if (a.Kind==5) then 1 else 0) 0
def Ag:Nat->Pat->Option Int
 |0=>fun _=>none
 |N+1=>Y0 (Ag N) N
theorem OK {N:Nat}{rec:Pat->Option Int}(d:∀{a:Pat}{y:Int},rec a=some y->FunO S CZ [.p (.agg (B3 a))] [] (pN y) ([]) []){a:Pat}{y:Int}(h:Y0 rec N a=some y) :FunO S CZ [.p (.agg (B3 a))] [] (pN y) ([]) []:=by
 unfold Y0 at h;refine A1 hS Tryz.func132 ?_;obtain⟨t1,c⟩:∃x:Int,x=(if (a.Kind==5) then 1 else 0):=⟨_,rfl⟩;refine Ti hS trivial (A4 hS) 0 ⟨[(3,pN t1),(1,.reg 2000 0)],[(2000,.cells ((B3 a).map .p))]⟩ (fun M1 f=>?_) ?_
 ·refine D3 hS trivial (b:=a.Kind==5) (fun c2=>?_) (fun c2=>?_)
  ·exact f _ [(2000,2000)] _ trivial (hle:=klR [(0,.eq (pI .i64 1) (pI .i64 t1))] (al1 (by simp only[c,c2,Leaf.ok,pm,if_true,if_false]) al0))
  ·exact f _ [(2000,2000)] _ trivial (hle:=klR [(0,.eq (pI .i64 0) (pI .i64 t1))] (al1 (by simp only[c,c2,Leaf.ok,pm,if_true,if_false]) al0))
 ·subst c;refine F5 hS trivial h (fun x1 x2=>⟨[(4,pN x2),(3,pN x1),(1,.reg 2000 0)],[(2000,.cells ((B3 a).map .p))]⟩) (ids:=[(2000,2000)]) (fun _ _ _ _ _ j x1 x2 l h=>?_);refine I5 hS trivial 11 ⟨[(10,.p (vSl 7 B3 a.L)),(8,pN x2),(4,pN x2),(3,pN x1),(1,.reg 2000 0)],[(2000,.cells ((B3 a).map .p))]⟩ (ids:=[(2000,2000)]) ?_ (hle:=klR [(0,.fn a.L.n a.L.n (Bs a) (fun i=>B3 (a.L.g i)))] (al1 ⟨rfl,K8 a⟩ al0));refine kI hS h ?_ ?_<;>intro h
  ·refine I5 hS trivial 19 ⟨[(18,pN x2),(17,.p (vSl 7 B3 a.L)),(15,pN x1),(4,pN x2),(1,.reg 2000 0)],[(2000,.cells ((B3 a).map .p))]⟩ (ids:=[(2000,2000)]) ?_ (hle:=klR [(1,.fn a.L.n a.L.n (Bs a) (fun i=>B3 (a.L.g i)))] (al1 ⟨rfl,K8 a⟩ al0));obtain⟨c8,h⟩:=D5 h;obtain⟨y3,e3,h⟩:=B8 h;refine B9 hS [] (And.intro c8 (by decide:(7:Nat)<=7)) (d e3) ?_;exact l _ [(2000,2000)] _ (wrap .i64 (x1+y3)) (wrap .i64 (x2+1)) trivial h
  ·cases h;exact kR hS
theorem RF {N:Nat}{a:Pat}{y:Int}(h:Ag N a=some y) :FunO S CZ [.p (.agg (B3 a))] [] (pN y) ([]) []:=by
 induction N generalizing a y with
 |zero=>cases (show (none:Option Int)=some y from h)
 |succ N ih=>exact OK hS hL (fun e=>ih e) h
def Di (N:Nat)(a:Sl Law):Option Int:=
 P6 N (fun c (x3:Int) (x4:Int)=>
  if ((decide (x4<(a.n:Int)))&&(decide (x4<=300))) then
   if (((0:Int)<=x4/\x4<(a.n:Int))/\((0:Int)<=x4/\x4<(a.n:Int)))then
    P6 N (fun b (x7:Int) (x8:Int)=>
     if (decide (x8<((Sl.of [(a.g x4.toNat).Left,(a.g x4.toNat).Right]:Sl Pat).n:Int))) then
      if ((0:Int)<=x8/\x8<((Sl.of [(a.g x4.toNat).Left,(a.g x4.toNat).Right]:Sl Pat).n:Int))then
       (Af N ((Sl.of [(a.g x4.toNat).Left,(a.g x4.toNat).Right]:Sl Pat).g x8.toNat)).bind fun d=>
       if (decide (d<=40)) then
        (Ag N ((Sl.of [(a.g x4.toNat).Left,(a.g x4.toNat).Right]:Sl Pat).g x8.toNat)).bind fun f=>
        b (wrap .i64 (x7+f)) (wrap .i64 (x8+1))
       else
        b x7 (wrap .i64 (x8+1))
      else none
     else
      c (if x3<x7 then x7 else x3) (wrap .i64 (x4+1))
     ) 0 0
   else none
  else
   some x3
  ) 0 0
theorem ZS {N:Nat}{b:Sl Law}{y:Int}(h:Di N b=some y) :FunO S PJ [.p (vSl 18 B4 b)] [] (pN y) ([]) []:=by
 unfold Di at h;refine A1 hS Tryz.func100 ?_;refine F5 hS trivial h (fun x3 x4=>⟨[(4,pN x4),(3,pN x3),(0,.p (vSl 18 B4 b))],[]⟩) (ids:=[]) (fun _ _ _ _ _ d x3 x4 f h=>?_);refine kB hS (A4 hS) trivial trivial 3 (.n (.a (decide (x4<(b.n:Int)))) (.a (decide (x4<=300)))) ?_;refine kI hS h ?_ ?_<;>intro h
 ·refine D9 hS trivial [2,4,7,9] ?_;obtain⟨c24,h⟩:=D5 h;refine Dy (And.intro (And.intro (And.intro c24.1 (by decide:(7:Nat)<=17)) c24.2) (by decide:(7:Nat)<=10)) (x:=.sl true 7 2 (D7 [pI .i64 0,pI .u32 0,pI .u32 0,.v (.bool false),pI .i64 0,pI .i64 0,G6] [(0,B3 (b.g x4.toNat).Left),(1,B3 (b.g x4.toNat).Right)])) ?_;refine I4 trivial ?_;refine F5 hS trivial h (fun x7 x8=>⟨[(30,pN x8),(29,pN ((Sl.of [(b.g x4.toNat).Left,(b.g x4.toNat).Right]:Sl Pat).n:Int)),(28,.p (vSl 7 B3 (Sl.of [(b.g x4.toNat).Left,(b.g x4.toNat).Right]:Sl Pat))),(5,pN x7),(4,pN x4),(3,pN x3),(0,.p (vSl 18 B4 b))],[]⟩) (ids:=[]) (fun _ _ _ _ _ j x7 x8 c h=>?_) (hle:=klR [(2,.fn 2 (Sl.of [(b.g x4.toNat).Left,(b.g x4.toNat).Right]:Sl Pat).n (D7 [pI .i64 0,pI .u32 0,pI .u32 0,.v (.bool false),pI .i64 0,pI .i64 0,G6] [(0,B3 (b.g x4.toNat).Left),(1,B3 (b.g x4.toNat).Right)]) (fun i=>B3 ((Sl.of [(b.g x4.toNat).Left,(b.g x4.toNat).Right]:Sl Pat).g i)))] (al1 ⟨rfl,(fun i l=>match i,l with|0,_=>rfl|1,_=>rfl|_+2,l=>absurd l (by omega))⟩ al0));refine kI hS h ?_ ?_<;>intro h
  ·obtain⟨c32,h⟩:=D5 h;refine G0 hS (And.intro c32 (by decide:(7:Nat)<=7)) 34 8000 (B3 ((Sl.of [(b.g x4.toNat).Left,(b.g x4.toNat).Right]:Sl Pat).g x8.toNat)) ?_;obtain⟨o,e17,h⟩:=B8 h;refine B9 hS [] (by decide:(7:Nat)<=7) (EV hS hL e17) ?_;refine kI hS h ?_ ?_<;>intro h
   ·obtain⟨m,e18,h⟩:=B8 h;refine B9 hS [] (by decide:(7:Nat)<=7) (RF hS hL e18) ?_;exact c _ [] _ (wrap .i64 (x7+m)) (wrap .i64 (x8+1)) trivial h
   ·exact c _ [] _ x7 (wrap .i64 (x8+1)) trivial h
  ·exact f _ [] _ (if x3<x7 then x7 else x3) (wrap .i64 (x4+1)) trivial h
 ·cases h;exact kR hS
def Y1 (rec:Pat->Int->Option (Int×Int))(N:Nat)(b:Pat)(a:Int):Option (Int×Int):=
 if (a==40) then
  some (a,12)
 else
  (EU N b).bind fun y1=>
  if (y1 != 0) then
   some (a,y1)
  else
   P6 N (fun c (x1:Int) (x2:Int)=>
    if (decide (x2<(b.L.n:Int))) then
     if ((0:Int)<=x2/\x2<(b.L.n:Int))then
      (rec (b.L.g x2.toNat) x1).bind fun y4=>
      if (y4.2 != 0) then
       some (y4.1,y4.2)
      else
       c y4.1 (wrap .i64 (x2+1))
     else none
    else
     some (x1,0)
    ) (wrap .i64 (a+1)) 0
def Dj:Nat->Pat->Int->Option (Int×Int)
 |0=>fun _ _=>none
 |N+1=>Y1 (Dj N) N
theorem Ws {N:Nat}{rec:Pat->Int->Option (Int×Int)}(c:∀{a:Pat}{b:Int}{y:Int×Int},rec a b=some y->FunO S Hm [.p (.agg (B3 a)),pN b] [] (.tup [pN y.1,pN y.2]) ([]) []){a:Pat}{b:Int}{y:Int×Int}(h:Y1 rec N a b=some y) :FunO S Hm [.p (.agg (B3 a)),pN b] [] (.tup [pN y.1,pN y.2]) ([]) []:=by
 unfold Y1 at h;refine A1 hS Tryz.func157 ?_;refine kI hS h ?_ ?_<;>intro h
 ·cases h;exact kR hS
 ·refine kC hS h (ZR hS hL) (fun y1 h=>?_);refine kI hS h ?_ ?_<;>intro h
  ·cases h;exact kR hS
  ·refine F5 hS trivial h (fun x1 x2=>⟨[(8,pN x2),(7,pN x1),(2,.reg 3000 0)],[(3000,.cells ((B3 a).map .p))]⟩) (ids:=[(3000,3000)]) (fun _ _ _ _ _ d x1 x2 f h=>?_);refine I5 hS trivial 23 ⟨[(22,.p (vSl 7 B3 a.L)),(20,pN x2),(8,pN x2),(7,pN x1),(2,.reg 3000 0)],[(3000,.cells ((B3 a).map .p))]⟩ (ids:=[(3000,3000)]) ?_ (hle:=klR [(0,.fn a.L.n a.L.n (Bs a) (fun i=>B3 (a.L.g i)))] (al1 ⟨rfl,K8 a⟩ al0));refine kI hS h ?_ ?_<;>intro h
   ·refine I5 hS trivial 31 ⟨[(30,pN x2),(29,.p (vSl 7 B3 a.L)),(8,pN x2),(7,pN x1),(2,.reg 3000 0)],[(3000,.cells ((B3 a).map .p))]⟩ (ids:=[(3000,3000)]) ?_ (hle:=klR [(1,.fn a.L.n a.L.n (Bs a) (fun i=>B3 (a.L.g i)))] (al1 ⟨rfl,K8 a⟩ al0));obtain⟨c10,h⟩:=D5 h;obtain⟨y4,e4,h⟩:=B8 h;refine B9 hS [] (And.intro c10 (by decide:(7:Nat)<=7)) (c e4) ?_;refine kI hS h ?_ ?_<;>intro h
    ·cases h;exact kR hS
    ·exact f _ [(3000,3000)] _ y4.1 (wrap .i64 (x2+1)) trivial h
   ·cases h;exact kR hS
theorem ZT {N:Nat}{b:Pat}{a:Int}{y:Int×Int}(h:Dj N b a=some y) :FunO S Hm [.p (.agg (B3 b)),pN a] [] (.tup [pN y.1,pN y.2]) ([]) []:=by
 induction N generalizing b a y with
 |zero=>cases (show (none:Option (Int×Int))=some y from h)
 |succ N ih=>exact Ws hS hL (fun e=>ih e) h
def Bf (N:Nat)(a:Pat):Option Int:=
 (Dj N a 0).bind fun y1=>
 some y1.2
theorem Io {N:Nat}{a:Pat}{y:Int}(h:Bf N a=some y) :FunO S MP [.p (.agg (B3 a))] [] (pN y) ([]) []:=by unfold Bf at h;refine A1 hS Tryz.func135 ?_;refine kC hS h (ZT hS hL) (fun y1 h=>?_);cases h;exact kR hS
def Cc (N:Nat)(a:Str):Option Bool:=
 W6 N (fun b (x1:Int)=>
  if (decide (x1<(a.length:Int))) then
   if ((0:Int)<=x1/\x1<(a.length:Int))then
    if (!(((((decide (97<=(Ao a x1)))&&(decide ((Ao a x1)<=122)))||((decide (65<=(Ao a x1)))&&(decide ((Ao a x1)<=90))))||((decide (48<=(Ao a x1)))&&(decide ((Ao a x1)<=57))))||((Ao a x1)==45))) then
     some false
    else
     b (wrap .i64 (x1+1))
   else none
  else
   some ((decide (1<=(a.length:Int)))&&(decide ((a.length:Int)<=24)))
  ) 0
theorem ZU {N:Nat}{b:Str}{y:Bool}(h:Cc N b=some y) :FunO S PN [.p (.str b)] [] (pB y) ([]) []:=by
 unfold Cc at h;refine A1 hS Tryz.func134 ?_;refine J0 hS trivial h (fun x1=>⟨[(3,pN x1),(0,.p (.str b))],[]⟩) (ids:=[]) (fun _ _ _ _ _ c x1 d h=>?_);refine kI hS h ?_ ?_<;>intro h
 ·obtain⟨c8,h⟩:=D5 h;refine kB hS (A4 hS) c8 trivial 23 (.o (.o (.o (.n (.a (decide (97<=(Ao b x1)))) (.a (decide ((Ao b x1)<=122)))) (.n (.a (decide (65<=(Ao b x1)))) (.a (decide ((Ao b x1)<=90))))) (.n (.a (decide (48<=(Ao b x1)))) (.a (decide ((Ao b x1)<=57))))) (.a ((Ao b x1)==45))) ?_;refine kI hS h ?_ ?_<;>intro h
  ·cases h;exact kR hS
  ·exact d _ [] _ (wrap .i64 (x1+1)) trivial h
 ·refine kB hS (A4 hS) trivial trivial 4 (.n (.a (decide (1<=(b.length:Int)))) (.a (decide ((b.length:Int)<=24)))) ?_;cases h;exact kR hS
def EW (N:Nat)(p_x:Bt)(a:Int):Option Bool:=
 lt (fun (z1:Bool)=>
  if z1 then
   some false
  else
   if ((((D2 .and .u32 p_x.Clear (D2 .or .u32 p_x.Set.Plus p_x.Set.Minus)) != 0)||((D2 .and .u32 p_x.Take (D2 .or .u32 p_x.Set.Plus p_x.Set.Minus)) != 0))||((D2 .and .u32 p_x.Take p_x.Clear) != 0)) then
    some false
   else
    if (p_x.Take==0) then
     some (p_x.Of==0)
    else
     some ((decide (0<=p_x.Of))&&(decide (p_x.Of<a)))
  ) fun k1=>
  if (decide (p_x.From<(-1))) then
   k1 true
  else
   if (decide (a<=p_x.From)) then
    k1 true
   else
    (I1 N p_x.Set).bind fun y2=>
    if (!y2) then
     k1 true
    else
     if ((D2 .andNot .u32 p_x.Clear 16777215) != 0) then
      k1 true
     else
      k1 ((D2 .andNot .u32 p_x.Take 16777215) != 0)
theorem ZV {N:Nat}{p_x:Bt}{c:Int}{y:Bool}(h:EW N p_x c=some y) :FunO S PO [.p (.agg (P8 p_x)),pN c] [] (pB y) ([]) []:=by
 unfold EW at h;refine A1 hS Tryz.func137 ?_;refine Hu hS trivial (A4 hS) h 0 (fun z1=>⟨[(32,pB z1),(2,.reg 3000 0),(1,pN c)],[(3000,.cells ((P8 p_x).map .p))]⟩) (fun M1 k1 b h=>?_) (fun z1 h=>?_)
 ·refine kG hS h (fun h=>?_) (fun h=>?_)
  ·exact b _ [(3000,3000)] _ true trivial h
  ·refine kG hS h (fun h=>?_) (fun h=>?_)
   ·exact b _ [(3000,3000)] _ true trivial h
   ·refine kC hS h (T7 hS hL) (fun y2 h=>?_);refine kG hS h (fun h=>?_) (fun h=>?_)
    ·exact b _ [(3000,3000)] _ true trivial h
    ·refine kG hS h (fun h=>?_) (fun h=>?_)
     ·exact b _ [(3000,3000)] _ true trivial h
     ·exact b _ [(3000,3000)] _ ((D2 .andNot .u32 p_x.Take 16777215) != 0) trivial h
 ·refine kI hS h ?_ ?_<;>intro h
  ·cases h;exact kR hS
  ·refine kB hS (A4 hS) trivial trivial 14 (.o (.o (.a ((D2 .and .u32 p_x.Clear (D2 .or .u32 p_x.Set.Plus p_x.Set.Minus)) != 0)) (.a ((D2 .and .u32 p_x.Take (D2 .or .u32 p_x.Set.Plus p_x.Set.Minus)) != 0))) (.a ((D2 .and .u32 p_x.Take p_x.Clear) != 0))) ?_;refine kI hS h ?_ ?_<;>intro h
   ·cases h;exact kR hS
   ·refine kI hS h ?_ ?_<;>intro h
    ·cases h;exact kR hS
    ·refine kB hS (A4 hS) trivial trivial 5 (.n (.a (decide (0<=p_x.Of))) (.a (decide (p_x.Of<c)))) ?_;cases h;exact kR hS
def Y2 (N:Nat)(a:Law):Option Int:=
 (Cc N a.Name).bind fun y1=>
 lt (fun (z1:Bool)=>
  if z1 then
   some 17
  else
   if (((((decide (4<(a.If.n:Int)))||(decide (6<(a.Out.n:Int))))||((wrap .i64 ((a.If.n:Int)+(a.Out.n:Int)))==0))||(decide (a.Mode<1)))||(decide (3<a.Mode))) then
    some 17
   else
    W6 N (fun b (x2:Int)=>
     if (decide (x2<(a.If.n:Int))) then
      if ((0:Int)<=x2/\x2<(a.If.n:Int))then
       (I1 N (a.If.g x2.toNat)).bind fun y8=>
       if (!y8) then
        some 17
       else
        b (wrap .i64 (x2+1))
      else none
     else
      W6 N (fun c (x3:Int)=>
       if (decide (x3<(a.Out.n:Int))) then
        if ((0:Int)<=x3/\x3<(a.Out.n:Int))then
         (EW N (a.Out.g x3.toNat) (a.If.n:Int)).bind fun d=>
         if (!d) then
          some 17
         else
          c (wrap .i64 (x3+1))
        else none
       else
        some 0
       ) 0
     ) 0
  ) fun k1=>
  if (!y1) then
   k1 true
  else
   (Bf N a.Left).bind fun y4=>
   if (y4 != 0) then
    k1 true
   else
    (Bf N a.Right).bind fun y5=>
    k1 (y5 != 0)
theorem Ip {N:Nat}{b:Law}{y:Int}(h:Y2 N b=some y) :FunO S MJ [.p (.agg (B4 b))] [] (pN y) ([]) []:=by
 unfold Y2 at h;refine A1 hS Tryz.func102 ?_;refine G0 hS trivial 2 2000 (B4 b) ?_;refine kC hS h (ZU hS hL) (fun y1 h=>?_);refine Hu hS trivial (A4 hS) h 0 (fun z1=>⟨[(20,pB z1),(1,.p (.ptr (B4 b)))],[]⟩) (fun M1 k1 c h=>?_) (fun z1 h=>?_)
 ·refine kG hS h (fun h=>?_) (fun h=>?_)
  ·exact c _ [] _ true trivial h
  ·obtain⟨y4,e4,h⟩:=B8 h;refine B9 hS [] (by decide:(7:Nat)<=17) (Io hS hL e4) ?_;refine kG hS h (fun h=>?_) (fun h=>?_)
   ·exact c _ [] _ true trivial h
   ·obtain⟨y5,e5,h⟩:=B8 h;refine B9 hS [] (by decide:(7:Nat)<=10) (Io hS hL e5) ?_;exact c _ [] _ (y5 != 0) trivial h
 ·refine kI hS h ?_ ?_<;>intro h
  ·cases h;exact kR hS
  ·refine kB hS (A4 hS) trivial trivial 25 (.o (.o (.o (.o (.a (decide (4<(b.If.n:Int)))) (.a (decide (6<(b.Out.n:Int))))) (.a ((wrap .i64 ((b.If.n:Int)+(b.Out.n:Int)))==0))) (.a (decide (b.Mode<1)))) (.a (decide (3<b.Mode)))) ?_;refine kI hS h ?_ ?_<;>intro h
   ·cases h;exact kR hS
   ·refine J0 hS trivial h (fun x2=>⟨[(3,pN x2),(1,.p (.ptr (B4 b)))],[]⟩) (ids:=[]) (fun _ _ _ _ _ d x2 f h=>?_);refine kI hS h ?_ ?_<;>intro h
    ·obtain⟨c15,h⟩:=D5 h;obtain⟨y8,e8,h⟩:=B8 h;refine B9 hS [] (And.intro c15 (by decide:(2:Nat)<=2)) (T7 hS hL e8) ?_;refine kI hS h ?_ ?_<;>intro h
     ·cases h;exact kR hS
     ·exact f _ [] _ (wrap .i64 (x2+1)) trivial h
    ·refine J0 hS trivial h (fun x3=>⟨[(4,pN x3),(1,.p (.ptr (B4 b)))],[]⟩) (ids:=[]) (fun _ _ _ _ _ g x3 i h=>?_);refine kI hS h ?_ ?_<;>intro h
     ·refine D9 hS trivial [1,3,4,6,8] ?_;obtain⟨c24,h⟩:=D5 h;obtain⟨j,e11,h⟩:=B8 h;refine S6 (And.intro c24 (by decide:(6:Nat)<=6)) (ZV hS hL e11) ?_;refine I4 trivial ?_;refine kI hS h ?_ ?_<;>intro h
      ·cases h;exact kR hS
      ·exact i _ [] _ (wrap .i64 (x3+1)) trivial h
     ·cases h;exact kR hS
def Cd (N:Nat)(a:Sl Law):Option Int:=
 if (decide (64<(a.n:Int))) then
  some 12
 else
  W6 N (fun b (x1:Int)=>
   if (decide (x1<(a.n:Int))) then
    if ((0:Int)<=x1/\x1<(a.n:Int))then
     (Y2 N (a.g x1.toNat)).bind fun y3=>
     if (y3 != 0) then
      some 17
     else
      b (wrap .i64 (x1+1))
    else none
   else
    some 0
   ) 0
theorem Wt {N:Nat}{a:Sl Law}{y:Int}(h:Cd N a=some y) :FunO S MV [.p (vSl 18 B4 a)] [] (pN y) ([]) []:=by
 unfold Cd at h;refine A1 hS Tryz.func183 ?_;refine kI hS h ?_ ?_<;>intro h
 ·cases h;exact kR hS
 ·refine J0 hS trivial h (fun x1=>⟨[(3,pN x1),(0,.p (vSl 18 B4 a))],[]⟩) (ids:=[]) (fun _ _ _ _ _ b x1 c h=>?_);refine kI hS h ?_ ?_<;>intro h
  ·obtain⟨c9,h⟩:=D5 h;obtain⟨y3,e3,h⟩:=B8 h;refine B9 hS [] (And.intro c9 (by decide:(18:Nat)<=18)) (Ip hS hL e3) ?_;refine kI hS h ?_ ?_<;>intro h
   ·cases h;exact kR hS
   ·exact c _ [] _ (wrap .i64 (x1+1)) trivial h
  ·cases h;exact kR hS
def FG (N:Nat)(a:Law)(b:Sl Sound):Option Int:=
 (Y2 N a).bind fun y1=>
 if (y1 != 0) then
  some y1
 else
  (X7 N b).bind fun y2=>
  some y2
theorem Wu {N:Nat}{a:Law}{b:Sl Sound}{y:Int}(h:FG N a b=some y) :FunO S MZ [.p (.agg (B4 a)),.p (vSl 2 A0 b)] [] (pN y) ([]) []:=by
 unfold FG at h;refine A1 hS Tryz.func202 ?_;refine kC hS h (Ip hS hL) (fun y1 h=>?_);refine kI hS h ?_ ?_<;>intro h
 ·cases h;exact kR hS
 ·refine kC hS h (DJ hS hL) (fun y2 h=>?_);cases h;exact kR hS
def Dk (N:Nat)(a:Pat)(b:Sl Sound):Option Int:=
 (Bf N a).bind fun y1=>
 if (y1==0) then
  (X7 N b).bind fun y2=>
  some y2
 else
  some y1
theorem Qg {N:Nat}{a:Pat}{b:Sl Sound}{y:Int}(h:Dk N a b=some y) :FunO S PZ [.p (.agg (B3 a)),.p (vSl 2 A0 b)] [] (pN y) ([]) []:=by
 unfold Dk at h;refine A1 hS Tryz.func231 ?_;refine kC hS h (Io hS hL) (fun y1 h=>?_);refine kI hS h ?_ ?_<;>intro h
 ·refine kC hS h (DJ hS hL) (fun y2 h=>?_);cases h;exact kR hS
 ·cases h;exact kR hS
def BH (rec:Pat->(Sl Sound)->Option (Sl Int))(N:Nat)(a:Pat)(c:Sl Sound):Option (Sl Int):=
 if ((0:Int)<=(wrap .i64 ((c.n:Int)+1))/\(wrap .i64 ((c.n:Int)+1))<=(wrap .i64 ((c.n:Int)+1))/\(wrap .i64 ((c.n:Int)+1))*8<=140737488355328/\(wrap .i64 ((c.n:Int)+1))<=140737488355328)then
  P6 N (fun b (x1:Sl Int) (x2:Int)=>
   if (decide (x2<=(c.n:Int))) then
    if (a.Kind==0) then
     if (((0:Int)<=x2/\((0:Int)<=x2/\x2<(x1.n:Int)))/\x2.toNat<x1.n)then
      b (x1.upd x2.toNat (shI .shl .u64 1 x2)) (wrap .i64 (x2+1))
     else none
    else
     if (a.Kind==1) then
      if (decide (x2<(c.n:Int))) then
       if ((0:Int)<=x2/\x2<(c.n:Int))then
        (DL N (c.g x2.toNat) a.Is).bind fun y3=>
        if ((y3==a.Not) != true) then
         if (((0:Int)<=(wrap .i64 (x2+1))/\((0:Int)<=x2/\x2<(x1.n:Int)))/\x2.toNat<x1.n)then
          b (x1.upd x2.toNat (shI .shl .u64 1 (wrap .i64 (x2+1)))) (wrap .i64 (x2+1))
         else none
        else
         b x1 (wrap .i64 (x2+1))
       else none
      else
       b x1 (wrap .i64 (x2+1))
     else
      if (a.Kind==2) then
       if (x2==0) then
        if (((0:Int)<=x2/\x2<(x1.n:Int))/\x2.toNat<x1.n)then
         b (x1.upd x2.toNat 1) (wrap .i64 (x2+1))
        else none
       else
        b x1 (wrap .i64 (x2+1))
      else
       if (a.Kind==6) then
        if (x2==(c.n:Int)) then
         if (((0:Int)<=x2/\((0:Int)<=x2/\x2<(x1.n:Int)))/\x2.toNat<x1.n)then
          b (x1.upd x2.toNat (shI .shl .u64 1 x2)) (wrap .i64 (x2+1))
         else none
        else
         b x1 (wrap .i64 (x2+1))
       else
        b x1 (wrap .i64 (x2+1))
   else
    if (a.Kind==3) then
     (Dg N (c.n:Int)).bind fun y4=>
     P6 N (fun i (x3:Sl Int) (x4:Int)=>
      if (decide (x4<(a.L.n:Int))) then
       if ((0:Int)<=x4/\x4<(a.L.n:Int))then
        (rec (a.L.g x4.toNat) c).bind fun y9=>
        (X9 N x3 y9).bind fun o=>
        i o (wrap .i64 (x4+1))
       else none
      else
       some x3
      ) y4 0
    else
     if (a.Kind==4) then
      P6 N (fun j (x5:Sl Int) (x6:Int)=>
       if (decide (x6<(a.L.n:Int))) then
        if ((0:Int)<=x6/\x6<(a.L.n:Int))then
         (rec (a.L.g x6.toNat) c).bind fun q=>
         (Dh N x5 q).bind fun r=>
         j r (wrap .i64 (x6+1))
        else none
       else
        some x5
       ) x1 0
     else
      if (a.Kind==5) then
       if ((0:Int)<=0/\0<(a.L.n:Int))then
        (rec (a.L.g 0) c).bind fun m=>
        (Dg N (c.n:Int)).bind fun s=>
        Ai6 N (fun d (x8:Sl Int) (x9:Sl Int) (f:Int)=>
         if (decide (a.Min<=f)) then
          (Dh N x8 x9).bind fun l=>
          lt (fun (z3:Bool)=>
           if z3 then
            some l
           else
            (X9 N x9 m).bind fun t=>
            d l t (wrap .i64 (f+1))
           ) fun k3=>
           if (f==a.Max) then
            k3 true
           else
            if (decide (a.Min<f)) then
             (DM N x8 l).bind fun u=>
             k3 u
            else
             k3 false
         else
          (X9 N x9 m).bind fun v=>
          d x8 v (wrap .i64 (f+1))
         ) x1 s 0
       else none
      else
       some x1
   ) (Sl.rep (wrap .i64 ((c.n:Int)+1)).toNat 0:Sl Int) 0
 else none
def Ce:Nat->Pat->(Sl Sound)->Option (Sl Int)
 |0=>fun _ _=>none
 |N+1=>BH (Ce N) N
theorem Uc {N:Nat}{rec:Pat->(Sl Sound)->Option (Sl Int)}(j:∀{a:Pat}{d:Sl Sound}{y:Sl Int},rec a d=some y->FunO S FB [.p (.agg (B3 a)),.p (vSl 2 A0 d)] [] (.vec 0) ([.vec C5 1 y.n (fun i=>cI .u64 (y.g i)) true]) []){a:Pat}{d:Sl Sound}{y:Sl Int}(h:BH rec N a d=some y) :FunO S FB [.p (.agg (B3 a)),.p (vSl 2 A0 d)] [] (.vec 0) ([.vec C5 1 y.n (fun i=>cI .u64 (y.g i)) true]) []:=by
 unfold BH at h;refine A1 hS Tryz.func232 ?_;refine G0 hS trivial 4 3000 (B3 a) ?_;obtain⟨c1,h⟩:=D5 h;refine F5 hS c1 h (fun x1 x2=>⟨[(7,pN x2),(6,.vec 19000),(5,pN (d.n:Int)),(2,.p (.ptr (B3 a))),(1,.p (vSl 2 A0 d))],[(19000,.vec C5 1 x1.n (fun i=>cI .u64 (x1.g i)) false)]⟩) (ids:=[(19000,19000)]) (fun _ _ _ _ _ t x1 x2 f h=>?_);refine kI hS h ?_ ?_<;>intro h
 ·refine kI hS h ?_ ?_<;>intro h
  ·obtain⟨c24,h⟩:=D5 h;exact f _ [(19000,19000)] _ (x1.upd x2.toNat (shI .shl .u64 1 x2)) (wrap .i64 (x2+1)) (And.intro (And.intro c24.1.1 c24.1.2) (And.intro (rfl:(1:Nat)=1) (And.intro c24.2 (by decide:(1:Nat)<=1)))) h (hle:=klR [(4,.fn x1.n (x1.upd x2.toNat (shI .shl .u64 1 x2)).n (fun l=>if l=x2.toNat then splice ((fun i=>cI .u64 (x1.g i)) l) 0 [pI .u64 (shI .shl .u64 1 x2)]else (fun i=>cI .u64 (x1.g i)) l) (fun i=>cI .u64 ((x1.upd x2.toNat (shI .shl .u64 1 x2)).g i)))] (al1 ⟨rfl,Ad4 (c:=cI .u64) (v:=x1) (x:=shI .shl .u64 1 x2) same (fun _=>by first|rfl|(dsimp only;split<;>rfl))⟩ al0))
  ·refine kI hS h ?_ ?_<;>intro h
   ·refine D9 hS trivial [6,7,9,10,12] ?_;refine Vw trivial (b:=decide (x2<(d.n:Int))) (fun c26=>?_) (fun c26=>?_)
    ·replace h:=itT c26 h;obtain⟨c27,h⟩:=D5 h;obtain⟨y3,e3,h⟩:=B8 h;refine S6 (And.intro (And.intro c27 (by decide:(2:Nat)<=2)) (by decide:(2:Nat)<=6)) (Ns hS hL e3) ?_;refine I4 trivial ?_;refine kI hS h ?_ ?_<;>intro h
     ·obtain⟨c29,h⟩:=D5 h;exact f _ [(19000,19000)] _ (x1.upd x2.toNat (shI .shl .u64 1 (wrap .i64 (x2+1)))) (wrap .i64 (x2+1)) (And.intro (And.intro c29.1.1 c29.1.2) (And.intro (rfl:(1:Nat)=1) (And.intro c29.2 (by decide:(1:Nat)<=1)))) h (hle:=klR [(4,.fn x1.n (x1.upd x2.toNat (shI .shl .u64 1 (wrap .i64 (x2+1)))).n (fun l=>if l=x2.toNat then splice ((fun i=>cI .u64 (x1.g i)) l) 0 [pI .u64 (shI .shl .u64 1 (wrap .i64 (x2+1)))]else (fun i=>cI .u64 (x1.g i)) l) (fun i=>cI .u64 ((x1.upd x2.toNat (shI .shl .u64 1 (wrap .i64 (x2+1)))).g i)))] (al1 ⟨rfl,Ad4 (c:=cI .u64) (v:=x1) (x:=shI .shl .u64 1 (wrap .i64 (x2+1))) same (fun _=>by first|rfl|(dsimp only;split<;>rfl))⟩ al0))
     ·exact f _ [(19000,19000)] _ x1 (wrap .i64 (x2+1)) trivial h
    ·replace h:=itF c26 h;refine I4 trivial ?_;exact f _ [(19000,19000)] _ x1 (wrap .i64 (x2+1)) trivial h
   ·refine kI hS h ?_ ?_<;>intro h
    ·refine kI hS h ?_ ?_<;>intro h
     ·obtain⟨c32,h⟩:=D5 h;exact f _ [(19000,19000)] _ (x1.upd x2.toNat 1) (wrap .i64 (x2+1)) (And.intro c32.1 (And.intro (rfl:(1:Nat)=1) (And.intro c32.2 (by decide:(1:Nat)<=1)))) h (hle:=klR [(4,.fn x1.n (x1.upd x2.toNat 1).n (fun l=>if l=x2.toNat then splice ((fun i=>cI .u64 (x1.g i)) l) 0 [pI .u64 1]else (fun i=>cI .u64 (x1.g i)) l) (fun i=>cI .u64 ((x1.upd x2.toNat 1).g i)))] (al1 ⟨rfl,Ad4 (c:=cI .u64) (v:=x1) (x:=1) same (fun _=>by first|rfl|(dsimp only;split<;>rfl))⟩ al0))
     ·exact f _ [(19000,19000)] _ x1 (wrap .i64 (x2+1)) trivial h
    ·refine kI hS h ?_ ?_<;>intro h
     ·refine kI hS h ?_ ?_<;>intro h
      ·obtain⟨c35,h⟩:=D5 h;exact f _ [(19000,19000)] _ (x1.upd x2.toNat (shI .shl .u64 1 x2)) (wrap .i64 (x2+1)) (And.intro (And.intro c35.1.1 c35.1.2) (And.intro (rfl:(1:Nat)=1) (And.intro c35.2 (by decide:(1:Nat)<=1)))) h (hle:=klR [(4,.fn x1.n (x1.upd x2.toNat (shI .shl .u64 1 x2)).n (fun l=>if l=x2.toNat then splice ((fun i=>cI .u64 (x1.g i)) l) 0 [pI .u64 (shI .shl .u64 1 x2)]else (fun i=>cI .u64 (x1.g i)) l) (fun i=>cI .u64 ((x1.upd x2.toNat (shI .shl .u64 1 x2)).g i)))] (al1 ⟨rfl,Ad4 (c:=cI .u64) (v:=x1) (x:=shI .shl .u64 1 x2) same (fun _=>by first|rfl|(dsimp only;split<;>rfl))⟩ al0))
      ·exact f _ [(19000,19000)] _ x1 (wrap .i64 (x2+1)) trivial h
     ·exact f _ [(19000,19000)] _ x1 (wrap .i64 (x2+1)) trivial h
 ·refine kI hS h ?_ ?_<;>intro h
  ·refine kC hS h (Qe hS hL) (fun y4 h=>?_);refine F5 hS trivial h (fun x3 x4=>⟨[(8,pN x4),(6,.vec 7500),(2,.p (.ptr (B3 a))),(1,.p (vSl 2 A0 d))],[(7500,.vec C5 1 x3.n (fun i=>cI .u64 (x3.g i)) true)]⟩) (ids:=[(7500,79000)]) (fun _ _ _ _ _ u x3 x4 w h=>?_);refine I5 hS trivial 82 ⟨[(81,.p (vSl 7 B3 a.L)),(79,pN x4),(8,pN x4),(6,.vec 7500),(2,.p (.ptr (B3 a))),(1,.p (vSl 2 A0 d))],[(7500,.vec C5 1 x3.n (fun i=>cI .u64 (x3.g i)) true)]⟩ (ids:=[(7500,7500)]) ?_ (hle:=klR [(0,.fn a.L.n a.L.n (Bs a) (fun i=>B3 (a.L.g i)))] (al1 ⟨rfl,K8 a⟩ al0));refine kI hS h ?_ ?_<;>intro h
   ·refine I5 hS trivial 90 ⟨[(89,pN x4),(88,.p (vSl 7 B3 a.L)),(86,.vec 7500),(8,pN x4),(2,.p (.ptr (B3 a))),(1,.p (vSl 2 A0 d))],[(7500,.vec C5 1 x3.n (fun i=>cI .u64 (x3.g i)) true)]⟩ (ids:=[(7500,7500)]) ?_ (hle:=klR [(1,.fn a.L.n a.L.n (Bs a) (fun i=>B3 (a.L.g i)))] (al1 ⟨rfl,K8 a⟩ al0));obtain⟨c42,h⟩:=D5 h;obtain⟨y9,e9,h⟩:=B8 h;refine B9 hS [] (And.intro c42 (by decide:(7:Nat)<=7)) (j e9) ?_;refine kC hS h (GP hS hL) (fun z h=>?_);exact w _ [(7500,95000)] _ z (wrap .i64 (x4+1)) trivial h
   ·obtain rfl:=B6 h;exact A5 hS trivial ⟨[(4,.vec 7500)],[(7500,.vec C5 1 x3.n (fun i=>cI .u64 (x3.g i)) true)]⟩ [7500] (ids:=[(7500,7500)]) ⟨rfl,rfl,rfl⟩
  ·refine kI hS h ?_ ?_<;>intro h
   ·refine F5 hS trivial h (fun x5 x6=>⟨[(9,pN x6),(6,.vec 7500),(2,.p (.ptr (B3 a))),(1,.p (vSl 2 A0 d))],[(7500,.vec C5 1 x5.n (fun i=>cI .u64 (x5.g i)) true)]⟩) (ids:=[(7500,19000)]) (fun _ _ _ _ _ a0 x5 x6 a1 h=>?_);refine I5 hS trivial 100 ⟨[(99,.p (vSl 7 B3 a.L)),(97,pN x6),(9,pN x6),(6,.vec 7500),(2,.p (.ptr (B3 a))),(1,.p (vSl 2 A0 d))],[(7500,.vec C5 1 x5.n (fun i=>cI .u64 (x5.g i)) true)]⟩ (ids:=[(7500,7500)]) ?_ (hle:=klR [(0,.fn a.L.n a.L.n (Bs a) (fun i=>B3 (a.L.g i)))] (al1 ⟨rfl,K8 a⟩ al0));refine kI hS h ?_ ?_<;>intro h
    ·refine I5 hS trivial 108 ⟨[(107,pN x6),(106,.p (vSl 7 B3 a.L)),(104,.vec 7500),(9,pN x6),(2,.p (.ptr (B3 a))),(1,.p (vSl 2 A0 d))],[(7500,.vec C5 1 x5.n (fun i=>cI .u64 (x5.g i)) true)]⟩ (ids:=[(7500,7500)]) ?_ (hle:=klR [(1,.fn a.L.n a.L.n (Bs a) (fun i=>B3 (a.L.g i)))] (al1 ⟨rfl,K8 a⟩ al0));obtain⟨c49,h⟩:=D5 h;obtain⟨a7,e15,h⟩:=B8 h;refine B9 hS [] (And.intro c49 (by decide:(7:Nat)<=7)) (j e15) ?_;refine kC hS h (Qf hS hL) (fun a2 h=>?_);exact a1 _ [(7500,113000)] _ a2 (wrap .i64 (x6+1)) trivial h
    ·obtain rfl:=B6 h;exact A5 hS trivial ⟨[(4,.vec 7500)],[(7500,.vec C5 1 x5.n (fun i=>cI .u64 (x5.g i)) true)]⟩ [7500] (ids:=[(7500,7500)]) ⟨rfl,rfl,rfl⟩
   ·refine kI hS h ?_ ?_<;>intro h
    ·refine I5 hS trivial 117 ⟨[(116,.p (vSl 7 B3 a.L)),(6,.vec 19000),(5,pN (d.n:Int)),(2,.p (.ptr (B3 a))),(1,.p (vSl 2 A0 d))],[(19000,.vec C5 1 x1.n (fun i=>cI .u64 (x1.g i)) false)]⟩ (ids:=[(19000,19000)]) ?_ (hle:=klR [(0,.fn a.L.n a.L.n (Bs a) (fun i=>B3 (a.L.g i)))] (al1 ⟨rfl,K8 a⟩ al0));obtain⟨c51,h⟩:=D5 h;obtain⟨q,e17,h⟩:=B8 h;refine B9 hS [] (And.intro c51 (by decide:(7:Nat)<=7)) (j e17) ?_;refine kC hS h (Qe hS hL) (fun a8 h=>?_);refine IU hS trivial h (fun x8 x9 m=>⟨[(12,pN m),(11,.vec 12500),(10,.vec 121000),(6,.vec 7500),(2,.p (.ptr (B3 a)))],[(121000,.vec C5 1 q.n (fun i=>cI .u64 (q.g i)) true),(12500,.vec C5 1 x9.n (fun i=>cI .u64 (x9.g i)) true),(7500,.vec C5 1 x8.n (fun i=>cI .u64 (x8.g i)) true)]⟩) (ids:=[(7500,19000),(12500,123000),(121000,121000)]) (fun _ _ _ _ _ a3 x8 x9 m s h=>?_);refine kI hS h ?_ ?_<;>intro h
     ·refine kC hS h (Qf hS hL) (fun o h=>?_);refine Hu hS trivial (A4 hS) h 0 (fun z3=>⟨[(147,pB z3),(12,pN m),(11,.vec 12500),(10,.vec 121000),(6,.vec 133000),(2,.p (.ptr (B3 a)))],[(133000,.vec C5 1 o.n (fun i=>cI .u64 (o.g i)) true),(121000,.vec C5 1 q.n (fun i=>cI .u64 (q.g i)) true),(12500,.vec C5 1 x9.n (fun i=>cI .u64 (x9.g i)) true)]⟩) (fun M3 k3 r h=>?_) (fun z3 h=>?_)
      ·refine kG hS h (fun h=>?_) (fun h=>?_)
       ·exact r _ [(12500,12500),(121000,121000),(133000,133000)] _ true trivial h
       ·refine kG hS h (fun h=>?_) (fun h=>?_)
        ·refine kC hS h (Wq hS hL) (fun a4 h=>?_);exact r _ [(12500,12500),(121000,121000),(133000,133000)] _ a4 trivial h
        ·exact r _ [(12500,12500),(121000,121000),(133000,133000)] _ false trivial h
      ·refine kI hS h ?_ ?_<;>intro h
       ·obtain rfl:=B6 h;exact A5 hS trivial ⟨[(4,.vec 133000)],[(133000,.vec C5 1 o.n (fun i=>cI .u64 (o.g i)) true)]⟩ [133000] (ids:=[(133000,133000)]) ⟨rfl,rfl,rfl⟩
       ·refine kC hS h (GP hS hL) (fun a5 h=>?_);exact s _ [(7500,133000),(12500,152000),(121000,121000)] _ o a5 (wrap .i64 (m+1)) trivial h
     ·refine kC hS h (GP hS hL) (fun a6 h=>?_);exact s _ [(7500,7500),(12500,152000),(121000,121000)] _ x8 a6 (wrap .i64 (m+1)) trivial h
    ·obtain rfl:=B6 h;exact A5 hS trivial ⟨[(4,.vec 19000)],[(19000,.vec C5 1 x1.n (fun i=>cI .u64 (x1.g i)) true)]⟩ [19000] (ids:=[(19000,19000)]) ⟨rfl,rfl,rfl⟩
theorem Nt {N:Nat}{a:Pat}{b:Sl Sound}{y:Sl Int}(h:Ce N a b=some y) :FunO S FB [.p (.agg (B3 a)),.p (vSl 2 A0 b)] [] (.vec 0) ([.vec C5 1 y.n (fun i=>cI .u64 (y.g i)) true]) []:=by
 induction N generalizing a b y with
 |zero=>cases (show (none:Option (Sl Int))=some y from h)
 |succ N ih=>exact Uc hS hL (fun e=>ih e) h
def CA (N:Nat)(d:Pat)(c:Sl Sound)(a:Int):Option ((Sl Int)×Int):=
 (Dk N d c).bind fun y1=>
 if (y1 != 0) then
  some ((Sl.nil:Sl Int),y1)
 else
  if ((decide (a<0))||(decide ((c.n:Int)<a))) then
   some ((Sl.nil:Sl Int),3)
  else
   (Ce N d c).bind fun y2=>
   P6 N (fun b (x1:Sl Int) (x2:Int)=>
    if (decide (x2<=(c.n:Int))) then
     if ((((0:Int)<=x2/\x2<(y2.n:Int))/\x2.toNat<y2.n)/\(0:Int)<=a)then
      if ((D2 .and .u64 (shI .shr .u64 (y2.g x2.toNat) a) 1)==1) then
       if ((x1.n+(Sl.of [x2]:Sl Int).n)*8<=140737488355328/\x1.n+(Sl.of [x2]:Sl Int).n<=140737488355328)then
        b (x1.push x2) (wrap .i64 (x2+1))
       else none
      else
       b x1 (wrap .i64 (x2+1))
     else none
    else
     some (x1,0)
    ) (Sl.nil:Sl Int) 0
theorem Ud {N:Nat}{j:Pat}{f:Sl Sound}{d:Int}{y:(Sl Int)×Int}(h:CA N j f d=some y) :FunO S KV [.p (.agg (B3 j)),.p (vSl 2 A0 f),pN d] [] (.tup [.vec 0,pN y.2]) ([.vec C6 1 y.1.n (fun i=>cI .i64 (y.1.g i)) true]) []:=by
 unfold CA at h;refine A1 hS Tryz.func223 ?_;refine kC hS h (Qg hS hL) (fun y1 h=>?_);refine kI hS h ?_ ?_<;>intro h
 ·obtain rfl:=B6 h;exact A5 hS trivial ⟨[(7,pN y1),(6,.vec 7700)],[(7700,.vec C6 1 (Sl.nil:Sl Int).n (fun i=>cI .i64 ((Sl.nil:Sl Int).g i)) true)]⟩ [7700] (ids:=[]) ⟨rfl,rfl,rfl⟩
 ·refine kB hS (A4 hS) trivial trivial 5 (.o (.a (decide (d<0))) (.a (decide ((f.n:Int)<d)))) ?_;refine kI hS h ?_ ?_<;>intro h
  ·obtain rfl:=B6 h;exact A5 hS trivial ⟨[(7,pN 3),(6,.vec 7700)],[(7700,.vec C6 1 (Sl.nil:Sl Int).n (fun i=>cI .i64 ((Sl.nil:Sl Int).g i)) true)]⟩ [7700] (ids:=[]) ⟨rfl,rfl,rfl⟩
  ·refine kC hS h (Nt hS hL) (fun y2 h=>?_);refine F5 hS trivial h (fun x1 x2=>⟨[(11,pN x2),(10,.vec 11500),(9,.vec 29000),(2,pN d),(1,.p (vSl 2 A0 f))],[(29000,.vec C5 1 y2.n (fun i=>cI .u64 (y2.g i)) true),(11500,.vec C6 1 x1.n (fun i=>cI .i64 (x1.g i)) false)]⟩) (ids:=[(29000,29000)]) (fun _ _ _ _ _ m x1 x2 l h=>?_);refine kI hS h ?_ ?_<;>intro h
   ·obtain⟨c10,h⟩:=D5 h;refine D3 hS c10 (b:=(D2 .and .u64 (shI .shr .u64 (y2.g x2.toNat) d) 1)==1) (fun c11=>?_) (fun c11=>?_)
    ·replace h:=itT c11 h;obtain⟨c12,h⟩:=D5 h;exact l _ [(11500,47000),(29000,29000)] _ (x1.push x2) (wrap .i64 (x2+1)) (And.intro (rfl:true=true) c12) h (hle:=klR [(4,.fn (x1.n+1) (x1.push x2).n (R9 x1.n (fun i=>cI .i64 (x1.g i)) (D7 [pI .i64 0] [(0,cI .i64 x2)])) (fun i=>cI .i64 ((x1.push x2).g i)))] (al1 ⟨rfl,Er (c:=cI .i64) (v:=x1) (x:=x2) (z:=[(pI .i64 0)]) same rfl rfl⟩ al0))
    ·replace h:=itF c11 h;exact l _ [(11500,11500),(29000,29000)] _ x1 (wrap .i64 (x2+1)) trivial h
   ·obtain rfl:=B6 h;exact A5 hS trivial ⟨[(7,pN 0),(6,.vec 11500)],[(11500,.vec C6 1 x1.n (fun i=>cI .i64 (x1.g i)) true)]⟩ [11500] (ids:=[(11500,11500)]) ⟨rfl,rfl,rfl⟩
def EX (N:Nat)(d:Pat)(c:Sl Sound)(a:Int):Option ((Sl Int)×Int):=
 (Dk N d c).bind fun y1=>
 if (y1 != 0) then
  some ((Sl.nil:Sl Int),y1)
 else
  if ((decide (a<0))||(decide ((c.n:Int)<a))) then
   some ((Sl.nil:Sl Int),3)
  else
   (Ce N d c).bind fun y2=>
   P6 N (fun b (x1:Sl Int) (x2:Int)=>
    if (decide (x2<=(c.n:Int))) then
     if ((((0:Int)<=a/\a<(y2.n:Int))/\a.toNat<y2.n)/\(0:Int)<=x2)then
      if ((D2 .and .u64 (shI .shr .u64 (y2.g a.toNat) x2) 1)==1) then
       if ((x1.n+(Sl.of [x2]:Sl Int).n)*8<=140737488355328/\x1.n+(Sl.of [x2]:Sl Int).n<=140737488355328)then
        b (x1.push x2) (wrap .i64 (x2+1))
       else none
      else
       b x1 (wrap .i64 (x2+1))
     else none
    else
     some (x1,0)
    ) (Sl.nil:Sl Int) 0
theorem ZW {N:Nat}{j:Pat}{f:Sl Sound}{d:Int}{y:(Sl Int)×Int}(h:EX N j f d=some y) :FunO S PX [.p (.agg (B3 j)),.p (vSl 2 A0 f),pN d] [] (.tup [.vec 0,pN y.2]) ([.vec C6 1 y.1.n (fun i=>cI .i64 (y.1.g i)) true]) []:=by
 unfold EX at h;refine A1 hS Tryz.func224 ?_;refine kC hS h (Qg hS hL) (fun y1 h=>?_);refine kI hS h ?_ ?_<;>intro h
 ·obtain rfl:=B6 h;exact A5 hS trivial ⟨[(7,pN y1),(6,.vec 7700)],[(7700,.vec C6 1 (Sl.nil:Sl Int).n (fun i=>cI .i64 ((Sl.nil:Sl Int).g i)) true)]⟩ [7700] (ids:=[]) ⟨rfl,rfl,rfl⟩
 ·refine kB hS (A4 hS) trivial trivial 5 (.o (.a (decide (d<0))) (.a (decide ((f.n:Int)<d)))) ?_;refine kI hS h ?_ ?_<;>intro h
  ·obtain rfl:=B6 h;exact A5 hS trivial ⟨[(7,pN 3),(6,.vec 7700)],[(7700,.vec C6 1 (Sl.nil:Sl Int).n (fun i=>cI .i64 ((Sl.nil:Sl Int).g i)) true)]⟩ [7700] (ids:=[]) ⟨rfl,rfl,rfl⟩
  ·refine kC hS h (Nt hS hL) (fun y2 h=>?_);refine F5 hS trivial h (fun x1 x2=>⟨[(11,pN x2),(10,.vec 11500),(9,.vec 29000),(2,pN d),(1,.p (vSl 2 A0 f))],[(29000,.vec C5 1 y2.n (fun i=>cI .u64 (y2.g i)) true),(11500,.vec C6 1 x1.n (fun i=>cI .i64 (x1.g i)) false)]⟩) (ids:=[(29000,29000)]) (fun _ _ _ _ _ m x1 x2 l h=>?_);refine kI hS h ?_ ?_<;>intro h
   ·obtain⟨c10,h⟩:=D5 h;refine D3 hS c10 (b:=(D2 .and .u64 (shI .shr .u64 (y2.g d.toNat) x2) 1)==1) (fun c11=>?_) (fun c11=>?_)
    ·replace h:=itT c11 h;obtain⟨c12,h⟩:=D5 h;exact l _ [(11500,47000),(29000,29000)] _ (x1.push x2) (wrap .i64 (x2+1)) (And.intro (rfl:true=true) c12) h (hle:=klR [(4,.fn (x1.n+1) (x1.push x2).n (R9 x1.n (fun i=>cI .i64 (x1.g i)) (D7 [pI .i64 0] [(0,cI .i64 x2)])) (fun i=>cI .i64 ((x1.push x2).g i)))] (al1 ⟨rfl,Er (c:=cI .i64) (v:=x1) (x:=x2) (z:=[(pI .i64 0)]) same rfl rfl⟩ al0))
    ·replace h:=itF c11 h;exact l _ [(11500,11500),(29000,29000)] _ x1 (wrap .i64 (x2+1)) trivial h
   ·obtain rfl:=B6 h;exact A5 hS trivial ⟨[(7,pN 0),(6,.vec 11500)],[(11500,.vec C6 1 x1.n (fun i=>cI .i64 (x1.g i)) true)]⟩ [11500] (ids:=[(11500,11500)]) ⟨rfl,rfl,rfl⟩
def AI (N:Nat)(a:Law)(c:Sl Sound)(b:Int):Option Bool:=
 if ((decide (b<0))||(decide ((c.n:Int)<(wrap .i64 (b+(a.If.n:Int)))))) then
  some false
 else
  W6 N (fun d (x1:Int)=>
   if (decide (x1<(a.If.n:Int))) then
    if (((0:Int)<=(wrap .i64 (b+x1))/\(wrap .i64 (b+x1))<(c.n:Int))/\((0:Int)<=x1/\x1<(a.If.n:Int)))then
     (P1 N (c.g (wrap .i64 (b+x1)).toNat) (a.If.g x1.toNat)).bind fun y3=>
     if (!y3) then
      some false
     else
      d (wrap .i64 (x1+1))
    else none
   else
    (CA N a.Left c b).bind fun y4=>
    (EX N a.Right c (wrap .i64 (b+(a.If.n:Int)))).bind fun y5=>
    some ((decide (0<(y4.1.n:Int)))&&(decide (0<(y5.1.n:Int))))
   ) 0
theorem Nu {N:Nat}{b:Law}{d:Sl Sound}{c:Int}{y:Bool}(h:AI N b d c=some y) :FunO S TL [.p (.agg (B4 b)),.p (vSl 2 A0 d),pN c] [] (pB y) ([]) []:=by
 unfold AI at h;refine A1 hS Tryz.func213 ?_;refine G0 hS trivial 6 4000 (B4 b) ?_;refine kB hS (A4 hS) trivial trivial 7 (.o (.a (decide (c<0))) (.a (decide ((d.n:Int)<(wrap .i64 (c+(b.If.n:Int))))))) ?_;refine kI hS h ?_ ?_<;>intro h
 ·cases h;exact kR hS
 ·refine J0 hS trivial h (fun x1=>⟨[(8,pN x1),(7,pN (b.If.n:Int)),(3,.p (.ptr (B4 b))),(2,pN c),(1,.p (vSl 2 A0 d))],[]⟩) (ids:=[]) (fun _ _ _ _ _ f x1 g h=>?_);refine kI hS h ?_ ?_<;>intro h
  ·refine D9 hS trivial [4,5,7,9,10,11] ?_;obtain⟨c9,h⟩:=D5 h;obtain⟨y3,e3,h⟩:=B8 h;refine S6 (And.intro (And.intro (And.intro c9.1 (by decide:(2:Nat)<=2)) c9.2) (by decide:(2:Nat)<=2)) (Nq hS hL e3) ?_;refine I4 trivial ?_;refine kI hS h ?_ ?_<;>intro h
   ·cases h;exact kR hS
   ·exact g _ [] _ (wrap .i64 (x1+1)) trivial h
  ·obtain⟨y4,e4,h⟩:=B8 h;refine B9 hS [] (by decide:(7:Nat)<=17) (Ud hS hL e4) ?_;obtain⟨y5,e5,h⟩:=B8 h;refine B9 hS [] (by decide:(7:Nat)<=10) (ZW hS hL e5) ?_;refine kB hS (A4 hS) trivial trivial 4 (.n (.a (decide (0<(y4.1.n:Int)))) (.a (decide (0<(y5.1.n:Int))))) ?_;cases h;exact kR hS
def BI (N:Nat)(a:Law)(b:Sl Sound):Option (Sl Sound):=
 P6 N (fun c (x1:Sl Sound) (x2:Int)=>
  if (decide (x2<(a.Out.n:Int))) then
   if ((0:Int)<=x2/\x2<(a.Out.n:Int))then
    if ((decide (0<=(a.Out.g x2.toNat).From))=true->((0:Int)<=(a.Out.g x2.toNat).From/\(a.Out.g x2.toNat).From<(b.n:Int)))then
     (Q6 N (⟨(if (decide (0<=(a.Out.g x2.toNat).From)) then (b.g (a.Out.g x2.toNat).From.toNat).Plus else 0),(if (decide (0<=(a.Out.g x2.toNat).From)) then (b.g (a.Out.g x2.toNat).From.toNat).Minus else 0)⟩:Sound) (a.Out.g x2.toNat).Clear (a.Out.g x2.toNat).Set).bind fun y5=>
     if ((a.Out.g x2.toNat).Take != 0) then
      if ((0:Int)<=(a.Out.g x2.toNat).Of/\(a.Out.g x2.toNat).Of<(b.n:Int))then
       (Ad N y5.1 (b.g (a.Out.g x2.toNat).Of.toNat) (a.Out.g x2.toNat).Take).bind fun y6=>
       if ((x1.n+(Sl.of [y6.1]:Sl Sound).n)*8<=140737488355328/\x1.n+(Sl.of [y6.1]:Sl Sound).n<=140737488355328)then
        c (x1.push y6.1) (wrap .i64 (x2+1))
       else none
      else none
     else
      if ((x1.n+(Sl.of [y5.1]:Sl Sound).n)*8<=140737488355328/\x1.n+(Sl.of [y5.1]:Sl Sound).n<=140737488355328)then
       c (x1.push y5.1) (wrap .i64 (x2+1))
      else none
    else none
   else none
  else
   some x1
  ) (Sl.nil:Sl Sound) 0
theorem Ue {N:Nat}{d:Law}{a:Sl Sound}{y:Sl Sound}(h:BI N d a=some y) :FunO S TM [.p (.agg (B4 d)),.p (vSl 2 A0 a)] [] (.vec 0) ([.vec B5 2 y.n (fun i=>A0 (y.g i)) true]) []:=by
 unfold BI at h;refine A1 hS Tryz.func214 ?_;refine G0 hS trivial 4 3000 (B4 d) ?_;refine F5 hS trivial h (fun x1 x2=>⟨[(6,pN x2),(5,.vec 6500),(2,.p (.ptr (B4 d))),(1,.p (vSl 2 A0 a))],[(6500,.vec B5 2 x1.n (fun i=>A0 (x1.g i)) false)]⟩) (ids:=[]) (fun _ _ _ _ _ o x1 x2 l h=>?_);refine kI hS h ?_ ?_<;>intro h
 ·obtain⟨c16,h⟩:=D5 h;refine G0 hS (And.intro c16 (by decide:(6:Nat)<=6)) 21 8000 (P8 (d.Out.g x2.toNat)) ?_;obtain⟨c18,h⟩:=D5 h;obtain⟨t5,f⟩:∃x:Int,x=(if (decide (0<=(d.Out.g x2.toNat).From)) then (a.g (d.Out.g x2.toNat).From.toNat).Plus else 0):=⟨_,rfl⟩;obtain⟨t6,j⟩:∃x:Int,x=(if (decide (0<=(d.Out.g x2.toNat).From)) then (a.g (d.Out.g x2.toNat).From.toNat).Minus else 0):=⟨_,rfl⟩;refine Ti hS trivial (A4 hS) 0 ⟨[(8,.reg 9000 0),(7,.p (.ptr (P8 (d.Out.g x2.toNat)))),(6,pN x2),(5,.vec 6500),(2,.p (.ptr (B4 d))),(1,.p (vSl 2 A0 a))],[(9000,.cells [pU t5,pU t6]),(6500,.vec B5 2 x1.n (fun i=>A0 (x1.g i)) false)]⟩ (fun M3 m=>?_) ?_
  ·refine D3 hS trivial (b:=decide (0<=(d.Out.g x2.toNat).From)) (fun c19=>?_) (fun c19=>?_)
   ·exact m _ [(6500,6500),(9000,9000)] _ (And.intro (c18 c19) (by decide:(2:Nat)<=2)) (hle:=klR [(4,.eq (pI .u32 (a.g (d.Out.g x2.toNat).From.toNat).Plus) (pI .u32 t5)),(5,.eq (pI .u32 (a.g (d.Out.g x2.toNat).From.toNat).Minus) (pI .u32 t6))] (al1 (by simp only[f,j,c19,Leaf.ok,pm,if_true,if_false]) (al1 (by simp only[f,j,c19,Leaf.ok,pm,if_true,if_false]) al0)))
   ·exact m _ [(6500,6500),(9000,9000)] _ trivial (hle:=klR [(4,.eq (pI .u32 0) (pI .u32 t5)),(5,.eq (pI .u32 0) (pI .u32 t6))] (al1 (by simp only[f,j,c19,Leaf.ok,pm,if_true,if_false]) (al1 (by simp only[f,j,c19,Leaf.ok,pm,if_true,if_false]) al0)))
  ·subst j;subst f;obtain⟨y5,e5,h⟩:=B8 h;refine B9 hS [] (by decide:(2:Nat)<=4) (TZ hS hL e5) ?_;refine kI hS h ?_ ?_<;>intro h
   ·refine D9 hS trivial [3,4,5,7,8] ?_;obtain⟨c21,h⟩:=D5 h;obtain⟨y6,e6,h⟩:=B8 h;refine S6 (And.intro c21 (by decide:(2:Nat)<=2)) (ZP hS hL e6) ?_;refine I4 trivial ?_;obtain⟨c22,h⟩:=D5 h;exact l _ [(6500,58000)] _ (x1.push y6.1) (wrap .i64 (x2+1)) (And.intro (rfl:true=true) c22) h (hle:=klR [(3,.fn (x1.n+1) (x1.push y6.1).n (R9 x1.n (fun i=>A0 (x1.g i)) (D7 [pI .u32 0,pI .u32 0] [(0,A0 y6.1)])) (fun i=>A0 ((x1.push y6.1).g i)))] (al1 ⟨rfl,Er (c:=A0) (v:=x1) (x:=y6.1) (z:=[(pI .u32 0),pI .u32 0]) same rfl rfl⟩ al0))
   ·obtain⟨c23,h⟩:=D5 h;exact l _ [(6500,58000)] _ (x1.push y5.1) (wrap .i64 (x2+1)) (And.intro (rfl:true=true) c23) h (hle:=klR [(3,.fn (x1.n+1) (x1.push y5.1).n (R9 x1.n (fun i=>A0 (x1.g i)) (D7 [pI .u32 0,pI .u32 0] [(0,A0 y5.1)])) (fun i=>A0 ((x1.push y5.1).g i)))] (al1 ⟨rfl,Er (c:=A0) (v:=x1) (x:=y5.1) (z:=[(pI .u32 0),pI .u32 0]) same rfl rfl⟩ al0))
 ·obtain rfl:=B6 h;exact A5 hS trivial ⟨[(4,.vec 6500)],[(6500,.vec B5 2 x1.n (fun i=>A0 (x1.g i)) true)]⟩ [6500] (ids:=[(6500,6500)]) ⟨rfl,rfl,rfl⟩
def Q7 (N:Nat)(c:Law)(b:Sl Sound)(a:Int):Option (Sl Sound):=
 if (((0:Int)<=a/\a<=(b.n:Int))/\(((Sl.of []:Sl Sound).n+(b.take a.toNat).n)*8<=140737488355328/\(Sl.of []:Sl Sound).n+(b.take a.toNat).n<=140737488355328))then
  if ((0:Int)<=a/\a<=(wrap .i64 (a+(c.If.n:Int)))/\(wrap .i64 (a+(c.If.n:Int)))<=(b.n:Int))then
   (BI N c (b.sub a.toNat (wrap .i64 (a+(c.If.n:Int))).toNat)).bind fun y1=>
   if ((((Sl.of []:Sl Sound).app (b.take a.toNat)).n+y1.n)*8<=140737488355328/\((Sl.of []:Sl Sound).app (b.take a.toNat)).n+y1.n<=140737488355328)then
    if (((0:Int)<=(wrap .i64 (a+(c.If.n:Int)))/\(wrap .i64 (a+(c.If.n:Int)))<=(b.n:Int))/\(((((Sl.of []:Sl Sound).app (b.take a.toNat)).app y1).n+(b.drop (wrap .i64 (a+(c.If.n:Int))).toNat).n)*8<=140737488355328/\(((Sl.of []:Sl Sound).app (b.take a.toNat)).app y1).n+(b.drop (wrap .i64 (a+(c.If.n:Int))).toNat).n<=140737488355328))then
     some ((((Sl.of []:Sl Sound).app (b.take a.toNat)).app y1).app (b.drop (wrap .i64 (a+(c.If.n:Int))).toNat))
    else none
   else none
  else none
 else none
theorem Jt {N:Nat}{d:Law}{a:Sl Sound}{b:Int}{y:Sl Sound}(h:Q7 N d a b=some y) :FunO S Ji [.p (.agg (B4 d)),.p (vSl 2 A0 a),pN b] [] (.vec 0) ([.vec B5 2 y.n (fun i=>A0 (y.g i)) true]) []:=by unfold Q7 at h;refine A1 hS Tryz.func215 ?_;refine G0 hS trivial 6 4000 (B4 d) ?_;obtain⟨c1,h⟩:=D5 h;refine D9 hS (And.intro (And.intro (rfl:true=true) c1.1) c1.2) [1] ?_;obtain⟨c2,h⟩:=D5 h;obtain⟨y1,e1,h⟩:=B8 h;refine Mo [] (And.intro (by decide:(18:Nat)<=18) c2) (Ue hS hL e1) ?_;obtain⟨c3,h⟩:=D5 h;refine I4 c3 ?_;obtain⟨c4,h⟩:=D5 h;obtain rfl:=B6 h;exact A5 hS c4 ⟨[(6,.vec 34000)],[(34000,.vec B5 2 ((((Sl.of []:Sl Sound).app (a.take b.toNat)).app y1).app (a.drop (wrap .i64 (b+(d.If.n:Int))).toNat)).n (fun i=>A0 (((((Sl.of []:Sl Sound).app (a.take b.toNat)).app y1).app (a.drop (wrap .i64 (b+(d.If.n:Int))).toNat)).g i)) true)]⟩ [34000] (ids:=[(34000,34000)]) ⟨rfl,rfl,rfl⟩ (hle:=klR [(0,.fn (((0+(a.take b.toNat).n)+y1.n)+(a.drop (wrap .i64 (b+(d.If.n:Int))).toNat).n) ((((Sl.of []:Sl Sound).app (a.take b.toNat)).app y1).app (a.drop (wrap .i64 (b+(d.If.n:Int))).toNat)).n (R9 ((0+(a.take b.toNat).n)+y1.n) (R9 (0+(a.take b.toNat).n) (R9 0 (D7 [pI .u32 0,pI .u32 0] []) (fun i=>A0 ((a.take b.toNat).g i))) (fun i=>A0 (y1.g i))) (fun i=>A0 ((a.drop (wrap .i64 (b+(d.If.n:Int))).toNat).g i))) (fun i=>A0 (((((Sl.of []:Sl Sound).app (a.take b.toNat)).app y1).app (a.drop (wrap .i64 (b+(d.If.n:Int))).toNat)).g i)))] (al1 ⟨rfl,XK (c:=A0) (v:=((Sl.of []:Sl Sound).app (a.take b.toNat)).app y1) (w:=a.drop (wrap .i64 (b+(d.If.n:Int))).toNat) (XK (c:=A0) (v:=(Sl.of []:Sl Sound).app (a.take b.toNat)) (w:=y1) (XK (c:=A0) (v:=(Sl.of []:Sl Sound)) (w:=a.take b.toNat) (fun i f=>absurd f (by omega)) rfl same rfl) rfl same rfl) rfl same rfl⟩ al0))
def GQ (N:Nat)(a:Law)(b:Sl Sound):Option ((Sl Int)×(Sl (Sl Sound))×Int):=
 Aq8 N (fun c (x2:Sl Int) (x3:Sl (Sl Sound)) (x4:Sl Sound) (x5:Int)=>
  if (decide (x5<=(b.n:Int))) then
   (AI N a b x5).bind fun y5=>
   if (!y5) then
    lt (fun (z3:Sl Sound)=>
     c x2 x3 z3 (wrap .i64 (x5+1))
     ) fun k3=>
     if (decide (x5<(b.n:Int))) then
      if (((0:Int)<=x5/\x5<(b.n:Int))/\((x4.n+(Sl.of [b.g x5.toNat]:Sl Sound).n)*8<=140737488355328/\x4.n+(Sl.of [b.g x5.toNat]:Sl Sound).n<=140737488355328))then
       k3 (x4.push (b.g x5.toNat))
      else none
     else
      k3 x4
   else
    if ((0:Int)<=x5/\x5<=(wrap .i64 (x5+(a.If.n:Int)))/\(wrap .i64 (x5+(a.If.n:Int)))<=(b.n:Int))then
     (BI N a (b.sub x5.toNat (wrap .i64 (x5+(a.If.n:Int))).toNat)).bind fun y6=>
     if ((x4.n+y6.n)*8<=140737488355328/\x4.n+y6.n<=140737488355328)then
      if ((x2.n+(Sl.of [x5]:Sl Int).n)*8<=140737488355328/\x2.n+(Sl.of [x5]:Sl Int).n<=140737488355328)then
       if (((((Sl.of []:Sl Sound).n+(x4.app y6).n)*8<=140737488355328/\(Sl.of []:Sl Sound).n+(x4.app y6).n<=140737488355328)/\((0:Int)<=(wrap .i64 (x5+(a.If.n:Int)))/\(wrap .i64 (x5+(a.If.n:Int)))<=(b.n:Int)))/\((((Sl.of []:Sl Sound).app (x4.app y6)).n+(b.drop (wrap .i64 (x5+(a.If.n:Int))).toNat).n)*8<=140737488355328/\((Sl.of []:Sl Sound).app (x4.app y6)).n+(b.drop (wrap .i64 (x5+(a.If.n:Int))).toNat).n<=140737488355328))then
        if (decide (32<((((Sl.of []:Sl Sound).app (x4.app y6)).app (b.drop (wrap .i64 (x5+(a.If.n:Int))).toNat)).n:Int))) then
         some ((Sl.nil:Sl Int),(Sl.nil:Sl (Sl Sound)),11)
        else
         if ((x3.n+(Sl.of [((Sl.of []:Sl Sound).app (x4.app y6)).app (b.drop (wrap .i64 (x5+(a.If.n:Int))).toNat)]:Sl (Sl Sound)).n)*24<=140737488355328/\x3.n+(Sl.of [((Sl.of []:Sl Sound).app (x4.app y6)).app (b.drop (wrap .i64 (x5+(a.If.n:Int))).toNat)]:Sl (Sl Sound)).n<=140737488355328)then
          if ((a.If.n:Int)==0) then
           if (decide ((wrap .i64 (x5+(a.If.n:Int)))<(b.n:Int))) then
            if (((0:Int)<=(wrap .i64 (x5+(a.If.n:Int)))/\(wrap .i64 (x5+(a.If.n:Int)))<(b.n:Int))/\(((x4.app y6).n+(Sl.of [b.g (wrap .i64 (x5+(a.If.n:Int))).toNat]:Sl Sound).n)*8<=140737488355328/\(x4.app y6).n+(Sl.of [b.g (wrap .i64 (x5+(a.If.n:Int))).toNat]:Sl Sound).n<=140737488355328))then
             c (x2.push x5) (x3.push (((Sl.of []:Sl Sound).app (x4.app y6)).app (b.drop (wrap .i64 (x5+(a.If.n:Int))).toNat))) ((x4.app y6).push (b.g (wrap .i64 (x5+(a.If.n:Int))).toNat)) (wrap .i64 ((wrap .i64 (x5+(a.If.n:Int)))+1))
            else none
           else
            c (x2.push x5) (x3.push (((Sl.of []:Sl Sound).app (x4.app y6)).app (b.drop (wrap .i64 (x5+(a.If.n:Int))).toNat))) (x4.app y6) (wrap .i64 ((wrap .i64 (x5+(a.If.n:Int)))+1))
          else
           c (x2.push x5) (x3.push (((Sl.of []:Sl Sound).app (x4.app y6)).app (b.drop (wrap .i64 (x5+(a.If.n:Int))).toNat))) (x4.app y6) (wrap .i64 (x5+(a.If.n:Int)))
         else none
       else none
      else none
     else none
    else none
  else
   some (x2,x3,0)
  ) (Sl.nil:Sl Int) (Sl.nil:Sl (Sl Sound)) (Sl.nil:Sl Sound) 0
theorem Al0 {N:Nat}{a:Law}{d:Sl Sound}{y:(Sl Int)×(Sl (Sl Sound))×Int}(h:GQ N a d=some y) :FunO S TG [.p (.agg (B4 a)),.p (vSl 2 A0 d)] [] (.tup [.vec 0,.vec 1,pN y.2.2]) ([.vec C6 1 y.1.n (fun i=>cI .i64 (y.1.g i)) true,.vec A9 1 y.2.1.n (fun i=>cL 2 A0 (y.2.1.g i)) true]) []:=by
 unfold GQ at h;refine A1 hS Tryz.func203 ?_;refine G0 hS trivial 4 3000 (B4 a) ?_;refine Aj2 hS trivial h (fun x2 x3 x4 x5=>⟨[(10,pN x5),(9,.vec 10501),(8,.vec 9500),(7,.vec 8500),(2,.p (.ptr (B4 a))),(1,.p (vSl 2 A0 d))],[(10501,.vec B5 2 x4.n (fun i=>A0 (x4.g i)) false),(9500,.vec A9 1 x3.n (fun i=>cL 2 A0 (x3.g i)) false),(8500,.vec C6 1 x2.n (fun i=>cI .i64 (x2.g i)) false)]⟩) (ids:=[]) (fun _ _ _ _ _ l x2 x3 x4 x5 f h=>?_);refine kI hS h ?_ ?_<;>intro h
 ·obtain⟨y5,e5,h⟩:=B8 h;refine B9 hS [] (by decide:(18:Nat)<=18) (Nu hS hL e5) ?_;refine kI hS h ?_ ?_<;>intro h
  ·refine Hu hS trivial (A4 hS) h 0 (fun z3=>⟨[(10,pN x5),(9,.vec 10500),(8,.vec 9500),(7,.vec 8500),(2,.p (.ptr (B4 a))),(1,.p (vSl 2 A0 d))],[(10500,.vec B5 2 z3.n (fun i=>A0 (z3.g i)) false),(9500,.vec A9 1 x3.n (fun i=>cL 2 A0 (x3.g i)) false),(8500,.vec C6 1 x2.n (fun i=>cI .i64 (x2.g i)) false)]⟩) (fun M6 k3 j h=>?_) (fun z3 h=>?_)
   ·refine kI hS h ?_ ?_<;>intro h
    ·obtain⟨c40,h⟩:=D5 h;exact j _ [(8500,8500),(9500,9500),(10500,33000)] _ (x4.push (d.g x5.toNat)) (And.intro (And.intro (And.intro c40.1 (by decide:(2:Nat)<=2)) (rfl:true=true)) c40.2) h (hle:=klR [(3,.fn (x4.n+1) (x4.push (d.g x5.toNat)).n (R9 x4.n (fun i=>A0 (x4.g i)) (D7 [pI .u32 0,pI .u32 0] [(0,A0 (d.g x5.toNat))])) (fun i=>A0 ((x4.push (d.g x5.toNat)).g i)))] (al1 ⟨rfl,Er (c:=A0) (v:=x4) (x:=d.g x5.toNat) (z:=[(pI .u32 0),pI .u32 0]) same rfl rfl⟩ al0))
    ·exact j _ [(8500,8500),(9500,9500),(10500,10501)] _ x4 trivial h
   ·exact f _ [(8500,8500),(9500,9500),(10501,10500)] _ x2 x3 z3 (wrap .i64 (x5+1)) trivial h
  ·refine D9 hS trivial [1] ?_;obtain⟨c41,h⟩:=D5 h;obtain⟨y6,e6,h⟩:=B8 h;refine Mo [] (And.intro (by decide:(18:Nat)<=18) c41) (Ue hS hL e6) ?_;obtain⟨c42,h⟩:=D5 h;refine I4 c42 ?_;obtain⟨c43,h⟩:=D5 h;refine D9 hS (And.intro (rfl:true=true) c43) [1000] ?_;obtain⟨c44,h⟩:=D5 h;refine I4 (And.intro (And.intro (And.intro (rfl:true=true) c44.1.1) c44.1.2) c44.2) ?_;refine kI hS h ?_ ?_<;>intro h
   ·obtain rfl:=B6 h;exact A5 hS trivial ⟨[(6,pN 11),(5,.vec 6701),(4,.vec 5700)],[(6701,.vec A9 1 (Sl.nil:Sl (Sl Sound)).n (fun i=>cL 2 A0 ((Sl.nil:Sl (Sl Sound)).g i)) true),(5700,.vec C6 1 (Sl.nil:Sl Int).n (fun i=>cI .i64 ((Sl.nil:Sl Int).g i)) true)]⟩ [5700,6701] (ids:=[]) ⟨rfl,rfl,rfl⟩
   ·refine I5 hS trivial 66 ⟨[(65,.vec 61000),(64,.vec 9500),(11,pN (a.If.n:Int)),(10,pN x5),(9,.vec 48000),(7,.vec 52000),(2,.p (.ptr (B4 a))),(1,.p (vSl 2 A0 d))],[(61000,.vec B5 2 (((Sl.of []:Sl Sound).app (x4.app y6)).app (d.drop (wrap .i64 (x5+(a.If.n:Int))).toNat)).n (fun i=>A0 ((((Sl.of []:Sl Sound).app (x4.app y6)).app (d.drop (wrap .i64 (x5+(a.If.n:Int))).toNat)).g i)) true),(52000,.vec C6 1 (x2.push x5).n (fun i=>cI .i64 ((x2.push x5).g i)) false),(48000,.vec B5 2 (x4.app y6).n (fun i=>A0 ((x4.app y6).g i)) false),(9500,.vec A9 1 x3.n (fun i=>cL 2 A0 (x3.g i)) false)]⟩ (ids:=[(9500,9500),(48000,48000),(52000,52000),(61000,61000)]) ?_ (hle:=klR [(4,.fn ((0+(x4.n+y6.n))+(d.drop (wrap .i64 (x5+(a.If.n:Int))).toNat).n) (((Sl.of []:Sl Sound).app (x4.app y6)).app (d.drop (wrap .i64 (x5+(a.If.n:Int))).toNat)).n (R9 (0+(x4.n+y6.n)) (R9 0 (D7 [pI .u32 0,pI .u32 0] []) (R9 x4.n (fun i=>A0 (x4.g i)) (fun i=>A0 (y6.g i)))) (fun i=>A0 ((d.drop (wrap .i64 (x5+(a.If.n:Int))).toNat).g i))) (fun i=>A0 ((((Sl.of []:Sl Sound).app (x4.app y6)).app (d.drop (wrap .i64 (x5+(a.If.n:Int))).toNat)).g i))),(5,.fn (x2.n+1) (x2.push x5).n (R9 x2.n (fun i=>cI .i64 (x2.g i)) (D7 [pI .i64 0] [(0,cI .i64 x5)])) (fun i=>cI .i64 ((x2.push x5).g i))),(6,.fn (x4.n+y6.n) (x4.app y6).n (R9 x4.n (fun i=>A0 (x4.g i)) (fun i=>A0 (y6.g i))) (fun i=>A0 ((x4.app y6).g i)))] (al1 ⟨rfl,XK (c:=A0) (v:=(Sl.of []:Sl Sound).app (x4.app y6)) (w:=d.drop (wrap .i64 (x5+(a.If.n:Int))).toNat) (XK (c:=A0) (v:=(Sl.of []:Sl Sound)) (w:=x4.app y6) (fun i m=>absurd m (by omega)) rfl (XK (c:=A0) (v:=x4) (w:=y6) same rfl same rfl) rfl) rfl same rfl⟩ (al1 ⟨rfl,Er (c:=cI .i64) (v:=x2) (x:=x5) (z:=[(pI .i64 0)]) same rfl rfl⟩ (al1 ⟨rfl,XK (c:=A0) (v:=x4) (w:=y6) same rfl same rfl⟩ al0))));obtain⟨c46,h⟩:=D5 h;refine D3 hS (And.intro (rfl:true=true) c46) (b:=(a.If.n:Int)==0) (fun c47=>?_) (fun c47=>?_)
    ·replace h:=itT c47 h;refine kI hS h ?_ ?_<;>intro h
     ·obtain⟨c49,h⟩:=D5 h;exact f _ [(8500,52000),(9500,68000),(10501,84000)] _ (x2.push x5) (x3.push (((Sl.of []:Sl Sound).app (x4.app y6)).app (d.drop (wrap .i64 (x5+(a.If.n:Int))).toNat))) ((x4.app y6).push (d.g (wrap .i64 (x5+(a.If.n:Int))).toNat)) (wrap .i64 ((wrap .i64 (x5+(a.If.n:Int)))+1)) (And.intro (And.intro (And.intro c49.1 (by decide:(2:Nat)<=2)) (rfl:true=true)) c49.2) h (hle:=klR [(3,.fn ((x4.app y6).n+1) ((x4.app y6).push (d.g (wrap .i64 (x5+(a.If.n:Int))).toNat)).n (R9 (x4.app y6).n (fun i=>A0 ((x4.app y6).g i)) (D7 [pI .u32 0,pI .u32 0] [(0,A0 (d.g (wrap .i64 (x5+(a.If.n:Int))).toNat))])) (fun i=>A0 (((x4.app y6).push (d.g (wrap .i64 (x5+(a.If.n:Int))).toNat)).g i))),(4,.fn (x3.n+1) (x3.push (((Sl.of []:Sl Sound).app (x4.app y6)).app (d.drop (wrap .i64 (x5+(a.If.n:Int))).toNat))).n (R9 x3.n (fun i=>cL 2 A0 (x3.g i)) (D7 [G6] [(0,cL 2 A0 (((Sl.of []:Sl Sound).app (x4.app y6)).app (d.drop (wrap .i64 (x5+(a.If.n:Int))).toNat)))])) (fun i=>cL 2 A0 ((x3.push (((Sl.of []:Sl Sound).app (x4.app y6)).app (d.drop (wrap .i64 (x5+(a.If.n:Int))).toNat))).g i)))] (al1 ⟨rfl,Er (c:=A0) (v:=x4.app y6) (x:=d.g (wrap .i64 (x5+(a.If.n:Int))).toNat) (z:=[(pI .u32 0),pI .u32 0]) same rfl rfl⟩ (al1 ⟨rfl,Er (c:=cL 2 A0) (v:=x3) (x:=((Sl.of []:Sl Sound).app (x4.app y6)).app (d.drop (wrap .i64 (x5+(a.If.n:Int))).toNat)) (z:=[G6]) same rfl rfl⟩ al0)))
     ·exact f _ [(8500,52000),(9500,68000),(10501,48000)] _ (x2.push x5) (x3.push (((Sl.of []:Sl Sound).app (x4.app y6)).app (d.drop (wrap .i64 (x5+(a.If.n:Int))).toNat))) (x4.app y6) (wrap .i64 ((wrap .i64 (x5+(a.If.n:Int)))+1)) trivial h (hle:=klR [(4,.fn (x3.n+1) (x3.push (((Sl.of []:Sl Sound).app (x4.app y6)).app (d.drop (wrap .i64 (x5+(a.If.n:Int))).toNat))).n (R9 x3.n (fun i=>cL 2 A0 (x3.g i)) (D7 [G6] [(0,cL 2 A0 (((Sl.of []:Sl Sound).app (x4.app y6)).app (d.drop (wrap .i64 (x5+(a.If.n:Int))).toNat)))])) (fun i=>cL 2 A0 ((x3.push (((Sl.of []:Sl Sound).app (x4.app y6)).app (d.drop (wrap .i64 (x5+(a.If.n:Int))).toNat))).g i)))] (al1 ⟨rfl,Er (c:=cL 2 A0) (v:=x3) (x:=((Sl.of []:Sl Sound).app (x4.app y6)).app (d.drop (wrap .i64 (x5+(a.If.n:Int))).toNat)) (z:=[G6]) same rfl rfl⟩ al0))
    ·replace h:=itF c47 h;exact f _ [(8500,52000),(9500,68000),(10501,48000)] _ (x2.push x5) (x3.push (((Sl.of []:Sl Sound).app (x4.app y6)).app (d.drop (wrap .i64 (x5+(a.If.n:Int))).toNat))) (x4.app y6) (wrap .i64 (x5+(a.If.n:Int))) trivial h (hle:=klR [(4,.fn (x3.n+1) (x3.push (((Sl.of []:Sl Sound).app (x4.app y6)).app (d.drop (wrap .i64 (x5+(a.If.n:Int))).toNat))).n (R9 x3.n (fun i=>cL 2 A0 (x3.g i)) (D7 [G6] [(0,cL 2 A0 (((Sl.of []:Sl Sound).app (x4.app y6)).app (d.drop (wrap .i64 (x5+(a.If.n:Int))).toNat)))])) (fun i=>cL 2 A0 ((x3.push (((Sl.of []:Sl Sound).app (x4.app y6)).app (d.drop (wrap .i64 (x5+(a.If.n:Int))).toNat))).g i)))] (al1 ⟨rfl,Er (c:=cL 2 A0) (v:=x3) (x:=((Sl.of []:Sl Sound).app (x4.app y6)).app (d.drop (wrap .i64 (x5+(a.If.n:Int))).toNat)) (z:=[G6]) same rfl rfl⟩ al0))
 ·obtain rfl:=B6 h;exact A5 hS trivial ⟨[(6,pN 0),(5,.vec 9500),(4,.vec 8500)],[(9500,.vec A9 1 x3.n (fun i=>cL 2 A0 (x3.g i)) true),(8500,.vec C6 1 x2.n (fun i=>cI .i64 (x2.g i)) true)]⟩ [8500,9500] (ids:=[(8500,8500),(9500,9500)]) ⟨rfl,rfl,rfl⟩
def DN (N:Nat)(b:Law)(c:Sl Sound):Option ((Sl Int)×(Sl (Sl Sound))×Int):=
 Aq8 N (fun a (x1:Sl Sound) (x2:Sl Int) (x3:Sl (Sl Sound)) (x4:Int)=>
  if (decide ((wrap .i64 (x4+(b.If.n:Int)))<=(x1.n:Int))) then
   (AI N b x1 x4).bind fun y5=>
   if (!y5) then
    a x1 x2 x3 (wrap .i64 (x4+1))
   else
    (Q7 N b x1 x4).bind fun y6=>
    if (decide (32<(y6.n:Int))) then
     some ((Sl.nil:Sl Int),(Sl.nil:Sl (Sl Sound)),11)
    else
     if (((x2.n+(Sl.of [x4]:Sl Int).n)*8<=140737488355328/\x2.n+(Sl.of [x4]:Sl Int).n<=140737488355328)/\((x3.n+(Sl.of [y6]:Sl (Sl Sound)).n)*24<=140737488355328/\x3.n+(Sl.of [y6]:Sl (Sl Sound)).n<=140737488355328))then
      if ((b.If.n:Int)==0) then
       a y6 (x2.push x4) (x3.push y6) (wrap .i64 ((wrap .i64 (x4+(b.Out.n:Int)))+1))
      else
       a y6 (x2.push x4) (x3.push y6) (wrap .i64 (x4+(b.Out.n:Int)))
     else none
  else
   some (x2,x3,0)
  ) c (Sl.nil:Sl Int) (Sl.nil:Sl (Sl Sound)) 0
theorem Wv {N:Nat}{a:Law}{f:Sl Sound}{y:(Sl Int)×(Sl (Sl Sound))×Int}(h:DN N a f=some y) :FunO S Na [.p (.agg (B4 a)),.p (vSl 2 A0 f)] [] (.tup [.vec 0,.vec 1,pN y.2.2]) ([.vec C6 1 y.1.n (fun i=>cI .i64 (y.1.g i)) true,.vec A9 1 y.2.1.n (fun i=>cL 2 A0 (y.2.1.g i)) true]) []:=by
 unfold DN at h;refine A1 hS Tryz.func204 ?_;refine Aj2 hS trivial h (fun x1 x2 x3 x4=>⟨[(10,pN x4),(9,pN (a.If.n:Int)),(8,.vec 9500),(7,.vec 8500),(2,.reg 3000 0),(1,.p (vSl 2 A0 x1))],[(9500,.vec A9 1 x3.n (fun i=>cL 2 A0 (x3.g i)) false),(8500,.vec C6 1 x2.n (fun i=>cI .i64 (x2.g i)) false),(3000,.cells ((B4 a).map .p))]⟩) (ids:=[(3000,3000)]) (fun _ _ _ _ _ j x1 x2 x3 x4 d h=>?_);refine kI hS h ?_ ?_<;>intro h
 ·refine kC hS h (Nu hS hL) (fun y5 h=>?_);refine kI hS h ?_ ?_<;>intro h
  ·exact d _ [(3000,3000),(8500,8500),(9500,9500)] _ x1 x2 x3 (wrap .i64 (x4+1)) trivial h
  ·refine kC hS h (Jt hS hL) (fun y6 h=>?_);refine kI hS h ?_ ?_<;>intro h
   ·obtain rfl:=B6 h;exact A5 hS trivial ⟨[(6,pN 11),(5,.vec 6701),(4,.vec 5700)],[(6701,.vec A9 1 (Sl.nil:Sl (Sl Sound)).n (fun i=>cL 2 A0 ((Sl.nil:Sl (Sl Sound)).g i)) true),(5700,.vec C6 1 (Sl.nil:Sl Int).n (fun i=>cI .i64 ((Sl.nil:Sl Int).g i)) true)]⟩ [5700,6701] (ids:=[]) ⟨rfl,rfl,rfl⟩
   ·obtain⟨c14,h⟩:=D5 h;refine D3 hS (And.intro (And.intro (And.intro (rfl:true=true) c14.1) (rfl:true=true)) c14.2) (b:=(a.If.n:Int)==0) (fun c15=>?_) (fun c15=>?_)
    ·replace h:=itT c15 h;exact d _ [(3000,3000),(8500,38000),(9500,42000)] _ y6 (x2.push x4) (x3.push y6) (wrap .i64 ((wrap .i64 (x4+(a.Out.n:Int)))+1)) trivial h (hle:=klR [(3,.fn (x3.n+1) (x3.push y6).n (R9 x3.n (fun i=>cL 2 A0 (x3.g i)) (D7 [G6] [(0,cL 2 A0 y6)])) (fun i=>cL 2 A0 ((x3.push y6).g i))),(4,.fn (x2.n+1) (x2.push x4).n (R9 x2.n (fun i=>cI .i64 (x2.g i)) (D7 [pI .i64 0] [(0,cI .i64 x4)])) (fun i=>cI .i64 ((x2.push x4).g i)))] (al1 ⟨rfl,Er (c:=cL 2 A0) (v:=x3) (x:=y6) (z:=[G6]) same rfl rfl⟩ (al1 ⟨rfl,Er (c:=cI .i64) (v:=x2) (x:=x4) (z:=[(pI .i64 0)]) same rfl rfl⟩ al0)))
    ·replace h:=itF c15 h;exact d _ [(3000,3000),(8500,38000),(9500,42000)] _ y6 (x2.push x4) (x3.push y6) (wrap .i64 (x4+(a.Out.n:Int))) trivial h (hle:=klR [(3,.fn (x3.n+1) (x3.push y6).n (R9 x3.n (fun i=>cL 2 A0 (x3.g i)) (D7 [G6] [(0,cL 2 A0 y6)])) (fun i=>cL 2 A0 ((x3.push y6).g i))),(4,.fn (x2.n+1) (x2.push x4).n (R9 x2.n (fun i=>cI .i64 (x2.g i)) (D7 [pI .i64 0] [(0,cI .i64 x4)])) (fun i=>cI .i64 ((x2.push x4).g i)))] (al1 ⟨rfl,Er (c:=cL 2 A0) (v:=x3) (x:=y6) (z:=[G6]) same rfl rfl⟩ (al1 ⟨rfl,Er (c:=cI .i64) (v:=x2) (x:=x4) (z:=[(pI .i64 0)]) same rfl rfl⟩ al0)))
 ·obtain rfl:=B6 h;exact A5 hS trivial ⟨[(6,pN 0),(5,.vec 9500),(4,.vec 8500)],[(9500,.vec A9 1 x3.n (fun i=>cL 2 A0 (x3.g i)) true),(8500,.vec C6 1 x2.n (fun i=>cI .i64 (x2.g i)) true)]⟩ [8500,9500] (ids:=[(8500,8500),(9500,9500)]) ⟨rfl,rfl,rfl⟩
def Dl (N:Nat)(b:Law)(c:Sl Sound):Option ((Sl Int)×(Sl (Sl Sound))×Int):=
 Aq8 N (fun a (x1:Sl Sound) (x2:Sl Int) (x3:Sl (Sl Sound)) (x4:Int)=>
  if (decide (0<=x4)) then
   (AI N b x1 x4).bind fun y5=>
   if (!y5) then
    a x1 x2 x3 (wrap .i64 (x4-1))
   else
    (Q7 N b x1 x4).bind fun y6=>
    if (decide (32<(y6.n:Int))) then
     some ((Sl.nil:Sl Int),(Sl.nil:Sl (Sl Sound)),11)
    else
     if (((x2.n+(Sl.of [x4]:Sl Int).n)*8<=140737488355328/\x2.n+(Sl.of [x4]:Sl Int).n<=140737488355328)/\((x3.n+(Sl.of [y6]:Sl (Sl Sound)).n)*24<=140737488355328/\x3.n+(Sl.of [y6]:Sl (Sl Sound)).n<=140737488355328))then
      if ((b.If.n:Int)==0) then
       a y6 (x2.push x4) (x3.push y6) (wrap .i64 ((wrap .i64 (x4-(b.If.n:Int)))-1))
      else
       a y6 (x2.push x4) (x3.push y6) (wrap .i64 (x4-(b.If.n:Int)))
     else none
  else
   some (x2,x3,0)
  ) c (Sl.nil:Sl Int) (Sl.nil:Sl (Sl Sound)) (wrap .i64 ((c.n:Int)-(b.If.n:Int)))
theorem ZX {N:Nat}{a:Law}{f:Sl Sound}{y:(Sl Int)×(Sl (Sl Sound))×Int}(h:Dl N a f=some y) :FunO S PW [.p (.agg (B4 a)),.p (vSl 2 A0 f)] [] (.tup [.vec 0,.vec 1,pN y.2.2]) ([.vec C6 1 y.1.n (fun i=>cI .i64 (y.1.g i)) true,.vec A9 1 y.2.1.n (fun i=>cL 2 A0 (y.2.1.g i)) true]) []:=by
 unfold Dl at h;refine A1 hS Tryz.func205 ?_;refine Aj2 hS trivial h (fun x1 x2 x3 x4=>⟨[(10,pN x4),(9,pN (a.If.n:Int)),(8,.vec 9500),(7,.vec 8500),(2,.reg 3000 0),(1,.p (vSl 2 A0 x1))],[(9500,.vec A9 1 x3.n (fun i=>cL 2 A0 (x3.g i)) false),(8500,.vec C6 1 x2.n (fun i=>cI .i64 (x2.g i)) false),(3000,.cells ((B4 a).map .p))]⟩) (ids:=[(3000,3000)]) (fun _ _ _ _ _ j x1 x2 x3 x4 d h=>?_);refine kI hS h ?_ ?_<;>intro h
 ·refine kC hS h (Nu hS hL) (fun y5 h=>?_);refine kI hS h ?_ ?_<;>intro h
  ·exact d _ [(3000,3000),(8500,8500),(9500,9500)] _ x1 x2 x3 (wrap .i64 (x4-1)) trivial h
  ·refine kC hS h (Jt hS hL) (fun y6 h=>?_);refine kI hS h ?_ ?_<;>intro h
   ·obtain rfl:=B6 h;exact A5 hS trivial ⟨[(6,pN 11),(5,.vec 6701),(4,.vec 5700)],[(6701,.vec A9 1 (Sl.nil:Sl (Sl Sound)).n (fun i=>cL 2 A0 ((Sl.nil:Sl (Sl Sound)).g i)) true),(5700,.vec C6 1 (Sl.nil:Sl Int).n (fun i=>cI .i64 ((Sl.nil:Sl Int).g i)) true)]⟩ [5700,6701] (ids:=[]) ⟨rfl,rfl,rfl⟩
   ·obtain⟨c14,h⟩:=D5 h;refine D3 hS (And.intro (And.intro (And.intro (rfl:true=true) c14.1) (rfl:true=true)) c14.2) (b:=(a.If.n:Int)==0) (fun c15=>?_) (fun c15=>?_)
    ·replace h:=itT c15 h;exact d _ [(3000,3000),(8500,38000),(9500,42000)] _ y6 (x2.push x4) (x3.push y6) (wrap .i64 ((wrap .i64 (x4-(a.If.n:Int)))-1)) trivial h (hle:=klR [(3,.fn (x3.n+1) (x3.push y6).n (R9 x3.n (fun i=>cL 2 A0 (x3.g i)) (D7 [G6] [(0,cL 2 A0 y6)])) (fun i=>cL 2 A0 ((x3.push y6).g i))),(4,.fn (x2.n+1) (x2.push x4).n (R9 x2.n (fun i=>cI .i64 (x2.g i)) (D7 [pI .i64 0] [(0,cI .i64 x4)])) (fun i=>cI .i64 ((x2.push x4).g i)))] (al1 ⟨rfl,Er (c:=cL 2 A0) (v:=x3) (x:=y6) (z:=[G6]) same rfl rfl⟩ (al1 ⟨rfl,Er (c:=cI .i64) (v:=x2) (x:=x4) (z:=[(pI .i64 0)]) same rfl rfl⟩ al0)))
    ·replace h:=itF c15 h;exact d _ [(3000,3000),(8500,38000),(9500,42000)] _ y6 (x2.push x4) (x3.push y6) (wrap .i64 (x4-(a.If.n:Int))) trivial h (hle:=klR [(3,.fn (x3.n+1) (x3.push y6).n (R9 x3.n (fun i=>cL 2 A0 (x3.g i)) (D7 [G6] [(0,cL 2 A0 y6)])) (fun i=>cL 2 A0 ((x3.push y6).g i))),(4,.fn (x2.n+1) (x2.push x4).n (R9 x2.n (fun i=>cI .i64 (x2.g i)) (D7 [pI .i64 0] [(0,cI .i64 x4)])) (fun i=>cI .i64 ((x2.push x4).g i)))] (al1 ⟨rfl,Er (c:=cL 2 A0) (v:=x3) (x:=y6) (z:=[G6]) same rfl rfl⟩ (al1 ⟨rfl,Er (c:=cI .i64) (v:=x2) (x:=x4) (z:=[(pI .i64 0)]) same rfl rfl⟩ al0)))
 ·obtain rfl:=B6 h;exact A5 hS trivial ⟨[(6,pN 0),(5,.vec 9500),(4,.vec 8500)],[(9500,.vec A9 1 x3.n (fun i=>cL 2 A0 (x3.g i)) true),(8500,.vec C6 1 x2.n (fun i=>cI .i64 (x2.g i)) true)]⟩ [8500,9500] (ids:=[(8500,8500),(9500,9500)]) ⟨rfl,rfl,rfl⟩
def DO (N:Nat)(a:Law)(b:Sl Sound):Option ((Sl Int)×(Sl (Sl Sound))×Int):=
 (FG N a b).bind fun y1=>
 if (y1 != 0) then
  some ((Sl.nil:Sl Int),(Sl.nil:Sl (Sl Sound)),y1)
 else
  if (a.Mode==1) then
   (GQ N a b).bind fun y2=>
   some (y2.1,y2.2.1,y2.2.2)
  else
   if (a.Mode==2) then
    (DN N a b).bind fun y3=>
    some (y3.1,y3.2.1,y3.2.2)
   else
    (Dl N a b).bind fun y4=>
    some (y4.1,y4.2.1,y4.2.2)
theorem Ww {N:Nat}{a:Law}{b:Sl Sound}{y:(Sl Int)×(Sl (Sl Sound))×Int}(h:DO N a b=some y) :FunO S MY [.p (.agg (B4 a)),.p (vSl 2 A0 b)] [] (.tup [.vec 0,.vec 1,pN y.2.2]) ([.vec C6 1 y.1.n (fun i=>cI .i64 (y.1.g i)) true,.vec A9 1 y.2.1.n (fun i=>cL 2 A0 (y.2.1.g i)) true]) []:=by
 unfold DO at h;refine A1 hS Tryz.func191 ?_;refine kC hS h (Wu hS hL) (fun y1 h=>?_);refine kI hS h ?_ ?_<;>intro h
 ·obtain rfl:=B6 h;exact A5 hS trivial ⟨[(6,pN y1),(5,.vec 6701),(4,.vec 5700)],[(6701,.vec A9 1 (Sl.nil:Sl (Sl Sound)).n (fun i=>cL 2 A0 ((Sl.nil:Sl (Sl Sound)).g i)) true),(5700,.vec C6 1 (Sl.nil:Sl Int).n (fun i=>cI .i64 ((Sl.nil:Sl Int).g i)) true)]⟩ [5700,6701] (ids:=[]) ⟨rfl,rfl,rfl⟩
 ·refine kI hS h ?_ ?_<;>intro h
  ·refine kC hS h (Al0 hS hL) (fun y2 h=>?_);obtain rfl:=B6 h;exact A5 hS trivial ⟨[(6,pN y2.2.2),(5,.vec 21001),(4,.vec 21000)],[(21001,.vec A9 1 y2.2.1.n (fun i=>cL 2 A0 (y2.2.1.g i)) true),(21000,.vec C6 1 y2.1.n (fun i=>cI .i64 (y2.1.g i)) true)]⟩ [21000,21001] (ids:=[(21000,21000),(21001,21001)]) ⟨rfl,rfl,rfl⟩
  ·refine kI hS h ?_ ?_<;>intro h
   ·refine kC hS h (Wv hS hL) (fun y3 h=>?_);obtain rfl:=B6 h;exact A5 hS trivial ⟨[(6,pN y3.2.2),(5,.vec 29001),(4,.vec 29000)],[(29001,.vec A9 1 y3.2.1.n (fun i=>cL 2 A0 (y3.2.1.g i)) true),(29000,.vec C6 1 y3.1.n (fun i=>cI .i64 (y3.1.g i)) true)]⟩ [29000,29001] (ids:=[(29000,29000),(29001,29001)]) ⟨rfl,rfl,rfl⟩
   ·refine kC hS h (ZX hS hL) (fun y4 h=>?_);obtain rfl:=B6 h;exact A5 hS trivial ⟨[(6,pN y4.2.2),(5,.vec 35001),(4,.vec 35000)],[(35001,.vec A9 1 y4.2.1.n (fun i=>cL 2 A0 (y4.2.1.g i)) true),(35000,.vec C6 1 y4.1.n (fun i=>cI .i64 (y4.1.g i)) true)]⟩ [35000,35001] (ids:=[(35000,35000),(35001,35001)]) ⟨rfl,rfl,rfl⟩
def Cf (N:Nat)(b:Law)(a:Sl Sound):Option ((Sl Sound)×Int):=
 (DO N b a).bind fun y1=>
 if (y1.2.2 != 0) then
  some ((Sl.nil:Sl Sound),y1.2.2)
 else
  if ((y1.2.1.n:Int)==0) then
   if (((Sl.of []:Sl Sound).n+a.n)*8<=140737488355328/\(Sl.of []:Sl Sound).n+a.n<=140737488355328)then
    some ((Sl.of []:Sl Sound).app a,0)
   else none
  else
   if ((((0:Int)<=(wrap .i64 ((y1.2.1.n:Int)-1))/\(wrap .i64 ((y1.2.1.n:Int)-1))<(y1.2.1.n:Int))/\(wrap .i64 ((y1.2.1.n:Int)-1)).toNat<y1.2.1.n)/\(((Sl.of []:Sl Sound).n+(y1.2.1.g (wrap .i64 ((y1.2.1.n:Int)-1)).toNat).n)*8<=140737488355328/\(Sl.of []:Sl Sound).n+(y1.2.1.g (wrap .i64 ((y1.2.1.n:Int)-1)).toNat).n<=140737488355328))then
    some ((Sl.of []:Sl Sound).app (y1.2.1.g (wrap .i64 ((y1.2.1.n:Int)-1)).toNat),0)
   else none
theorem Wx {N:Nat}{b:Law}{a:Sl Sound}{y:(Sl Sound)×Int}(h:Cf N b a=some y) :FunO S MW [.p (.agg (B4 b)),.p (vSl 2 A0 a)] [] (.tup [.vec 0,pN y.2]) ([.vec B5 2 y.1.n (fun i=>A0 (y.1.g i)) true]) []:=by
 unfold Cf at h;refine A1 hS Tryz.func185 ?_;refine kC hS h (Ww hS hL) (fun y1 h=>?_);refine kI hS h ?_ ?_<;>intro h
 ·obtain rfl:=B6 h;exact A5 hS trivial ⟨[(5,pN y1.2.2),(4,.vec 5700)],[(5700,.vec B5 2 (Sl.nil:Sl Sound).n (fun i=>A0 ((Sl.nil:Sl Sound).g i)) true)]⟩ [5700] (ids:=[]) ⟨rfl,rfl,rfl⟩
 ·refine kI hS h ?_ ?_<;>intro h
  ·obtain⟨c3,h⟩:=D5 h;obtain rfl:=B6 h;exact A5 hS (And.intro (rfl:true=true) c3) ⟨[(5,pN 0),(4,.vec 25000)],[(25000,.vec B5 2 ((Sl.of []:Sl Sound).app a).n (fun i=>A0 (((Sl.of []:Sl Sound).app a).g i)) true)]⟩ [25000] (ids:=[(25000,25000)]) ⟨rfl,rfl,rfl⟩ (hle:=klR [(1,.fn (0+a.n) ((Sl.of []:Sl Sound).app a).n (R9 0 (D7 [pI .u32 0,pI .u32 0] []) (fun i=>A0 (a.g i))) (fun i=>A0 (((Sl.of []:Sl Sound).app a).g i)))] (al1 ⟨rfl,XK (c:=A0) (v:=(Sl.of []:Sl Sound)) (w:=a) (fun i d=>absurd d (by omega)) rfl same rfl⟩ al0))
  ·obtain⟨c4,h⟩:=D5 h;obtain rfl:=B6 h;exact A5 hS (And.intro (And.intro (And.intro (rfl:true=true) c4.1.1) c4.1.2) c4.2) ⟨[(5,pN 0),(4,.vec 33000)],[(33000,.vec B5 2 ((Sl.of []:Sl Sound).app (y1.2.1.g (wrap .i64 ((y1.2.1.n:Int)-1)).toNat)).n (fun i=>A0 (((Sl.of []:Sl Sound).app (y1.2.1.g (wrap .i64 ((y1.2.1.n:Int)-1)).toNat)).g i)) true)]⟩ [33000] (ids:=[(33000,33000)]) ⟨rfl,rfl,rfl⟩ (hle:=klR [(1,.fn (0+(y1.2.1.g (wrap .i64 ((y1.2.1.n:Int)-1)).toNat).n) ((Sl.of []:Sl Sound).app (y1.2.1.g (wrap .i64 ((y1.2.1.n:Int)-1)).toNat)).n (R9 0 (D7 [pI .u32 0,pI .u32 0] []) (fun i=>A0 ((y1.2.1.g (wrap .i64 ((y1.2.1.n:Int)-1)).toNat).g i))) (fun i=>A0 (((Sl.of []:Sl Sound).app (y1.2.1.g (wrap .i64 ((y1.2.1.n:Int)-1)).toNat)).g i)))] (al1 ⟨rfl,XK (c:=A0) (v:=(Sl.of []:Sl Sound)) (w:=y1.2.1.g (wrap .i64 ((y1.2.1.n:Int)-1)).toNat) (fun i d=>absurd d (by omega)) rfl same rfl⟩ al0))
def FH (N:Nat)(a:Sl Law)(c:Sl Sound):Option ((Sl (Sl Sound))×Int):=
 (Cd N a).bind fun y1=>
 lt (fun (z1:Int)=>
  if (z1 != 0) then
   some ((Sl.nil:Sl (Sl Sound)),z1)
  else
   (Df N c).bind fun y4=>
   P6 N (fun b (x2:Sl (Sl Sound)) (x3:Int)=>
    if (decide (x3<(a.n:Int))) then
     if ((((0:Int)<=x3/\x3<(a.n:Int))/\((0:Int)<=x3/\x3<(x2.n:Int)))/\x3.toNat<x2.n)then
      (Cf N (a.g x3.toNat) (x2.g x3.toNat)).bind fun y7=>
      if (y7.2 != 0) then
       some ((Sl.nil:Sl (Sl Sound)),y7.2)
      else
       if ((x2.n+(Sl.of [y7.1]:Sl (Sl Sound)).n)*24<=140737488355328/\x2.n+(Sl.of [y7.1]:Sl (Sl Sound)).n<=140737488355328)then
        b (x2.push y7.1) (wrap .i64 (x3+1))
       else none
     else none
    else
     some (x2,0)
    ) (Sl.of [y4]:Sl (Sl Sound)) 0
  ) fun k1=>
  if (y1==0) then
   (X7 N c).bind fun y3=>
   k1 y3
  else
   k1 y1
theorem Wy {N:Nat}{a:Sl Law}{b:Sl Sound}{y:(Sl (Sl Sound))×Int}(h:FH N a b=some y) :FunO S MT [.p (vSl 18 B4 a),.p (vSl 2 A0 b)] [] (.tup [.vec 0,pN y.2]) ([.vec A9 1 y.1.n (fun i=>cL 2 A0 (y.1.g i)) true]) []:=by
 unfold FH at h;refine A1 hS Tryz.func177 ?_;refine kC hS h (Wt hS hL) (fun y1 h=>?_);refine Hu hS trivial (A4 hS) h 0 (fun z1=>⟨[(6,pN z1),(1,.p (vSl 2 A0 b)),(0,.p (vSl 18 B4 a))],[]⟩) (fun M1 k1 d h=>?_) (fun z1 h=>?_)
 ·refine kI hS h ?_ ?_<;>intro h
  ·refine kC hS h (DJ hS hL) (fun y3 h=>?_);exact d _ [] _ y3 trivial h
  ·exact d _ [] _ y1 trivial h
 ·refine kI hS h ?_ ?_<;>intro h
  ·obtain rfl:=B6 h;exact A5 hS trivial ⟨[(5,pN z1),(4,.vec 5700)],[(5700,.vec A9 1 (Sl.nil:Sl (Sl Sound)).n (fun i=>cL 2 A0 ((Sl.nil:Sl (Sl Sound)).g i)) true)]⟩ [5700] (ids:=[]) ⟨rfl,rfl,rfl⟩
  ·refine kC hS h (ZQ hS hL) (fun y4 h=>?_);refine F5 hS (rfl:true=true) h (fun x2 x3=>⟨[(8,pN x3),(7,.vec 8500),(0,.p (vSl 18 B4 a))],[(8500,.vec A9 1 x2.n (fun i=>cL 2 A0 (x2.g i)) false)]⟩) (ids:=[(8500,23000)]) (fun _ _ _ _ _ f x2 x3 j h=>?_) (hle:=klR [(2,.fn 1 (Sl.of [y4]:Sl (Sl Sound)).n (D7 [G6] [(0,cL 2 A0 y4)]) (fun i=>cL 2 A0 ((Sl.of [y4]:Sl (Sl Sound)).g i)))] (al1 ⟨rfl,(fun i l=>match i,l with|0,_=>rfl|_+1,l=>absurd l (by omega))⟩ al0));refine kI hS h ?_ ?_<;>intro h
   ·refine D9 hS trivial [2,3] ?_;obtain⟨c12,h⟩:=D5 h;obtain⟨y7,e7,h⟩:=B8 h;refine Mo [] (And.intro (And.intro (And.intro c12.1.1 (by decide:(18:Nat)<=18)) c12.1.2) c12.2) (Wx hS hL e7) ?_;refine I4 trivial ?_;refine kI hS h ?_ ?_<;>intro h
    ·obtain rfl:=B6 h;exact A5 hS trivial ⟨[(5,pN y7.2),(4,.vec 5700)],[(5700,.vec A9 1 (Sl.nil:Sl (Sl Sound)).n (fun i=>cL 2 A0 ((Sl.nil:Sl (Sl Sound)).g i)) true)]⟩ [5700] (ids:=[]) ⟨rfl,rfl,rfl⟩
    ·obtain⟨c14,h⟩:=D5 h;exact j _ [(8500,48000)] _ (x2.push y7.1) (wrap .i64 (x3+1)) (And.intro (rfl:true=true) c14) h (hle:=klR [(2,.fn (x2.n+1) (x2.push y7.1).n (R9 x2.n (fun i=>cL 2 A0 (x2.g i)) (D7 [G6] [(0,cL 2 A0 y7.1)])) (fun i=>cL 2 A0 ((x2.push y7.1).g i)))] (al1 ⟨rfl,Er (c:=cL 2 A0) (v:=x2) (x:=y7.1) (z:=[G6]) same rfl rfl⟩ al0))
   ·obtain rfl:=B6 h;exact A5 hS trivial ⟨[(5,pN 0),(4,.vec 8500)],[(8500,.vec A9 1 x2.n (fun i=>cL 2 A0 (x2.g i)) true)]⟩ [8500] (ids:=[(8500,8500)]) ⟨rfl,rfl,rfl⟩
def CB (N:Nat)(a:Sl Law)(b:Sl Sound):Option ((Sl Sound)×Int):=
 (FH N a b).bind fun y1=>
 if (y1.2 != 0) then
  some ((Sl.nil:Sl Sound),y1.2)
 else
  if (((0:Int)<=(wrap .i64 ((y1.1.n:Int)-1))/\(wrap .i64 ((y1.1.n:Int)-1))<(y1.1.n:Int))/\(wrap .i64 ((y1.1.n:Int)-1)).toNat<y1.1.n)then
   some (y1.1.g (wrap .i64 ((y1.1.n:Int)-1)).toNat,0)
  else none
theorem Uf {N:Nat}{a:Sl Law}{b:Sl Sound}{y:(Sl Sound)×Int}(h:CB N a b=some y) :FunO S KR [.p (vSl 18 B4 a),.p (vSl 2 A0 b)] [] (.tup [.p (vSl 2 A0 y.1),pN y.2]) ([]) []:=by
 unfold CB at h;refine A1 hS Tryz.func163 ?_;refine kC hS h (Wy hS hL) (fun y1 h=>?_);refine kI hS h ?_ ?_<;>intro h
 ·obtain rfl:=B6 h;exact A5 hS trivial ⟨[(5,pN y1.2),(4,.p (vSl 2 A0 (Sl.nil:Sl Sound)))],[]⟩ [] (ids:=[]) ⟨rfl,rfl,rfl⟩
 ·obtain⟨c2,h⟩:=D5 h;obtain rfl:=B6 h;exact Zm hS c2 [] ⟨rfl,rfl,rfl⟩
end Go.AM
namespace Go.AM
open IntKind (wrap)
open Go.Proofs
set_option maxRecDepth 10000
set_option maxHeartbeats 2000000
variable {S:Az}(hS:H5 S Tryz.prog) (hL:Qd S)
include hS hL
def Q1 (N:Nat)(q0:Int):Option (List (Int)):=
 W6 N (fun a (x1:Int)=>
  if (x1 != 0) then
   (F1 N x1).bind fun y3=>
   if (0:Int)<=y3 then
    Ap y3 (
     a (D2 .andNot .u64 x1 (shI .shl .u64 1 y3))
     )
   else none
  else
   some []
  ) q0
theorem CO {N:Nat}{q0:Int}{L:List (Int)}(h:Q1 N q0=some L) :Fp S AW [] [.reg 0 0] [.cells [.p (pI .u64 q0)]] (L.map (fun (x:Int)=>[pI .i64 x])):=by
 unfold Q1 at h;refine Fu hS Tryz.func236 ?_;refine Gx hS trivial h (fun x1 L1=>⟨[(1,.reg 0 0),(0,.yf 1)],[(1,.yld (L1.map (fun (x:Int)=>[pI .i64 x])) true),(0,.cells [.p (pI .u64 x1)])]⟩) (ids:=[(0,0),(1,1)]) (fun _ _ _ _ _ d x1 L1 f h=>?_);refine kI hS h ?_ ?_<;>intro h
 ·refine kC hS h (X5 hS hL) (fun y3 h=>?_);refine Il hS trivial ?_;obtain⟨c10,h⟩:=D5 h;refine I4 c10 ?_;obtain⟨L4,rfl,c⟩:=Mp h;replace h:=c;refine Dz hS trivial (ys:=(fun (x:Int)=>[pI .i64 x]) y3) (rest:=L4.map (fun (x:Int)=>[pI .i64 x])) ?_ ?_
  ·refine D3 hS trivial (b:=false) (fun c11=>?_) (fun c11=>?_)
   ·exact Bool.noConfusion ((rfl:false=false).symm.trans c11)
   ·exact f _ [(0,0),(1,1)] _ (D2 .andNot .u64 x1 (shI .shl .u64 1 y3)) L4 trivial h
  ·refine D3 hS trivial (b:=true) (fun c12=>?_) (fun c12=>?_)
   ·exact A5 hS trivial (a:=.tup []) (objs:=[(.cells [.p (pI .u64 (D2 .andNot .u64 x1 (shI .shl .u64 1 y3)))]),.yld [] false]) ⟨[],[(1,.yld [] false),(0,.cells [.p (pI .u64 (D2 .andNot .u64 x1 (shI .shl .u64 1 y3)))])]⟩ [0,1] (ids:=[(0,0),(1,1)]) ⟨false,rfl,rfl,_,rfl⟩
   ·exact Bool.noConfusion ((rfl:true=true).symm.trans c12)
 ·obtain rfl:=B6 h;exact A5 hS trivial (a:=.tup []) (objs:=[(.cells [.p (pI .u64 x1)]),.yld [] true]) ⟨[],[(1,.yld [] true),(0,.cells [.p (pI .u64 x1)])]⟩ [0,1] (ids:=[(0,0),(1,1)]) ⟨true,rfl,rfl,_,rfl⟩
def AJ (N:Nat)(a:Int):Option (Int):=
 some a
theorem Ew {N:Nat}{a:Int}{y:Int}(h:AJ N a=some y) :FunO S HU [.p (pI .u64 a)] [] (.clo AW [] [.reg 0 0]) ([.cells [.p (pI .u64 y)]]) []:=by unfold AJ at h;refine A1 hS Tryz.func229 ?_;obtain rfl:=B6 h;exact A5 hS trivial ⟨[(2,.clo AW [] [.reg 2000 0])],[(2000,.cells [.p (pI .u64 a)])]⟩ [2000] (ids:=[(2000,2000)]) ⟨rfl,rfl,rfl⟩
def E4 (N:Nat)(p_x:Nat->Int)(c:Nat->Int):Option (Nat->Int):=
 P6 N (fun a (x3:Nat->Int) (x4:Int)=>
  if (decide (x4<33)) then
   if (((0:Int)<=x4/\x4<33)/\(0+x4.toNat*1)<33)then
    (AJ N (p_x (0+x4.toNat*1))).bind fun y3=>
    (Q1 N y3).bind fun L3=>
    P7 L3 (fun b (x7:Int) (z3:Nat->Int)=>
     if (((((((0:Int)<=x4/\x4<33)/\(0+x4.toNat*1)<33)/\((0:Int)<=x7/\x7<33))/\(0+x7.toNat*1)<33)/\((0:Int)<=x4/\x4<33))/\(0+x4.toNat*1)<33)then
      b (KH z3 (0+x4.toNat*1) (D2 .or .u64 (z3 (0+x4.toNat*1)) (c (0+x7.toNat*1))))
     else none
     ) (fun (z3:Nat->Int)=>
      a z3 (wrap .i64 (x4+1))
     ) x3
   else none
  else
   some x3
  ) (fun _=>0) 0
theorem S3 {N:Nat}{p_x:Nat->Int}{b:Nat->Int}{y:Nat->Int}(h:E4 N p_x b=some y) :FunO S Au [.reg 0 0,.reg 1 0] [.arr 33 (fun i=>pI .u64 (p_x i)),.arr 33 (fun i=>pI .u64 (b i))] (.p (.agg (cA 33 (pI .u64) y))) ([.arr 33 (fun i=>pI .u64 (p_x i)),.arr 33 (fun i=>pI .u64 (b i))]) [true,true]:=by
 unfold E4 at h;refine A1 hS Tryz.func266 ?_;refine F5 hS trivial h (fun x3 x4=>⟨[(10,pN x4),(9,.reg 0 0),(5,.reg 6000 0),(4,.reg 5000 0),(3,.reg 4000 0)],[(6000,.arr 33 (fun i=>pI .u64 (x3 i))),(5000,.arr 33 (fun i=>pI .u64 ((fun _=>0) i))),(4000,.cells [.reg 1 0]),(1,.arr 33 (fun i=>pI .u64 (b i))),(0,.arr 33 (fun i=>pI .u64 (p_x i)))]⟩) (ids:=[(0,0),(1,1),(4000,4000),(5000,5000),(6000,6000)]) (fun _ _ _ _ _ d x3 x4 f h=>?_) (hle:=klR [(1,.fn 33 33 (fun i=>[(fun i=>(List.replicate 33 (pI .u64 0)).getD i default) i]) (fun i=>[pI .u64 ((fun _=>0) i)])),(2,.fn 33 33 (fun i=>[(fun i=>(List.replicate 33 (pI .u64 0)).getD i default) i]) (fun i=>[pI .u64 ((fun _=>0) i)]))] (al1 ⟨rfl,BC (z:=pI .u64 0) rfl⟩ (al1 ⟨rfl,BC (z:=pI .u64 0) rfl⟩ al0)));refine kI hS h ?_ ?_<;>intro h
 ·refine Z7 hS trivial [(2,.l [0]),(3,.l [0]),(4,.a [7000]),(5,.a [7000])] ?_;obtain⟨c12,h⟩:=D5 h;refine I4 c12 ?_;refine G0 hS trivial 16 7000 [pI .i64 x4] ?_;refine kC hS h (Ew hS hL) (fun y3 h=>?_);obtain⟨L3,e6,h⟩:=B8 h;refine Fv hS trivial [18000] [10,9,6,5,4,3] 905 (fun z3=>⟨[(10,pN x4),(9,.reg 0 0),(6,.p (.ptr [pI .i64 x4])),(5,.reg 6000 0),(4,.reg 5000 0),(3,.reg 4000 0)],[(6000,.arr 33 (fun i=>pI .u64 (z3 i))),(5000,.arr 33 (fun i=>pI .u64 ((fun _=>0) i))),(4000,.cells [.reg 1 0]),(1,.arr 33 (fun i=>pI .u64 (b i))),(0,.arr 33 (fun i=>pI .u64 (p_x i)))]⟩) (idl:=[(0,0),(1,1),(4000,4000),(5000,5000),(6000,6000)]) h (CO hS hL e6) (fun _=>by kernel_rfl) (fun _=>by kernel_rfl) (fun _=>by kernel_rfl) (fun _=>by kernel_rfl) (fun x7 _ g z3 j h=>?_) (fun z3 h=>?_)
  ·refine IV hS trivial ?_;refine Z7 hS trivial [(0,.n),(1,.l [6000]),(2,.l [6000]),(3,.l [4000]),(6,.l [1]),(7,.l [1]),(9,.l [6000]),(10,.a [6000])] ?_;obtain⟨c15,h⟩:=D5 h;refine I4 c15 ?_;exact j _ [(0,0),(1,1),(905,905),(4000,4000),(5000,5000),(6000,6000)] _ (KH z3 (0+x4.toNat*1) (D2 .or .u64 (z3 (0+x4.toNat*1)) (b (0+x7.toNat*1)))) trivial h (hle:=klR [(0,.fn 33 33 (fun i=>[(fun i=>if i=(0+x4.toNat*1)then (pI .u64 (D2 .or .u64 (z3 (0+x4.toNat*1)) (b (0+x7.toNat*1))))else (fun i=>pI .u64 (z3 i)) i) i]) (fun i=>[pI .u64 (KH z3 (0+x4.toNat*1) (D2 .or .u64 (z3 (0+x4.toNat*1)) (b (0+x7.toNat*1))) i)]))] (al1 ⟨rfl,AE2 (c:=pI .u64) (v:=z3) (x:=D2 .or .u64 (z3 (0+x4.toNat*1)) (b (0+x7.toNat*1))) (fun _ _=>rfl) rfl⟩ al0))
  ·exact f _ [(0,0),(1,1),(4000,4000),(5000,5000),(6000,6000)] _ z3 (wrap .i64 (x4+1)) trivial h
 ·obtain rfl:=B6 h;exact A5 hS (And.intro rfl (F4 _ _):(0:Nat)=0/\(Bv 33 (fun i=>pI .u64 (x3 i))).length=33) ⟨[(4,.reg 5000 0)],[(5000,.arr 33 (fun i=>pI .u64 (x3 i))),(1,.arr 33 (fun i=>pI .u64 (b i))),(0,.arr 33 (fun i=>pI .u64 (p_x i)))]⟩ [0,1] (ids:=[(0,0),(1,1),(5000,5000)]) ⟨rfl,rfl,rfl⟩ (hle:=klR [(0,.fn 33 33 (fun i=>[(fun i=>(cA 33 (pI .u64) x3).getD i default) i]) (fun i=>[pI .u64 (x3 i)]))] (al1 ⟨rfl,E6 33 (fun i=>pI .u64 (x3 i))⟩ al0))
def I3 (N:Nat)(p_x:Nat->Int):Option (Nat->Int):=
 P6 N (fun a (x3:Nat->Int) (x4:Int)=>
  if (decide (x4<33)) then
   if (((0:Int)<=x4/\x4<33)/\(0+x4.toNat*1)<33)then
    (AJ N (p_x (0+x4.toNat*1))).bind fun y3=>
    (Q1 N y3).bind fun L3=>
    P7 L3 (fun b (x7:Int) (z3:Nat->Int)=>
     if (((((((0:Int)<=x4/\x4<33)/\(0+x4.toNat*1)<33)/\((0:Int)<=x7/\x7<33))/\(0+x7.toNat*1)<33)/\((0:Int)<=x4/\x4<33))/\(0+x4.toNat*1)<33)then
      b (KH z3 (0+x4.toNat*1) (D2 .or .u64 (z3 (0+x4.toNat*1)) (p_x (0+x7.toNat*1))))
     else none
     ) (fun (z3:Nat->Int)=>
      a z3 (wrap .i64 (x4+1))
     ) x3
   else none
  else
   some x3
  ) (fun _=>0) 0
theorem CC {N:Nat}{p_x:Nat->Int}{y:Nat->Int}(h:I3 N p_x=some y) :FunO S Au [.reg 0 0,.reg 0 0] [.arr 33 (fun i=>pI .u64 (p_x i))] (.p (.agg (cA 33 (pI .u64) y))) ([.arr 33 (fun i=>pI .u64 (p_x i))]) [true]:=by
 unfold I3 at h;refine A1 hS Tryz.func266 ?_;refine F5 hS trivial h (fun x3 x4=>⟨[(10,pN x4),(9,.reg 0 0),(5,.reg 6000 0),(4,.reg 5000 0),(3,.reg 4000 0)],[(6000,.arr 33 (fun i=>pI .u64 (x3 i))),(5000,.arr 33 (fun i=>pI .u64 ((fun _=>0) i))),(4000,.cells [.reg 0 0]),(0,.arr 33 (fun i=>pI .u64 (p_x i)))]⟩) (ids:=[(0,0),(4000,4000),(5000,5000),(6000,6000)]) (fun _ _ _ _ _ b x3 x4 d h=>?_) (hle:=klR [(1,.fn 33 33 (fun i=>[(fun i=>(List.replicate 33 (pI .u64 0)).getD i default) i]) (fun i=>[pI .u64 ((fun _=>0) i)])),(2,.fn 33 33 (fun i=>[(fun i=>(List.replicate 33 (pI .u64 0)).getD i default) i]) (fun i=>[pI .u64 ((fun _=>0) i)]))] (al1 ⟨rfl,BC (z:=pI .u64 0) rfl⟩ (al1 ⟨rfl,BC (z:=pI .u64 0) rfl⟩ al0)));refine kI hS h ?_ ?_<;>intro h
 ·refine Z7 hS trivial [(2,.l [0]),(3,.l [0]),(4,.a [7000]),(5,.a [7000])] ?_;obtain⟨c12,h⟩:=D5 h;refine I4 c12 ?_;refine G0 hS trivial 16 7000 [pI .i64 x4] ?_;refine kC hS h (Ew hS hL) (fun y3 h=>?_);obtain⟨L3,e6,h⟩:=B8 h;refine Fv hS trivial [18000] [10,9,6,5,4,3] 905 (fun z3=>⟨[(10,pN x4),(9,.reg 0 0),(6,.p (.ptr [pI .i64 x4])),(5,.reg 6000 0),(4,.reg 5000 0),(3,.reg 4000 0)],[(6000,.arr 33 (fun i=>pI .u64 (z3 i))),(5000,.arr 33 (fun i=>pI .u64 ((fun _=>0) i))),(4000,.cells [.reg 0 0]),(0,.arr 33 (fun i=>pI .u64 (p_x i)))]⟩) (idl:=[(0,0),(4000,4000),(5000,5000),(6000,6000)]) h (CO hS hL e6) (fun _=>by kernel_rfl) (fun _=>by kernel_rfl) (fun _=>by kernel_rfl) (fun _=>by kernel_rfl) (fun x7 _ f z3 g h=>?_) (fun z3 h=>?_)
  ·refine IV hS trivial ?_;refine Z7 hS trivial [(0,.n),(1,.l [6000]),(2,.l [6000]),(3,.l [4000]),(6,.l [0]),(7,.l [0]),(9,.l [6000]),(10,.a [6000])] ?_;obtain⟨c15,h⟩:=D5 h;refine I4 c15 ?_;exact g _ [(0,0),(905,905),(4000,4000),(5000,5000),(6000,6000)] _ (KH z3 (0+x4.toNat*1) (D2 .or .u64 (z3 (0+x4.toNat*1)) (p_x (0+x7.toNat*1)))) trivial h (hle:=klR [(0,.fn 33 33 (fun i=>[(fun i=>if i=(0+x4.toNat*1)then (pI .u64 (D2 .or .u64 (z3 (0+x4.toNat*1)) (p_x (0+x7.toNat*1))))else (fun i=>pI .u64 (z3 i)) i) i]) (fun i=>[pI .u64 (KH z3 (0+x4.toNat*1) (D2 .or .u64 (z3 (0+x4.toNat*1)) (p_x (0+x7.toNat*1))) i)]))] (al1 ⟨rfl,AE2 (c:=pI .u64) (v:=z3) (x:=D2 .or .u64 (z3 (0+x4.toNat*1)) (p_x (0+x7.toNat*1))) (fun _ _=>rfl) rfl⟩ al0))
  ·exact d _ [(0,0),(4000,4000),(5000,5000),(6000,6000)] _ z3 (wrap .i64 (x4+1)) trivial h
 ·obtain rfl:=B6 h;exact A5 hS (And.intro rfl (F4 _ _):(0:Nat)=0/\(Bv 33 (fun i=>pI .u64 (x3 i))).length=33) ⟨[(4,.reg 5000 0)],[(5000,.arr 33 (fun i=>pI .u64 (x3 i))),(0,.arr 33 (fun i=>pI .u64 (p_x i)))]⟩ [0] (ids:=[(0,0),(5000,5000)]) ⟨rfl,rfl,rfl⟩ (hle:=klR [(0,.fn 33 33 (fun i=>[(fun i=>(cA 33 (pI .u64) x3).getD i default) i]) (fun i=>[pI .u64 (x3 i)]))] (al1 ⟨rfl,E6 33 (fun i=>pI .u64 (x3 i))⟩ al0))
def F2 (N:Nat)(p_x:Nat->Int)(b:Int)(c:Int):Option (Nat->Int):=
 (P2 N c).bind fun y1=>
 Ai6 N (fun a (x1:Int) (x2:Nat->Int) (x3:Nat->Int)=>
  if (decide (0<x1)) then
   if ((D2 .and .i64 x1 1)==1) then
    (E4 N x3 x2).bind fun y8=>
    (I3 N x2).bind fun y9=>
    a (shI .shr .i64 x1 1) y9 y8
   else
    (I3 N x2).bind fun d=>
    a (shI .shr .i64 x1 1) d x3
  else
   some x3
  ) b p_x y1
theorem Y3 {N:Nat}{p_x:Nat->Int}{b:Int}{c:Int}{y:Nat->Int}(h:F2 N p_x b c=some y) :FunO S Cx [.p (.agg (cA 33 (pI .u64) p_x)),pN b,pN c] [] (.p (.agg (cA 33 (pI .u64) y))) ([]) []:=by
 unfold F2 at h;refine A1 hS Tryz.func259 ?_;refine kC hS h (DK hS hL) (fun y1 h=>?_);refine IU hS (And.intro rfl (F4 _ _):(0:Nat)=0/\(Bv 33 (fun i=>pI .u64 (y1 i))).length=33) h (fun x1 x2 x3=>⟨[(7,.reg 8000 0),(6,.reg 7000 0),(3,.reg 4000 0),(1,pN x1)],[(8000,.arr 33 (fun i=>pI .u64 (x3 i))),(7000,.arr 33 (fun i=>pI .u64 ((fun _=>0) i))),(4000,.arr 33 (fun i=>pI .u64 (x2 i)))]⟩) (ids:=[(4000,4000),(7000,7000),(8000,8000)]) (fun _ _ _ _ _ f x1 x2 x3 d h=>?_) (hle:=klR [(1,.fn 33 33 (fun i=>[(fun i=>(cA 33 (pI .u64) y1).getD i default) i]) (fun i=>[pI .u64 (y1 i)])),(2,.fn 33 33 (fun i=>[(fun i=>(List.replicate 33 (pI .u64 0)).getD i default) i]) (fun i=>[pI .u64 ((fun _=>0) i)])),(3,.fn 33 33 (fun i=>[(fun i=>(cA 33 (pI .u64) p_x).getD i default) i]) (fun i=>[pI .u64 (p_x i)]))] (al1 ⟨rfl,E6 33 (fun i=>pI .u64 (y1 i))⟩ (al1 ⟨rfl,BC (z:=pI .u64 0) rfl⟩ (al1 ⟨rfl,E6 33 (fun i=>pI .u64 (p_x i))⟩ al0))));refine kI hS h ?_ ?_<;>intro h
 ·refine kI hS h ?_ ?_<;>intro h
  ·obtain⟨y8,e8,h⟩:=B8 h;refine B9 hS [8000,4000] trivial (S3 hS hL e8) ?_;obtain⟨y9,e9,h⟩:=B8 h;refine B9 hS [4000] (And.intro rfl (F4 _ _):(0:Nat)=0/\(Bv 33 (fun i=>pI .u64 (y8 i))).length=33) (CC hS hL e9) ?_;exact d _ [(4000,4000),(7000,7000),(8000,8000)] _ (shI .shr .i64 x1 1) y9 y8 (And.intro (And.intro rfl (F4 _ _):(0:Nat)=0/\(Bv 33 (fun i=>pI .u64 (y9 i))).length=33) (by decide:(0:Int)<=1)) h (hle:=klR [(1,.fn 33 33 (fun i=>[(fun i=>(cA 33 (pI .u64) y8).getD i default) i]) (fun i=>[pI .u64 (y8 i)])),(3,.fn 33 33 (fun i=>[(fun i=>(cA 33 (pI .u64) y9).getD i default) i]) (fun i=>[pI .u64 (y9 i)]))] (al1 ⟨rfl,E6 33 (fun i=>pI .u64 (y8 i))⟩ (al1 ⟨rfl,E6 33 (fun i=>pI .u64 (y9 i))⟩ al0)))
  ·obtain⟨a,e10,h⟩:=B8 h;refine B9 hS [4000] trivial (CC hS hL e10) ?_;exact d _ [(4000,4000),(7000,7000),(8000,8000)] _ (shI .shr .i64 x1 1) a x3 (And.intro (And.intro rfl (F4 _ _):(0:Nat)=0/\(Bv 33 (fun i=>pI .u64 (a i))).length=33) (by decide:(0:Int)<=1)) h (hle:=klR [(3,.fn 33 33 (fun i=>[(fun i=>(cA 33 (pI .u64) a).getD i default) i]) (fun i=>[pI .u64 (a i)]))] (al1 ⟨rfl,E6 33 (fun i=>pI .u64 (a i))⟩ al0))
 ·obtain rfl:=B6 h;exact A5 hS (And.intro rfl (F4 _ _):(0:Nat)=0/\(Bv 33 (fun i=>pI .u64 (x3 i))).length=33) ⟨[(6,.reg 7000 0)],[(7000,.arr 33 (fun i=>pI .u64 (x3 i)))]⟩ [] (ids:=[(7000,7000)]) ⟨rfl,rfl,rfl⟩ (hle:=klR [(0,.fn 33 33 (fun i=>[(fun i=>(cA 33 (pI .u64) x3).getD i default) i]) (fun i=>[pI .u64 (x3 i)]))] (al1 ⟨rfl,E6 33 (fun i=>pI .u64 (x3 i))⟩ al0))
end Go.AM
