/- What a law's walk and its plain proof need, part 5: no condition of its own. -/
import Derived.Test.YtodhnkfgkgkngaaGreatDoorGD
import Derived.Test.YtodhnkfgkgkngaaGreatDoorGC
import Derived.RecoverIn
import Derived.Test.YtodhnkfgkgkngaaGreatDoorProg
import Derived.Lib.SlTrimSet
import Derived.TacticsInMore
set_option linter.defProp false
set_option linter.unusedSimpArgs false
set_option linter.unusedVariables false
set_option linter.unusedSectionVars false
namespace Go.AM
noncomputable abbrev AP0:=Go.Proofs.Tryz.prog.funcs
def AQ9:=@BitVec.getLsbD_and
def AS5:=@Bool.eq_iff_iff
def AU5:=@BitVec.eq_of_getLsbD_eq
def Bd3:=@BitVec.getLsbD_ushiftRight
def Bd4:=@BitVec.getLsbD_one
def Be0:=@BitVec.getLsbD_shiftLeft
def Be3:=@BitVec.getLsbD_setWidth
def Bf5:=@BitVec.getLsbD_ofBool
def Bh1:=@BitVec.toNat_ofNat
def Aa4 (D:List Deferred)(a:Act):Act:={ a with defers:=a.defers++D }
theorem EA (D:List Deferred)(a:Act)(d:Option Tmp)(v:Value):(Aa4 D a).put d v=Aa4 D (a.put d v):=by cases d<;>rfl
theorem HR {F:Fence}{n:Nat}{P:Program}{ops:Array Oper}{Q:Exit->Act->World->Prop}(D:List Deferred):∀(l:List Nat) (a:Act) (w:World),wpOpsIn F n P ops Q l a w ->
 wpOpsIn F n P ops (fun e a' w'=>∃a0,a' = Aa4 D a0/\Q e a0 w') l (Aa4 D a) w
 |[],a,w,h=>⟨a,rfl,h⟩
 |i::l,a,w,h=>by
  have ih:=HR (F:=F) (n:=n) (P:=P) (ops:=ops) (Q:=Q) D l;simp only[wpOpsIn]at h⊢;have e1:(Aa4 D a).eval=a.eval:=by funext x;cases x<;>rfl
  have e2:(Aa4 D a).tmps=a.tmps:=rfl;cases j:ops[i]? with
  |none=>simp only[j]at h⊢;exact ih a w h
  |some o=>
   simp only[j]at h⊢;rw[e2,e1];by_cases hw:Region.wanted o (yielded ops a.tmps)=true
   ·rw[if_pos hw]at h⊢;refine⟨by rw[e1];exact h.1,?_⟩;have b:=h.2;rw[e1];generalize (o.semAt F.round a.eval).run P w=r at b;unfold Oper.uponIn at b⊢;split at b
    ·rw[EA];exact ih _ _ b
    ·rw[EA];exact ih _ _ b
    ·exact ih _ _ b |> fun x=>by
      rename_i d w'
      have:({ (Aa4 D a)with defers:=d::(Aa4 D a).defers }:Act).put o.dst undef=Aa4 D (({ a with defers:=d::a.defers }:Act).put o.dst undef):=by rw[<- EA];rfl
      rw[this];exact x
    ·refine⟨b.1,b.2.mono ?_⟩;intro e w' f;cases e with
     |returned v=>have:=ih _ _ f;rw[<- EA]at this;exact this
     |panicked ch=>exact⟨a,rfl,f⟩
     |outgrown=>obtain⟨a1,w1,g⟩:=f;exact⟨Aa4 D a1,w1,a1,rfl,g⟩
    ·refine⟨b.1,fun c cs m=>?_⟩;obtain⟨v,w',g1,g2⟩:=b.2 c cs m;exact⟨v,w',by have:=ih _ _ g1;rw[<- EA]at this;exact this,g2⟩
    ·refine⟨b.1,b.2.mono ?_⟩;intro e w' f;cases e with
     |returned v=>have:=ih _ _ f;rw[<- EA]at this;exact this
     |panicked ch=>exact⟨a,rfl,f⟩
     |outgrown=>obtain⟨a1,w1,g⟩:=f;exact⟨Aa4 D a1,w1,a1,rfl,g⟩
    ·exact⟨a,rfl,b⟩
    ·exact b.elim
   ·rw[if_neg hw]at h⊢;rw[EA];exact⟨h.1,ih _ _ h.2⟩
section
variable {P:Program}{C:Ctx}{st:St}{rho:Nat->Value}
theorem EB {fn:Func}{R:Ending->World->Prop}{u:FrameMode}(c:u ≠ .run){tmps:Array Value}{D:List Deferred}(b:∀a w,Sat C st a w rho->a.tmps=tmps->LeavesInM Fence.wide 0 P fn tmps R D u w) :∀(ds:List Deferred) (a:Act) (w:World),a.defers=ds->a.tmps=tmps->Sat C st a w rho->LeavesInM Fence.wide 0 P fn tmps R (ds++D) u w
 |[],a,w,hd,ht,h=>b a w h ht
 |d::ds,a,w,hd,ht,h=>by obtain⟨r,w',h1,f,g⟩:=h.unmark hd;exact⟨c,.inl ⟨r,w',h1,f,EB c b ds { a with defers:=ds } w' rfl ht g⟩⟩
end
end Go.AM
namespace Go.AM
structure G7 where
 Parent:Int
 Name:Str
 deriving Inhabited,DecidableEq
abbrev D2 (x:G7):List PV:=[(pI .i64 x.Parent),.str x.Name]
structure Sound where
 Plus:Int
 Minus:Int
 deriving Inhabited,DecidableEq
abbrev A0 (x:Sound):List PV:=[(pI .u32 x.Plus),pI .u32 x.Minus]
inductive Pat where
 |nil
 |mk (Kind:Int) (Is:Sound) (Not:Bool) (Min:Int) (Max:Int) (n:Nat) (g:Nat->Pat)
instance:Inhabited Pat:=⟨.nil⟩
def Pat.Kind:Pat->Int
 |.nil=>0
 |.mk x _ _ _ _ _ _=>x
def Pat.Is:Pat->Sound
 |.nil=>default
 |.mk _ x _ _ _ _ _=>x
def Pat.Not:Pat->Bool
 |.nil=>false
 |.mk _ _ x _ _ _ _=>x
def Pat.Min:Pat->Int
 |.nil=>0
 |.mk _ _ _ x _ _ _=>x
def Pat.Max:Pat->Int
 |.nil=>0
 |.mk _ _ _ _ x _ _=>x
def Pat.L:Pat->Sl Pat
 |.nil=>⟨0,fun _=>.nil⟩
 |.mk _ _ _ _ _ n g=>⟨n,g⟩
def AQ:Pat->Nat->List PV
 |.nil=>fun _=>[]
 |.mk _ _ _ _ _ n g=>fun i=>[(pI .i64 (g i).Kind),pI .u32 (g i).Is.Plus,pI .u32 (g i).Is.Minus,.bb (g i).Not,pI .i64 (g i).Min,pI .i64 (g i).Max,.sl false 7 (g i).L.n (AQ (g i))]
abbrev B3 (x:Pat):List PV:=[(pI .i64 x.Kind),pI .u32 x.Is.Plus,pI .u32 x.Is.Minus,.bb x.Not,pI .i64 x.Min,pI .i64 x.Max,.sl false 7 x.L.n (AQ x)]
theorem K7 (x:Pat):∀i,i<x.L.n->AQ x i=B3 (x.L.g i):=by
 cases x with
 |nil=>intro i a;exact absurd (show i<0 from a) (by omega)
 |mk Kind Is Not Min Max n g=>exact fun _ _=>rfl
structure Bn where
 From:Int
 Clear:Int
 Set:Sound
 Take:Int
 Of:Int
 deriving Inhabited,DecidableEq
abbrev O5 (x:Bn):List PV:=[(pI .i64 x.From),pI .u32 x.Clear,pI .u32 x.Set.Plus,pI .u32 x.Set.Minus,pI .u32 x.Take,pI .i64 x.Of]
structure Law where
 Name:Str
 Left:Pat
 Right:Pat
 If:(Sl Sound)
 Out:(Sl Bn)
 Mode:Int
 deriving Inhabited
abbrev B2 (x:Law):List PV:=[(.str x.Name),pI .i64 x.Left.Kind,pI .u32 x.Left.Is.Plus,pI .u32 x.Left.Is.Minus,.bb x.Left.Not,pI .i64 x.Left.Min,pI .i64 x.Left.Max,.sl false 7 x.Left.L.n (AQ x.Left),pI .i64 x.Right.Kind,pI .u32 x.Right.Is.Plus,pI .u32 x.Right.Is.Minus,.bb x.Right.Not,pI .i64 x.Right.Min,pI .i64 x.Right.Max,.sl false 7 x.Right.L.n (AQ x.Right),vSl 2 A0 x.If,vSl 6 O5 x.Out,pI .i64 x.Mode]
structure A8 where
 Tree:(Sl G7)
 Laws:(Sl Law)
 On:(Sl (Sl Int))
 deriving Inhabited
abbrev A2 (x:A8):List PV:=[(vSl 2 D2 x.Tree),vSl 18 B2 x.Laws,vSl 1 (cL 1 (cI .i64)) x.On]
structure S0 where
 w:(Sl Sound)
 e:Int
 deriving Inhabited
abbrev J2 (x:S0):List PV:=[(vSl 2 A0 x.w),pI .i64 x.e]
inductive Part where
 |nil
 |sound (x:Sound) (no:Bool)
 |edge (e:Bool)
 |seq (n:Nat) (g:Nat->Part)
 |alt (n:Nat) (g:Nat->Part)
 |rep (o:Part) (mn mx:Int)
instance:Inhabited Part:=⟨.nil⟩
def Part.t:Part->Nat
 |.nil=>0
 |.sound _ _=>221
 |.edge _=>223
 |.seq _ _=>228
 |.alt _ _=>225
 |.rep _ _ _=>227
def Part.v:Part->PV
 |.nil=>.bb false
 |.sound x no=>.agg [pI .u32 x.Plus,pI .u32 x.Minus,.bb no]
 |.edge e=>.agg [.bb e]
 |.seq n g=>.agg [.sl false 1 n fun i=>[.iface (g i).t (g i).v]]
 |.alt n g=>.agg [.sl false 1 n fun i=>[.iface (g i).t (g i).v]]
 |.rep o mn mx=>.agg [.iface o.t o.v,pI .i64 mn,pI .i64 mx]
abbrev FA (x:Part):PV:=.iface x.t x.v
abbrev DY (x:Part):List PV:=[FA x]
structure Aa5 where
 is:Sound
 not:Bool
 deriving Inhabited,DecidableEq
abbrev WA (x:Aa5):List PV:=[(pI .u32 x.is.Plus),pI .u32 x.is.Minus,.bb x.not]
structure AB8 where
 end_:Bool
 deriving Inhabited,DecidableEq
abbrev AB9 (x:AB8):List PV:=[(.bb x.end_)]
structure Palt where
 l:(Sl Part)
 deriving Inhabited
abbrev AL9 (x:Palt):List PV:=[(vSl 1 DY x.l)]
structure AM0 where
 of:Part
 min:Int
 max:Int
 deriving Inhabited
abbrev AM1 (x:AM0):List PV:=[(FA x.of),pI .i64 x.min,pI .i64 x.max]
structure Pseq where
 l:(Sl Part)
 deriving Inhabited
abbrev AM2 (x:Pseq):List PV:=[(vSl 1 DY x.l)]
end Go.AM
namespace Go.AM
open Go.Proofs
abbrev Bo:Nat:=4
abbrev Lk:Nat:=12
abbrev Ll:Nat:=13
abbrev JA:Nat:=14
abbrev FB:Nat:=16
abbrev Fe:Nat:=18
abbrev Ln:Nat:=20
abbrev Lo:Nat:=21
abbrev Oh:Nat:=22
abbrev GG:Nat:=23
abbrev Oi:Nat:=24
abbrev GH:Nat:=27
abbrev FC:Nat:=30
abbrev HS:Nat:=31
abbrev FD:Nat:=32
abbrev GI:Nat:=33
abbrev Lr:Nat:=34
abbrev Aa6:Nat:=35
abbrev Aa7:Nat:=36
abbrev HT:Nat:=47
abbrev FE:Nat:=48
abbrev Aa8:Nat:=49
abbrev Oj:Nat:=50
abbrev Ok:Nat:=52
abbrev Lt:Nat:=54
abbrev Ol:Nat:=56
abbrev Om:Nat:=57
abbrev FF:Nat:=58
abbrev GJ:Nat:=59
abbrev HU:Nat:=60
abbrev GK:Nat:=61
abbrev Oo:Nat:=63
abbrev WB:Nat:=64
abbrev HV:Nat:=65
abbrev G8:Nat:=66
abbrev JB:Nat:=68
abbrev JC:Nat:=69
abbrev JD:Nat:=70
abbrev Lw:Nat:=71
abbrev O0:Nat:=72
abbrev Ff:Nat:=73
abbrev Ai:Nat:=74
abbrev Lx:Nat:=76
abbrev JE:Nat:=78
abbrev FG:Nat:=79
abbrev HW:Nat:=80
abbrev GL:Nat:=81
abbrev Fg:Nat:=82
abbrev V2:Nat:=83
abbrev Gm:Nat:=84
abbrev Lz:Nat:=85
abbrev LA:Nat:=86
abbrev Cl:Nat:=88
abbrev EC:Nat:=89
abbrev AZ:Nat:=90
abbrev JF:Nat:=91
abbrev GM:Nat:=92
abbrev JG:Nat:=93
abbrev M0:Nat:=94
abbrev LC:Nat:=95
abbrev Y3:Nat:=96
abbrev P4:Nat:=97
abbrev HX:Nat:=98
abbrev Oq:Nat:=99
abbrev HY:Nat:=100
abbrev HZ:Nat:=101
abbrev LD:Nat:=102
abbrev JH:Nat:=103
abbrev I8:Nat:=104
abbrev J6:Nat:=105
abbrev JI:Nat:=106
abbrev FH:Nat:=107
abbrev GN:Nat:=108
abbrev J0:Nat:=109
abbrev S1:Nat:=110
abbrev I0:Nat:=111
abbrev Aj:Nat:=112
abbrev Or:Nat:=113
abbrev Ot:Nat:=114
abbrev LG:Nat:=115
abbrev LH:Nat:=116
abbrev Ou:Nat:=117
abbrev LI:Nat:=119
abbrev Dw:Nat:=120
abbrev GO:Nat:=121
abbrev N5:Nat:=122
abbrev J3:Nat:=123
abbrev M8:Nat:=124
abbrev Ia:Nat:=125
abbrev J7:Nat:=126
abbrev Fi:Nat:=127
abbrev GP:Nat:=128
abbrev JJ:Nat:=129
abbrev Gn:Nat:=130
abbrev LJ:Nat:=131
abbrev Ov:Nat:=132
abbrev LK:Nat:=133
abbrev JK:Nat:=141
abbrev E4:Nat:=142
abbrev N0:Nat:=143
abbrev O8:Nat:=144
abbrev LL:Nat:=145
abbrev Ow:Nat:=146
abbrev LM:Nat:=147
abbrev LN:Nat:=152
abbrev LO:Nat:=153
abbrev So:Nat:=154
abbrev LP:Nat:=155
abbrev Ox:Nat:=156
abbrev LQ:Nat:=160
abbrev Sp:Nat:=161
abbrev Sq:Nat:=162
abbrev Sr:Nat:=163
abbrev Ib:Nat:=164
abbrev ED:Nat:=169
abbrev Oy:Nat:=170
abbrev K8:Nat:=171
abbrev Ss:Nat:=172
abbrev Su:Nat:=173
abbrev Ic:Nat:=174
abbrev FJ:Nat:=175
abbrev JL:Nat:=176
abbrev Oz:Nat:=177
abbrev JM:Nat:=178
abbrev OA:Nat:=179
abbrev Dh:Nat:=181
abbrev JN:Nat:=182
abbrev DZ:Nat:=183
abbrev H4:Nat:=184
abbrev GQ:Nat:=185
abbrev JO:Nat:=186
abbrev SA:Nat:=187
abbrev OB:Nat:=188
abbrev EE:Nat:=189
abbrev SB:Nat:=190
abbrev U1:Nat:=192
abbrev Id:Nat:=193
abbrev LT:Nat:=194
abbrev LU:Nat:=195
abbrev LW:Nat:=196
abbrev Ie:Nat:=197
abbrev FK:Nat:=198
abbrev OC:Nat:=199
abbrev JP:Nat:=200
abbrev OD:Nat:=201
abbrev LY:Nat:=202
abbrev Ig:Nat:=203
abbrev Ih:Nat:=204
abbrev Ce:Nat:=205
abbrev GR:Nat:=206
abbrev FL:Nat:=207
abbrev BJ:Nat:=208
abbrev T8:Nat:=209
abbrev Az:Nat:=210
abbrev O1:Nat:=211
abbrev BM:Nat:=227
abbrev CL:Nat:=228
abbrev Dx:Nat:=229
abbrev EF:Nat:=230
abbrev Di:Nat:=231
abbrev EG:Nat:=232
abbrev FN:Nat:=233
abbrev Aa:Nat:=234
abbrev EH:Nat:=235
abbrev B6:Nat:=3
abbrev Au8:Nat:=4
abbrev EI:Nat:=9
abbrev Ql:Nat:=26
abbrev A4:Nat:=27
abbrev O9:Nat:=48
abbrev B0:Nat:=51
abbrev Ea:Nat:=54
abbrev W3:Nat:=57
abbrev Gp:Nat:=58
abbrev F5:Nat:=96
abbrev Ab7:Nat:=114
abbrev E6:Nat:=198
abbrev UP:Nat:=214
end Go.AM
namespace Go.AM
open IntKind (wrap)
abbrev U (x:BitVec 64):Int:=(x.toNat:Int)
theorem Ij {n:Nat}(h:n<2 ^ 64):IntKind.u64.wrap (n:Int)=n:=by have h1:((n:Int) % (2 ^ 64:Int))=n:=AZ8 (by omega) (by omega);unfold wrap;simp only[IntKind.bits,IntKind.signed,h1,AZ0,AQ0,if_false]
theorem UQ (x:BitVec 64):BitVec.ofInt 64 (U x)=x:=by
 apply AT1;rw[Bg8]
 have:=x.isLt
 show ((x.toNat:Int) % ((2 ^ 64:Nat):Int)).toNat=x.toNat;omega
theorem and64 (x y:BitVec 64):E5 .and .u64 (U x) (U y)=U (x &&& y):=by simp only[E5,IntKind.bits,UQ];exact Ij (x &&& y).isLt
theorem AO8 (x y:BitVec 64):E5 .or .u64 (U x) (U y)=U (x ||| y):=by simp only[E5,IntKind.bits,UQ];exact Ij (x ||| y).isLt
theorem Ao3 (x y:BitVec 64):E5 .andNot .u64 (U x) (U y)=U (x &&& ~~~ y):=by simp only[E5,IntKind.bits,UQ];exact Ij (x &&& ~~~ y).isLt
theorem shr64 (x:BitVec 64)(n:Nat):shI .shr .u64 (U x) n=U (x >>> n):=by
 simp only[shI,IntKind.bits,AP2];have hx:=x.isLt;show Int.fdiv (x.toNat:Int) (2 ^ min n 64)=((x >>> n).toNat:Int);rw[Ba8,Ba3];have e:((2:Int) ^ (min n 64))=((2 ^ (min n 64):Nat):Int):=by norm_cast
 rw[e,Bd2 _ (Bg9 _),<- Int.natCast_ediv];congr 1;by_cases h:n<=64
 ·rw[AW4 h]
 ·rw[Bc1 (by omega),AX1 hx,AX1];exact AR4 hx (AY2 (by omega) (by omega))
theorem AM3:(1:Int)=U 1#64:=rfl
theorem SF (n:Nat)(h:n<64):shI .shl .u64 1 n=U (1#64 <<< n):=by
 simp only[shI,IntKind.bits,AP2];rw[AW4 (by omega)];show wrap .u64 (1*2 ^ n)=((1#64 <<< n).toNat:Int);rw[Be9,Nat.shiftLeft_eq];have h1:(2:Nat) ^ n<2 ^ 64:=Nat.pow_lt_pow_right (by omega) h;have e:((1:Int)*2 ^ n)=((2 ^ n:Nat):Int):=by norm_cast;omega
 rw[e,Ij h1]
 norm_cast
 rw[AX7]
 ·simp
 ·simpa using h1
theorem UR {i:Nat}:(1#64).getLsbD i=decide (i=0):=by rw[Bd4];simp
theorem FO {n i:Nat}(h:n<64)(a:i<64):(1#64 <<< n).getLsbD i=decide (i=n):=by rw[Be0,UR,AS5];simp only[AP7,AS1,decide_eq_true_eq,decide_eq_false_iff_not];omega
theorem bit64 (x:BitVec 64)(i:Nat):(E5 .and .u64 (shI .shr .u64 (U x) (i:Int)) 1==1)=x.getLsbD i:=by
 rw[shr64,AM3,and64];have h:(x >>> i &&& 1#64)=(BitVec.ofBool (x.getLsbD i)).setWidth 64:=by
  apply AU5;intro j b;simp only[AQ9,Bd3,Be3,Bf5];by_cases a:j=0
  ·subst a;simp
  ·have:(1#64).getLsbD j=false:=by rw[UR];simp[a]
   simp[this,a]
 rw[h];cases x.getLsbD i<;>rfl
theorem Ao4 {x y:BitVec 64}(h:∀b,b<64->(x.getLsbD b=true↔y.getLsbD b=true)):x=y:=
 AU5 fun b hb=>AS5.2 (h b hb)
def GS (n:Nat)(R:Nat->Nat->Prop):Nat->Nat->Nat->Prop
 |0=>fun a b=>a=b
 |k+1=>fun a b=>∃c,c<=n/\GS n R k a c/\R c b
def Yl (n:Nat)(Q:Nat->Nat->Nat->Prop):Nat->Nat->Nat->Prop
 |0=>fun a b=>a=b
 |i+1=>fun a b=>∃c,c<=n/\Yl n Q i a c/\Q i c b
def Fwd (n:Nat)(R:Nat->Nat->Prop):Prop:=∀a b,a<=n->R a b->a<=b/\b<=n
theorem Ik {n:Nat}{R:Nat->Nat->Prop}(h:Fwd n R):∀k,Fwd n (GS n R k)
 |0,a,b,ha,hb=>by obtain rfl:a=b:=hb;exact⟨AP8 _,ha⟩
 |k+1,a,b,ha,⟨c,hc,h1,h2⟩=>by have g1:=Ik h k a c ha h1;have g2:=h c b hc h2;exact⟨by omega,g2.2⟩
theorem WC {n:Nat}{Q:Nat->Nat->Nat->Prop}:∀k,(∀i,i<k->Fwd n (Q i))->Fwd n (Yl n Q k)
 |0,_,a,b,ha,hb=>by obtain rfl:a=b:=hb;exact⟨AP8 _,ha⟩
 |k+1,h,a,b,ha,⟨c,hc,h1,h2⟩=>by have g1:=WC k (fun i d=>h i (by omega)) a c ha h1;have g2:=h k (by omega) c b hc h2;exact⟨by omega,g2.2⟩
theorem Dj {n:Nat}{R:Nat->Nat->Prop}(h:Fwd n R)(j:Nat){a:Nat}(ha:a<=n):∀k b,GS n R (j+k) a b ↔ ∃c,c<=n/\GS n R j a c/\GS n R k c b
 |0,b=>⟨fun hp=>⟨b,(Ik h j a b ha hp).2,hp,rfl⟩,fun⟨c,_,hp,e⟩=>by obtain rfl:c=b:=e;exact hp⟩
 |k+1,b=>by
  constructor
  ·rintro⟨d,f,h1,g⟩;obtain⟨c,hc,g1,g2⟩:=(Dj h j ha k d).1 h1;exact⟨c,hc,g1,d,f,g2,g⟩
  ·rintro⟨c,hc,g1,d,f,g2,g⟩;exact⟨d,f,(Dj h j ha k d).2 ⟨c,hc,g1,g2⟩,g⟩
theorem OE {n:Nat}{R:Nat->Nat->Prop}(h:Fwd n R){a:Nat}(ha:a<=n):∀k b,GS n R (k+1) a b->GS n R k a b \/ a+(k+1)<=b
 |0,b,⟨c,hc,h1,h2⟩=>by
  obtain rfl:a=c:=h1;by_cases e:a=b
  ·exact .inl e
  ·have:=(h a b ha h2).1;exact .inr (by omega)
 |k+1,b,⟨c,hc,h1,h2⟩=>by
  by_cases e:c=b
  ·subst e;exact .inl h1
  ·have:=(h c b hc h2).1
   rcases OE h ha k c h1 with g|g
   ·exact .inl ⟨c,hc,g,h2⟩
   ·exact .inr (by omega)
theorem SH {n:Nat}{R:Nat->Nat->Prop}(h:Fwd n R){a:Nat}(ha:a<=n){k b:Nat}(hk:n<=k)(hp:GS n R (k+1) a b):GS n R k a b:=by
 rcases OE h ha k b hp with g|g
 ·exact g
 ·have:=(Ik h (k+1) a b ha hp).2;omega
theorem SI {n:Nat}{R:Nat->Nat->Prop}(h:Fwd n R){a:Nat}(ha:a<=n){b:Nat}:∀k,GS n R k a b->∃j,j<=n/\GS n R j a b
 |0,hp=>⟨0,AX9 _,hp⟩
 |k+1,hp=>by
  by_cases hk:n<=k
  ·exact SI h ha k (SH h ha hk hp)
  ·exact⟨k+1,by omega,hp⟩
theorem Mc {n:Nat}{R:Nat->Nat->Prop}(h:Fwd n R){a:Nat}(ha:a<=n):∀k b,GS n (fun x y=>R x y \/ x=y) k a b ↔ ∃j,j<=k/\GS n R j a b
 |0,b=>⟨fun e=>⟨0,AP8 _,e⟩,fun⟨j,f,hp⟩=>by
  obtain rfl:j=0:=by omega
  exact hp⟩
 |k+1,b=>by
  constructor
  ·rintro⟨c,hc,h1,d⟩;obtain⟨j,f,hp⟩:=(Mc h ha k c).1 h1;rcases d with d|d
   ·exact⟨j+1,by omega,c,hc,hp,d⟩
   ·subst d;exact⟨j,by omega,hp⟩
  ·rintro⟨j,f,hp⟩;by_cases e:j<=k
   ·have hb:=(Ik h j a b ha hp).2;exact⟨b,hb,(Mc h ha k b).2 ⟨j,e,hp⟩,.inr rfl⟩
   ·obtain rfl:j=k+1:=by omega
    obtain⟨c,hc,h1,d⟩:=hp;exact⟨c,hc,(Mc h ha k c).2 ⟨k,AP8 _,h1⟩,.inl d⟩
def US (s c:Sound):Bool:=(E5 .and .u32 s.Plus c.Plus==c.Plus)&&(E5 .and .u32 s.Minus c.Minus==c.Minus)
def PR (w:Sl Sound):Pat->Nat->Nat->Prop
 |.nil=>fun a b=>a=b
 |.mk kind is no mn mx m g=>fun a b=>
  if kind=0 then a=b
  else if kind=1 then a<w.n/\b=a+1/\(US (w.g a) is != no)=true
  else if kind=2 then a=0/\b=0
  else if kind=6 then a=w.n/\b=w.n
  else if kind=3 then Yl w.n (fun i=>PR w (g i)) m a b
  else if kind=4 then ∃i,i<m/\PR w (g i) a b
  else if kind=5 then ∃k:Nat,mn<=k/\(mx = -1 \/ (k:Int)<=mx)/\GS w.n (PR w (g 0)) k a b
  else False
theorem SJ (w:Sl Sound):∀p:Pat,Fwd w.n (PR w p)
 |.nil,a,b,ha,h=>by obtain rfl:a=b:=h;exact⟨AP8 _,ha⟩
 |.mk kind is no mn mx m g,a,b,ha,h=>by
  simp only[PR]at h;split at h
  ·subst h;exact⟨AP8 _,ha⟩
  split at h
  ·obtain⟨h1,d,_⟩:=h;omega
  split at h
  ·omega
  split at h
  ·omega
  split at h
  ·exact WC m (fun i _=>SJ w (g i)) a b ha h
  split at h
  ·obtain⟨i,_,c⟩:=h;exact SJ w (g i) a b ha c
  split at h
  ·obtain⟨k,_,_,hk⟩:=h;exact Ik (SJ w (g 0)) k a b ha hk
  ·exact h.elim
def TabR (n:Nat)(R:Nat->Nat->Prop)(f:Nat->Int):Prop:=∀a,a<=n->∃x:BitVec 64,f a=U x/\∀b,b<64->(x.getLsbD b=true↔b<=n/\R a b)
theorem TabR.congr {n:Nat}{R R' : Nat->Nat->Prop}{f:Nat->Int}(h:TabR n R f)(d:∀a b,a<=n->b<=n->(R a b↔R' a b)):TabR n R' f:=fun a ha=>by obtain⟨x,e,hx⟩:=h a ha;refine⟨x,e,fun b hb=>(hx b hb).trans ⟨fun⟨h1,c⟩=>⟨h1,(d a b ha h1).1 c⟩,fun⟨h1,c⟩=>⟨h1,(d a b ha h1).2 c⟩⟩⟩
theorem TabR.uniq {n:Nat}{R:Nat->Nat->Prop}{f g:Nat->Int}(h:TabR n R f)(h' : TabR n R g){a:Nat}(ha:a<=n):f a=g a:=by obtain⟨x,e,hx⟩:=h a ha;obtain⟨y,e',hy⟩:=h' a ha;rw[e,e',Ao4 fun b hb=>(hx b hb).trans (hy b hb).symm]
theorem TabR.bit {n:Nat}{R:Nat->Nat->Prop}{f:Nat->Int}(h:TabR n R f){a b:Nat}(ha:a<=n)(hb:b<64):(E5 .and .u64 (shI .shr .u64 (f a) (b:Int)) 1==1)=true↔b<=n/\R a b:=by obtain⟨x,e,hx⟩:=h a ha;rw[e,bit64];exact hx b hb
end Go.AM
namespace Go.AM
open Go.Proofs
abbrev Ao5:List AV:=[.reg 0 0,.reg 1 0,.reg 2 0,.reg 3 0]
abbrev UT (c:Int)(a:Sl Law)(b:Sl Sound)(y:PV):List Obj:=[.cells [pN c],.cells [.p (vSl 18 B2 a)],.cells [.p (vSl 2 A0 b)],.cells [.p y]]
structure OF (S:Ay):Prop where
 attR:∀{a:Sl Law}{b y:Sl Sound},FunO S I0 [.p (vSl 18 B2 a),.p (vSl 2 A0 b)] [] (.p (vSl 2 A0 y)) [] []->FunO S J0 Ao5 (UT 0 a b F8) (.tup []) (UT 0 a b (vSl 2 A0 y)) [true,true,true,true]
 attP:∀{a:Sl Law}{b:Sl Sound}{c:Int},(S.F I0 [.p (vSl 18 B2 a),.p (vSl 2 A0 b)] [] fun res o k=>res=.panic (.iface 149 (pI .i64 c))/\o=[]/\k=[])->FunO S J0 Ao5 (UT 0 a b F8) (.tup []) (UT c a b F8) [true,true,true,true]
 tz:∀x:BitVec 64,Ai4 S O1 [.p (pI .u64 (U x))] (.p (pI .i64 (Lib.ctz 64 x.toNat:Nat)))
 trim:∀s c:Str,s.length<1000000000000->c.length<1000000->(∀b∈c,b.toNat<128)->Ai4 S Dw [.p (.str s),.p (.str c)] (.p (.str (Lib.trimS s c)))
 growS:∀(f:Nat->List PV) (n:Nat),n*8<=140737488355328->FunO S H4 [.p F8,.p (pI .i64 (n:Int))] [] (.vec 0) [.vec B0 2 0 f false] []
def G0 (N:Nat)(x:Int):Option Int:=if 0<=x/\x<18446744073709551616 then some ((Lib.ctz 64 x.toNat:Nat):Int)else none
def Dy (N:Nat)(s c:Str):Option Str:=if s.length<1000000000000/\c.length<1000000/\(c.all fun b=>decide (b.toNat<128)) then some (Lib.trimS s c)else none
def H5 (N:Nat)(n:Int):Option (Sl Sound):=if 0<=n/\n*8<=140737488355328 then some (Sl.nil:Sl Sound)else none
section
variable {S:Ay}(hS:H2 S Tryz.prog) (hL:OF S)
include hS hL
theorem CM {N:Nat}{x y:Int}(h:G0 N x=some y):FunO S O1 [.p (pI .u64 x)] [] (.p (pI .i64 y)) [] []:=by
 obtain⟨⟨a,h1⟩,h⟩:=D3 h;obtain rfl:=B8 h
 have:=hL.tz (BitVec.ofNat 64 x.toNat)
 have e:(BitVec.ofNat 64 x.toNat).toNat=x.toNat:=by rw[Bh1];omega
 have e2:U (BitVec.ofNat 64 x.toNat)=x:=by show ((BitVec.ofNat 64 x.toNat).toNat:Int)=x;rw[e];omega
 rw[e,e2]at this;exact this
theorem Nl {N:Nat}{s c:Str}{y:Str}(h:Dy N s c=some y):FunO S Dw [.p (.str s),.p (.str c)] [] (.p (.str y)) [] []:=by obtain⟨⟨a,h1,d⟩,h⟩:=D3 h;obtain rfl:=B8 h;exact hL.trim s c a h1 fun b hb=>by simpa using AR0.1 d b hb
theorem Am {N:Nat}{n:Int}{y:Sl Sound}(h:H5 N n=some y):FunO S H4 [.p F8,.p (pI .i64 n)] [] (.vec 0) [.vec B0 2 y.n (fun i=>A0 (y.g i)) false] []:=by
 obtain⟨⟨a,h1⟩,h⟩:=D3 h;obtain rfl:=B8 h
 have:=hL.growS (fun i=>A0 default) n.toNat (by omega)
 rw[show ((n.toNat:Nat):Int)=n by omega]at this;exact this
def A6 (N:Nat)(s:Sl Sound):Option (Sl Sound):=if (0+s.n)*8<=140737488355328/\0+s.n<=140737488355328 then some s else none
theorem G9 {N:Nat}{s y:Sl Sound}(h:A6 N s=some y):FunO S G8 [.p (vSl 2 A0 s)] [] (.vec 0) [.vec B0 2 y.n (fun i=>A0 (y.g i)) true] []:=by
 unfold A6 at h;obtain⟨c1,h⟩:=D3 h;obtain rfl:=B8 h;refine A3 hS Tryz.func66 ?_;refine Aa1 hS trivial 3 (k:=2) (n:=s.n) (f:=fun i=>A0 (s.g i)) (fun a=>?_) ?_
 ·obtain⟨n,g⟩:=s;obtain rfl:n=0:=a;exact A9 hS trivial ⟨[(2,.vec 3700)],[(3700,.vec B0 2 0 (fun i=>A0 (g i)) true)]⟩ [3700] (ids:=[]) ⟨rfl,rfl,rfl⟩
 ·exact A9 hS (And.intro (rfl:true=true) c1) ⟨[(2,.vec 8000)],[(8000,.vec B0 2 s.n (fun i=>A0 (s.g i)) true)]⟩ [8000] (ids:=[(8000,8000)]) ⟨rfl,rfl,rfl⟩
   (hle:=klR [(0,.fn (0+s.n) s.n (Q0 0 (D5 [pI .u32 0,pI .u32 0] []) (fun i=>A0 (s.g i))) (fun i=>A0 (s.g i)))] (al1 ⟨AS4 _,fun i _=>by simp[Q0]⟩ al0))
def F6 (N:Nat)(s:Sl Bn):Option (Sl Bn):=if (0+s.n)*32<=140737488355328/\0+s.n<=140737488355328 then some s else none
theorem Y6 {N:Nat}{s y:Sl Sound}(h:A6 N s=some y):FunO S G8 [.p (vSl 2 A0 s)] [] (.p (vSl 2 A0 y)) [] []:=by
 unfold A6 at h;obtain⟨c1,h⟩:=D3 h;obtain rfl:=B8 h;refine A3 hS Tryz.func66 ?_;refine Aa1 hS trivial 3 (k:=2) (n:=s.n) (f:=fun i=>A0 (s.g i)) (fun a=>?_) ?_
 ·obtain⟨n,g⟩:=s;obtain rfl:n=0:=a;exact A9 hS trivial ⟨[(2,.p (vSl 2 A0 ⟨0,g⟩))],[]⟩ [] (ids:=[]) ⟨rfl,rfl,rfl⟩
 ·exact A9 hS (And.intro (rfl:true=true) c1) ⟨[(2,.p (vSl 2 A0 s))],[]⟩ [] (ids:=[]) ⟨rfl,rfl,rfl⟩
   (hle:=klR [(0,.fn (0+s.n) s.n (Q0 0 (D5 [pI .u32 0,pI .u32 0] []) (fun i=>A0 (s.g i))) (fun i=>A0 (s.g i)))] (al1 ⟨AS4 _,fun i _=>by simp[Q0]⟩ al0))
theorem AR {N:Nat}{s y:Sl Bn}(h:F6 N s=some y):FunO S P4 [.p (vSl 6 O5 s)] [] (.p (vSl 6 O5 y)) [] []:=by
 unfold F6 at h;obtain⟨c1,h⟩:=D3 h;obtain rfl:=B8 h;refine A3 hS Tryz.func97 ?_;refine Aa1 hS trivial 3 (k:=6) (n:=s.n) (f:=fun i=>O5 (s.g i)) (fun a=>?_) ?_
 ·obtain⟨n,g⟩:=s;obtain rfl:n=0:=a;exact A9 hS trivial ⟨[(2,.p (vSl 6 O5 ⟨0,g⟩))],[]⟩ [] (ids:=[]) ⟨rfl,rfl,rfl⟩
 ·exact A9 hS (And.intro (rfl:true=true) c1) ⟨[(2,.p (vSl 6 O5 s))],[]⟩ [] (ids:=[]) ⟨rfl,rfl,rfl⟩
   (hle:=klR [(0,.fn (0+s.n) s.n (Q0 0 (D5 [pI .i64 0,pI .u32 0,pI .u32 0,pI .u32 0,pI .u32 0,pI .i64 0] []) (fun i=>O5 (s.g i))) (fun i=>O5 (s.g i)))] (al1 ⟨AS4 _,fun i _=>by simp[Q0]⟩ al0))
end
end Go.AM
set_option maxRecDepth 100000
namespace Go.AM
open Go.Proofs
theorem Ym (v:Value)(w:World):(Instr.typeAssert (.iface 149 v) 20 149 true).run Tryz.prog w=.ok (.tuple #[v,.bool true]) w:=by kernel_rfl
theorem UU (p:Value)(w:World):CallsDIn Fence.wide 0 Tryz.prog S1 #[p] .returning w fun e u' w'=>e=.returned (.tuple #[])/\u' = .returning/\w' = w:=by
 refine callsDIn_of_wpSIn Tryz.func110 rfl (by simp[Fence.wide]) fun c₀ cs a=>?_;apply wpSIn_seq;apply wpSIn_region;simp[wpOpsSIn,go_sem,recoverD,a,Tryz.f110,Exit.thenS];refine wpSIn_of_wpIn rfl (wpIn_block (wpIn_seq (wpIn_region ?_)));simp[wpOpsIn,Oper.wpIn,Oper.semAt,Oper.uponIn,go_sem,Exit.then];refine wpIn_cond (t:=true) (by simp[Act.eval]) ?_;simp only[if_true];refine wpIn_region ?_;simp[wpOpsIn,Oper.wpIn,Oper.semAt,Oper.uponIn,go_sem,Exit.inBlock,bodyPostS,results];cases c₀
 simp_all
theorem Ke (p:Value)(c:Int)(older:List PanicEntry)(w w1:World)(a:(Instr.storeAt 30 p (.int .i64 c)).run Tryz.prog w=.ok () w1)(hn:∃b,p=.pointer (some b)) :CallsDIn Fence.wide 0 Tryz.prog S1 #[p] (.panicking ({ v:=.iface 149 (.int .i64 c),recovered:=false }::older)) w fun e u' w'=>
  e=.returned (.tuple #[])/\u' = .panicking ({ v:=.iface 149 (.int .i64 c),recovered:=true }::older)/\w' = w1:=by
 obtain⟨b,rfl⟩:=hn;refine callsDIn_of_wpSIn Tryz.func110 rfl (by simp[Fence.wide]) fun c₀ cs d=>?_;apply wpSIn_seq;apply wpSIn_region;simp[wpOpsSIn,go_sem,recoverD,d,Tryz.f110,Exit.thenS];refine wpSIn_of_wpIn rfl (wpIn_block (wpIn_seq (wpIn_region ?_)));simp[wpOpsIn,Oper.wpIn,Oper.semAt,Oper.uponIn,go_sem,Exit.then];refine wpIn_cond (t:=false) (by simp[Act.eval]) ?_;simp only[AQ0,if_false];refine wpIn_seq (wpIn_region ?_);simp[wpOpsIn,Oper.wpIn,Oper.semAt,Oper.uponIn,go_sem,Exit.then,Ym];refine wpIn_cond (t:=true) (by simp[Act.eval]) ?_;simp only[if_true];refine wpIn_seq (wpIn_region ?_);simp[wpOpsIn,Oper.wpIn,Oper.semAt,Oper.uponIn,go_sem,Exit.then];refine wpIn_region ?_;simp[wpOpsIn,Oper.wpIn,Oper.semAt,Oper.uponIn,go_sem,a,Exit.inBlock,bodyPostS,results];simp[go_sem]at a;rw[a];simp[Result.andThen]
noncomputable def AG2:Code:=match Tryz.f109.body with
 |some (.seq _ c)=>c
 |_=>.skip
theorem AC3 {S:Ay}(hS:H2 S Tryz.prog){a:Sl Law}{b y:Sl Sound}(c:FunO S I0 [.p (vSl 18 B2 a),.p (vSl 2 A0 b)] [] (.p (vSl 2 A0 y)) [] []) :KG S Tryz.prog (Oe S (fun st=>J9 [0,1,2,3] st.regs [0,1,2,3]=some (UT 0 a b (vSl 2 A0 y))) fun _ _=>False) (.code AG2 [] ⟨argEnv Ao5,objRegs (UT 0 a b F8)⟩):=by refine B9 hS [] trivial c ?_;exact K_upN hS trivial ⟨[],[(3,.cells [.p (vSl 2 A0 y)]),(2,.cells [.p (vSl 2 A0 b)]),(1,.cells [.p (vSl 18 B2 a)]),(0,.cells [pN 0])]⟩ (ids:=[(0,0),(1,1),(2,2),(3,3)]) rfl
theorem Ab8 {S:Ay}(hS:H2 S Tryz.prog){a:Sl Law}{b:Sl Sound}{c:Int}(d:S.F I0 [.p (vSl 18 B2 a),.p (vSl 2 A0 b)] [] fun res o k=>res=.panic (.iface 149 (pI .i64 c))/\o=[]/\k=[]) :KG S Tryz.prog (Oe S (fun _=>False) fun x st=>x=.iface 149 (pI .i64 c)/\store Tryz.prog st.regs 30 (.reg 0 0) (.p (pI .i64 c))=some ([],ins 0 (.cells [pN c]) st.regs)/\J9 [0,1,2,3] (ins 0 (.cells [pN c]) st.regs) [0,1,2,3]=some (UT c a b F8)) (.code AG2 [] ⟨argEnv Ao5,objRegs (UT 0 a b F8)⟩):=by refine AB6 hS [] trivial d ?_;exact K_upP hS trivial ⟨rfl,by kernel_rfl,by kernel_rfl⟩
noncomputable def att1:Code:=match Tryz.f109.body with
 |some (.seq c _)=>c
 |_=>.skip
noncomputable def attOps:Array Oper:=match AG2 with
 |.region _ ops _=>ops
 |_=>#[]
theorem WD:AG2=.region 1 attOps false:=by kernel_rfl
theorem AM4:attOps.toList.all (GA 7 attOps.toList)=true:=by kernel_rfl
theorem Ao6:¬Tryz.f109.name = "runtime.NumGoroutine" := by decide +kernel
theorem WE:Tryz.f109.body=some (.seq att1 AG2):=by kernel_rfl
theorem AC4 {C:Ctx}{vs:Array Value}{w:World}{rho:Nat->Value}{args:List AV}{objs:List Obj}{n:Nat}(hS:Sat C ⟨argEnv args,objRegs objs⟩ ⟨vs,[]⟩ w rho)(a:vs.size=args.length) :Sat C ⟨argEnv args,objRegs objs⟩ { tmps:=vs++Array.replicate n undef,defers:=[] } w rho:=by
 refine⟨hS.toSatE,fun t=>?_,hS.pin,hS.marks⟩
 have:=hS.env t
 by_cases ht:t<vs.size
 ·simpa[AP4,AW6,ht]using this
 ·show RepA w _ _ _ _ (get (argEnv args) t);rw[AJ,AP1,AT8 (by omega)];exact .top _
theorem Md {R:St->Prop}{X:PV->St->Prop}{a:Sl Law}{b:Sl Sound}{objs' : List Obj}
 (a1:KG (Gy Tryz.prog) Tryz.prog (Oe (Gy Tryz.prog) R X) (.code AG2 [] ⟨argEnv Ao5,objRegs (UT 0 a b F8)⟩))
 (hR:∀st,R st->J9 [0,1,2,3] st.regs [0,1,2,3]=some objs')
 (hX:∀x st,X x st->∃c regs',x=.iface 149 (pI .i64 c)/\store Tryz.prog st.regs 30 (.reg 0 0) (.p (pI .i64 c))=some ([],regs')/\J9 [0,1,2,3] regs' [0,1,2,3]=some objs') :
 FunO (Gy Tryz.prog) J0 Ao5 (UT 0 a b F8) (.tup []) objs' [true,true,true,true]:=by
 intro 𝒢 C w vs rho hG hS t;obtain⟨l⟩:=vs
 match l,t with
 |[v0,v1,v2,v3],t=>?_
 refine⟨.enter J0 #[v0,v1,v2,v3],w,by simp[callFunc,Tryz.func109,WE,Ao6],?_⟩;refine callsIn_of_wp_marks Tryz.func109 WE trivial ?_;have a2:=AC4 (n:=Tryz.f109.ntmps-4) hS t;have a9:Tryz.f109.ntmps-4=3:=rfl;rw[a9]at a2;have b1:((#[v0,v1,v2,v3]:Array Value)++Array.replicate 3 undef).size=7:=rfl;have hw:IG (Gy Tryz.prog) Tryz.prog attOps.toList attOps.toList (Oe (Gy Tryz.prog) R X) ⟨argEnv Ao5,objRegs (UT 0 a b F8)⟩:=by
  have:=a1.out
  rw[WD]at this;simpa only[G,awp,kp,AQ0,if_false]using this
 have a4:=KU (𝒢:=𝒢.fix C.rho0) (n:=7) (ro:=none) (ops:=attOps) AM4 attOps.toList 0 rfl (by simp) ⟨hG,rfl⟩ a2 b1 hw;have a5:=HR [{ target:=.fn (.func S1) #[],args:=#[v0] }] _ _ _ a4;rw[Bd5]at a5;obtain⟨b0,a6,u⟩:∃b0,v0=.pointer (some ⟨b0,0,none⟩)/\rho 0=.pointer (some ⟨b0,0,none⟩):=by
  have h0:RepA w _ _ rho v0 (.reg 0 0):=hS.env 0;cases h0 with
  |reg _ _ b0 _ h=>exact⟨b0,rfl,h⟩
 have s:∀{C' : Ctx}{st' : St}{a' : Act}{w' : World}{rho' : Nat->Value},(𝒢.fix C.rho0).G C' -> Sat C' st' a' w' rho' -> J9 [0,1,2,3] st'.regs [0,1,2,3]=some objs' ->
  LeavesInM Fence.wide 0 Tryz.prog Tryz.f109 a'.tmps (fun e w'=>∃C' r objs0 ks rho', 𝒢.G C' /\ (r=.ret (.tup [])/\objs0=objs' /\ ks=[true,true,true,true])/\SatE C' (objRegs objs0) w' rho' /\
   Ay4 w' (Prv C'.X (A1 (objRegs objs0)) rho') (Lv (A1 (objRegs objs0))) rho' e r/\∀i:Nat,ks[i]? = some true->i<objs0.length/\rho' i=rho i) [] .returning w':=by
  intro C' st' a' w' rho' d f m;obtain⟨g1,g2,g3⟩:=KV f (by decide) m;obtain⟨hl,hg⟩:=Y2 m;refine⟨.tuple #[],by simp[results,Tryz.f109],C', .ret (.tup []),objs',_,_,d.1,⟨rfl,rfl,rfl⟩,g1,⟨_,rfl,.tup _ _ rfl fun i hi=>absurd hi (by simp)⟩,?_⟩;intro i hi;have y:i<4:=by
   have:=(AQ4.1 hi).1
   simpa using this
  refine⟨by rw[hl];exact y,?_⟩;have e1:[0,1,2,3][i]? = some i:=by
   match i,y with
   |0,_=>rfl
   |1,_=>rfl
   |2,_=>rfl
   |3,_=>rfl
  obtain⟨o,_,ho,_⟩:=hg i i e1;show rho' ([0,1,2,3].getD i 0)=rho i;rw[BY e1,f.pin i (by omega) (by simp[Lv,ho]),d.2];refine (hS.pin i (by omega) ?_).symm;rw[Lv,D6]
  match i,y with
  |0,_=>rfl
  |1,_=>rfl
  |2,_=>rfl
  |3,_=>rfl
 generalize hQ:bodyPostM _ _ _ _ _=QQ;refine wpIn_seq ?_;simp only[att1,Tryz.f109];refine wpIn_region ?_;simp[wpOpsIn,Oper.wpIn,Oper.semAt,Oper.uponIn,go_sem,Exit.then];subst hQ;rw[WD];refine wpIn_mono (wpIn_region (F:=FW none) a5) ?_;rintro e a' w' ⟨a0,rfl,z⟩;cases e with
 |exit id=>obtain⟨_,_,_,_,_,_,h⟩:=z;exact h.elim
 |goto l=>obtain⟨_,_,_,_,_,_,h⟩:=z;exact h.elim
 |ret=>obtain⟨_,_,_,_,_,_,h⟩:=z;exact h.elim
 |outgrown=>exact z.elim
 |normal=>
  obtain⟨C',st',rho',d,f,a7,hu⟩:=z;obtain⟨st2,rho2,hR2,_,hs2⟩:=hu C' a0 w' rho' f;refine EB (C:=C') (st:=st2) (rho:=rho2) (by simp) ?_ a0.defers a0 w' rfl rfl hs2;intro a3 w3 q ht;refine⟨by simp,.inr ⟨by simp[Fence.wide],_,_,S1,#[v0],rfl,by simp[go_sem],fun _ _=>trivial,?_⟩⟩;refine (UU v0 w3).mono ?_;rintro e u' w4 ⟨rfl,rfl,rfl⟩
  have:=s d q (hR st2 hR2)
  rw[ht]at this;exact this
 |panic chain=>
  obtain⟨C',st',rho',v,x,rfl,d,f,a7,hv,hXx⟩:=z;obtain⟨c,regs',rfl,g,m⟩:=hX x st' hXx;obtain rfl:v=.iface 149 (.int .i64 c):=by
   cases hv with
   |iface _ _ _ h=>cases h;rfl
  refine EB (C:=C') (st:=st') (rho:=rho') (by simp) ?_ a0.defers a0 w' rfl rfl f;intro a3 w3 q ht;have j:Lv (A1 st'.regs) 0:=by
   cases hj:A1 st'.regs 0 with
   |some o=>simp[Lv,hj]
   |none=>
    unfold store at g;split at g
    ·simp[hj]at g
    ·cases g
  have hr0:rho' 0=.pointer (some ⟨b0,0,none⟩):=by rw[q.pin 0 (by omega) j,d.2,<- u];exact (hS.pin 0 (by omega) rfl).symm
  have hva:RS C' st' w3 rho' v0 (.reg 0 0):=by rw[a6];exact .reg 0 0 b0 j hr0
  obtain⟨w4,a8,hs4,_⟩:=KJ q (vx:=.int .i64 c) hva (.p _ _ (.v _)) g trivial;refine⟨by simp,.inr ⟨by simp[Fence.wide],_,_,S1,#[v0],rfl,by simp[go_sem],fun _ _=>trivial,?_⟩⟩;refine (Ke v0 c [] w3 w4 a8 ⟨_,a6⟩).mono ?_;rintro e u' w5 ⟨rfl,rfl,rfl⟩
  have:=s d hs4 m
  rw[ht]at this;exact this
theorem UV {a:Sl Law}{b y:Sl Sound}(c:FunO (Gy Tryz.prog) I0 [.p (vSl 18 B2 a),.p (vSl 2 A0 b)] [] (.p (vSl 2 A0 y)) [] []) :FunO (Gy Tryz.prog) J0 Ao5 (UT 0 a b F8) (.tup []) (UT 0 a b (vSl 2 A0 y)) [true,true,true,true]:=
 Md (AC3 (AF7 Tryz.prog) c) (fun st h=>h) (fun x st h=>h.elim)
theorem Qm {a:Sl Law}{b:Sl Sound}{c:Int}(d:(Gy Tryz.prog).F I0 [.p (vSl 18 B2 a),.p (vSl 2 A0 b)] [] fun res o k=>res=.panic (.iface 149 (pI .i64 c))/\o=[]/\k=[]) :FunO (Gy Tryz.prog) J0 Ao5 (UT 0 a b F8) (.tup []) (UT c a b F8) [true,true,true,true]:=
 Md (Ab8 (AF7 Tryz.prog) d) (fun st h=>h.elim) (fun x st h=>⟨c,_,h.1,h.2.1,h.2.2⟩)
end Go.AM
namespace Go.AM
open IntKind (wrap)
open Go.Proofs
set_option maxRecDepth 10000
set_option maxHeartbeats 2000000
variable {S:Ay}(hS:H2 S Tryz.prog) (hL:OF S)
include hS hL
def G3 (N:Nat)(a:Sound):Option Bool:=
 some (((E5 .and .u32 a.Plus a.Minus)==0)&&(decide ((E5 .or .u32 a.Plus a.Minus)<=16777215)))
theorem P5 {N:Nat}{b:Sound}{y:Bool}(h:G3 N b=some y) :FunO S HZ [.p (.agg (A0 b))] [] (pB y) ([]) []:=by unfold G3 at h;refine A3 hS Tryz.func101 ?_;refine kB hS (A7 hS) trivial trivial 7 (.n (.a ((E5 .and .u32 b.Plus b.Minus)==0)) (.a (decide ((E5 .or .u32 b.Plus b.Minus)<=16777215)))) ?_;cases h;exact kR hS
def J5 (N:Nat)(b:Sound)(a:Sound):Option Bool:=
 (G3 N b).bind fun y1=>
 lt (fun (z1:Bool)=>
  some z1
  ) fun k1=>
  if y1 then
   (G3 N a).bind fun y3=>
   if y3 then
    if ((E5 .andNot .u32 a.Plus b.Plus)==0) then
     k1 ((E5 .andNot .u32 a.Minus b.Minus)==0)
    else
     k1 false
   else
    k1 false
  else
   k1 false
theorem IZ {N:Nat}{c:Sound}{a:Sound}{y:Bool}(h:J5 N c a=some y) :FunO S DZ [.p (.agg (A0 c)),.p (.agg (A0 a))] [] (pB y) ([]) []:=by
 unfold J5 at h;refine A3 hS Tryz.func183 ?_;refine kC hS h (P5 hS hL) (fun y1 h=>?_);refine Fy hS trivial (A7 hS) h 0 (fun z1=>⟨[(4,pB z1)],[]⟩) (fun M1 k1 b h=>?_) (fun z1 h=>?_)
 ·refine kG hS h (fun h=>?_) (fun h=>?_)
  ·refine kC hS h (P5 hS hL) (fun y3 h=>?_);refine kG hS h (fun h=>?_) (fun h=>?_)
   ·refine kG hS h (fun h=>?_) (fun h=>?_)
    ·exact b _ [] _ ((E5 .andNot .u32 a.Minus c.Minus)==0) trivial h
    ·exact b _ [] _ false trivial h
   ·exact b _ [] _ false trivial h
  ·exact b _ [] _ false trivial h
 ·cases h;exact kR hS
def CN (N:Nat)(a:Sound):Option Int:=
 some (E5 .or .u32 a.Plus a.Minus)
theorem Me {N:Nat}{a:Sound}{y:Int}(h:CN N a=some y) :FunO S LU [.p (.agg (A0 a))] [] (pU y) ([]) []:=by unfold CN at h;refine A3 hS Tryz.func195 ?_;cases h;exact kR hS
def Bs (N:Nat)(c:Sound)(b:Sound)(a:Int):Option Sound:=
 some (⟨E5 .or .u32 (E5 .andNot .u32 c.Plus a) (E5 .and .u32 b.Plus a),E5 .or .u32 (E5 .andNot .u32 c.Minus a) (E5 .and .u32 b.Minus a)⟩:Sound)
theorem Mf {N:Nat}{c:Sound}{a:Sound}{b:Int}{y:Sound}(h:Bs N c a b=some y) :FunO S LW [.p (.agg (A0 c)),.p (.agg (A0 a)),pU b] [] (.p (.agg (A0 y))) ([]) []:=by unfold Bs at h;refine A3 hS Tryz.func196 ?_;cases h;exact kR hS
def N6 (N:Nat)(c:Sound)(a:Int)(b:Sound):Option (Sound×Int):=
 (G3 N c).bind fun y1=>
 lt (fun (z1:Bool)=>
  if z1 then
   some ((⟨0,0⟩:Sound),14)
  else
   lt (fun (z2:Bool)=>
    if z2 then
     some ((⟨0,0⟩:Sound),2)
    else
     (CN N b).bind fun y6=>
     (Bs N c b (E5 .or .u32 a y6)).bind fun y7=>
     some (y7,0)
    ) fun k2=>
    if (decide (16777215<a)) then
     k2 true
    else
     (CN N b).bind fun y5=>
     k2 ((E5 .and .u32 a y5) != 0)
  ) fun k1=>
  if (!y1) then
   k1 true
  else
   (G3 N b).bind fun y3=>
   k1 (!y3)
theorem Nm {N:Nat}{c:Sound}{a:Int}{b:Sound}{y:Sound×Int}(h:N6 N c a b=some y) :FunO S GQ [.p (.agg (A0 c)),pU a,.p (.agg (A0 b))] [] (.tup [.p (.agg (A0 y.1)),pN y.2]) ([]) []:=by
 unfold N6 at h;refine A3 hS Tryz.func185 ?_;refine H3 hS trivial 5 4000 [pI .u32 c.Plus,pI .u32 c.Minus] ?_;refine H3 hS trivial 6 6000 [pI .u32 b.Plus,pI .u32 b.Minus] ?_;obtain⟨y1,e1,h⟩:=B7 h;refine B9 hS [] (by decide:(2:Nat)<=2) (P5 hS hL e1) ?_;refine Fy hS trivial (A7 hS) h 0 (fun z1=>⟨[(15,pB z1),(6,.reg 7000 0),(5,.p (.ptr [pI .u32 b.Plus,pI .u32 b.Minus])),(3,.p (.ptr [pI .u32 c.Plus,pI .u32 c.Minus])),(1,pU a)],[(7000,.cells [pU 0,pU 0])]⟩) (fun M1 k1 d h=>?_) (fun z1 h=>?_)
 ·refine kG hS h (fun h=>?_) (fun h=>?_)
  ·exact d _ [(7000,7000)] _ true trivial h
  ·obtain⟨y3,e3,h⟩:=B7 h;refine B9 hS [] (by decide:(2:Nat)<=2) (P5 hS hL e3) ?_;exact d _ [(7000,7000)] _ (!y3) trivial h
 ·refine kI hS h ?_ ?_<;>intro h
  ·cases h;exact kR hS
  ·refine Fy hS trivial (A7 hS) h 0 (fun z2=>⟨[(25,pB z2),(6,.reg 7000 0),(5,.p (.ptr [pI .u32 b.Plus,pI .u32 b.Minus])),(3,.p (.ptr [pI .u32 c.Plus,pI .u32 c.Minus])),(1,pU a)],[(7000,.cells [pU 0,pU 0])]⟩) (fun M2 k2 f h=>?_) (fun z2 h=>?_)
   ·refine kG hS h (fun h=>?_) (fun h=>?_)
    ·exact f _ [(7000,7000)] _ true trivial h
    ·obtain⟨y5,e5,h⟩:=B7 h;refine B9 hS [] (by decide:(2:Nat)<=2) (Me hS hL e5) ?_;exact f _ [(7000,7000)] _ ((E5 .and .u32 a y5) != 0) trivial h
   ·refine kI hS h ?_ ?_<;>intro h
    ·cases h;exact kR hS
    ·refine D4 hS trivial [0,1,3,4,6] ?_;obtain⟨y6,e6,h⟩:=B7 h;refine R5 (And.intro (And.intro (by decide:(2:Nat)<=2) (by decide:(2:Nat)<=2)) (by decide:(2:Nat)<=2)) (Me hS hL e6) ?_;obtain⟨y7,e7,h⟩:=B7 h;refine R5 trivial (Mf hS hL e7) ?_;refine I7 trivial ?_;cases h;exact kR hS
def S9 (N:Nat)(c:Sound)(a:Sound)(b:Int):Option (Sound×Int):=
 (G3 N c).bind fun y1=>
 lt (fun (z1:Bool)=>
  if z1 then
   some ((⟨0,0⟩:Sound),14)
  else
   if (decide (16777215<b)) then
    some ((⟨0,0⟩:Sound),2)
   else
    (Bs N c a b).bind fun y4=>
    some (y4,0)
  ) fun k1=>
  if (!y1) then
   k1 true
  else
   (G3 N a).bind fun y3=>
   k1 (!y3)
theorem SK {N:Nat}{c:Sound}{a:Sound}{b:Int}{y:Sound×Int}(h:S9 N c a b=some y) :FunO S JO [.p (.agg (A0 c)),.p (.agg (A0 a)),pU b] [] (.tup [.p (.agg (A0 y.1)),pN y.2]) ([]) []:=by
 unfold S9 at h;refine A3 hS Tryz.func186 ?_;refine kC hS h (P5 hS hL) (fun y1 h=>?_);refine Fy hS trivial (A7 hS) h 0 (fun z1=>⟨[(15,pB z1),(6,.reg 7000 0),(4,.reg 5000 0),(3,.reg 4000 0),(2,pU b)],[(7000,.cells [pU 0,pU 0]),(5000,.cells [pU a.Plus,pU a.Minus]),(4000,.cells [pU c.Plus,pU c.Minus])]⟩) (fun M1 k1 d h=>?_) (fun z1 h=>?_)
 ·refine kG hS h (fun h=>?_) (fun h=>?_)
  ·exact d _ [(4000,4000),(5000,5000),(7000,7000)] _ true trivial h
  ·refine kC hS h (P5 hS hL) (fun y3 h=>?_);exact d _ [(4000,4000),(5000,5000),(7000,7000)] _ (!y3) trivial h
 ·refine kI hS h ?_ ?_<;>intro h
  ·cases h;exact kR hS
  ·refine kI hS h ?_ ?_<;>intro h
   ·cases h;exact kR hS
   ·refine kC hS h (Mf hS hL) (fun y4 h=>?_);cases h;exact kR hS
def I2 (N:Nat)(a:Sound):Option Bool:=
 R6 N (fun b (x1:Int)=>
  if (decide (x1<32)) then
   if ((0:Int)<=x1/\(0:Int)<=x1)then
    if ((((E5 .and .u32 (shI .shr .u32 a.Plus x1) 1)==1)&&((E5 .and .u32 (shI .shr .u32 a.Minus x1) 1)==1))||((((E5 .and .u32 (shI .shr .u32 a.Plus x1) 1)==1)||((E5 .and .u32 (shI .shr .u32 a.Minus x1) 1)==1))&&(decide (24<=x1)))) then
     some false
    else
     b (wrap .i64 (x1+1))
   else none
  else
   some true
  ) 0
theorem T4 {N:Nat}{b:Sound}{y:Bool}(h:I2 N b=some y) :FunO S LH [.p (.agg (A0 b))] [] (pB y) ([]) []:=by
 unfold I2 at h;refine A3 hS Tryz.func116 ?_;refine I4 hS trivial h (fun x1=>⟨[(3,pN x1),(1,.reg 2000 0)],[(2000,.cells [pU b.Plus,pU b.Minus])]⟩) (ids:=[(2000,2000)]) (fun _ _ _ _ _ c x1 d h=>?_);refine kI hS h ?_ ?_<;>intro h
 ·obtain⟨c7,h⟩:=D3 h;refine kB hS (A7 hS) c7 trivial 12 (.o (.n (.a ((E5 .and .u32 (shI .shr .u32 b.Plus x1) 1)==1)) (.a ((E5 .and .u32 (shI .shr .u32 b.Minus x1) 1)==1))) (.n (.o (.a ((E5 .and .u32 (shI .shr .u32 b.Plus x1) 1)==1)) (.a ((E5 .and .u32 (shI .shr .u32 b.Minus x1) 1)==1))) (.a (decide (24<=x1))))) ?_;refine kI hS h ?_ ?_<;>intro h
  ·cases h;exact kR hS
  ·exact d _ [(2000,2000)] _ (wrap .i64 (x1+1)) trivial h
 ·cases h;exact kR hS
def Cm (N:Nat)(a:Int):Option Bool:=
 some ((decide (0<=a))&&(decide (a<24)))
theorem Qn {N:Nat}{b:Int}{y:Bool}(h:Cm N b=some y) :FunO S Ie [pN b] [] (pB y) ([]) []:=by unfold Cm at h;refine A3 hS Tryz.func197 ?_;refine kB hS (A7 hS) trivial trivial 3 (.n (.a (decide (0<=b))) (.a (decide (b<24)))) ?_;cases h;exact kR hS
def W4 (N:Nat)(b:Sound)(a:Int):Option Int:=
 (I2 N b).bind fun y1=>
 lt (fun (z1:Bool)=>
  if z1 then
   some 0
  else
   if (0:Int)<=a then
    if ((E5 .and .u32 (shI .shr .u32 b.Plus a) 1)==1) then
     some 1
    else
     if (0:Int)<=a then
      if ((E5 .and .u32 (shI .shr .u32 b.Minus a) 1)==1) then
       some (-1)
      else
       some 0
     else none
   else none
  ) fun k1=>
  if (!y1) then
   k1 true
  else
   (Cm N a).bind fun y3=>
   k1 (!y3)
theorem CO {N:Nat}{a:Sound}{c:Int}{y:Int}(h:W4 N a c=some y) :FunO S SA [.p (.agg (A0 a)),pN c] [] (pN y) ([]) []:=by
 unfold W4 at h;refine A3 hS Tryz.func187 ?_;refine kC hS h (T4 hS hL) (fun y1 h=>?_);refine Fy hS trivial (A7 hS) h 0 (fun z1=>⟨[(12,pB z1),(2,.reg 3000 0),(1,pN c)],[(3000,.cells [pU a.Plus,pU a.Minus])]⟩) (fun M1 k1 d h=>?_) (fun z1 h=>?_)
 ·refine kG hS h (fun h=>?_) (fun h=>?_)
  ·exact d _ [(3000,3000)] _ true trivial h
  ·refine kC hS h (Qn hS hL) (fun y3 h=>?_);exact d _ [(3000,3000)] _ (!y3) trivial h
 ·refine kI hS h ?_ ?_<;>intro h
  ·cases h;exact kR hS
  ·obtain⟨c5,h⟩:=D3 h;refine D0 hS c5 (b:=(E5 .and .u32 (shI .shr .u32 a.Plus c) 1)==1) (fun c6=>?_) (fun c6=>?_)
   ·replace h:=itT c6 h;cases h;exact kR hS
   ·replace h:=itF c6 h;obtain⟨c7,h⟩:=D3 h;refine D0 hS c7 (b:=(E5 .and .u32 (shI .shr .u32 a.Minus c) 1)==1) (fun c8=>?_) (fun c8=>?_)
    ·replace h:=itT c8 h;cases h;exact kR hS
    ·replace h:=itF c8 h;cases h;exact kR hS
def BN (N:Nat)(b:Sound)(a:Int)(c:Int):Option Sound:=
 if (0:Int)<=a then
  if (c==1) then
   if (c==(-1)) then
    some (⟨E5 .or .u32 (E5 .andNot .u32 b.Plus (shI .shl .u32 1 a)) (shI .shl .u32 1 a),E5 .or .u32 (E5 .andNot .u32 b.Minus (shI .shl .u32 1 a)) (shI .shl .u32 1 a)⟩:Sound)
   else
    some (⟨E5 .or .u32 (E5 .andNot .u32 b.Plus (shI .shl .u32 1 a)) (shI .shl .u32 1 a),E5 .andNot .u32 b.Minus (shI .shl .u32 1 a)⟩:Sound)
  else
   if (c==(-1)) then
    some (⟨E5 .andNot .u32 b.Plus (shI .shl .u32 1 a),E5 .or .u32 (E5 .andNot .u32 b.Minus (shI .shl .u32 1 a)) (shI .shl .u32 1 a)⟩:Sound)
   else
    some (⟨E5 .andNot .u32 b.Plus (shI .shl .u32 1 a),E5 .andNot .u32 b.Minus (shI .shl .u32 1 a)⟩:Sound)
 else none
theorem Il {N:Nat}{c:Sound}{d:Int}{a:Int}{y:Sound}(h:BN N c d a=some y) :FunO S SB [.p (.agg (A0 c)),pN d,pN a] [] (.p (.agg (A0 y))) ([]) []:=by
 unfold BN at h;refine A3 hS Tryz.func190 ?_;obtain⟨c1,h⟩:=D3 h;refine D0 hS c1 (b:=a==1) (fun c2=>?_) (fun c2=>?_)
 ·replace h:=itT c2 h;refine kI hS h ?_ ?_<;>intro h
  ·cases h;exact kR hS
  ·cases h;exact kR hS
 ·replace h:=itF c2 h;refine kI hS h ?_ ?_<;>intro h
  ·cases h;exact kR hS
  ·cases h;exact kR hS
def O2 (N:Nat)(c:Sound)(a:Sound):Option Bool:=
 (I2 N c).bind fun y1=>
 lt (fun (z1:Bool)=>
  if z1 then
   some false
  else
   R6 N (fun b (x3:Int)=>
    if (decide (x3<24)) then
     (W4 N a x3).bind fun d=>
     lt (fun (z4:Bool)=>
      if z4 then
       some false
      else
       b (wrap .i64 (x3+1))
      ) fun k4=>
      if (d != 0) then
       (W4 N c x3).bind fun f=>
       k4 (f != d)
      else
       k4 false
    else
     some true
    ) 0
  ) fun k1=>
  if (!y1) then
   k1 true
  else
   (I2 N a).bind fun y3=>
   k1 (!y3)
theorem Mg {N:Nat}{b:Sound}{a:Sound}{y:Bool}(h:O2 N b a=some y) :FunO S FJ [.p (.agg (A0 b)),.p (.agg (A0 a))] [] (pB y) ([]) []:=by
 unfold O2 at h;refine A3 hS Tryz.func175 ?_;refine kC hS h (T4 hS hL) (fun y1 h=>?_);refine Fy hS trivial (A7 hS) h 0 (fun z1=>⟨[(14,pB z1),(3,.reg 4000 0),(2,.reg 3000 0)],[(4000,.cells [pU a.Plus,pU a.Minus]),(3000,.cells [pU b.Plus,pU b.Minus])]⟩) (fun M1 k1 c h=>?_) (fun z1 h=>?_)
 ·refine kG hS h (fun h=>?_) (fun h=>?_)
  ·exact c _ [(3000,3000),(4000,4000)] _ true trivial h
  ·refine kC hS h (T4 hS hL) (fun y3 h=>?_);exact c _ [(3000,3000),(4000,4000)] _ (!y3) trivial h
 ·refine kI hS h ?_ ?_<;>intro h
  ·cases h;exact kR hS
  ·refine I4 hS trivial h (fun x3=>⟨[(5,pN x3),(3,.reg 4000 0),(2,.reg 3000 0)],[(4000,.cells [pU a.Plus,pU a.Minus]),(3000,.cells [pU b.Plus,pU b.Minus])]⟩) (ids:=[(3000,3000),(4000,4000)]) (fun _ _ _ _ _ f x3 g h=>?_);refine kI hS h ?_ ?_<;>intro h
   ·refine kC hS h (CO hS hL) (fun i h=>?_);refine Fy hS trivial (A7 hS) h 0 (fun z4=>⟨[(30,pB z4),(5,pN x3),(3,.reg 4000 0),(2,.reg 3000 0)],[(4000,.cells [pU a.Plus,pU a.Minus]),(3000,.cells [pU b.Plus,pU b.Minus])]⟩) (fun M4 k4 d h=>?_) (fun z4 h=>?_)
    ·refine kG hS h (fun h=>?_) (fun h=>?_)
     ·refine kC hS h (CO hS hL) (fun j h=>?_);exact d _ [(3000,3000),(4000,4000)] _ (j != i) trivial h
     ·exact d _ [(3000,3000),(4000,4000)] _ false trivial h
    ·refine kI hS h ?_ ?_<;>intro h
     ·cases h;exact kR hS
     ·exact g _ [(3000,3000),(4000,4000)] _ (wrap .i64 (x3+1)) trivial h
   ·cases h;exact kR hS
def P6 (N:Nat)(d:Sound)(b:Int)(a:Sound):Option (Sound×Int):=
 (I2 N d).bind fun y1=>
 lt (fun (z1:Bool)=>
  if z1 then
   some ((⟨0,0⟩:Sound),14)
  else
   if ((decide (16777215<b))||((E5 .and .u32 b (E5 .or .u32 a.Plus a.Minus)) != 0)) then
    some ((⟨0,0⟩:Sound),2)
   else
    Az5 N (fun c (x2:Int) (x3:Int) (x4:Int)=>
     if (decide (x4<24)) then
      if (0:Int)<=x4 then
       if ((E5 .and .u32 (shI .shr .u32 b x4) 1)==1) then
        (BN N (⟨x2,x3⟩:Sound) x4 0).bind fun f=>
        (W4 N a x4).bind fun j=>
        if (j != 0) then
         (W4 N a x4).bind fun l=>
         (BN N f x4 l).bind fun g=>
         c g.Plus g.Minus (wrap .i64 (x4+1))
        else
         c f.Plus f.Minus (wrap .i64 (x4+1))
       else
        (W4 N a x4).bind fun m=>
        if (m != 0) then
         (W4 N a x4).bind fun n=>
         (BN N (⟨x2,x3⟩:Sound) x4 n).bind fun i=>
         c i.Plus i.Minus (wrap .i64 (x4+1))
        else
         c x2 x3 (wrap .i64 (x4+1))
      else none
     else
      some ((⟨x2,x3⟩:Sound),0)
     ) d.Plus d.Minus 0
  ) fun k1=>
  if (!y1) then
   k1 true
  else
   (I2 N a).bind fun y3=>
   k1 (!y3)
theorem SL {N:Nat}{f:Sound}{c:Int}{d:Sound}{y:Sound×Int}(h:P6 N f c d=some y) :FunO S JM [.p (.agg (A0 f)),pU c,.p (.agg (A0 d))] [] (.tup [.p (.agg (A0 y.1)),pN y.2]) ([]) []:=by
 unfold P6 at h;refine A3 hS Tryz.func178 ?_;refine H3 hS trivial 5 4000 [pI .u32 f.Plus,pI .u32 f.Minus] ?_;refine H3 hS trivial 6 6000 [pI .u32 d.Plus,pI .u32 d.Minus] ?_;obtain⟨y1,e1,h⟩:=B7 h;refine B9 hS [] (by decide:(2:Nat)<=2) (T4 hS hL e1) ?_;refine Fy hS trivial (A7 hS) h 0 (fun z1=>⟨[(17,pB z1),(6,.reg 7000 0),(5,.p (.ptr [pI .u32 d.Plus,pI .u32 d.Minus])),(3,.p (.ptr [pI .u32 f.Plus,pI .u32 f.Minus])),(1,pU c)],[(7000,.cells [pU 0,pU 0])]⟩) (fun M1 k1 i h=>?_) (fun z1 h=>?_)
 ·refine kG hS h (fun h=>?_) (fun h=>?_)
  ·exact i _ [(7000,7000)] _ true trivial h
  ·obtain⟨y3,e3,h⟩:=B7 h;refine B9 hS [] (by decide:(2:Nat)<=2) (T4 hS hL e3) ?_;exact i _ [(7000,7000)] _ (!y3) trivial h
 ·refine kI hS h ?_ ?_<;>intro h
  ·cases h;exact kR hS
  ·refine kB hS (A7 hS) trivial trivial 9 (.o (.a (decide (16777215<c))) (.a ((E5 .and .u32 c (E5 .or .u32 d.Plus d.Minus)) != 0))) ?_;refine kI hS h ?_ ?_<;>intro h
   ·cases h;exact kR hS
   ·refine RQ hS (by decide:(2:Nat)<=2) h (fun x2 x3 x4=>⟨[(9,pN x4),(8,.reg 9000 0),(6,.reg 7000 0),(5,.p (.ptr [pI .u32 d.Plus,pI .u32 d.Minus])),(1,pU c)],[(9000,.cells [pU x2,pU x3]),(7000,.cells [pU 0,pU 0])]⟩) (ids:=[(7000,7000),(9000,9000)]) (fun _ _ _ _ _ n x2 x3 x4 g h=>?_);refine kI hS h ?_ ?_<;>intro h
    ·obtain⟨c16,h⟩:=D3 h;refine D0 hS c16 (b:=(E5 .and .u32 (shI .shr .u32 c x4) 1)==1) (fun c17=>?_) (fun c17=>?_)
     ·replace h:=itT c17 h;refine kC hS h (Il hS hL) (fun j h=>?_);obtain⟨q,e19,h⟩:=B7 h;refine B9 hS [] (by decide:(2:Nat)<=2) (CO hS hL e19) ?_;refine kI hS h ?_ ?_<;>intro h
      ·refine D4 hS trivial [2,4,5] ?_;obtain⟨r,e20,h⟩:=B7 h;refine R5 (by decide:(2:Nat)<=2) (CO hS hL e20) ?_;obtain⟨l,e21,h⟩:=B7 h;refine R5 trivial (Il hS hL e21) ?_;refine I7 trivial ?_;exact g _ [(7000,7000),(9000,9000)] _ l.Plus l.Minus (wrap .i64 (x4+1)) trivial h
      ·exact g _ [(7000,7000),(9000,9000)] _ j.Plus j.Minus (wrap .i64 (x4+1)) trivial h
     ·replace h:=itF c17 h;obtain⟨s,e22,h⟩:=B7 h;refine B9 hS [] (by decide:(2:Nat)<=2) (CO hS hL e22) ?_;refine kI hS h ?_ ?_<;>intro h
      ·refine D4 hS trivial [2,4,5] ?_;obtain⟨t,e23,h⟩:=B7 h;refine R5 (by decide:(2:Nat)<=2) (CO hS hL e23) ?_;obtain⟨m,e24,h⟩:=B7 h;refine R5 trivial (Il hS hL e24) ?_;refine I7 trivial ?_;exact g _ [(7000,7000),(9000,9000)] _ m.Plus m.Minus (wrap .i64 (x4+1)) trivial h
      ·exact g _ [(7000,7000),(9000,9000)] _ x2 x3 (wrap .i64 (x4+1)) trivial h
    ·cases h;exact kR hS
def Y7 (N:Nat)(d:Sound)(a:Sound)(b:Int):Option (Sound×Int):=
 (I2 N d).bind fun y1=>
 lt (fun (z1:Bool)=>
  if z1 then
   some ((⟨0,0⟩:Sound),14)
  else
   if (decide (16777215<b)) then
    some ((⟨0,0⟩:Sound),2)
   else
    Az5 N (fun c (x2:Int) (x3:Int) (x4:Int)=>
     if (decide (x4<24)) then
      if (0:Int)<=x4 then
       if ((E5 .and .u32 (shI .shr .u32 b x4) 1)==1) then
        (W4 N a x4).bind fun y8=>
        (BN N (⟨x2,x3⟩:Sound) x4 y8).bind fun y9=>
        c y9.Plus y9.Minus (wrap .i64 (x4+1))
       else
        c x2 x3 (wrap .i64 (x4+1))
      else none
     else
      some ((⟨x2,x3⟩:Sound),0)
     ) d.Plus d.Minus 0
  ) fun k1=>
  if (!y1) then
   k1 true
  else
   (I2 N a).bind fun y3=>
   k1 (!y3)
theorem Yn {N:Nat}{d:Sound}{a:Sound}{c:Int}{y:Sound×Int}(h:Y7 N d a c=some y) :FunO S OA [.p (.agg (A0 d)),.p (.agg (A0 a)),pU c] [] (.tup [.p (.agg (A0 y.1)),pN y.2]) ([]) []:=by
 unfold Y7 at h;refine A3 hS Tryz.func179 ?_;refine H3 hS trivial 4 4000 [pI .u32 d.Plus,pI .u32 d.Minus] ?_;refine H3 hS trivial 6 5000 [pI .u32 a.Plus,pI .u32 a.Minus] ?_;obtain⟨y1,e1,h⟩:=B7 h;refine B9 hS [] (by decide:(2:Nat)<=2) (T4 hS hL e1) ?_;refine Fy hS trivial (A7 hS) h 0 (fun z1=>⟨[(17,pB z1),(6,.reg 7000 0),(4,.p (.ptr [pI .u32 a.Plus,pI .u32 a.Minus])),(3,.p (.ptr [pI .u32 d.Plus,pI .u32 d.Minus])),(2,pU c)],[(7000,.cells [pU 0,pU 0])]⟩) (fun M1 k1 f h=>?_) (fun z1 h=>?_)
 ·refine kG hS h (fun h=>?_) (fun h=>?_)
  ·exact f _ [(7000,7000)] _ true trivial h
  ·obtain⟨y3,e3,h⟩:=B7 h;refine B9 hS [] (by decide:(2:Nat)<=2) (T4 hS hL e3) ?_;exact f _ [(7000,7000)] _ (!y3) trivial h
 ·refine kI hS h ?_ ?_<;>intro h
  ·cases h;exact kR hS
  ·refine kI hS h ?_ ?_<;>intro h
   ·cases h;exact kR hS
   ·refine RQ hS (by decide:(2:Nat)<=2) h (fun x2 x3 x4=>⟨[(9,pN x4),(8,.reg 9000 0),(6,.reg 7000 0),(4,.p (.ptr [pI .u32 a.Plus,pI .u32 a.Minus])),(2,pU c)],[(9000,.cells [pU x2,pU x3]),(7000,.cells [pU 0,pU 0])]⟩) (ids:=[(7000,7000),(9000,9000)]) (fun _ _ _ _ _ i x2 x3 x4 g h=>?_);refine kI hS h ?_ ?_<;>intro h
    ·obtain⟨c12,h⟩:=D3 h;refine D0 hS c12 (b:=(E5 .and .u32 (shI .shr .u32 c x4) 1)==1) (fun c13=>?_) (fun c13=>?_)
     ·replace h:=itT c13 h;refine D4 hS trivial [2,4,5] ?_;obtain⟨y8,e8,h⟩:=B7 h;refine R5 (by decide:(2:Nat)<=2) (CO hS hL e8) ?_;obtain⟨y9,e9,h⟩:=B7 h;refine R5 trivial (Il hS hL e9) ?_;refine I7 trivial ?_;exact g _ [(7000,7000),(9000,9000)] _ y9.Plus y9.Minus (wrap .i64 (x4+1)) trivial h
     ·replace h:=itF c13 h;exact g _ [(7000,7000),(9000,9000)] _ x2 x3 (wrap .i64 (x4+1)) trivial h
    ·cases h;exact kR hS
def Q3 (N:Nat)(a:Sound):Option Bool:=
 some ((((E5 .and .u32 a.Plus a.Minus)==0)&&(decide (a.Plus<16777216)))&&(decide (a.Minus<16777216)))
theorem Mh {N:Nat}{b:Sound}{y:Bool}(h:Q3 N b=some y) :FunO S LC [.p (.agg (A0 b))] [] (pB y) ([]) []:=by unfold Q3 at h;refine A3 hS Tryz.func95 ?_;refine kB hS (A7 hS) trivial trivial 9 (.n (.n (.a ((E5 .and .u32 b.Plus b.Minus)==0)) (.a (decide (b.Plus<16777216)))) (.a (decide (b.Minus<16777216)))) ?_;cases h;exact kR hS
def W5 (N:Nat)(a:Sl Sound):Option Int:=
 if (decide (32<(a.n:Int))) then
  some 11
 else
  R6 N (fun b (x1:Int)=>
   if (decide (x1<(a.n:Int))) then
    if ((0:Int)<=x1/\x1<(a.n:Int))then
     (Q3 N (a.g x1.toNat)).bind fun y3=>
     if (!y3) then
      some 14
     else
      b (wrap .i64 (x1+1))
    else none
   else
    some 0
   ) 0
theorem EJ {N:Nat}{a:Sl Sound}{y:Int}(h:W5 N a=some y) :FunO S Lw [.p (vSl 2 A0 a)] [] (pN y) ([]) []:=by
 unfold W5 at h;refine A3 hS Tryz.func71 ?_;refine kI hS h ?_ ?_<;>intro h
 ·cases h;exact kR hS
 ·refine I4 hS trivial h (fun x1=>⟨[(3,pN x1),(0,.p (vSl 2 A0 a))],[]⟩) (ids:=[]) (fun _ _ _ _ _ b x1 c h=>?_);refine kI hS h ?_ ?_<;>intro h
  ·obtain⟨c9,h⟩:=D3 h;obtain⟨y3,e3,h⟩:=B7 h;refine B9 hS [] (And.intro c9 (by decide:(2:Nat)<=2)) (Mh hS hL e3) ?_;refine kI hS h ?_ ?_<;>intro h
   ·cases h;exact kR hS
   ·exact c _ [] _ (wrap .i64 (x1+1)) trivial h
  ·cases h;exact kR hS
def T5 (N:Nat)(a:Sl Sound)(b:Sl Sound):Option Bool:=
 if ((a.n:Int) != (b.n:Int)) then
  some false
 else
  R6 N (fun c (x1:Int)=>
   if (decide (x1<(a.n:Int))) then
    if (((0:Int)<=x1/\x1<(a.n:Int))/\((0:Int)<=x1/\x1<(b.n:Int)))then
     if ((((a.g x1.toNat).Plus==(b.g x1.toNat).Plus)&&((a.g x1.toNat).Minus==(b.g x1.toNat).Minus)) != true) then
      some false
     else
      c (wrap .i64 (x1+1))
    else none
   else
    some true
   ) 0
theorem EK {N:Nat}{a:Sl Sound}{b:Sl Sound}{y:Bool}(h:T5 N a b=some y) :FunO S Ln [.p (vSl 2 A0 a),.p (vSl 2 A0 b)] [] (pB y) ([]) []:=by
 unfold T5 at h;refine A3 hS Tryz.func20 ?_;refine kI hS h ?_ ?_<;>intro h
 ·cases h;exact kR hS
 ·refine I4 hS trivial h (fun x1=>⟨[(5,pN x1),(1,.p (vSl 2 A0 b)),(0,.p (vSl 2 A0 a))],[]⟩) (ids:=[]) (fun _ _ _ _ _ c x1 d h=>?_);refine kI hS h ?_ ?_<;>intro h
  ·refine D4 hS trivial [2,3,6,7] ?_;obtain⟨c9,h⟩:=D3 h;refine I7 (And.intro (And.intro (And.intro (And.intro c9.1 (by decide:(2:Nat)<=2)) c9.2) (by decide:(2:Nat)<=2)) (by decide +kernel:As3 Tryz.prog B0=true)) ?_;refine kI hS h ?_ ?_<;>intro h
   ·cases h;exact kR hS
   ·exact d _ [] _ (wrap .i64 (x1+1)) trivial h
  ·cases h;exact kR hS
def Cr (N:Nat)(a:Sl Sound):Option (Sl Sound):=
 Q2 N (fun b (x1:Sl Sound) (x2:Int)=>
  if (decide (x2<(a.n:Int))) then
   if (((0:Int)<=x2/\x2<(a.n:Int))/\((x1.n+(Sl.of [a.g x2.toNat]:Sl Sound).n)*8<=140737488355328/\x1.n+(Sl.of [a.g x2.toNat]:Sl Sound).n<=140737488355328))then
    b (x1.push (a.g x2.toNat)) (wrap .i64 (x2+1))
   else none
  else
   some x1
  ) (Sl.nil:Sl Sound) 0
theorem Yo {N:Nat}{a:Sl Sound}{y:Sl Sound}(h:Cr N a=some y) :FunO S Ov [.p (vSl 2 A0 a)] [] (.vec 0) ([.vec B0 2 y.n (fun i=>A0 (y.g i)) true]) []:=by
 unfold Cr at h;refine A3 hS Tryz.func132 ?_;refine F9 hS trivial h (fun x1 x2=>⟨[(4,pN x2),(3,.vec 4500),(0,.p (vSl 2 A0 a))],[(4500,.vec B0 2 x1.n (fun i=>A0 (x1.g i)) false)]⟩) (ids:=[]) (fun _ _ _ _ _ b x1 x2 d h=>?_);refine kI hS h ?_ ?_<;>intro h
 ·obtain⟨c4,h⟩:=D3 h;exact d _ [(4500,18000)] _ (x1.push (a.g x2.toNat)) (wrap .i64 (x2+1)) (And.intro (And.intro (And.intro c4.1 (by decide:(2:Nat)<=2)) (rfl:true=true)) c4.2) h (hle:=klR [(2,.fn (x1.n+1) (x1.push (a.g x2.toNat)).n (Q0 x1.n (fun i=>A0 (x1.g i)) (D5 [pI .u32 0,pI .u32 0] [(0,A0 (a.g x2.toNat))])) (fun i=>A0 ((x1.push (a.g x2.toNat)).g i)))] (al1 ⟨rfl,Et (c:=A0) (v:=x1) (x:=a.g x2.toNat) (z:=[(pI .u32 0),pI .u32 0]) same rfl rfl⟩ al0))
 ·obtain rfl:=B8 h;exact A9 hS trivial ⟨[(2,.vec 4500)],[(4500,.vec B0 2 x1.n (fun i=>A0 (x1.g i)) true)]⟩ [4500] (ids:=[(4500,4500)]) ⟨rfl,rfl,rfl⟩
def AL (N:Nat)(a:Sound):Option Bool:=
 some (((E5 .and .u32 a.Plus a.Minus)==0)&&((shI .shr .u32 (E5 .or .u32 a.Plus a.Minus) 24)==0))
theorem SM {N:Nat}{a:Sound}{y:Bool}(h:AL N a=some y) :FunO S JG [.p (.agg (A0 a))] [] (pB y) ([]) []:=by
 unfold AL at h;refine A3 hS Tryz.func93 ?_;obtain⟨t1,c⟩:∃x:Bool,x=(((E5 .and .u32 a.Plus a.Minus)==0)&&((shI .shr .u32 (E5 .or .u32 a.Plus a.Minus) 24)==0)):=⟨_,rfl⟩;refine PI hS trivial (A7 hS) 0 ⟨[(2,pB t1)],[]⟩ (fun M1 d=>?_) ?_
 ·refine Fx hS trivial (b:=(E5 .and .u32 a.Plus a.Minus)==0) (fun c2=>?_) (fun c2=>?_)
  ·exact d _ [] _ (by decide:(0:Int)<=24) (hle:=klR [(0,.eq (.bb ((shI .shr .u32 (E5 .or .u32 a.Plus a.Minus) 24)==0)) (.bb t1))] (al1 (by simp only[c,c2,Leaf.ok,pm,if_true,if_false]) al0))
  ·exact d _ [] _ trivial (hle:=klR [(0,.eq (.bb false) (.bb t1))] (al1 (by simp only[c,c2,Leaf.ok,pm,if_true,if_false]) al0))
 ·subst c;cases h;exact kR hS
def K3 (N:Nat)(a:Sl Sound):Option Int:=
 if (decide (32<(a.n:Int))) then
  some 11
 else
  R6 N (fun b (x1:Int)=>
   if (decide (x1<(a.n:Int))) then
    if ((0:Int)<=x1/\x1<(a.n:Int))then
     (AL N (a.g x1.toNat)).bind fun y3=>
     if (!y3) then
      some 14
     else
      b (wrap .i64 (x1+1))
    else none
   else
    some 0
   ) 0
theorem Dk {N:Nat}{a:Sl Sound}{y:Int}(h:K3 N a=some y) :FunO S JC [.p (vSl 2 A0 a)] [] (pN y) ([]) []:=by
 unfold K3 at h;refine A3 hS Tryz.func69 ?_;refine kI hS h ?_ ?_<;>intro h
 ·cases h;exact kR hS
 ·refine I4 hS trivial h (fun x1=>⟨[(10,pN x1),(9,pN (a.n:Int)),(8,.p (vSl 2 A0 a))],[]⟩) (ids:=[]) (fun _ _ _ _ _ b x1 c h=>?_);refine kI hS h ?_ ?_<;>intro h
  ·obtain⟨c9,h⟩:=D3 h;obtain⟨y3,e3,h⟩:=B7 h;refine B9 hS [] (And.intro c9 (by decide:(2:Nat)<=2)) (SM hS hL e3) ?_;refine kI hS h ?_ ?_<;>intro h
   ·cases h;exact kR hS
   ·exact c _ [] _ (wrap .i64 (x1+1)) trivial h
  ·cases h;exact kR hS
def E7 (N:Nat)(a:Sl Sound)(b:Sl Sound):Option Bool:=
 if ((a.n:Int) != (b.n:Int)) then
  some false
 else
  R6 N (fun c (x1:Int)=>
   if (decide (x1<(a.n:Int))) then
    if (((0:Int)<=x1/\x1<(a.n:Int))/\((0:Int)<=x1/\x1<(b.n:Int)))then
     if ((((a.g x1.toNat).Plus==(b.g x1.toNat).Plus)&&((a.g x1.toNat).Minus==(b.g x1.toNat).Minus)) != true) then
      some false
     else
      c (wrap .i64 (x1+1))
    else none
   else
    some true
   ) 0
theorem Ab {N:Nat}{a:Sl Sound}{b:Sl Sound}{y:Bool}(h:E7 N a b=some y) :FunO S M0 [.p (vSl 2 A0 a),.p (vSl 2 A0 b)] [] (pB y) ([]) []:=by
 unfold E7 at h;refine A3 hS Tryz.func94 ?_;refine kI hS h ?_ ?_<;>intro h
 ·cases h;exact kR hS
 ·refine I4 hS trivial h (fun x1=>⟨[(13,pN x1),(12,pN (a.n:Int)),(1,.p (vSl 2 A0 b)),(0,.p (vSl 2 A0 a))],[]⟩) (ids:=[]) (fun _ _ _ _ _ c x1 d h=>?_);refine kI hS h ?_ ?_<;>intro h
  ·refine D4 hS trivial [2,3,6,7] ?_;obtain⟨c9,h⟩:=D3 h;refine I7 (And.intro (And.intro (And.intro (And.intro c9.1 (by decide:(2:Nat)<=2)) c9.2) (by decide:(2:Nat)<=2)) (by decide +kernel:As3 Tryz.prog B0=true)) ?_;refine kI hS h ?_ ?_<;>intro h
   ·cases h;exact kR hS
   ·exact d _ [] _ (wrap .i64 (x1+1)) trivial h
  ·cases h;exact kR hS
def N7 (N:Nat)(a:Sl Sound)(b:Sl Sound):Option Bool:=
 (E7 N a b).bind fun y1=>
 some y1
theorem SN {N:Nat}{a:Sl Sound}{b:Sl Sound}{y:Bool}(h:N7 N a b=some y) :FunO S JD [.p (vSl 2 A0 a),.p (vSl 2 A0 b)] [] (pB y) ([]) []:=by unfold N7 at h;refine A3 hS Tryz.func70 ?_;refine kC hS h (Ab hS hL) (fun y1 h=>?_);cases h;exact kR hS
def N8 (N:Nat)(a:Sound):Option Bool:=
 some (((E5 .and .u32 a.Plus a.Minus)==0)&&((shI .shr .u32 (E5 .or .u32 a.Plus a.Minus) 24)==0))
theorem Dl {N:Nat}{a:Sound}{y:Bool}(h:N8 N a=some y) :FunO S JK [.p (.agg (A0 a))] [] (pB y) ([]) []:=by
 unfold N8 at h;refine A3 hS Tryz.func141 ?_;obtain⟨t1,c⟩:∃x:Bool,x=(((E5 .and .u32 a.Plus a.Minus)==0)&&((shI .shr .u32 (E5 .or .u32 a.Plus a.Minus) 24)==0)):=⟨_,rfl⟩;refine PI hS trivial (A7 hS) 0 ⟨[(2,pB t1)],[]⟩ (fun M1 d=>?_) ?_
 ·refine Fx hS trivial (b:=(E5 .and .u32 a.Plus a.Minus)==0) (fun c2=>?_) (fun c2=>?_)
  ·exact d _ [] _ (by decide:(0:Int)<=24) (hle:=klR [(0,.eq (.bb ((shI .shr .u32 (E5 .or .u32 a.Plus a.Minus) 24)==0)) (.bb t1))] (al1 (by simp only[c,c2,Leaf.ok,pm,if_true,if_false]) al0))
  ·exact d _ [] _ trivial (hle:=klR [(0,.eq (.bb false) (.bb t1))] (al1 (by simp only[c,c2,Leaf.ok,pm,if_true,if_false]) al0))
 ·subst c;cases h;exact kR hS
def O3 (N:Nat)(b:Int):Option (Nat->Int):=
 Q2 N (fun a (x1:Nat->Int) (x2:Int)=>
  if (decide (x2<(wrap .i64 (b+1)))) then
   if (((0:Int)<=x2/\((0:Int)<=x2/\x2<33))/\(0+x2.toNat*1)<33)then
    a (Lh x1 (0+x2.toNat*1) (shI .shl .u64 1 x2)) (wrap .i64 (x2+1))
   else none
  else
   some x1
  ) (fun _=>0) 0
theorem CP {N:Nat}{a:Int}{y:Nat->Int}(h:O3 N a=some y) :FunO S FN [pN a] [] (.p (.agg (cA 33 (pI .u64) y))) ([]) []:=by
 unfold O3 at h;refine A3 hS Tryz.func233 ?_;refine F9 hS trivial h (fun x1 x2=>⟨[(7,pN x2),(6,pN (wrap .i64 (a+1))),(3,.reg 4000 0),(2,.reg 3000 0)],[(4000,.arr 33 (fun i=>pI .u64 (x1 i))),(3000,.arr 33 (fun i=>pI .u64 ((fun _=>0) i)))]⟩) (ids:=[(3000,3000),(4000,4000)]) (fun _ _ _ _ _ b x1 x2 d h=>?_) (hle:=klR [(2,.fn 33 33 (fun i=>[(fun i=>(List.replicate 33 (pI .u64 0)).getD i default) i]) (fun i=>[pI .u64 ((fun _=>0) i)])),(3,.fn 33 33 (fun i=>[(fun i=>(List.replicate 33 (pI .u64 0)).getD i default) i]) (fun i=>[pI .u64 ((fun _=>0) i)]))] (al1 ⟨rfl,Br (z:=pI .u64 0) rfl⟩ (al1 ⟨rfl,Br (z:=pI .u64 0) rfl⟩ al0)));refine kI hS h ?_ ?_<;>intro h
 ·obtain⟨c4,h⟩:=D3 h;exact d _ [(3000,3000),(4000,4000)] _ (Lh x1 (0+x2.toNat*1) (shI .shl .u64 1 x2)) (wrap .i64 (x2+1)) c4 h (hle:=klR [(2,.fn 33 33 (fun i=>[(fun i=>if i=(0+x2.toNat*1)then (pI .u64 (shI .shl .u64 1 x2))else (fun i=>pI .u64 (x1 i)) i) i]) (fun i=>[pI .u64 (Lh x1 (0+x2.toNat*1) (shI .shl .u64 1 x2) i)]))] (al1 ⟨rfl,AB0 (c:=pI .u64) (v:=x1) (x:=shI .shl .u64 1 x2) (fun _ _=>rfl) rfl⟩ al0))
 ·obtain rfl:=B8 h;exact A9 hS (And.intro rfl (F3 _ _):(0:Nat)=0/\(BW 33 (fun i=>pI .u64 (x1 i))).length=33) ⟨[(2,.reg 3000 0)],[(3000,.arr 33 (fun i=>pI .u64 (x1 i)))]⟩ [] (ids:=[(3000,3000)]) ⟨rfl,rfl,rfl⟩ (hle:=klR [(0,.fn 33 33 (fun i=>[(fun i=>(cA 33 (pI .u64) x1).getD i default) i]) (fun i=>[pI .u64 (x1 i)]))] (al1 ⟨rfl,E2 33 (fun i=>pI .u64 (x1 i))⟩ al0))
def K9 (N:Nat)(p_x:Nat->Int)(b:Nat->Int):Option (Nat->Int):=
 Q2 N (fun a (x1:Nat->Int) (x2:Int)=>
  if (decide (x2<33)) then
   if (((0:Int)<=x2/\x2<33)/\(0+x2.toNat*1)<33)then
    if (((((0:Int)<=x2/\x2<33)/\(0+x2.toNat*1)<33)/\((0:Int)<=x2/\x2<33))/\(0+x2.toNat*1)<33)then
     a (Lh x1 (0+x2.toNat*1) (E5 .or .u64 (x1 (0+x2.toNat*1)) (b (0+x2.toNat*1)))) (wrap .i64 (x2+1))
    else none
   else none
  else
   some x1
  ) p_x 0
theorem Dm {N:Nat}{p_x:Nat->Int}{a:Nat->Int}{y:Nat->Int}(h:K9 N p_x a=some y) :FunO S Di [.reg 0 0,.reg 1 0] [.arr 33 (fun i=>pI .u64 (p_x i)),.arr 33 (fun i=>pI .u64 (a i))] (.tup []) ([.arr 33 (fun i=>pI .u64 (y i)),.arr 33 (fun i=>pI .u64 (a i))]) [true,true]:=by
 unfold K9 at h;refine A3 hS Tryz.func231 ?_;refine F9 hS trivial h (fun x1 x2=>⟨[(7,pN x2),(6,.reg 1 0),(0,.reg 0 0)],[(1,.arr 33 (fun i=>pI .u64 (a i))),(0,.arr 33 (fun i=>pI .u64 (x1 i)))]⟩) (ids:=[(0,0),(1,1)]) (fun _ _ _ _ _ b x1 x2 d h=>?_);refine kI hS h ?_ ?_<;>intro h
 ·refine PJ hS trivial ?_;obtain⟨c8,h⟩:=D3 h;refine I7 c8 ?_;refine PJ hS trivial ?_;obtain⟨c9,h⟩:=D3 h;refine I7 c9 ?_;exact d _ [(0,0),(1,1)] _ (Lh x1 (0+x2.toNat*1) (E5 .or .u64 (x1 (0+x2.toNat*1)) (a (0+x2.toNat*1)))) (wrap .i64 (x2+1)) trivial h (hle:=klR [(2,.fn 33 33 (fun i=>[(fun i=>if i=(0+x2.toNat*1)then (pI .u64 (E5 .or .u64 (x1 (0+x2.toNat*1)) (a (0+x2.toNat*1))))else (fun i=>pI .u64 (x1 i)) i) i]) (fun i=>[pI .u64 (Lh x1 (0+x2.toNat*1) (E5 .or .u64 (x1 (0+x2.toNat*1)) (a (0+x2.toNat*1))) i)]))] (al1 ⟨rfl,AB0 (c:=pI .u64) (v:=x1) (x:=E5 .or .u64 (x1 (0+x2.toNat*1)) (a (0+x2.toNat*1))) (fun _ _=>rfl) rfl⟩ al0))
 ·obtain rfl:=B8 h;exact A9 hS trivial ⟨[],[(1,.arr 33 (fun i=>pI .u64 (a i))),(0,.arr 33 (fun i=>pI .u64 (x1 i)))]⟩ [0,1] (ids:=[(0,0),(1,1)]) ⟨rfl,rfl,rfl⟩
def Y8 (N:Nat)(b:Sl Sound)(a:Int):Option Int:=
 if ((decide (a<0))||(decide ((b.n:Int)<a))) then
  some 3
 else
  some 0
theorem Im {N:Nat}{c:Sl Sound}{b:Int}{y:Int}(h:Y8 N c b=some y) :FunO S Ih [.p (vSl 2 A0 c),pN b] [] (pN y) ([]) []:=by
 unfold Y8 at h;refine A3 hS Tryz.func204 ?_;refine kB hS (A7 hS) trivial trivial 5 (.o (.a (decide (b<0))) (.a (decide ((c.n:Int)<b)))) ?_;refine kI hS h ?_ ?_<;>intro h
 ·cases h;exact kR hS
 ·cases h;exact kR hS
def An (N:Nat)(a:Pat):Option Int:=
 if (if (a.Kind==0) then a.Kind==0 else (if (a.Kind==2) then a.Kind==2 else a.Kind==6)) then
  lt (fun (z1:Bool)=>
   if z1 then
    some 2
   else
    (N8 N a.Is).bind fun y1=>
    if (!y1) then
     some 14
    else
     some 0
   ) fun k1=>
   if (((a.Is.Plus==0)&&(a.Is.Minus==0)) != true) then
    k1 true
   else
    if a.Not then
     k1 true
    else
     if (a.Min != 0) then
      k1 true
     else
      if (a.Max != 0) then
       k1 true
      else
       k1 (decide (0<(a.L.n:Int)))
 else
  if (a.Kind==1) then
   lt (fun (z2:Bool)=>
    if z2 then
     some 2
    else
     (N8 N a.Is).bind fun y2=>
     if (!y2) then
      some 14
     else
      some 0
    ) fun k2=>
    if (((0==0)&&(0==0)) != true) then
     k2 true
    else
     if (a.Min != 0) then
      k2 true
     else
      if (a.Max != 0) then
       k2 true
      else
       k2 (decide (0<(a.L.n:Int)))
  else
   lt (fun (z3:Int×Int)=>
    if (((((((a.Is.Plus==0)&&(a.Is.Minus==0)) != true)||a.Not)||(z3.1 != 0))||(z3.2 != 0))||(decide (0<0))) then
     some 2
    else
     (N8 N a.Is).bind fun y3=>
     if (!y3) then
      some 14
     else
      some 0
    ) fun k3=>
    if (if (a.Kind==3) then a.Kind==3 else a.Kind==4) then
     k3 (a.Min,a.Max)
    else
     if (a.Kind==5) then
      if (((((a.L.n:Int) != 1)||(decide (a.Min<0)))||(decide (32<a.Min)))||((a.Max != (-1))&&((decide (a.Max<a.Min))||(decide (32<a.Max))))) then
       some 2
      else
       k3 (0,0)
     else
      some 2
theorem Nn {N:Nat}{c:Pat}{y:Int}(h:An N c=some y) :FunO S GO [.p (.agg (B3 c))] [] (pN y) ([]) []:=by
 unfold An at h;refine A3 hS Tryz.func121 ?_;obtain⟨t1,f⟩:∃x:Bool,x=(if (c.Kind==0) then c.Kind==0 else (if (c.Kind==2) then c.Kind==2 else c.Kind==6)):=⟨_,rfl⟩;refine PI hS trivial (A7 hS) 0 ⟨[(8,pB t1),(7,pN c.Kind),(3,.reg 4000 0),(1,.reg 2000 0)],[(4000,.cells [pN 0,pU c.Is.Plus,pU c.Is.Minus,pB c.Not,pN c.Min,pN c.Max,.p (.sl false 7 c.L.n (AQ c))]),(2000,.cells ((B3 c).map .p))]⟩ (fun M1 l=>?_) ?_
 ·refine D0 hS trivial (b:=c.Kind==0) (fun c3=>?_) (fun c3=>?_)
  ·exact l _ [(2000,2000),(4000,4000)] _ trivial (hle:=klR [(0,.eq (.bb (c.Kind==0)) (.bb t1))] (al1 (by simp only[f,c3,Leaf.ok,pm,if_true,if_false]) al0))
  ·refine D0 hS trivial (b:=c.Kind==2) (fun c4=>?_) (fun c4=>?_)
   ·exact l _ [(2000,2000),(4000,4000)] _ trivial (hle:=klR [(0,.eq (.bb (c.Kind==2)) (.bb t1))] (al1 (by simp only[f,c3,c4,Leaf.ok,pm,if_true,if_false]) al0))
   ·exact l _ [(2000,2000),(4000,4000)] _ trivial (hle:=klR [(0,.eq (.bb (c.Kind==6)) (.bb t1))] (al1 (by simp only[f,c3,c4,Leaf.ok,pm,if_true,if_false]) al0))
 ·subst f;refine kI hS h ?_ ?_<;>intro h
  ·refine Fy hS (by decide +kernel:As3 Tryz.prog B0=true) (A7 hS) h 0 (fun z1=>⟨[(57,pB z1),(1,.reg 2000 0)],[(2000,.cells ((B3 c).map .p))]⟩) (fun M3 k1 d h=>?_) (fun z1 h=>?_)
   ·refine kG hS h (fun h=>?_) (fun h=>?_)
    ·exact d _ [(2000,2000)] _ true trivial h
    ·refine kG hS h (fun h=>?_) (fun h=>?_)
     ·exact d _ [(2000,2000)] _ true trivial h
     ·refine kG hS h (fun h=>?_) (fun h=>?_)
      ·exact d _ [(2000,2000)] _ true trivial h
      ·refine kG hS h (fun h=>?_) (fun h=>?_)
       ·exact d _ [(2000,2000)] _ true trivial h
       ·refine I1 hS trivial 79 ⟨[(78,.p (vSl 7 B3 c.L)),(76,.p (.v (.bool false))),(1,.reg 2000 0)],[(2000,.cells ((B3 c).map .p))]⟩ (ids:=[(2000,2000)]) ?_ (hle:=klR [(0,.fn c.L.n c.L.n (AQ c) (fun i=>B3 (c.L.g i)))] (al1 ⟨rfl,K7 c⟩ al0));exact d _ [(2000,2000)] _ (decide (0<(c.L.n:Int))) trivial h
   ·refine kI hS h ?_ ?_<;>intro h
    ·cases h;exact kR hS
    ·refine kC hS h (Dl hS hL) (fun y1 h=>?_);refine kI hS h ?_ ?_<;>intro h
     ·cases h;exact kR hS
     ·cases h;exact kR hS
  ·refine kI hS h ?_ ?_<;>intro h
   ·refine Fy hS (by decide +kernel:As3 Tryz.prog B0=true) (A7 hS) h 0 (fun z2=>⟨[(57,pB z2),(1,.reg 2000 0)],[(2000,.cells ((B3 c).map .p))]⟩) (fun M5 k2 j h=>?_) (fun z2 h=>?_)
    ·refine kG hS h (fun h=>?_) (fun h=>?_)
     ·exact j _ [(2000,2000)] _ true trivial h
     ·refine Fx hS trivial (b:=false) (fun c54=>?_) (fun c54=>?_)
      ·exact Bool.noConfusion ((rfl:false=false).symm.trans c54)
      ·refine kG hS h (fun h=>?_) (fun h=>?_)
       ·exact j _ [(2000,2000)] _ true trivial h
       ·refine kG hS h (fun h=>?_) (fun h=>?_)
        ·exact j _ [(2000,2000)] _ true trivial h
        ·refine I1 hS trivial 79 ⟨[(78,.p (vSl 7 B3 c.L)),(76,.p (.v (.bool false))),(1,.reg 2000 0)],[(2000,.cells ((B3 c).map .p))]⟩ (ids:=[(2000,2000)]) ?_ (hle:=klR [(0,.fn c.L.n c.L.n (AQ c) (fun i=>B3 (c.L.g i)))] (al1 ⟨rfl,K7 c⟩ al0));exact j _ [(2000,2000)] _ (decide (0<(c.L.n:Int))) trivial h
    ·refine kI hS h ?_ ?_<;>intro h
     ·cases h;exact kR hS
     ·refine kC hS h (Dl hS hL) (fun y2 h=>?_);refine kI hS h ?_ ?_<;>intro h
      ·cases h;exact kR hS
      ·cases h;exact kR hS
   ·obtain⟨t4,m⟩:∃x:Bool,x=(if (c.Kind==3) then c.Kind==3 else c.Kind==4):=⟨_,rfl⟩;refine PI hS trivial (A7 hS) 0 ⟨[(17,pB t4),(7,pN c.Kind),(3,.reg 4000 0),(1,.reg 2000 0)],[(4000,.cells [pN 0,pU c.Is.Plus,pU c.Is.Minus,pB c.Not,pN c.Min,pN c.Max,.p (.sl false 7 c.L.n (AQ c))]),(2000,.cells ((B3 c).map .p))]⟩ (fun M6 q=>?_) ?_
    ·refine D0 hS trivial (b:=c.Kind==3) (fun c60=>?_) (fun c60=>?_)
     ·exact q _ [(2000,2000),(4000,4000)] _ trivial (hle:=klR [(0,.eq (.bb (c.Kind==3)) (.bb t4))] (al1 (by simp only[m,c60,Leaf.ok,pm,if_true,if_false]) al0))
     ·exact q _ [(2000,2000),(4000,4000)] _ trivial (hle:=klR [(0,.eq (.bb (c.Kind==4)) (.bb t4))] (al1 (by simp only[m,c60,Leaf.ok,pm,if_true,if_false]) al0))
    ·subst m;refine Fy hS trivial (A7 hS) h 0 (fun z3=>⟨[(3,.reg 4000 0),(1,.reg 2000 0)],[(4000,.cells [pN 0,pU c.Is.Plus,pU c.Is.Minus,pB c.Not,pN z3.1,pN z3.2,.p F8]),(2000,.cells ((B3 c).map .p))]⟩) (fun M7 k3 r h=>?_) (fun z3 h=>?_)
     ·refine kI hS h ?_ ?_<;>intro h
      ·exact r _ [(2000,2000),(4000,4000)] _ (c.Min,c.Max) trivial h
      ·refine kI hS h ?_ ?_<;>intro h
       ·refine I1 hS trivial 25 ⟨[(24,.p (vSl 7 B3 c.L)),(3,.reg 4000 0),(1,.reg 2000 0)],[(4000,.cells [pN 0,pU c.Is.Plus,pU c.Is.Minus,pB c.Not,pN c.Min,pN c.Max,.p (.sl false 7 c.L.n (AQ c))]),(2000,.cells ((B3 c).map .p))]⟩ (ids:=[(2000,2000),(4000,4000)]) ?_ (hle:=klR [(0,.fn c.L.n c.L.n (AQ c) (fun i=>B3 (c.L.g i)))] (al1 ⟨rfl,K7 c⟩ al0));refine kB hS (A7 hS) trivial trivial 26 (.o (.o (.o (.a ((c.L.n:Int) != 1)) (.a (decide (c.Min<0)))) (.a (decide (32<c.Min)))) (.n (.a (c.Max != (-1))) (.o (.a (decide (c.Max<c.Min))) (.a (decide (32<c.Max)))))) ?_;refine kI hS h ?_ ?_<;>intro h
        ·cases h;exact kR hS
        ·exact r _ [(2000,2000),(4000,4000)] _ (0,0) trivial h
       ·cases h;exact kR hS
     ·refine kB hS (A7 hS) (by decide +kernel:As3 Tryz.prog B0=true) trivial 19 (.o (.o (.o (.o (.a (((c.Is.Plus==0)&&(c.Is.Minus==0)) != true)) (.a c.Not)) (.a (z3.1 != 0))) (.a (z3.2 != 0))) (.a (decide (0<0)))) ?_;refine kI hS h ?_ ?_<;>intro h
      ·cases h;exact kR hS
      ·refine kC hS h (Dl hS hL) (fun y3 h=>?_);refine kI hS h ?_ ?_<;>intro h
       ·cases h;exact kR hS
       ·cases h;exact kR hS
def Eb (N:Nat)(a:Pat):Option Int:=
 if ((decide (a.Kind<0))||(decide (6<a.Kind))) then
  some 2
 else
  if ((a.Kind != 1)&&((((a.Is.Plus==0)&&(a.Is.Minus==0)) != true)||a.Not)) then
   some 2
  else
   lt (fun (z1:Bool)=>
    if z1 then
     some 2
    else
     if ((a.Kind != 5)&&((a.Min != 0)||(a.Max != 0))) then
      some 2
     else
      lt (fun (z2:Bool)=>
       if z2 then
        some 2
       else
        (Q3 N a.Is).bind fun y1=>
        if (!y1) then
         some 14
        else
         some 0
       ) fun k2=>
       if (a.Kind==5) then
        if ((a.L.n:Int) != 1) then
         k2 true
        else
         if (decide (a.Min<0)) then
          k2 true
         else
          if (decide (32<a.Min)) then
           k2 true
          else
           if (a.Max != (-1)) then
            if (decide (a.Max<a.Min)) then
             k2 true
            else
             k2 (decide (32<a.Max))
           else
            k2 false
       else
        k2 false
    ) fun k1=>
    if (a.Kind != 3) then
     if (a.Kind != 4) then
      if (a.Kind != 5) then
       k1 (decide (0<(a.L.n:Int)))
      else
       k1 false
     else
      k1 false
    else
     k1 false
theorem Yp {N:Nat}{c:Pat}{y:Int}(h:Eb N c=some y) :FunO S Ow [.p (.agg (B3 c))] [] (pN y) ([]) []:=by
 unfold Eb at h;refine A3 hS Tryz.func146 ?_;refine kB hS (A7 hS) trivial trivial 4 (.o (.a (decide (c.Kind<0))) (.a (decide (6<c.Kind)))) ?_;refine kI hS h ?_ ?_<;>intro h
 ·cases h;exact kR hS
 ·obtain⟨t1,f⟩:∃x:Bool,x=((c.Kind != 1)&&((((c.Is.Plus==0)&&(c.Is.Minus==0)) != true)||c.Not)):=⟨_,rfl⟩;refine PI hS trivial (A7 hS) 0 ⟨[(23,pB t1),(1,.reg 2000 0)],[(2000,.cells ((B3 c).map .p))]⟩ (fun M1 l=>?_) ?_
  ·refine Fx hS trivial (b:=c.Kind != 1) (fun c4=>?_) (fun c4=>?_)
   ·refine Fx hS (by decide +kernel:As3 Tryz.prog B0=true) (b:=((c.Is.Plus==0)&&(c.Is.Minus==0)) != true) (fun c5=>?_) (fun c5=>?_)
    ·exact l _ [(2000,2000)] _ trivial (hle:=klR [(0,.eq (.bb true) (.bb t1))] (al1 (by simp only[f,c4,c5,Leaf.ok,pm,if_true,if_false]) al0))
    ·exact l _ [(2000,2000)] _ trivial (hle:=klR [(0,.eq (.bb c.Not) (.bb t1))] (al1 (by simp only[f,c4,c5,Leaf.ok,pm,if_true,if_false]) al0))
   ·exact l _ [(2000,2000)] _ trivial (hle:=klR [(0,.eq (.bb false) (.bb t1))] (al1 (by simp only[f,c4,Leaf.ok,pm,if_true,if_false]) al0))
  ·subst f;refine kI hS h ?_ ?_<;>intro h
   ·cases h;exact kR hS
   ·refine Fy hS trivial (A7 hS) h 0 (fun z1=>⟨[(42,pB z1),(1,.reg 2000 0)],[(2000,.cells ((B3 c).map .p))]⟩) (fun M2 k1 j h=>?_) (fun z1 h=>?_)
    ·refine kG hS h (fun h=>?_) (fun h=>?_)
     ·refine kG hS h (fun h=>?_) (fun h=>?_)
      ·refine kG hS h (fun h=>?_) (fun h=>?_)
       ·refine I1 hS trivial 40 ⟨[(39,.p (vSl 7 B3 c.L)),(37,.p (.v (.bool true))),(1,.reg 2000 0)],[(2000,.cells ((B3 c).map .p))]⟩ (ids:=[(2000,2000)]) ?_ (hle:=klR [(0,.fn c.L.n c.L.n (AQ c) (fun i=>B3 (c.L.g i)))] (al1 ⟨rfl,K7 c⟩ al0));exact j _ [(2000,2000)] _ (decide (0<(c.L.n:Int))) trivial h
       ·exact j _ [(2000,2000)] _ false trivial h
      ·exact j _ [(2000,2000)] _ false trivial h
     ·exact j _ [(2000,2000)] _ false trivial h
    ·refine kI hS h ?_ ?_<;>intro h
     ·cases h;exact kR hS
     ·refine kB hS (A7 hS) trivial trivial 9 (.n (.a (c.Kind != 5)) (.o (.a (c.Min != 0)) (.a (c.Max != 0)))) ?_;refine kI hS h ?_ ?_<;>intro h
      ·cases h;exact kR hS
      ·refine Fy hS trivial (A7 hS) h 0 (fun z2=>⟨[(91,pB z2),(1,.reg 2000 0)],[(2000,.cells ((B3 c).map .p))]⟩) (fun M3 k2 d h=>?_) (fun z2 h=>?_)
       ·refine kG hS h (fun h=>?_) (fun h=>?_)
        ·refine I1 hS trivial 62 ⟨[(61,.p (vSl 7 B3 c.L)),(59,.p (.v (.bool true))),(1,.reg 2000 0)],[(2000,.cells ((B3 c).map .p))]⟩ (ids:=[(2000,2000)]) ?_ (hle:=klR [(0,.fn c.L.n c.L.n (AQ c) (fun i=>B3 (c.L.g i)))] (al1 ⟨rfl,K7 c⟩ al0));refine kG hS h (fun h=>?_) (fun h=>?_)
         ·exact d _ [(2000,2000)] _ true trivial h
         ·refine kG hS h (fun h=>?_) (fun h=>?_)
          ·exact d _ [(2000,2000)] _ true trivial h
          ·refine kG hS h (fun h=>?_) (fun h=>?_)
           ·exact d _ [(2000,2000)] _ true trivial h
           ·refine kG hS h (fun h=>?_) (fun h=>?_)
            ·refine kG hS h (fun h=>?_) (fun h=>?_)
             ·exact d _ [(2000,2000)] _ true trivial h
             ·exact d _ [(2000,2000)] _ (decide (32<c.Max)) trivial h
            ·exact d _ [(2000,2000)] _ false trivial h
        ·exact d _ [(2000,2000)] _ false trivial h
       ·refine kI hS h ?_ ?_<;>intro h
        ·cases h;exact kR hS
        ·refine kC hS h (Mh hS hL) (fun y1 h=>?_);refine kI hS h ?_ ?_<;>intro h
         ·cases h;exact kR hS
         ·cases h;exact kR hS
def CQ (N:Nat)(b:Sound)(a:Sound):Option Bool:=
 some (((E5 .and .u32 b.Plus a.Plus)==a.Plus)&&((E5 .and .u32 b.Minus a.Minus)==a.Minus))
theorem Mi {N:Nat}{c:Sound}{b:Sound}{y:Bool}(h:CQ N c b=some y) :FunO S FK [.p (.agg (A0 c)),.p (.agg (A0 b))] [] (pB y) ([]) []:=by unfold CQ at h;refine A3 hS Tryz.func198 ?_;refine kB hS (A7 hS) trivial trivial 9 (.n (.a ((E5 .and .u32 c.Plus b.Plus)==b.Plus)) (.a ((E5 .and .u32 c.Minus b.Minus)==b.Minus))) ?_;cases h;exact kR hS
def Cs (N:Nat)(a:Int):Option (Sl Int):=
 if ((0:Int)<=(wrap .i64 (a+1))/\(wrap .i64 (a+1))<=(wrap .i64 (a+1))/\(wrap .i64 (a+1))*8<=140737488355328/\(wrap .i64 (a+1))<=140737488355328)then
  Q2 N (fun b (x1:Sl Int) (x2:Int)=>
   if (decide (x2<=a)) then
    if (((0:Int)<=x2/\((0:Int)<=x2/\x2<(x1.n:Int)))/\x2.toNat<x1.n)then
     b (x1.upd x2.toNat (shI .shl .u64 1 x2)) (wrap .i64 (x2+1))
    else none
   else
    some x1
   ) (Sl.rep (wrap .i64 (a+1)).toNat 0:Sl Int) 0
 else none
theorem OG {N:Nat}{a:Int}{y:Sl Int}(h:Cs N a=some y) :FunO S OC [pN a] [] (.vec 0) ([.vec E6 1 y.n (fun i=>cI .u64 (y.g i)) true]) []:=by
 unfold Cs at h;refine A3 hS Tryz.func199 ?_;obtain⟨c1,h⟩:=D3 h;refine F9 hS c1 h (fun x1 x2=>⟨[(4,pN x2),(3,.vec 8000),(0,pN a)],[(8000,.vec E6 1 x1.n (fun i=>cI .u64 (x1.g i)) false)]⟩) (ids:=[(8000,8000)]) (fun _ _ _ _ _ b x1 x2 d h=>?_);refine kI hS h ?_ ?_<;>intro h
 ·obtain⟨c5,h⟩:=D3 h;exact d _ [(8000,8000)] _ (x1.upd x2.toNat (shI .shl .u64 1 x2)) (wrap .i64 (x2+1)) (And.intro (And.intro c5.1.1 c5.1.2) (And.intro (rfl:(1:Nat)=1) (And.intro c5.2 (by decide:(1:Nat)<=1)))) h (hle:=klR [(2,.fn x1.n (x1.upd x2.toNat (shI .shl .u64 1 x2)).n (fun l=>if l=x2.toNat then splice ((fun i=>cI .u64 (x1.g i)) l) 0 [pI .u64 (shI .shl .u64 1 x2)]else (fun i=>cI .u64 (x1.g i)) l) (fun i=>cI .u64 ((x1.upd x2.toNat (shI .shl .u64 1 x2)).g i)))] (al1 ⟨rfl,XH (c:=cI .u64) (v:=x1) (x:=shI .shl .u64 1 x2) same (fun _=>by first|rfl|(dsimp only;split<;>rfl))⟩ al0))
 ·obtain rfl:=B8 h;exact A9 hS trivial ⟨[(2,.vec 8000)],[(8000,.vec E6 1 x1.n (fun i=>cI .u64 (x1.g i)) true)]⟩ [8000] (ids:=[(8000,8000)]) ⟨rfl,rfl,rfl⟩
def W6 (N:Nat)(p_x:Sl Int)(b:Sl Int):Option (Sl Int):=
 if ((0:Int)<=(p_x.n:Int)/\(p_x.n:Int)<=(p_x.n:Int)/\(p_x.n:Int)*8<=140737488355328/\(p_x.n:Int)<=140737488355328)then
  Q2 N (fun c (x3:Sl Int) (x4:Int)=>
   if (decide (x4<(p_x.n:Int))) then
    Q2 N (fun a (x7:Sl Int) (x8:Int)=>
     if (decide (x8<(b.n:Int))) then
      if (((0:Int)<=x4/\x4<(p_x.n:Int))/\(0:Int)<=x8)then
       if ((E5 .and .u64 (shI .shr .u64 (p_x.g x4.toNat) x8) 1)==1) then
        if ((((((0:Int)<=x4/\x4<(x7.n:Int))/\x4.toNat<x7.n)/\((0:Int)<=x8/\x8<(b.n:Int)))/\((0:Int)<=x4/\x4<(x7.n:Int)))/\x4.toNat<x7.n)then
         a (x7.upd x4.toNat (E5 .or .u64 (x7.g x4.toNat) (b.g x8.toNat))) (wrap .i64 (x8+1))
        else none
       else
        a x7 (wrap .i64 (x8+1))
      else none
     else
      c x7 (wrap .i64 (x4+1))
     ) x3 0
   else
    some x3
   ) (Sl.rep (p_x.n:Int).toNat 0:Sl Int) 0
 else none
theorem FP {N:Nat}{p_x:Sl Int}{a:Sl Int}{y:Sl Int}(h:W6 N p_x a=some y) :FunO S JP [.p (vSl 1 (cI .u64) p_x),.p (vSl 1 (cI .u64) a)] [] (.vec 0) ([.vec E6 1 y.n (fun i=>cI .u64 (y.g i)) true]) []:=by
 unfold W6 at h;refine A3 hS Tryz.func200 ?_;obtain⟨c1,h⟩:=D3 h;refine F9 hS c1 h (fun x3 x4=>⟨[(6,pN x4),(5,.vec 11000),(1,.p (vSl 1 (cI .u64) a)),(0,.p (vSl 1 (cI .u64) p_x))],[(11000,.vec E6 1 x3.n (fun i=>cI .u64 (x3.g i)) false)]⟩) (ids:=[(11000,11000)]) (fun _ _ _ _ _ f x3 x4 j h=>?_);refine kI hS h ?_ ?_<;>intro h
 ·refine F9 hS trivial h (fun x7 x8=>⟨[(7,pN x8),(6,pN x4),(5,.vec 11000),(1,.p (vSl 1 (cI .u64) a)),(0,.p (vSl 1 (cI .u64) p_x))],[(11000,.vec E6 1 x7.n (fun i=>cI .u64 (x7.g i)) false)]⟩) (ids:=[(11000,11000)]) (fun _ _ _ _ _ m x7 x8 d h=>?_);refine kI hS h ?_ ?_<;>intro h
  ·obtain⟨c38,h⟩:=D3 h;refine D0 hS c38 (b:=(E5 .and .u64 (shI .shr .u64 (p_x.g x4.toNat) x8) 1)==1) (fun c39=>?_) (fun c39=>?_)
   ·replace h:=itT c39 h;refine D4 hS trivial [8,9] ?_;obtain⟨c40,h⟩:=D3 h;refine I7 (And.intro (And.intro (And.intro (And.intro c40.1.1.1.1 c40.1.1.1.2) c40.1.1.2) c40.1.2) (And.intro (rfl:(1:Nat)=1) (And.intro c40.2 (by decide:(1:Nat)<=1)))) ?_;exact d _ [(11000,11000)] _ (x7.upd x4.toNat (E5 .or .u64 (x7.g x4.toNat) (a.g x8.toNat))) (wrap .i64 (x8+1)) trivial h (hle:=klR [(4,.fn x7.n (x7.upd x4.toNat (E5 .or .u64 (x7.g x4.toNat) (a.g x8.toNat))).n (fun l=>if l=x4.toNat then splice ((fun i=>cI .u64 (x7.g i)) l) 0 [pI .u64 (E5 .or .u64 (x7.g x4.toNat) (a.g x8.toNat))]else (fun i=>cI .u64 (x7.g i)) l) (fun i=>cI .u64 ((x7.upd x4.toNat (E5 .or .u64 (x7.g x4.toNat) (a.g x8.toNat))).g i)))] (al1 ⟨rfl,XH (c:=cI .u64) (v:=x7) (x:=E5 .or .u64 (x7.g x4.toNat) (a.g x8.toNat)) same (fun _=>by first|rfl|(dsimp only;split<;>rfl))⟩ al0))
   ·replace h:=itF c39 h;exact d _ [(11000,11000)] _ x7 (wrap .i64 (x8+1)) trivial h
  ·exact j _ [(11000,11000)] _ x7 (wrap .i64 (x4+1)) trivial h
 ·obtain rfl:=B8 h;exact A9 hS trivial ⟨[(4,.vec 11000)],[(11000,.vec E6 1 x3.n (fun i=>cI .u64 (x3.g i)) true)]⟩ [11000] (ids:=[(11000,11000)]) ⟨rfl,rfl,rfl⟩
def Ct (N:Nat)(p_x:Sl Int)(b:Sl Int):Option (Sl Int):=
 if ((0:Int)<=(p_x.n:Int)/\(p_x.n:Int)<=(p_x.n:Int)/\(p_x.n:Int)*8<=140737488355328/\(p_x.n:Int)<=140737488355328)then
  Q2 N (fun a (x1:Sl Int) (x2:Int)=>
   if (decide (x2<(p_x.n:Int))) then
    if (((((0:Int)<=x2/\x2<(p_x.n:Int))/\((0:Int)<=x2/\x2<(b.n:Int)))/\((0:Int)<=x2/\x2<(x1.n:Int)))/\x2.toNat<x1.n)then
     a (x1.upd x2.toNat (E5 .or .u64 (p_x.g x2.toNat) (b.g x2.toNat))) (wrap .i64 (x2+1))
    else none
   else
    some x1
   ) (Sl.rep (p_x.n:Int).toNat 0:Sl Int) 0
 else none
theorem OH {N:Nat}{p_x:Sl Int}{a:Sl Int}{y:Sl Int}(h:Ct N p_x a=some y) :FunO S OD [.p (vSl 1 (cI .u64) p_x),.p (vSl 1 (cI .u64) a)] [] (.vec 0) ([.vec E6 1 y.n (fun i=>cI .u64 (y.g i)) true]) []:=by
 unfold Ct at h;refine A3 hS Tryz.func201 ?_;obtain⟨c1,h⟩:=D3 h;refine F9 hS c1 h (fun x1 x2=>⟨[(6,pN x2),(5,.vec 10000),(1,.p (vSl 1 (cI .u64) a)),(0,.p (vSl 1 (cI .u64) p_x))],[(10000,.vec E6 1 x1.n (fun i=>cI .u64 (x1.g i)) false)]⟩) (ids:=[(10000,10000)]) (fun _ _ _ _ _ b x1 x2 d h=>?_);refine kI hS h ?_ ?_<;>intro h
 ·refine D4 hS trivial [4,5,8,9] ?_;obtain⟨c7,h⟩:=D3 h;refine I7 (And.intro (And.intro (And.intro c7.1.1.1 c7.1.1.2) c7.1.2) (And.intro (rfl:(1:Nat)=1) (And.intro c7.2 (by decide:(1:Nat)<=1)))) ?_;exact d _ [(10000,10000)] _ (x1.upd x2.toNat (E5 .or .u64 (p_x.g x2.toNat) (a.g x2.toNat))) (wrap .i64 (x2+1)) trivial h (hle:=klR [(3,.fn x1.n (x1.upd x2.toNat (E5 .or .u64 (p_x.g x2.toNat) (a.g x2.toNat))).n (fun l=>if l=x2.toNat then splice ((fun i=>cI .u64 (x1.g i)) l) 0 [pI .u64 (E5 .or .u64 (p_x.g x2.toNat) (a.g x2.toNat))]else (fun i=>cI .u64 (x1.g i)) l) (fun i=>cI .u64 ((x1.upd x2.toNat (E5 .or .u64 (p_x.g x2.toNat) (a.g x2.toNat))).g i)))] (al1 ⟨rfl,XH (c:=cI .u64) (v:=x1) (x:=E5 .or .u64 (p_x.g x2.toNat) (a.g x2.toNat)) same (fun _=>by first|rfl|(dsimp only;split<;>rfl))⟩ al0))
 ·obtain rfl:=B8 h;exact A9 hS trivial ⟨[(4,.vec 10000)],[(10000,.vec E6 1 x1.n (fun i=>cI .u64 (x1.g i)) true)]⟩ [10000] (ids:=[(10000,10000)]) ⟨rfl,rfl,rfl⟩
def CR (N:Nat)(p_x:Sl Int)(b:Sl Int):Option Bool:=
 R6 N (fun a (x1:Int)=>
  if (decide (x1<(p_x.n:Int))) then
   if (((0:Int)<=x1/\x1<(p_x.n:Int))/\((0:Int)<=x1/\x1<(b.n:Int)))then
    if ((p_x.g x1.toNat) != (b.g x1.toNat)) then
     some false
    else
     a (wrap .i64 (x1+1))
   else none
  else
   some true
  ) 0
theorem UW {N:Nat}{p_x:Sl Int}{a:Sl Int}{y:Bool}(h:CR N p_x a=some y) :FunO S LY [.p (vSl 1 (cI .u64) p_x),.p (vSl 1 (cI .u64) a)] [] (pB y) ([]) []:=by
 unfold CR at h;refine A3 hS Tryz.func202 ?_;refine I4 hS trivial h (fun x1=>⟨[(5,pN x1),(1,.p (vSl 1 (cI .u64) a)),(0,.p (vSl 1 (cI .u64) p_x))],[]⟩) (ids:=[]) (fun _ _ _ _ _ b x1 c h=>?_);refine kI hS h ?_ ?_<;>intro h
 ·refine D4 hS trivial [2,3,6,7] ?_;obtain⟨c8,h⟩:=D3 h;refine I7 c8 ?_;refine kI hS h ?_ ?_<;>intro h
  ·cases h;exact kR hS
  ·exact c _ [] _ (wrap .i64 (x1+1)) trivial h
 ·cases h;exact kR hS
end Go.AM
namespace Go.AM
open IntKind (wrap)
open Go.Proofs
set_option maxRecDepth 10000
set_option maxHeartbeats 2000000
variable {S:Ay}(hS:H2 S Tryz.prog) (hL:OF S)
include hS hL
def Bb (rec:Pat->Int->Option Int)(N:Nat)(b:Pat)(a:Int):Option Int:=
 Q2 N (fun c (x1:Int) (x2:Int)=>
  if ((decide (x2<(b.L.n:Int)))&&(decide (x1<=40))) then
   if ((0:Int)<=x2/\x2<(b.L.n:Int))then
    (rec (b.L.g x2.toNat) x1).bind fun y3=>
    c y3 (wrap .i64 (x2+1))
   else none
  else
   some x1
  ) (wrap .i64 (a+1)) 0
def AD:Nat->Pat->Int->Option Int
 |0=>fun _ _=>none
 |N+1=>Bb (AD N) N
theorem SO {N:Nat}{rec:Pat->Int->Option Int}(d:∀{b:Pat}{c:Int}{y:Int},rec b c=some y->FunO S EC [.p (.agg (B3 b)),pN c] [] (pN y) ([]) []){b:Pat}{c:Int}{y:Int}(h:Bb rec N b c=some y) :FunO S EC [.p (.agg (B3 b)),pN c] [] (pN y) ([]) []:=by
 unfold Bb at h;refine A3 hS Tryz.func89 ?_;refine F9 hS trivial h (fun x1 x2=>⟨[(6,pN x2),(5,pN x1),(2,.reg 3000 0)],[(3000,.cells ((B3 b).map .p))]⟩) (ids:=[(3000,3000)]) (fun _ _ _ _ _ f x1 x2 j h=>?_);refine I1 hS trivial 12 ⟨[(11,.p (vSl 7 B3 b.L)),(9,pN x2),(6,pN x2),(5,pN x1),(2,.reg 3000 0)],[(3000,.cells ((B3 b).map .p))]⟩ (ids:=[(3000,3000)]) ?_ (hle:=klR [(0,.fn b.L.n b.L.n (AQ b) (fun i=>B3 (b.L.g i)))] (al1 ⟨rfl,K7 b⟩ al0));refine kB hS (A7 hS) trivial trivial 3 (.n (.a (decide (x2<(b.L.n:Int)))) (.a (decide (x1<=40)))) ?_;refine kI hS h ?_ ?_<;>intro h
 ·refine I1 hS trivial 23 ⟨[(22,pN x2),(21,.p (vSl 7 B3 b.L)),(6,pN x2),(5,pN x1),(2,.reg 3000 0)],[(3000,.cells ((B3 b).map .p))]⟩ (ids:=[(3000,3000)]) ?_ (hle:=klR [(1,.fn b.L.n b.L.n (AQ b) (fun i=>B3 (b.L.g i)))] (al1 ⟨rfl,K7 b⟩ al0));obtain⟨c6,h⟩:=D3 h;obtain⟨y3,e3,h⟩:=B7 h;refine B9 hS [] (And.intro c6 (by decide:(7:Nat)<=7)) (d e3) ?_;exact j _ [(3000,3000)] _ y3 (wrap .i64 (x2+1)) trivial h
 ·cases h;exact kR hS
theorem UX {N:Nat}{b:Pat}{a:Int}{y:Int}(h:AD N b a=some y) :FunO S EC [.p (.agg (B3 b)),pN a] [] (pN y) ([]) []:=by
 induction N generalizing b a y with
 |zero=>cases (show (none:Option Int)=some y from h)
 |succ N ih=>exact SO hS hL (fun e=>ih e) h
def Bt (N:Nat)(a:Pat):Option Int:=
 (AD N a 0).bind fun y1=>
 some y1
theorem Ja {N:Nat}{a:Pat}{y:Int}(h:Bt N a=some y) :FunO S Om [.p (.agg (B3 a))] [] (pN y) ([]) []:=by unfold Bt at h;refine A3 hS Tryz.func57 ?_;refine kC hS h (UX hS hL) (fun y1 h=>?_);cases h;exact kR hS
def W7 (rec:Pat->Option Int)(N:Nat)(a:Pat):Option Int:=
 Q2 N (fun b (x1:Int) (x2:Int)=>
  if (decide (x2<(a.L.n:Int))) then
   if ((0:Int)<=x2/\x2<(a.L.n:Int))then
    (rec (a.L.g x2.toNat)).bind fun y3=>
    b (wrap .i64 (x1+y3)) (wrap .i64 (x2+1))
   else none
  else
   some x1
  ) (if (a.Kind==5) then 1 else 0) 0
def Y9:Nat->Pat->Option Int
 |0=>fun _=>none
 |N+1=>W7 (Y9 N) N
theorem No {N:Nat}{rec:Pat->Option Int}(d:∀{a:Pat}{y:Int},rec a=some y->FunO S Cl [.p (.agg (B3 a))] [] (pN y) ([]) []){a:Pat}{y:Int}(h:W7 rec N a=some y) :FunO S Cl [.p (.agg (B3 a))] [] (pN y) ([]) []:=by
 unfold W7 at h;refine A3 hS Tryz.func88 ?_;obtain⟨t1,c⟩:∃x:Int,x=(if (a.Kind==5) then 1 else 0):=⟨_,rfl⟩;refine PI hS trivial (A7 hS) 0 ⟨[(3,pN t1),(1,.reg 2000 0)],[(2000,.cells ((B3 a).map .p))]⟩ (fun M1 f=>?_) ?_
 ·refine D0 hS trivial (b:=a.Kind==5) (fun c2=>?_) (fun c2=>?_)
  ·exact f _ [(2000,2000)] _ trivial (hle:=klR [(0,.eq (pI .i64 1) (pI .i64 t1))] (al1 (by simp only[c,c2,Leaf.ok,pm,if_true,if_false]) al0))
  ·exact f _ [(2000,2000)] _ trivial (hle:=klR [(0,.eq (pI .i64 0) (pI .i64 t1))] (al1 (by simp only[c,c2,Leaf.ok,pm,if_true,if_false]) al0))
 ·subst c;refine F9 hS trivial h (fun x1 x2=>⟨[(4,pN x2),(3,pN x1),(1,.reg 2000 0)],[(2000,.cells ((B3 a).map .p))]⟩) (ids:=[(2000,2000)]) (fun _ _ _ _ _ j x1 x2 l h=>?_);refine I1 hS trivial 11 ⟨[(10,.p (vSl 7 B3 a.L)),(8,pN x2),(4,pN x2),(3,pN x1),(1,.reg 2000 0)],[(2000,.cells ((B3 a).map .p))]⟩ (ids:=[(2000,2000)]) ?_ (hle:=klR [(0,.fn a.L.n a.L.n (AQ a) (fun i=>B3 (a.L.g i)))] (al1 ⟨rfl,K7 a⟩ al0));refine kI hS h ?_ ?_<;>intro h
  ·refine I1 hS trivial 19 ⟨[(18,pN x2),(17,.p (vSl 7 B3 a.L)),(15,pN x1),(4,pN x2),(1,.reg 2000 0)],[(2000,.cells ((B3 a).map .p))]⟩ (ids:=[(2000,2000)]) ?_ (hle:=klR [(1,.fn a.L.n a.L.n (AQ a) (fun i=>B3 (a.L.g i)))] (al1 ⟨rfl,K7 a⟩ al0));obtain⟨c8,h⟩:=D3 h;obtain⟨y3,e3,h⟩:=B7 h;refine B9 hS [] (And.intro c8 (by decide:(7:Nat)<=7)) (d e3) ?_;exact l _ [(2000,2000)] _ (wrap .i64 (x1+y3)) (wrap .i64 (x2+1)) trivial h
  ·cases h;exact kR hS
theorem Qo {N:Nat}{a:Pat}{y:Int}(h:Y9 N a=some y) :FunO S Cl [.p (.agg (B3 a))] [] (pN y) ([]) []:=by
 induction N generalizing a y with
 |zero=>cases (show (none:Option Int)=some y from h)
 |succ N ih=>exact No hS hL (fun e=>ih e) h
def Cu (N:Nat)(a:Sl Law):Option Int:=
 Q2 N (fun c (x3:Int) (x4:Int)=>
  if ((decide (x4<(a.n:Int)))&&(decide (x4<=300))) then
   if (((0:Int)<=x4/\x4<(a.n:Int))/\((0:Int)<=x4/\x4<(a.n:Int)))then
    Q2 N (fun b (x7:Int) (x8:Int)=>
     if (decide (x8<((Sl.of [(a.g x4.toNat).Left,(a.g x4.toNat).Right]:Sl Pat).n:Int))) then
      if ((0:Int)<=x8/\x8<((Sl.of [(a.g x4.toNat).Left,(a.g x4.toNat).Right]:Sl Pat).n:Int))then
       (Bt N ((Sl.of [(a.g x4.toNat).Left,(a.g x4.toNat).Right]:Sl Pat).g x8.toNat)).bind fun d=>
       if (decide (d<=40)) then
        (Y9 N ((Sl.of [(a.g x4.toNat).Left,(a.g x4.toNat).Right]:Sl Pat).g x8.toNat)).bind fun f=>
        b (wrap .i64 (x7+f)) (wrap .i64 (x8+1))
       else
        b x7 (wrap .i64 (x8+1))
      else none
     else
      c (if x3<x7 then x7 else x3) (wrap .i64 (x4+1))
     ) 0 0
   else none
  else
   some x3
  ) 0 0
theorem Yq {N:Nat}{b:Sl Law}{y:Int}(h:Cu N b=some y) :FunO S Ol [.p (vSl 18 B2 b)] [] (pN y) ([]) []:=by
 unfold Cu at h;refine A3 hS Tryz.func56 ?_;refine F9 hS trivial h (fun x3 x4=>⟨[(4,pN x4),(3,pN x3),(0,.p (vSl 18 B2 b))],[]⟩) (ids:=[]) (fun _ _ _ _ _ d x3 x4 f h=>?_);refine kB hS (A7 hS) trivial trivial 3 (.n (.a (decide (x4<(b.n:Int)))) (.a (decide (x4<=300)))) ?_;refine kI hS h ?_ ?_<;>intro h
 ·refine D4 hS trivial [2,4,7,9] ?_;obtain⟨c24,h⟩:=D3 h;refine Ey (And.intro (And.intro (And.intro c24.1 (by decide:(7:Nat)<=17)) c24.2) (by decide:(7:Nat)<=10)) (x:=.sl true 7 2 (D5 [pI .i64 0,pI .u32 0,pI .u32 0,.v (.bool false),pI .i64 0,pI .i64 0,F8] [(0,B3 (b.g x4.toNat).Left),(1,B3 (b.g x4.toNat).Right)])) ?_;refine I7 trivial ?_;refine F9 hS trivial h (fun x7 x8=>⟨[(30,pN x8),(29,pN ((Sl.of [(b.g x4.toNat).Left,(b.g x4.toNat).Right]:Sl Pat).n:Int)),(28,.p (vSl 7 B3 (Sl.of [(b.g x4.toNat).Left,(b.g x4.toNat).Right]:Sl Pat))),(5,pN x7),(4,pN x4),(3,pN x3),(0,.p (vSl 18 B2 b))],[]⟩) (ids:=[]) (fun _ _ _ _ _ j x7 x8 c h=>?_) (hle:=klR [(2,.fn 2 (Sl.of [(b.g x4.toNat).Left,(b.g x4.toNat).Right]:Sl Pat).n (D5 [pI .i64 0,pI .u32 0,pI .u32 0,.v (.bool false),pI .i64 0,pI .i64 0,F8] [(0,B3 (b.g x4.toNat).Left),(1,B3 (b.g x4.toNat).Right)]) (fun i=>B3 ((Sl.of [(b.g x4.toNat).Left,(b.g x4.toNat).Right]:Sl Pat).g i)))] (al1 ⟨rfl,(fun i l=>match i,l with|0,_=>rfl|1,_=>rfl|_+2,l=>absurd l (by omega))⟩ al0));refine kI hS h ?_ ?_<;>intro h
  ·obtain⟨c32,h⟩:=D3 h;refine H3 hS (And.intro c32 (by decide:(7:Nat)<=7)) 34 8000 (B3 ((Sl.of [(b.g x4.toNat).Left,(b.g x4.toNat).Right]:Sl Pat).g x8.toNat)) ?_;obtain⟨o,e17,h⟩:=B7 h;refine B9 hS [] (by decide:(7:Nat)<=7) (Ja hS hL e17) ?_;refine kI hS h ?_ ?_<;>intro h
   ·obtain⟨m,e18,h⟩:=B7 h;refine B9 hS [] (by decide:(7:Nat)<=7) (Qo hS hL e18) ?_;exact c _ [] _ (wrap .i64 (x7+m)) (wrap .i64 (x8+1)) trivial h
   ·exact c _ [] _ x7 (wrap .i64 (x8+1)) trivial h
  ·exact f _ [] _ (if x3<x7 then x7 else x3) (wrap .i64 (x4+1)) trivial h
 ·cases h;exact kR hS
def W8 (rec:Pat->Int->Option (Int×Int))(N:Nat)(b:Pat)(a:Int):Option (Int×Int):=
 if (a==40) then
  some (a,12)
 else
  (Eb N b).bind fun y1=>
  if (y1 != 0) then
   some (a,y1)
  else
   Q2 N (fun c (x1:Int) (x2:Int)=>
    if (decide (x2<(b.L.n:Int))) then
     if ((0:Int)<=x2/\x2<(b.L.n:Int))then
      (rec (b.L.g x2.toNat) x1).bind fun y4=>
      if (y4.2 != 0) then
       some (y4.1,y4.2)
      else
       c y4.1 (wrap .i64 (x2+1))
     else none
    else
     some (x1,0)
    ) (wrap .i64 (a+1)) 0
def Cv:Nat->Pat->Int->Option (Int×Int)
 |0=>fun _ _=>none
 |N+1=>W8 (Cv N) N
theorem UY {N:Nat}{rec:Pat->Int->Option (Int×Int)}(c:∀{a:Pat}{b:Int}{y:Int×Int},rec a b=some y->FunO S Gn [.p (.agg (B3 a)),pN b] [] (.tup [pN y.1,pN y.2]) ([]) []){a:Pat}{b:Int}{y:Int×Int}(h:W8 rec N a b=some y) :FunO S Gn [.p (.agg (B3 a)),pN b] [] (.tup [pN y.1,pN y.2]) ([]) []:=by
 unfold W8 at h;refine A3 hS Tryz.func130 ?_;refine kI hS h ?_ ?_<;>intro h
 ·cases h;exact kR hS
 ·refine kC hS h (Yp hS hL) (fun y1 h=>?_);refine kI hS h ?_ ?_<;>intro h
  ·cases h;exact kR hS
  ·refine F9 hS trivial h (fun x1 x2=>⟨[(8,pN x2),(7,pN x1),(2,.reg 3000 0)],[(3000,.cells ((B3 a).map .p))]⟩) (ids:=[(3000,3000)]) (fun _ _ _ _ _ d x1 x2 f h=>?_);refine I1 hS trivial 23 ⟨[(22,.p (vSl 7 B3 a.L)),(20,pN x2),(8,pN x2),(7,pN x1),(2,.reg 3000 0)],[(3000,.cells ((B3 a).map .p))]⟩ (ids:=[(3000,3000)]) ?_ (hle:=klR [(0,.fn a.L.n a.L.n (AQ a) (fun i=>B3 (a.L.g i)))] (al1 ⟨rfl,K7 a⟩ al0));refine kI hS h ?_ ?_<;>intro h
   ·refine I1 hS trivial 31 ⟨[(30,pN x2),(29,.p (vSl 7 B3 a.L)),(8,pN x2),(7,pN x1),(2,.reg 3000 0)],[(3000,.cells ((B3 a).map .p))]⟩ (ids:=[(3000,3000)]) ?_ (hle:=klR [(1,.fn a.L.n a.L.n (AQ a) (fun i=>B3 (a.L.g i)))] (al1 ⟨rfl,K7 a⟩ al0));obtain⟨c10,h⟩:=D3 h;obtain⟨y4,e4,h⟩:=B7 h;refine B9 hS [] (And.intro c10 (by decide:(7:Nat)<=7)) (c e4) ?_;refine kI hS h ?_ ?_<;>intro h
    ·cases h;exact kR hS
    ·exact f _ [(3000,3000)] _ y4.1 (wrap .i64 (x2+1)) trivial h
   ·cases h;exact kR hS
theorem Yr {N:Nat}{b:Pat}{a:Int}{y:Int×Int}(h:Cv N b a=some y) :FunO S Gn [.p (.agg (B3 b)),pN a] [] (.tup [pN y.1,pN y.2]) ([]) []:=by
 induction N generalizing b a y with
 |zero=>cases (show (none:Option (Int×Int))=some y from h)
 |succ N ih=>exact UY hS hL (fun e=>ih e) h
def AE (N:Nat)(a:Pat):Option Int:=
 (Cv N a 0).bind fun y1=>
 some y1.2
theorem Hj {N:Nat}{a:Pat}{y:Int}(h:AE N a=some y) :FunO S LG [.p (.agg (B3 a))] [] (pN y) ([]) []:=by unfold AE at h;refine A3 hS Tryz.func115 ?_;refine kC hS h (Yr hS hL) (fun y1 h=>?_);cases h;exact kR hS
def Bu (N:Nat)(a:Str):Option Bool:=
 R6 N (fun b (x1:Int)=>
  if (decide (x1<(a.length:Int))) then
   if ((0:Int)<=x1/\x1<(a.length:Int))then
    if (!(((((decide (97<=(Z6 a x1)))&&(decide ((Z6 a x1)<=122)))||((decide (65<=(Z6 a x1)))&&(decide ((Z6 a x1)<=90))))||((decide (48<=(Z6 a x1)))&&(decide ((Z6 a x1)<=57))))||((Z6 a x1)==45))) then
     some false
    else
     b (wrap .i64 (x1+1))
   else none
  else
   some ((decide (1<=(a.length:Int)))&&(decide ((a.length:Int)<=24)))
  ) 0
theorem Ys {N:Nat}{b:Str}{y:Bool}(h:Bu N b=some y) :FunO S Ot [.p (.str b)] [] (pB y) ([]) []:=by
 unfold Bu at h;refine A3 hS Tryz.func114 ?_;refine I4 hS trivial h (fun x1=>⟨[(3,pN x1),(0,.p (.str b))],[]⟩) (ids:=[]) (fun _ _ _ _ _ c x1 d h=>?_);refine kI hS h ?_ ?_<;>intro h
 ·obtain⟨c8,h⟩:=D3 h;refine kB hS (A7 hS) c8 trivial 23 (.o (.o (.o (.n (.a (decide (97<=(Z6 b x1)))) (.a (decide ((Z6 b x1)<=122)))) (.n (.a (decide (65<=(Z6 b x1)))) (.a (decide ((Z6 b x1)<=90))))) (.n (.a (decide (48<=(Z6 b x1)))) (.a (decide ((Z6 b x1)<=57))))) (.a ((Z6 b x1)==45))) ?_;refine kI hS h ?_ ?_<;>intro h
  ·cases h;exact kR hS
  ·exact d _ [] _ (wrap .i64 (x1+1)) trivial h
 ·refine kB hS (A7 hS) trivial trivial 4 (.n (.a (decide (1<=(b.length:Int)))) (.a (decide ((b.length:Int)<=24)))) ?_;cases h;exact kR hS
def Ec (N:Nat)(p_x:Bn)(a:Int):Option Bool:=
 lt (fun (z1:Bool)=>
  if z1 then
   some false
  else
   if ((((E5 .and .u32 p_x.Clear (E5 .or .u32 p_x.Set.Plus p_x.Set.Minus)) != 0)||((E5 .and .u32 p_x.Take (E5 .or .u32 p_x.Set.Plus p_x.Set.Minus)) != 0))||((E5 .and .u32 p_x.Take p_x.Clear) != 0)) then
    some false
   else
    if (p_x.Take==0) then
     some (p_x.Of==0)
    else
     some ((decide (0<=p_x.Of))&&(decide (p_x.Of<a)))
  ) fun k1=>
  if (decide (p_x.From<(-1))) then
   k1 true
  else
   if (decide (a<=p_x.From)) then
    k1 true
   else
    (I2 N p_x.Set).bind fun y2=>
    if (!y2) then
     k1 true
    else
     if ((E5 .andNot .u32 p_x.Clear 16777215) != 0) then
      k1 true
     else
      k1 ((E5 .andNot .u32 p_x.Take 16777215) != 0)
theorem Yt {N:Nat}{p_x:Bn}{c:Int}{y:Bool}(h:Ec N p_x c=some y) :FunO S Ou [.p (.agg (O5 p_x)),pN c] [] (pB y) ([]) []:=by
 unfold Ec at h;refine A3 hS Tryz.func117 ?_;refine Fy hS trivial (A7 hS) h 0 (fun z1=>⟨[(32,pB z1),(2,.reg 3000 0),(1,pN c)],[(3000,.cells ((O5 p_x).map .p))]⟩) (fun M1 k1 b h=>?_) (fun z1 h=>?_)
 ·refine kG hS h (fun h=>?_) (fun h=>?_)
  ·exact b _ [(3000,3000)] _ true trivial h
  ·refine kG hS h (fun h=>?_) (fun h=>?_)
   ·exact b _ [(3000,3000)] _ true trivial h
   ·refine kC hS h (T4 hS hL) (fun y2 h=>?_);refine kG hS h (fun h=>?_) (fun h=>?_)
    ·exact b _ [(3000,3000)] _ true trivial h
    ·refine kG hS h (fun h=>?_) (fun h=>?_)
     ·exact b _ [(3000,3000)] _ true trivial h
     ·exact b _ [(3000,3000)] _ ((E5 .andNot .u32 p_x.Take 16777215) != 0) trivial h
 ·refine kI hS h ?_ ?_<;>intro h
  ·cases h;exact kR hS
  ·refine kB hS (A7 hS) trivial trivial 14 (.o (.o (.a ((E5 .and .u32 p_x.Clear (E5 .or .u32 p_x.Set.Plus p_x.Set.Minus)) != 0)) (.a ((E5 .and .u32 p_x.Take (E5 .or .u32 p_x.Set.Plus p_x.Set.Minus)) != 0))) (.a ((E5 .and .u32 p_x.Take p_x.Clear) != 0))) ?_;refine kI hS h ?_ ?_<;>intro h
   ·cases h;exact kR hS
   ·refine kI hS h ?_ ?_<;>intro h
    ·cases h;exact kR hS
    ·refine kB hS (A7 hS) trivial trivial 5 (.n (.a (decide (0<=p_x.Of))) (.a (decide (p_x.Of<c)))) ?_;cases h;exact kR hS
def W9 (N:Nat)(a:Law):Option Int:=
 (Bu N a.Name).bind fun y1=>
 lt (fun (z1:Bool)=>
  if z1 then
   some 17
  else
   if (((((decide (4<(a.If.n:Int)))||(decide (6<(a.Out.n:Int))))||((wrap .i64 ((a.If.n:Int)+(a.Out.n:Int)))==0))||(decide (a.Mode<1)))||(decide (3<a.Mode))) then
    some 17
   else
    R6 N (fun b (x2:Int)=>
     if (decide (x2<(a.If.n:Int))) then
      if ((0:Int)<=x2/\x2<(a.If.n:Int))then
       (I2 N (a.If.g x2.toNat)).bind fun y8=>
       if (!y8) then
        some 17
       else
        b (wrap .i64 (x2+1))
      else none
     else
      R6 N (fun c (x3:Int)=>
       if (decide (x3<(a.Out.n:Int))) then
        if ((0:Int)<=x3/\x3<(a.Out.n:Int))then
         (Ec N (a.Out.g x3.toNat) (a.If.n:Int)).bind fun d=>
         if (!d) then
          some 17
         else
          c (wrap .i64 (x3+1))
        else none
       else
        some 0
       ) 0
     ) 0
  ) fun k1=>
  if (!y1) then
   k1 true
  else
   (AE N a.Left).bind fun y4=>
   if (y4 != 0) then
    k1 true
   else
    (AE N a.Right).bind fun y5=>
    k1 (y5 != 0)
theorem Hk {N:Nat}{b:Law}{y:Int}(h:W9 N b=some y) :FunO S LA [.p (.agg (B2 b))] [] (pN y) ([]) []:=by
 unfold W9 at h;refine A3 hS Tryz.func86 ?_;refine H3 hS trivial 2 2000 (B2 b) ?_;refine kC hS h (Ys hS hL) (fun y1 h=>?_);refine Fy hS trivial (A7 hS) h 0 (fun z1=>⟨[(20,pB z1),(1,.p (.ptr (B2 b)))],[]⟩) (fun M1 k1 c h=>?_) (fun z1 h=>?_)
 ·refine kG hS h (fun h=>?_) (fun h=>?_)
  ·exact c _ [] _ true trivial h
  ·obtain⟨y4,e4,h⟩:=B7 h;refine B9 hS [] (by decide:(7:Nat)<=17) (Hj hS hL e4) ?_;refine kG hS h (fun h=>?_) (fun h=>?_)
   ·exact c _ [] _ true trivial h
   ·obtain⟨y5,e5,h⟩:=B7 h;refine B9 hS [] (by decide:(7:Nat)<=10) (Hj hS hL e5) ?_;exact c _ [] _ (y5 != 0) trivial h
 ·refine kI hS h ?_ ?_<;>intro h
  ·cases h;exact kR hS
  ·refine kB hS (A7 hS) trivial trivial 25 (.o (.o (.o (.o (.a (decide (4<(b.If.n:Int)))) (.a (decide (6<(b.Out.n:Int))))) (.a ((wrap .i64 ((b.If.n:Int)+(b.Out.n:Int)))==0))) (.a (decide (b.Mode<1)))) (.a (decide (3<b.Mode)))) ?_;refine kI hS h ?_ ?_<;>intro h
   ·cases h;exact kR hS
   ·refine I4 hS trivial h (fun x2=>⟨[(3,pN x2),(1,.p (.ptr (B2 b)))],[]⟩) (ids:=[]) (fun _ _ _ _ _ d x2 f h=>?_);refine kI hS h ?_ ?_<;>intro h
    ·obtain⟨c15,h⟩:=D3 h;obtain⟨y8,e8,h⟩:=B7 h;refine B9 hS [] (And.intro c15 (by decide:(2:Nat)<=2)) (T4 hS hL e8) ?_;refine kI hS h ?_ ?_<;>intro h
     ·cases h;exact kR hS
     ·exact f _ [] _ (wrap .i64 (x2+1)) trivial h
    ·refine I4 hS trivial h (fun x3=>⟨[(4,pN x3),(1,.p (.ptr (B2 b)))],[]⟩) (ids:=[]) (fun _ _ _ _ _ g x3 i h=>?_);refine kI hS h ?_ ?_<;>intro h
     ·refine D4 hS trivial [1,3,4,6,8] ?_;obtain⟨c24,h⟩:=D3 h;obtain⟨j,e11,h⟩:=B7 h;refine R5 (And.intro c24 (by decide:(6:Nat)<=6)) (Yt hS hL e11) ?_;refine I7 trivial ?_;refine kI hS h ?_ ?_<;>intro h
      ·cases h;exact kR hS
      ·exact i _ [] _ (wrap .i64 (x3+1)) trivial h
     ·cases h;exact kR hS
def Bv (N:Nat)(a:Sl Law):Option Int:=
 if (decide (64<(a.n:Int))) then
  some 12
 else
  R6 N (fun b (x1:Int)=>
   if (decide (x1<(a.n:Int))) then
    if ((0:Int)<=x1/\x1<(a.n:Int))then
     (W9 N (a.g x1.toNat)).bind fun y3=>
     if (y3 != 0) then
      some 17
     else
      b (wrap .i64 (x1+1))
    else none
   else
    some 0
   ) 0
theorem UZ {N:Nat}{a:Sl Law}{y:Int}(h:Bv N a=some y) :FunO S LJ [.p (vSl 18 B2 a)] [] (pN y) ([]) []:=by
 unfold Bv at h;refine A3 hS Tryz.func131 ?_;refine kI hS h ?_ ?_<;>intro h
 ·cases h;exact kR hS
 ·refine I4 hS trivial h (fun x1=>⟨[(3,pN x1),(0,.p (vSl 18 B2 a))],[]⟩) (ids:=[]) (fun _ _ _ _ _ b x1 c h=>?_);refine kI hS h ?_ ?_<;>intro h
  ·obtain⟨c9,h⟩:=D3 h;obtain⟨y3,e3,h⟩:=B7 h;refine B9 hS [] (And.intro c9 (by decide:(18:Nat)<=18)) (Hk hS hL e3) ?_;refine kI hS h ?_ ?_<;>intro h
   ·cases h;exact kR hS
   ·exact c _ [] _ (wrap .i64 (x1+1)) trivial h
  ·cases h;exact kR hS
def EL (N:Nat)(a:Law)(b:Sl Sound):Option Int:=
 (W9 N a).bind fun y1=>
 if (y1 != 0) then
  some y1
 else
  (W5 N b).bind fun y2=>
  some y2
theorem Va {N:Nat}{a:Law}{b:Sl Sound}{y:Int}(h:EL N a b=some y) :FunO S LO [.p (.agg (B2 a)),.p (vSl 2 A0 b)] [] (pN y) ([]) []:=by
 unfold EL at h;refine A3 hS Tryz.func153 ?_;refine kC hS h (Hk hS hL) (fun y1 h=>?_);refine kI hS h ?_ ?_<;>intro h
 ·cases h;exact kR hS
 ·refine kC hS h (EJ hS hL) (fun y2 h=>?_);cases h;exact kR hS
def Cw (N:Nat)(a:Pat)(b:Sl Sound):Option Int:=
 (AE N a).bind fun y1=>
 if (y1==0) then
  (W5 N b).bind fun y2=>
  some y2
 else
  some y1
theorem OI {N:Nat}{a:Pat}{b:Sl Sound}{y:Int}(h:Cw N a b=some y) :FunO S OB [.p (.agg (B3 a)),.p (vSl 2 A0 b)] [] (pN y) ([]) []:=by
 unfold Cw at h;refine A3 hS Tryz.func188 ?_;refine kC hS h (Hj hS hL) (fun y1 h=>?_);refine kI hS h ?_ ?_<;>intro h
 ·refine kC hS h (EJ hS hL) (fun y2 h=>?_);cases h;exact kR hS
 ·cases h;exact kR hS
def Bc (rec:Pat->(Sl Sound)->Option (Sl Int))(N:Nat)(a:Pat)(c:Sl Sound):Option (Sl Int):=
 if ((0:Int)<=(wrap .i64 ((c.n:Int)+1))/\(wrap .i64 ((c.n:Int)+1))<=(wrap .i64 ((c.n:Int)+1))/\(wrap .i64 ((c.n:Int)+1))*8<=140737488355328/\(wrap .i64 ((c.n:Int)+1))<=140737488355328)then
  Q2 N (fun b (x1:Sl Int) (x2:Int)=>
   if (decide (x2<=(c.n:Int))) then
    if (a.Kind==0) then
     if (((0:Int)<=x2/\((0:Int)<=x2/\x2<(x1.n:Int)))/\x2.toNat<x1.n)then
      b (x1.upd x2.toNat (shI .shl .u64 1 x2)) (wrap .i64 (x2+1))
     else none
    else
     if (a.Kind==1) then
      if (decide (x2<(c.n:Int))) then
       if ((0:Int)<=x2/\x2<(c.n:Int))then
        (CQ N (c.g x2.toNat) a.Is).bind fun y3=>
        if ((y3==a.Not) != true) then
         if (((0:Int)<=(wrap .i64 (x2+1))/\((0:Int)<=x2/\x2<(x1.n:Int)))/\x2.toNat<x1.n)then
          b (x1.upd x2.toNat (shI .shl .u64 1 (wrap .i64 (x2+1)))) (wrap .i64 (x2+1))
         else none
        else
         b x1 (wrap .i64 (x2+1))
       else none
      else
       b x1 (wrap .i64 (x2+1))
     else
      if (a.Kind==2) then
       if (x2==0) then
        if (((0:Int)<=x2/\x2<(x1.n:Int))/\x2.toNat<x1.n)then
         b (x1.upd x2.toNat 1) (wrap .i64 (x2+1))
        else none
       else
        b x1 (wrap .i64 (x2+1))
      else
       if (a.Kind==6) then
        if (x2==(c.n:Int)) then
         if (((0:Int)<=x2/\((0:Int)<=x2/\x2<(x1.n:Int)))/\x2.toNat<x1.n)then
          b (x1.upd x2.toNat (shI .shl .u64 1 x2)) (wrap .i64 (x2+1))
         else none
        else
         b x1 (wrap .i64 (x2+1))
       else
        b x1 (wrap .i64 (x2+1))
   else
    if (a.Kind==3) then
     (Cs N (c.n:Int)).bind fun y4=>
     Q2 N (fun i (x3:Sl Int) (x4:Int)=>
      if (decide (x4<(a.L.n:Int))) then
       if ((0:Int)<=x4/\x4<(a.L.n:Int))then
        (rec (a.L.g x4.toNat) c).bind fun y9=>
        (W6 N x3 y9).bind fun o=>
        i o (wrap .i64 (x4+1))
       else none
      else
       some x3
      ) y4 0
    else
     if (a.Kind==4) then
      Q2 N (fun j (x5:Sl Int) (x6:Int)=>
       if (decide (x6<(a.L.n:Int))) then
        if ((0:Int)<=x6/\x6<(a.L.n:Int))then
         (rec (a.L.g x6.toNat) c).bind fun q=>
         (Ct N x5 q).bind fun r=>
         j r (wrap .i64 (x6+1))
        else none
       else
        some x5
       ) x1 0
     else
      if (a.Kind==5) then
       if ((0:Int)<=0/\0<(a.L.n:Int))then
        (rec (a.L.g 0) c).bind fun m=>
        (Cs N (c.n:Int)).bind fun s=>
        Az5 N (fun d (x8:Sl Int) (x9:Sl Int) (f:Int)=>
         if (decide (a.Min<=f)) then
          (Ct N x8 x9).bind fun l=>
          lt (fun (z3:Bool)=>
           if z3 then
            some l
           else
            (W6 N x9 m).bind fun t=>
            d l t (wrap .i64 (f+1))
           ) fun k3=>
           if (f==a.Max) then
            k3 true
           else
            if (decide (a.Min<f)) then
             (CR N x8 l).bind fun u=>
             k3 u
            else
             k3 false
         else
          (W6 N x9 m).bind fun v=>
          d x8 v (wrap .i64 (f+1))
         ) x1 s 0
       else none
      else
       some x1
   ) (Sl.rep (wrap .i64 ((c.n:Int)+1)).toNat 0:Sl Int) 0
 else none
def Bw:Nat->Pat->(Sl Sound)->Option (Sl Int)
 |0=>fun _ _=>none
 |N+1=>Bc (Bw N) N
theorem SP {N:Nat}{rec:Pat->(Sl Sound)->Option (Sl Int)}(j:∀{a:Pat}{d:Sl Sound}{y:Sl Int},rec a d=some y->FunO S EE [.p (.agg (B3 a)),.p (vSl 2 A0 d)] [] (.vec 0) ([.vec E6 1 y.n (fun i=>cI .u64 (y.g i)) true]) []){a:Pat}{d:Sl Sound}{y:Sl Int}(h:Bc rec N a d=some y) :FunO S EE [.p (.agg (B3 a)),.p (vSl 2 A0 d)] [] (.vec 0) ([.vec E6 1 y.n (fun i=>cI .u64 (y.g i)) true]) []:=by
 unfold Bc at h;refine A3 hS Tryz.func189 ?_;refine H3 hS trivial 4 3000 (B3 a) ?_;obtain⟨c1,h⟩:=D3 h;refine F9 hS c1 h (fun x1 x2=>⟨[(7,pN x2),(6,.vec 19000),(5,pN (d.n:Int)),(2,.p (.ptr (B3 a))),(1,.p (vSl 2 A0 d))],[(19000,.vec E6 1 x1.n (fun i=>cI .u64 (x1.g i)) false)]⟩) (ids:=[(19000,19000)]) (fun _ _ _ _ _ t x1 x2 f h=>?_);refine kI hS h ?_ ?_<;>intro h
 ·refine kI hS h ?_ ?_<;>intro h
  ·obtain⟨c24,h⟩:=D3 h;exact f _ [(19000,19000)] _ (x1.upd x2.toNat (shI .shl .u64 1 x2)) (wrap .i64 (x2+1)) (And.intro (And.intro c24.1.1 c24.1.2) (And.intro (rfl:(1:Nat)=1) (And.intro c24.2 (by decide:(1:Nat)<=1)))) h (hle:=klR [(4,.fn x1.n (x1.upd x2.toNat (shI .shl .u64 1 x2)).n (fun l=>if l=x2.toNat then splice ((fun i=>cI .u64 (x1.g i)) l) 0 [pI .u64 (shI .shl .u64 1 x2)]else (fun i=>cI .u64 (x1.g i)) l) (fun i=>cI .u64 ((x1.upd x2.toNat (shI .shl .u64 1 x2)).g i)))] (al1 ⟨rfl,XH (c:=cI .u64) (v:=x1) (x:=shI .shl .u64 1 x2) same (fun _=>by first|rfl|(dsimp only;split<;>rfl))⟩ al0))
  ·refine kI hS h ?_ ?_<;>intro h
   ·refine D4 hS trivial [6,7,9,10,12] ?_;refine ZY trivial (b:=decide (x2<(d.n:Int))) (fun c26=>?_) (fun c26=>?_)
    ·replace h:=itT c26 h;obtain⟨c27,h⟩:=D3 h;obtain⟨y3,e3,h⟩:=B7 h;refine R5 (And.intro (And.intro c27 (by decide:(2:Nat)<=2)) (by decide:(2:Nat)<=6)) (Mi hS hL e3) ?_;refine I7 trivial ?_;refine kI hS h ?_ ?_<;>intro h
     ·obtain⟨c29,h⟩:=D3 h;exact f _ [(19000,19000)] _ (x1.upd x2.toNat (shI .shl .u64 1 (wrap .i64 (x2+1)))) (wrap .i64 (x2+1)) (And.intro (And.intro c29.1.1 c29.1.2) (And.intro (rfl:(1:Nat)=1) (And.intro c29.2 (by decide:(1:Nat)<=1)))) h (hle:=klR [(4,.fn x1.n (x1.upd x2.toNat (shI .shl .u64 1 (wrap .i64 (x2+1)))).n (fun l=>if l=x2.toNat then splice ((fun i=>cI .u64 (x1.g i)) l) 0 [pI .u64 (shI .shl .u64 1 (wrap .i64 (x2+1)))]else (fun i=>cI .u64 (x1.g i)) l) (fun i=>cI .u64 ((x1.upd x2.toNat (shI .shl .u64 1 (wrap .i64 (x2+1)))).g i)))] (al1 ⟨rfl,XH (c:=cI .u64) (v:=x1) (x:=shI .shl .u64 1 (wrap .i64 (x2+1))) same (fun _=>by first|rfl|(dsimp only;split<;>rfl))⟩ al0))
     ·exact f _ [(19000,19000)] _ x1 (wrap .i64 (x2+1)) trivial h
    ·replace h:=itF c26 h;refine I7 trivial ?_;exact f _ [(19000,19000)] _ x1 (wrap .i64 (x2+1)) trivial h
   ·refine kI hS h ?_ ?_<;>intro h
    ·refine kI hS h ?_ ?_<;>intro h
     ·obtain⟨c32,h⟩:=D3 h;exact f _ [(19000,19000)] _ (x1.upd x2.toNat 1) (wrap .i64 (x2+1)) (And.intro c32.1 (And.intro (rfl:(1:Nat)=1) (And.intro c32.2 (by decide:(1:Nat)<=1)))) h (hle:=klR [(4,.fn x1.n (x1.upd x2.toNat 1).n (fun l=>if l=x2.toNat then splice ((fun i=>cI .u64 (x1.g i)) l) 0 [pI .u64 1]else (fun i=>cI .u64 (x1.g i)) l) (fun i=>cI .u64 ((x1.upd x2.toNat 1).g i)))] (al1 ⟨rfl,XH (c:=cI .u64) (v:=x1) (x:=1) same (fun _=>by first|rfl|(dsimp only;split<;>rfl))⟩ al0))
     ·exact f _ [(19000,19000)] _ x1 (wrap .i64 (x2+1)) trivial h
    ·refine kI hS h ?_ ?_<;>intro h
     ·refine kI hS h ?_ ?_<;>intro h
      ·obtain⟨c35,h⟩:=D3 h;exact f _ [(19000,19000)] _ (x1.upd x2.toNat (shI .shl .u64 1 x2)) (wrap .i64 (x2+1)) (And.intro (And.intro c35.1.1 c35.1.2) (And.intro (rfl:(1:Nat)=1) (And.intro c35.2 (by decide:(1:Nat)<=1)))) h (hle:=klR [(4,.fn x1.n (x1.upd x2.toNat (shI .shl .u64 1 x2)).n (fun l=>if l=x2.toNat then splice ((fun i=>cI .u64 (x1.g i)) l) 0 [pI .u64 (shI .shl .u64 1 x2)]else (fun i=>cI .u64 (x1.g i)) l) (fun i=>cI .u64 ((x1.upd x2.toNat (shI .shl .u64 1 x2)).g i)))] (al1 ⟨rfl,XH (c:=cI .u64) (v:=x1) (x:=shI .shl .u64 1 x2) same (fun _=>by first|rfl|(dsimp only;split<;>rfl))⟩ al0))
      ·exact f _ [(19000,19000)] _ x1 (wrap .i64 (x2+1)) trivial h
     ·exact f _ [(19000,19000)] _ x1 (wrap .i64 (x2+1)) trivial h
 ·refine kI hS h ?_ ?_<;>intro h
  ·refine kC hS h (OG hS hL) (fun y4 h=>?_);refine F9 hS trivial h (fun x3 x4=>⟨[(8,pN x4),(6,.vec 7500),(2,.p (.ptr (B3 a))),(1,.p (vSl 2 A0 d))],[(7500,.vec E6 1 x3.n (fun i=>cI .u64 (x3.g i)) true)]⟩) (ids:=[(7500,79000)]) (fun _ _ _ _ _ u x3 x4 w h=>?_);refine I1 hS trivial 82 ⟨[(81,.p (vSl 7 B3 a.L)),(79,pN x4),(8,pN x4),(6,.vec 7500),(2,.p (.ptr (B3 a))),(1,.p (vSl 2 A0 d))],[(7500,.vec E6 1 x3.n (fun i=>cI .u64 (x3.g i)) true)]⟩ (ids:=[(7500,7500)]) ?_ (hle:=klR [(0,.fn a.L.n a.L.n (AQ a) (fun i=>B3 (a.L.g i)))] (al1 ⟨rfl,K7 a⟩ al0));refine kI hS h ?_ ?_<;>intro h
   ·refine I1 hS trivial 90 ⟨[(89,pN x4),(88,.p (vSl 7 B3 a.L)),(86,.vec 7500),(8,pN x4),(2,.p (.ptr (B3 a))),(1,.p (vSl 2 A0 d))],[(7500,.vec E6 1 x3.n (fun i=>cI .u64 (x3.g i)) true)]⟩ (ids:=[(7500,7500)]) ?_ (hle:=klR [(1,.fn a.L.n a.L.n (AQ a) (fun i=>B3 (a.L.g i)))] (al1 ⟨rfl,K7 a⟩ al0));obtain⟨c42,h⟩:=D3 h;obtain⟨y9,e9,h⟩:=B7 h;refine B9 hS [] (And.intro c42 (by decide:(7:Nat)<=7)) (j e9) ?_;refine kC hS h (FP hS hL) (fun z h=>?_);exact w _ [(7500,95000)] _ z (wrap .i64 (x4+1)) trivial h
   ·obtain rfl:=B8 h;exact A9 hS trivial ⟨[(4,.vec 7500)],[(7500,.vec E6 1 x3.n (fun i=>cI .u64 (x3.g i)) true)]⟩ [7500] (ids:=[(7500,7500)]) ⟨rfl,rfl,rfl⟩
  ·refine kI hS h ?_ ?_<;>intro h
   ·refine F9 hS trivial h (fun x5 x6=>⟨[(9,pN x6),(6,.vec 7500),(2,.p (.ptr (B3 a))),(1,.p (vSl 2 A0 d))],[(7500,.vec E6 1 x5.n (fun i=>cI .u64 (x5.g i)) true)]⟩) (ids:=[(7500,19000)]) (fun _ _ _ _ _ a0 x5 x6 a1 h=>?_);refine I1 hS trivial 100 ⟨[(99,.p (vSl 7 B3 a.L)),(97,pN x6),(9,pN x6),(6,.vec 7500),(2,.p (.ptr (B3 a))),(1,.p (vSl 2 A0 d))],[(7500,.vec E6 1 x5.n (fun i=>cI .u64 (x5.g i)) true)]⟩ (ids:=[(7500,7500)]) ?_ (hle:=klR [(0,.fn a.L.n a.L.n (AQ a) (fun i=>B3 (a.L.g i)))] (al1 ⟨rfl,K7 a⟩ al0));refine kI hS h ?_ ?_<;>intro h
    ·refine I1 hS trivial 108 ⟨[(107,pN x6),(106,.p (vSl 7 B3 a.L)),(104,.vec 7500),(9,pN x6),(2,.p (.ptr (B3 a))),(1,.p (vSl 2 A0 d))],[(7500,.vec E6 1 x5.n (fun i=>cI .u64 (x5.g i)) true)]⟩ (ids:=[(7500,7500)]) ?_ (hle:=klR [(1,.fn a.L.n a.L.n (AQ a) (fun i=>B3 (a.L.g i)))] (al1 ⟨rfl,K7 a⟩ al0));obtain⟨c49,h⟩:=D3 h;obtain⟨a7,e15,h⟩:=B7 h;refine B9 hS [] (And.intro c49 (by decide:(7:Nat)<=7)) (j e15) ?_;refine kC hS h (OH hS hL) (fun a2 h=>?_);exact a1 _ [(7500,113000)] _ a2 (wrap .i64 (x6+1)) trivial h
    ·obtain rfl:=B8 h;exact A9 hS trivial ⟨[(4,.vec 7500)],[(7500,.vec E6 1 x5.n (fun i=>cI .u64 (x5.g i)) true)]⟩ [7500] (ids:=[(7500,7500)]) ⟨rfl,rfl,rfl⟩
   ·refine kI hS h ?_ ?_<;>intro h
    ·refine I1 hS trivial 117 ⟨[(116,.p (vSl 7 B3 a.L)),(6,.vec 19000),(5,pN (d.n:Int)),(2,.p (.ptr (B3 a))),(1,.p (vSl 2 A0 d))],[(19000,.vec E6 1 x1.n (fun i=>cI .u64 (x1.g i)) false)]⟩ (ids:=[(19000,19000)]) ?_ (hle:=klR [(0,.fn a.L.n a.L.n (AQ a) (fun i=>B3 (a.L.g i)))] (al1 ⟨rfl,K7 a⟩ al0));obtain⟨c51,h⟩:=D3 h;obtain⟨q,e17,h⟩:=B7 h;refine B9 hS [] (And.intro c51 (by decide:(7:Nat)<=7)) (j e17) ?_;refine kC hS h (OG hS hL) (fun a8 h=>?_);refine RQ hS trivial h (fun x8 x9 m=>⟨[(12,pN m),(11,.vec 12500),(10,.vec 121000),(6,.vec 7500),(2,.p (.ptr (B3 a)))],[(121000,.vec E6 1 q.n (fun i=>cI .u64 (q.g i)) true),(12500,.vec E6 1 x9.n (fun i=>cI .u64 (x9.g i)) true),(7500,.vec E6 1 x8.n (fun i=>cI .u64 (x8.g i)) true)]⟩) (ids:=[(7500,19000),(12500,123000),(121000,121000)]) (fun _ _ _ _ _ a3 x8 x9 m s h=>?_);refine kI hS h ?_ ?_<;>intro h
     ·refine kC hS h (OH hS hL) (fun o h=>?_);refine Fy hS trivial (A7 hS) h 0 (fun z3=>⟨[(147,pB z3),(12,pN m),(11,.vec 12500),(10,.vec 121000),(6,.vec 133000),(2,.p (.ptr (B3 a)))],[(133000,.vec E6 1 o.n (fun i=>cI .u64 (o.g i)) true),(121000,.vec E6 1 q.n (fun i=>cI .u64 (q.g i)) true),(12500,.vec E6 1 x9.n (fun i=>cI .u64 (x9.g i)) true)]⟩) (fun M3 k3 r h=>?_) (fun z3 h=>?_)
      ·refine kG hS h (fun h=>?_) (fun h=>?_)
       ·exact r _ [(12500,12500),(121000,121000),(133000,133000)] _ true trivial h
       ·refine kG hS h (fun h=>?_) (fun h=>?_)
        ·refine kC hS h (UW hS hL) (fun a4 h=>?_);exact r _ [(12500,12500),(121000,121000),(133000,133000)] _ a4 trivial h
        ·exact r _ [(12500,12500),(121000,121000),(133000,133000)] _ false trivial h
      ·refine kI hS h ?_ ?_<;>intro h
       ·obtain rfl:=B8 h;exact A9 hS trivial ⟨[(4,.vec 133000)],[(133000,.vec E6 1 o.n (fun i=>cI .u64 (o.g i)) true)]⟩ [133000] (ids:=[(133000,133000)]) ⟨rfl,rfl,rfl⟩
       ·refine kC hS h (FP hS hL) (fun a5 h=>?_);exact s _ [(7500,133000),(12500,152000),(121000,121000)] _ o a5 (wrap .i64 (m+1)) trivial h
     ·refine kC hS h (FP hS hL) (fun a6 h=>?_);exact s _ [(7500,7500),(12500,152000),(121000,121000)] _ x8 a6 (wrap .i64 (m+1)) trivial h
    ·obtain rfl:=B8 h;exact A9 hS trivial ⟨[(4,.vec 19000)],[(19000,.vec E6 1 x1.n (fun i=>cI .u64 (x1.g i)) true)]⟩ [19000] (ids:=[(19000,19000)]) ⟨rfl,rfl,rfl⟩
theorem Mj {N:Nat}{a:Pat}{b:Sl Sound}{y:Sl Int}(h:Bw N a b=some y) :FunO S EE [.p (.agg (B3 a)),.p (vSl 2 A0 b)] [] (.vec 0) ([.vec E6 1 y.n (fun i=>cI .u64 (y.g i)) true]) []:=by
 induction N generalizing a b y with
 |zero=>cases (show (none:Option (Sl Int))=some y from h)
 |succ N ih=>exact SP hS hL (fun e=>ih e) h
def BO (N:Nat)(d:Pat)(c:Sl Sound)(a:Int):Option ((Sl Int)×Int):=
 (Cw N d c).bind fun y1=>
 if (y1 != 0) then
  some ((Sl.nil:Sl Int),y1)
 else
  if ((decide (a<0))||(decide ((c.n:Int)<a))) then
   some ((Sl.nil:Sl Int),3)
  else
   (Bw N d c).bind fun y2=>
   Q2 N (fun b (x1:Sl Int) (x2:Int)=>
    if (decide (x2<=(c.n:Int))) then
     if ((((0:Int)<=x2/\x2<(y2.n:Int))/\x2.toNat<y2.n)/\(0:Int)<=a)then
      if ((E5 .and .u64 (shI .shr .u64 (y2.g x2.toNat) a) 1)==1) then
       if ((x1.n+(Sl.of [x2]:Sl Int).n)*8<=140737488355328/\x1.n+(Sl.of [x2]:Sl Int).n<=140737488355328)then
        b (x1.push x2) (wrap .i64 (x2+1))
       else none
      else
       b x1 (wrap .i64 (x2+1))
     else none
    else
     some (x1,0)
    ) (Sl.nil:Sl Int) 0
theorem SQ {N:Nat}{j:Pat}{f:Sl Sound}{d:Int}{y:(Sl Int)×Int}(h:BO N j f d=some y) :FunO S JL [.p (.agg (B3 j)),.p (vSl 2 A0 f),pN d] [] (.tup [.vec 0,pN y.2]) ([.vec B6 1 y.1.n (fun i=>cI .i64 (y.1.g i)) true]) []:=by
 unfold BO at h;refine A3 hS Tryz.func176 ?_;refine kC hS h (OI hS hL) (fun y1 h=>?_);refine kI hS h ?_ ?_<;>intro h
 ·obtain rfl:=B8 h;exact A9 hS trivial ⟨[(7,pN y1),(6,.vec 7700)],[(7700,.vec B6 1 (Sl.nil:Sl Int).n (fun i=>cI .i64 ((Sl.nil:Sl Int).g i)) true)]⟩ [7700] (ids:=[]) ⟨rfl,rfl,rfl⟩
 ·refine kB hS (A7 hS) trivial trivial 5 (.o (.a (decide (d<0))) (.a (decide ((f.n:Int)<d)))) ?_;refine kI hS h ?_ ?_<;>intro h
  ·obtain rfl:=B8 h;exact A9 hS trivial ⟨[(7,pN 3),(6,.vec 7700)],[(7700,.vec B6 1 (Sl.nil:Sl Int).n (fun i=>cI .i64 ((Sl.nil:Sl Int).g i)) true)]⟩ [7700] (ids:=[]) ⟨rfl,rfl,rfl⟩
  ·refine kC hS h (Mj hS hL) (fun y2 h=>?_);refine F9 hS trivial h (fun x1 x2=>⟨[(11,pN x2),(10,.vec 11500),(9,.vec 29000),(2,pN d),(1,.p (vSl 2 A0 f))],[(29000,.vec E6 1 y2.n (fun i=>cI .u64 (y2.g i)) true),(11500,.vec B6 1 x1.n (fun i=>cI .i64 (x1.g i)) false)]⟩) (ids:=[(29000,29000)]) (fun _ _ _ _ _ m x1 x2 l h=>?_);refine kI hS h ?_ ?_<;>intro h
   ·obtain⟨c10,h⟩:=D3 h;refine D0 hS c10 (b:=(E5 .and .u64 (shI .shr .u64 (y2.g x2.toNat) d) 1)==1) (fun c11=>?_) (fun c11=>?_)
    ·replace h:=itT c11 h;obtain⟨c12,h⟩:=D3 h;exact l _ [(11500,47000),(29000,29000)] _ (x1.push x2) (wrap .i64 (x2+1)) (And.intro (rfl:true=true) c12) h (hle:=klR [(4,.fn (x1.n+1) (x1.push x2).n (Q0 x1.n (fun i=>cI .i64 (x1.g i)) (D5 [pI .i64 0] [(0,cI .i64 x2)])) (fun i=>cI .i64 ((x1.push x2).g i)))] (al1 ⟨rfl,Et (c:=cI .i64) (v:=x1) (x:=x2) (z:=[(pI .i64 0)]) same rfl rfl⟩ al0))
    ·replace h:=itF c11 h;exact l _ [(11500,11500),(29000,29000)] _ x1 (wrap .i64 (x2+1)) trivial h
   ·obtain rfl:=B8 h;exact A9 hS trivial ⟨[(7,pN 0),(6,.vec 11500)],[(11500,.vec B6 1 x1.n (fun i=>cI .i64 (x1.g i)) true)]⟩ [11500] (ids:=[(11500,11500)]) ⟨rfl,rfl,rfl⟩
def Ed (N:Nat)(d:Pat)(c:Sl Sound)(a:Int):Option ((Sl Int)×Int):=
 (Cw N d c).bind fun y1=>
 if (y1 != 0) then
  some ((Sl.nil:Sl Int),y1)
 else
  if ((decide (a<0))||(decide ((c.n:Int)<a))) then
   some ((Sl.nil:Sl Int),3)
  else
   (Bw N d c).bind fun y2=>
   Q2 N (fun b (x1:Sl Int) (x2:Int)=>
    if (decide (x2<=(c.n:Int))) then
     if ((((0:Int)<=a/\a<(y2.n:Int))/\a.toNat<y2.n)/\(0:Int)<=x2)then
      if ((E5 .and .u64 (shI .shr .u64 (y2.g a.toNat) x2) 1)==1) then
       if ((x1.n+(Sl.of [x2]:Sl Int).n)*8<=140737488355328/\x1.n+(Sl.of [x2]:Sl Int).n<=140737488355328)then
        b (x1.push x2) (wrap .i64 (x2+1))
       else none
      else
       b x1 (wrap .i64 (x2+1))
     else none
    else
     some (x1,0)
    ) (Sl.nil:Sl Int) 0
theorem Yu {N:Nat}{j:Pat}{f:Sl Sound}{d:Int}{y:(Sl Int)×Int}(h:Ed N j f d=some y) :FunO S Oz [.p (.agg (B3 j)),.p (vSl 2 A0 f),pN d] [] (.tup [.vec 0,pN y.2]) ([.vec B6 1 y.1.n (fun i=>cI .i64 (y.1.g i)) true]) []:=by
 unfold Ed at h;refine A3 hS Tryz.func177 ?_;refine kC hS h (OI hS hL) (fun y1 h=>?_);refine kI hS h ?_ ?_<;>intro h
 ·obtain rfl:=B8 h;exact A9 hS trivial ⟨[(7,pN y1),(6,.vec 7700)],[(7700,.vec B6 1 (Sl.nil:Sl Int).n (fun i=>cI .i64 ((Sl.nil:Sl Int).g i)) true)]⟩ [7700] (ids:=[]) ⟨rfl,rfl,rfl⟩
 ·refine kB hS (A7 hS) trivial trivial 5 (.o (.a (decide (d<0))) (.a (decide ((f.n:Int)<d)))) ?_;refine kI hS h ?_ ?_<;>intro h
  ·obtain rfl:=B8 h;exact A9 hS trivial ⟨[(7,pN 3),(6,.vec 7700)],[(7700,.vec B6 1 (Sl.nil:Sl Int).n (fun i=>cI .i64 ((Sl.nil:Sl Int).g i)) true)]⟩ [7700] (ids:=[]) ⟨rfl,rfl,rfl⟩
  ·refine kC hS h (Mj hS hL) (fun y2 h=>?_);refine F9 hS trivial h (fun x1 x2=>⟨[(11,pN x2),(10,.vec 11500),(9,.vec 29000),(2,pN d),(1,.p (vSl 2 A0 f))],[(29000,.vec E6 1 y2.n (fun i=>cI .u64 (y2.g i)) true),(11500,.vec B6 1 x1.n (fun i=>cI .i64 (x1.g i)) false)]⟩) (ids:=[(29000,29000)]) (fun _ _ _ _ _ m x1 x2 l h=>?_);refine kI hS h ?_ ?_<;>intro h
   ·obtain⟨c10,h⟩:=D3 h;refine D0 hS c10 (b:=(E5 .and .u64 (shI .shr .u64 (y2.g d.toNat) x2) 1)==1) (fun c11=>?_) (fun c11=>?_)
    ·replace h:=itT c11 h;obtain⟨c12,h⟩:=D3 h;exact l _ [(11500,47000),(29000,29000)] _ (x1.push x2) (wrap .i64 (x2+1)) (And.intro (rfl:true=true) c12) h (hle:=klR [(4,.fn (x1.n+1) (x1.push x2).n (Q0 x1.n (fun i=>cI .i64 (x1.g i)) (D5 [pI .i64 0] [(0,cI .i64 x2)])) (fun i=>cI .i64 ((x1.push x2).g i)))] (al1 ⟨rfl,Et (c:=cI .i64) (v:=x1) (x:=x2) (z:=[(pI .i64 0)]) same rfl rfl⟩ al0))
    ·replace h:=itF c11 h;exact l _ [(11500,11500),(29000,29000)] _ x1 (wrap .i64 (x2+1)) trivial h
   ·obtain rfl:=B8 h;exact A9 hS trivial ⟨[(7,pN 0),(6,.vec 11500)],[(11500,.vec B6 1 x1.n (fun i=>cI .i64 (x1.g i)) true)]⟩ [11500] (ids:=[(11500,11500)]) ⟨rfl,rfl,rfl⟩
def Ao (N:Nat)(a:Law)(c:Sl Sound)(b:Int):Option Bool:=
 if ((decide (b<0))||(decide ((c.n:Int)<(wrap .i64 (b+(a.If.n:Int)))))) then
  some false
 else
  R6 N (fun d (x1:Int)=>
   if (decide (x1<(a.If.n:Int))) then
    if (((0:Int)<=(wrap .i64 (b+x1))/\(wrap .i64 (b+x1))<(c.n:Int))/\((0:Int)<=x1/\x1<(a.If.n:Int)))then
     (O2 N (c.g (wrap .i64 (b+x1)).toNat) (a.If.g x1.toNat)).bind fun y3=>
     if (!y3) then
      some false
     else
      d (wrap .i64 (x1+1))
    else none
   else
    (BO N a.Left c b).bind fun y4=>
    (Ed N a.Right c (wrap .i64 (b+(a.If.n:Int)))).bind fun y5=>
    some ((decide (0<(y4.1.n:Int)))&&(decide (0<(y5.1.n:Int))))
   ) 0
theorem Mk {N:Nat}{b:Law}{d:Sl Sound}{c:Int}{y:Bool}(h:Ao N b d c=some y) :FunO S Sq [.p (.agg (B2 b)),.p (vSl 2 A0 d),pN c] [] (pB y) ([]) []:=by
 unfold Ao at h;refine A3 hS Tryz.func162 ?_;refine H3 hS trivial 6 4000 (B2 b) ?_;refine kB hS (A7 hS) trivial trivial 7 (.o (.a (decide (c<0))) (.a (decide ((d.n:Int)<(wrap .i64 (c+(b.If.n:Int))))))) ?_;refine kI hS h ?_ ?_<;>intro h
 ·cases h;exact kR hS
 ·refine I4 hS trivial h (fun x1=>⟨[(8,pN x1),(7,pN (b.If.n:Int)),(3,.p (.ptr (B2 b))),(2,pN c),(1,.p (vSl 2 A0 d))],[]⟩) (ids:=[]) (fun _ _ _ _ _ f x1 g h=>?_);refine kI hS h ?_ ?_<;>intro h
  ·refine D4 hS trivial [4,5,7,9,10,11] ?_;obtain⟨c9,h⟩:=D3 h;obtain⟨y3,e3,h⟩:=B7 h;refine R5 (And.intro (And.intro (And.intro c9.1 (by decide:(2:Nat)<=2)) c9.2) (by decide:(2:Nat)<=2)) (Mg hS hL e3) ?_;refine I7 trivial ?_;refine kI hS h ?_ ?_<;>intro h
   ·cases h;exact kR hS
   ·exact g _ [] _ (wrap .i64 (x1+1)) trivial h
  ·obtain⟨y4,e4,h⟩:=B7 h;refine B9 hS [] (by decide:(7:Nat)<=17) (SQ hS hL e4) ?_;obtain⟨y5,e5,h⟩:=B7 h;refine B9 hS [] (by decide:(7:Nat)<=10) (Yu hS hL e5) ?_;refine kB hS (A7 hS) trivial trivial 4 (.n (.a (decide (0<(y4.1.n:Int)))) (.a (decide (0<(y5.1.n:Int))))) ?_;cases h;exact kR hS
def Bd (N:Nat)(a:Law)(b:Sl Sound):Option (Sl Sound):=
 Q2 N (fun c (x1:Sl Sound) (x2:Int)=>
  if (decide (x2<(a.Out.n:Int))) then
   if ((0:Int)<=x2/\x2<(a.Out.n:Int))then
    if ((decide (0<=(a.Out.g x2.toNat).From))=true->((0:Int)<=(a.Out.g x2.toNat).From/\(a.Out.g x2.toNat).From<(b.n:Int)))then
     (P6 N (⟨(if (decide (0<=(a.Out.g x2.toNat).From)) then (b.g (a.Out.g x2.toNat).From.toNat).Plus else 0),(if (decide (0<=(a.Out.g x2.toNat).From)) then (b.g (a.Out.g x2.toNat).From.toNat).Minus else 0)⟩:Sound) (a.Out.g x2.toNat).Clear (a.Out.g x2.toNat).Set).bind fun y5=>
     if ((a.Out.g x2.toNat).Take != 0) then
      if ((0:Int)<=(a.Out.g x2.toNat).Of/\(a.Out.g x2.toNat).Of<(b.n:Int))then
       (Y7 N y5.1 (b.g (a.Out.g x2.toNat).Of.toNat) (a.Out.g x2.toNat).Take).bind fun y6=>
       if ((x1.n+(Sl.of [y6.1]:Sl Sound).n)*8<=140737488355328/\x1.n+(Sl.of [y6.1]:Sl Sound).n<=140737488355328)then
        c (x1.push y6.1) (wrap .i64 (x2+1))
       else none
      else none
     else
      if ((x1.n+(Sl.of [y5.1]:Sl Sound).n)*8<=140737488355328/\x1.n+(Sl.of [y5.1]:Sl Sound).n<=140737488355328)then
       c (x1.push y5.1) (wrap .i64 (x2+1))
      else none
    else none
   else none
  else
   some x1
  ) (Sl.nil:Sl Sound) 0
theorem SR {N:Nat}{d:Law}{a:Sl Sound}{y:Sl Sound}(h:Bd N d a=some y) :FunO S Sr [.p (.agg (B2 d)),.p (vSl 2 A0 a)] [] (.vec 0) ([.vec B0 2 y.n (fun i=>A0 (y.g i)) true]) []:=by
 unfold Bd at h;refine A3 hS Tryz.func163 ?_;refine H3 hS trivial 4 3000 (B2 d) ?_;refine F9 hS trivial h (fun x1 x2=>⟨[(6,pN x2),(5,.vec 6500),(2,.p (.ptr (B2 d))),(1,.p (vSl 2 A0 a))],[(6500,.vec B0 2 x1.n (fun i=>A0 (x1.g i)) false)]⟩) (ids:=[]) (fun _ _ _ _ _ o x1 x2 l h=>?_);refine kI hS h ?_ ?_<;>intro h
 ·obtain⟨c16,h⟩:=D3 h;refine H3 hS (And.intro c16 (by decide:(6:Nat)<=6)) 21 8000 (O5 (d.Out.g x2.toNat)) ?_;obtain⟨c18,h⟩:=D3 h;obtain⟨t5,f⟩:∃x:Int,x=(if (decide (0<=(d.Out.g x2.toNat).From)) then (a.g (d.Out.g x2.toNat).From.toNat).Plus else 0):=⟨_,rfl⟩;obtain⟨t6,j⟩:∃x:Int,x=(if (decide (0<=(d.Out.g x2.toNat).From)) then (a.g (d.Out.g x2.toNat).From.toNat).Minus else 0):=⟨_,rfl⟩;refine PI hS trivial (A7 hS) 0 ⟨[(8,.reg 9000 0),(7,.p (.ptr (O5 (d.Out.g x2.toNat)))),(6,pN x2),(5,.vec 6500),(2,.p (.ptr (B2 d))),(1,.p (vSl 2 A0 a))],[(9000,.cells [pU t5,pU t6]),(6500,.vec B0 2 x1.n (fun i=>A0 (x1.g i)) false)]⟩ (fun M3 m=>?_) ?_
  ·refine D0 hS trivial (b:=decide (0<=(d.Out.g x2.toNat).From)) (fun c19=>?_) (fun c19=>?_)
   ·exact m _ [(6500,6500),(9000,9000)] _ (And.intro (c18 c19) (by decide:(2:Nat)<=2)) (hle:=klR [(4,.eq (pI .u32 (a.g (d.Out.g x2.toNat).From.toNat).Plus) (pI .u32 t5)),(5,.eq (pI .u32 (a.g (d.Out.g x2.toNat).From.toNat).Minus) (pI .u32 t6))] (al1 (by simp only[f,j,c19,Leaf.ok,pm,if_true,if_false]) (al1 (by simp only[f,j,c19,Leaf.ok,pm,if_true,if_false]) al0)))
   ·exact m _ [(6500,6500),(9000,9000)] _ trivial (hle:=klR [(4,.eq (pI .u32 0) (pI .u32 t5)),(5,.eq (pI .u32 0) (pI .u32 t6))] (al1 (by simp only[f,j,c19,Leaf.ok,pm,if_true,if_false]) (al1 (by simp only[f,j,c19,Leaf.ok,pm,if_true,if_false]) al0)))
  ·subst j;subst f;obtain⟨y5,e5,h⟩:=B7 h;refine B9 hS [] (by decide:(2:Nat)<=4) (SL hS hL e5) ?_;refine kI hS h ?_ ?_<;>intro h
   ·refine D4 hS trivial [3,4,5,7,8] ?_;obtain⟨c21,h⟩:=D3 h;obtain⟨y6,e6,h⟩:=B7 h;refine R5 (And.intro c21 (by decide:(2:Nat)<=2)) (Yn hS hL e6) ?_;refine I7 trivial ?_;obtain⟨c22,h⟩:=D3 h;exact l _ [(6500,58000)] _ (x1.push y6.1) (wrap .i64 (x2+1)) (And.intro (rfl:true=true) c22) h (hle:=klR [(3,.fn (x1.n+1) (x1.push y6.1).n (Q0 x1.n (fun i=>A0 (x1.g i)) (D5 [pI .u32 0,pI .u32 0] [(0,A0 y6.1)])) (fun i=>A0 ((x1.push y6.1).g i)))] (al1 ⟨rfl,Et (c:=A0) (v:=x1) (x:=y6.1) (z:=[(pI .u32 0),pI .u32 0]) same rfl rfl⟩ al0))
   ·obtain⟨c23,h⟩:=D3 h;exact l _ [(6500,58000)] _ (x1.push y5.1) (wrap .i64 (x2+1)) (And.intro (rfl:true=true) c23) h (hle:=klR [(3,.fn (x1.n+1) (x1.push y5.1).n (Q0 x1.n (fun i=>A0 (x1.g i)) (D5 [pI .u32 0,pI .u32 0] [(0,A0 y5.1)])) (fun i=>A0 ((x1.push y5.1).g i)))] (al1 ⟨rfl,Et (c:=A0) (v:=x1) (x:=y5.1) (z:=[(pI .u32 0),pI .u32 0]) same rfl rfl⟩ al0))
 ·obtain rfl:=B8 h;exact A9 hS trivial ⟨[(4,.vec 6500)],[(6500,.vec B0 2 x1.n (fun i=>A0 (x1.g i)) true)]⟩ [6500] (ids:=[(6500,6500)]) ⟨rfl,rfl,rfl⟩
def P7 (N:Nat)(c:Law)(b:Sl Sound)(a:Int):Option (Sl Sound):=
 if (((0:Int)<=a/\a<=(b.n:Int))/\(((Sl.of []:Sl Sound).n+(b.take a.toNat).n)*8<=140737488355328/\(Sl.of []:Sl Sound).n+(b.take a.toNat).n<=140737488355328))then
  if ((0:Int)<=a/\a<=(wrap .i64 (a+(c.If.n:Int)))/\(wrap .i64 (a+(c.If.n:Int)))<=(b.n:Int))then
   (Bd N c (b.sub a.toNat (wrap .i64 (a+(c.If.n:Int))).toNat)).bind fun y1=>
   if ((((Sl.of []:Sl Sound).app (b.take a.toNat)).n+y1.n)*8<=140737488355328/\((Sl.of []:Sl Sound).app (b.take a.toNat)).n+y1.n<=140737488355328)then
    if (((0:Int)<=(wrap .i64 (a+(c.If.n:Int)))/\(wrap .i64 (a+(c.If.n:Int)))<=(b.n:Int))/\(((((Sl.of []:Sl Sound).app (b.take a.toNat)).app y1).n+(b.drop (wrap .i64 (a+(c.If.n:Int))).toNat).n)*8<=140737488355328/\(((Sl.of []:Sl Sound).app (b.take a.toNat)).app y1).n+(b.drop (wrap .i64 (a+(c.If.n:Int))).toNat).n<=140737488355328))then
     some ((((Sl.of []:Sl Sound).app (b.take a.toNat)).app y1).app (b.drop (wrap .i64 (a+(c.If.n:Int))).toNat))
    else none
   else none
  else none
 else none
theorem Io {N:Nat}{d:Law}{a:Sl Sound}{b:Int}{y:Sl Sound}(h:P7 N d a b=some y) :FunO S Ib [.p (.agg (B2 d)),.p (vSl 2 A0 a),pN b] [] (.vec 0) ([.vec B0 2 y.n (fun i=>A0 (y.g i)) true]) []:=by unfold P7 at h;refine A3 hS Tryz.func164 ?_;refine H3 hS trivial 6 4000 (B2 d) ?_;obtain⟨c1,h⟩:=D3 h;refine D4 hS (And.intro (And.intro (rfl:true=true) c1.1) c1.2) [1] ?_;obtain⟨c2,h⟩:=D3 h;obtain⟨y1,e1,h⟩:=B7 h;refine HO [] (And.intro (by decide:(18:Nat)<=18) c2) (SR hS hL e1) ?_;obtain⟨c3,h⟩:=D3 h;refine I7 c3 ?_;obtain⟨c4,h⟩:=D3 h;obtain rfl:=B8 h;exact A9 hS c4 ⟨[(6,.vec 34000)],[(34000,.vec B0 2 ((((Sl.of []:Sl Sound).app (a.take b.toNat)).app y1).app (a.drop (wrap .i64 (b+(d.If.n:Int))).toNat)).n (fun i=>A0 (((((Sl.of []:Sl Sound).app (a.take b.toNat)).app y1).app (a.drop (wrap .i64 (b+(d.If.n:Int))).toNat)).g i)) true)]⟩ [34000] (ids:=[(34000,34000)]) ⟨rfl,rfl,rfl⟩ (hle:=klR [(0,.fn (((0+(a.take b.toNat).n)+y1.n)+(a.drop (wrap .i64 (b+(d.If.n:Int))).toNat).n) ((((Sl.of []:Sl Sound).app (a.take b.toNat)).app y1).app (a.drop (wrap .i64 (b+(d.If.n:Int))).toNat)).n (Q0 ((0+(a.take b.toNat).n)+y1.n) (Q0 (0+(a.take b.toNat).n) (Q0 0 (D5 [pI .u32 0,pI .u32 0] []) (fun i=>A0 ((a.take b.toNat).g i))) (fun i=>A0 (y1.g i))) (fun i=>A0 ((a.drop (wrap .i64 (b+(d.If.n:Int))).toNat).g i))) (fun i=>A0 (((((Sl.of []:Sl Sound).app (a.take b.toNat)).app y1).app (a.drop (wrap .i64 (b+(d.If.n:Int))).toNat)).g i)))] (al1 ⟨rfl,YX (c:=A0) (v:=((Sl.of []:Sl Sound).app (a.take b.toNat)).app y1) (w:=a.drop (wrap .i64 (b+(d.If.n:Int))).toNat) (YX (c:=A0) (v:=(Sl.of []:Sl Sound).app (a.take b.toNat)) (w:=y1) (YX (c:=A0) (v:=(Sl.of []:Sl Sound)) (w:=a.take b.toNat) (fun i f=>absurd f (by omega)) rfl same rfl) rfl same rfl) rfl same rfl⟩ al0))
def FQ (N:Nat)(a:Law)(b:Sl Sound):Option ((Sl Int)×(Sl (Sl Sound))×Int):=
 Ah4 N (fun c (x2:Sl Int) (x3:Sl (Sl Sound)) (x4:Sl Sound) (x5:Int)=>
  if (decide (x5<=(b.n:Int))) then
   (Ao N a b x5).bind fun y5=>
   if (!y5) then
    lt (fun (z3:Sl Sound)=>
     c x2 x3 z3 (wrap .i64 (x5+1))
     ) fun k3=>
     if (decide (x5<(b.n:Int))) then
      if (((0:Int)<=x5/\x5<(b.n:Int))/\((x4.n+(Sl.of [b.g x5.toNat]:Sl Sound).n)*8<=140737488355328/\x4.n+(Sl.of [b.g x5.toNat]:Sl Sound).n<=140737488355328))then
       k3 (x4.push (b.g x5.toNat))
      else none
     else
      k3 x4
   else
    if ((0:Int)<=x5/\x5<=(wrap .i64 (x5+(a.If.n:Int)))/\(wrap .i64 (x5+(a.If.n:Int)))<=(b.n:Int))then
     (Bd N a (b.sub x5.toNat (wrap .i64 (x5+(a.If.n:Int))).toNat)).bind fun y6=>
     if ((x4.n+y6.n)*8<=140737488355328/\x4.n+y6.n<=140737488355328)then
      if ((x2.n+(Sl.of [x5]:Sl Int).n)*8<=140737488355328/\x2.n+(Sl.of [x5]:Sl Int).n<=140737488355328)then
       if (((((Sl.of []:Sl Sound).n+(x4.app y6).n)*8<=140737488355328/\(Sl.of []:Sl Sound).n+(x4.app y6).n<=140737488355328)/\((0:Int)<=(wrap .i64 (x5+(a.If.n:Int)))/\(wrap .i64 (x5+(a.If.n:Int)))<=(b.n:Int)))/\((((Sl.of []:Sl Sound).app (x4.app y6)).n+(b.drop (wrap .i64 (x5+(a.If.n:Int))).toNat).n)*8<=140737488355328/\((Sl.of []:Sl Sound).app (x4.app y6)).n+(b.drop (wrap .i64 (x5+(a.If.n:Int))).toNat).n<=140737488355328))then
        if (decide (32<((((Sl.of []:Sl Sound).app (x4.app y6)).app (b.drop (wrap .i64 (x5+(a.If.n:Int))).toNat)).n:Int))) then
         some ((Sl.nil:Sl Int),(Sl.nil:Sl (Sl Sound)),11)
        else
         if ((x3.n+(Sl.of [((Sl.of []:Sl Sound).app (x4.app y6)).app (b.drop (wrap .i64 (x5+(a.If.n:Int))).toNat)]:Sl (Sl Sound)).n)*24<=140737488355328/\x3.n+(Sl.of [((Sl.of []:Sl Sound).app (x4.app y6)).app (b.drop (wrap .i64 (x5+(a.If.n:Int))).toNat)]:Sl (Sl Sound)).n<=140737488355328)then
          if ((a.If.n:Int)==0) then
           if (decide ((wrap .i64 (x5+(a.If.n:Int)))<(b.n:Int))) then
            if (((0:Int)<=(wrap .i64 (x5+(a.If.n:Int)))/\(wrap .i64 (x5+(a.If.n:Int)))<(b.n:Int))/\(((x4.app y6).n+(Sl.of [b.g (wrap .i64 (x5+(a.If.n:Int))).toNat]:Sl Sound).n)*8<=140737488355328/\(x4.app y6).n+(Sl.of [b.g (wrap .i64 (x5+(a.If.n:Int))).toNat]:Sl Sound).n<=140737488355328))then
             c (x2.push x5) (x3.push (((Sl.of []:Sl Sound).app (x4.app y6)).app (b.drop (wrap .i64 (x5+(a.If.n:Int))).toNat))) ((x4.app y6).push (b.g (wrap .i64 (x5+(a.If.n:Int))).toNat)) (wrap .i64 ((wrap .i64 (x5+(a.If.n:Int)))+1))
            else none
           else
            c (x2.push x5) (x3.push (((Sl.of []:Sl Sound).app (x4.app y6)).app (b.drop (wrap .i64 (x5+(a.If.n:Int))).toNat))) (x4.app y6) (wrap .i64 ((wrap .i64 (x5+(a.If.n:Int)))+1))
          else
           c (x2.push x5) (x3.push (((Sl.of []:Sl Sound).app (x4.app y6)).app (b.drop (wrap .i64 (x5+(a.If.n:Int))).toNat))) (x4.app y6) (wrap .i64 (x5+(a.If.n:Int)))
         else none
       else none
      else none
     else none
    else none
  else
   some (x2,x3,0)
  ) (Sl.nil:Sl Int) (Sl.nil:Sl (Sl Sound)) (Sl.nil:Sl Sound) 0
theorem Ab9 {N:Nat}{a:Law}{d:Sl Sound}{y:(Sl Int)×(Sl (Sl Sound))×Int}(h:FQ N a d=some y) :FunO S So [.p (.agg (B2 a)),.p (vSl 2 A0 d)] [] (.tup [.vec 0,.vec 1,pN y.2.2]) ([.vec B6 1 y.1.n (fun i=>cI .i64 (y.1.g i)) true,.vec A4 1 y.2.1.n (fun i=>cL 2 A0 (y.2.1.g i)) true]) []:=by
 unfold FQ at h;refine A3 hS Tryz.func154 ?_;refine H3 hS trivial 4 3000 (B2 a) ?_;refine ZX hS trivial h (fun x2 x3 x4 x5=>⟨[(10,pN x5),(9,.vec 10501),(8,.vec 9500),(7,.vec 8500),(2,.p (.ptr (B2 a))),(1,.p (vSl 2 A0 d))],[(10501,.vec B0 2 x4.n (fun i=>A0 (x4.g i)) false),(9500,.vec A4 1 x3.n (fun i=>cL 2 A0 (x3.g i)) false),(8500,.vec B6 1 x2.n (fun i=>cI .i64 (x2.g i)) false)]⟩) (ids:=[]) (fun _ _ _ _ _ l x2 x3 x4 x5 f h=>?_);refine kI hS h ?_ ?_<;>intro h
 ·obtain⟨y5,e5,h⟩:=B7 h;refine B9 hS [] (by decide:(18:Nat)<=18) (Mk hS hL e5) ?_;refine kI hS h ?_ ?_<;>intro h
  ·refine Fy hS trivial (A7 hS) h 0 (fun z3=>⟨[(10,pN x5),(9,.vec 10500),(8,.vec 9500),(7,.vec 8500),(2,.p (.ptr (B2 a))),(1,.p (vSl 2 A0 d))],[(10500,.vec B0 2 z3.n (fun i=>A0 (z3.g i)) false),(9500,.vec A4 1 x3.n (fun i=>cL 2 A0 (x3.g i)) false),(8500,.vec B6 1 x2.n (fun i=>cI .i64 (x2.g i)) false)]⟩) (fun M6 k3 j h=>?_) (fun z3 h=>?_)
   ·refine kI hS h ?_ ?_<;>intro h
    ·obtain⟨c40,h⟩:=D3 h;exact j _ [(8500,8500),(9500,9500),(10500,33000)] _ (x4.push (d.g x5.toNat)) (And.intro (And.intro (And.intro c40.1 (by decide:(2:Nat)<=2)) (rfl:true=true)) c40.2) h (hle:=klR [(3,.fn (x4.n+1) (x4.push (d.g x5.toNat)).n (Q0 x4.n (fun i=>A0 (x4.g i)) (D5 [pI .u32 0,pI .u32 0] [(0,A0 (d.g x5.toNat))])) (fun i=>A0 ((x4.push (d.g x5.toNat)).g i)))] (al1 ⟨rfl,Et (c:=A0) (v:=x4) (x:=d.g x5.toNat) (z:=[(pI .u32 0),pI .u32 0]) same rfl rfl⟩ al0))
    ·exact j _ [(8500,8500),(9500,9500),(10500,10501)] _ x4 trivial h
   ·exact f _ [(8500,8500),(9500,9500),(10501,10500)] _ x2 x3 z3 (wrap .i64 (x5+1)) trivial h
  ·refine D4 hS trivial [1] ?_;obtain⟨c41,h⟩:=D3 h;obtain⟨y6,e6,h⟩:=B7 h;refine HO [] (And.intro (by decide:(18:Nat)<=18) c41) (SR hS hL e6) ?_;obtain⟨c42,h⟩:=D3 h;refine I7 c42 ?_;obtain⟨c43,h⟩:=D3 h;refine D4 hS (And.intro (rfl:true=true) c43) [1000] ?_;obtain⟨c44,h⟩:=D3 h;refine I7 (And.intro (And.intro (And.intro (rfl:true=true) c44.1.1) c44.1.2) c44.2) ?_;refine kI hS h ?_ ?_<;>intro h
   ·obtain rfl:=B8 h;exact A9 hS trivial ⟨[(6,pN 11),(5,.vec 6701),(4,.vec 5700)],[(6701,.vec A4 1 (Sl.nil:Sl (Sl Sound)).n (fun i=>cL 2 A0 ((Sl.nil:Sl (Sl Sound)).g i)) true),(5700,.vec B6 1 (Sl.nil:Sl Int).n (fun i=>cI .i64 ((Sl.nil:Sl Int).g i)) true)]⟩ [5700,6701] (ids:=[]) ⟨rfl,rfl,rfl⟩
   ·refine I1 hS trivial 66 ⟨[(65,.vec 61000),(64,.vec 9500),(11,pN (a.If.n:Int)),(10,pN x5),(9,.vec 48000),(7,.vec 52000),(2,.p (.ptr (B2 a))),(1,.p (vSl 2 A0 d))],[(61000,.vec B0 2 (((Sl.of []:Sl Sound).app (x4.app y6)).app (d.drop (wrap .i64 (x5+(a.If.n:Int))).toNat)).n (fun i=>A0 ((((Sl.of []:Sl Sound).app (x4.app y6)).app (d.drop (wrap .i64 (x5+(a.If.n:Int))).toNat)).g i)) true),(52000,.vec B6 1 (x2.push x5).n (fun i=>cI .i64 ((x2.push x5).g i)) false),(48000,.vec B0 2 (x4.app y6).n (fun i=>A0 ((x4.app y6).g i)) false),(9500,.vec A4 1 x3.n (fun i=>cL 2 A0 (x3.g i)) false)]⟩ (ids:=[(9500,9500),(48000,48000),(52000,52000),(61000,61000)]) ?_ (hle:=klR [(4,.fn ((0+(x4.n+y6.n))+(d.drop (wrap .i64 (x5+(a.If.n:Int))).toNat).n) (((Sl.of []:Sl Sound).app (x4.app y6)).app (d.drop (wrap .i64 (x5+(a.If.n:Int))).toNat)).n (Q0 (0+(x4.n+y6.n)) (Q0 0 (D5 [pI .u32 0,pI .u32 0] []) (Q0 x4.n (fun i=>A0 (x4.g i)) (fun i=>A0 (y6.g i)))) (fun i=>A0 ((d.drop (wrap .i64 (x5+(a.If.n:Int))).toNat).g i))) (fun i=>A0 ((((Sl.of []:Sl Sound).app (x4.app y6)).app (d.drop (wrap .i64 (x5+(a.If.n:Int))).toNat)).g i))),(5,.fn (x2.n+1) (x2.push x5).n (Q0 x2.n (fun i=>cI .i64 (x2.g i)) (D5 [pI .i64 0] [(0,cI .i64 x5)])) (fun i=>cI .i64 ((x2.push x5).g i))),(6,.fn (x4.n+y6.n) (x4.app y6).n (Q0 x4.n (fun i=>A0 (x4.g i)) (fun i=>A0 (y6.g i))) (fun i=>A0 ((x4.app y6).g i)))] (al1 ⟨rfl,YX (c:=A0) (v:=(Sl.of []:Sl Sound).app (x4.app y6)) (w:=d.drop (wrap .i64 (x5+(a.If.n:Int))).toNat) (YX (c:=A0) (v:=(Sl.of []:Sl Sound)) (w:=x4.app y6) (fun i m=>absurd m (by omega)) rfl (YX (c:=A0) (v:=x4) (w:=y6) same rfl same rfl) rfl) rfl same rfl⟩ (al1 ⟨rfl,Et (c:=cI .i64) (v:=x2) (x:=x5) (z:=[(pI .i64 0)]) same rfl rfl⟩ (al1 ⟨rfl,YX (c:=A0) (v:=x4) (w:=y6) same rfl same rfl⟩ al0))));obtain⟨c46,h⟩:=D3 h;refine D0 hS (And.intro (rfl:true=true) c46) (b:=(a.If.n:Int)==0) (fun c47=>?_) (fun c47=>?_)
    ·replace h:=itT c47 h;refine kI hS h ?_ ?_<;>intro h
     ·obtain⟨c49,h⟩:=D3 h;exact f _ [(8500,52000),(9500,68000),(10501,84000)] _ (x2.push x5) (x3.push (((Sl.of []:Sl Sound).app (x4.app y6)).app (d.drop (wrap .i64 (x5+(a.If.n:Int))).toNat))) ((x4.app y6).push (d.g (wrap .i64 (x5+(a.If.n:Int))).toNat)) (wrap .i64 ((wrap .i64 (x5+(a.If.n:Int)))+1)) (And.intro (And.intro (And.intro c49.1 (by decide:(2:Nat)<=2)) (rfl:true=true)) c49.2) h (hle:=klR [(3,.fn ((x4.app y6).n+1) ((x4.app y6).push (d.g (wrap .i64 (x5+(a.If.n:Int))).toNat)).n (Q0 (x4.app y6).n (fun i=>A0 ((x4.app y6).g i)) (D5 [pI .u32 0,pI .u32 0] [(0,A0 (d.g (wrap .i64 (x5+(a.If.n:Int))).toNat))])) (fun i=>A0 (((x4.app y6).push (d.g (wrap .i64 (x5+(a.If.n:Int))).toNat)).g i))),(4,.fn (x3.n+1) (x3.push (((Sl.of []:Sl Sound).app (x4.app y6)).app (d.drop (wrap .i64 (x5+(a.If.n:Int))).toNat))).n (Q0 x3.n (fun i=>cL 2 A0 (x3.g i)) (D5 [F8] [(0,cL 2 A0 (((Sl.of []:Sl Sound).app (x4.app y6)).app (d.drop (wrap .i64 (x5+(a.If.n:Int))).toNat)))])) (fun i=>cL 2 A0 ((x3.push (((Sl.of []:Sl Sound).app (x4.app y6)).app (d.drop (wrap .i64 (x5+(a.If.n:Int))).toNat))).g i)))] (al1 ⟨rfl,Et (c:=A0) (v:=x4.app y6) (x:=d.g (wrap .i64 (x5+(a.If.n:Int))).toNat) (z:=[(pI .u32 0),pI .u32 0]) same rfl rfl⟩ (al1 ⟨rfl,Et (c:=cL 2 A0) (v:=x3) (x:=((Sl.of []:Sl Sound).app (x4.app y6)).app (d.drop (wrap .i64 (x5+(a.If.n:Int))).toNat)) (z:=[F8]) same rfl rfl⟩ al0)))
     ·exact f _ [(8500,52000),(9500,68000),(10501,48000)] _ (x2.push x5) (x3.push (((Sl.of []:Sl Sound).app (x4.app y6)).app (d.drop (wrap .i64 (x5+(a.If.n:Int))).toNat))) (x4.app y6) (wrap .i64 ((wrap .i64 (x5+(a.If.n:Int)))+1)) trivial h (hle:=klR [(4,.fn (x3.n+1) (x3.push (((Sl.of []:Sl Sound).app (x4.app y6)).app (d.drop (wrap .i64 (x5+(a.If.n:Int))).toNat))).n (Q0 x3.n (fun i=>cL 2 A0 (x3.g i)) (D5 [F8] [(0,cL 2 A0 (((Sl.of []:Sl Sound).app (x4.app y6)).app (d.drop (wrap .i64 (x5+(a.If.n:Int))).toNat)))])) (fun i=>cL 2 A0 ((x3.push (((Sl.of []:Sl Sound).app (x4.app y6)).app (d.drop (wrap .i64 (x5+(a.If.n:Int))).toNat))).g i)))] (al1 ⟨rfl,Et (c:=cL 2 A0) (v:=x3) (x:=((Sl.of []:Sl Sound).app (x4.app y6)).app (d.drop (wrap .i64 (x5+(a.If.n:Int))).toNat)) (z:=[F8]) same rfl rfl⟩ al0))
    ·replace h:=itF c47 h;exact f _ [(8500,52000),(9500,68000),(10501,48000)] _ (x2.push x5) (x3.push (((Sl.of []:Sl Sound).app (x4.app y6)).app (d.drop (wrap .i64 (x5+(a.If.n:Int))).toNat))) (x4.app y6) (wrap .i64 (x5+(a.If.n:Int))) trivial h (hle:=klR [(4,.fn (x3.n+1) (x3.push (((Sl.of []:Sl Sound).app (x4.app y6)).app (d.drop (wrap .i64 (x5+(a.If.n:Int))).toNat))).n (Q0 x3.n (fun i=>cL 2 A0 (x3.g i)) (D5 [F8] [(0,cL 2 A0 (((Sl.of []:Sl Sound).app (x4.app y6)).app (d.drop (wrap .i64 (x5+(a.If.n:Int))).toNat)))])) (fun i=>cL 2 A0 ((x3.push (((Sl.of []:Sl Sound).app (x4.app y6)).app (d.drop (wrap .i64 (x5+(a.If.n:Int))).toNat))).g i)))] (al1 ⟨rfl,Et (c:=cL 2 A0) (v:=x3) (x:=((Sl.of []:Sl Sound).app (x4.app y6)).app (d.drop (wrap .i64 (x5+(a.If.n:Int))).toNat)) (z:=[F8]) same rfl rfl⟩ al0))
 ·obtain rfl:=B8 h;exact A9 hS trivial ⟨[(6,pN 0),(5,.vec 9500),(4,.vec 8500)],[(9500,.vec A4 1 x3.n (fun i=>cL 2 A0 (x3.g i)) true),(8500,.vec B6 1 x2.n (fun i=>cI .i64 (x2.g i)) true)]⟩ [8500,9500] (ids:=[(8500,8500),(9500,9500)]) ⟨rfl,rfl,rfl⟩
def CS (N:Nat)(b:Law)(c:Sl Sound):Option ((Sl Int)×(Sl (Sl Sound))×Int):=
 Ah4 N (fun a (x1:Sl Sound) (x2:Sl Int) (x3:Sl (Sl Sound)) (x4:Int)=>
  if (decide ((wrap .i64 (x4+(b.If.n:Int)))<=(x1.n:Int))) then
   (Ao N b x1 x4).bind fun y5=>
   if (!y5) then
    a x1 x2 x3 (wrap .i64 (x4+1))
   else
    (P7 N b x1 x4).bind fun y6=>
    if (decide (32<(y6.n:Int))) then
     some ((Sl.nil:Sl Int),(Sl.nil:Sl (Sl Sound)),11)
    else
     if (((x2.n+(Sl.of [x4]:Sl Int).n)*8<=140737488355328/\x2.n+(Sl.of [x4]:Sl Int).n<=140737488355328)/\((x3.n+(Sl.of [y6]:Sl (Sl Sound)).n)*24<=140737488355328/\x3.n+(Sl.of [y6]:Sl (Sl Sound)).n<=140737488355328))then
      if ((b.If.n:Int)==0) then
       a y6 (x2.push x4) (x3.push y6) (wrap .i64 ((wrap .i64 (x4+(b.Out.n:Int)))+1))
      else
       a y6 (x2.push x4) (x3.push y6) (wrap .i64 (x4+(b.Out.n:Int)))
     else none
  else
   some (x2,x3,0)
  ) c (Sl.nil:Sl Int) (Sl.nil:Sl (Sl Sound)) 0
theorem Vb {N:Nat}{a:Law}{f:Sl Sound}{y:(Sl Int)×(Sl (Sl Sound))×Int}(h:CS N a f=some y) :FunO S LP [.p (.agg (B2 a)),.p (vSl 2 A0 f)] [] (.tup [.vec 0,.vec 1,pN y.2.2]) ([.vec B6 1 y.1.n (fun i=>cI .i64 (y.1.g i)) true,.vec A4 1 y.2.1.n (fun i=>cL 2 A0 (y.2.1.g i)) true]) []:=by
 unfold CS at h;refine A3 hS Tryz.func155 ?_;refine ZX hS trivial h (fun x1 x2 x3 x4=>⟨[(10,pN x4),(9,pN (a.If.n:Int)),(8,.vec 9500),(7,.vec 8500),(2,.reg 3000 0),(1,.p (vSl 2 A0 x1))],[(9500,.vec A4 1 x3.n (fun i=>cL 2 A0 (x3.g i)) false),(8500,.vec B6 1 x2.n (fun i=>cI .i64 (x2.g i)) false),(3000,.cells ((B2 a).map .p))]⟩) (ids:=[(3000,3000)]) (fun _ _ _ _ _ j x1 x2 x3 x4 d h=>?_);refine kI hS h ?_ ?_<;>intro h
 ·refine kC hS h (Mk hS hL) (fun y5 h=>?_);refine kI hS h ?_ ?_<;>intro h
  ·exact d _ [(3000,3000),(8500,8500),(9500,9500)] _ x1 x2 x3 (wrap .i64 (x4+1)) trivial h
  ·refine kC hS h (Io hS hL) (fun y6 h=>?_);refine kI hS h ?_ ?_<;>intro h
   ·obtain rfl:=B8 h;exact A9 hS trivial ⟨[(6,pN 11),(5,.vec 6701),(4,.vec 5700)],[(6701,.vec A4 1 (Sl.nil:Sl (Sl Sound)).n (fun i=>cL 2 A0 ((Sl.nil:Sl (Sl Sound)).g i)) true),(5700,.vec B6 1 (Sl.nil:Sl Int).n (fun i=>cI .i64 ((Sl.nil:Sl Int).g i)) true)]⟩ [5700,6701] (ids:=[]) ⟨rfl,rfl,rfl⟩
   ·obtain⟨c14,h⟩:=D3 h;refine D0 hS (And.intro (And.intro (And.intro (rfl:true=true) c14.1) (rfl:true=true)) c14.2) (b:=(a.If.n:Int)==0) (fun c15=>?_) (fun c15=>?_)
    ·replace h:=itT c15 h;exact d _ [(3000,3000),(8500,38000),(9500,42000)] _ y6 (x2.push x4) (x3.push y6) (wrap .i64 ((wrap .i64 (x4+(a.Out.n:Int)))+1)) trivial h (hle:=klR [(3,.fn (x3.n+1) (x3.push y6).n (Q0 x3.n (fun i=>cL 2 A0 (x3.g i)) (D5 [F8] [(0,cL 2 A0 y6)])) (fun i=>cL 2 A0 ((x3.push y6).g i))),(4,.fn (x2.n+1) (x2.push x4).n (Q0 x2.n (fun i=>cI .i64 (x2.g i)) (D5 [pI .i64 0] [(0,cI .i64 x4)])) (fun i=>cI .i64 ((x2.push x4).g i)))] (al1 ⟨rfl,Et (c:=cL 2 A0) (v:=x3) (x:=y6) (z:=[F8]) same rfl rfl⟩ (al1 ⟨rfl,Et (c:=cI .i64) (v:=x2) (x:=x4) (z:=[(pI .i64 0)]) same rfl rfl⟩ al0)))
    ·replace h:=itF c15 h;exact d _ [(3000,3000),(8500,38000),(9500,42000)] _ y6 (x2.push x4) (x3.push y6) (wrap .i64 (x4+(a.Out.n:Int))) trivial h (hle:=klR [(3,.fn (x3.n+1) (x3.push y6).n (Q0 x3.n (fun i=>cL 2 A0 (x3.g i)) (D5 [F8] [(0,cL 2 A0 y6)])) (fun i=>cL 2 A0 ((x3.push y6).g i))),(4,.fn (x2.n+1) (x2.push x4).n (Q0 x2.n (fun i=>cI .i64 (x2.g i)) (D5 [pI .i64 0] [(0,cI .i64 x4)])) (fun i=>cI .i64 ((x2.push x4).g i)))] (al1 ⟨rfl,Et (c:=cL 2 A0) (v:=x3) (x:=y6) (z:=[F8]) same rfl rfl⟩ (al1 ⟨rfl,Et (c:=cI .i64) (v:=x2) (x:=x4) (z:=[(pI .i64 0)]) same rfl rfl⟩ al0)))
 ·obtain rfl:=B8 h;exact A9 hS trivial ⟨[(6,pN 0),(5,.vec 9500),(4,.vec 8500)],[(9500,.vec A4 1 x3.n (fun i=>cL 2 A0 (x3.g i)) true),(8500,.vec B6 1 x2.n (fun i=>cI .i64 (x2.g i)) true)]⟩ [8500,9500] (ids:=[(8500,8500),(9500,9500)]) ⟨rfl,rfl,rfl⟩
def Cx (N:Nat)(b:Law)(c:Sl Sound):Option ((Sl Int)×(Sl (Sl Sound))×Int):=
 Ah4 N (fun a (x1:Sl Sound) (x2:Sl Int) (x3:Sl (Sl Sound)) (x4:Int)=>
  if (decide (0<=x4)) then
   (Ao N b x1 x4).bind fun y5=>
   if (!y5) then
    a x1 x2 x3 (wrap .i64 (x4-1))
   else
    (P7 N b x1 x4).bind fun y6=>
    if (decide (32<(y6.n:Int))) then
     some ((Sl.nil:Sl Int),(Sl.nil:Sl (Sl Sound)),11)
    else
     if (((x2.n+(Sl.of [x4]:Sl Int).n)*8<=140737488355328/\x2.n+(Sl.of [x4]:Sl Int).n<=140737488355328)/\((x3.n+(Sl.of [y6]:Sl (Sl Sound)).n)*24<=140737488355328/\x3.n+(Sl.of [y6]:Sl (Sl Sound)).n<=140737488355328))then
      if ((b.If.n:Int)==0) then
       a y6 (x2.push x4) (x3.push y6) (wrap .i64 ((wrap .i64 (x4-(b.If.n:Int)))-1))
      else
       a y6 (x2.push x4) (x3.push y6) (wrap .i64 (x4-(b.If.n:Int)))
     else none
  else
   some (x2,x3,0)
  ) c (Sl.nil:Sl Int) (Sl.nil:Sl (Sl Sound)) (wrap .i64 ((c.n:Int)-(b.If.n:Int)))
theorem Yv {N:Nat}{a:Law}{f:Sl Sound}{y:(Sl Int)×(Sl (Sl Sound))×Int}(h:Cx N a f=some y) :FunO S Ox [.p (.agg (B2 a)),.p (vSl 2 A0 f)] [] (.tup [.vec 0,.vec 1,pN y.2.2]) ([.vec B6 1 y.1.n (fun i=>cI .i64 (y.1.g i)) true,.vec A4 1 y.2.1.n (fun i=>cL 2 A0 (y.2.1.g i)) true]) []:=by
 unfold Cx at h;refine A3 hS Tryz.func156 ?_;refine ZX hS trivial h (fun x1 x2 x3 x4=>⟨[(10,pN x4),(9,pN (a.If.n:Int)),(8,.vec 9500),(7,.vec 8500),(2,.reg 3000 0),(1,.p (vSl 2 A0 x1))],[(9500,.vec A4 1 x3.n (fun i=>cL 2 A0 (x3.g i)) false),(8500,.vec B6 1 x2.n (fun i=>cI .i64 (x2.g i)) false),(3000,.cells ((B2 a).map .p))]⟩) (ids:=[(3000,3000)]) (fun _ _ _ _ _ j x1 x2 x3 x4 d h=>?_);refine kI hS h ?_ ?_<;>intro h
 ·refine kC hS h (Mk hS hL) (fun y5 h=>?_);refine kI hS h ?_ ?_<;>intro h
  ·exact d _ [(3000,3000),(8500,8500),(9500,9500)] _ x1 x2 x3 (wrap .i64 (x4-1)) trivial h
  ·refine kC hS h (Io hS hL) (fun y6 h=>?_);refine kI hS h ?_ ?_<;>intro h
   ·obtain rfl:=B8 h;exact A9 hS trivial ⟨[(6,pN 11),(5,.vec 6701),(4,.vec 5700)],[(6701,.vec A4 1 (Sl.nil:Sl (Sl Sound)).n (fun i=>cL 2 A0 ((Sl.nil:Sl (Sl Sound)).g i)) true),(5700,.vec B6 1 (Sl.nil:Sl Int).n (fun i=>cI .i64 ((Sl.nil:Sl Int).g i)) true)]⟩ [5700,6701] (ids:=[]) ⟨rfl,rfl,rfl⟩
   ·obtain⟨c14,h⟩:=D3 h;refine D0 hS (And.intro (And.intro (And.intro (rfl:true=true) c14.1) (rfl:true=true)) c14.2) (b:=(a.If.n:Int)==0) (fun c15=>?_) (fun c15=>?_)
    ·replace h:=itT c15 h;exact d _ [(3000,3000),(8500,38000),(9500,42000)] _ y6 (x2.push x4) (x3.push y6) (wrap .i64 ((wrap .i64 (x4-(a.If.n:Int)))-1)) trivial h (hle:=klR [(3,.fn (x3.n+1) (x3.push y6).n (Q0 x3.n (fun i=>cL 2 A0 (x3.g i)) (D5 [F8] [(0,cL 2 A0 y6)])) (fun i=>cL 2 A0 ((x3.push y6).g i))),(4,.fn (x2.n+1) (x2.push x4).n (Q0 x2.n (fun i=>cI .i64 (x2.g i)) (D5 [pI .i64 0] [(0,cI .i64 x4)])) (fun i=>cI .i64 ((x2.push x4).g i)))] (al1 ⟨rfl,Et (c:=cL 2 A0) (v:=x3) (x:=y6) (z:=[F8]) same rfl rfl⟩ (al1 ⟨rfl,Et (c:=cI .i64) (v:=x2) (x:=x4) (z:=[(pI .i64 0)]) same rfl rfl⟩ al0)))
    ·replace h:=itF c15 h;exact d _ [(3000,3000),(8500,38000),(9500,42000)] _ y6 (x2.push x4) (x3.push y6) (wrap .i64 (x4-(a.If.n:Int))) trivial h (hle:=klR [(3,.fn (x3.n+1) (x3.push y6).n (Q0 x3.n (fun i=>cL 2 A0 (x3.g i)) (D5 [F8] [(0,cL 2 A0 y6)])) (fun i=>cL 2 A0 ((x3.push y6).g i))),(4,.fn (x2.n+1) (x2.push x4).n (Q0 x2.n (fun i=>cI .i64 (x2.g i)) (D5 [pI .i64 0] [(0,cI .i64 x4)])) (fun i=>cI .i64 ((x2.push x4).g i)))] (al1 ⟨rfl,Et (c:=cL 2 A0) (v:=x3) (x:=y6) (z:=[F8]) same rfl rfl⟩ (al1 ⟨rfl,Et (c:=cI .i64) (v:=x2) (x:=x4) (z:=[(pI .i64 0)]) same rfl rfl⟩ al0)))
 ·obtain rfl:=B8 h;exact A9 hS trivial ⟨[(6,pN 0),(5,.vec 9500),(4,.vec 8500)],[(9500,.vec A4 1 x3.n (fun i=>cL 2 A0 (x3.g i)) true),(8500,.vec B6 1 x2.n (fun i=>cI .i64 (x2.g i)) true)]⟩ [8500,9500] (ids:=[(8500,8500),(9500,9500)]) ⟨rfl,rfl,rfl⟩
def CT (N:Nat)(a:Law)(b:Sl Sound):Option ((Sl Int)×(Sl (Sl Sound))×Int):=
 (EL N a b).bind fun y1=>
 if (y1 != 0) then
  some ((Sl.nil:Sl Int),(Sl.nil:Sl (Sl Sound)),y1)
 else
  if (a.Mode==1) then
   (FQ N a b).bind fun y2=>
   some (y2.1,y2.2.1,y2.2.2)
  else
   if (a.Mode==2) then
    (CS N a b).bind fun y3=>
    some (y3.1,y3.2.1,y3.2.2)
   else
    (Cx N a b).bind fun y4=>
    some (y4.1,y4.2.1,y4.2.2)
theorem Vc {N:Nat}{a:Law}{b:Sl Sound}{y:(Sl Int)×(Sl (Sl Sound))×Int}(h:CT N a b=some y) :FunO S LM [.p (.agg (B2 a)),.p (vSl 2 A0 b)] [] (.tup [.vec 0,.vec 1,pN y.2.2]) ([.vec B6 1 y.1.n (fun i=>cI .i64 (y.1.g i)) true,.vec A4 1 y.2.1.n (fun i=>cL 2 A0 (y.2.1.g i)) true]) []:=by
 unfold CT at h;refine A3 hS Tryz.func147 ?_;refine kC hS h (Va hS hL) (fun y1 h=>?_);refine kI hS h ?_ ?_<;>intro h
 ·obtain rfl:=B8 h;exact A9 hS trivial ⟨[(6,pN y1),(5,.vec 6701),(4,.vec 5700)],[(6701,.vec A4 1 (Sl.nil:Sl (Sl Sound)).n (fun i=>cL 2 A0 ((Sl.nil:Sl (Sl Sound)).g i)) true),(5700,.vec B6 1 (Sl.nil:Sl Int).n (fun i=>cI .i64 ((Sl.nil:Sl Int).g i)) true)]⟩ [5700,6701] (ids:=[]) ⟨rfl,rfl,rfl⟩
 ·refine kI hS h ?_ ?_<;>intro h
  ·refine kC hS h (Ab9 hS hL) (fun y2 h=>?_);obtain rfl:=B8 h;exact A9 hS trivial ⟨[(6,pN y2.2.2),(5,.vec 21001),(4,.vec 21000)],[(21001,.vec A4 1 y2.2.1.n (fun i=>cL 2 A0 (y2.2.1.g i)) true),(21000,.vec B6 1 y2.1.n (fun i=>cI .i64 (y2.1.g i)) true)]⟩ [21000,21001] (ids:=[(21000,21000),(21001,21001)]) ⟨rfl,rfl,rfl⟩
  ·refine kI hS h ?_ ?_<;>intro h
   ·refine kC hS h (Vb hS hL) (fun y3 h=>?_);obtain rfl:=B8 h;exact A9 hS trivial ⟨[(6,pN y3.2.2),(5,.vec 29001),(4,.vec 29000)],[(29001,.vec A4 1 y3.2.1.n (fun i=>cL 2 A0 (y3.2.1.g i)) true),(29000,.vec B6 1 y3.1.n (fun i=>cI .i64 (y3.1.g i)) true)]⟩ [29000,29001] (ids:=[(29000,29000),(29001,29001)]) ⟨rfl,rfl,rfl⟩
   ·refine kC hS h (Yv hS hL) (fun y4 h=>?_);obtain rfl:=B8 h;exact A9 hS trivial ⟨[(6,pN y4.2.2),(5,.vec 35001),(4,.vec 35000)],[(35001,.vec A4 1 y4.2.1.n (fun i=>cL 2 A0 (y4.2.1.g i)) true),(35000,.vec B6 1 y4.1.n (fun i=>cI .i64 (y4.1.g i)) true)]⟩ [35000,35001] (ids:=[(35000,35000),(35001,35001)]) ⟨rfl,rfl,rfl⟩
def Bx (N:Nat)(b:Law)(a:Sl Sound):Option ((Sl Sound)×Int):=
 (CT N b a).bind fun y1=>
 if (y1.2.2 != 0) then
  some ((Sl.nil:Sl Sound),y1.2.2)
 else
  if ((y1.2.1.n:Int)==0) then
   if (((Sl.of []:Sl Sound).n+a.n)*8<=140737488355328/\(Sl.of []:Sl Sound).n+a.n<=140737488355328)then
    some ((Sl.of []:Sl Sound).app a,0)
   else none
  else
   if ((((0:Int)<=(wrap .i64 ((y1.2.1.n:Int)-1))/\(wrap .i64 ((y1.2.1.n:Int)-1))<(y1.2.1.n:Int))/\(wrap .i64 ((y1.2.1.n:Int)-1)).toNat<y1.2.1.n)/\(((Sl.of []:Sl Sound).n+(y1.2.1.g (wrap .i64 ((y1.2.1.n:Int)-1)).toNat).n)*8<=140737488355328/\(Sl.of []:Sl Sound).n+(y1.2.1.g (wrap .i64 ((y1.2.1.n:Int)-1)).toNat).n<=140737488355328))then
    some ((Sl.of []:Sl Sound).app (y1.2.1.g (wrap .i64 ((y1.2.1.n:Int)-1)).toNat),0)
   else none
theorem Vd {N:Nat}{b:Law}{a:Sl Sound}{y:(Sl Sound)×Int}(h:Bx N b a=some y) :FunO S LK [.p (.agg (B2 b)),.p (vSl 2 A0 a)] [] (.tup [.vec 0,pN y.2]) ([.vec B0 2 y.1.n (fun i=>A0 (y.1.g i)) true]) []:=by
 unfold Bx at h;refine A3 hS Tryz.func133 ?_;refine kC hS h (Vc hS hL) (fun y1 h=>?_);refine kI hS h ?_ ?_<;>intro h
 ·obtain rfl:=B8 h;exact A9 hS trivial ⟨[(5,pN y1.2.2),(4,.vec 5700)],[(5700,.vec B0 2 (Sl.nil:Sl Sound).n (fun i=>A0 ((Sl.nil:Sl Sound).g i)) true)]⟩ [5700] (ids:=[]) ⟨rfl,rfl,rfl⟩
 ·refine kI hS h ?_ ?_<;>intro h
  ·obtain⟨c3,h⟩:=D3 h;obtain rfl:=B8 h;exact A9 hS (And.intro (rfl:true=true) c3) ⟨[(5,pN 0),(4,.vec 25000)],[(25000,.vec B0 2 ((Sl.of []:Sl Sound).app a).n (fun i=>A0 (((Sl.of []:Sl Sound).app a).g i)) true)]⟩ [25000] (ids:=[(25000,25000)]) ⟨rfl,rfl,rfl⟩ (hle:=klR [(1,.fn (0+a.n) ((Sl.of []:Sl Sound).app a).n (Q0 0 (D5 [pI .u32 0,pI .u32 0] []) (fun i=>A0 (a.g i))) (fun i=>A0 (((Sl.of []:Sl Sound).app a).g i)))] (al1 ⟨rfl,YX (c:=A0) (v:=(Sl.of []:Sl Sound)) (w:=a) (fun i d=>absurd d (by omega)) rfl same rfl⟩ al0))
  ·obtain⟨c4,h⟩:=D3 h;obtain rfl:=B8 h;exact A9 hS (And.intro (And.intro (And.intro (rfl:true=true) c4.1.1) c4.1.2) c4.2) ⟨[(5,pN 0),(4,.vec 33000)],[(33000,.vec B0 2 ((Sl.of []:Sl Sound).app (y1.2.1.g (wrap .i64 ((y1.2.1.n:Int)-1)).toNat)).n (fun i=>A0 (((Sl.of []:Sl Sound).app (y1.2.1.g (wrap .i64 ((y1.2.1.n:Int)-1)).toNat)).g i)) true)]⟩ [33000] (ids:=[(33000,33000)]) ⟨rfl,rfl,rfl⟩ (hle:=klR [(1,.fn (0+(y1.2.1.g (wrap .i64 ((y1.2.1.n:Int)-1)).toNat).n) ((Sl.of []:Sl Sound).app (y1.2.1.g (wrap .i64 ((y1.2.1.n:Int)-1)).toNat)).n (Q0 0 (D5 [pI .u32 0,pI .u32 0] []) (fun i=>A0 ((y1.2.1.g (wrap .i64 ((y1.2.1.n:Int)-1)).toNat).g i))) (fun i=>A0 (((Sl.of []:Sl Sound).app (y1.2.1.g (wrap .i64 ((y1.2.1.n:Int)-1)).toNat)).g i)))] (al1 ⟨rfl,YX (c:=A0) (v:=(Sl.of []:Sl Sound)) (w:=y1.2.1.g (wrap .i64 ((y1.2.1.n:Int)-1)).toNat) (fun i d=>absurd d (by omega)) rfl same rfl⟩ al0))
def EM (N:Nat)(a:Sl Law)(c:Sl Sound):Option ((Sl (Sl Sound))×Int):=
 (Bv N a).bind fun y1=>
 lt (fun (z1:Int)=>
  if (z1 != 0) then
   some ((Sl.nil:Sl (Sl Sound)),z1)
  else
   (Cr N c).bind fun y4=>
   Q2 N (fun b (x2:Sl (Sl Sound)) (x3:Int)=>
    if (decide (x3<(a.n:Int))) then
     if ((((0:Int)<=x3/\x3<(a.n:Int))/\((0:Int)<=x3/\x3<(x2.n:Int)))/\x3.toNat<x2.n)then
      (Bx N (a.g x3.toNat) (x2.g x3.toNat)).bind fun y7=>
      if (y7.2 != 0) then
       some ((Sl.nil:Sl (Sl Sound)),y7.2)
      else
       if ((x2.n+(Sl.of [y7.1]:Sl (Sl Sound)).n)*24<=140737488355328/\x2.n+(Sl.of [y7.1]:Sl (Sl Sound)).n<=140737488355328)then
        b (x2.push y7.1) (wrap .i64 (x3+1))
       else none
     else none
    else
     some (x2,0)
    ) (Sl.of [y4]:Sl (Sl Sound)) 0
  ) fun k1=>
  if (y1==0) then
   (W5 N c).bind fun y3=>
   k1 y3
  else
   k1 y1
theorem Ve {N:Nat}{a:Sl Law}{b:Sl Sound}{y:(Sl (Sl Sound))×Int}(h:EM N a b=some y) :FunO S LI [.p (vSl 18 B2 a),.p (vSl 2 A0 b)] [] (.tup [.vec 0,pN y.2]) ([.vec A4 1 y.1.n (fun i=>cL 2 A0 (y.1.g i)) true]) []:=by
 unfold EM at h;refine A3 hS Tryz.func119 ?_;refine kC hS h (UZ hS hL) (fun y1 h=>?_);refine Fy hS trivial (A7 hS) h 0 (fun z1=>⟨[(6,pN z1),(1,.p (vSl 2 A0 b)),(0,.p (vSl 18 B2 a))],[]⟩) (fun M1 k1 d h=>?_) (fun z1 h=>?_)
 ·refine kI hS h ?_ ?_<;>intro h
  ·refine kC hS h (EJ hS hL) (fun y3 h=>?_);exact d _ [] _ y3 trivial h
  ·exact d _ [] _ y1 trivial h
 ·refine kI hS h ?_ ?_<;>intro h
  ·obtain rfl:=B8 h;exact A9 hS trivial ⟨[(5,pN z1),(4,.vec 5700)],[(5700,.vec A4 1 (Sl.nil:Sl (Sl Sound)).n (fun i=>cL 2 A0 ((Sl.nil:Sl (Sl Sound)).g i)) true)]⟩ [5700] (ids:=[]) ⟨rfl,rfl,rfl⟩
  ·refine kC hS h (Yo hS hL) (fun y4 h=>?_);refine F9 hS (rfl:true=true) h (fun x2 x3=>⟨[(8,pN x3),(7,.vec 8500),(0,.p (vSl 18 B2 a))],[(8500,.vec A4 1 x2.n (fun i=>cL 2 A0 (x2.g i)) false)]⟩) (ids:=[(8500,23000)]) (fun _ _ _ _ _ f x2 x3 j h=>?_) (hle:=klR [(2,.fn 1 (Sl.of [y4]:Sl (Sl Sound)).n (D5 [F8] [(0,cL 2 A0 y4)]) (fun i=>cL 2 A0 ((Sl.of [y4]:Sl (Sl Sound)).g i)))] (al1 ⟨rfl,(fun i l=>match i,l with|0,_=>rfl|_+1,l=>absurd l (by omega))⟩ al0));refine kI hS h ?_ ?_<;>intro h
   ·refine D4 hS trivial [2,3] ?_;obtain⟨c12,h⟩:=D3 h;obtain⟨y7,e7,h⟩:=B7 h;refine HO [] (And.intro (And.intro (And.intro c12.1.1 (by decide:(18:Nat)<=18)) c12.1.2) c12.2) (Vd hS hL e7) ?_;refine I7 trivial ?_;refine kI hS h ?_ ?_<;>intro h
    ·obtain rfl:=B8 h;exact A9 hS trivial ⟨[(5,pN y7.2),(4,.vec 5700)],[(5700,.vec A4 1 (Sl.nil:Sl (Sl Sound)).n (fun i=>cL 2 A0 ((Sl.nil:Sl (Sl Sound)).g i)) true)]⟩ [5700] (ids:=[]) ⟨rfl,rfl,rfl⟩
    ·obtain⟨c14,h⟩:=D3 h;exact j _ [(8500,48000)] _ (x2.push y7.1) (wrap .i64 (x3+1)) (And.intro (rfl:true=true) c14) h (hle:=klR [(2,.fn (x2.n+1) (x2.push y7.1).n (Q0 x2.n (fun i=>cL 2 A0 (x2.g i)) (D5 [F8] [(0,cL 2 A0 y7.1)])) (fun i=>cL 2 A0 ((x2.push y7.1).g i)))] (al1 ⟨rfl,Et (c:=cL 2 A0) (v:=x2) (x:=y7.1) (z:=[F8]) same rfl rfl⟩ al0))
   ·obtain rfl:=B8 h;exact A9 hS trivial ⟨[(5,pN 0),(4,.vec 8500)],[(8500,.vec A4 1 x2.n (fun i=>cL 2 A0 (x2.g i)) true)]⟩ [8500] (ids:=[(8500,8500)]) ⟨rfl,rfl,rfl⟩
def BP (N:Nat)(a:Sl Law)(b:Sl Sound):Option ((Sl Sound)×Int):=
 (EM N a b).bind fun y1=>
 if (y1.2 != 0) then
  some ((Sl.nil:Sl Sound),y1.2)
 else
  if (((0:Int)<=(wrap .i64 ((y1.1.n:Int)-1))/\(wrap .i64 ((y1.1.n:Int)-1))<(y1.1.n:Int))/\(wrap .i64 ((y1.1.n:Int)-1)).toNat<y1.1.n)then
   some (y1.1.g (wrap .i64 ((y1.1.n:Int)-1)).toNat,0)
  else none
theorem SS {N:Nat}{a:Sl Law}{b:Sl Sound}{y:(Sl Sound)×Int}(h:BP N a b=some y) :FunO S JF [.p (vSl 18 B2 a),.p (vSl 2 A0 b)] [] (.tup [.p (vSl 2 A0 y.1),pN y.2]) ([]) []:=by
 unfold BP at h;refine A3 hS Tryz.func91 ?_;refine kC hS h (Ve hS hL) (fun y1 h=>?_);refine kI hS h ?_ ?_<;>intro h
 ·obtain rfl:=B8 h;exact A9 hS trivial ⟨[(5,pN y1.2),(4,.p (vSl 2 A0 (Sl.nil:Sl Sound)))],[]⟩ [] (ids:=[]) ⟨rfl,rfl,rfl⟩
 ·obtain⟨c2,h⟩:=D3 h;obtain rfl:=B8 h;exact An0 hS c2 [] ⟨rfl,rfl,rfl⟩
end Go.AM
namespace Go.AM
open IntKind (wrap)
open Go.Proofs
set_option maxRecDepth 10000
set_option maxHeartbeats 2000000
variable {S:Ay}(hS:H2 S Tryz.prog) (hL:OF S)
include hS hL
def P0 (N:Nat)(q0:Int):Option (List (Int)):=
 R6 N (fun a (x1:Int)=>
  if (x1 != 0) then
   (G0 N x1).bind fun y3=>
   if (0:Int)<=y3 then
    AB y3 (
     a (E5 .andNot .u64 x1 (shI .shl .u64 1 y3))
     )
   else none
  else
   some []
  ) q0
theorem Ca {N:Nat}{q0:Int}{L:List (Int)}(h:P0 N q0=some L) :Hd S Az [] [.reg 0 0] [.cells [.p (pI .u64 q0)]] (L.map (fun (x:Int)=>[pI .i64 x])):=by
 unfold P0 at h;refine HP hS Tryz.func210 ?_;refine IW hS trivial h (fun x1 L1=>⟨[(1,.reg 0 0),(0,.yf 1)],[(1,.yld (L1.map (fun (x:Int)=>[pI .i64 x])) true),(0,.cells [.p (pI .u64 x1)])]⟩) (ids:=[(0,0),(1,1)]) (fun _ _ _ _ _ d x1 L1 f h=>?_);refine kI hS h ?_ ?_<;>intro h
 ·refine kC hS h (CM hS hL) (fun y3 h=>?_);refine PJ hS trivial ?_;obtain⟨c10,h⟩:=D3 h;refine I7 c10 ?_;obtain⟨L4,rfl,c⟩:=PK h;replace h:=c;refine Ez hS trivial (ys:=(fun (x:Int)=>[pI .i64 x]) y3) (rest:=L4.map (fun (x:Int)=>[pI .i64 x])) ?_ ?_
  ·refine D0 hS trivial (b:=false) (fun c11=>?_) (fun c11=>?_)
   ·exact Bool.noConfusion ((rfl:false=false).symm.trans c11)
   ·exact f _ [(0,0),(1,1)] _ (E5 .andNot .u64 x1 (shI .shl .u64 1 y3)) L4 trivial h
  ·refine D0 hS trivial (b:=true) (fun c12=>?_) (fun c12=>?_)
   ·exact A9 hS trivial (a:=.tup []) (objs:=[(.cells [.p (pI .u64 (E5 .andNot .u64 x1 (shI .shl .u64 1 y3)))]),.yld [] false]) ⟨[],[(1,.yld [] false),(0,.cells [.p (pI .u64 (E5 .andNot .u64 x1 (shI .shl .u64 1 y3)))])]⟩ [0,1] (ids:=[(0,0),(1,1)]) ⟨false,rfl,rfl,_,rfl⟩
   ·exact Bool.noConfusion ((rfl:true=true).symm.trans c12)
 ·obtain rfl:=B8 h;exact A9 hS trivial (a:=.tup []) (objs:=[(.cells [.p (pI .u64 x1)]),.yld [] true]) ⟨[],[(1,.yld [] true),(0,.cells [.p (pI .u64 x1)])]⟩ [0,1] (ids:=[(0,0),(1,1)]) ⟨true,rfl,rfl,_,rfl⟩
def Ap (N:Nat)(a:Int):Option (Int):=
 some a
theorem Dz {N:Nat}{a:Int}{y:Int}(h:Ap N a=some y) :FunO S GR [.p (pI .u64 a)] [] (.clo Az [] [.reg 0 0]) ([.cells [.p (pI .u64 y)]]) []:=by unfold Ap at h;refine A3 hS Tryz.func206 ?_;obtain rfl:=B8 h;exact A9 hS trivial ⟨[(2,.clo Az [] [.reg 2000 0])],[(2000,.cells [.p (pI .u64 a)])]⟩ [2000] (ids:=[(2000,2000)]) ⟨rfl,rfl,rfl⟩
def D9 (N:Nat)(p_x:Nat->Int)(c:Nat->Int):Option (Nat->Int):=
 Q2 N (fun a (x3:Nat->Int) (x4:Int)=>
  if (decide (x4<33)) then
   if (((0:Int)<=x4/\x4<33)/\(0+x4.toNat*1)<33)then
    (Ap N (p_x (0+x4.toNat*1))).bind fun y3=>
    (P0 N y3).bind fun L3=>
    O6 L3 (fun b (x7:Int) (z3:Nat->Int)=>
     if (((((((0:Int)<=x4/\x4<33)/\(0+x4.toNat*1)<33)/\((0:Int)<=x7/\x7<33))/\(0+x7.toNat*1)<33)/\((0:Int)<=x4/\x4<33))/\(0+x4.toNat*1)<33)then
      b (Lh z3 (0+x4.toNat*1) (E5 .or .u64 (z3 (0+x4.toNat*1)) (c (0+x7.toNat*1))))
     else none
     ) (fun (z3:Nat->Int)=>
      a z3 (wrap .i64 (x4+1))
     ) x3
   else none
  else
   some x3
  ) (fun _=>0) 0
theorem R7 {N:Nat}{p_x:Nat->Int}{b:Nat->Int}{y:Nat->Int}(h:D9 N p_x b=some y) :FunO S Aa [.reg 0 0,.reg 1 0] [.arr 33 (fun i=>pI .u64 (p_x i)),.arr 33 (fun i=>pI .u64 (b i))] (.p (.agg (cA 33 (pI .u64) y))) ([.arr 33 (fun i=>pI .u64 (p_x i)),.arr 33 (fun i=>pI .u64 (b i))]) [true,true]:=by
 unfold D9 at h;refine A3 hS Tryz.func234 ?_;refine F9 hS trivial h (fun x3 x4=>⟨[(10,pN x4),(9,.reg 0 0),(5,.reg 6000 0),(4,.reg 5000 0),(3,.reg 4000 0)],[(6000,.arr 33 (fun i=>pI .u64 (x3 i))),(5000,.arr 33 (fun i=>pI .u64 ((fun _=>0) i))),(4000,.cells [.reg 1 0]),(1,.arr 33 (fun i=>pI .u64 (b i))),(0,.arr 33 (fun i=>pI .u64 (p_x i)))]⟩) (ids:=[(0,0),(1,1),(4000,4000),(5000,5000),(6000,6000)]) (fun _ _ _ _ _ d x3 x4 f h=>?_) (hle:=klR [(1,.fn 33 33 (fun i=>[(fun i=>(List.replicate 33 (pI .u64 0)).getD i default) i]) (fun i=>[pI .u64 ((fun _=>0) i)])),(2,.fn 33 33 (fun i=>[(fun i=>(List.replicate 33 (pI .u64 0)).getD i default) i]) (fun i=>[pI .u64 ((fun _=>0) i)]))] (al1 ⟨rfl,Br (z:=pI .u64 0) rfl⟩ (al1 ⟨rfl,Br (z:=pI .u64 0) rfl⟩ al0)));refine kI hS h ?_ ?_<;>intro h
 ·refine P3 hS trivial [(2,.l [0]),(3,.l [0]),(4,.a [7000]),(5,.a [7000])] ?_;obtain⟨c12,h⟩:=D3 h;refine I7 c12 ?_;refine H3 hS trivial 16 7000 [pI .i64 x4] ?_;refine kC hS h (Dz hS hL) (fun y3 h=>?_);obtain⟨L3,e6,h⟩:=B7 h;refine Hi hS trivial [18000] [10,9,6,5,4,3] 905 (fun z3=>⟨[(10,pN x4),(9,.reg 0 0),(6,.p (.ptr [pI .i64 x4])),(5,.reg 6000 0),(4,.reg 5000 0),(3,.reg 4000 0)],[(6000,.arr 33 (fun i=>pI .u64 (z3 i))),(5000,.arr 33 (fun i=>pI .u64 ((fun _=>0) i))),(4000,.cells [.reg 1 0]),(1,.arr 33 (fun i=>pI .u64 (b i))),(0,.arr 33 (fun i=>pI .u64 (p_x i)))]⟩) (idl:=[(0,0),(1,1),(4000,4000),(5000,5000),(6000,6000)]) h (Ca hS hL e6) (fun _=>by kernel_rfl) (fun _=>by kernel_rfl) (fun _=>by kernel_rfl) (fun _=>by kernel_rfl) (fun x7 _ g z3 j h=>?_) (fun z3 h=>?_)
  ·refine Lg hS trivial ?_;refine P3 hS trivial [(0,.n),(1,.l [6000]),(2,.l [6000]),(3,.l [4000]),(6,.l [1]),(7,.l [1]),(9,.l [6000]),(10,.a [6000])] ?_;obtain⟨c15,h⟩:=D3 h;refine I7 c15 ?_;exact j _ [(0,0),(1,1),(905,905),(4000,4000),(5000,5000),(6000,6000)] _ (Lh z3 (0+x4.toNat*1) (E5 .or .u64 (z3 (0+x4.toNat*1)) (b (0+x7.toNat*1)))) trivial h (hle:=klR [(0,.fn 33 33 (fun i=>[(fun i=>if i=(0+x4.toNat*1)then (pI .u64 (E5 .or .u64 (z3 (0+x4.toNat*1)) (b (0+x7.toNat*1))))else (fun i=>pI .u64 (z3 i)) i) i]) (fun i=>[pI .u64 (Lh z3 (0+x4.toNat*1) (E5 .or .u64 (z3 (0+x4.toNat*1)) (b (0+x7.toNat*1))) i)]))] (al1 ⟨rfl,AB0 (c:=pI .u64) (v:=z3) (x:=E5 .or .u64 (z3 (0+x4.toNat*1)) (b (0+x7.toNat*1))) (fun _ _=>rfl) rfl⟩ al0))
  ·exact f _ [(0,0),(1,1),(4000,4000),(5000,5000),(6000,6000)] _ z3 (wrap .i64 (x4+1)) trivial h
 ·obtain rfl:=B8 h;exact A9 hS (And.intro rfl (F3 _ _):(0:Nat)=0/\(BW 33 (fun i=>pI .u64 (x3 i))).length=33) ⟨[(4,.reg 5000 0)],[(5000,.arr 33 (fun i=>pI .u64 (x3 i))),(1,.arr 33 (fun i=>pI .u64 (b i))),(0,.arr 33 (fun i=>pI .u64 (p_x i)))]⟩ [0,1] (ids:=[(0,0),(1,1),(5000,5000)]) ⟨rfl,rfl,rfl⟩ (hle:=klR [(0,.fn 33 33 (fun i=>[(fun i=>(cA 33 (pI .u64) x3).getD i default) i]) (fun i=>[pI .u64 (x3 i)]))] (al1 ⟨rfl,E2 33 (fun i=>pI .u64 (x3 i))⟩ al0))
def I5 (N:Nat)(p_x:Nat->Int):Option (Nat->Int):=
 Q2 N (fun a (x3:Nat->Int) (x4:Int)=>
  if (decide (x4<33)) then
   if (((0:Int)<=x4/\x4<33)/\(0+x4.toNat*1)<33)then
    (Ap N (p_x (0+x4.toNat*1))).bind fun y3=>
    (P0 N y3).bind fun L3=>
    O6 L3 (fun b (x7:Int) (z3:Nat->Int)=>
     if (((((((0:Int)<=x4/\x4<33)/\(0+x4.toNat*1)<33)/\((0:Int)<=x7/\x7<33))/\(0+x7.toNat*1)<33)/\((0:Int)<=x4/\x4<33))/\(0+x4.toNat*1)<33)then
      b (Lh z3 (0+x4.toNat*1) (E5 .or .u64 (z3 (0+x4.toNat*1)) (p_x (0+x7.toNat*1))))
     else none
     ) (fun (z3:Nat->Int)=>
      a z3 (wrap .i64 (x4+1))
     ) x3
   else none
  else
   some x3
  ) (fun _=>0) 0
theorem BQ {N:Nat}{p_x:Nat->Int}{y:Nat->Int}(h:I5 N p_x=some y) :FunO S Aa [.reg 0 0,.reg 0 0] [.arr 33 (fun i=>pI .u64 (p_x i))] (.p (.agg (cA 33 (pI .u64) y))) ([.arr 33 (fun i=>pI .u64 (p_x i))]) [true]:=by
 unfold I5 at h;refine A3 hS Tryz.func234 ?_;refine F9 hS trivial h (fun x3 x4=>⟨[(10,pN x4),(9,.reg 0 0),(5,.reg 6000 0),(4,.reg 5000 0),(3,.reg 4000 0)],[(6000,.arr 33 (fun i=>pI .u64 (x3 i))),(5000,.arr 33 (fun i=>pI .u64 ((fun _=>0) i))),(4000,.cells [.reg 0 0]),(0,.arr 33 (fun i=>pI .u64 (p_x i)))]⟩) (ids:=[(0,0),(4000,4000),(5000,5000),(6000,6000)]) (fun _ _ _ _ _ b x3 x4 d h=>?_) (hle:=klR [(1,.fn 33 33 (fun i=>[(fun i=>(List.replicate 33 (pI .u64 0)).getD i default) i]) (fun i=>[pI .u64 ((fun _=>0) i)])),(2,.fn 33 33 (fun i=>[(fun i=>(List.replicate 33 (pI .u64 0)).getD i default) i]) (fun i=>[pI .u64 ((fun _=>0) i)]))] (al1 ⟨rfl,Br (z:=pI .u64 0) rfl⟩ (al1 ⟨rfl,Br (z:=pI .u64 0) rfl⟩ al0)));refine kI hS h ?_ ?_<;>intro h
 ·refine P3 hS trivial [(2,.l [0]),(3,.l [0]),(4,.a [7000]),(5,.a [7000])] ?_;obtain⟨c12,h⟩:=D3 h;refine I7 c12 ?_;refine H3 hS trivial 16 7000 [pI .i64 x4] ?_;refine kC hS h (Dz hS hL) (fun y3 h=>?_);obtain⟨L3,e6,h⟩:=B7 h;refine Hi hS trivial [18000] [10,9,6,5,4,3] 905 (fun z3=>⟨[(10,pN x4),(9,.reg 0 0),(6,.p (.ptr [pI .i64 x4])),(5,.reg 6000 0),(4,.reg 5000 0),(3,.reg 4000 0)],[(6000,.arr 33 (fun i=>pI .u64 (z3 i))),(5000,.arr 33 (fun i=>pI .u64 ((fun _=>0) i))),(4000,.cells [.reg 0 0]),(0,.arr 33 (fun i=>pI .u64 (p_x i)))]⟩) (idl:=[(0,0),(4000,4000),(5000,5000),(6000,6000)]) h (Ca hS hL e6) (fun _=>by kernel_rfl) (fun _=>by kernel_rfl) (fun _=>by kernel_rfl) (fun _=>by kernel_rfl) (fun x7 _ f z3 g h=>?_) (fun z3 h=>?_)
  ·refine Lg hS trivial ?_;refine P3 hS trivial [(0,.n),(1,.l [6000]),(2,.l [6000]),(3,.l [4000]),(6,.l [0]),(7,.l [0]),(9,.l [6000]),(10,.a [6000])] ?_;obtain⟨c15,h⟩:=D3 h;refine I7 c15 ?_;exact g _ [(0,0),(905,905),(4000,4000),(5000,5000),(6000,6000)] _ (Lh z3 (0+x4.toNat*1) (E5 .or .u64 (z3 (0+x4.toNat*1)) (p_x (0+x7.toNat*1)))) trivial h (hle:=klR [(0,.fn 33 33 (fun i=>[(fun i=>if i=(0+x4.toNat*1)then (pI .u64 (E5 .or .u64 (z3 (0+x4.toNat*1)) (p_x (0+x7.toNat*1))))else (fun i=>pI .u64 (z3 i)) i) i]) (fun i=>[pI .u64 (Lh z3 (0+x4.toNat*1) (E5 .or .u64 (z3 (0+x4.toNat*1)) (p_x (0+x7.toNat*1))) i)]))] (al1 ⟨rfl,AB0 (c:=pI .u64) (v:=z3) (x:=E5 .or .u64 (z3 (0+x4.toNat*1)) (p_x (0+x7.toNat*1))) (fun _ _=>rfl) rfl⟩ al0))
  ·exact d _ [(0,0),(4000,4000),(5000,5000),(6000,6000)] _ z3 (wrap .i64 (x4+1)) trivial h
 ·obtain rfl:=B8 h;exact A9 hS (And.intro rfl (F3 _ _):(0:Nat)=0/\(BW 33 (fun i=>pI .u64 (x3 i))).length=33) ⟨[(4,.reg 5000 0)],[(5000,.arr 33 (fun i=>pI .u64 (x3 i))),(0,.arr 33 (fun i=>pI .u64 (p_x i)))]⟩ [0] (ids:=[(0,0),(5000,5000)]) ⟨rfl,rfl,rfl⟩ (hle:=klR [(0,.fn 33 33 (fun i=>[(fun i=>(cA 33 (pI .u64) x3).getD i default) i]) (fun i=>[pI .u64 (x3 i)]))] (al1 ⟨rfl,E2 33 (fun i=>pI .u64 (x3 i))⟩ al0))
def F1 (N:Nat)(p_x:Nat->Int)(b:Int)(c:Int):Option (Nat->Int):=
 (O3 N c).bind fun y1=>
 Az5 N (fun a (x1:Int) (x2:Nat->Int) (x3:Nat->Int)=>
  if (decide (0<x1)) then
   if ((E5 .and .i64 x1 1)==1) then
    (D9 N x3 x2).bind fun y8=>
    (I5 N x2).bind fun y9=>
    a (shI .shr .i64 x1 1) y9 y8
   else
    (I5 N x2).bind fun d=>
    a (shI .shr .i64 x1 1) d x3
  else
   some x3
  ) b p_x y1
theorem X0 {N:Nat}{p_x:Nat->Int}{b:Int}{c:Int}{y:Nat->Int}(h:F1 N p_x b c=some y) :FunO S BM [.p (.agg (cA 33 (pI .u64) p_x)),pN b,pN c] [] (.p (.agg (cA 33 (pI .u64) y))) ([]) []:=by
 unfold F1 at h;refine A3 hS Tryz.func227 ?_;refine kC hS h (CP hS hL) (fun y1 h=>?_);refine RQ hS (And.intro rfl (F3 _ _):(0:Nat)=0/\(BW 33 (fun i=>pI .u64 (y1 i))).length=33) h (fun x1 x2 x3=>⟨[(7,.reg 8000 0),(6,.reg 7000 0),(3,.reg 4000 0),(1,pN x1)],[(8000,.arr 33 (fun i=>pI .u64 (x3 i))),(7000,.arr 33 (fun i=>pI .u64 ((fun _=>0) i))),(4000,.arr 33 (fun i=>pI .u64 (x2 i)))]⟩) (ids:=[(4000,4000),(7000,7000),(8000,8000)]) (fun _ _ _ _ _ f x1 x2 x3 d h=>?_) (hle:=klR [(1,.fn 33 33 (fun i=>[(fun i=>(cA 33 (pI .u64) y1).getD i default) i]) (fun i=>[pI .u64 (y1 i)])),(2,.fn 33 33 (fun i=>[(fun i=>(List.replicate 33 (pI .u64 0)).getD i default) i]) (fun i=>[pI .u64 ((fun _=>0) i)])),(3,.fn 33 33 (fun i=>[(fun i=>(cA 33 (pI .u64) p_x).getD i default) i]) (fun i=>[pI .u64 (p_x i)]))] (al1 ⟨rfl,E2 33 (fun i=>pI .u64 (y1 i))⟩ (al1 ⟨rfl,Br (z:=pI .u64 0) rfl⟩ (al1 ⟨rfl,E2 33 (fun i=>pI .u64 (p_x i))⟩ al0))));refine kI hS h ?_ ?_<;>intro h
 ·refine kI hS h ?_ ?_<;>intro h
  ·obtain⟨y8,e8,h⟩:=B7 h;refine B9 hS [8000,4000] trivial (R7 hS hL e8) ?_;obtain⟨y9,e9,h⟩:=B7 h;refine B9 hS [4000] (And.intro rfl (F3 _ _):(0:Nat)=0/\(BW 33 (fun i=>pI .u64 (y8 i))).length=33) (BQ hS hL e9) ?_;exact d _ [(4000,4000),(7000,7000),(8000,8000)] _ (shI .shr .i64 x1 1) y9 y8 (And.intro (And.intro rfl (F3 _ _):(0:Nat)=0/\(BW 33 (fun i=>pI .u64 (y9 i))).length=33) (by decide:(0:Int)<=1)) h (hle:=klR [(1,.fn 33 33 (fun i=>[(fun i=>(cA 33 (pI .u64) y8).getD i default) i]) (fun i=>[pI .u64 (y8 i)])),(3,.fn 33 33 (fun i=>[(fun i=>(cA 33 (pI .u64) y9).getD i default) i]) (fun i=>[pI .u64 (y9 i)]))] (al1 ⟨rfl,E2 33 (fun i=>pI .u64 (y8 i))⟩ (al1 ⟨rfl,E2 33 (fun i=>pI .u64 (y9 i))⟩ al0)))
  ·obtain⟨a,e10,h⟩:=B7 h;refine B9 hS [4000] trivial (BQ hS hL e10) ?_;exact d _ [(4000,4000),(7000,7000),(8000,8000)] _ (shI .shr .i64 x1 1) a x3 (And.intro (And.intro rfl (F3 _ _):(0:Nat)=0/\(BW 33 (fun i=>pI .u64 (a i))).length=33) (by decide:(0:Int)<=1)) h (hle:=klR [(3,.fn 33 33 (fun i=>[(fun i=>(cA 33 (pI .u64) a).getD i default) i]) (fun i=>[pI .u64 (a i)]))] (al1 ⟨rfl,E2 33 (fun i=>pI .u64 (a i))⟩ al0))
 ·obtain rfl:=B8 h;exact A9 hS (And.intro rfl (F3 _ _):(0:Nat)=0/\(BW 33 (fun i=>pI .u64 (x3 i))).length=33) ⟨[(6,.reg 7000 0)],[(7000,.arr 33 (fun i=>pI .u64 (x3 i)))]⟩ [] (ids:=[(7000,7000)]) ⟨rfl,rfl,rfl⟩ (hle:=klR [(0,.fn 33 33 (fun i=>[(fun i=>(cA 33 (pI .u64) x3).getD i default) i]) (fun i=>[pI .u64 (x3 i)]))] (al1 ⟨rfl,E2 33 (fun i=>pI .u64 (x3 i))⟩ al0))
end Go.AM
